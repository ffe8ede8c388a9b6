import PyProof.Rows.All
import Wide.All
import OpenK.AllK
import Wide.FinOn
import HandS.ForMost
import HandS.TupAny
import HandS.TupMul
import HandS.Style
import HandS.Zip
import HandS.IsInst
import HandS.Deep
import HandS.Conv
import HandS.SortRule
import HandS.SortInts
import KE.GoesMore
import KE.GoesEnum
import KE.DataMinMax
import PyProof.Rows.SumAny
import KE.DataCmp
import PyProof.Claim2Refuses
import HandS.TryOnly
import HandS.SetFor
import HandS.Strs
import KE.SortData
import PyProof.Rows.SetFrom
import PySem.Challenge.RW_tidewindows_k74_tides_by_hand
set_option Elab.async false
set_option linter.all false
set_option maxRecDepth 100000
set_option maxHeartbeats 4000000
/-! Dl: a judgement without heaps over the hand layer. Values as data (PyData); a store of the objects that change. -/
namespace Dl
open PySem PySem.Spec L2

/-! ### data in the heap -/
def KLst (K : PySem.W.Frag) (a : Addr) (xs : List V) : Prop :=
  ∃ (o : Obj) (its : Array Value) (n : Nat), K.lookup a = some o ∧ o.cls = .type "list" ∧ o.dict = none ∧ o.data = .seq its n ∧ its.size ≤ sizeLine ∧ Vals xs its.toList
/-- N: the addresses of what may change -/
def NdL (N : List Addr) (H : Hp) (a : Addr) (xs : List V) : Prop := a ∉ N ∧ H a = some (.lst xs)
def NdT (N : List Addr) (H : Hp) (a : Addr) (xs : List V) : Prop := a ∉ N ∧ H a = some (.tup xs)
mutual
inductive Dn (K : PySem.W.Frag) (N : List Addr) (H : Hp) : V → PyData → Prop
  | non : Dn K N H .non .none
  | bl (b : Bool) : Dn K N H (.bl b) (.bool b)
  | int (i : Int) : Dn K N H (.int i) (.int i)
  | str (x : Str) : Dn K N H (.str x) (.str x)
  | lst {a : Addr} {xs : List V} {ds : List PyData} : NdL N H a xs → DnL K N H xs ds → Dn K N H (.ref a) (.list ds)
  | tup {a : Addr} {xs : List V} {ds : List PyData} : NdT N H a xs → DnL K N H xs ds → Dn K N H (.ref a) (.tuple ds)
inductive DnL (K : PySem.W.Frag) (N : List Addr) (H : Hp) : List V → List PyData → Prop
  | nil : DnL K N H [] []
  | cons {v : V} {vs : List V} {d : PyData} {ds : List PyData} : Dn K N H v d → DnL K N H vs ds → DnL K N H (v :: vs) (d :: ds)
end
/-- from one heap to a later one: what is known and may not change stays -/
def Tr (N : List Addr) (H : Hp) (N' : List Addr) (H' : Hp) : Prop := ∀ a o, a ∉ N → H a = some o → H' a = some o ∧ a ∉ N'
theorem Tr.refl {N : List Addr} {H : Hp} : Tr N H N H := fun _ _ n h => ⟨h, n⟩
theorem Tr.trans {N N1 N2 : List Addr} {H H1 H2 : Hp} (a : Tr N H N1 H1) (b : Tr N1 H1 N2 H2) : Tr N H N2 H2 := fun x o n h => by
  obtain ⟨h1, n1⟩ := a x o n h
  exact b x o n1 h1
theorem Tr.new {N : List Addr} {H : Hp} {p : Addr} {o : HO} (h : H p = none) : Tr N H N (upd H p o) := fun a u n e => ⟨by
  rw [upd_ne (ne_of_none e h)]
  exact e, n⟩
section
variable {K : PySem.W.Frag} {N N' : List Addr} {H H' : Hp}
theorem NdL.tr {a : Addr} {xs : List V} (t : Tr N H N' H') (h : NdL N H a xs) : NdL N' H' a xs := by
  obtain ⟨h1, n1⟩ := t a _ h.1 h.2
  exact ⟨n1, h1⟩
theorem NdT.tr {a : Addr} {xs : List V} (t : Tr N H N' H') (h : NdT N H a xs) : NdT N' H' a xs := by
  obtain ⟨h1, n1⟩ := t a _ h.1 h.2
  exact ⟨n1, h1⟩
mutual
theorem Dn.tr (t : Tr N H N' H') : ∀ {v : V} {d : PyData}, Dn K N H v d → Dn K N' H' v d
  | _, _, .non => .non
  | _, _, .bl b => .bl b
  | _, _, .int i => .int i
  | _, _, .str x => .str x
  | _, _, .lst n l => .lst (n.tr t) (DnL.tr t l)
  | _, _, .tup n l => .tup (n.tr t) (DnL.tr t l)
theorem DnL.tr (t : Tr N H N' H') : ∀ {vs : List V} {ds : List PyData}, DnL K N H vs ds → DnL K N' H' vs ds
  | _, _, .nil => .nil
  | _, _, .cons a b => .cons (Dn.tr t a) (DnL.tr t b)
end
theorem NdL.sq {a : Addr} {xs : List V} (h : NdL N H a xs) : SqL K H a xs := SqL.of h.2
theorem NdT.sq {a : Addr} {xs : List V} (h : NdT N H a xs) : SqT K H a xs := SqT.of h.2
mutual
theorem Dn.dp : ∀ {v : V} {d : PyData}, Dn K N H v d → Dp K H v d
  | _, _, .non => .non
  | _, _, .bl b => .bl b
  | _, _, .int i => .int i
  | _, _, .str x => .str x
  | _, _, .lst n l => .lst n.sq (DnL.dp l)
  | _, _, .tup n l => .tup n.sq (DnL.dp l)
theorem DnL.dp : ∀ {vs : List V} {ds : List PyData}, DnL K N H vs ds → DpAll K H vs ds
  | _, _, .nil => .nil
  | _, _, .cons a b => .cons (Dn.dp a) (DnL.dp b)
end
theorem DnL.length : ∀ {vs : List V} {ds : List PyData}, DnL K N H vs ds → vs.length = ds.length
  | _, _, .nil => rfl
  | _, _, .cons _ b => by rw [List.length_cons, List.length_cons, DnL.length b]
theorem DnL.get : ∀ {vs : List V} {ds : List PyData} {i : Nat} {v : V}, DnL K N H vs ds → vs[i]? = some v → ∃ d, ds[i]? = some d ∧ Dn K N H v d
  | _, _, _, _, .nil, e => by simp at e
  | _, _, 0, _, .cons a _, e => by
    simp at e
    subst e
    exact ⟨_, rfl, a⟩
  | _, _, i + 1, v, .cons _ b, e => by
    obtain ⟨d, h1, h2⟩ := DnL.get (i := i) (v := v) b (by simpa using e)
    exact ⟨d, by simpa using h1, h2⟩
theorem DnL.getD : ∀ {vs : List V} {ds : List PyData} {i : Nat} {d : PyData}, DnL K N H vs ds → ds[i]? = some d → ∃ v, vs[i]? = some v ∧ Dn K N H v d
  | _, _, _, _, .nil, e => by simp at e
  | _, _, 0, _, .cons a _, e => by
    simp at e
    subst e
    exact ⟨_, rfl, a⟩
  | _, _, i + 1, d, .cons _ b, e => by
    obtain ⟨v, h1, h2⟩ := DnL.getD (i := i) (d := d) b (by simpa using e)
    exact ⟨v, by simpa using h1, h2⟩
theorem DnL.append : ∀ {vs ws : List V} {ds es : List PyData}, DnL K N H vs ds → DnL K N H ws es → DnL K N H (vs ++ ws) (ds ++ es)
  | _, _, _, _, .nil, b => b
  | _, _, _, _, .cons a c, b => .cons a (DnL.append c b)
theorem DnL.take : ∀ {vs : List V} {ds : List PyData} (n : Nat), DnL K N H vs ds → DnL K N H (vs.take n) (ds.take n)
  | _, _, 0, _ => .nil
  | _, _, _ + 1, .nil => .nil
  | _, _, n + 1, .cons a b => .cons a (DnL.take n b)
theorem DnL.drop : ∀ {vs : List V} {ds : List PyData} (n : Nat), DnL K N H vs ds → DnL K N H (vs.drop n) (ds.drop n)
  | _, _, 0, a => a
  | _, _, _ + 1, .nil => .nil
  | _, _, n + 1, .cons _ b => DnL.drop n b
theorem DnL.reverse : ∀ {vs : List V} {ds : List PyData}, DnL K N H vs ds → DnL K N H vs.reverse ds.reverse
  | _, _, .nil => .nil
  | _, _, .cons a b => by
    rw [List.reverse_cons, List.reverse_cons]
    exact (DnL.reverse b).append (.cons a .nil)
theorem DnL.set : ∀ {vs : List V} {ds : List PyData} {v : V} {d : PyData} (i : Nat), DnL K N H vs ds → Dn K N H v d → DnL K N H (vs.set i v) (ds.set i d)
  | _, _, _, _, _, .nil, _ => .nil
  | _, _, _, _, 0, .cons _ b, h => .cons h b
  | _, _, _, _, i + 1, .cons a b, h => .cons a (DnL.set i b h)
theorem DnL.dropLast : ∀ {vs : List V} {ds : List PyData}, DnL K N H vs ds → DnL K N H vs.dropLast ds.dropLast
  | _, _, .nil => .nil
  | _, _, .cons a .nil => .nil
  | _, _, .cons a (.cons b c) => .cons a (DnL.dropLast (.cons b c))
theorem DnL.ints : ∀ {vs : List V} {ns : List Int}, DnL K N H vs (ns.map PyData.int) → vs = ns.map V.int
  | [], [], _ => rfl
  | _ :: _, [], h => nomatch h
  | [], _ :: _, h => nomatch h
  | v :: vs, n :: ns, h => by
    cases h with
    | cons a b =>
      cases a
      rw [DnL.ints b]
      all_goals rfl
theorem DnL.of_ints : ∀ {ns : List Int}, DnL K N H (ns.map V.int) (ns.map PyData.int)
  | [] => .nil
  | n :: ns => .cons (.int n) DnL.of_ints
theorem DnL.bools : ∀ {vs : List V} {bs : List Bool}, DnL K N H vs (bs.map PyData.bool) → vs = bs.map V.bl
  | [], [], _ => rfl
  | _ :: _, [], h => nomatch h
  | [], _ :: _, h => nomatch h
  | v :: vs, n :: ns, h => by
    cases h with
    | cons a b =>
      cases a
      rw [DnL.bools b]
      all_goals rfl
theorem DnL.texts : ∀ {vs : List V} {bs : List Str}, DnL K N H vs (bs.map PyData.str) → vs = bs.map V.str
  | [], [], _ => rfl
  | _ :: _, [], h => nomatch h
  | [], _ :: _, h => nomatch h
  | v :: vs, n :: ns, h => by
    cases h with
    | cons a b =>
      cases a
      rw [DnL.texts b]
      all_goals rfl
end

/-! ### the store: what may change -/
/-- a value: data, or the address of something that changes -/
inductive MV where
  | val (d : PyData) | hdl (a : Addr)
  /-- the script -/
  | scr (ns : List Int)
inductive MO where
  | lst (ds : List PyData) | ins (C dx : Addr) (fs : List (Str × MV))
abbrev Store := List (Addr × MO)
abbrev dom (τ : Store) : List Addr := τ.map (·.1)
def ScrOk (K : PySem.W.Frag) (N : List Addr) (H : Hp) (a : Addr) (ns : List Int) : Prop := (a ∉ N ∧ ∃ o, H a = some (.frz o (.lst (ns.map V.int)))) ∨ KLst K a (ns.map V.int)
def Rv (K : PySem.W.Frag) (N : List Addr) (H : Hp) (v : V) : MV → Prop
  | .val d => Dn K N H v d
  | .hdl a => v = .ref a
  | .scr ns => ∃ a, v = .ref a ∧ ScrOk K N H a ns
abbrev RvL (K : PySem.W.Frag) (N : List Addr) (H : Hp) : List V → List MV → Prop := Paired (Rv K N H)
def MOk (K : PySem.W.Frag) (N : List Addr) (H : Hp) (a : Addr) : MO → Prop
  | .lst ds => ∃ vs, H a = some (.lst vs) ∧ DnL K N H vs ds
  | .ins C dx fs => ∃ vs, H a = some (.ins C dx vs) ∧ Paired (fun (p : Str × V) (q : Str × MV) => p.1 = q.1 ∧ Rv K N H p.2 q.2) vs fs
structure StOk (K : PySem.W.Frag) (H : Hp) (τ : Store) : Prop where
  nd : (dom τ).Nodup
  ok : ∀ p ∈ τ, MOk K (dom τ) H p.1 p.2
abbrev En := List (Option MV)
structure SlOk (K : PySem.W.Frag) (N : List Addr) (H : Hp) (σ : St) (ρ : En) : Prop where
  len : σ.length = ρ.length
  ok : ∀ (i : Nat) (sv : MV), ρ[i]? = some (some sv) → ∃ v, σ[i]? = some (some v) ∧ Rv K N H v sv
section
variable {K : PySem.W.Frag} {N N' : List Addr} {H H' : Hp}
theorem Rv.tr (t : Tr N H N' H') {v : V} {sv : MV} (h : Rv K N H v sv) : Rv K N' H' v sv := by
  cases sv with
  | val d => exact Dn.tr t h
  | hdl a => exact h
  | scr ns =>
    obtain ⟨a, e, h⟩ := h
    refine ⟨a, e, ?_⟩
    rcases h with ⟨n, o, h⟩ | h
    · obtain ⟨h1, n1⟩ := t a _ n h
      exact .inl ⟨n1, o, h1⟩
    · exact .inr h
theorem ScrOk.sq {a : Addr} {ns : List Int} (h : ScrOk K N H a ns) : SqL K H a (ns.map V.int) := by
  rcases h with ⟨_, o, h⟩ | h
  · exact .inl (.inr ⟨o, h⟩)
  · exact .inr h
theorem RvL.tr (t : Tr N H N' H') {vs : List V} {svs : List MV} (h : RvL K N H vs svs) : RvL K N' H' vs svs := Paired.mapP h fun _ _ q => Rv.tr t q
theorem SlOk.tr (t : Tr N H N' H') {σ : St} {ρ : En} (h : SlOk K N H σ ρ) : SlOk K N' H' σ ρ := ⟨h.len, fun i sv e => by
  obtain ⟨v, h1, h2⟩ := h.ok i sv e
  exact ⟨v, h1, h2.tr t⟩⟩
theorem SlOk.set {σ : St} {ρ : En} {v : V} {sv : MV} (h : SlOk K N H σ ρ) (r : Rv K N H v sv) (i : Nat) : SlOk K N H (σ.set i (some v)) (ρ.set i (some sv)) := by
  refine ⟨by rw [List.length_set, List.length_set, h.len], fun j sv' e => ?_⟩
  by_cases hj : i = j
  · subst hj
    by_cases hl : i < ρ.length
    · rw [List.getElem?_set_self hl] at e
      cases e
      exact ⟨v, List.getElem?_set_self (by rw [h.len]; exact hl), r⟩
    · rw [List.getElem?_eq_none (by rw [List.length_set]; omega)] at e
      cases e
  · rw [List.getElem?_set_ne hj] at e
    obtain ⟨v', h1, h2⟩ := h.ok j sv' e
    exact ⟨v', by rw [List.getElem?_set_ne hj]; exact h1, h2⟩
theorem SlOk.set_none {σ : St} {ρ : En} (h : SlOk K N H σ ρ) (i : Nat) : SlOk K N H (σ.set i none) (ρ.set i none) := by
  refine ⟨by rw [List.length_set, List.length_set, h.len], fun j sv' e => ?_⟩
  by_cases hj : i = j
  · subst hj
    by_cases hl : i < ρ.length
    · rw [List.getElem?_set_self hl] at e
      cases e
    · rw [List.getElem?_eq_none (by rw [List.length_set]; omega)] at e
      cases e
  · rw [List.getElem?_set_ne hj] at e
    obtain ⟨v', h1, h2⟩ := h.ok j sv' e
    exact ⟨v', by rw [List.getElem?_set_ne hj]; exact h1, h2⟩
def wipeE (ρ : En) : List Nat → En
  | [] => ρ
  | v :: vs => (wipeE ρ vs).set v none
theorem SlOk.wipe {σ : St} {ρ : En} (h : SlOk K N H σ ρ) : ∀ vs : List Nat, SlOk K N H (L2.wipe σ vs) (wipeE ρ vs)
  | [] => h
  | _ :: vs => (SlOk.wipe h vs).set_none _
theorem MOk.ex {a : Addr} {mo : MO} (h : MOk K N H a mo) : ∃ o, H a = some o := by
  cases mo with
  | lst ds =>
    obtain ⟨vs, h, _⟩ := h
    exact ⟨_, h⟩
  | ins C dx fs =>
    obtain ⟨vs, h, _⟩ := h
    exact ⟨_, h⟩
theorem StOk.ex {τ : Store} (h : StOk K H τ) {a : Addr} (ha : a ∈ dom τ) : ∃ o, H a = some o := by
  obtain ⟨p, hp, rfl⟩ := List.mem_map.mp ha
  exact (h.ok p hp).ex
theorem StOk.fresh {τ : Store} (h : StOk K H τ) {a : Addr} (ha : H a = none) : a ∉ dom τ := fun q => by
  obtain ⟨o, e⟩ := h.ex q
  rw [ha] at e
  cases e
theorem mem_of_lookup {τ : Store} {a : Addr} {mo : MO} : τ.lookup a = some mo → (a, mo) ∈ τ := by
  induction τ with
  | nil => intro h; simp at h
  | cons p r ih =>
    intro h
    obtain ⟨b, m⟩ := p
    rw [List.lookup_cons] at h
    by_cases e : a = b
    · subst e
      simp at h
      subst h
      exact List.mem_cons_self
    · rw [show (a == b) = false from beq_eq_false_iff_ne.mpr e] at h
      exact List.mem_cons_of_mem _ (ih h)
theorem StOk.get {τ : Store} (h : StOk K H τ) {a : Addr} {mo : MO} (e : τ.lookup a = some mo) : MOk K (dom τ) H a mo := h.ok _ (mem_of_lookup e)
theorem MOk.tr' {a : Addr} {mo : MO} (h : MOk K N H a mo) (ha : H' a = H a) (t : Tr N H N' H') : MOk K N' H' a mo := by
  cases mo with
  | lst ds =>
    obtain ⟨vs, h1, h2⟩ := h
    exact ⟨vs, by rw [ha]; exact h1, h2.tr t⟩
  | ins C dx fs =>
    obtain ⟨vs, h1, h2⟩ := h
    exact ⟨vs, by rw [ha]; exact h1, Paired.mapP h2 fun _ _ q => ⟨q.1, q.2.tr t⟩⟩
/-- a new object that is data: the store stays -/
theorem StOk.new {τ : Store} (h : StOk K H τ) {p : Addr} {o : HO} (hp : H p = none) : StOk K (upd H p o) τ := by
  refine ⟨h.nd, fun q hq => (h.ok q hq).tr' (upd_ne fun e => ?_) (Tr.new hp)⟩
  obtain ⟨u, hu⟩ := (h.ok q hq).ex
  rw [e, hp] at hu
  cases hu
/-- replace -/
def setS (a : Addr) (mo : MO) : Store → Store
  | [] => []
  | (b, m) :: r => if b = a then (b, mo) :: r else (b, m) :: setS a mo r
theorem dom_setS (a : Addr) (mo : MO) : ∀ τ : Store, dom (setS a mo τ) = dom τ
  | [] => rfl
  | (b, m) :: r => by
    unfold setS
    split
    · rfl
    · show b :: dom (setS a mo r) = b :: dom r
      rw [dom_setS a mo r]
theorem mem_setS {a : Addr} {mo : MO} : ∀ {τ : Store} {p : Addr × MO}, (dom τ).Nodup → p ∈ setS a mo τ → (p = (a, mo)) ∨ (p ∈ τ ∧ p.1 ≠ a)
  | [], p, _, h => by cases h
  | (b, m) :: r, p, nd, h => by
    unfold setS at h
    have hb : b ∉ dom r := (List.nodup_cons.mp nd).1
    split at h
    · rename_i e
      subst e
      rcases List.mem_cons.mp h with h | h
      · exact .inl h
      · refine .inr ⟨List.mem_cons_of_mem _ h, fun e => hb ?_⟩
        rw [← e]
        exact List.mem_map_of_mem h
    · rename_i e
      rcases List.mem_cons.mp h with h | h
      · subst h
        exact .inr ⟨List.mem_cons_self, e⟩
      · rcases mem_setS (List.nodup_cons.mp nd).2 h with q | ⟨q, q2⟩
        · exact .inl q
        · exact .inr ⟨List.mem_cons_of_mem _ q, q2⟩
theorem Tr.write {τ : Store} {a : Addr} {o : HO} (ha : a ∈ dom τ) : Tr (dom τ) H (dom τ) (upd H a o) := fun b u n e => ⟨by
  rw [upd_ne fun q => n (by rw [q]; exact ha)]
  exact e, n⟩
theorem StOk.write {τ : Store} (h : StOk K H τ) {a : Addr} {o : HO} {mo : MO} (ha : a ∈ dom τ) (new : MOk K (dom τ) (upd H a o) a mo) : StOk K (upd H a o) (setS a mo τ) := by
  refine ⟨by rw [dom_setS]; exact h.nd, fun q hq => ?_⟩
  rw [dom_setS]
  rcases mem_setS h.nd hq with rfl | ⟨h1, h2⟩
  · exact new
  · exact (h.ok q h1).tr' (upd_ne h2) (Tr.write ha)
/-- a new object goes onto the store -/
theorem Tr.push {τ : Store} {p : Addr} {o : HO} {mo : MO} (hp : H p = none) : Tr (dom τ) H (dom ((p, mo) :: τ)) (upd H p o) := fun a u n e => by
  have na : a ≠ p := ne_of_none e hp
  refine ⟨by rw [upd_ne na]; exact e, fun q => ?_⟩
  rcases List.mem_cons.mp q with q | q
  · exact na q
  · exact n q
theorem StOk.push {τ : Store} (h : StOk K H τ) {p : Addr} {o : HO} {mo : MO} (hp : H p = none) (new : MOk K (dom ((p, mo) :: τ)) (upd H p o) p mo) : StOk K (upd H p o) ((p, mo) :: τ) := by
  refine ⟨List.nodup_cons.mpr ⟨h.fresh hp, h.nd⟩, fun q hq => ?_⟩
  rcases List.mem_cons.mp hq with rfl | hq
  · exact new
  · refine (h.ok q hq).tr' (upd_ne fun e => ?_) (Tr.push hp)
    obtain ⟨u, hu⟩ := (h.ok q hq).ex
    rw [e, hp] at hu
    cases hu
/-- an object leaves the store: from now on it is data -/
theorem Tr.drop {τ : Store} {p : Addr × MO} : Tr (dom (p :: τ)) H (dom τ) H := fun _ _ n e => ⟨e, fun q => n (List.mem_cons_of_mem _ q)⟩
theorem StOk.drop {τ : Store} {p : Addr × MO} (h : StOk K H (p :: τ)) : StOk K H τ :=
  ⟨(List.nodup_cons.mp h.nd).2, fun q hq => (h.ok q (List.mem_cons_of_mem _ hq)).tr' rfl Tr.drop⟩
end

/-! ### readings that say all: what the machine does -/
section
variable (X : Cx)
def We (e : Expr) : TE := fun σ H Q => ∀ (pins : List (Addr × Obj)) (s : Shared), Inv X pins σ H s → wpAny (model X.prog X.w) X.A (eval e X.env) (EP X pins σ Q) X.xe s
def Wt (e : Expr) : TT := fun σ H Q => ∀ (pins : List (Addr × Obj)) (s : Shared), Inv X pins σ H s → wpAny (model X.prog X.w) X.A (isTrue e X.env (eval e X.env)) (TP X pins σ Q) X.xe s
def Ww (e : Expr) : TT := fun σ H Q => ∀ (wh : Sem Value) (pins : List (Addr × Obj)) (s : Shared), Inv X pins σ H s → wpAny (model X.prog X.w) X.A (isTrue e X.env wh) (TP X pins σ Q) X.xe s
def Wa (es : List Expr) : TA := fun σ H Q => ∀ (pos : Pos) (pins : List (Addr × Obj)) (s : Shared), Inv X pins σ H s → wpAny (model X.prog X.w) X.A (spliced (backTo pos (starEach es X.env))) (AP X pins σ Q) X.xe s
def Ws (st : Stmt) : TS := fun D σ H => ∀ (pins : List (Addr × Obj)) (s : Shared), Inv X pins σ H s → wpAny (model X.prog X.w) X.A (exec st X.env) (SP X pins D) X.xe s
def Wb (st : List Stmt) : TS := fun D σ H => ∀ (pins : List (Addr × Obj)) (s : Shared), Inv X pins σ H s → wpAny (model X.prog X.w) X.A (execs st X.env) (SP X pins D) X.xe s
def Wi (tg iter : Expr) : TI := fun σ H R => ∀ (pins : List (Addr × Obj)) (s : Shared), Inv X pins σ H s →
    wpAny (model X.prog X.w) X.A (eval iter X.env) (fun v s1 => wpAny (model X.prog X.w) X.A (pyIter v) (PIE X pins σ tg R) X.xe s1) X.xe s
def Wf (ifs : List Expr) : TT := fun σ H Q => ∀ (pins : List (Addr × Obj)) (s : Shared), Inv X pins σ H s →
    wpAny (model X.prog X.w) X.A (forIn ifs true fun c r => if r = true then do let ok ← isTrue c X.env (eval c X.env); pure (ForInStep.yield ok) else pure (ForInStep.yield r)) (TP X pins σ Q) X.xe s
end
section
variable {X : Cx} {σ : St} {H : Hp}
theorem pe_we {e : Expr} : PE X e (We X e) := ⟨fun pins s _ _ _ I h => h pins s I⟩
theorem we_of {e : Expr} {t : TE} {Q : VK} (h : PE X e t) (q : t σ H Q) : We X e σ H Q := fun pins s I => h.run pins s σ H Q I q
theorem pt_wt {e : Expr} : PT X e (Wt X e) := ⟨fun pins s _ _ _ I h => h pins s I⟩
theorem wt_of {e : Expr} {t : TT} {Q : Bool → Hp → Prop} (h : PT X e t) (q : t σ H Q) : Wt X e σ H Q := fun pins s I => h.run pins s σ H Q I q
theorem pw_ww {e : Expr} : PW X e (Ww X e) := ⟨fun wh pins s _ _ _ I h => h wh pins s I⟩
theorem ww_of {e : Expr} {t : TT} {Q : Bool → Hp → Prop} (h : PW X e t) (q : t σ H Q) : Ww X e σ H Q := fun wh pins s I => h.run wh pins s σ H Q I q
theorem pa_wa {es : List Expr} : PA X es (Wa X es) := ⟨fun pos pins s _ _ _ I h => h pos pins s I⟩
theorem wa_of {es : List Expr} {t : TA} {Q : List V → Hp → Prop} (h : PA X es t) (q : t σ H Q) : Wa X es σ H Q := fun pos pins s I => h.run pos pins s σ H Q I q
theorem ps_ws {st : Stmt} : PS X st (Ws X st) := ⟨fun pins s _ _ _ I h => h pins s I⟩
theorem ws_of {st : Stmt} {t : TS} {D : Ends} (h : PS X st t) (q : t D σ H) : Ws X st D σ H := fun pins s I => h.run pins s σ H D I q
theorem pss_wb {st : List Stmt} : PSs X st (Wb X st) := ⟨fun pins s _ _ _ I h => h pins s I⟩
theorem wb_of {st : List Stmt} {t : TS} {D : Ends} (h : PSs X st t) (q : t D σ H) : Wb X st D σ H := fun pins s I => h.run pins s σ H D I q
theorem pi_wi {tg iter : Expr} : PI X tg iter (Wi X tg iter) := ⟨fun pins s _ _ _ I h => h pins s I⟩
theorem wi_of {tg iter : Expr} {t : TI} {R : It → Hp → Prop} (h : PI X tg iter t) (q : t σ H R) : Wi X tg iter σ H R := fun pins s I => h.run pins s σ H R I q
theorem pts_wf {ifs : List Expr} : PTs X ifs (Wf X ifs) := ⟨fun pins s _ _ _ I h => h pins s I⟩
theorem wf_of {ifs : List Expr} {t : TT} {Q : Bool → Hp → Prop} (h : PTs X ifs t) (q : t σ H Q) : Wf X ifs σ H Q := fun pins s I => h.run pins s σ H Q I q
end

/-! ### what is wanted behind: over data and store -/
/-- behind a value -/
def Pst (K : PySem.W.Frag) (τ : Store) (H : Hp) (Q : MV → Store → Prop) (QQ : VK) : Prop :=
  ∀ v H' sv τ', Q sv τ' → StOk K H' τ' → Rv K (dom τ') H' v sv → Tr (dom τ) H (dom τ') H' → QQ v H'
def PstB (K : PySem.W.Frag) (τ : Store) (H : Hp) (Q : Bool → Store → Prop) (QQ : Bool → Hp → Prop) : Prop :=
  ∀ b H' τ', Q b τ' → StOk K H' τ' → Tr (dom τ) H (dom τ') H' → QQ b H'
def PstA (K : PySem.W.Frag) (τ : Store) (H : Hp) (Q : List MV → Store → Prop) (QQ : List V → Hp → Prop) : Prop :=
  ∀ vs H' svs τ', Q svs τ' → StOk K H' τ' → RvL K (dom τ') H' vs svs → Tr (dom τ) H (dom τ') H' → QQ vs H'
structure DE where
  nx : En → Store → Prop
  rt : MV → Store → Prop
  bk : En → Store → Prop := fun _ _ => False
  ct : En → Store → Prop := fun _ _ => False
def PstN (K : PySem.W.Frag) (τ : Store) (H : Hp) (Q : En → Store → Prop) (QQ : St → Hp → Prop) : Prop :=
  ∀ σ' H' ρ' τ', Q ρ' τ' → StOk K H' τ' → SlOk K (dom τ') H' σ' ρ' → Tr (dom τ) H (dom τ') H' → QQ σ' H'
structure PstD (K : PySem.W.Frag) (τ : Store) (H : Hp) (D : DE) (DD : Ends) : Prop where
  nx : PstN K τ H D.nx DD.nx
  rt : Pst K τ H D.rt DD.rt
  bk : PstN K τ H D.bk DD.bk
  ct : PstN K τ H D.ct DD.ct
section
variable {K : PySem.W.Frag} {τ τ1 : Store} {H H1 : Hp}
theorem Pst.step {Q : MV → Store → Prop} {QQ : VK} (h : Pst K τ H Q QQ) (t : Tr (dom τ) H (dom τ1) H1) : Pst K τ1 H1 Q QQ := fun v H' sv τ' q o r t' => h v H' sv τ' q o r (t.trans t')
theorem PstB.step {Q : Bool → Store → Prop} {QQ : Bool → Hp → Prop} (h : PstB K τ H Q QQ) (t : Tr (dom τ) H (dom τ1) H1) : PstB K τ1 H1 Q QQ := fun b H' τ' q o t' => h b H' τ' q o (t.trans t')
theorem PstA.step {Q : List MV → Store → Prop} {QQ : List V → Hp → Prop} (h : PstA K τ H Q QQ) (t : Tr (dom τ) H (dom τ1) H1) : PstA K τ1 H1 Q QQ := fun v H' sv τ' q o r t' => h v H' sv τ' q o r (t.trans t')
theorem PstN.step {Q : En → Store → Prop} {QQ : St → Hp → Prop} (h : PstN K τ H Q QQ) (t : Tr (dom τ) H (dom τ1) H1) : PstN K τ1 H1 Q QQ := fun v H' sv τ' q o r t' => h v H' sv τ' q o r (t.trans t')
theorem PstD.step {D : DE} {DD : Ends} (h : PstD K τ H D DD) (t : Tr (dom τ) H (dom τ1) H1) : PstD K τ1 H1 D DD := ⟨h.nx.step t, h.rt.step t, h.bk.step t, h.ct.step t⟩
end

/-! ### the judgements -/
section
variable (X : Cx) (ρ : En) (τ : Store)
structure De (e : Expr) (Q : MV → Store → Prop) : Prop where
  run : ∀ (σ : St) (H : Hp), StOk X.K H τ → SlOk X.K (dom τ) H σ ρ → ∀ QQ : VK, Pst X.K τ H Q QQ → We X e σ H QQ
structure Dt (e : Expr) (Q : Bool → Store → Prop) : Prop where
  run : ∀ (σ : St) (H : Hp), StOk X.K H τ → SlOk X.K (dom τ) H σ ρ → ∀ QQ : Bool → Hp → Prop, PstB X.K τ H Q QQ → Wt X e σ H QQ
structure Dw (e : Expr) (Q : Bool → Store → Prop) : Prop where
  run : ∀ (σ : St) (H : Hp), StOk X.K H τ → SlOk X.K (dom τ) H σ ρ → ∀ QQ : Bool → Hp → Prop, PstB X.K τ H Q QQ → Ww X e σ H QQ
structure Df (ifs : List Expr) (Q : Bool → Store → Prop) : Prop where
  run : ∀ (σ : St) (H : Hp), StOk X.K H τ → SlOk X.K (dom τ) H σ ρ → ∀ QQ : Bool → Hp → Prop, PstB X.K τ H Q QQ → Wf X ifs σ H QQ
structure Da (es : List Expr) (Q : List MV → Store → Prop) : Prop where
  run : ∀ (σ : St) (H : Hp), StOk X.K H τ → SlOk X.K (dom τ) H σ ρ → ∀ QQ : List V → Hp → Prop, PstA X.K τ H Q QQ → Wa X es σ H QQ
structure Ds (st : Stmt) (D : DE) : Prop where
  run : ∀ (σ : St) (H : Hp), StOk X.K H τ → SlOk X.K (dom τ) H σ ρ → ∀ DD : Ends, PstD X.K τ H D DD → Ws X st DD σ H
structure Db (st : List Stmt) (D : DE) : Prop where
  run : ∀ (σ : St) (H : Hp), StOk X.K H τ → SlOk X.K (dom τ) H σ ρ → ∀ DD : Ends, PstD X.K τ H D DD → Wb X st DD σ H
end
/-- an operation on two values, a call on values -/
structure OpD (K : PySem.W.Frag) (r : R2) (x y : MV) (τ : Store) (Q : MV → Store → Prop) : Prop where
  run : ∀ (H : Hp) (v u : V), StOk K H τ → Rv K (dom τ) H v x → Rv K (dom τ) H u y → ∀ QQ : VK, Pst K τ H Q QQ → r v u H QQ
structure CaD (K : PySem.W.Frag) (r : List V → Hp → VK → Prop) (xs : List MV) (τ : Store) (Q : MV → Store → Prop) : Prop where
  run : ∀ (H : Hp) (vs : List V), StOk K H τ → RvL K (dom τ) H vs xs → ∀ QQ : VK, Pst K τ H Q QQ → r vs H QQ
instance {X : Cx} {ρ : En} {τ : Store} {e : Expr} {Q : MV → Store → Prop} : CoeFun (De X ρ τ e Q) fun _ => ∀ (σ : St) (H : Hp), StOk X.K H τ → SlOk X.K (dom τ) H σ ρ → ∀ QQ : VK, Pst X.K τ H Q QQ → We X e σ H QQ := ⟨fun h => h.run⟩
instance {X : Cx} {ρ : En} {τ : Store} {e : Expr} {Q : Bool → Store → Prop} : CoeFun (Dt X ρ τ e Q) fun _ => ∀ (σ : St) (H : Hp), StOk X.K H τ → SlOk X.K (dom τ) H σ ρ → ∀ QQ : Bool → Hp → Prop, PstB X.K τ H Q QQ → Wt X e σ H QQ := ⟨fun h => h.run⟩
instance {X : Cx} {ρ : En} {τ : Store} {e : Expr} {Q : Bool → Store → Prop} : CoeFun (Dw X ρ τ e Q) fun _ => ∀ (σ : St) (H : Hp), StOk X.K H τ → SlOk X.K (dom τ) H σ ρ → ∀ QQ : Bool → Hp → Prop, PstB X.K τ H Q QQ → Ww X e σ H QQ := ⟨fun h => h.run⟩
instance {X : Cx} {ρ : En} {τ : Store} {ifs : List Expr} {Q : Bool → Store → Prop} : CoeFun (Df X ρ τ ifs Q) fun _ => ∀ (σ : St) (H : Hp), StOk X.K H τ → SlOk X.K (dom τ) H σ ρ → ∀ QQ : Bool → Hp → Prop, PstB X.K τ H Q QQ → Wf X ifs σ H QQ := ⟨fun h => h.run⟩
instance {X : Cx} {ρ : En} {τ : Store} {es : List Expr} {Q : List MV → Store → Prop} : CoeFun (Da X ρ τ es Q) fun _ => ∀ (σ : St) (H : Hp), StOk X.K H τ → SlOk X.K (dom τ) H σ ρ → ∀ QQ : List V → Hp → Prop, PstA X.K τ H Q QQ → Wa X es σ H QQ := ⟨fun h => h.run⟩
instance {X : Cx} {ρ : En} {τ : Store} {st : Stmt} {D : DE} : CoeFun (Ds X ρ τ st D) fun _ => ∀ (σ : St) (H : Hp), StOk X.K H τ → SlOk X.K (dom τ) H σ ρ → ∀ DD : Ends, PstD X.K τ H D DD → Ws X st DD σ H := ⟨fun h => h.run⟩
instance {X : Cx} {ρ : En} {τ : Store} {st : List Stmt} {D : DE} : CoeFun (Db X ρ τ st D) fun _ => ∀ (σ : St) (H : Hp), StOk X.K H τ → SlOk X.K (dom τ) H σ ρ → ∀ DD : Ends, PstD X.K τ H D DD → Wb X st DD σ H := ⟨fun h => h.run⟩
instance {K : PySem.W.Frag} {r : R2} {x y : MV} {τ : Store} {Q : MV → Store → Prop} : CoeFun (OpD K r x y τ Q) fun _ => ∀ (H : Hp) (v u : V), StOk K H τ → Rv K (dom τ) H v x → Rv K (dom τ) H u y → ∀ QQ : VK, Pst K τ H Q QQ → r v u H QQ := ⟨fun h => h.run⟩
instance {K : PySem.W.Frag} {r : List V → Hp → VK → Prop} {xs : List MV} {τ : Store} {Q : MV → Store → Prop} : CoeFun (CaD K r xs τ Q) fun _ => ∀ (H : Hp) (vs : List V), StOk K H τ → RvL K (dom τ) H vs xs → ∀ QQ : VK, Pst K τ H Q QQ → r vs H QQ := ⟨fun h => h.run⟩
section
variable {X : Cx} {ρ : En} {τ : Store}
theorem De.mono {e : Expr} {Q Q' : MV → Store → Prop} (h : De X ρ τ e Q) (q : ∀ sv τ', Q sv τ' → Q' sv τ') : De X ρ τ e Q' := .mk fun σ H o l QQ p => h σ H o l QQ fun v H' sv τ' h1 => p v H' sv τ' (q _ _ h1)
theorem Dt.mono {e : Expr} {Q Q' : Bool → Store → Prop} (h : Dt X ρ τ e Q) (q : ∀ b τ', Q b τ' → Q' b τ') : Dt X ρ τ e Q' := .mk fun σ H o l QQ p => h σ H o l QQ fun v H' τ' h1 => p v H' τ' (q _ _ h1)
theorem Df.mono {e : List Expr} {Q Q' : Bool → Store → Prop} (h : Df X ρ τ e Q) (q : ∀ b τ', Q b τ' → Q' b τ') : Df X ρ τ e Q' := .mk fun σ H o l QQ p => h σ H o l QQ fun v H' τ' h1 => p v H' τ' (q _ _ h1)
theorem Da.mono {e : List Expr} {Q Q' : List MV → Store → Prop} (h : Da X ρ τ e Q) (q : ∀ b τ', Q b τ' → Q' b τ') : Da X ρ τ e Q' := .mk fun σ H o l QQ p => h σ H o l QQ fun v H' sv τ' h1 => p v H' sv τ' (q _ _ h1)
end

/-! ### names and constants -/
section
variable {X : Cx} {ρ : En} {τ : Store} {Q : MV → Store → Prop} {pos : Pos}
theorem de_name {x : Str} (i : Nat) {sv : MV} (hN : X.N[i]? = some x) (hv : Vis X.env.scope x) (e : ρ[i]? = some (some sv)) (q : Q sv τ) (hd : (x == ("__debug__" : Str)) = false := by decide) (hcd : (x == ("__classdict__" : Str)) = false := by decide) : De X ρ τ (.Name x pos) Q := .mk fun σ H o l QQ p => by
  obtain ⟨v, h1, h2⟩ := l.ok i sv e
  exact we_of (pe_var hN hv hd hcd) ⟨v, h1, p v H sv τ q o h2 Tr.refl⟩
theorem de_int {i : Int} {j} (q : Q (.val (.int i)) τ) : De X ρ τ (.Constant (.int i) j pos) Q := .mk fun σ H o l QQ p => we_of pe_int (p _ H _ τ q o (Dn.int i) Tr.refl)
theorem de_bool {b : Bool} {j} (q : Q (.val (.bool b)) τ) : De X ρ τ (.Constant (.bool b) j pos) Q := .mk fun σ H o l QQ p => we_of pe_bl (p _ H _ τ q o (Dn.bl b) Tr.refl)
theorem de_none {j} (q : Q (.val .none) τ) : De X ρ τ (.Constant .none j pos) Q := .mk fun σ H o l QQ p => we_of pe_non (p _ H _ τ q o Dn.non Tr.refl)
theorem de_str {x : Str} {j} (q : Q (.val (.str x)) τ) : De X ρ τ (.Constant (.str x) j pos) Q := .mk fun σ H o l QQ p => we_of pe_str (p _ H _ τ q o (Dn.str x) Tr.refl)
/-! ### operators -/
variable {a b c : Expr}
theorem de_op {op : Operator} {r : R2} (ho : OpR X (binaryOp op) r) (h : De X ρ τ a fun x τ1 => De X ρ τ1 b fun y τ2 => OpD X.K r x y τ2 Q) : De X ρ τ (.BinOp a op b pos) Q := .mk fun σ H o l QQ p => by
  refine we_of (pe_op ho pe_we pe_we) (h σ H o l _ fun v H1 x τ1 h1 o1 r1 t1 => ?_)
  exact h1 σ H1 o1 (l.tr t1) _ fun u H2 y τ2 h2 o2 r2 t2 => h2 H2 v u o2 (r1.tr t2) r2 QQ ((p.step t1).step t2)
theorem de_cmp {op : CmpOp} {r : R2} (ho : OpR X (compareOp op) r) (h : De X ρ τ a fun x τ1 => De X ρ τ1 b fun y τ2 => OpD X.K r x y τ2 Q) (hm : behindInMarks op b = false := by rfl) : De X ρ τ (.Compare a [op] [b] pos) Q := .mk fun σ H o l QQ p => by
  refine we_of (pe_cmpR ho pe_we pe_we hm) (h σ H o l _ fun v H1 x τ1 h1 o1 r1 t1 => ?_)
  exact h1 σ H1 o1 (l.tr t1) _ fun u H2 y τ2 h2 o2 r2 t2 => h2 H2 v u o2 (r1.tr t2) r2 QQ ((p.step t1).step t2)
theorem de_chain {op op' : CmpOp} {r r' : R2} (ho : OpR X (compareOp op) r) (ho' : OpR X (compareOp op') r')
    (h : De X ρ τ a fun x τ1 => De X ρ τ1 b fun y τ2 => OpD X.K r x y τ2 fun z τ3 => ∃ k, z = .val (.bool k) ∧ if k = true then De X ρ τ3 c fun u τ4 => OpD X.K r' y u τ4 Q else Q (.val (.bool false)) τ3)
    (hm : lastMarks [op, op'] [b, c] = false := by with_unfolding_all rfl) : De X ρ τ (.Compare a [op, op'] [b, c] pos) Q := .mk fun σ H o l QQ p => by
  refine we_of (pe_chain ho ho' pe_we pe_we pe_we hm) (h σ H o l _ fun v H1 x τ1 h1 o1 r1 t1 => ?_)
  refine h1 σ H1 o1 (l.tr t1) _ fun u H2 y τ2 h2 o2 r2 t2 => ?_
  refine h2 H2 v u o2 (r1.tr t2) r2 _ fun z H3 sz τ3 h3 o3 r3 t3 => ?_
  obtain ⟨k, rfl, h3⟩ := h3
  cases r3
  refine ⟨k, rfl, ?_⟩
  cases k with
  | true =>
    rw [if_pos rfl] at h3 ⊢
    exact h3 σ H3 o3 (((l.tr t1).tr t2).tr t3) _ fun w H4 x4 τ4 h4 o4 r4 t4 => h4 H4 u w o4 ((r2.tr t3).tr t4) r4 QQ ((((p.step t1).step t2).step t3).step t4)
  | false =>
    rw [if_neg Bool.false_ne_true] at h3 ⊢
    exact p _ H3 _ τ3 h3 o3 (Dn.bl false) ((t1.trans t2).trans t3)
end
end Dl

namespace Dl
open PySem PySem.Spec L2

/-! ### what a value bears as data -/
def datOf (τ : Store) : MV → Option PyData
  | .val d => some d
  | .scr ns => some (.list (ns.map .int))
  | .hdl a => match τ.lookup a with
    | some (.lst ds) => some (.list ds)
    | _ => none
section
variable {K : PySem.W.Frag} {H : Hp} {τ : Store} {v : V} {sv : MV}
theorem hdl_dat {a : Addr} {d : PyData} (e : datOf τ (.hdl a) = some d) : ∃ ds, τ.lookup a = some (.lst ds) ∧ d = .list ds := by
  unfold datOf at e
  simp only at e
  cases h : τ.lookup a with
  | none => rw [h] at e; cases e
  | some mo =>
    rw [h] at e
    cases mo with
    | lst ds => exact ⟨ds, rfl, (Option.some.inj e).symm⟩
    | ins C dx fs => cases e
theorem Rv.dp {d : PyData} (o : StOk K H τ) (r : Rv K (dom τ) H v sv) (e : datOf τ sv = some d) : Dp K H v d := by
  cases sv with
  | val d' =>
    cases e
    exact Dn.dp r
  | scr ns =>
    cases e
    obtain ⟨a, rfl, h⟩ := r
    exact .lst h.sq (DnL.dp (DnL.of_ints (N := dom τ)))
  | hdl a =>
    obtain ⟨ds, h1, rfl⟩ := hdl_dat e
    obtain ⟨vs, h2, h3⟩ := o.get h1
    cases r
    exact .lst (SqL.of h2) h3.dp
theorem Rv.seqL {ds : List PyData} (o : StOk K H τ) (r : Rv K (dom τ) H v sv) (e : datOf τ sv = some (.list ds)) : ∃ a vs, v = .ref a ∧ SqL K H a vs ∧ DnL K (dom τ) H vs ds := by
  cases sv with
  | val d' =>
    cases e
    cases r with
    | lst n l => exact ⟨_, _, rfl, n.sq, l⟩
  | scr ns =>
    cases e
    obtain ⟨a, rfl, h⟩ := r
    exact ⟨a, _, rfl, h.sq, DnL.of_ints⟩
  | hdl a =>
    obtain ⟨ds', h1, e2⟩ := hdl_dat e
    cases e2
    obtain ⟨vs, h2, h3⟩ := o.get h1
    cases r
    exact ⟨a, vs, rfl, SqL.of h2, h3⟩
theorem Rv.seqT {ds : List PyData} (o : StOk K H τ) (r : Rv K (dom τ) H v sv) (e : datOf τ sv = some (.tuple ds)) : ∃ a vs, v = .ref a ∧ NdT (dom τ) H a vs ∧ DnL K (dom τ) H vs ds := by
  cases sv with
  | val d' =>
    cases e
    cases r with
    | tup n l => exact ⟨_, _, rfl, n, l⟩
  | scr ns => cases e
  | hdl a =>
    obtain ⟨ds', h1, e2⟩ := hdl_dat e
    cases e2
/-- a list that is tracked as it stands -/
def lstOf (τ : Store) : MV → Option (List PyData)
  | .val (.list ds) => some ds
  | .hdl a => match τ.lookup a with
    | some (.lst ds) => some ds
    | _ => none
  | _ => none
theorem Rv.lstS {ds : List PyData} (o : StOk K H τ) (r : Rv K (dom τ) H v sv) (e : lstOf τ sv = some ds) : ∃ a vs, v = .ref a ∧ H a = some (.lst vs) ∧ DnL K (dom τ) H vs ds := by
  cases sv with
  | val d' =>
    cases d' with
    | list es =>
      cases e
      cases r with
      | lst n l => exact ⟨_, _, rfl, n.2, l⟩
    | _ => cases e
  | scr ns => cases e
  | hdl a =>
    unfold lstOf at e
    simp only at e
    cases h : τ.lookup a with
    | none => rw [h] at e; cases e
    | some mo =>
      rw [h] at e
      cases mo with
      | lst es =>
        cases e
        obtain ⟨vs, h2, h3⟩ := o.get h
        cases r
        exact ⟨a, vs, rfl, h2, h3⟩
      | ins C dx fs => cases e
/-- a new object laid -/
theorem Pst.tup {Q : MV → Store → Prop} {QQ : VK} {vs : List V} {ds : List PyData} (p : Pst K τ H Q QQ) (o : StOk K H τ) (l : DnL K (dom τ) H vs ds) (q : Q (.val (.tuple ds)) τ) : ∀ a, H a = none → QQ (.ref a) (upd H a (.tup vs)) := fun a ha =>
  p _ _ _ τ q (o.new ha) (Dn.tup ⟨o.fresh ha, upd_same⟩ (l.tr (Tr.new ha))) (Tr.new ha)
theorem Pst.lst {Q : MV → Store → Prop} {QQ : VK} {vs : List V} {ds : List PyData} (p : Pst K τ H Q QQ) (o : StOk K H τ) (l : DnL K (dom τ) H vs ds) (q : Q (.val (.list ds)) τ) : ∀ a, H a = none → QQ (.ref a) (upd H a (.lst vs)) := fun a ha =>
  p _ _ _ τ q (o.new ha) (Dn.lst ⟨o.fresh ha, upd_same⟩ (l.tr (Tr.new ha))) (Tr.new ha)
theorem Pst.lstM {Q : MV → Store → Prop} {QQ : VK} {vs : List V} {ds : List PyData} (p : Pst K τ H Q QQ) (o : StOk K H τ) (l : DnL K (dom τ) H vs ds) (q : ∀ a, a ∉ dom τ → Q (.hdl a) ((a, .lst ds) :: τ)) : ∀ a, H a = none → QQ (.ref a) (upd H a (.lst vs)) := fun a ha =>
  p _ _ (.hdl a) _ (q a (o.fresh ha)) (o.push ha ⟨vs, upd_same, l.tr (Tr.push ha)⟩) rfl (Tr.push ha)
end
theorem small_sz {n : Nat} (h : n ≤ 1000000) : n ≤ sizeLine := Nat.le_trans h (by decide)
theorem small_sz' {n : Nat} (h : n < 1000000) : n < sizeLine := Nat.lt_of_lt_of_le h (by decide)

/-! ### + -/
abbrev rAddS : R2 := fun x y H Q => ∃ i j, x = .str i ∧ y = .str j ∧ i.length + j.length ≤ sizeLine ∧ Q (.str (i ++ j)) H
abbrev rAddI : R2 := rI0 fun i j => .int (i + j)
def rPlus (K : PySem.W.Frag) : R2 := fun x y H Q => rAddI x y H Q ∨ (rCat x y H Q ∨ (rCatA K x y H Q ∨ rAddS x y H Q))
def PlusD (K : PySem.W.Frag) (x y : MV) (τ : Store) (Q : MV → Store → Prop) : Prop := OpD K (rPlus K) x y τ Q
section
variable {K : PySem.W.Frag} {τ : Store} {Q : MV → Store → Prop}
theorem plus_int {i j : Int} (q : Q (.val (.int (i + j))) τ) : PlusD K (.val (.int i)) (.val (.int j)) τ Q := .mk fun H v u o r1 r2 QQ p => by
  cases r1
  cases r2
  exact .inl ⟨i, j, rfl, rfl, p _ H _ τ q o (Dn.int _) Tr.refl⟩
theorem plus_str {i j : Str} (hl : i.length + j.length ≤ 1000000) (q : Q (.val (.str (i ++ j))) τ) : PlusD K (.val (.str i)) (.val (.str j)) τ Q := .mk fun H v u o r1 r2 QQ p => by
  cases r1
  cases r2
  exact .inr (.inr (.inr ⟨i, j, rfl, rfl, small_sz hl, p _ H _ τ q o (Dn.str _) Tr.refl⟩))
theorem plus_lst {x y : MV} {ds es : List PyData} (hx : lstOf τ x = some ds) (hy : lstOf τ y = some es) (hl : ds.length + es.length ≤ 1000000) (q : Q (.val (.list (ds ++ es))) τ) : PlusD K x y τ Q := .mk fun H v u o r1 r2 QQ p => by
  obtain ⟨a, vs, rfl, h1, l1⟩ := r1.lstS o hx
  obtain ⟨b, ws, rfl, h2, l2⟩ := r2.lstS o hy
  refine .inr (.inl ⟨a, b, vs, ws, rfl, rfl, h1, h2, small_sz (by rw [l1.length, l2.length]; exact hl), p.lst o (l1.append l2) q⟩)
/-- a new list that will change -/
theorem plus_lstM {x y : MV} {ds es : List PyData} (hx : lstOf τ x = some ds) (hy : lstOf τ y = some es) (hl : ds.length + es.length ≤ 1000000) (q : ∀ a, a ∉ dom τ → Q (.hdl a) ((a, .lst (ds ++ es)) :: τ)) : PlusD K x y τ Q := .mk fun H v u o r1 r2 QQ p => by
  obtain ⟨a, vs, rfl, h1, l1⟩ := r1.lstS o hx
  obtain ⟨b, ws, rfl, h2, l2⟩ := r2.lstS o hy
  refine .inr (.inl ⟨a, b, vs, ws, rfl, rfl, h1, h2, small_sz (by rw [l1.length, l2.length]; exact hl), p.lstM o (l1.append l2) q⟩)
theorem plus_tup {ds es : List PyData} (hl : ds.length + es.length ≤ 1000000) (q : Q (.val (.tuple (ds ++ es))) τ) : PlusD K (.val (.tuple ds)) (.val (.tuple es)) τ Q := .mk fun H v u o r1 r2 QQ p => by
  cases r1 with
  | @tup a vs _ n1 l1 =>
  cases r2 with
  | @tup b ws _ n2 l2 =>
  refine .inr (.inr (.inl ⟨a, b, vs, ws, rfl, rfl, n1.sq, n2.sq, small_sz (by rw [l1.length, l2.length]; exact hl), fun e => ?_, fun ne e => ?_, fun _ _ => p.tup o (l1.append l2) q⟩))
  · subst e
    cases l1
    exact p _ H _ τ q o (Dn.tup n2 l2) Tr.refl
  · subst e
    cases l2
    rw [List.append_nil] at q
    exact p _ H _ τ q o (Dn.tup n1 l1) Tr.refl
end

/-! ### builtins' names are what they are -/
structure Bl (mg : Str → Option Value) : Prop where
  h_isinstance : mg "isinstance" = none
  h_len : mg "len" = none
  h_all : mg "all" = none
  h_any : mg "any" = none
  h_tuple : mg "tuple" = none
  h_list : mg "list" = none
  h_range : mg "range" = none
  h_min : mg "min" = none
  h_max : mg "max" = none
  h_sum : mg "sum" = none
  h_abs : mg "abs" = none
  h_sorted : mg "sorted" = none
  h_str : mg "str" = none
  h_int : mg "int" = none
  h_bool : mg "bool" = none
  h_enumerate : mg "enumerate" = none
  h_zip : mg "zip" = none
  h_ValueError : mg "ValueError" = none
  h_set : mg "set" = none

section
variable {X : Cx} {ρ : En} {τ : Store} {Q : MV → Store → Prop} {pos p1 : Pos} {a b c : Expr} {es : List Expr}
theorem de_plus (h : De X ρ τ a fun x τ1 => De X ρ τ1 b fun y τ2 => PlusD X.K x y τ2 Q) : De X ρ τ (.BinOp a .Add b pos) Q :=
  de_op (op_add.or (op_cat.or (op_catA.or op_add_str))) h
theorem de_sub (h : De X ρ τ a fun x τ1 => De X ρ τ1 b fun y τ2 => ∃ i j, x = .val (.int i) ∧ y = .val (.int j) ∧ Q (.val (.int (i - j))) τ2) : De X ρ τ (.BinOp a .Sub b pos) Q :=
  de_op op_sub (h.mono fun x τ1 h1 => h1.mono fun y τ2 ⟨i, j, ex, ey, q⟩ => .mk fun H v u o r1 r2 QQ p => by
    subst ex ey
    cases r1
    cases r2
    exact ⟨i, j, rfl, rfl, p _ H _ τ2 q o (Dn.int _) Tr.refl⟩)
theorem de_mod (h : De X ρ τ a fun x τ1 => De X ρ τ1 b fun y τ2 => ∃ i j, x = .val (.int i) ∧ y = .val (.int j) ∧ 0 < j ∧ Q (.val (.int (i % j))) τ2) : De X ρ τ (.BinOp a .Mod b pos) Q :=
  de_op op_mod (h.mono fun x τ1 h1 => h1.mono fun y τ2 ⟨i, j, ex, ey, hj, q⟩ => .mk fun H v u o r1 r2 QQ p => by
    subst ex ey
    cases r1
    cases r2
    exact ⟨i, j, rfl, rfl, hj, p _ H _ τ2 q o (Dn.int _) Tr.refl⟩)
theorem de_fdiv (h : De X ρ τ a fun x τ1 => De X ρ τ1 b fun y τ2 => ∃ i j, x = .val (.int i) ∧ y = .val (.int j) ∧ (0 < j ∧ j < 1073741824) ∧ Q (.val (.int (i / j))) τ2) : De X ρ τ (.BinOp a .FloorDiv b pos) Q :=
  de_op op_fdiv (h.mono fun x τ1 h1 => h1.mono fun y τ2 ⟨i, j, ex, ey, hj, q⟩ => .mk fun H v u o r1 r2 QQ p => by
    subst ex ey
    cases r1
    cases r2
    exact ⟨i, j, rfl, rfl, hj, p _ H _ τ2 q o (Dn.int _) Tr.refl⟩)
theorem de_pow (h : De X ρ τ a fun x τ1 => De X ρ τ1 b fun y τ2 => ∃ i j, x = .val (.int i) ∧ y = .val (.int j) ∧ (0 ≤ j ∧ j ≤ 1000000 ∧ i.natAbs < 2 ^ 64) ∧ Q (.val (.int (i ^ j.toNat))) τ2) : De X ρ τ (.BinOp a .Pow b pos) Q :=
  de_op op_pow (h.mono fun x τ1 h1 => h1.mono fun y τ2 ⟨i, j, ex, ey, hj, q⟩ => .mk fun H v u o r1 r2 QQ p => by
    subst ex ey
    cases r1
    cases r2
    exact ⟨i, j, rfl, rfl, hj, p _ H _ τ2 q o (Dn.int _) Tr.refl⟩)
/-! t * 1, t * 0 -/
theorem tuple_mul_one (l : Addr) (items : Array Value) (n : Nat) (dd : Option Addr) (sl : Array (Option Value)) (u : Tok) :
    Meets (Builtin.«tuple.__mul__» ⟨[.ref l, .int 1 u], []⟩) (fun _ R s => s.heap.get? l = some { cls := .type "tuple", dict := dd, data := .seq items n, slots := sl } ∧ R (.ok (.ret (Value.ref l))) s) :=
  .of_wp fun prog w A R s h => by
    obtain ⟨hp, g, d, tk, os⟩ := s
    obtain ⟨hl, h⟩ := h
    have f1 := AutoSeq1.idx_int
    wp_walk using wpAny_loadPart' hl
    exact ⟨_, rfl, h⟩
theorem tuple_mul_zero (l : Addr) (items : Array Value) (n : Nat) (dd : Option Addr) (sl : Array (Option Value)) (u : Tok) (c1 : items.isEmpty = false) :
    Meets (Builtin.«tuple.__mul__» ⟨[.ref l, .int 0 u], []⟩) (fun _ R s => s.heap.get? l = some { cls := .type "tuple", dict := dd, data := .seq items n, slots := sl } ∧
      R (.ok (.ret (Value.ref s.heap.objs.size))) { s with heap := s.heap.push { cls := Value.type "tuple", data := Data.seq #[] }, toks := s.toks }) :=
  .of_wp fun prog w A R s h => by
    obtain ⟨hp, g, d, tk, os⟩ := s
    obtain ⟨hl, h⟩ := h
    have f1 := AutoSeq1.idx_int
    have c2 : (items.isEmpty || (0 : Int) == 1) = false := by rw [c1]; rfl
    wp_walk using wpAny_loadPart' hl
    exact ⟨_, rfl, h⟩
def rRepT1 (K : PySem.W.Frag) : R2 := fun x y H Q => ∃ l xs, x = .ref l ∧ y = .int 1 ∧ SqT K H l xs ∧ Q (.ref l) H
def rRepT0 (K : PySem.W.Frag) : R2 := fun x y H Q => ∃ l xs, x = .ref l ∧ y = .int 0 ∧ SqT K H l xs ∧ xs ≠ [] ∧ ∀ p, H p = none → Q (.ref p) (upd H p (.tup []))
theorem op_repT1 {X : Cx} : OpR X (binaryOp .Mult) (rRepT1 X.K) := by
  intro pins s σ H x y v u Q I rx ry h
  obtain ⟨l, xs, rfl, rfl, hT, q⟩ := h
  cases rx
  obtain ⟨t, rfl⟩ := ry
  obtain ⟨its, r, ⟨⟨cls, dd, data, sl⟩, ho, hc, n, hd⟩, hs⟩ := I.tuple hT
  simp only at hc hd
  subst hc hd
  refine wpAny_binaryOp_repeat_ref (T := "tuple") (U := "int") (by decide) ⟨_, ho, rfl⟩ (fun s' => typeIs_int s' 1 t) noFill_tuple_mul F.fills_int_mul F.slot_int_rmul repeat_tuple F.slot_int_index.lookup
    (call_meets F.slot_int_rmul (typeIs_int s 1 t) F.entry_int_rmul (F.args_int_rmul_2 _ _) (int_rmul_tuple 1 t l its.toArray n dd sl)
      ⟨ho, rfl, ⟨_, ho, rfl⟩, call_meets F.slot_tuple_mul ⟨_, ho, rfl⟩ F.entry_tuple_mul (F.args_tuple_mul_2 _ _) (tuple_mul_one l its.toArray n dd sl t) ⟨ho, ?_⟩⟩)
  exact ⟨.ref l, H, I, rfl, q⟩
theorem op_repT0 {X : Cx} : OpR X (binaryOp .Mult) (rRepT0 X.K) := by
  intro pins s σ H x y v u Q I rx ry h
  obtain ⟨l, xs, rfl, rfl, hT, hne, q⟩ := h
  cases rx
  obtain ⟨t, rfl⟩ := ry
  obtain ⟨its, r, ⟨⟨cls, dd, data, sl⟩, ho, hc, n, hd⟩, hs⟩ := I.tuple hT
  simp only at hc hd
  subst hc hd
  have hi : its.toArray.isEmpty = false := by
    cases its with
    | nil =>
      cases r
      exact absurd rfl hne
    | cons a b => rfl
  refine wpAny_binaryOp_repeat_ref (T := "tuple") (U := "int") (by decide) ⟨_, ho, rfl⟩ (fun s' => typeIs_int s' 0 t) noFill_tuple_mul F.fills_int_mul F.slot_int_rmul repeat_tuple F.slot_int_index.lookup
    (call_meets F.slot_int_rmul (typeIs_int s 0 t) F.entry_int_rmul (F.args_int_rmul_2 _ _) (int_rmul_tuple 0 t l its.toArray n dd sl)
      ⟨ho, rfl, ⟨_, ho, rfl⟩, call_meets F.slot_tuple_mul ⟨_, ho, rfl⟩ F.entry_tuple_mul (F.args_tuple_mul_2 _ _) (tuple_mul_zero l its.toArray n dd sl t hi) ⟨ho, ?_⟩⟩)
  refine ⟨.ref s.heap.objs.size, _, I.laid (t' := s.toks) (o := .tup []) (fun b ob q => Heap.get?_push_of_some _ q) (Nat.le_refl _) ?_, rfl, q _ (I.hok.fresh (Nat.le_refl _))⟩
  exact ⟨Nat.zero_le _, [], .nil, PyProof.Rows.IsTup.new _ _⟩
/-- * : ints, or a tuple and an int, or a list and an int -/
def rTimes (K : PySem.W.Frag) : R2 := fun x y H Q => rI CMul (fun i j => .int (i * j)) x y H Q ∨ (rRepT K x y H Q ∨ (rRepT1 K x y H Q ∨ (rRepT0 K x y H Q ∨ rRep x y H Q)))
def TimesD (K : PySem.W.Frag) (x y : MV) (τ : Store) (Q : MV → Store → Prop) : Prop := OpD K (rTimes K) x y τ Q
theorem times_int {K : PySem.W.Frag} {i j : Int} (hc : (-(2 ^ 64) < i ∧ i < 2 ^ 64) ∨ (-(2 ^ 64) < j ∧ j < 2 ^ 64)) (q : Q (.val (.int (i * j))) τ) : TimesD K (.val (.int i)) (.val (.int j)) τ Q := .mk fun H v u o r1 r2 QQ p => by
  cases r1
  cases r2
  exact .inl ⟨i, j, rfl, rfl, hc, p _ H _ τ q o (Dn.int _) Tr.refl⟩
theorem DnL.rep {K : PySem.W.Frag} {N : List Addr} {H : Hp} {vs : List V} {ds : List PyData} (h : DnL K N H vs ds) : ∀ k : Nat, DnL K N H (List.replicate k vs).flatten (List.replicate k ds).flatten
  | 0 => .nil
  | k + 1 => by
    rw [List.replicate_succ, List.replicate_succ, List.flatten_cons, List.flatten_cons]
    exact h.append (DnL.rep h k)
theorem times_tup {K : PySem.W.Frag} {ds : List PyData} {k : Int} (h0 : ds ≠ []) (h1 : 2 ≤ k) (h2 : k ≤ 1000) (hl : ds.length ≤ 1000) (q : Q (.val (.tuple (List.replicate k.toNat ds).flatten)) τ) : TimesD K (.val (.tuple ds)) (.val (.int k)) τ Q := .mk fun H v u o r1 r2 QQ p => by
  cases r1 with
  | @tup a vs _ n1 l1 =>
  cases r2
  refine .inr (.inl ⟨a, k, vs, rfl, rfl, n1.sq, fun e => h0 ?_, h1, h2, by rw [l1.length]; exact hl, p.tup o (l1.rep _) q⟩)
  subst e
  cases l1
  rfl
/-- any count from 0 on -/
theorem times_tup' {K : PySem.W.Frag} {ds : List PyData} {k : Int} (h0 : ds ≠ []) (h1 : 0 ≤ k) (h2 : k ≤ 1000) (hl : ds.length ≤ 1000) (q : Q (.val (.tuple (List.replicate k.toNat ds).flatten)) τ) : TimesD K (.val (.tuple ds)) (.val (.int k)) τ Q := by
  by_cases e1 : k = 1
  · subst e1
    refine .mk fun H v u o r1 r2 QQ p => ?_
    have q : Q (.val (.tuple (ds ++ []))) τ := q
    rw [List.append_nil] at q
    cases r1 with
    | @tup a vs _ n1 l1 =>
    cases r2
    exact .inr (.inr (.inl ⟨a, vs, rfl, rfl, n1.sq, p _ H _ τ q o (Dn.tup n1 l1) Tr.refl⟩))
  · by_cases e0 : k = 0
    · subst e0
      refine .mk fun H v u o r1 r2 QQ p => ?_
      cases r1 with
      | @tup a vs _ n1 l1 =>
      cases r2
      refine .inr (.inr (.inr (.inl ⟨a, vs, rfl, rfl, n1.sq, fun e => h0 ?_, p.tup o .nil q⟩)))
      subst e
      cases l1
      rfl
    · exact times_tup h0 (by omega) h2 hl q
theorem times_lst {K : PySem.W.Frag} {x : MV} {ds : List PyData} {k : Int} (hx : lstOf τ x = some ds) (h1 : -1000 ≤ k) (h2 : k ≤ 1000) (hl : ds.length ≤ 1000) (q : Q (.val (.list (List.replicate k.toNat ds).flatten)) τ) : TimesD K x (.val (.int k)) τ Q := .mk fun H v u o r1 r2 QQ p => by
  obtain ⟨a, vs, rfl, e1, l1⟩ := r1.lstS o hx
  cases r2
  refine .inr (.inr (.inr (.inr ⟨a, k, vs, rfl, rfl, e1, by omega, by omega, small_sz ?_, p.lst o (l1.rep _) q⟩)))
  rw [l1.length]
  exact Nat.le_trans (Nat.mul_le_mul hl (show k.toNat ≤ 1000 by omega)) (by decide)
theorem de_times (h : De X ρ τ a fun x τ1 => De X ρ τ1 b fun y τ2 => TimesD X.K x y τ2 Q) : De X ρ τ (.BinOp a .Mult b pos) Q := de_op (op_mul.or (op_repT.or (op_repT1.or (op_repT0.or op_rep)))) h
theorem de_neg (h : De X ρ τ a fun x τ1 => ∃ i, x = .val (.int i) ∧ Q (.val (.int (-i))) τ1) : De X ρ τ (.UnaryOp .USub a pos) Q := .mk fun σ H o l QQ p =>
  we_of (pe_un un_neg pe_we) (h σ H o l _ fun v H1 x τ1 ⟨i, ex, q⟩ o1 r1 t1 => by
    subst ex
    cases r1
    exact ⟨i, rfl, p _ H1 _ τ1 q o1 (Dn.int _) t1⟩)

/-! ### comparisons -/
abbrev BoolQ (Q : Bool → Store → Prop) : MV → Store → Prop := fun z τ => ∃ k, z = .val (.bool k) ∧ Q k τ
theorem dt_cmp {op : CmpOp} {r : R2} {Q : Bool → Store → Prop} (ho : OpR X (compareOp op) r) (h : De X ρ τ a fun x τ1 => De X ρ τ1 b fun y τ2 => OpD X.K r x y τ2 (BoolQ Q)) (hm : behindInMarks op b = false := by rfl) : Dt X ρ τ (.Compare a [op] [b] pos) Q := .mk fun σ H o l QQ p => by
  refine wt_of (pt_cmpR ho pe_we pe_we hm) (h σ H o l _ fun v H1 x τ1 h1 o1 r1 t1 => ?_)
  refine h1 σ H1 o1 (l.tr t1) _ fun u H2 y τ2 h2 o2 r2 t2 => h2 H2 v u o2 (r1.tr t2) r2 _ fun z H3 sz τ3 h3 o3 r3 t3 => ?_
  obtain ⟨k, rfl, h3⟩ := h3
  cases r3
  exact ⟨k, rfl, p k H3 τ3 h3 o3 ((t1.trans t2).trans t3)⟩
theorem dt_chain {op op' : CmpOp} {r r' : R2} {Q : Bool → Store → Prop} (ho : OpR X (compareOp op) r) (ho' : OpR X (compareOp op') r')
    (h : De X ρ τ a fun x τ1 => De X ρ τ1 b fun y τ2 => OpD X.K r x y τ2 fun z τ3 => ∃ k, z = .val (.bool k) ∧ if k = true then De X ρ τ3 c fun u τ4 => OpD X.K r' y u τ4 (BoolQ Q) else Q false τ3)
    (hm : lastMarks [op, op'] [b, c] = false := by with_unfolding_all rfl) : Dt X ρ τ (.Compare a [op, op'] [b, c] pos) Q := .mk fun σ H o l QQ p => by
  refine wt_of (pt_chain ho ho' pe_we pe_we pe_we hm) (h σ H o l _ fun v H1 x τ1 h1 o1 r1 t1 => ?_)
  refine h1 σ H1 o1 (l.tr t1) _ fun u H2 y τ2 h2 o2 r2 t2 => ?_
  refine h2 H2 v u o2 (r1.tr t2) r2 _ fun z H3 sz τ3 h3 o3 r3 t3 => ?_
  obtain ⟨k, rfl, h3⟩ := h3
  cases r3
  refine ⟨k, rfl, ?_⟩
  cases k with
  | true =>
    rw [if_pos rfl] at h3 ⊢
    refine h3 σ H3 o3 (((l.tr t1).tr t2).tr t3) _ fun w H4 x4 τ4 h4 o4 r4 t4 => h4 H4 u w o4 ((r2.tr t3).tr t4) r4 _ fun z' H5 sz' τ5 h5 o5 r5 t5 => ?_
    obtain ⟨k', rfl, h5⟩ := h5
    cases r5
    exact ⟨k', rfl, p k' H5 τ5 h5 o5 ((((t1.trans t2).trans t3).trans t4).trans t5)⟩
  | false =>
    rw [if_neg Bool.false_ne_true] at h3 ⊢
    exact ⟨false, rfl, p false H3 τ3 h3 o3 ((t1.trans t2).trans t3)⟩
/-- two ints compared -/
abbrev IntD (g : Int → Int → Bool) (x y : MV) (τ : Store) (Q : MV → Store → Prop) : Prop := ∃ i j, x = .val (.int i) ∧ y = .val (.int j) ∧ Q (.val (.bool (g i j))) τ
theorem opd_int {K : PySem.W.Frag} {g : Int → Int → Bool} {x y : MV} (h : IntD g x y τ Q) : OpD K (rI0 fun i j => .bl (g i j)) x y τ Q := .mk fun H v u o r1 r2 QQ p => by
  obtain ⟨i, j, rfl, rfl, q⟩ := h
  cases r1
  cases r2
  exact ⟨i, j, rfl, rfl, p _ H _ τ q o (Dn.bl _) Tr.refl⟩
abbrev gLt (i j : Int) : Bool := decide (i < j)
abbrev gLe (i j : Int) : Bool := decide (i ≤ j)
abbrev gGt (i j : Int) : Bool := decide (j < i)
abbrev gGe (i j : Int) : Bool := decide (j ≤ i)
theorem de_lt (h : De X ρ τ a fun x τ1 => De X ρ τ1 b fun y τ2 => IntD gLt x y τ2 Q) : De X ρ τ (.Compare a [.Lt] [b] pos) Q := de_cmp op_lt (h.mono fun x τ1 h1 => h1.mono fun y τ2 h2 => opd_int h2) (nomark b)
theorem de_le (h : De X ρ τ a fun x τ1 => De X ρ τ1 b fun y τ2 => IntD gLe x y τ2 Q) : De X ρ τ (.Compare a [.LtE] [b] pos) Q := de_cmp op_le (h.mono fun x τ1 h1 => h1.mono fun y τ2 h2 => opd_int h2) (nomark b)
theorem de_gt (h : De X ρ τ a fun x τ1 => De X ρ τ1 b fun y τ2 => IntD gGt x y τ2 Q) : De X ρ τ (.Compare a [.Gt] [b] pos) Q := de_cmp op_gt (h.mono fun x τ1 h1 => h1.mono fun y τ2 h2 => opd_int h2) (nomark b)
theorem de_ge (h : De X ρ τ a fun x τ1 => De X ρ τ1 b fun y τ2 => IntD gGe x y τ2 Q) : De X ρ τ (.Compare a [.GtE] [b] pos) Q := de_cmp op_ge (h.mono fun x τ1 h1 => h1.mono fun y τ2 h2 => opd_int h2) (nomark b)
section
variable {Q : Bool → Store → Prop}
theorem dt_lt (h : De X ρ τ a fun x τ1 => De X ρ τ1 b fun y τ2 => IntD gLt x y τ2 (BoolQ Q)) : Dt X ρ τ (.Compare a [.Lt] [b] pos) Q := dt_cmp op_lt (h.mono fun x τ1 h1 => h1.mono fun y τ2 h2 => opd_int h2) (nomark b)
theorem dt_le (h : De X ρ τ a fun x τ1 => De X ρ τ1 b fun y τ2 => IntD gLe x y τ2 (BoolQ Q)) : Dt X ρ τ (.Compare a [.LtE] [b] pos) Q := dt_cmp op_le (h.mono fun x τ1 h1 => h1.mono fun y τ2 h2 => opd_int h2) (nomark b)
theorem dt_gt (h : De X ρ τ a fun x τ1 => De X ρ τ1 b fun y τ2 => IntD gGt x y τ2 (BoolQ Q)) : Dt X ρ τ (.Compare a [.Gt] [b] pos) Q := dt_cmp op_gt (h.mono fun x τ1 h1 => h1.mono fun y τ2 h2 => opd_int h2) (nomark b)
theorem dt_ge (h : De X ρ τ a fun x τ1 => De X ρ τ1 b fun y τ2 => IntD gGe x y τ2 (BoolQ Q)) : Dt X ρ τ (.Compare a [.GtE] [b] pos) Q := dt_cmp op_ge (h.mono fun x τ1 h1 => h1.mono fun y τ2 h2 => opd_int h2) (nomark b)
theorem dt_chain_le (h : De X ρ τ a fun x τ1 => De X ρ τ1 b fun y τ2 => IntD gLe x y τ2 fun z τ3 => ∃ k, z = .val (.bool k) ∧ (k = true → De X ρ τ3 c fun u τ4 => IntD gLe y u τ4 (BoolQ Q)) ∧ (k = false → Q false τ3))
    (hm : lastMarks [.LtE, .LtE] [b, c] = false := by with_unfolding_all rfl) : Dt X ρ τ (.Compare a [.LtE, .LtE] [b, c] pos) Q :=
  dt_chain op_le op_le (h.mono fun x τ1 h1 => h1.mono fun y τ2 ⟨i, j, ex, ey, k, ek, h3, h3'⟩ => opd_int ⟨i, j, ex, ey, k, ek, by
    split
    · rename_i hk
      exact (h3 hk).mono fun u τ4 h4 => opd_int h4
    · rename_i hk
      exact h3' (by simpa using hk)⟩) hm
end
theorem de_chain_le (h : De X ρ τ a fun x τ1 => De X ρ τ1 b fun y τ2 => IntD gLe x y τ2 fun z τ3 => ∃ k, z = .val (.bool k) ∧ (k = true → De X ρ τ3 c fun u τ4 => IntD gLe y u τ4 Q) ∧ (k = false → Q (.val (.bool false)) τ3))
    (hm : lastMarks [.LtE, .LtE] [b, c] = false := by with_unfolding_all rfl) : De X ρ τ (.Compare a [.LtE, .LtE] [b, c] pos) Q :=
  de_chain op_le op_le (h.mono fun x τ1 h1 => h1.mono fun y τ2 ⟨i, j, ex, ey, k, ek, h3, h3'⟩ => opd_int ⟨i, j, ex, ey, k, ek, by
    split
    · rename_i hk
      exact (h3 hk).mono fun u τ4 h4 => opd_int h4
    · rename_i hk
      exact h3' (by simpa using hk)⟩) hm
/-- ==, != of data -/
def EqD (K : PySem.W.Frag) (neg : Bool) (x y : MV) (τ : Store) (Q : MV → Store → Prop) : Prop := OpD K (if neg then rNeD K else rEqD K) x y τ Q
def bneg (neg b : Bool) : Bool := if neg then !b else b
theorem eq_dat {K : PySem.W.Frag} {neg : Bool} {x y : MV} {d e : PyData} (hx : datOf τ x = some d) (hy : datOf τ y = some e) (sd : SeqAt.shaped d = true) (se : SeqAt.shaped e = true) (q : Q (.val (.bool (bneg neg (PyData.eqv d e)))) τ) : EqD K neg x y τ Q := .mk fun H v u o r1 r2 QQ p => by
  cases neg with
  | true => exact ⟨d, e, r1.dp o hx, r2.dp o hy, sd, se, p _ H _ τ q o (Dn.bl _) Tr.refl⟩
  | false => exact ⟨d, e, r1.dp o hx, r2.dp o hy, sd, se, p _ H _ τ q o (Dn.bl _) Tr.refl⟩
theorem de_eq (hu : X.A.units + 64 < cLine) (h : De X ρ τ a fun x τ1 => De X ρ τ1 b fun y τ2 => EqD X.K false x y τ2 Q) : De X ρ τ (.Compare a [.Eq] [b] pos) Q := de_cmp (op_eqD hu) h (nomark b)
theorem de_ne (hu : X.A.units + 64 < cLine) (h : De X ρ τ a fun x τ1 => De X ρ τ1 b fun y τ2 => EqD X.K true x y τ2 Q) : De X ρ τ (.Compare a [.NotEq] [b] pos) Q := de_cmp (op_neD hu) h (nomark b)
theorem dt_eq {Q : Bool → Store → Prop} (hu : X.A.units + 64 < cLine) (h : De X ρ τ a fun x τ1 => De X ρ τ1 b fun y τ2 => EqD X.K false x y τ2 (BoolQ Q)) : Dt X ρ τ (.Compare a [.Eq] [b] pos) Q := dt_cmp (op_eqD hu) h (nomark b)
theorem dt_ne {Q : Bool → Store → Prop} (hu : X.A.units + 64 < cLine) (h : De X ρ τ a fun x τ1 => De X ρ τ1 b fun y τ2 => EqD X.K true x y τ2 (BoolQ Q)) : Dt X ρ τ (.Compare a [.NotEq] [b] pos) Q := dt_cmp (op_neD hu) h (nomark b)
/-- is, is not: None, bools -/
def isR (neg : Bool) : R2 := fun x y H Q => (y = .non ∧ Q (.bl (bneg neg (decide (x = .non)))) H) ∨ ∃ a b : Bool, x = .bl a ∧ y = .bl b ∧ Q (.bl (bneg neg (decide (a = b)))) H
def IsD (K : PySem.W.Frag) (neg : Bool) (x y : MV) (τ : Store) (Q : MV → Store → Prop) : Prop := OpD K (isR neg) x y τ Q
def isNone : PyData → Bool
  | .none => true
  | _ => false
theorem is_none {K : PySem.W.Frag} {neg : Bool} {d : PyData} (q : Q (.val (.bool (bneg neg (isNone d)))) τ) : IsD K neg (.val d) (.val .none) τ Q := .mk fun H v u o r1 r2 QQ p => by
  cases r2
  refine .inl ⟨rfl, ?_⟩
  have e : decide (v = V.non) = isNone d := by
    cases r1 <;> rfl
  rw [e]
  exact p _ H _ τ q o (Dn.bl _) Tr.refl
theorem is_bool {K : PySem.W.Frag} {neg : Bool} {a b : Bool} (q : Q (.val (.bool (bneg neg (decide (a = b))))) τ) : IsD K neg (.val (.bool a)) (.val (.bool b)) τ Q := .mk fun H v u o r1 r2 QQ p => by
  cases r1
  cases r2
  exact .inr ⟨a, b, rfl, rfl, p _ H _ τ q o (Dn.bl _) Tr.refl⟩
theorem op_isR : OpR X (compareOp .Is) (isR false) := fun pins s σ H x y v u Q I rx ry h => h.elim (fun h => op_isN pins s σ H x y v u Q I rx ry h) fun h => op_isBl pins s σ H x y v u Q I rx ry h
theorem op_notR : OpR X (compareOp .IsNot) (isR true) := fun pins s σ H x y v u Q I rx ry h => h.elim (fun h => op_notN pins s σ H x y v u Q I rx ry h) fun h => op_notBl pins s σ H x y v u Q I rx ry h
theorem de_is (h : De X ρ τ a fun x τ1 => De X ρ τ1 b fun y τ2 => IsD X.K false x y τ2 Q) : De X ρ τ (.Compare a [.Is] [b] pos) Q := de_cmp op_isR h (nomark b)
theorem de_isnot (h : De X ρ τ a fun x τ1 => De X ρ τ1 b fun y τ2 => IsD X.K true x y τ2 Q) : De X ρ τ (.Compare a [.IsNot] [b] pos) Q := de_cmp op_notR h (nomark b)
theorem dt_is {Q : Bool → Store → Prop} (h : De X ρ τ a fun x τ1 => De X ρ τ1 b fun y τ2 => IsD X.K false x y τ2 (BoolQ Q)) : Dt X ρ τ (.Compare a [.Is] [b] pos) Q := dt_cmp op_isR h (nomark b)
theorem dt_isnot {Q : Bool → Store → Prop} (h : De X ρ τ a fun x τ1 => De X ρ τ1 b fun y τ2 => IsD X.K true x y τ2 (BoolQ Q)) : Dt X ρ τ (.Compare a [.IsNot] [b] pos) Q := dt_cmp op_notR h (nomark b)
/-- in, not in a list of data, in a list or a tuple of flat things -/
def rInDT (K : PySem.W.Frag) (neg : Bool) : R2 := fun x y H Q => ∃ d ds, Dp K H x d ∧ Dp K H y (.tuple ds) ∧ SeqAt.shaped d = true ∧ SeqAt.shaped (.tuple ds) = true ∧ Q (.bl (if neg then !ds.any (fun z => PyData.eqv z d) else ds.any fun z => PyData.eqv z d)) H
theorem op_inDT {X : Cx} (hu : X.A.units + 65 < cLine) : OpR X (compareOp .In) (rInDT X.K false) := by
  intro pins s σ H x y v u Q I rx ry h
  obtain ⟨d, ds, hd, he, sd, se, q⟩ := h
  obtain ⟨as, r1⟩ := Dp.reads I d x v hd rx
  obtain ⟨bs, r2⟩ := Dp.reads I (.tuple ds) y u he ry
  exact SeqAt.in_tuple_reads r2 r1 (SeqAt.canLay_of_shaped se) (SeqAt.canLay_of_shaped sd) (PyProof.Rows.room_in_shaped sd hu) ⟨.bl _, H, I, rfl, q⟩
theorem op_notInDT {X : Cx} (hu : X.A.units + 65 < cLine) : OpR X (compareOp .NotIn) (rInDT X.K true) := by
  intro pins s σ H x y v u Q I rx ry h
  obtain ⟨d, ds, hd, he, sd, se, q⟩ := h
  obtain ⟨as, r1⟩ := Dp.reads I d x v hd rx
  obtain ⟨bs, r2⟩ := Dp.reads I (.tuple ds) y u he ry
  exact SeqAt.notIn_tuple_reads r2 r1 (SeqAt.canLay_of_shaped se) (SeqAt.canLay_of_shaped sd) (PyProof.Rows.room_in_shaped sd hu) ⟨.bl _, H, I, rfl, q⟩
def rInA (K : PySem.W.Frag) : R2 := fun x y H Q => rInD K x y H Q ∨ (rIn K false x y H Q ∨ rInDT K false x y H Q)
def rNotInA (K : PySem.W.Frag) : R2 := fun x y H Q => rNotInD K x y H Q ∨ (rIn K true x y H Q ∨ rInDT K true x y H Q)
def InD (K : PySem.W.Frag) (neg : Bool) (x y : MV) (τ : Store) (Q : MV → Store → Prop) : Prop := OpD K (if neg then rNotInA K else rInA K) x y τ Q
theorem in_dat {K : PySem.W.Frag} {neg : Bool} {x y : MV} {d : PyData} {ds : List PyData} (hx : datOf τ x = some d) (hy : datOf τ y = some (.list ds)) (sd : SeqAt.shaped d = true) (se : SeqAt.shaped (.list ds) = true) (q : Q (.val (.bool (bneg neg (ds.any fun z => PyData.eqv z d)))) τ) : InD K neg x y τ Q := .mk fun H v u o r1 r2 QQ p => by
  cases neg with
  | true => exact .inl ⟨d, ds, r1.dp o hx, r2.dp o hy, sd, se, p _ H _ τ q o (Dn.bl _) Tr.refl⟩
  | false => exact .inl ⟨d, ds, r1.dp o hx, r2.dp o hy, sd, se, p _ H _ τ q o (Dn.bl _) Tr.refl⟩
theorem inV_int {i : Int} {ns : List Int} : inV (.int i) (ns.map V.int) = decide (i ∈ ns) := by
  unfold inV
  induction ns with
  | nil => rfl
  | cons n ns ih =>
    rw [List.map_cons, List.any_cons, ih]
    by_cases e : n = i
    · subst e
      simp [eqV]
    · have : ¬ i = n := fun z => e z.symm
      simp [eqV, e, this]
theorem flat_ints (ns : List Int) : (ns.map V.int).all flatV = true := by
  rw [List.all_eq_true]
  intro x hx
  obtain ⟨i, _, rfl⟩ := List.mem_map.mp hx
  rfl
/-- an int in a tuple of ints -/
theorem in_intT {K : PySem.W.Frag} {neg : Bool} {i : Int} {ns : List Int} (q : Q (.val (.bool (bneg neg (decide (i ∈ ns))))) τ) : InD K neg (.val (.int i)) (.val (.tuple (ns.map .int))) τ Q := .mk fun H v u o r1 r2 QQ p => by
  cases r1
  obtain ⟨a, vs, rfl, h1, l1⟩ := r2.seqT o (rfl : datOf τ (.val (.tuple (ns.map .int))) = some (.tuple (ns.map .int)))
  have e := l1.ints
  subst e
  cases neg with
  | true => exact .inr <| .inl ⟨a, _, rfl, .inr h1.sq, rfl, flat_ints ns, by
    show QQ (.bl (!inV (.int i) (ns.map V.int))) H
    rw [inV_int]
    exact p _ H _ τ q o (Dn.bl _) Tr.refl⟩
  | false => exact .inr <| .inl ⟨a, _, rfl, .inr h1.sq, rfl, flat_ints ns, by
    show QQ (.bl (inV (.int i) (ns.map V.int))) H
    rw [inV_int]
    exact p _ H _ τ q o (Dn.bl _) Tr.refl⟩
theorem in_datT {K : PySem.W.Frag} {neg : Bool} {x y : MV} {d : PyData} {ds : List PyData} (hx : datOf τ x = some d) (hy : datOf τ y = some (.tuple ds)) (sd : SeqAt.shaped d = true) (se : SeqAt.shaped (.tuple ds) = true) (q : Q (.val (.bool (bneg neg (ds.any fun z => PyData.eqv z d)))) τ) : InD K neg x y τ Q := .mk fun H v u o r1 r2 QQ p => by
  cases neg with
  | true => exact .inr <| .inr ⟨d, ds, r1.dp o hx, r2.dp o hy, sd, se, p _ H _ τ q o (Dn.bl _) Tr.refl⟩
  | false => exact .inr <| .inr ⟨d, ds, r1.dp o hx, r2.dp o hy, sd, se, p _ H _ τ q o (Dn.bl _) Tr.refl⟩
/-- an int in a list of ints -/
theorem in_intL {K : PySem.W.Frag} {neg : Bool} {i : Int} {y : MV} {ns : List Int} (hy : datOf τ y = some (.list (ns.map .int))) (q : Q (.val (.bool (bneg neg (decide (i ∈ ns))))) τ) : InD K neg (.val (.int i)) y τ Q := .mk fun H v u o r1 r2 QQ p => by
  cases r1
  obtain ⟨a, vs, rfl, h1, l1⟩ := r2.seqL o hy
  have e := l1.ints
  subst e
  cases neg with
  | true => exact .inr <| .inl ⟨a, _, rfl, .inl h1, rfl, flat_ints ns, by
    show QQ (.bl (!inV (.int i) (ns.map V.int))) H
    rw [inV_int]
    exact p _ H _ τ q o (Dn.bl _) Tr.refl⟩
  | false => exact .inr <| .inl ⟨a, _, rfl, .inl h1, rfl, flat_ints ns, by
    show QQ (.bl (inV (.int i) (ns.map V.int))) H
    rw [inV_int]
    exact p _ H _ τ q o (Dn.bl _) Tr.refl⟩
theorem de_in (hu : X.A.units + 65 < cLine) (h : De X ρ τ a fun x τ1 => De X ρ τ1 b fun y τ2 => InD X.K false x y τ2 Q) (hm : behindInMarks .In b = false := by rfl) : De X ρ τ (.Compare a [.In] [b] pos) Q := de_cmp ((op_inD hu).or (op_in_seq.or (op_inDT hu))) h hm
theorem de_notin (hu : X.A.units + 65 < cLine) (h : De X ρ τ a fun x τ1 => De X ρ τ1 b fun y τ2 => InD X.K true x y τ2 Q) (hm : behindInMarks .NotIn b = false := by rfl) : De X ρ τ (.Compare a [.NotIn] [b] pos) Q := de_cmp ((op_notInD hu).or (op_notIn_seq.or (op_notInDT hu))) h hm
theorem dt_in {Q : Bool → Store → Prop} (hu : X.A.units + 65 < cLine) (h : De X ρ τ a fun x τ1 => De X ρ τ1 b fun y τ2 => InD X.K false x y τ2 (BoolQ Q)) (hm : behindInMarks .In b = false := by rfl) : Dt X ρ τ (.Compare a [.In] [b] pos) Q := dt_cmp ((op_inD hu).or (op_in_seq.or (op_inDT hu))) h hm
theorem dt_notin {Q : Bool → Store → Prop} (hu : X.A.units + 65 < cLine) (h : De X ρ τ a fun x τ1 => De X ρ τ1 b fun y τ2 => InD X.K true x y τ2 (BoolQ Q)) (hm : behindInMarks .NotIn b = false := by rfl) : Dt X ρ τ (.Compare a [.NotIn] [b] pos) Q := dt_cmp ((op_notInD hu).or (op_notIn_seq.or (op_notInDT hu))) h hm
/-! ### and, or, not, if -/
theorem dt_val {Q : Bool → Store → Prop} (h : De X ρ τ a (BoolQ Q)) (he : ∀ whole, isTrue a X.env whole = (do let v ← whole; standAt a.pos; holding [v] (truthy v)) := by intro _; rfl) : Dt X ρ τ a Q := .mk fun σ H o l QQ p =>
  wt_of (pt_val pe_we he) (h σ H o l _ fun v H1 x τ1 ⟨k, ex, q⟩ o1 r1 t1 => by
    subst ex
    cases r1
    exact ⟨k, rfl, p k H1 τ1 q o1 t1⟩)
theorem dt_not {Q : Bool → Store → Prop} (h : Dt X ρ τ a fun k τ1 => Q (!k) τ1) : Dt X ρ τ (.UnaryOp .Not a pos) Q := .mk fun σ H o l QQ p =>
  wt_of (pt_not pt_wt) (h σ H o l _ fun k H1 τ1 q o1 t1 => p (!k) H1 τ1 q o1 t1)
theorem dt_bool {Q : Bool → Store → Prop} {op es} (h : Dw X ρ τ (.BoolOp op es pos) Q) : Dt X ρ τ (.BoolOp op es pos) Q := .mk fun σ H o l QQ p => wt_of pw_ww.pt (h σ H o l QQ p)
theorem dw_and1 {Q : Bool → Store → Prop} (h : Dt X ρ τ a Q) : Dw X ρ τ (.BoolOp .And [a] pos) Q := .mk fun σ H o l QQ p => ww_of (pw_and1 pt_wt) (h σ H o l QQ p)
theorem dw_or1 {Q : Bool → Store → Prop} (h : Dt X ρ τ a Q) : Dw X ρ τ (.BoolOp .Or [a] pos) Q := .mk fun σ H o l QQ p => ww_of (pw_or1 pt_wt) (h σ H o l QQ p)
theorem dw_and {Q : Bool → Store → Prop} (h : Dt X ρ τ a fun k τ1 => (k = true → Dw X ρ τ1 (.BoolOp .And (b :: es) pos) Q) ∧ (k = false → Q false τ1)) : Dw X ρ τ (.BoolOp .And (a :: b :: es) pos) Q := .mk fun σ H o l QQ p =>
  ww_of (pw_and pt_wt pw_ww) (h σ H o l _ fun k H1 τ1 ⟨q1, q2⟩ o1 t1 => by
    cases k with
    | true => exact iteT (q1 rfl σ H1 o1 (l.tr t1) QQ (p.step t1))
    | false => exact iteF (p false H1 τ1 (q2 rfl) o1 t1))
theorem dw_or {Q : Bool → Store → Prop} (h : Dt X ρ τ a fun k τ1 => (k = true → Q true τ1) ∧ (k = false → Dw X ρ τ1 (.BoolOp .Or (b :: es) pos) Q)) : Dw X ρ τ (.BoolOp .Or (a :: b :: es) pos) Q := .mk fun σ H o l QQ p =>
  ww_of (pw_or pt_wt pw_ww) (h σ H o l _ fun k H1 τ1 ⟨q1, q2⟩ o1 t1 => by
    cases k with
    | true => exact iteT (p true H1 τ1 (q1 rfl) o1 t1)
    | false => exact iteF (q2 rfl σ H1 o1 (l.tr t1) QQ (p.step t1)))
theorem de_one {op} (h : De X ρ τ a Q) : De X ρ τ (.BoolOp op [a] pos) Q := .mk fun σ H o l QQ p => we_of (pe_one pe_we) (h σ H o l QQ p)
theorem de_and (h : De X ρ τ a (BoolQ fun k τ1 => (k = true → De X ρ τ1 (.BoolOp .And (b :: es) pos) Q) ∧ (k = false → Q (.val (.bool false)) τ1))) : De X ρ τ (.BoolOp .And (a :: b :: es) pos) Q := .mk fun σ H o l QQ p =>
  we_of (pe_and pe_we pe_we) (h σ H o l _ fun v H1 x τ1 ⟨k, ex, q1, q2⟩ o1 r1 t1 => by
    subst ex
    cases r1
    refine ⟨k, rfl, ?_⟩
    cases k with
    | true => exact iteT (q1 rfl σ H1 o1 (l.tr t1) QQ (p.step t1))
    | false => exact iteF (p _ H1 _ τ1 (q2 rfl) o1 (Dn.bl _) t1))
theorem de_or (h : De X ρ τ a (BoolQ fun k τ1 => (k = true → Q (.val (.bool true)) τ1) ∧ (k = false → De X ρ τ1 (.BoolOp .Or (b :: es) pos) Q))) : De X ρ τ (.BoolOp .Or (a :: b :: es) pos) Q := .mk fun σ H o l QQ p =>
  we_of (pe_or pe_we pe_we) (h σ H o l _ fun v H1 x τ1 ⟨k, ex, q1, q2⟩ o1 r1 t1 => by
    subst ex
    cases r1
    refine ⟨k, rfl, ?_⟩
    cases k with
    | true => exact iteT (p _ H1 _ τ1 (q1 rfl) o1 (Dn.bl _) t1)
    | false => exact iteF (q2 rfl σ H1 o1 (l.tr t1) QQ (p.step t1)))
theorem de_not (h : De X ρ τ a (BoolQ fun k τ1 => Q (.val (.bool (!k))) τ1)) : De X ρ τ (.UnaryOp .Not a pos) Q := .mk fun σ H o l QQ p =>
  we_of (pe_not pe_we) (h σ H o l _ fun v H1 x τ1 ⟨k, ex, q⟩ o1 r1 t1 => by
    subst ex
    cases r1
    exact ⟨k, rfl, p _ H1 _ τ1 q o1 (Dn.bl _) t1⟩)
theorem de_ifexp (h : Dt X ρ τ a fun k τ1 => (k = true → De X ρ τ1 b Q) ∧ (k = false → De X ρ τ1 c Q)) : De X ρ τ (.IfExp a b c pos) Q := .mk fun σ H o l QQ p =>
  we_of (pe_ifExp pt_wt pe_we pe_we) (h σ H o l _ fun k H1 τ1 ⟨q1, q2⟩ o1 t1 => by
    cases k with
    | true => exact iteT (q1 rfl σ H1 o1 (l.tr t1) QQ (p.step t1))
    | false => exact iteF (q2 rfl σ H1 o1 (l.tr t1) QQ (p.step t1)))
/-! ### argument lists, displays -/
theorem da_nil {Q : List MV → Store → Prop} (q : Q [] τ) : Da X ρ τ [] Q := .mk fun σ H o l QQ p => wa_of pa_nil (p [] H [] τ q o .nil Tr.refl)
theorem da_cons {Q : List MV → Store → Prop} (h : De X ρ τ a fun x τ1 => Da X ρ τ1 es fun xs τ2 => Q (x :: xs) τ2) (hs : starEach (a :: es) X.env = (false, eval a X.env) :: starEach es X.env := by rfl) : Da X ρ τ (a :: es) Q := .mk fun σ H o l QQ p =>
  wa_of (pa_cons pe_we pa_wa hs) (h σ H o l _ fun v H1 x τ1 h1 o1 r1 t1 => h1 σ H1 o1 (l.tr t1) _ fun vs H2 xs τ2 q o2 r2 t2 => p _ H2 _ τ2 q o2 (.cons (r1.tr t2) r2) (t1.trans t2))
/-- all data -/
def vals : List MV → Option (List PyData)
  | [] => some []
  | .val d :: r => (vals r).map (d :: ·)
  | _ :: _ => none
theorem RvL.vals {K : PySem.W.Frag} {N : List Addr} {H : Hp} : ∀ {vs : List V} {svs : List MV} {ds : List PyData}, RvL K N H vs svs → Dl.vals svs = some ds → DnL K N H vs ds
  | _, _, _, .nil, e => by
    cases e
    exact .nil
  | _, .val d :: r, ds, .cons a b, e => by
    unfold Dl.vals at e
    cases h : Dl.vals r with
    | none => rw [h] at e; cases e
    | some es =>
      rw [h] at e
      cases e
      exact .cons a (RvL.vals b h)
  | _, .hdl _ :: _, _, _, e => by cases e
  | _, .scr _ :: _, _, _, e => by cases e
theorem de_tup {x1} (h : Da X ρ τ es fun xs τ1 => ∃ ds, vals xs = some ds ∧ ds.length ≤ 1000000 ∧ Q (.val (.tuple ds)) τ1) : De X ρ τ (.Tuple es x1 pos) Q := .mk fun σ H o l QQ p =>
  we_of (pe_tup pa_wa) (h σ H o l _ fun vs H1 xs τ1 ⟨ds, e, hl, q⟩ o1 r1 t1 => ⟨small_sz (by rw [(r1.vals e).length]; exact hl), (p.step t1).tup o1 (r1.vals e) q⟩)
theorem de_lst (h : Da X ρ τ es fun xs τ1 => ∃ ds, vals xs = some ds ∧ ds.length ≤ 1000000 ∧ Q (.val (.list ds)) τ1) : De X ρ τ (.List es pos) Q := .mk fun σ H o l QQ p =>
  we_of (pe_lst pa_wa) (h σ H o l _ fun vs H1 xs τ1 ⟨ds, e, hl, q⟩ o1 r1 t1 => ⟨small_sz (by rw [(r1.vals e).length]; exact hl), (p.step t1).lst o1 (r1.vals e) q⟩)
/-- a new list that will change -/
theorem de_lstM (h : Da X ρ τ es fun xs τ1 => ∃ ds, vals xs = some ds ∧ ds.length ≤ 1000000 ∧ ∀ l, l ∉ dom τ1 → Q (.hdl l) ((l, .lst ds) :: τ1)) : De X ρ τ (.List es pos) Q := .mk fun σ H o l QQ p =>
  we_of (pe_lst pa_wa) (h σ H o l _ fun vs H1 xs τ1 ⟨ds, e, hl, q⟩ o1 r1 t1 => ⟨small_sz (by rw [(r1.vals e).length]; exact hl), (p.step t1).lstM o1 (r1.vals e) q⟩)
end
end Dl

namespace Dl
open PySem PySem.Spec L2

/-! ### subscripts -/
section
variable {X : Cx} {ρ : En} {τ : Store} {Q : MV → Store → Prop} {pos p1 p2 p3 : Pos} {a b c : Expr} {es : List Expr}
def IxD (K : PySem.W.Frag) (x y : MV) (τ : Store) (Q : MV → Store → Prop) : Prop := OpD K (rIx K) x y τ Q
theorem atI_dn {K : PySem.W.Frag} {N : List Addr} {H : Hp} {vs : List V} {ds : List PyData} {i : Int} {d : PyData} (l : DnL K N H vs ds) (e : atI ds i = some d) : ∃ v, atI vs i = some v ∧ Dn K N H v d := by
  unfold atI at e ⊢
  rw [← l.length] at e
  cases h : ixN vs.length i with
  | none => rw [h] at e; cases e
  | some j =>
    rw [h] at e
    exact l.getD e
theorem ix_lst {K : PySem.W.Frag} {x : MV} {ds : List PyData} {i : Int} {d : PyData} (hx : datOf τ x = some (.list ds)) (e : atI ds i = some d) (q : Q (.val d) τ) : IxD K x (.val (.int i)) τ Q := .mk fun H v u o r1 r2 QQ p => by
  obtain ⟨a, vs, rfl, h1, l1⟩ := r1.seqL o hx
  cases r2
  obtain ⟨w, h2, h3⟩ := atI_dn l1 e
  exact .inl ⟨a, vs, i, w, rfl, rfl, h1, h2, p _ H _ τ q o h3 Tr.refl⟩
theorem ix_tup' {K : PySem.W.Frag} {ds : List PyData} {i : Int} {d : PyData} (e : atI ds i = some d) (q : Q (.val d) τ) : IxD K (.val (.tuple ds)) (.val (.int i)) τ Q := .mk fun H v u o r1 r2 QQ p => by
  obtain ⟨a, vs, rfl, h1, l1⟩ := r1.seqT o (rfl : datOf τ (.val (.tuple ds)) = some (.tuple ds))
  cases r2
  obtain ⟨w, h2, h3⟩ := atI_dn l1 e
  exact .inr (.inl ⟨a, vs, i, w, rfl, rfl, h1.sq, h2, p _ H _ τ q o h3 Tr.refl⟩)
theorem ix_str' {K : PySem.W.Frag} {z : Str} {i : Int} {ch : Nat} (hz : z.length ≤ 1000000) (e : atI z.cps.toList i = some ch) (q : Q (.val (.str ⟨#[ch]⟩)) τ) : IxD K (.val (.str z)) (.val (.int i)) τ Q := .mk fun H v u o r1 r2 QQ p => by
  cases r1
  cases r2
  exact .inr (.inr ⟨z, i, ch, rfl, rfl, small_sz hz, e, p _ H _ τ q o (Dn.str _) Tr.refl⟩)
theorem de_ix (h : De X ρ τ a fun x τ1 => De X ρ τ1 b fun y τ2 => IxD X.K x y τ2 Q) (hs : PlainIx b := by exact fun _ _ => rfl) : De X ρ τ (.Subscript a b pos) Q := .mk fun σ H o l QQ p => by
  refine we_of (pe_ix ix_seq pe_we pe_we hs) (h σ H o l _ fun v H1 x τ1 h1 o1 r1 t1 => ?_)
  exact h1 σ H1 o1 (l.tr t1) _ fun u H2 y τ2 h2 o2 r2 t2 => OpD.run h2 H2 v u o2 (r1.tr t2) r2 QQ ((p.step t1).step t2)
/-! slices -/
def cutD (ds : List PyData) (lo hi : Option Int) : List PyData := (ds.drop (HT.sIx ds.length 0 lo)).take (HT.sIx ds.length ds.length hi - HT.sIx ds.length 0 lo)
def Do (X : Cx) (ρ : En) (τ : Store) (e : Option Expr) (Q : Option Int → Store → Prop) : Prop := match e with
  | none => Q none τ
  | some e => De X ρ τ e fun x τ1 => ∃ i, x = .val (.int i) ∧ Q (some i) τ1
def Wo (X : Cx) (e : Option Expr) : TO := match e with
  | none => tNoPart
  | some e => tPart (We X e)
theorem po_wo {e : Option Expr} : PO X e (Wo X e) := by
  cases e with
  | none => exact po_none
  | some e => exact po_some pe_we
theorem wo_of {e : Option Expr} {σ : L2.St} {H : Hp} {Q : Option Int → Store → Prop} (h : Do X ρ τ e Q) (o : StOk X.K H τ) (l : SlOk X.K (dom τ) H σ ρ) {QQ : Option Int → Hp → Prop}
    (p : ∀ i H' τ', Q i τ' → StOk X.K H' τ' → Tr (dom τ) H (dom τ') H' → QQ i H') : Wo X e σ H QQ := by
  cases e with
  | none => exact p none H τ h o Tr.refl
  | some e =>
    refine De.run (show De X ρ τ e _ from h) σ H o l _ fun v H1 x τ1 ⟨i, ex, q⟩ o1 r1 t1 => ?_
    subst ex
    cases r1
    exact ⟨i, rfl, p (some i) H1 τ1 q o1 t1⟩
theorem do_none {Q : Option Int → Store → Prop} (q : Q none τ) : Do X ρ τ none Q := q
theorem do_some {Q : Option Int → Store → Prop} {e : Expr} (h : De X ρ τ e fun x τ1 => ∃ i, x = .val (.int i) ∧ Q (some i) τ1) : Do X ρ τ (some e) Q := h
def rSl (K : PySem.W.Frag) : V → Option Int → Option Int → Hp → VK → Prop := fun x lo hi H Q => rSlL K x lo hi H Q ∨ (rSlA K x lo hi H Q ∨ (∃ z, x = .str z ∧ z.length ≤ sizeLine ∧ Q (.str (cutS z lo hi)) H))
structure SlD (K : PySem.W.Frag) (x : MV) (lo hi : Option Int) (τ : Store) (Q : MV → Store → Prop) : Prop where
  run : ∀ (H : Hp) (v : V), StOk K H τ → Rv K (dom τ) H v x → ∀ QQ : VK, Pst K τ H Q QQ → rSl K v lo hi H QQ
instance {K : PySem.W.Frag} {x : MV} {lo hi : Option Int} {τ : Store} {Q : MV → Store → Prop} : CoeFun (SlD K x lo hi τ Q) fun _ => ∀ (H : Hp) (v : V), StOk K H τ → Rv K (dom τ) H v x → ∀ QQ : VK, Pst K τ H Q QQ → rSl K v lo hi H QQ := ⟨fun h => h.run⟩
theorem sl_all : SlR X (rSl X.K) := SlR.or sl_list (SlR.or sl_tupA sl_str)
theorem DnL.cut {K : PySem.W.Frag} {N : List Addr} {H : Hp} {vs : List V} {ds : List PyData} (l : DnL K N H vs ds) (lo hi : Option Int) : DnL K N H (cutV vs lo hi) (cutD ds lo hi) := by
  unfold cutV cutD
  rw [l.length]
  exact (l.drop _).take _
theorem sl_lst {K : PySem.W.Frag} {x : MV} {ds : List PyData} {lo hi : Option Int} (hx : datOf τ x = some (.list ds)) (q : Q (.val (.list (cutD ds lo hi))) τ) : SlD K x lo hi τ Q := .mk fun H v o r1 QQ p => by
  obtain ⟨a, vs, rfl, h1, l1⟩ := r1.seqL o hx
  exact .inl ⟨a, vs, rfl, h1, p.lst o (l1.cut lo hi) q⟩
theorem cutD_whole {ds : List PyData} {lo hi : Option Int} (hw : HT.sIx ds.length 0 lo = 0 ∧ HT.sIx ds.length ds.length hi = ds.length) : cutD ds lo hi = ds := by
  unfold cutD
  rw [hw.1, hw.2, List.drop_zero, Nat.sub_zero, List.take_length]
theorem sl_tup' {K : PySem.W.Frag} {ds : List PyData} {lo hi : Option Int} (q : Q (.val (.tuple (cutD ds lo hi))) τ) : SlD K (.val (.tuple ds)) lo hi τ Q := .mk fun H v o r1 QQ p => by
  obtain ⟨a, vs, rfl, h1, l1⟩ := r1.seqT o (rfl : datOf τ (.val (.tuple ds)) = some (.tuple ds))
  refine .inr (.inl ⟨a, vs, rfl, h1.sq, fun hw => ?_, fun hw => p.tup o (l1.cut lo hi) q⟩)
  rw [l1.length] at hw
  rw [cutD_whole hw] at q
  exact p _ H _ τ q o (Dn.tup h1 l1) Tr.refl
theorem sl_str' {K : PySem.W.Frag} {z : Str} {lo hi : Option Int} (hz : z.length ≤ 1000000) (q : Q (.val (.str (cutS z lo hi))) τ) : SlD K (.val (.str z)) lo hi τ Q := .mk fun H v o r1 QQ p => by
  cases r1
  exact .inr (.inr ⟨z, rfl, small_sz hz, p _ H _ τ q o (Dn.str _) Tr.refl⟩)
theorem de_slice {lo hi : Option Expr} (h : De X ρ τ a fun x τ1 => Do X ρ τ1 lo fun i τ2 => Do X ρ τ2 hi fun j τ3 => SlD X.K x i j τ3 Q) : De X ρ τ (.Subscript a (.Slice lo hi none p2) pos) Q := .mk fun σ H o l QQ p => by
  refine we_of (pe_slice sl_all pe_we po_wo po_wo) (h σ H o l _ fun v H1 x τ1 h1 o1 r1 t1 => ?_)
  refine wo_of h1 o1 (l.tr t1) fun i H2 τ2 h2 o2 t2 => wo_of h2 o2 ((l.tr t1).tr t2) fun j H3 τ3 h3 o3 t3 => ?_
  exact h3 H3 v o3 ((r1.tr t2).tr t3) QQ (((p.step t1).step t2).step t3)

/-! ### calls of builtins -/
theorem de_callB {r : List V → Hp → VK → Prop} {id : String} {x : Str} (hc : CallR X (.builtin id) r) (hg : Gl X x) (hm : X.mg x = none) (hv : bootBuiltins x = some (.builtin id)) (h : Da X ρ τ (a :: es) fun xs τ1 => CaD X.K r xs τ1 Q)
    (he : starEach (a :: es) X.env = (false, eval a X.env) :: starEach es X.env := by rfl) (hpl : (backTo pos (starEach es X.env)).any (·.1) = false := by rfl) (hn : x ≠ "__name__" := by decide) (hdb : (x == ("__debug__" : Str)) = false := by decide) :
    De X ρ τ (.Call (.Name x p1) (a :: es) [] pos) Q := .mk fun σ H o l QQ p =>
  we_of (pe_callB hc hg hm hv pa_wa hn hdb he hpl) (h σ H o l _ fun vs H1 xs τ1 h1 o1 r1 t1 => h1 H1 vs o1 r1 QQ (p.step t1))
theorem de_callTy {r : List V → Hp → VK → Prop} {T : String} {x : Str} (hc : CallR X (.type T) r) (hg : Gl X x) (hm : X.mg x = none) (hv : bootBuiltins x = some (.type T)) (h : Da X ρ τ (a :: es) fun xs τ1 => CaD X.K r xs τ1 Q)
    (he : starEach (a :: es) X.env = (false, eval a X.env) :: starEach es X.env := by rfl) (hpl : (backTo pos (starEach es X.env)).any (·.1) = false := by rfl) (hn : x ≠ "__name__" := by decide) (hdb : (x == ("__debug__" : Str)) = false := by decide) :
    De X ρ τ (.Call (.Name x p1) (a :: es) [] pos) Q := .mk fun σ H o l QQ p =>
  we_of (pe_callTy hc hg hm hv pa_wa hn hdb he hpl) (h σ H o l _ fun vs H1 xs τ1 h1 o1 r1 t1 => h1 H1 vs o1 r1 QQ (p.step t1))
theorem paired1 {α β : Type} {R : α → β → Prop} {vs : List α} {x : β} (h : Paired R vs [x]) : ∃ v, vs = [v] ∧ R v x := by
  cases h with
  | cons a b =>
    cases b
    exact ⟨_, rfl, a⟩
theorem paired2 {α β : Type} {R : α → β → Prop} {vs : List α} {x y : β} (h : Paired R vs [x, y]) : ∃ v u, vs = [v, u] ∧ R v x ∧ R u y := by
  cases h with
  | cons a b =>
    cases b with
    | cons c d =>
      cases d
      exact ⟨_, _, rfl, a, c⟩
/-! len -/
def LenD (K : PySem.W.Frag) (x : MV) (τ : Store) (Q : MV → Store → Prop) : Prop := CaD K (fun xs H Q => ∃ x n, xs = [x] ∧ LenV K x H n ∧ Q (.int n) H) [x] τ Q
theorem da_one {Q : List MV → Store → Prop} (h : De X ρ τ a fun x τ1 => Q [x] τ1) (hs : starEach [a] X.env = (false, eval a X.env) :: starEach [] X.env := by rfl) : Da X ρ τ [a] Q := da_cons (h.mono fun x τ1 h1 => da_nil h1) hs
theorem da_two {Q : List MV → Store → Prop} (h : De X ρ τ a fun x τ1 => De X ρ τ1 b fun y τ2 => Q [x, y] τ2) (hs : starEach [a, b] X.env = (false, eval a X.env) :: starEach [b] X.env := by rfl) (hs2 : starEach [b] X.env = (false, eval b X.env) :: starEach [] X.env := by rfl) : Da X ρ τ [a, b] Q :=
  da_cons (h.mono fun x τ1 h1 => da_one h1 hs2) hs
theorem de_len (B : Bl X.mg) (hg : Gl X "len") (h : De X ρ τ a fun x τ1 => LenD X.K x τ1 Q)
    (hs : starEach [a] X.env = (false, eval a X.env) :: starEach [] X.env := by rfl) : De X ρ τ (.Call (.Name "len" p1) [a] [] pos) Q := de_callB call_len hg B.h_len PySem.boot_len (da_one h hs) hs rfl
theorem len_lst {K : PySem.W.Frag} {x : MV} {ds : List PyData} (hx : datOf τ x = some (.list ds)) (q : Q (.val (.int ds.length)) τ) : LenD K x τ Q := .mk fun H vs o r QQ p => by
  obtain ⟨v, rfl, r1⟩ := paired1 r
  obtain ⟨a, ws, rfl, h1, l1⟩ := r1.seqL o hx
  exact ⟨_, ds.length, rfl, .inl ⟨ws, h1, l1.length.symm⟩, p _ H _ τ q o (Dn.int _) Tr.refl⟩
theorem len_tup {K : PySem.W.Frag} {ds : List PyData} (q : Q (.val (.int ds.length)) τ) : LenD K (.val (.tuple ds)) τ Q := .mk fun H vs o r QQ p => by
  obtain ⟨v, rfl, r1⟩ := paired1 r
  obtain ⟨a, ws, rfl, h1, l1⟩ := r1.seqT o (rfl : datOf τ (.val (.tuple ds)) = some (.tuple ds))
  exact ⟨_, ds.length, rfl, .inr ⟨ws, h1.sq, l1.length.symm⟩, p _ H _ τ q o (Dn.int _) Tr.refl⟩
theorem len_str {K : PySem.W.Frag} {z : Str} (hz : z.length ≤ 1000000) (q : Q (.val (.int z.length)) τ) : LenD K (.val (.str z)) τ Q := .mk fun H vs o r QQ p => by
  obtain ⟨v, rfl, r1⟩ := paired1 r
  cases r1
  exact ⟨_, z.length, rfl, ⟨small_sz hz, rfl⟩, p _ H _ τ q o (Dn.int _) Tr.refl⟩
/-! tuple, list -/
def TupD (K : PySem.W.Frag) (x : MV) (τ : Store) (Q : MV → Store → Prop) : Prop := CaD K (fun xs H Q => ∃ p ys, xs = [.ref p] ∧ ((SqL K H p ys ∧ ∀ l, H l = none → Q (.ref l) (upd H l (.tup ys))) ∨ (SqT K H p ys ∧ Q (.ref p) H))) [x] τ Q
theorem de_tuple (B : Bl X.mg) (hg : Gl X "tuple") (h : De X ρ τ a fun x τ1 => TupD X.K x τ1 Q)
    (hs : starEach [a] X.env = (false, eval a X.env) :: starEach [] X.env := by rfl) : De X ρ τ (.Call (.Name "tuple" p1) [a] [] pos) Q := de_callTy call_tuple_of hg B.h_tuple (by decide +kernel) (da_one h hs) hs rfl
theorem tup_lst {K : PySem.W.Frag} {x : MV} {ds : List PyData} (hx : datOf τ x = some (.list ds)) (q : Q (.val (.tuple ds)) τ) : TupD K x τ Q := .mk fun H vs o r QQ p => by
  obtain ⟨v, rfl, r1⟩ := paired1 r
  obtain ⟨a, ws, rfl, h1, l1⟩ := r1.seqL o hx
  exact ⟨a, ws, rfl, .inl ⟨h1, p.tup o l1 q⟩⟩
theorem tup_tup {K : PySem.W.Frag} {ds : List PyData} (q : Q (.val (.tuple ds)) τ) : TupD K (.val (.tuple ds)) τ Q := .mk fun H vs o r QQ p => by
  obtain ⟨v, rfl, r1⟩ := paired1 r
  obtain ⟨a, ws, rfl, h1, l1⟩ := r1.seqT o (rfl : datOf τ (.val (.tuple ds)) = some (.tuple ds))
  exact ⟨a, ws, rfl, .inr ⟨h1.sq, p _ H _ τ q o (Dn.tup h1 l1) Tr.refl⟩⟩
def LstD (K : PySem.W.Frag) (x : MV) (τ : Store) (Q : MV → Store → Prop) : Prop := CaD K (fun xs H Q => ∃ p ys, xs = [.ref p] ∧ (SqL K H p ys ∨ SqT K H p ys) ∧ ∀ l, H l = none → Q (.ref l) (upd H l (.lst ys))) [x] τ Q
theorem de_list (B : Bl X.mg) (hg : Gl X "list") (h : De X ρ τ a fun x τ1 => LstD X.K x τ1 Q)
    (hs : starEach [a] X.env = (false, eval a X.env) :: starEach [] X.env := by rfl) : De X ρ τ (.Call (.Name "list" p1) [a] [] pos) Q := de_callTy call_list_of hg B.h_list (by decide +kernel) (da_one h hs) hs rfl
theorem lst_lst {K : PySem.W.Frag} {x : MV} {ds : List PyData} (hx : datOf τ x = some (.list ds)) (q : Q (.val (.list ds)) τ) : LstD K x τ Q := .mk fun H vs o r QQ p => by
  obtain ⟨v, rfl, r1⟩ := paired1 r
  obtain ⟨a, ws, rfl, h1, l1⟩ := r1.seqL o hx
  exact ⟨a, ws, rfl, .inl h1, p.lst o l1 q⟩
/-! two ints: min, max; abs -/
abbrev MinD (K : PySem.W.Frag) (x y : MV) (τ : Store) (Q : MV → Store → Prop) : Prop := ∃ i j, x = .val (.int i) ∧ y = .val (.int j) ∧ Q (.val (.int (min i j))) τ
abbrev MaxD (K : PySem.W.Frag) (x y : MV) (τ : Store) (Q : MV → Store → Prop) : Prop := ∃ i j, x = .val (.int i) ∧ y = .val (.int j) ∧ Q (.val (.int (max i j))) τ
theorem de_min2 (B : Bl X.mg) (hc : X.calm = true) (hg : Gl X "min") (h : De X ρ τ a fun x τ1 => De X ρ τ1 b fun y τ2 => MinD X.K x y τ2 Q)
    (hs : starEach [a, b] X.env = (false, eval a X.env) :: starEach [b] X.env := by rfl) (hs2 : starEach [b] X.env = (false, eval b X.env) :: starEach [] X.env := by rfl) (hpl : (backTo pos (starEach [b] X.env)).any (·.1) = false := by rfl) : De X ρ τ (.Call (.Name "min" p1) [a, b] [] pos) Q :=
  de_callB (call_min2 hc) hg B.h_min (by decide +kernel) (da_two (h.mono fun x τ1 h1 => h1.mono fun y τ2 ⟨i, j, ex, ey, q⟩ => .mk fun H vs o r QQ p => by
    subst ex ey
    obtain ⟨v, u, rfl, r1, r2⟩ := paired2 r
    cases r1
    cases r2
    refine ⟨i, j, rfl, p _ H _ τ2 q o ?_ Tr.refl⟩
    have e : (if j < i then j else i) = min i j := by omega
    rw [e]
    exact Dn.int _) hs hs2) hs hpl
theorem de_max2 (B : Bl X.mg) (hc : X.calm = true) (hg : Gl X "max") (h : De X ρ τ a fun x τ1 => De X ρ τ1 b fun y τ2 => MaxD X.K x y τ2 Q)
    (hs : starEach [a, b] X.env = (false, eval a X.env) :: starEach [b] X.env := by rfl) (hs2 : starEach [b] X.env = (false, eval b X.env) :: starEach [] X.env := by rfl) (hpl : (backTo pos (starEach [b] X.env)).any (·.1) = false := by rfl) : De X ρ τ (.Call (.Name "max" p1) [a, b] [] pos) Q :=
  de_callB (call_max2 hc) hg B.h_max (by decide +kernel) (da_two (h.mono fun x τ1 h1 => h1.mono fun y τ2 ⟨i, j, ex, ey, q⟩ => .mk fun H vs o r QQ p => by
    subst ex ey
    obtain ⟨v, u, rfl, r1, r2⟩ := paired2 r
    cases r1
    cases r2
    refine ⟨i, j, rfl, p _ H _ τ2 q o ?_ Tr.refl⟩
    have e : (if j > i then j else i) = max i j := by omega
    rw [e]
    exact Dn.int _) hs hs2) hs hpl
theorem de_abs (B : Bl X.mg) (hg : Gl X "abs") (h : De X ρ τ a fun x τ1 => ∃ i, x = .val (.int i) ∧ Q (.val (.int (if i < 0 then -i else i))) τ1)
    (hs : starEach [a] X.env = (false, eval a X.env) :: starEach [] X.env := by rfl) : De X ρ τ (.Call (.Name "abs" p1) [a] [] pos) Q :=
  de_callB call_abs hg B.h_abs (by decide +kernel) (da_one (h.mono fun x τ1 ⟨i, ex, q⟩ => .mk fun H vs o r QQ p => by
    subst ex
    obtain ⟨v, rfl, r1⟩ := paired1 r
    cases r1
    exact ⟨i, rfl, p _ H _ τ1 q o (Dn.int _) Tr.refl⟩) hs) hs rfl
/-! lists of ints, of bools -/
theorem Rv.intsL {K : PySem.W.Frag} {H : Hp} {v : V} {x : MV} {ns : List Int} (o : StOk K H τ) (r : Rv K (dom τ) H v x) (e : datOf τ x = some (.list (ns.map .int))) : ∃ a, v = .ref a ∧ SqL K H a (ns.map V.int) := by
  obtain ⟨a, vs, rfl, h1, l1⟩ := r.seqL o e
  rw [l1.ints] at h1
  exact ⟨a, rfl, h1⟩
theorem Rv.boolsL {K : PySem.W.Frag} {H : Hp} {v : V} {x : MV} {bs : List Bool} (o : StOk K H τ) (r : Rv K (dom τ) H v x) (e : datOf τ x = some (.list (bs.map .bool))) : ∃ a, v = .ref a ∧ SqL K H a (bs.map V.bl) := by
  obtain ⟨a, vs, rfl, h1, l1⟩ := r.seqL o e
  rw [l1.bools] at h1
  exact ⟨a, rfl, h1⟩
theorem de_sum (B : Bl X.mg) (hc : X.calm = true) (hg : Gl X "sum") (h : De X ρ τ a fun x τ1 => ∃ ns : List Int, datOf τ1 x = some (.list (ns.map .int)) ∧ Q (.val (.int ns.sum)) τ1)
    (hs : starEach [a] X.env = (false, eval a X.env) :: starEach [] X.env := by rfl) : De X ρ τ (.Call (.Name "sum" p1) [a] [] pos) Q :=
  de_callB (cr_sum hc) hg B.h_sum (by decide +kernel) (da_one (h.mono fun x τ1 ⟨ns, ex, q⟩ => .mk fun H vs o r QQ p => by
    obtain ⟨v, rfl, r1⟩ := paired1 r
    obtain ⟨a, rfl, h1⟩ := r1.intsL o ex
    exact ⟨a, ns, rfl, h1, p _ H _ τ1 q o (Dn.int _) Tr.refl⟩) hs) hs rfl
def IsMax (ns : List Int) (m : Int) : Prop := m ∈ ns ∧ ∀ y ∈ ns, y ≤ m
def IsMin (ns : List Int) (m : Int) : Prop := m ∈ ns ∧ ∀ y ∈ ns, m ≤ y
theorem de_maxL (B : Bl X.mg) (hc : X.calm = true) (hg : Gl X "max") (h : De X ρ τ a fun x τ1 => ∃ ns : List Int, datOf τ1 x = some (.list (ns.map .int)) ∧ 0 < ns.length ∧ ∀ m, IsMax ns m → Q (.val (.int m)) τ1)
    (hs : starEach [a] X.env = (false, eval a X.env) :: starEach [] X.env := by rfl) : De X ρ τ (.Call (.Name "max" p1) [a] [] pos) Q :=
  de_callB (cr_max hc) hg B.h_max (by decide +kernel) (da_one (h.mono fun x τ1 ⟨ns, ex, hl, q⟩ => .mk fun H vs o r QQ p => by
    obtain ⟨v, rfl, r1⟩ := paired1 r
    obtain ⟨a, rfl, h1⟩ := r1.intsL o ex
    exact ⟨a, ns, rfl, h1, hl, fun m h2 h3 => p _ H _ τ1 (q m ⟨h2, h3⟩) o (Dn.int _) Tr.refl⟩) hs) hs rfl
theorem de_minL (B : Bl X.mg) (hc : X.calm = true) (hg : Gl X "min") (h : De X ρ τ a fun x τ1 => ∃ ns : List Int, datOf τ1 x = some (.list (ns.map .int)) ∧ 0 < ns.length ∧ ∀ m, IsMin ns m → Q (.val (.int m)) τ1)
    (hs : starEach [a] X.env = (false, eval a X.env) :: starEach [] X.env := by rfl) : De X ρ τ (.Call (.Name "min" p1) [a] [] pos) Q :=
  de_callB (cr_min hc) hg B.h_min (by decide +kernel) (da_one (h.mono fun x τ1 ⟨ns, ex, hl, q⟩ => .mk fun H vs o r QQ p => by
    obtain ⟨v, rfl, r1⟩ := paired1 r
    obtain ⟨a, rfl, h1⟩ := r1.intsL o ex
    exact ⟨a, ns, rfl, h1, hl, fun m h2 h3 => p _ H _ τ1 (q m ⟨h2, h3⟩) o (Dn.int _) Tr.refl⟩) hs) hs rfl
theorem de_all (B : Bl X.mg) (hc : X.calm = true) (hg : Gl X "all") (h : De X ρ τ a fun x τ1 => ∃ bs : List Bool, datOf τ1 x = some (.list (bs.map .bool)) ∧ Q (.val (.bool (bs.all id))) τ1)
    (hs : starEach [a] X.env = (false, eval a X.env) :: starEach [] X.env := by rfl) : De X ρ τ (.Call (.Name "all" p1) [a] [] pos) Q :=
  de_callB (cr_all hc) hg B.h_all (by decide +kernel) (da_one (h.mono fun x τ1 ⟨ns, ex, q⟩ => .mk fun H vs o r QQ p => by
    obtain ⟨v, rfl, r1⟩ := paired1 r
    obtain ⟨a, rfl, h1⟩ := r1.boolsL o ex
    exact ⟨a, ns, rfl, h1, p _ H _ τ1 q o (Dn.bl _) Tr.refl⟩) hs) hs rfl
theorem de_any (B : Bl X.mg) (hc : X.calm = true) (hg : Gl X "any") (h : De X ρ τ a fun x τ1 => ∃ bs : List Bool, datOf τ1 x = some (.list (bs.map .bool)) ∧ Q (.val (.bool (bs.any id))) τ1)
    (hs : starEach [a] X.env = (false, eval a X.env) :: starEach [] X.env := by rfl) : De X ρ τ (.Call (.Name "any" p1) [a] [] pos) Q :=
  de_callB (cr_any hc) hg B.h_any (by decide +kernel) (da_one (h.mono fun x τ1 ⟨ns, ex, q⟩ => .mk fun H vs o r QQ p => by
    obtain ⟨v, rfl, r1⟩ := paired1 r
    obtain ⟨a, rfl, h1⟩ := r1.boolsL o ex
    exact ⟨a, ns, rfl, h1, p _ H _ τ1 q o (Dn.bl _) Tr.refl⟩) hs) hs rfl
/-! isinstance(x, T), T a built-in type's name -/
inductive BT where
  | int | bool | str | tuple | list
def BT.nm : BT → String
  | .int => "int"
  | .bool => "bool"
  | .str => "str"
  | .tuple => "tuple"
  | .list => "list"
def tyName : PyData → String
  | .none => "NoneType"
  | .bool _ => "bool"
  | .int _ => "int"
  | .str _ => "str"
  | .list _ => "list"
  | .tuple _ => "tuple"
  | .dict _ => "dict"
theorem Dn.ty {K : PySem.W.Frag} {N : List Addr} {H : Hp} {v : V} {d : PyData} (h : Dn K N H v d) : TyX K H v (.type (tyName d)) := by
  cases h with
  | non => exact .base .non
  | bl b => exact .base (.bl b)
  | int i => exact .base (.int i)
  | str x => exact .base (.str x)
  | lst n l => exact .base (.lst n.2)
  | tup n l => exact .base (.tup n.2)
def isTy : BT → PyData → Bool
  | .int, .int _ => true
  | .int, .bool _ => true
  | .bool, .bool _ => true
  | .str, .str _ => true
  | .tuple, .tuple _ => true
  | .list, .list _ => true
  | _, _ => false
theorem kit_isTy {K : PySem.W.Frag} {T : BT} : ∀ {d : PyData} {N : List Addr} {H : Hp} {v : V}, Dn K N H v d → PySem.W.kitOne K (.type (tyName d)) (.type T.nm) = some (isTy T d) := by
  intro d N H v h
  cases T
  all_goals
    cases h <;> (refine kit_ty ?_; dsimp only [tyName, BT.nm, isTy]; decide +kernel)
theorem de_isi {T : Str} (TT : BT) (B : Bl X.mg) (hg : Gl X "isinstance") (hgT : Gl X T) (hmT : X.mg T = none) (hvT : bootBuiltins T = some (.type TT.nm))
    (h : De X ρ τ a fun x τ1 => ∃ d, x = .val d ∧ Q (.val (.bool (isTy TT d))) τ1)
    (hn : T ≠ "__name__" := by decide) (hd : (T == ("__debug__" : Str)) = false := by decide)
    (hs : starEach [a, .Name T p2] X.env = (false, eval a X.env) :: starEach [.Name T p2] X.env := by rfl) (hs2 : starEach [.Name T p2] X.env = (false, eval (.Name T p2) X.env) :: starEach [] X.env := by rfl) (hpl : (backTo pos (starEach [.Name T p2] X.env)).any (·.1) = false := by rfl) :
    De X ρ τ (.Call (.Name "isinstance" p1) [a, .Name T p2] [] pos) Q := .mk fun σ H o l QQ p => by
  refine we_of (pe_callB call_isi hg B.h_isinstance (by decide +kernel) (pa_cons pe_we (pa_cons (pe_bltn (v := .ty TT.nm) hgT hmT hvT rfl hn hd) pa_nil hs2) hs) (by decide) (by decide) hs hpl) ?_
  refine h σ H o l _ fun v H1 x τ1 ⟨d, ex, q⟩ o1 r1 t1 => ?_
  subst ex
  exact ⟨v, .ty TT.nm, .type (tyName d), .type TT.nm, isTy TT d, rfl, .ty TT.nm, Dn.ty r1, kit_isTy r1, p _ H1 _ τ1 q o1 (Dn.bl _) t1⟩

theorem de_isi_int (B : Bl X.mg) (hg : Gl X "isinstance") (hgT : Gl X "int") (h : De X ρ τ a fun x τ1 => ∃ d, x = .val d ∧ Q (.val (.bool (isTy .int d))) τ1)
    (hs : starEach [a, .Name "int" p2] X.env = (false, eval a X.env) :: starEach [.Name "int" p2] X.env := by rfl) (hs2 : starEach [.Name "int" p2] X.env = (false, eval (.Name "int" p2) X.env) :: starEach [] X.env := by rfl) (hpl : (backTo pos (starEach [.Name "int" p2] X.env)).any (·.1) = false := by rfl) :
    De X ρ τ (.Call (.Name "isinstance" p1) [a, .Name "int" p2] [] pos) Q := de_isi .int B hg hgT B.h_int (by decide +kernel) h (by decide) (by decide) hs hs2 hpl
theorem de_isi_bool (B : Bl X.mg) (hg : Gl X "isinstance") (hgT : Gl X "bool") (h : De X ρ τ a fun x τ1 => ∃ d, x = .val d ∧ Q (.val (.bool (isTy .bool d))) τ1)
    (hs : starEach [a, .Name "bool" p2] X.env = (false, eval a X.env) :: starEach [.Name "bool" p2] X.env := by rfl) (hs2 : starEach [.Name "bool" p2] X.env = (false, eval (.Name "bool" p2) X.env) :: starEach [] X.env := by rfl) (hpl : (backTo pos (starEach [.Name "bool" p2] X.env)).any (·.1) = false := by rfl) :
    De X ρ τ (.Call (.Name "isinstance" p1) [a, .Name "bool" p2] [] pos) Q := de_isi .bool B hg hgT B.h_bool (by decide +kernel) h (by decide) (by decide) hs hs2 hpl
theorem de_isi_tuple (B : Bl X.mg) (hg : Gl X "isinstance") (hgT : Gl X "tuple") (h : De X ρ τ a fun x τ1 => ∃ d, x = .val d ∧ Q (.val (.bool (isTy .tuple d))) τ1)
    (hs : starEach [a, .Name "tuple" p2] X.env = (false, eval a X.env) :: starEach [.Name "tuple" p2] X.env := by rfl) (hs2 : starEach [.Name "tuple" p2] X.env = (false, eval (.Name "tuple" p2) X.env) :: starEach [] X.env := by rfl) (hpl : (backTo pos (starEach [.Name "tuple" p2] X.env)).any (·.1) = false := by rfl) :
    De X ρ τ (.Call (.Name "isinstance" p1) [a, .Name "tuple" p2] [] pos) Q := de_isi .tuple B hg hgT B.h_tuple (by decide +kernel) h (by decide) (by decide) hs hs2 hpl
theorem de_isi_str (B : Bl X.mg) (hg : Gl X "isinstance") (hgT : Gl X "str") (h : De X ρ τ a fun x τ1 => ∃ d, x = .val d ∧ Q (.val (.bool (isTy .str d))) τ1)
    (hs : starEach [a, .Name "str" p2] X.env = (false, eval a X.env) :: starEach [.Name "str" p2] X.env := by rfl) (hs2 : starEach [.Name "str" p2] X.env = (false, eval (.Name "str" p2) X.env) :: starEach [] X.env := by rfl) (hpl : (backTo pos (starEach [.Name "str" p2] X.env)).any (·.1) = false := by rfl) :
    De X ρ τ (.Call (.Name "isinstance" p1) [a, .Name "str" p2] [] pos) Q := de_isi .str B hg hgT B.h_str (by decide +kernel) h (by decide) (by decide) hs hs2 hpl

/-! ### a def of the text that keeps a promise -/
/-- a promise over data and store: arguments, store, what is wanted -/
abbrev Ctr := List MV → Store → (MV → Store → Prop) → Prop
def spC (K : PySem.W.Frag) (C : Ctr) : Sp := fun vs H Q _ => ∃ τ svs QQ, StOk K H τ ∧ RvL K (dom τ) H vs svs ∧ C svs τ QQ ∧ Pst K τ H QQ Q
structure Knows (P : Program) (w : World) (K : PySem.W.Frag) (mg : Str → Option Value) (base : Heap) (k : Nat) (x : Str) (C : Ctr) : Prop where
  ex : ∃ (f : Addr) (fd : FuncData) (ps : List Str), FnOk P w K mg base CX0 k f fd ps (spC K C) ∧ mg x = some (.ref f) ∧ PySem.W.keepIn K (.ref f) = true ∧ Binds K fd ps []
theorem Knows.imp {P : Program} {w : World} {K : PySem.W.Frag} {mg : Str → Option Value} {base : Heap} {k : Nat} {x : Str} {C C' : Ctr} (h : Knows P w K mg base k x C) (i : ∀ svs τ Q, C' svs τ Q → C svs τ Q) : Knows P w K mg base k x C' := by
  obtain ⟨f, fd, ps, F, g, kp, b⟩ := h.ex
  exact ⟨f, fd, ps, F.imp fun vs H Q E ⟨τ, svs, QQ, o, r, c, p⟩ => ⟨τ, svs, QQ, o, r, i _ _ _ c, p⟩, g, kp, b⟩
theorem Knows.mono {P : Program} {w : World} {K : PySem.W.Frag} {mg : Str → Option Value} {base : Heap} {j k : Nat} {x : Str} {C : Ctr} (h : Knows P w K mg base j x C) (hk : j ≤ k) : Knows P w K mg base k x C := by
  obtain ⟨f, fd, ps, F, g, kp, b⟩ := h.ex
  exact ⟨f, fd, ps, F.mono hk, g, kp, b⟩
theorem de_call {k j : Nat} {x : Str} {C : Ctr} (F : Knows X.prog X.w X.K X.mg X.base k x C) (hr : Room j X.A) (hg : Gl X x) (h : Da X ρ τ (a :: es) fun xs τ1 => C xs τ1 Q) (hk : k ≤ j := by decide)
    (hdb : (x == ("__debug__" : Str)) = false := by decide) (he : starEach (a :: es) X.env = (false, eval a X.env) :: starEach es X.env := by rfl) (hpl : (backTo pos (starEach es X.env)).any (·.1) = false := by rfl) :
    De X ρ τ (.Call (.Name x p1) (a :: es) [] pos) Q := .mk fun σ H o l QQ p => by
  obtain ⟨f, fd, ps, F, g, kp, b⟩ := F.ex
  refine we_of (pe_call F (hr.mono hk) hg g kp b .nil pass0 pa_wa hdb he hpl) (h σ H o l _ fun vs H1 xs τ1 h1 o1 r1 t1 => ?_)
  rw [List.append_nil]
  exact ⟨τ1, xs, Q, o1, r1, h1, p.step t1⟩
end
end Dl

namespace Dl
open PySem PySem.Spec L2

/-! ### what is walked: items as data. S: what the store must keep while it is walked -/
structure Walks (K : PySem.W.Frag) (J : It) (H1 : Hp) (τ1 : Store) (S : Store → Prop) (ds : List PyData) : Prop where
  go : ∀ (i : Nat) (H : Hp) (τ : Store), i < ds.length → Tr (dom τ1) H1 (dom τ) H → StOk K H τ → S τ → J.go i H
  yld : ∀ (i : Nat) (H : Hp) (τ : Store) (x : V) (H' : Hp), i < ds.length → Tr (dom τ1) H1 (dom τ) H → StOk K H τ → S τ → J.yld i H x H' → ∃ d, ds[i]? = some d ∧ Tr (dom τ) H (dom τ) H' ∧ StOk K H' τ ∧ Dn K (dom τ) H' x d
  stop : ∀ (i : Nat) (H : Hp) (τ : Store), ds.length ≤ i → Tr (dom τ1) H1 (dom τ) H → StOk K H τ → S τ → J.stop i H
abbrev AnyS : Store → Prop := fun _ => True
section
variable {K : PySem.W.Frag} {H1 : Hp} {τ1 : Store}
theorem walks_tup {a : Addr} {vs : List V} {ds : List PyData} (n : NdT (dom τ1) H1 a vs) (l : DnL K (dom τ1) H1 vs ds) : Walks K (Itt K a) H1 τ1 AnyS ds where
  go := fun i H τ hi t o _ => by
    have n' := n.tr t
    have hi' : i < vs.length := by rw [l.length]; exact hi
    exact ⟨vs, vs[i], n'.sq, List.getElem?_eq_getElem hi'⟩
  yld := fun i H τ x H' hi t o _ y => by
    obtain ⟨rfl, y⟩ := y
    have hx := y vs (n.tr t).sq
    obtain ⟨d, h1, h2⟩ := (l.tr t).get hx
    exact ⟨d, h1, Tr.refl, o, h2⟩
  stop := fun i H τ hi t o _ => ⟨vs, (n.tr t).sq, by rw [l.length]; exact hi⟩
theorem walks_lst {a : Addr} {vs : List V} {ds : List PyData} (n : NdL (dom τ1) H1 a vs) (l : DnL K (dom τ1) H1 vs ds) : Walks K (Itl K a) H1 τ1 AnyS ds where
  go := fun i H τ hi t o _ => by
    have n' := n.tr t
    have hi' : i < vs.length := by rw [l.length]; exact hi
    exact ⟨vs, vs[i], n'.sq, List.getElem?_eq_getElem hi'⟩
  yld := fun i H τ x H' hi t o _ y => by
    obtain ⟨rfl, y⟩ := y
    have hx := y vs (n.tr t).sq
    obtain ⟨d, h1, h2⟩ := (l.tr t).get hx
    exact ⟨d, h1, Tr.refl, o, h2⟩
  stop := fun i H τ hi t o _ => ⟨vs, (n.tr t).sq, by rw [l.length]; exact hi⟩
/-- a list of the store, walked while it stands -/
theorem walks_hdl {a : Addr} {ds : List PyData} : Walks K (Itl K a) H1 τ1 (fun τ => τ.lookup a = some (.lst ds)) ds where
  go := fun i H τ hi t o e => by
    obtain ⟨vs, h1, l⟩ := o.get e
    have hi' : i < vs.length := by rw [l.length]; exact hi
    exact ⟨vs, vs[i], SqL.of h1, List.getElem?_eq_getElem hi'⟩
  yld := fun i H τ x H' hi t o e y => by
    obtain ⟨vs, h1, l⟩ := o.get e
    obtain ⟨rfl, y⟩ := y
    obtain ⟨d, h2, h3⟩ := l.get (y vs (SqL.of h1))
    exact ⟨d, h2, Tr.refl, o, h3⟩
  stop := fun i H τ hi t o e => by
    obtain ⟨vs, h1, l⟩ := o.get e
    exact ⟨vs, SqL.of h1, by rw [l.length]; exact hi⟩
def rangeD (lo : Int) (n : Nat) : List PyData := (List.range n).map fun i => .int (lo + (i : Nat))
theorem rangeD_length (lo : Int) (n : Nat) : (rangeD lo n).length = n := by unfold rangeD; rw [List.length_map, List.length_range]
theorem rangeD_get {lo : Int} {n i : Nat} (h : i < n) : (rangeD lo n)[i]? = some (.int (lo + (i : Nat))) := by
  unfold rangeD
  rw [List.getElem?_map, List.getElem?_range h]
  rfl
theorem walks_range {lo : Int} {n : Nat} : Walks K (Itr lo n) H1 τ1 AnyS (rangeD lo n) where
  go := fun i H τ hi t o _ => by
    rw [rangeD_length] at hi
    exact hi
  yld := fun i H τ x H' hi t o _ y => by
    rw [rangeD_length] at hi
    obtain ⟨rfl, rfl⟩ := y
    exact ⟨_, rangeD_get hi, Tr.refl, o, Dn.int _⟩
  stop := fun i H τ hi t o _ => by
    rw [rangeD_length] at hi
    exact hi
def zipD (ds es : List PyData) : List PyData := (ds.zip es).map fun p => .tuple [p.1, p.2]
theorem zipD_length (ds es : List PyData) : (zipD ds es).length = min ds.length es.length := by unfold zipD; rw [List.length_map, List.length_zip]
theorem zipD_get {ds es : List PyData} {i : Nat} {d e : PyData} (h : ds[i]? = some d) (h' : es[i]? = some e) : (zipD ds es)[i]? = some (.tuple [d, e]) := by
  unfold zipD
  rw [List.getElem?_map, (List.getElem?_zip_eq_some (z := (d, e))).mpr ⟨h, h'⟩]
  rfl
theorem walks_zipT {a b : Addr} {vs us : List V} {ds es : List PyData} (n : NdT (dom τ1) H1 a vs) (l : DnL K (dom τ1) H1 vs ds) (n' : NdT (dom τ1) H1 b us) (l' : DnL K (dom τ1) H1 us es) : Walks K (RZ.ItzT K a b) H1 τ1 AnyS (zipD ds es) where
  go := fun i H τ hi t o _ => by
    rw [zipD_length] at hi
    have h1 : i < vs.length := by rw [l.length]; omega
    have h2 : i < us.length := by rw [l'.length]; omega
    exact ⟨vs, us, vs[i], us[i], (n.tr t).sq, (n'.tr t).sq, List.getElem?_eq_getElem h1, List.getElem?_eq_getElem h2⟩
  yld := fun i H τ x H' hi t o _ y => by
    obtain ⟨T, x1, x2, rfl, hT, rfl, y1, y2⟩ := y
    obtain ⟨d, h1, h2⟩ := (l.tr t).get (y1 vs (n.tr t).sq)
    obtain ⟨e, h3, h4⟩ := (l'.tr t).get (y2 us (n'.tr t).sq)
    exact ⟨_, zipD_get h1 h3, Tr.new hT, o.new hT, Dn.tup ⟨o.fresh hT, upd_same⟩ (.cons (h2.tr (Tr.new hT)) (.cons (h4.tr (Tr.new hT)) .nil))⟩
  stop := fun i H τ hi t o _ => by
    rw [zipD_length] at hi
    have := l.length
    have := l'.length
    exact ⟨vs, us, (n.tr t).sq, (n'.tr t).sq, by omega⟩
theorem walks_zipL {a b : Addr} {vs us : List V} {ds es : List PyData} (n : NdL (dom τ1) H1 a vs) (l : DnL K (dom τ1) H1 vs ds) (n' : NdL (dom τ1) H1 b us) (l' : DnL K (dom τ1) H1 us es) : Walks K (Itz K a b) H1 τ1 AnyS (zipD ds es) where
  go := fun i H τ hi t o _ => by
    rw [zipD_length] at hi
    have h1 : i < vs.length := by rw [l.length]; omega
    have h2 : i < us.length := by rw [l'.length]; omega
    exact ⟨vs, us, vs[i], us[i], (n.tr t).sq, (n'.tr t).sq, List.getElem?_eq_getElem h1, List.getElem?_eq_getElem h2⟩
  yld := fun i H τ x H' hi t o _ y => by
    obtain ⟨T, x1, x2, rfl, hT, rfl, y1, y2⟩ := y
    obtain ⟨d, h1, h2⟩ := (l.tr t).get (y1 vs (n.tr t).sq)
    obtain ⟨e, h3, h4⟩ := (l'.tr t).get (y2 us (n'.tr t).sq)
    exact ⟨_, zipD_get h1 h3, Tr.new hT, o.new hT, Dn.tup ⟨o.fresh hT, upd_same⟩ (.cons (h2.tr (Tr.new hT)) (.cons (h4.tr (Tr.new hT)) .nil))⟩
  stop := fun i H τ hi t o _ => by
    rw [zipD_length] at hi
    have := l.length
    have := l'.length
    exact ⟨vs, us, (n.tr t).sq, (n'.tr t).sq, by omega⟩
end
/-- an expression that is walked -/
structure Di (X : Cx) (tg : Expr) (ρ : En) (τ : Store) (iter : Expr) (Q : List PyData → (Store → Prop) → Store → Prop) : Prop where
  run : ∀ (σ : L2.St) (H : Hp), StOk X.K H τ → SlOk X.K (dom τ) H σ ρ → ∀ R : It → Hp → Prop, (∀ J H1 ds S τ1, Q ds S τ1 → StOk X.K H1 τ1 → Tr (dom τ) H (dom τ1) H1 → Walks X.K J H1 τ1 S ds → R J H1) → Wi X tg iter σ H R
instance {X : Cx} {tg : Expr} {ρ : En} {τ : Store} {iter : Expr} {Q : List PyData → (Store → Prop) → Store → Prop} : CoeFun (Di X tg ρ τ iter Q) fun _ => ∀ (σ : L2.St) (H : Hp), StOk X.K H τ → SlOk X.K (dom τ) H σ ρ → ∀ R : It → Hp → Prop, (∀ J H1 ds S τ1, Q ds S τ1 → StOk X.K H1 τ1 → Tr (dom τ) H (dom τ1) H1 → Walks X.K J H1 τ1 S ds → R J H1) → Wi X tg iter σ H R := ⟨fun h => h.run⟩
section
variable {X : Cx} {tg : Expr} {ρ : En} {τ : Store} {Q : List PyData → (Store → Prop) → Store → Prop} {pos p1 : Pos} {a b : Expr}
theorem di_tup (h : De X ρ τ a fun x τ1 => ∃ ds, x = .val (.tuple ds) ∧ Q ds AnyS τ1) : Di X tg ρ τ a Q := .mk fun σ H o l R p =>
  wi_of (pi_tup pe_we) (h σ H o l _ fun v H1 x τ1 ⟨ds, ex, q⟩ o1 r1 t1 => by
    subst ex
    cases r1 with
    | @tup a vs _ n1 l1 => exact ⟨a, rfl, ⟨vs, n1.sq⟩, p _ H1 ds AnyS τ1 q o1 t1 (walks_tup n1 l1)⟩)
theorem di_lst (h : De X ρ τ a fun x τ1 => ∃ ds, x = .val (.list ds) ∧ Q ds AnyS τ1) : Di X tg ρ τ a Q := .mk fun σ H o l R p =>
  wi_of (pi_list pe_we) (h σ H o l _ fun v H1 x τ1 ⟨ds, ex, q⟩ o1 r1 t1 => by
    subst ex
    cases r1 with
    | @lst a vs _ n1 l1 => exact ⟨a, rfl, ⟨vs, n1.sq⟩, p _ H1 ds AnyS τ1 q o1 t1 (walks_lst n1 l1)⟩)
theorem di_hdl (h : De X ρ τ a fun x τ1 => ∃ l ds, x = .hdl l ∧ τ1.lookup l = some (.lst ds) ∧ Q ds (fun τ => τ.lookup l = some (.lst ds)) τ1) : Di X tg ρ τ a Q := .mk fun σ H o l R p =>
  wi_of (pi_list pe_we) (h σ H o l _ fun v H1 x τ1 ⟨l', ds, ex, e, q⟩ o1 r1 t1 => by
    subst ex
    cases r1
    obtain ⟨vs, h1, _⟩ := o1.get e
    exact ⟨l', rfl, ⟨vs, SqL.of h1⟩, p _ H1 ds _ τ1 q o1 t1 walks_hdl⟩)
theorem di_range1 (B : Bl X.mg) (hg : Gl X "range") (h : De X ρ τ a fun x τ1 => ∃ n, x = .val (.int n) ∧ n ≤ 1000000 ∧ -1000000 ≤ n ∧ Q (rangeD 0 n.toNat) AnyS τ1)
    (hs : starEach [a] X.env = [(false, eval a X.env)] := by rfl) : Di X tg ρ τ (.Call (.Name "range" p1) [a] [] pos) Q := .mk fun σ H o l R p =>
  wi_of (pi_range1 hg B.h_range (pa_cons pe_we pa_nil hs) hs) (h σ H o l _ fun v H1 x τ1 ⟨n, ex, h1, h2, q⟩ o1 r1 t1 => by
    subst ex
    cases r1
    exact ⟨n, rfl, by omega, by omega, p _ H1 _ AnyS τ1 q o1 t1 walks_range⟩)
theorem di_range2 (B : Bl X.mg) (hg : Gl X "range") (h : De X ρ τ a fun x τ1 => De X ρ τ1 b fun y τ2 => ∃ m n, x = .val (.int m) ∧ y = .val (.int n) ∧ (-1000000 ≤ m ∧ m ≤ 1000000) ∧ (-1000000 ≤ n ∧ n ≤ 1000000) ∧ Q (rangeD m (n - m).toNat) AnyS τ2)
    (hs : starEach [a, b] X.env = [(false, eval a X.env), (false, eval b X.env)] := by rfl) (hs2 : starEach [b] X.env = [(false, eval b X.env)] := by rfl) : Di X tg ρ τ (.Call (.Name "range" p1) [a, b] [] pos) Q := .mk fun σ H o l R p => by
  have hs' : starEach [a, b] X.env = (false, eval a X.env) :: starEach [b] X.env := by rw [hs, hs2]
  refine wi_of (pi_range2 hg B.h_range (pa_cons pe_we (pa_cons pe_we pa_nil hs2) hs') hs hs2) (h σ H o l _ fun v H1 x τ1 h1 o1 r1 t1 => ?_)
  refine h1 σ H1 o1 (l.tr t1) _ fun u H2 y τ2 ⟨m, n, ex, ey, hm, hn, q⟩ o2 r2 t2 => ?_
  subst ex ey
  cases r1
  cases r2
  exact ⟨m, n, rfl, by omega, p _ H2 _ AnyS τ2 q o2 (t1.trans t2) walks_range⟩
theorem di_zip {elts : List Expr} {kk : Nat} {tpos : Pos} {Q : List PyData → (Store → Prop) → Store → Prop} (B : Bl X.mg) (hg : Gl X "zip") (h : De X ρ τ a fun x τ1 => De X ρ τ1 b fun y τ2 => ∃ ds es, ((x = .val (.tuple ds) ∧ y = .val (.tuple es)) ∨ (x = .val (.list ds) ∧ y = .val (.list es))) ∧ Q (zipD ds es) AnyS τ2)
    (hs : starEach [a, b] X.env = (false, eval a X.env) :: starEach [b] X.env := by rfl) (hs2 : starEach [b] X.env = (false, eval b X.env) :: starEach [] X.env := by rfl) (hpl : (backTo pos (starEach [b] X.env)).any (·.1) = false := by rfl) : Di X (.Tuple elts kk tpos) ρ τ (.Call (.Name "zip" p1) [a, b] [] pos) Q := .mk fun σ H o l R p => by
  refine wi_of (RZ.pi_zipA hg B.h_zip (pa_cons pe_we (pa_cons pe_we pa_nil hs2) hs) hs hpl) (h σ H o l _ fun v H1 x τ1 h1 o1 r1 t1 => ?_)
  refine h1 σ H1 o1 (l.tr t1) _ fun u H2 y τ2 ⟨ds, es, hxy, q⟩ o2 r2 t2 => ?_
  have r1' := r1.tr t2
  rcases hxy with ⟨ex, ey⟩ | ⟨ex, ey⟩
  · subst ex ey
    cases r1' with
    | @tup a vs _ n1 l1 =>
    cases r2 with
    | @tup b us _ n2 l2 =>
    exact ⟨a, b, vs, us, rfl, .inr ⟨n1.sq, n2.sq, p _ H2 _ AnyS τ2 q o2 (t1.trans t2) (walks_zipT n1 l1 n2 l2)⟩⟩
  · subst ex ey
    cases r1' with
    | @lst a vs _ n1 l1 =>
    cases r2 with
    | @lst b us _ n2 l2 =>
    exact ⟨a, b, vs, us, rfl, .inl ⟨n1.sq, n2.sq, p _ H2 _ AnyS τ2 q o2 (t1.trans t2) (walks_zipL n1 l1 n2 l2)⟩⟩
end

/-! ### targets: a name, a tuple of names -/
inductive Tg where
  | name (j : Nat) | tup (js : List Nat)
def setAll {α : Type} (σ : List (Option α)) : List Nat → List α → List (Option α)
  | j :: js, v :: vs => setAll (σ.set j (some v)) js vs
  | _, _ => σ
def tgR (K : PySem.W.Frag) : Tg → TG
  | .name j => gName j
  | .tup js => fun v σ H Q => ∃ a xs, v = .ref a ∧ SqT K H a xs ∧ xs.length = js.length ∧ Q (setAll σ js xs) H
/-- the slots behind a store of d -/
def bindD (ρ : En) : Tg → PyData → Option En
  | .name j, d => some (ρ.set j (some (.val d)))
  | .tup js, .tuple ds => if ds.length = js.length then some (setAll ρ js (ds.map .val)) else none
  | .tup _, _ => none
theorem bindD_tup {ρ ρ2 : En} {js : List Nat} {ds : List PyData} (e : bindD ρ (.tup js) (.tuple ds) = some ρ2) : ds.length = js.length ∧ setAll ρ js (ds.map .val) = ρ2 := by
  have e' : (if ds.length = js.length then some (setAll ρ js (ds.map MV.val)) else none) = some ρ2 := e
  by_cases hl : ds.length = js.length
  · rw [if_pos hl] at e'
    exact ⟨hl, Option.some.inj e'⟩
  · rw [if_neg hl] at e'
    cases e'
theorem SlOk.setAll {K : PySem.W.Frag} {N : List Addr} {H : Hp} : ∀ {js : List Nat} {vs : List V} {ds : List PyData} {σ : L2.St} {ρ : En}, SlOk K N H σ ρ → DnL K N H vs ds → SlOk K N H (Dl.setAll σ js vs) (Dl.setAll ρ js (ds.map .val))
  | [], _, _, _, _, h, _ => h
  | _ :: _, _, _, _, _, h, .nil => h
  | j :: js, _, _, σ, ρ, h, .cons (v := v) (d := d) a b => SlOk.setAll (js := js) (h.set (sv := .val d) a j) b
theorem tgR_ok {K : PySem.W.Frag} {N : List Addr} {H : Hp} {t : Tg} {d : PyData} {v : V} {σ : L2.St} {ρ ρ2 : En} (h : SlOk K N H σ ρ) (e : bindD ρ t d = some ρ2) (r : Dn K N H v d) {Q : L2.St → Hp → Prop} (q : ∀ σ2, SlOk K N H σ2 ρ2 → Q σ2 H) : tgR K t v σ H Q := by
  cases t with
  | name j =>
    cases e
    exact q _ (h.set (sv := .val d) r j)
  | tup js =>
    cases d with
    | tuple ds =>
      obtain ⟨hl, rfl⟩ := bindD_tup e
      cases r with
      | @tup a vs _ n1 l1 => exact ⟨a, vs, rfl, n1.sq, by rw [l1.length]; exact hl, q _ (h.setAll l1)⟩
    | _ => cases e
/-- the target as it stands in the text -/
def PGx (X : Cx) (tg : Expr) (t : Tg) : Prop := PG X tg (tgR X.K t)
section
variable {X : Cx} {pos p1 p2 p3 : Pos} {kk : Nat}
theorem PG.weak {tg : Expr} {g g' : TG} (h : PG X tg g) (i : ∀ v σ H Q, g' v σ H Q → g v σ H Q) : PG X tg g' := ⟨fun pins s σ H v u Q I r q => h.run pins s σ H v u Q I r (i _ _ _ _ q)⟩
theorem pgx_name {j : Nat} {x : Str} (hN : X.N.Nodup) (hi : X.N[j]? = some x) (hx : Loc X.env.scope x) (hf : X.fn x = true ∨ X.env.scope.names.lookup x = some .local := by first | exact .inl rfl | exact .inr rfl) : PGx X (.Name x pos) (.name j) := pg_name hN hi hx hf
theorem pgx_tup2 {i j : Nat} {e1 e2 : Expr} (hc : X.calm = true) (h1 : PG X e1 (gName i)) (h2 : PG X e2 (gName j))
    (hs : (assignEach [e1, e2] X.env).map (·.2) = assign e1 X.env :: (assignEach [e2] X.env).map (·.2) := by rfl) (hs2 : (assignEach [e2] X.env).map (·.2) = assign e2 X.env :: (assignEach [] X.env).map (·.2) := by rfl)
    (hn : (assignEach [e1, e2] X.env).length = 2 := by rfl) (hst : (assignEach [e1, e2] X.env).findIdx? (·.1) = none := by rfl) : PGx X (.Tuple [e1, e2] kk pos) (.tup [i, j]) :=
  PG.weak (pg_tup hc (pgs_cons h1 (pgs_cons h2 pgs_nil hs2) hs) hn hst) fun v σ H Q ⟨a, xs, e, h, hl, q⟩ => by
    match xs, hl with
    | [x, y], _ => exact ⟨a, [x, y], e, h, rfl, x, [y], rfl, y, [], rfl, rfl, q⟩
theorem pgx_tup3 {i j k : Nat} {e1 e2 e3 : Expr} (hc : X.calm = true) (h1 : PG X e1 (gName i)) (h2 : PG X e2 (gName j)) (h3 : PG X e3 (gName k))
    (hs : (assignEach [e1, e2, e3] X.env).map (·.2) = assign e1 X.env :: (assignEach [e2, e3] X.env).map (·.2) := by rfl) (hs2 : (assignEach [e2, e3] X.env).map (·.2) = assign e2 X.env :: (assignEach [e3] X.env).map (·.2) := by rfl)
    (hs3 : (assignEach [e3] X.env).map (·.2) = assign e3 X.env :: (assignEach [] X.env).map (·.2) := by rfl)
    (hn : (assignEach [e1, e2, e3] X.env).length = 3 := by rfl) (hst : (assignEach [e1, e2, e3] X.env).findIdx? (·.1) = none := by rfl) : PGx X (.Tuple [e1, e2, e3] kk pos) (.tup [i, j, k]) :=
  PG.weak (pg_tup hc (pgs_cons h1 (pgs_cons h2 (pgs_cons h3 pgs_nil hs3) hs2) hs) hn hst) fun v σ H Q ⟨a, xs, e, h, hl, q⟩ => by
    match xs, hl with
    | [x, y, z], _ => exact ⟨a, [x, y, z], e, h, rfl, x, [y, z], rfl, y, [z], rfl, z, [], rfl, rfl, q⟩
end
/-- slots of a target -/
def Tg.slots : Tg → List Nat
  | .name j => [j]
  | .tup js => js
theorem wipe_set {σ : L2.St} {o : Option V} : ∀ {vs : List Nat} {j : Nat}, j ∈ vs → wipe (σ.set j o) vs = wipe σ vs
  | v :: vs, j, h => by
    unfold wipe
    by_cases e : j = v
    · subst e
      by_cases hm : j ∈ vs
      · rw [wipe_set hm]
      · have c : ∀ vs : List Nat, j ∉ vs → wipe (σ.set j o) vs = (wipe σ vs).set j o := by
          intro vs
          induction vs with
          | nil => intro _; rfl
          | cons u us ih =>
            intro hn
            simp only [List.mem_cons, not_or] at hn
            show (wipe (σ.set j o) us).set u none = ((wipe σ us).set u none).set j o
            rw [ih hn.2, List.set_comm _ _ hn.1]
        rw [c vs hm, List.set_set]
    · have hm : j ∈ vs := by
        rcases List.mem_cons.mp h with h | h
        · exact absurd h e
        · exact h
      rw [wipe_set hm]
theorem wipe_wipe (σ : L2.St) : ∀ (vs us : List Nat), (∀ v ∈ vs, v ∈ us) → wipe (wipe σ vs) us = wipe σ us
  | [], _, _ => rfl
  | v :: vs, us, h => by
    show wipe ((wipe σ vs).set v none) us = wipe σ us
    rw [wipe_set (h v List.mem_cons_self), wipe_wipe σ vs us fun u hu => h u (List.mem_cons_of_mem _ hu)]
theorem wipe_setAll {us : List Nat} : ∀ {js : List Nat} {vs : List V} {σ : L2.St}, (∀ j ∈ js, j ∈ us) → wipe (setAll σ js vs) us = wipe σ us
  | [], _, _, _ => rfl
  | _ :: _, [], _, _ => rfl
  | j :: js, v :: vs, σ, h => by
    show wipe (setAll (σ.set j (some v)) js vs) us = wipe σ us
    rw [wipe_setAll fun i hi => h i (List.mem_cons_of_mem _ hi), wipe_set (h j List.mem_cons_self)]
theorem tgR_ok' {K : PySem.W.Frag} {N : List Addr} {H : Hp} {t : Tg} {d : PyData} {v : V} {σ : L2.St} {ρ ρ2 : En} {us : List Nat} (hu : ∀ j ∈ t.slots, j ∈ us) (h : SlOk K N H σ ρ) (e : bindD ρ t d = some ρ2) (r : Dn K N H v d) {Q : L2.St → Hp → Prop} (q : ∀ σ2, SlOk K N H σ2 ρ2 → wipe σ2 us = wipe σ us → Q σ2 H) : tgR K t v σ H Q := by
  cases t with
  | name j =>
    cases e
    exact q _ (h.set (sv := .val d) r j) (wipe_set (hu j (by simp [Tg.slots])))
  | tup js =>
    cases d with
    | tuple ds =>
      obtain ⟨hl, rfl⟩ := bindD_tup e
      cases r with
      | @tup a vs _ n1 l1 => exact ⟨a, vs, rfl, n1.sq, by rw [l1.length]; exact hl, q _ (h.setAll l1) (wipe_setAll hu)⟩
    | _ => cases e
end Dl

namespace Dl
open PySem PySem.Spec L2

section
variable {X : Cx} {ρ : En} {τ : Store} {D : DE} {pos p1 p2 p3 spos : Pos} {a b c tg iter elt : Expr} {body els rest : List Stmt} {st : Stmt} {es ifs : List Expr}
/-! ### blocks -/
theorem db_nil (q : D.nx ρ τ) : Db X ρ τ [] D := .mk fun σ H o l DD p => wb_of pss_nil (p.nx σ H ρ τ q o l Tr.refl)
theorem db_cons (h : Ds X ρ τ st { D with nx := fun ρ1 τ1 => Db X ρ1 τ1 rest D }) : Db X ρ τ (st :: rest) D := .mk fun σ H o l DD p =>
  wb_of (pss_cons ps_ws pss_wb) (h σ H o l { DD with nx := Wb X rest DD } ⟨fun σ1 H1 ρ1 τ1 h1 o1 l1 t1 => h1 σ1 H1 o1 l1 DD (p.step t1), p.rt, p.bk, p.ct⟩)
theorem db_one (h : Ds X ρ τ st D) : Db X ρ τ [st] D := .mk fun σ H o l DD p => wb_of (pss_one ps_ws) (h σ H o l DD p)
theorem Db.mono {D' : DE} (h : Db X ρ τ body D) (n : ∀ ρ' τ', D.nx ρ' τ' → D'.nx ρ' τ') (r : ∀ sv τ', D.rt sv τ' → D'.rt sv τ') (k : ∀ ρ' τ', D.bk ρ' τ' → D'.bk ρ' τ') (g : ∀ ρ' τ', D.ct ρ' τ' → D'.ct ρ' τ') : Db X ρ τ body D' := .mk fun σ H o l DD p =>
  h σ H o l DD ⟨fun σ' H' ρ' τ' q => p.nx σ' H' ρ' τ' (n _ _ q), fun v H' sv τ' q => p.rt v H' sv τ' (r _ _ q), fun σ' H' ρ' τ' q => p.bk σ' H' ρ' τ' (k _ _ q), fun σ' H' ρ' τ' q => p.ct σ' H' ρ' τ' (g _ _ q)⟩
/-- an object leaves the store -/
theorem db_drop {q : Addr × MO} (h : Db X ρ τ body D) : Db X ρ (q :: τ) body D := .mk fun σ H o l DD p => h σ H o.drop (l.tr Tr.drop) DD (p.step Tr.drop)
theorem de_drop {Q : MV → Store → Prop} {q : Addr × MO} (h : De X ρ τ a Q) : De X ρ (q :: τ) a Q := .mk fun σ H o l QQ p => h σ H o.drop (l.tr Tr.drop) QQ (p.step Tr.drop)
/-- a list of the store, the first one, becomes data -/
theorem db_freeze {l : Addr} {ds : List PyData} (i : Nat) (e : ρ[i]? = some (some (.hdl l))) (h : Db X (ρ.set i (some (.val (.list ds)))) τ body D) : Db X ρ ((l, .lst ds) :: τ) body D := .mk fun σ H o s DD p => by
  have o' := o.drop
  have s' := s.tr (Tr.drop (p := (l, .lst ds)) (τ := τ) (H := H))
  refine h σ H o' ?_ DD (p.step Tr.drop)
  obtain ⟨vs, h1, h2⟩ := o.ok (l, .lst ds) List.mem_cons_self
  obtain ⟨v, hv, rv⟩ := s.ok i _ e
  cases rv
  have nl : l ∉ dom τ := (List.nodup_cons.mp o.nd).1
  have dn : Dn X.K (dom τ) H (.ref l) (.list ds) := .lst ⟨nl, h1⟩ (h2.tr Tr.drop)
  have z := s'.set (sv := .val (.list ds)) dn i
  have es : σ.set i (some (V.ref l)) = σ := by
    apply List.ext_getElem?
    intro j
    by_cases hj : i = j
    · subst hj
      rw [List.getElem?_set_self (List.getElem?_eq_some_iff.mp hv).1, hv]
    · rw [List.getElem?_set_ne hj]
  rw [es] at z
  exact z
/-! ### small statements -/
theorem ds_pass (q : D.nx ρ τ) : Ds X ρ τ (.Pass pos) D := .mk fun σ H o l DD p => ws_of ps_pass (p.nx σ H ρ τ q o l Tr.refl)
theorem ds_break (q : D.bk ρ τ) : Ds X ρ τ (.Break pos) D := .mk fun σ H o l DD p => ws_of ps_break (p.bk σ H ρ τ q o l Tr.refl)
theorem ds_continue (q : D.ct ρ τ) : Ds X ρ τ (.Continue pos) D := .mk fun σ H o l DD p => ws_of ps_continue (p.ct σ H ρ τ q o l Tr.refl)
theorem ds_ret (h : De X ρ τ a D.rt) : Ds X ρ τ (.Return (some a) pos) D := .mk fun σ H o l DD p => ws_of (ps_ret pe_we) (h σ H o l DD.rt p.rt)
theorem ds_retN (q : D.rt (.val .none) τ) : Ds X ρ τ (.Return none pos) D := .mk fun σ H o l DD p => ws_of ps_retN (p.rt .non H _ τ q o Dn.non Tr.refl)
theorem ds_expr (h : De X ρ τ a fun _ τ1 => D.nx ρ τ1) (hs : swapsWith a none pos.line X.env = pure false := by rfl) : Ds X ρ τ (.Expr a pos) D := .mk fun σ H o l DD p =>
  ws_of (ps_expr pe_we hs) (h σ H o l _ fun v H1 x τ1 q o1 r1 t1 => p.nx σ H1 ρ τ1 q o1 (l.tr t1) t1)
theorem ds_if (h : Dt X ρ τ c fun k τ1 => (k = true → Db X ρ τ1 body D) ∧ (k = false → Db X ρ τ1 els D)) : Ds X ρ τ (.If c body els pos) D := .mk fun σ H o l DD p =>
  ws_of (ps_if pt_wt pss_wb pss_wb) (h σ H o l _ fun k H1 τ1 ⟨q1, q2⟩ o1 t1 => by
    cases k with
    | true => exact iteT (q1 rfl σ H1 o1 (l.tr t1) DD (p.step t1))
    | false => exact iteF (q2 rfl σ H1 o1 (l.tr t1) DD (p.step t1)))
theorem ds_set (i : Nat) {x : Str} {pos' : Pos} (hN : X.N.Nodup) (hi : X.N[i]? = some x) (hx : Loc X.env.scope x) (h : De X ρ τ a fun sv τ1 => D.nx (ρ.set i (some sv)) τ1)
    (hs : swapsWith a (some (.Name x pos')) pos.line X.env = pure false := by rfl) (hf : X.fn x = true ∨ X.env.scope.names.lookup x = some .local := by first | exact .inl rfl | exact .inr rfl) : Ds X ρ τ (.Assign [.Name x pos'] a pos) D := .mk fun σ H o l DD p =>
  ws_of (ps_set hN hi hx pe_we hs hf) (h σ H o l _ fun v H1 sv τ1 q o1 r1 t1 => p.nx _ H1 _ τ1 q o1 ((l.tr t1).set r1 i) t1)
/-- a, b, .. = a tuple -/
theorem ds_asg {t : Tg} (hg : PGx X tg t) (h : De X ρ τ a fun sv τ1 => ∃ d, sv = .val d ∧ ∃ ρ2, bindD ρ t d = some ρ2 ∧ D.nx ρ2 τ1)
    (hs : swapsWithSole [tg] a pos.line X.env = pure false := by rfl) (hw : swappedStores [tg] a X.env = pure none := by rfl)
    (h1 : (assignEach [tg] X.env).map (·.2) = [assign tg X.env] := by rfl) : Ds X ρ τ (.Assign [tg] a pos) D := .mk fun σ H o l DD p =>
  ws_of (ps_asg pe_we hg hs hw h1) (h σ H o l _ fun v H1 sv τ1 ⟨d, ex, ρ2, e, q⟩ o1 r1 t1 => by
    subst ex
    exact tgR_ok (l.tr t1) e r1 fun σ2 l2 => p.nx σ2 H1 ρ2 τ1 q o1 l2 t1)
/-- a, b = x, y: two local names -/
theorem ds_par (i j : Nat) {x y : Str} {px py pt : Pos} {kt k2 pt2} (hc : X.calm = true) (hN : X.N.Nodup) (hi : X.N[i]? = some x) (hj : X.N[j]? = some y) (hij : i ≠ j)
    (hx : X.env.scope.names.lookup x = some .local) (hy : X.env.scope.names.lookup y = some .local)
    (h : De X ρ τ a fun sv τ1 => De X ρ τ1 b fun su τ2 => D.nx ((ρ.set i (some sv)).set j (some su)) τ2)
    (hw : swappedStores [.Tuple [.Name x px, .Name y py] kt pt] (.Tuple [a, b] k2 pt2) X.env = pure (some [x, y]))
    (hs : swapsWithSole [.Tuple [.Name x px, .Name y py] kt pt] (.Tuple [a, b] k2 pt2) pos.line X.env = pure false := by rfl)
    (he : starEach [a, b] X.env = (false, eval a X.env) :: starEach [b] X.env := by rfl) (he2 : starEach [b] X.env = (false, eval b X.env) :: starEach [] X.env := by rfl) :
    Ds X ρ τ (.Assign [.Tuple [.Name x px, .Name y py] kt pt] (.Tuple [a, b] k2 pt2) pos) D := .mk fun σ H o l DD p =>
  ws_of (ps_par hc hN hi hj hij hx hy (pa_cons pe_we (pa_cons pe_we pa_nil he2) he) hw hs) (h σ H o l _ fun v H1 sv τ1 h1 o1 r1 t1 => h1 σ H1 o1 (l.tr t1) _ fun u H2 su τ2 q o2 r2 t2 =>
    ⟨v, u, rfl, p.nx _ H2 _ τ2 q o2 ((((l.tr t1).tr t2).set (r1.tr t2) i).set r2 j) (t1.trans t2)⟩)
/-- xs[i] = e, xs a list of the store -/
theorem ds_setix (h : De X ρ τ c fun sv τ1 => De X ρ τ1 a fun x τ2 => De X ρ τ2 b fun y τ3 => ∃ d l ds j n, sv = .val d ∧ x = .hdl l ∧ y = .val (.int n) ∧ τ3.lookup l = some (.lst ds) ∧ ixN ds.length n = some j ∧ D.nx ρ (setS l (.lst (ds.set j d)) τ3))
    (hsub : ∀ v, assign (.Subscript a b p1) X.env v = (do
      let ov ← holding [v] (eval a X.env)
      let iv ← holding [v, ov] (eval b X.env)
      standAt p1
      holding [v, ov, iv] (setItem ov iv v)
      release [v, ov, iv] []) := by intro _; rfl)
    (hs : swapsWithSole [.Subscript a b p1] c pos.line X.env = pure false := by rfl) (hw : swappedStores [.Subscript a b p1] c X.env = pure none := by rfl)
    (h1 : (assignEach [.Subscript a b p1] X.env).map (·.2) = [assign (.Subscript a b p1) X.env] := by rfl) : Ds X ρ τ (.Assign [.Subscript a b p1] c pos) D := .mk fun σ H o l DD p => by
  refine ws_of (ps_asg pe_we (pg_sub pe_we pe_we set_list hsub) hs hw h1) (h σ H o l _ fun v H1 sv τ1 h1 o1 r1 t1 => ?_)
  refine h1 σ H1 o1 (l.tr t1) _ fun v2 H2 x τ2 h2 o2 r2 t2 => h2 σ H2 o2 ((l.tr t1).tr t2) _ fun v3 H3 y τ3 ⟨d, l', ds, j, n, e1, e2, e3, e4, e5, q⟩ o3 r3 t3 => ?_
  subst e1 e2 e3
  cases r2
  cases r3
  obtain ⟨vs, h4, h5⟩ := o3.get e4
  have hm : l' ∈ dom τ3 := List.mem_map_of_mem (mem_of_lookup e4)
  have dn : Dn X.K (dom τ3) H3 v d := (r1.tr t2).tr t3
  refine ⟨l', vs, n, j, rfl, rfl, h4, by rw [h5.length]; exact e5, ?_⟩
  have tw : Tr (dom τ3) H3 (dom τ3) (upd H3 l' (.lst (vs.set j v))) := Tr.write hm
  have tw' : Tr (dom τ3) H3 (dom (setS l' (.lst (ds.set j d)) τ3)) (upd H3 l' (.lst (vs.set j v))) := by
    rw [dom_setS]
    exact tw
  exact p.nx σ _ ρ _ q (o3.write hm ⟨_, upd_same, (h5.set j dn).tr tw⟩) ((((l.tr t1).tr t2).tr t3).tr tw') (((t1.trans t2).trans t3).trans tw')
/-! ### methods of built-in types -/
structure MeD (K : PySem.W.Frag) (r : V → List V → Hp → VK → Prop) (x : MV) (xs : List MV) (τ : Store) (Q : MV → Store → Prop) : Prop where
  run : ∀ (H : Hp) (v : V) (vs : List V), StOk K H τ → Rv K (dom τ) H v x → RvL K (dom τ) H vs xs → ∀ QQ : VK, Pst K τ H Q QQ → r v vs H QQ
instance {K : PySem.W.Frag} {r : V → List V → Hp → VK → Prop} {x : MV} {xs : List MV} {τ : Store} {Q : MV → Store → Prop} : CoeFun (MeD K r x xs τ Q) fun _ => ∀ (H : Hp) (v : V) (vs : List V), StOk K H τ → Rv K (dom τ) H v x → RvL K (dom τ) H vs xs → ∀ QQ : VK, Pst K τ H Q QQ → r v vs H QQ := ⟨fun h => h.run⟩
def TyM (T : String) (x : MV) (τ : Store) : Prop := (T = "list" ∧ ∃ ds, datOf τ x = some (.list ds)) ∨ (T = "str" ∧ ∃ z, x = .val (.str z))
theorem TyM.ty {K : PySem.W.Frag} {H : Hp} {v : V} {T : String} {x : MV} (h : TyM T x τ) (o : StOk K H τ) (r : Rv K (dom τ) H v x) : tyV K T v H := by
  rcases h with ⟨rfl, ds, e⟩ | ⟨rfl, z, rfl⟩
  · obtain ⟨a, vs, rfl, h1, _⟩ := r.seqL o e
    exact .inl ⟨rfl, vs, h1⟩
  · cases r
    rfl
variable {Q : MV → Store → Prop}
theorem de_bm {T id : String} {name : Str} {r : V → List V → Hp → VK → Prop} {apos cpos : Pos} (pa : PlainAttrs T) (slot : Slot T name id) (hty : typeOf (.builtin id) = pure (.type "method_descriptor")) (hm : MtR X id r)
    (h : De X ρ τ a fun x τ1 => TyM T x τ1 ∧ Da X ρ τ1 (b :: es) fun xs τ2 => MeD X.K r x xs τ2 Q)
    (hbase : attributeBase a name X.env (eval a X.env) = eval a X.env := by rfl)
    (hfew : ((backTo cpos (starEach (b :: es) X.env)).all (fun x => !x.1) && (backToKw cpos (keywordEach [] X.env)).all (fun x => x.1.isSome)
      && decide ((b :: es).length + ([] : List Keyword).length + (if ([] : List Keyword).isEmpty then 0 else 1) < 30)) = true := by rfl)
    (hline : (apos.endLine == cpos.line) = true := by rfl) (hs : starEach (b :: es) X.env = (false, eval b X.env) :: starEach es X.env := by rfl) (hplain : (backTo cpos (starEach es X.env)).any (·.1) = false := by rfl) :
    De X ρ τ (.Call (.Attribute a name apos) (b :: es) [] cpos) Q := .mk fun σ H o l QQ p =>
  we_of (pe_bm pa slot hty hm pe_we pa_wa hbase hfew hline hs hplain) (h σ H o l _ fun v H1 x τ1 ⟨ty, h1⟩ o1 r1 t1 => ⟨ty.ty o1 r1, h1 σ H1 o1 (l.tr t1) _ fun vs H2 xs τ2 h2 o2 r2 t2 => h2 H2 v vs o2 (r1.tr t2) r2 QQ ((p.step t1).step t2)⟩)
theorem de_bm0 {T id : String} {name : Str} {r : V → List V → Hp → VK → Prop} {apos cpos : Pos} (pa : PlainAttrs T) (slot : Slot T name id) (hty : typeOf (.builtin id) = pure (.type "method_descriptor")) (hm : MtR X id r)
    (h : De X ρ τ a fun x τ1 => TyM T x τ1 ∧ MeD X.K r x [] τ1 Q)
    (hbase : attributeBase a name X.env (eval a X.env) = eval a X.env := by rfl) (hline : (apos.endLine == cpos.line) = true := by rfl) :
    De X ρ τ (.Call (.Attribute a name apos) [] [] cpos) Q := .mk fun σ H o l QQ p =>
  we_of (pe_bm0 pa slot hty hm pe_we hbase hline) (h σ H o l _ fun v H1 x τ1 ⟨ty, h1⟩ o1 r1 t1 => ⟨ty.ty o1 r1, h1 H1 v [] o1 r1 .nil QQ (p.step t1)⟩)
/-- a list of the store is written -/
theorem Pst.write {K : PySem.W.Frag} {H : Hp} {QQ : VK} {l : Addr} {ds es : List PyData} {vs : List V} {v : V} {sv : MV} (p : Pst K τ H Q QQ) (o : StOk K H τ) (e : τ.lookup l = some (.lst ds)) (dn : DnL K (dom τ) H vs es)
    (rv : ∀ N H', Tr (dom τ) H N H' → Rv K N H' v sv) (q : Q sv (setS l (.lst es) τ)) : QQ v (upd H l (.lst vs)) := by
  have hm : l ∈ dom τ := List.mem_map_of_mem (mem_of_lookup e)
  have tw : Tr (dom τ) H (dom τ) (upd H l (.lst vs)) := Tr.write hm
  have tw' : Tr (dom τ) H (dom (setS l (.lst es) τ)) (upd H l (.lst vs)) := by
    rw [dom_setS]
    exact tw
  exact p _ _ sv _ q (o.write hm ⟨_, upd_same, dn.tr tw⟩) (rv _ _ tw') tw'
/-- xs.append(e) -/
theorem de_append {apos cpos : Pos} (h : De X ρ τ a fun x τ1 => ∃ l ds', x = .hdl l ∧ τ1.lookup l = some (.lst ds') ∧ De X ρ τ1 b fun sv τ2 => ∃ d ds, sv = .val d ∧ τ2.lookup l = some (.lst ds) ∧ ds.length < 1000000 ∧ Q (.val .none) (setS l (.lst (ds ++ [d])) τ2))
    (hbase : attributeBase a "append" X.env (eval a X.env) = eval a X.env := by rfl)
    (hfew : ((backTo cpos (starEach [b] X.env)).all (fun x => !x.1) && (backToKw cpos (keywordEach [] X.env)).all (fun x => x.1.isSome)
      && decide ([b].length + ([] : List Keyword).length + (if ([] : List Keyword).isEmpty then 0 else 1) < 30)) = true := by rfl)
    (hline : (apos.endLine == cpos.line) = true := by rfl) (hs : starEach [b] X.env = (false, eval b X.env) :: starEach [] X.env := by rfl) (hplain : (backTo cpos (starEach [] X.env)).any (·.1) = false := by rfl) :
    De X ρ τ (.Call (.Attribute a "append" apos) [b] [] cpos) Q := .mk fun σ H o l QQ p =>
  de_bm PySem.F.plainAttrs_list PySem.F.slot_list_append PySem.F.type_list_append mt_append (h.mono fun x τ1 ⟨l, ds', ex, e, h1⟩ => by
    subst ex
    refine ⟨.inl ⟨rfl, ds', by simp only [datOf, e]⟩, da_one (h1.mono fun sv τ2 ⟨d, ds, ev, e2, hl, q⟩ => ?_) hs⟩
    subst ev
    refine .mk fun H v vs o rv rl QQ p => ?_
    cases rv
    obtain ⟨u, rfl, ru⟩ := paired1 rl
    obtain ⟨ws, h2, h3⟩ := o.get e2
    exact ⟨l, ws, u, rfl, rfl, h2, small_sz' (by rw [h3.length]; exact hl), p.write (sv := .val .none) o e2 (h3.append (.cons ru .nil)) (fun _ _ _ => Dn.non) q⟩) hbase hfew hline hs hplain σ H o l QQ p
/-- xs.extend(ys) -/
theorem de_extend {apos cpos : Pos} (h : De X ρ τ a fun x τ1 => ∃ l ds', x = .hdl l ∧ τ1.lookup l = some (.lst ds') ∧ De X ρ τ1 b fun sv τ2 => ∃ ds es, lstOf τ2 sv = some es ∧ τ2.lookup l = some (.lst ds) ∧ ds.length + es.length ≤ 1000000 ∧ Q (.val .none) (setS l (.lst (ds ++ es)) τ2))
    (hbase : attributeBase a "extend" X.env (eval a X.env) = eval a X.env := by rfl)
    (hfew : ((backTo cpos (starEach [b] X.env)).all (fun x => !x.1) && (backToKw cpos (keywordEach [] X.env)).all (fun x => x.1.isSome)
      && decide ([b].length + ([] : List Keyword).length + (if ([] : List Keyword).isEmpty then 0 else 1) < 30)) = true := by rfl)
    (hline : (apos.endLine == cpos.line) = true := by rfl) (hs : starEach [b] X.env = (false, eval b X.env) :: starEach [] X.env := by rfl) (hplain : (backTo cpos (starEach [] X.env)).any (·.1) = false := by rfl) :
    De X ρ τ (.Call (.Attribute a "extend" apos) [b] [] cpos) Q := .mk fun σ H o l QQ p =>
  de_bm PySem.F.plainAttrs_list PySem.F.slot_list_extend PySem.F.type_list_extend mt_extend (h.mono fun x τ1 ⟨l, ds', ex, e, h1⟩ => by
    subst ex
    refine ⟨.inl ⟨rfl, ds', by simp only [datOf, e]⟩, da_one (h1.mono fun sv τ2 ⟨ds, es, ev, e2, hl, q⟩ => ?_) hs⟩
    refine .mk fun H v vs o rv rl QQ p => ?_
    cases rv
    obtain ⟨u, rfl, ru⟩ := paired1 rl
    obtain ⟨ws, h2, h3⟩ := o.get e2
    obtain ⟨b', us, rfl, h4, h5⟩ := ru.lstS o ev
    exact ⟨l, b', ws, us, rfl, rfl, h2, h4, small_sz (by rw [h3.length, h5.length]; exact hl), p.write (sv := .val .none) o e2 (h3.append h5) (fun _ _ _ => Dn.non) q⟩) hbase hfew hline hs hplain σ H o l QQ p

/-! ### for -/
theorem ds_for {t : Tg} (hc : X.calm = true) (hp : PassesOwn (model X.prog X.w) X.A X.env X.xe) (hg : PGx X tg t)
    (h : Di X tg ρ τ iter fun ds S τ1 => ∃ I : Nat → En → Store → Prop, I 0 ρ τ1 ∧ (∀ i ρ' τ', I i ρ' τ' → S τ') ∧
      (∀ i d ρ' τ', ds[i]? = some d → I i ρ' τ' → ∃ ρ2, bindD ρ' t d = some ρ2 ∧ Db X ρ2 τ' body { D with nx := I (i + 1), ct := I (i + 1), bk := D.nx }) ∧
      (∀ ρ' τ', I ds.length ρ' τ' → D.nx ρ' τ'))
    (hs : ∀ x, foldedSetIterable iter X.env x = pure x := by intro _; rfl) : Ds X ρ τ (.For tg iter body [] pos) D := .mk fun σ H o l DD p => by
  refine ws_of (ps_for hp hc pi_wi hg pss_wb hs) (h σ H o l _ fun J H1 ds S τ1 ⟨I, h0, hS, hst, hd⟩ o1 t1 wk => ?_)
  refine ⟨fun i m σ' H' => m = ds.length - i ∧ i ≤ ds.length ∧ ∃ ρ' τ', I i ρ' τ' ∧ StOk X.K H' τ' ∧ SlOk X.K (dom τ') H' σ' ρ' ∧ Tr (dom τ1) H1 (dom τ') H', ⟨ds.length, rfl, Nat.zero_le _, ρ, τ1, h0, o1, l.tr t1, Tr.refl⟩, ?_⟩
  rintro i m σ' H' ⟨rfl, hi, ρ', τ', hI, o', l', t'⟩
  by_cases hlt : i < ds.length
  · refine .inr ⟨wk.go i H' τ' hlt t' o' (hS _ _ _ hI), fun σ2 H2 => ∃ ρ2 τ2, I (i + 1) ρ2 τ2 ∧ StOk X.K H2 τ2 ∧ SlOk X.K (dom τ2) H2 σ2 ρ2 ∧ Tr (dom τ1) H1 (dom τ2) H2, fun σ2 H2 q => ⟨ds.length - (i + 1), by omega, rfl, hlt, q⟩, fun x H2 y => ?_⟩
    obtain ⟨d, hd', t2, o2, r2⟩ := wk.yld i H' τ' x H2 hlt t' o' (hS _ _ _ hI) y
    obtain ⟨ρ2, e2, hb⟩ := hst i d ρ' τ' hd' hI
    refine tgR_ok (l'.tr t2) e2 r2 fun σ3 l3 => hb σ3 H2 o2 l3 _ ⟨fun σ4 H4 ρ4 τ4 q o4 l4 t4 => ⟨ρ4, τ4, q, o4, l4, (t'.trans t2).trans t4⟩, ?_, ?_, fun σ4 H4 ρ4 τ4 q o4 l4 t4 => ⟨ρ4, τ4, q, o4, l4, (t'.trans t2).trans t4⟩⟩
    · exact p.rt.step ((t1.trans t').trans t2)
    · exact p.nx.step ((t1.trans t').trans t2)
  · have e : i = ds.length := by omega
    subst e
    exact .inl ⟨wk.stop _ H' τ' (Nat.le_refl _) t' o' (hS _ _ _ hI), p.nx σ' H' ρ' τ' (hd _ _ hI) o' l' (t1.trans t')⟩
/-! ### while -/
theorem ds_while (hp : PassesOwn (model X.prog X.w) X.A X.env X.xe) (I : Nat → En → Store → Prop) (h0 : ∃ m, I m ρ τ)
    (h : ∀ m ρ' τ', I m ρ' τ' → Dt X ρ' τ' c fun k τ1 => (k = true → Db X ρ' τ1 body { D with nx := fun ρ2 τ2 => ∃ m', m' < m ∧ I m' ρ2 τ2, ct := fun ρ2 τ2 => ∃ m', m' < m ∧ I m' ρ2 τ2, bk := D.nx }) ∧ (k = false → D.nx ρ' τ1)) :
    Ds X ρ τ (.While c body [] pos) D := .mk fun σ H o l DD p => by
  refine ws_of (ps_while hp pt_wt pss_wb) ⟨fun m σ' H' => ∃ ρ' τ', I m ρ' τ' ∧ StOk X.K H' τ' ∧ SlOk X.K (dom τ') H' σ' ρ' ∧ Tr (dom τ) H (dom τ') H', ?_, ?_⟩
  · obtain ⟨m, hm⟩ := h0
    exact ⟨m, ρ, τ, hm, o, l, Tr.refl⟩
  · rintro m σ' H' ⟨ρ', τ', hI, o', l', t'⟩
    refine h m ρ' τ' hI σ' H' o' l' _ fun k H1 τ1 ⟨q1, q2⟩ o1 t1 => ?_
    cases k with
    | true =>
      refine iteT ⟨fun σ2 H2 => ∃ m', m' < m ∧ ∃ ρ2 τ2, I m' ρ2 τ2 ∧ StOk X.K H2 τ2 ∧ SlOk X.K (dom τ2) H2 σ2 ρ2 ∧ Tr (dom τ) H (dom τ2) H2, fun σ2 H2 q => q, ?_⟩
      refine q1 rfl σ' H1 o1 (l'.tr t1) _ ⟨fun σ4 H4 ρ4 τ4 ⟨m', hm, q⟩ o4 l4 t4 => ⟨m', hm, ρ4, τ4, q, o4, l4, (t'.trans t1).trans t4⟩, ?_, ?_, fun σ4 H4 ρ4 τ4 ⟨m', hm, q⟩ o4 l4 t4 => ⟨m', hm, ρ4, τ4, q, o4, l4, (t'.trans t1).trans t4⟩⟩
      · exact p.rt.step (t'.trans t1)
      · exact p.nx.step (t'.trans t1)
    | false => exact iteF (p.nx σ' H1 ρ' τ1 (q2 rfl) o1 (l'.tr t1) (t'.trans t1))
end

/-! ### comprehensions -/
abbrev Blk (X : Cx) (s : Shared) (H : Hp) (scope : Scope) (C : Addr) (cl : List (Str × Addr)) (fp : List Addr) : Cx := X.blk s H scope (compEnvC scope cl C X.env) fp
section
variable {X : Cx} {ρ : En} {τ : Store} {pos p1 p2 p3 spos : Pos} {tg iter elt tg1 iter1 : Expr} {ifs ifs1 : List Expr} {scope : Scope} {own : List (Str × Nat)}
theorem df_nil {Q : Bool → Store → Prop} (q : Q true τ) : Df X ρ τ [] Q := .mk fun σ H o l QQ p => wf_of pts_nil (p true H τ q o Tr.refl)
theorem df_one {c : Expr} {Q : Bool → Store → Prop} (h : Dt X ρ τ c Q) : Df X ρ τ [c] Q := .mk fun σ H o l QQ p => wf_of (pts_one pt_wt) (h σ H o l QQ p)
/-- one turn: the items' loop by an invariant over the turn, what is made so far, the store -/
structure Turns (X : Cx) (ρ : En) (scope : Scope) (vs : List Nat) (t : Tg) (elt : Expr) (ifs : List Expr) (ds : List PyData) (S : Store → Prop) (I : Nat → List PyData → Store → Prop) : Prop where
  keep : ∀ i acc τ' D, I i acc τ' → D ∉ dom τ' → S ((D, .lst acc) :: τ')
  turn : ∀ i d acc τ', ds[i]? = some d → I i acc τ' → acc.length < 1000000 ∧ ∀ D, D ∉ dom τ' → ∃ ρ2, bindD (wipeE ρ vs) t d = some ρ2 ∧ ∃ T : Bool → Store → Prop,
    (∀ s H C cl fp, Df (Blk X s H scope C cl fp) ρ2 ((D, .lst acc) :: τ') ifs T) ∧
    (∀ τ2, T true τ2 → ∀ s H C cl fp, De (Blk X s H scope C cl fp) ρ2 τ2 elt fun sv τ3 => ∃ y τ4, sv = .val y ∧ τ3 = (D, .lst acc) :: τ4 ∧ I (i + 1) (acc ++ [y]) τ4) ∧
    (∀ τ2, T false τ2 → ∃ τ4, τ2 = (D, .lst acc) :: τ4 ∧ I (i + 1) acc τ4)
/-- what a comprehension hands on, over what is walked -/
def LcQ (X : Cx) (ρ : En) (scope : Scope) (vs : List Nat) (t : Tg) (elt : Expr) (ifs : List Expr) (Q : MV → Store → Prop) : List PyData → (Store → Prop) → Store → Prop := fun ds S τ1 =>
  ∃ I : Nat → List PyData → Store → Prop, I 0 [] τ1 ∧ Turns X ρ scope vs t elt ifs ds S I ∧ ∀ acc τ', I ds.length acc τ' → Q (.val (.list acc)) τ'
def ttB (X : Cx) (scope : Scope) (ifs : List Expr) : TT := fun σ H Q => ∀ s H0 C cl fp, Wf (Blk X s H0 scope C cl fp) ifs σ H Q
def teB (X : Cx) (scope : Scope) (elt : Expr) : TE := fun σ H Q => ∀ s H0 C cl fp, We (Blk X s H0 scope C cl fp) elt σ H Q
theorem lc_read {t : Tg} {vs : List Nat} {Q : MV → Store → Prop} (hu : ∀ j ∈ t.slots, j ∈ vs) (h : Di X tg ρ τ iter (LcQ X ρ scope vs t elt ifs Q)) {σ : L2.St} {H : Hp} (o : StOk X.K H τ) (l : SlOk X.K (dom τ) H σ ρ) {QQ : VK} (p : Pst X.K τ H Q QQ) :
    tLc (Wi X tg iter) (tgR X.K t) (ttB X scope ifs) (teB X scope elt) vs σ H QQ := by
  refine h σ H o l _ fun J H1 ds S τ1 ⟨I, h0, ht, hd⟩ o1 t1 wk => fun D hD => ?_
  have t1' : Tr (dom τ1) H1 (dom ((D, MO.lst []) :: τ1)) (upd H1 D (.lst [])) := Tr.push hD
  refine ⟨fun i m H' => m = ds.length - i ∧ i ≤ ds.length ∧ ∃ acc τ', I i acc τ' ∧ StOk X.K H' ((D, .lst acc) :: τ') ∧ Tr (dom τ1) H1 (dom ((D, MO.lst acc) :: τ')) H', ⟨ds.length, rfl, Nat.zero_le _, [], τ1, h0, o1.push hD ⟨[], upd_same, .nil⟩, t1'⟩, ?_⟩
  rintro i m H' ⟨rfl, hi, acc, τ', hI, o', t'⟩
  have nD : D ∉ dom τ' := (List.nodup_cons.mp o'.nd).1
  by_cases hlt : i < ds.length
  · refine .inr ⟨wk.go i H' _ hlt t' o' (ht.keep _ _ _ _ hI nD), fun H2 => ∃ acc τ', I (i + 1) acc τ' ∧ StOk X.K H2 ((D, .lst acc) :: τ') ∧ Tr (dom τ1) H1 (dom ((D, MO.lst acc) :: τ')) H2, fun H2 q => ⟨ds.length - (i + 1), by omega, rfl, hlt, q⟩, fun x H2 y => ?_⟩
    obtain ⟨d, hd', t2, o2, r2⟩ := wk.yld i H' _ x H2 hlt t' o' (ht.keep _ _ _ _ hI nD) y
    obtain ⟨hl, ht2⟩ := ht.turn i d acc τ' hd' hI
    obtain ⟨ρ2, e2, T, hf, he, hn⟩ := ht2 D nD
    have l2 : SlOk X.K (dom ((D, MO.lst acc) :: τ')) H2 (wipe σ vs) (wipeE ρ vs) := (((l.tr t1).tr t').tr t2).wipe vs
    refine tgR_ok' hu l2 e2 r2 fun σ3 l3 w3 => ⟨by rw [w3, wipe_wipe σ vs vs fun _ h => h], ?_⟩
    intro s0 H0 C0 cl0 fp0
    refine hf s0 H0 C0 cl0 fp0 σ3 H2 o2 l3 _ fun k H3 τ3 q3 o3 t3 => ?_
    cases k with
    | true =>
      refine iteT ?_
      intro s1 H1' C1 cl1 fp1
      refine he τ3 q3 s1 H1' C1 cl1 fp1 σ3 H3 o3 (l3.tr t3) _ fun v H4 sv τ4 ⟨y', τ5, e5, e6, q5⟩ o4 r4 t4 => ?_
      subst e5 e6
      obtain ⟨us, h5, h6⟩ := o4.ok (D, .lst acc) List.mem_cons_self
      have nD5 : D ∉ dom τ5 := (List.nodup_cons.mp o4.nd).1
      have tw : Tr (dom ((D, MO.lst acc) :: τ5)) H4 (dom ((D, MO.lst (acc ++ [y'])) :: τ5)) (upd H4 D (.lst (us ++ [v]))) := Tr.write (τ := (D, MO.lst acc) :: τ5) (a := D) List.mem_cons_self
      have ow := o4.write (a := D) (o := .lst (us ++ [v])) (mo := .lst (acc ++ [y'])) List.mem_cons_self ⟨_, upd_same, (h6.append (.cons r4 .nil)).tr (Tr.write (τ := (D, MO.lst acc) :: τ5) (a := D) List.mem_cons_self)⟩
      have es : setS D (.lst (acc ++ [y'])) ((D, MO.lst acc) :: τ5) = (D, .lst (acc ++ [y'])) :: τ5 := if_pos rfl
      rw [es] at ow
      exact ⟨us, h5, small_sz' (by rw [h6.length]; exact hl), acc ++ [y'], τ5, q5, ow, (((t'.trans t2).trans t3).trans t4).trans tw⟩
    | false =>
      refine iteF ?_
      obtain ⟨τ5, e5, q5⟩ := hn τ3 q3
      subst e5
      exact ⟨acc, τ5, q5, o3, (t'.trans t2).trans t3⟩
  · have e : i = ds.length := by omega
    subst e
    refine .inl ⟨wk.stop _ H' _ (Nat.le_refl _) t' o' (ht.keep _ _ _ _ hI nD), ?_⟩
    obtain ⟨us, h5, h6⟩ := o'.ok (D, .lst acc) List.mem_cons_self
    exact p _ H' (.val (.list acc)) τ' (hd _ _ hI) o'.drop (Dn.lst ⟨nD, h5⟩ (h6.tr Tr.drop)) (t1.trans (t'.trans Tr.drop))
theorem de_lc {t : Tg} {Q : MV → Store → Prop} (hc : X.calm = true) (hN : X.N.Nodup) (ok : BlkOk X.N X.env.scope scope own) (hu : ∀ j ∈ t.slots, j ∈ own.map (·.2))
    (hg : ∀ s H C cl fp, PGx (Blk X s H scope C cl fp) tg t) (h : Di X tg ρ τ iter (LcQ X ρ scope (own.map (·.2)) t elt ifs Q)) (hs : ∀ x, foldedSetIterable iter X.env x = pure x := by intro _; rfl) :
    De X ρ τ (.ListComp elt [⟨tg, iter, ifs, 0⟩] scope pos) Q := .mk fun σ H o l QQ p =>
  we_of (pe_lc (tt := ttB X scope ifs) (te := teB X scope elt) (g := tgR X.K t) hc hN pi_wi ok hg (fun s H C cl fp => ⟨fun pins s' σ' H' Q' I hq => hq s H C cl fp pins s' I⟩) (fun s H C cl fp => ⟨fun pins s' σ' H' Q' I hq => hq s H C cl fp pins s' I⟩) hs) (lc_read hu h o l p)
/-- name = [..] -/
theorem ds_setLc {t : Tg} {D : DE} (i : Nat) {y : Str} {py : Pos} (hc : X.calm = true) (hN : X.N.Nodup) (hy : X.N[i]? = some y) (hyl : X.env.scope.names.lookup y = some .local)
    (hsw : swapsWith (.ListComp elt [⟨tg, iter, ifs, 0⟩] scope pos) (some (.Name y py)) spos.line X.env = pure true) (ok : BlkOk X.N X.env.scope scope own) (hu : ∀ j ∈ t.slots, j ∈ own.map (·.2))
    (hg : ∀ s H C cl fp, PGx (Blk X s H scope C cl fp) tg t) (h : Di X tg ρ τ iter (LcQ X ρ scope (own.map (·.2)) t elt ifs fun sv τ1 => D.nx (ρ.set i (some sv)) τ1)) (hs : ∀ x, foldedSetIterable iter X.env x = pure x := by intro _; rfl) :
    Ds X ρ τ (.Assign [.Name y py] (.ListComp elt [⟨tg, iter, ifs, 0⟩] scope pos) spos) D := .mk fun σ H o l DD p =>
  ws_of (ps_setLc (tt := ttB X scope ifs) (te := teB X scope elt) (g := tgR X.K t) hc hN hy hyl hsw pi_wi ok hg (fun s H C cl fp => ⟨fun pins s' σ' H' Q' I hq => hq s H C cl fp pins s' I⟩) (fun s H C cl fp => ⟨fun pins s' σ' H' Q' I hq => hq s H C cl fp pins s' I⟩) hs)
    (lc_read hu h o l (QQ := fun v H1 => gName i v σ H1 DD.nx) fun v H1 sv τ1 q o1 r1 t1 => p.nx _ H1 _ τ1 q o1 ((l.tr t1).set r1 i) t1)
/-- no test, nothing changes: a map -/
theorem lcq_map {α : Type} {t : Tg} {vs : List Nat} {Q : MV → Store → Prop} {ds : List PyData} (xs : List α) (emb f : α → PyData) (he : ds = xs.map emb) {S : Store → Prop} {τ1 : Store} (hl : xs.length ≤ 1000000)
    (h : ∀ x ∈ xs, ∃ ρ2, bindD (wipeE ρ vs) t (emb x) = some ρ2 ∧ ∀ D acc, D ∉ dom τ1 → ∀ s H C cl fp, De (Blk X s H scope C cl fp) ρ2 ((D, .lst acc) :: τ1) elt fun sv τ3 => sv = .val (f x) ∧ τ3 = (D, .lst acc) :: τ1) (q : Q (.val (.list (xs.map f))) τ1) (hS : ∀ D acc, D ∉ dom τ1 → S ((D, .lst acc) :: τ1) := by exact fun _ _ _ => trivial) :
    LcQ X ρ scope vs t elt [] Q ds S τ1 := by
  subst he
  refine ⟨fun i acc τ' => τ' = τ1 ∧ acc = (xs.take i).map f, ⟨rfl, rfl⟩, ⟨?_, ?_⟩, ?_⟩
  · rintro i acc τ' D ⟨rfl, rfl⟩ hD
    exact hS D _ hD
  · rintro i d acc τ' hd ⟨rfl, rfl⟩
    rw [List.getElem?_map] at hd
    cases hx : xs[i]? with
    | none => rw [hx] at hd; cases hd
    | some x =>
      rw [hx] at hd
      cases hd
      have hi : i < xs.length := (List.getElem?_eq_some_iff.mp hx).1
      refine ⟨by rw [List.length_map, List.length_take]; omega, fun D hD => ?_⟩
      obtain ⟨ρ2, e, hb⟩ := h x (List.mem_of_getElem? hx)
      refine ⟨ρ2, e, fun k τ2 => k = true ∧ τ2 = (D, .lst ((xs.take i).map f)) :: τ', fun s H C cl fp => df_nil ⟨rfl, rfl⟩, ?_, ?_⟩
      · rintro τ2 ⟨_, rfl⟩ s H C cl fp
        refine (hb D _ hD s H C cl fp).mono ?_
        rintro sv τ3 ⟨rfl, rfl⟩
        exact ⟨f x, τ', rfl, rfl, rfl, by rw [List.take_add_one, hx, List.map_append]; rfl⟩
      · rintro τ2 ⟨h, _⟩
        cases h
  · rintro acc τ' ⟨rfl, rfl⟩
    rw [List.length_map, List.take_length]
    exact q
/-- one test, nothing changes -/
theorem lcq_filter {α : Type} {t : Tg} {vs : List Nat} {c : Expr} {Q : MV → Store → Prop} {ds : List PyData} (xs : List α) (emb f : α → PyData) (pr : α → Bool) (he : ds = xs.map emb) {S : Store → Prop} {τ1 : Store} (hl : xs.length ≤ 1000000)
    (h : ∀ x ∈ xs, ∃ ρ2, bindD (wipeE ρ vs) t (emb x) = some ρ2 ∧ ∀ D acc, D ∉ dom τ1 → ∀ s H C cl fp, Dt (Blk X s H scope C cl fp) ρ2 ((D, .lst acc) :: τ1) c (fun k τ2 => k = pr x ∧ τ2 = (D, .lst acc) :: τ1) ∧
      (pr x = true → De (Blk X s H scope C cl fp) ρ2 ((D, .lst acc) :: τ1) elt fun sv τ3 => sv = .val (f x) ∧ τ3 = (D, .lst acc) :: τ1)) (q : Q (.val (.list ((xs.filter pr).map f))) τ1) (hS : ∀ D acc, D ∉ dom τ1 → S ((D, .lst acc) :: τ1) := by exact fun _ _ _ => trivial) :
    LcQ X ρ scope vs t elt [c] Q ds S τ1 := by
  subst he
  refine ⟨fun i acc τ' => τ' = τ1 ∧ acc = ((xs.take i).filter pr).map f, ⟨rfl, rfl⟩, ⟨?_, ?_⟩, ?_⟩
  · rintro i acc τ' D ⟨rfl, rfl⟩ hD
    exact hS D _ hD
  · rintro i d acc τ' hd ⟨rfl, rfl⟩
    rw [List.getElem?_map] at hd
    cases hx : xs[i]? with
    | none => rw [hx] at hd; cases hd
    | some x =>
      rw [hx] at hd
      cases hd
      have hi : i < xs.length := (List.getElem?_eq_some_iff.mp hx).1
      have hle : ((xs.take i).filter pr).length ≤ i := Nat.le_trans (List.length_filter_le _ _) (by rw [List.length_take]; omega)
      refine ⟨by rw [List.length_map]; omega, fun D hD => ?_⟩
      obtain ⟨ρ2, e, hb⟩ := h x (List.mem_of_getElem? hx)
      refine ⟨ρ2, e, fun k τ2 => k = pr x ∧ τ2 = (D, .lst (((xs.take i).filter pr).map f)) :: τ', fun s H C cl fp => df_one (hb D _ hD s H C cl fp).1, ?_, ?_⟩
      · rintro τ2 ⟨hk, rfl⟩ s H C cl fp
        refine ((hb D _ hD s H C cl fp).2 hk.symm).mono ?_
        rintro sv τ3 ⟨rfl, rfl⟩
        refine ⟨f x, τ', rfl, rfl, rfl, ?_⟩
        rw [List.take_add_one, hx]
        show _ = ((xs.take i ++ [x]).filter pr).map f
        rw [List.filter_append, List.map_append, show [x].filter pr = [x] from by rw [List.filter_cons, ← hk]; rfl]
        rfl
      · rintro τ2 ⟨hk, rfl⟩
        refine ⟨τ', rfl, rfl, ?_⟩
        rw [List.take_add_one, hx]
        show _ = ((xs.take i ++ [x]).filter pr).map f
        rw [List.filter_append, show [x].filter pr = [] from by rw [List.filter_cons, ← hk]; rfl, List.append_nil]
  · rintro acc τ' ⟨rfl, rfl⟩
    rw [List.length_map, List.take_length]
    exact q
end
end Dl

namespace Dl
open PySem PySem.Spec L2

/-! ### a def keeps its promise -/
def startE (N : List Str) (svs : List MV) : En := svs.map some ++ List.replicate (N.length - svs.length) none
theorem slOk_start {K : PySem.W.Frag} {A : List Addr} {H : Hp} {N : List Str} {vs : List V} {svs : List MV} (r : RvL K A H vs svs) : SlOk K A H (L2.start N vs) (startE N svs) := by
  have hl : vs.length = svs.length := Paired.length r
  refine ⟨by unfold L2.start startE; rw [List.length_append, List.length_append, List.length_map, List.length_map, List.length_replicate, List.length_replicate, hl], fun i sv e => ?_⟩
  unfold startE at e
  by_cases hi : i < svs.length
  · rw [List.getElem?_append_left (by rw [List.length_map]; exact hi), List.getElem?_map] at e
    have get : ∀ {vs : List V} {svs : List MV} {i : Nat} {sv : MV}, RvL K A H vs svs → svs[i]? = some sv → ∃ v, vs[i]? = some v ∧ Rv K A H v sv := by
      intro vs svs i sv r
      induction r generalizing i with
      | nil => intro e; simp at e
      | cons a b ih =>
        intro e
        cases i with
        | zero =>
          simp at e
          subst e
          exact ⟨_, rfl, a⟩
        | succ i =>
          obtain ⟨v, h1, h2⟩ := ih (by simpa using e)
          exact ⟨v, by simpa using h1, h2⟩
    cases h : svs[i]? with
    | none => rw [h] at e; cases e
    | some sv' =>
      rw [h] at e
      cases e
      obtain ⟨v, h1, h2⟩ := get r h
      refine ⟨v, ?_, h2⟩
      unfold L2.start
      rw [List.getElem?_append_left (by rw [List.length_map, hl]; exact hi), List.getElem?_map, h1]
      rfl
  · rw [List.getElem?_append_right (by rw [List.length_map]; omega), List.getElem?_replicate] at e
    split at e <;> cases e
section
variable {P : Program} {w : World} {K : PySem.W.Frag} {mg : Str → Option Value} {base : Heap}
/-- a def as the top has left it -/
structure HasDef (K : PySem.W.Frag) (mg : Str → Option Value) (x : Str) (st : Stmt) (ps : List Str) : Prop where
  ex : ∃ (f : Addr) (fd : FuncData), Fun K x x st f fd ∧ mg x = some (.ref f) ∧ Binds K fd ps []
abbrev BX (P : Program) (w : World) (K : PySem.W.Frag) (mg : Str → Option Value) (base : Heap) (N : List Str) (x : Str) (st : Stmt) (f : Addr) (cdv : Value) (A : Around) (outer : List Env) (s : Shared) (H : Hp) (E : XK) : Cx :=
  (cxOf CX0 P w K mg base N x (defScope st) f cdv A outer s H E).nox
/-- a def's body keeps the promise, wherever the def stands -/
def KnowsF (P : Program) (w : World) (K : PySem.W.Frag) (mg : Str → Option Value) (base : Heap) (k : Nat) (x : Str) (st : Stmt) (ps : List Str) (C : Ctr) : Prop := ∀ (f : Addr) (fd : FuncData), Fun K x x st f fd → FnOk P w K mg base CX0 k f fd ps (spC K C)
theorem knowsF_mk {x : Str} {st : Stmt} {N ps : List Str} {k : Nat} {C : Ctr} (S : FnScope N ps (defScope st)) (hl : ∀ svs τ Q, C svs τ Q → svs.length = ps.length)
    (body : ∀ f cdv A outer s H E, Room k (BX P w K mg base N x st f cdv A outer s H E).A → ∀ svs τ Q, C svs τ Q →
      Db (BX P w K mg base N x st f cdv A outer s H E) (startE N svs) τ (defBody st) { nx := fun _ τ' => Q (.val .none) τ', rt := Q }) : KnowsF P w K mg base (k + 1) x st ps C := fun f fd F =>
  F.ok S (fun vs H Q E ⟨τ, svs, QQ, o, r, c, p⟩ => by
    rw [Paired.length r]
    exact hl _ _ _ c) fun cdv A outer s H vs Q E hr ⟨τ, svs, QQ, o, r, c, p⟩ =>
    ⟨_, pss_wb, body f cdv A outer s H E hr svs τ QQ c _ H o (slOk_start r) _ ⟨fun σ' H' ρ' τ' q o' _ t => p _ H' _ τ' q o' Dn.non t, p, fun _ _ _ _ q => q.elim, fun _ _ _ _ q => q.elim⟩⟩
theorem knows_mk {x : Str} {st : Stmt} {N ps : List Str} {k : Nat} {C : Ctr} (F : HasDef K mg x st ps) (S : FnScope N ps (defScope st)) (hl : ∀ svs τ Q, C svs τ Q → svs.length = ps.length)
    (body : ∀ f cdv A outer s H E, Room k (BX P w K mg base N x st f cdv A outer s H E).A → ∀ svs τ Q, C svs τ Q →
      Db (BX P w K mg base N x st f cdv A outer s H E) (startE N svs) τ (defBody st) { nx := fun _ τ' => Q (.val .none) τ', rt := Q }) : Knows P w K mg base (k + 1) x C := by
  obtain ⟨f, fd, F, g, b⟩ := F.ex
  exact ⟨f, fd, ps, knowsF_mk S hl body f fd F, g, F.kp, b⟩
/-! ### the end -/
theorem hasDef_mk {h : Heap} {x : Str} {st : Stmt} {ps : List Str} {f : Addr} {oc : Value} {od an : Option Addr} {osl : Array (Option Value)} {kV doc pm cdv ct : Value} (X : K.In h) (G : h.Ns mainGlobals mg) (a : PySem.W.nsIn K mainGlobals x = some (some (.ref f)))
    (l : K.lookup f = some ⟨oc, od, .func (PySem.W.fnOf x x (defArgs st) (defBody st) (defScope st) .none kV doc pm an cdv ct), osl⟩) (c : PySem.W.codeIn K cdv x = true) (k : PySem.W.keepIn K (.ref f) = true)
    (bd : ∀ (kV doc pm : Value) (an : Option Addr) (cdv ct : Value) (us : List Value), us.length = ps.length → bindArgs (PySem.W.fnOf x x (defArgs st) (defBody st) (defScope st) .none kV doc pm an cdv ct) ⟨us, []⟩ = pure (ps.zip us)) : HasDef K mg x st ps :=
  ⟨f, _, fun_mk l c k, PySem.W.mg_of X G a, (fun_mk l c k).binds bd⟩
def cLaw : Ctr := fun svs τ Q => ∃ ns, svs = [.scr ns] ∧ ns.length ≤ 63 ∧ τ = [] ∧ ∀ τ', Q (.val (.bool true)) τ'
theorem law_sp {H : Hp} {a : Addr} {ns : List Int} (hl : ns.length ≤ 63) (hO : Only H) (hS : SqL K H a (ns.map V.int)) : spC K cLaw [.ref a] H (fun v _ => v = .bl true) fun _ _ _ => False := by
  refine ⟨[], [.scr ns], fun sv _ => sv = .val (.bool true), ⟨List.nodup_nil, fun p hp => by cases hp⟩, .cons ⟨a, rfl, ?_⟩ .nil, ⟨ns, rfl, hl, rfl, fun _ => rfl⟩, ?_⟩
  · rcases hS with (h | ⟨o, h⟩) | h
    · rcases hO a with z | ⟨o, xs, z⟩
      · rw [z] at h
        cases h
      · rw [z] at h
        cases h
    · exact .inl ⟨by simp, o, h⟩
    · exact .inr h
  · intro v H' sv τ' e _ r _
    subst e
    cases r
    rfl
end
theorem law_fin {P : Program} {w : World} {K : PySem.W.Frag} {mg : Str → Option Value} {h : Heap} {n : Nat} {st : Stmt} {fa f : Addr} {oc : Value} {od an : Option Addr} {osl : Array (Option Value)} {kV doc pm cdv ct : Value} (X : K.In h) (G : h.Ns mainGlobals mg) (hfa : mg "law" = some (.ref fa)) (a : PySem.W.nsIn K mainGlobals "law" = some (some (.ref f)))
    (l : K.lookup f = some ⟨oc, od, .func (PySem.W.fnOf "law" "law" (defArgs st) (defBody st) (defScope st) .none kV doc pm an cdv ct), osl⟩) (c : PySem.W.codeIn K cdv "law" = true) (k : PySem.W.keepIn K (.ref f) = true)
    (bd : ∀ (kV doc pm : Value) (an : Option Addr) (cdv ct : Value) (us : List Value), us.length = 1 → bindArgs (PySem.W.fnOf "law" "law" (defArgs st) (defBody st) (defScope st) .none kV doc pm an cdv ct) ⟨us, []⟩ = pure ((["_law_script"] : List Str).zip us))
    (ok : ∀ base, KnowsF P w K mg base n "law" st ["_law_script"] cLaw) :
    ∃ fd : FuncData, (∀ (s : Shared) (u : Value), BindsTo s fd ⟨[u], []⟩ [("_law_script", u)]) ∧ ∀ base : Heap, K.In base → base.Ns mainGlobals mg → FnOk P w K mg base CX0 n fa fd ["_law_script"] (spC K cLaw) := by
  have e := hfa.symm.trans (PySem.W.mg_of X G a)
  cases e
  exact ⟨_, fun s v => .of_eq (bd kV doc pm an cdv ct [v] rfl), fun base _ _ => ok base _ _ (fun_mk l c k)⟩
theorem walk_law {l : PySem.W.OpenLaw} {q : Program} {loose : List Str} {XP : (Str → Option Value) → Heap → Prop} {YP : World → Heap → Prop} {d : DefRec} {K : Params → PySem.W.Frag} {k : Nat} {st : Stmt} (hn : l.most = some 63) (hdf : d.params.defaults = []) (hr : Room k callerA)
    (hY : ∀ (w : World) (h : Heap), YP w h → (K w.params).In h)
    (F : ∀ (w : World) (mg : Str → Option Value) (fa : Addr) (h : Heap), (K w.params).In h → h.Ns mainGlobals mg → mg d.name = some (.ref fa) →
      ∃ fd : FuncData, (∀ (s : Shared) (u : Value), BindsTo s fd ⟨[u], []⟩ [("_law_script", u)]) ∧ ∀ base : Heap, (K w.params).In base → base.Ns mainGlobals mg → FnOk l.prog w (K w.params) mg base CX0 k fa fd ["_law_script"] (spC (K w.params) cLaw)) :
    PySem.W.WalkO q loose XP YP l.row.toRowW d [] (fun f vs => PySem.call f vs) :=
  L2.walk_of (n := 63) (k := k) (x := "_law_script") (CX := fun _ => CX0) (sp := fun w => spC (K w.params) cLaw) hn (by decide) hdf hr hY F (fun _ _ _ _ hl hO hS => law_sp hl hO hS) fun _ _ _ _ _ z => z
end Dl

namespace Dl
open PySem PySem.Spec L2

/-! ### plain data: no bools, no dicts, of some depth -/
def Pl : Nat → PyData → Prop
  | _, .none => True
  | _, .int _ => True
  | _, .str x => PyData.strOk x = true
  | 0, .list xs => xs = []
  | n + 1, .list xs => ∀ x ∈ xs, Pl n x
  | 0, .tuple xs => xs = []
  | n + 1, .tuple xs => ∀ x ∈ xs, Pl n x
  | _, .bool _ => False
  | _, .dict _ => False
theorem canLayAll0_of {xs : List PyData} (h : ∀ x ∈ xs, x.canLay0 = true) : PyData.canLayAll0 xs = true := by
  induction xs with
  | nil => rfl
  | cons x r ih =>
    rw [PyData.canLayAll0, h x List.mem_cons_self, ih fun y hy => h y (List.mem_cons_of_mem _ hy)]
    rfl
theorem depthAll_of {xs : List PyData} {n : Nat} (h : ∀ x ∈ xs, x.depth ≤ n) : PyData.depthAll xs ≤ n := by
  induction xs with
  | nil => exact Nat.zero_le _
  | cons x r ih =>
    rw [PyData.depthAll]
    exact Nat.max_le.mpr ⟨h x List.mem_cons_self, ih fun y hy => h y (List.mem_cons_of_mem _ hy)⟩
theorem Pl.lay : ∀ {n : Nat} {d : PyData}, Pl n d → d.canLay0 = true
  | _, .none, _ => rfl
  | _, .int _, _ => rfl
  | n, .str x, h => by
    cases n <;> exact h
  | 0, .list xs, h => by
    have h : xs = [] := h
    subst h
    rfl
  | n + 1, .list xs, h => by
    have h : ∀ x ∈ xs, Pl n x := h
    show PyData.canLayAll0 xs = true
    exact canLayAll0_of fun x hx => (h x hx).lay
  | 0, .tuple xs, h => by
    have h : xs = [] := h
    subst h
    rfl
  | n + 1, .tuple xs, h => by
    have h : ∀ x ∈ xs, Pl n x := h
    show PyData.canLayAll0 xs = true
    exact canLayAll0_of fun x hx => (h x hx).lay
  | n, .bool _, h => by cases n <;> exact h.elim
  | n, .dict _, h => by cases n <;> exact h.elim
theorem Pl.dep : ∀ {n : Nat} {d : PyData}, Pl n d → d.depth ≤ n + 1
  | _, .none, _ => Nat.zero_le _
  | _, .int _, _ => Nat.zero_le _
  | n, .str x, h => Nat.zero_le _
  | 0, .list xs, h => by
    have h : xs = [] := h
    subst h
    exact Nat.le_refl _
  | n + 1, .list xs, h => by
    have h : ∀ x ∈ xs, Pl n x := h
    show PyData.depthAll xs + 1 ≤ n + 1 + 1
    have := depthAll_of (n := n + 1) fun x hx => (h x hx).dep
    omega
  | 0, .tuple xs, h => by
    have h : xs = [] := h
    subst h
    exact Nat.le_refl _
  | n + 1, .tuple xs, h => by
    have h : ∀ x ∈ xs, Pl n x := h
    show PyData.depthAll xs + 1 ≤ n + 1 + 1
    have := depthAll_of (n := n + 1) fun x hx => (h x hx).dep
    omega
  | n, .bool _, h => by cases n <;> exact h.elim
  | n, .dict _, h => by cases n <;> exact h.elim
theorem Pl.shaped {n : Nat} {d : PyData} (h : Pl n d) (hn : n ≤ 60 := by decide) : SeqAt.shaped d = true := by
  unfold SeqAt.shaped
  rw [h.lay, Bool.true_and]
  have := h.dep
  exact decide_eq_true (by omega)
theorem eqvAll_iff {n : Nat} (ih : ∀ {d e : PyData}, Pl n d → PyData.eqv d e = true → d = e) : ∀ {xs ys : List PyData}, (∀ x ∈ xs, Pl n x) → PyData.eqvAll xs ys = true → xs = ys
  | [], [], _, _ => rfl
  | [], _ :: _, _, h => by simp [PyData.eqvAll] at h
  | _ :: _, [], _, h => by simp [PyData.eqvAll] at h
  | x :: xs, y :: ys, hp, h => by
    rw [PyData.eqvAll, Bool.and_eq_true] at h
    rw [ih (hp x List.mem_cons_self) h.1, eqvAll_iff ih (fun z hz => hp z (List.mem_cons_of_mem _ hz)) h.2]
theorem Pl.eqv_eq : ∀ {n m : Nat} {d e : PyData}, Pl n d → Pl m e → PyData.eqv d e = true → d = e
  | _, _, .none, e, _, _, h => by cases e <;> first | rfl | (simp [PyData.eqv] at h)
  | _, m, .int i, e, _, he, h => by
    cases e with
    | int j =>
      simp [PyData.eqv] at h
      rw [h]
    | bool b => cases m <;> exact he.elim
    | _ => simp [PyData.eqv] at h
  | _, _, .str x, e, _, _, h => by
    cases e with
    | str y =>
      simp [PyData.eqv] at h
      rw [h]
    | _ => simp [PyData.eqv] at h
  | n, m, .list xs, e, hd, he, h => by
    cases e with
    | list ys =>
      have h : PyData.eqvAll xs ys = true := by
        rw [PyData.eqv] at h
        exact h
      have key : ∀ {xs ys : List PyData}, (∀ x ∈ xs, Pl (n - 1) x) → (∀ y ∈ ys, Pl (m - 1) y) → (0 < n ∨ xs = []) → PyData.eqvAll xs ys = true → xs = ys := by
        intro xs
        induction xs with
        | nil =>
          intro ys _ _ _ h
          cases ys with
          | nil => rfl
          | cons _ _ => simp [PyData.eqvAll] at h
        | cons x xs ih =>
          intro ys h1 h2 h3 h
          cases ys with
          | nil => simp [PyData.eqvAll] at h
          | cons y ys =>
            have hn : 0 < n := h3.elim id fun e => by cases e
            rw [PyData.eqvAll, Bool.and_eq_true] at h
            have a := Pl.eqv_eq (n := n - 1) (m := m - 1) (h1 x List.mem_cons_self) (h2 y List.mem_cons_self) h.1
            have b := ih (fun z hz => h1 z (List.mem_cons_of_mem _ hz)) (fun z hz => h2 z (List.mem_cons_of_mem _ hz)) (.inl hn) h.2
            rw [a, b]
      congr 1
      refine key ?_ ?_ ?_ h
      · cases n with
        | zero =>
          have hd : xs = [] := hd
          subst hd
          intro x hx
          cases hx
        | succ n => exact hd
      · cases m with
        | zero =>
          have he : ys = [] := he
          subst he
          intro x hx
          cases hx
        | succ m => exact he
      · cases n with
        | zero => exact .inr hd
        | succ n => exact .inl (Nat.succ_pos _)
    | _ => simp [PyData.eqv] at h
  | n, m, .tuple xs, e, hd, he, h => by
    cases e with
    | tuple ys =>
      have h : PyData.eqvAll xs ys = true := by
        rw [PyData.eqv] at h
        exact h
      have key : ∀ {xs ys : List PyData}, (∀ x ∈ xs, Pl (n - 1) x) → (∀ y ∈ ys, Pl (m - 1) y) → (0 < n ∨ xs = []) → PyData.eqvAll xs ys = true → xs = ys := by
        intro xs
        induction xs with
        | nil =>
          intro ys _ _ _ h
          cases ys with
          | nil => rfl
          | cons _ _ => simp [PyData.eqvAll] at h
        | cons x xs ih =>
          intro ys h1 h2 h3 h
          cases ys with
          | nil => simp [PyData.eqvAll] at h
          | cons y ys =>
            have hn : 0 < n := h3.elim id fun e => by cases e
            rw [PyData.eqvAll, Bool.and_eq_true] at h
            have a := Pl.eqv_eq (n := n - 1) (m := m - 1) (h1 x List.mem_cons_self) (h2 y List.mem_cons_self) h.1
            have b := ih (fun z hz => h1 z (List.mem_cons_of_mem _ hz)) (fun z hz => h2 z (List.mem_cons_of_mem _ hz)) (.inl hn) h.2
            rw [a, b]
      congr 1
      refine key ?_ ?_ ?_ h
      · cases n with
        | zero =>
          have hd : xs = [] := hd
          subst hd
          intro x hx
          cases hx
        | succ n => exact hd
      · cases m with
        | zero =>
          have he : ys = [] := he
          subst he
          intro x hx
          cases hx
        | succ m => exact he
      · cases n with
        | zero => exact .inr hd
        | succ n => exact .inl (Nat.succ_pos _)
    | _ => simp [PyData.eqv] at h
  | n, _, .bool _, _, h, _, _ => by cases n <;> exact h.elim
  | n, _, .dict _, _, h, _, _ => by cases n <;> exact h.elim
termination_by n => n
theorem Pl.eqv_iff {n m : Nat} {d e : PyData} (h : Pl n d) (h' : Pl m e) : PyData.eqv d e = true ↔ d = e := ⟨h.eqv_eq h', fun q => by
  subst q
  exact SeqAt.eqv_refl d h.lay⟩
section
variable {K : PySem.W.Frag} {τ : Store} {Q : MV → Store → Prop} {neg : Bool}
/-- == of plain data -/
theorem eq_pl {n m : Nat} {x y : MV} {d e : PyData} (hx : datOf τ x = some d) (hy : datOf τ y = some e) (hd : Pl n d) (he : Pl m e) (q : ∀ b : Bool, (b = true ↔ d = e) → Q (.val (.bool (bneg neg b))) τ) (hn : n ≤ 60 := by decide) (hm : m ≤ 60 := by decide) : EqD K neg x y τ Q :=
  eq_dat hx hy (hd.shaped hn) (he.shaped hm) (q _ (hd.eqv_iff he))
theorem eq_int {i j : Int} (q : Q (.val (.bool (bneg neg (decide (i = j))))) τ) : EqD K neg (.val (.int i)) (.val (.int j)) τ Q :=
  eq_dat rfl rfl rfl rfl (by
    have e : PyData.eqv (.int i) (.int j) = decide (i = j) := by
      simp only [PyData.eqv]
      by_cases h : i = j <;> simp [h]
    rw [e]
    exact q)
theorem eq_bool {i j : Bool} (q : Q (.val (.bool (bneg neg (decide (i = j))))) τ) : EqD K neg (.val (.bool i)) (.val (.bool j)) τ Q :=
  eq_dat rfl rfl rfl rfl (by
    have e : PyData.eqv (.bool i) (.bool j) = decide (i = j) := by cases i <;> cases j <;> rfl
    rw [e]
    exact q)
theorem in_plT {n : Nat} {x y : MV} {d : PyData} {ds : List PyData} (hx : datOf τ x = some d) (hy : datOf τ y = some (.tuple ds)) (hd : Pl n d) (he : ∀ z ∈ ds, Pl n z) (q : ∀ b : Bool, (b = true ↔ d ∈ ds) → Q (.val (.bool (bneg neg b))) τ) (hn : n ≤ 50 := by decide) : InD K neg x y τ Q :=
  in_datT hx hy (hd.shaped (by omega)) (Pl.shaped (n := n + 1) (d := .tuple ds) he (by omega)) (q _ (by
    rw [List.any_eq_true]
    constructor
    · rintro ⟨z, hz, h⟩
      rw [← (he z hz).eqv_eq hd h]
      exact hz
    · intro h
      exact ⟨d, h, SeqAt.eqv_refl d hd.lay⟩))
theorem in_pl {n : Nat} {x y : MV} {d : PyData} {ds : List PyData} (hx : datOf τ x = some d) (hy : datOf τ y = some (.list ds)) (hd : Pl n d) (he : ∀ z ∈ ds, Pl n z) (q : ∀ b : Bool, (b = true ↔ d ∈ ds) → Q (.val (.bool (bneg neg b))) τ) (hn : n ≤ 50 := by decide) : InD K neg x y τ Q :=
  in_dat hx hy (hd.shaped (by omega)) (Pl.shaped (n := n + 1) (d := .list ds) he (by omega)) (q _ (by
    rw [List.any_eq_true]
    constructor
    · rintro ⟨z, hz, h⟩
      rw [← (he z hz).eqv_eq hd h]
      exact hz
    · intro h
      exact ⟨d, h, SeqAt.eqv_refl d hd.lay⟩))
end
end Dl

/-! t[::-1] of a tuple -/
namespace Dl
open PySem PySem.Spec PyProof.Rows HT
section
variable {prog : Program} {w : World} {A : Around} {E : Value → Shared → Prop} {s : Shared}
theorem rev_sliceApplied {sl : Addr} {vl vu vs : Value} {n : Nat} {Q : Int × Int × Nat → Shared → Prop} (hs : s.heap.IsSliceOf sl vl vu vs) (pl : IsPart vl none) (pu : IsPart vu none) (ps : IsPart vs (some (-1)))
    (h : Q ((n : Int) - 1, -1, n) s) : wpAny (model prog w) A (Builtin.Slice.sliceApplied (.ref sl) (pure (n : Int))) Q E s := by
  obtain ⟨os, hos, hcs, hds⟩ := id hs
  unfold Builtin.Slice.sliceApplied Builtin.Slice.sliceFields
  refine wpAny_bind (wpAny_bind (wpAny_field hos hds (x := vl) rfl (wpAny_bind (wpAny_field hos hds (x := vu) rfl (wpAny_bind (wpAny_field hos hds (x := vs) rfl (wpAny_pure ?_)))))))
  refine wpAny_bind (slicePart_ ps ?_)
  show wpAny (model prog w) A (if ((-1 : Int) == 0) = true then _ else _) Q E s
  rw [if_neg (by decide)]
  refine wpAny_bind (slicePart_ pl (wpAny_bind (slicePart_ pu (wpAny_bind (wpAny_pure ?_)))))
  show wpAny (model prog w) A (match Builtin.Slice.sliceAdjust none none (-1) (n : Int) with | (lo, hi) => pure (lo, (-1 : Int), Builtin.Slice.slicePlaces lo hi (-1))) Q E s
  have ea : Builtin.Slice.sliceAdjust none none (-1) (n : Int) = ((n : Int) - 1, -1) := by
    simp [Builtin.Slice.sliceAdjust]
  have ep : Builtin.Slice.slicePlaces ((n : Int) - 1) (-1) (-1) = n := by
    simp [Builtin.Slice.slicePlaces]
    split <;> omega
  rw [ea]
  show wpAny (model prog w) A (pure ((n : Int) - 1, (-1 : Int), Builtin.Slice.slicePlaces ((n : Int) - 1) (-1) (-1))) Q E s
  rw [ep]
  exact wpAny_pure h
theorem rev_pick (xs : Array Value) : ((List.range xs.size).filterMap fun (m : Nat) => xs[(((xs.size : Nat) : Int) - 1 + (m : Int) * (-1)).toNat]?).toArray = xs.toList.reverse.toArray := by
  congr 1
  have e : ∀ (l : List Nat), (∀ m ∈ l, m < xs.size) → l.filterMap (fun (m : Nat) => xs[(((xs.size : Nat) : Int) - 1 + (m : Int) * (-1)).toNat]?) = l.map fun m => xs[xs.size - 1 - m]?.getD .none := by
    intro l
    induction l with
    | nil => intro _; rfl
    | cons m r ih =>
      intro h
      have hm := h m List.mem_cons_self
      have e1 : (((xs.size : Nat) : Int) - 1 + (m : Int) * (-1)).toNat = xs.size - 1 - m := by omega
      have e2 : xs[xs.size - 1 - m]? = some xs[xs.size - 1 - m] := Array.getElem?_eq_getElem (by omega)
      rw [List.filterMap_cons, e1, e2, List.map_cons, ih fun z hz => h z (List.mem_cons_of_mem _ hz), e2]
      rfl
  rw [e _ fun m hm => List.mem_range.mp hm]
  apply List.ext_getElem
  · simp
  · intro i h1 h2
    simp at h1 h2 ⊢
    rw [Array.getElem?_eq_getElem (by omega)]
    rfl
theorem rev_getItem {t sl : Addr} {items : Array Value} {vl vu vs : Value} {Q : Value → Shared → Prop} (ht : IsTup s.heap t items) (hs : s.heap.IsSliceOf sl vl vu vs) (pl : IsPart vl none) (pu : IsPart vu none) (ps : IsPart vs (some (-1)))
    (h : Q (.ref s.heap.objs.size) { s with heap := s.heap.push { cls := .type "tuple", data := .seq items.toList.reverse.toArray } }) (hsz : items.size ≤ sizeLine) : wpAny (model prog w) A (getItem (.ref t) (.ref sl)) Q E s := by
  have fits : sizeOk (.seq items.toList.reverse.toArray) := by
    show items.toList.reverse.toArray.size ≤ sizeLine
    rw [List.size_toArray, List.length_reverse, Array.length_toList]
    exact hsz
  obtain ⟨os, hos, hcs, hds⟩ := id hs
  have hT : s.TypeIs (.ref sl) "slice" := ⟨os, hos, hcs⟩
  unfold getItem
  try with_reducible refine wpAny_holding ?_
  first | refine wpAny_bind (wpAny_pure ?_) | skip
  refine wpAny_bind (wpAny_sequenceKey ht.typeIs (by decide) (wpAny_bind (wpAny_callSpecial?_slot (name := Str.ofString "__getitem__") ht.typeIs PyProof.Rows.slot_tuple_getitem
    (wpAny_call_entry PyProof.Rows.slot_tuple_getitem ht.typeIs entry_tuple_getitem ?_ (args_tuple_getitem _ _)))))
  show wpAny _ A.in1 (Builtin.Tuple.tupleItemsOf (.ref t) >>= _) _ E s
  refine wpAny_bind (tupleItemsOf_ ht (wpAny_bind (wpAny_typeOf hT ?_)))
  rw [if_pos (by decide)]
  refine wpAny_bind (rev_sliceApplied hs pl pu ps ?_)
  have no : ¬ ((((items.size : Nat) : Int) - 1 == 0 && (-1 : Int) == 1 && items.size == items.size) = true) := by simp
  show wpAny _ A.in1 (if ((((items.size : Nat) : Int) - 1 == 0 && (-1 : Int) == 1 && items.size == items.size) = true) then _ else _) _ E s
  rw [if_neg no, rev_pick]
  first
    | exact wpAny_bind (m := Builtin.Tuple.tupleExact _) (wpAny_newObj_type (wpAny_pure ⟨_, rfl, wpAny_pure h⟩) fits)
    | exact wpAny_bind (m := Builtin.Tuple.tupleExact _) (wpAny_newObj_type (wpAny_bind (wpAny_pure (wpAny_pure ⟨_, rfl, wpAny_pure h⟩))) fits)
    | exact wpAny_bind (wpAny_bind (m := Builtin.Tuple.tupleExact _) (wpAny_newObj_type (wpAny_pure (wpAny_pure ⟨_, rfl, wpAny_pure h⟩)) fits))
    | exact wpAny_bind (wpAny_bind (m := Builtin.Tuple.tupleExact _) (wpAny_newObj_type (wpAny_pure ⟨_, rfl, wpAny_pure h⟩) fits))
end
end Dl
namespace Dl
open PySem PySem.Spec L2
section
variable {X : Cx} {ρ : En} {τ : Store} {Q : MV → Store → Prop} {a : Expr} {k : Nat} {p1 p2 p3 pos : Pos}
theorem slot_tupGet : PySem.Slot "tuple" "__getitem__" "tuple.__getitem__" := PyProof.Rows.slot_tuple_getitem
theorem de_revT (h : De X ρ τ a fun x τ1 => ∃ ds, x = .val (.tuple ds) ∧ Q (.val (.tuple ds.reverse)) τ1) : De X ρ τ (.Subscript a (.Slice none none (some (.UnaryOp .USub (.Constant (.int 1) k p1) p2)) p3) pos) Q := .mk fun σ H o l QQ p pins s I => by
  refine PyProof.Rows.Subscript_ (thn (h σ H o l (fun v H1 => ∃ a vs, v = .ref a ∧ SqT X.K H1 a vs ∧ ∀ q, H1 q = none → QQ (.ref q) (upd H1 q (.tup vs.reverse))) (fun v H1 x τ1 ⟨ds, ex, q⟩ o1 r1 t1 => ?_) pins s I) fun v s1 ⟨x, H1, I1, r1, q1⟩ => ?_)
  · subst ex
    cases r1 with
    | @tup b vs _ n1 l1 => exact ⟨b, vs, rfl, n1.sq, (p.step t1).tup o1 l1.reverse q⟩
  obtain ⟨b, xs, ex, hx, q⟩ := q1
  subst ex
  cases r1
  have hst : PO X (some (.UnaryOp .USub (.Constant (.int 1) k p1) p2)) (tPart (tUn (rU fun i => .int (-i)) (tC (.int 1)))) := po_some (pe_un un_neg pe_int)
  refine wpAny_Slice (thn (po_none.run pins s1 σ H1 (fun o H2 => o = none ∧ H2 = H1) I1 ⟨rfl, rfl⟩) fun vl s2 ⟨l2, H2, I2, pl, el, e2⟩ => ?_)
  subst el e2
  refine thn (po_none.run pins s2 σ H2 (fun o H3 => o = none ∧ H3 = H2) I2 ⟨rfl, rfl⟩) fun vu s3 ⟨u, H3, I3, pu, eu, e3⟩ => ?_
  subst eu e3
  refine thn (hst.run pins s3 σ H3 (fun o H4 => o = some (-1) ∧ H4 = H3) I3 ⟨1, rfl, -1, rfl, rfl, rfl⟩) fun vs s4 ⟨o4, H4, I4, ps, eo, e4⟩ => ?_
  subst eo e4
  have I5 : Inv X pins σ H4 { s4 with heap := s4.heap.push { cls := .type "slice", data := .fields #[vl, vu, vs] } } := I4.kept (t' := s4.toks) fun _ _ z => Heap.get?_push_of_some _ z
  obtain ⟨its, r, ht, hz⟩ := I5.tuple hx
  have hlen := r.length
  show wpAny (model X.prog X.w) X.A (PyProof.Rows.subscriptTail a (.Slice none none (some (.UnaryOp .USub (.Constant (.int 1) k p1) p2)) p3) (.ref b) (.ref s4.heap.objs.size)) (EP X pins σ QQ) X.xe { s4 with heap := s4.heap.push { cls := .type "slice", data := .fields #[vl, vu, vs] } }
  refine PyProof.Rows.tail_any (ops := [.ref b, .ref s4.heap.objs.size]) ht.typeIs (PyProof.Rows.slot_tuple_getitem.lookup) ?_ (by with_unfolding_all rfl)
  refine rev_getItem ht (Heap.IsSliceOf.new _ vl vu vs) pl pu ps ?_ (by rw [List.size_toArray]; omega)
  refine ⟨.ref _, _, I5.laid (t' := s4.toks) (o := .tup xs.reverse) (fun _ _ z => Heap.get?_push_of_some _ z) (Nat.le_refl _) ?_, rfl, q _ (I5.hok.fresh (Nat.le_refl _))⟩
  exact ⟨by rw [List.length_reverse]; exact hz, _, r.reverse, PyProof.Rows.IsTup.new _ _⟩
end
end Dl

namespace Dl
open PySem PySem.Spec L2
theorem setS_setS {a : Addr} {m m' : MO} : ∀ {τ : Store}, setS a m (setS a m' τ) = setS a m τ
  | [] => rfl
  | (b, x) :: r => by
    by_cases h : b = a
    · simp [setS, h]
    · simp [setS, h, setS_setS (τ := r)]
theorem lookup_setS {a : Addr} {m : MO} : ∀ {τ : Store}, a ∈ dom τ → (setS a m τ).lookup a = some m
  | [], h => by cases h
  | (b, x) :: r, h => by
    by_cases e : b = a
    · subst e
      simp [setS]
    · have h' : a ∈ dom r := by
        rcases List.mem_cons.mp h with h | h
        · exact absurd h.symm e
        · exact h
      have hb : (a == b) = false := beq_eq_false_iff_ne.mpr fun q => e q.symm
      simp [setS, e, List.lookup_cons, hb, lookup_setS h']
theorem dom_of_lookup {τ : Store} {a : Addr} {m : MO} (h : τ.lookup a = some m) : a ∈ dom τ := List.mem_map_of_mem (mem_of_lookup h)
theorem lookup_setS' {τ : Store} {a : Addr} {m m' : MO} (h : τ.lookup a = some m') : (setS a m τ).lookup a = some m := lookup_setS (dom_of_lookup h)
theorem setS_self {a : Addr} {m : MO} : ∀ {τ : Store}, τ.lookup a = some m → setS a m τ = τ
  | [], h => by cases h
  | (b, x) :: r, h => by
    by_cases e : b = a
    · subst e
      simp at h
      simp [setS, h]
    · have hb : (a == b) = false := beq_eq_false_iff_ne.mpr fun q => e q.symm
      rw [List.lookup_cons, hb] at h
      simp [setS, e, setS_self h]
theorem lookup_cons_ne {a b : Addr} {m : MO} {τ : Store} (h : a ≠ b) : ((b, m) :: τ : Store).lookup a = τ.lookup a := by
  rw [List.lookup_cons, show (a == b) = false from beq_eq_false_iff_ne.mpr h]
theorem lookup_push {a b : Addr} {m m' : MO} {τ : Store} (h : τ.lookup a = some m) (hb : b ∉ dom τ) : ((b, m') :: τ : Store).lookup a = some m := by
  rw [lookup_cons_ne fun e => hb (by rw [← e]; exact dom_of_lookup h)]
  exact h
theorem setS_push {a b : Addr} {m m' : MO} {τ : Store} (ha : a ∈ dom τ) (hb : b ∉ dom τ) : setS a m ((b, m') :: τ) = (b, m') :: setS a m τ := by
  have h : ¬ b = a := fun e => hb (by rw [e]; exact ha)
  simp [setS, h]
theorem datOf_hdl {τ : Store} {a : Addr} {ds : List PyData} (h : τ.lookup a = some (.lst ds)) : datOf τ (.hdl a) = some (.list ds) := by
  simp [datOf, h]
theorem ixN_ok {n : Nat} {i : Int} (h0 : 0 ≤ i) (h1 : i < n) : ixN n i = some i.toNat := by
  unfold ixN
  rw [if_pos h0, if_pos h1]
/-- a comprehension without tests, by an invariant over the turn, what is made, the store -/
theorem lcq_inv {X : Cx} {ρ : En} {scope : Scope} {vs : List Nat} {t : Tg} {elt : Expr} {Q : MV → Store → Prop} {ds : List PyData} {S : Store → Prop} {τ1 : Store} (I : Nat → List PyData → Store → Prop) (h0 : I 0 [] τ1) (hl : ds.length ≤ 900000) (hlen : ∀ i acc τ', I i acc τ' → acc.length ≤ i)
    (h : ∀ i d acc τ', ds[i]? = some d → i < ds.length → I i acc τ' → ∀ D, D ∉ dom τ' → ∃ ρ2, bindD (wipeE ρ vs) t d = some ρ2 ∧ ∀ s H C cl fp, De (Blk X s H scope C cl fp) ρ2 ((D, .lst acc) :: τ') elt fun sv τ3 => ∃ y τ4, sv = .val y ∧ τ3 = (D, .lst acc) :: τ4 ∧ I (i + 1) (acc ++ [y]) τ4)
    (hd : ∀ acc τ', I ds.length acc τ' → Q (.val (.list acc)) τ') (hS : ∀ D τ' acc, D ∉ dom τ' → S ((D, .lst acc) :: τ') := by exact fun _ _ _ _ => trivial) : LcQ X ρ scope vs t elt [] Q ds S τ1 := by
  refine ⟨I, h0, ⟨fun i acc τ' D _ hD => hS D τ' acc hD, fun i d acc τ' e hI => ?_⟩, hd⟩
  have hi := (List.getElem?_eq_some_iff.mp e).1
  refine ⟨by have := hlen i acc τ' hI; omega, fun D hD => ?_⟩
  obtain ⟨ρ2, e2, hb⟩ := h i d acc τ' e hi hI D hD
  refine ⟨ρ2, e2, fun k τ2 => k = true ∧ τ2 = (D, .lst acc) :: τ', fun _ _ _ _ _ => df_nil ⟨rfl, rfl⟩, ?_, ?_⟩
  · rintro τ2 ⟨_, rfl⟩
    exact hb
  · rintro τ2 ⟨h, _⟩
    cases h
/-- a statement behind which R holds, then the rest -/
theorem db_seq {X : Cx} {ρ : En} {τ : Store} {st : Stmt} {rest : List Stmt} {D : DE} (R : En → Store → Prop) (h1 : Ds X ρ τ st { D with nx := R }) (h2 : ∀ ρ' τ', R ρ' τ' → Db X ρ' τ' rest D) : Db X ρ τ (st :: rest) D :=
  db_cons (.mk fun σ H o l DD p => h1 σ H o l DD ⟨fun σ' H' ρ' τ' r => p.nx σ' H' ρ' τ' (h2 _ _ r), p.rt, p.bk, p.ct⟩)
/-- a statement that leaves all as it is, where it goes on -/
theorem db_same {X : Cx} {ρ : En} {τ : Store} {st : Stmt} {rest : List Stmt} {D : DE} (h1 : Ds X ρ τ st { D with nx := fun ρ' τ' => ρ' = ρ ∧ τ' = τ }) (h2 : Db X ρ τ rest D) : Db X ρ τ (st :: rest) D :=
  db_seq _ h1 fun _ _ ⟨a, b⟩ => by
    subst a b
    exact h2
section
variable {K : PySem.W.Frag} {τ : Store} {Q : MV → Store → Prop} {neg : Bool}
/-- data that are the same, compared -/
theorem eq_same {n : Nat} {x y : MV} {d e : PyData} (hx : datOf τ x = some d) (hy : datOf τ y = some e) (hd : Pl n d) (h : d = e) (q : Q (.val (.bool (bneg neg true))) τ) (hn : n ≤ 60 := by decide) : EqD K neg x y τ Q := by
  subst h
  exact eq_pl hx hy hd hd (fun b hb => by rw [hb.mpr rfl]; exact q) hn hn
end
end Dl

namespace Dl
open PySem PySem.Spec L2
section
variable {X : Cx} {ρ : En} {τ : Store} {pos p1 p2 p3 spos : Pos} {tg iter elt tg1 iter1 : Expr} {ifs ifs1 : List Expr} {scope : Scope} {own : List (Str × Nat)}
/-- two clauses, nothing changes: one item of the second -/
structure In2 (X : Cx) (ρ3 : En) (τ1 : Store) (scope : Scope) (elt : Expr) (ifs1 : List Expr) (D : Addr) (r : List PyData) : Prop where
  run : ∃ b : Bool, (b = false → r = []) ∧ ∀ acc, (∀ s H C cl fp, Df (Blk X s H scope C cl fp) ρ3 ((D, .lst acc) :: τ1) ifs1 fun k τ2 => k = b ∧ τ2 = (D, .lst acc) :: τ1) ∧
    (b = true → ∃ y, r = [y] ∧ ∀ s H C cl fp, De (Blk X s H scope C cl fp) ρ3 ((D, .lst acc) :: τ1) elt fun sv τ3 => sv = .val y ∧ τ3 = (D, .lst acc) :: τ1)
structure Out2 (X : Cx) (ρ2 : En) (τ1 : Store) (scope : Scope) (vs1 : List Nat) (t1 : Tg) (elt tg1 iter1 : Expr) (ifs ifs1 : List Expr) (D : Addr) (acc : List PyData) (r : List PyData) : Prop where
  run : ∃ b : Bool, (b = false → r = []) ∧ (∀ s H C cl fp, Df (Blk X s H scope C cl fp) ρ2 ((D, .lst acc) :: τ1) ifs fun k τ2 => k = b ∧ τ2 = (D, .lst acc) :: τ1) ∧
    (b = true → ∃ (es : List PyData) (g1 : List (List PyData)), g1.length = es.length ∧ r = g1.flatten ∧ (∀ s H C cl fp, Di (Blk X s H scope C cl fp) tg1 ρ2 ((D, .lst acc) :: τ1) iter1 fun es' S' τ2 => es' = es ∧ τ2 = (D, .lst acc) :: τ1 ∧ ∀ acc', S' ((D, .lst acc') :: τ1)) ∧
      ∀ (j : Nat) (e : PyData) (q : List PyData), es[j]? = some e → g1[j]? = some q → ∃ ρ3, bindD (wipeE ρ2 vs1) t1 e = some ρ3 ∧ In2 X ρ3 τ1 scope elt ifs1 D q)
def Lc2Q (X : Cx) (ρ : En) (scope : Scope) (vs vs1 : List Nat) (t t1 : Tg) (elt tg1 iter1 : Expr) (ifs ifs1 : List Expr) (Q : MV → Store → Prop) : List PyData → (Store → Prop) → Store → Prop := fun ds S τ1 =>
  ∃ g : List (List PyData), g.length = ds.length ∧ (∀ D acc, D ∉ dom τ1 → S ((D, .lst acc) :: τ1)) ∧ g.flatten.length ≤ 1000000 ∧
    (∀ (i : Nat) (d : PyData) (r : List PyData), ds[i]? = some d → g[i]? = some r → ∃ ρ2, bindD (wipeE ρ vs) t d = some ρ2 ∧ ∀ D acc, D ∉ dom τ1 → Out2 X ρ2 τ1 scope vs1 t1 elt tg1 iter1 ifs ifs1 D acc r) ∧ Q (.val (.list g.flatten)) τ1
def tiB (X : Cx) (scope : Scope) (tg1 iter1 : Expr) : TI := fun σ H R => ∀ s H0 C cl fp, Wi (Blk X s H0 scope C cl fp) tg1 iter1 σ H R
theorem flat_take {g : List (List PyData)} {i : Nat} {r : List PyData} (h : g[i]? = some r) : (g.take (i + 1)).flatten = (g.take i).flatten ++ r := by
  rw [List.take_add_one, h, List.flatten_append]
  simp
theorem flat_le {g : List (List PyData)} (i : Nat) : ((g.take i).flatten).length ≤ g.flatten.length := by
  have e : g.flatten = (g.take i).flatten ++ (g.drop i).flatten := by rw [← List.flatten_append, List.take_append_drop]
  rw [e, List.length_append]
  omega
theorem same_get {g : List (List PyData)} {ds : List PyData} (hl : g.length = ds.length) {i : Nat} (h : i < ds.length) : ∃ r, g[i]? = some r := ⟨g[i], List.getElem?_eq_getElem (by omega)⟩
theorem lc2_read {t t1 : Tg} {vs vs1 : List Nat} {Q : MV → Store → Prop} (hu : ∀ j ∈ t.slots, j ∈ vs) (hu1 : ∀ j ∈ t1.slots, j ∈ vs1) (h : Di X tg ρ τ iter (Lc2Q X ρ scope vs vs1 t t1 elt tg1 iter1 ifs ifs1 Q)) {σ : L2.St} {H : Hp} (o : StOk X.K H τ) (l : SlOk X.K (dom τ) H σ ρ) {QQ : VK} (p : Pst X.K τ H Q QQ) :
    tLc2 (Wi X tg iter) (tgR X.K t) (ttB X scope ifs) (tiB X scope tg1 iter1) (tgR X.K t1) (ttB X scope ifs1) (teB X scope elt) vs vs1 σ H QQ := by
  refine h σ H o l _ fun J H1 ds S τ1 ⟨g, hgl, hS, hlen, ht, hd⟩ o1 t1' wk => fun D hD => ?_
  have nD : D ∉ dom τ1 := o1.fresh hD
  have tp : Tr (dom τ1) H1 (dom ((D, MO.lst []) :: τ1)) (upd H1 D (.lst [])) := Tr.push hD
  refine ⟨fun i m H' => m = ds.length - i ∧ i ≤ ds.length ∧ StOk X.K H' ((D, .lst ((g.take i).flatten)) :: τ1) ∧ Tr (dom τ1) H1 (dom ((D, MO.lst ((g.take i).flatten)) :: τ1)) H', ⟨ds.length, rfl, Nat.zero_le _, o1.push hD ⟨[], upd_same, .nil⟩, tp⟩, ?_⟩
  rintro i m H' ⟨rfl, hi, o', t'⟩
  by_cases hlt : i < ds.length
  · refine .inr ⟨wk.go i H' _ hlt t' o' (hS _ _ nD), fun H2 => StOk X.K H2 ((D, .lst ((g.take (i + 1)).flatten)) :: τ1) ∧ Tr (dom τ1) H1 (dom ((D, MO.lst ((g.take (i + 1)).flatten)) :: τ1)) H2, fun H2 q => ⟨ds.length - (i + 1), by omega, rfl, hlt, q⟩, fun x H2 y => ?_⟩
    obtain ⟨d, hd', t2, o2, r2⟩ := wk.yld i H' _ x H2 hlt t' o' (hS _ _ nD) y
    obtain ⟨rr, hrr⟩ := same_get hgl hlt
    obtain ⟨ρ2, e2, hO⟩ := ht i d rr hd' hrr
    obtain ⟨b, hb0, hf, hb1⟩ := (hO D ((g.take i).flatten) nD).run
    have ef := flat_take hrr
    have l2 : SlOk X.K (dom ((D, MO.lst ((g.take i).flatten)) :: τ1)) H2 (wipe σ vs) (wipeE ρ vs) := (((l.tr t1').tr t').tr t2).wipe vs
    refine tgR_ok' hu l2 e2 r2 fun σ3 l3 w3 => ⟨by rw [w3, wipe_wipe σ vs vs fun _ h => h], ?_⟩
    intro s0 H0 C0 cl0 fp0
    refine hf s0 H0 C0 cl0 fp0 σ3 H2 o2 l3 _ fun k H3 τ3 q3 o3 t3 => ?_
    obtain ⟨rfl, rfl⟩ := q3
    cases k with
    | true =>
      refine iteT ?_
      obtain ⟨es, g1, hg1l, eg, hI, hE⟩ := hb1 rfl
      intro s1 H1' C1 cl1 fp1
      refine hI s1 H1' C1 cl1 fp1 σ3 H3 o3 (l3.tr t3) _ fun J1 H4 es' S' τ4 q4 o4 t4 wk1 => ?_
      obtain ⟨rfl, rfl, hS'⟩ := q4
      refine ⟨fun j m H' => m = es'.length - j ∧ j ≤ es'.length ∧ StOk X.K H' ((D, .lst ((g.take i).flatten ++ (g1.take j).flatten)) :: τ1) ∧ Tr (dom ((D, MO.lst ((g.take i).flatten)) :: τ1)) H4 (dom ((D, MO.lst ((g.take i).flatten)) :: τ1)) H', ⟨es'.length, rfl, Nat.zero_le _, by simpa using o4, Tr.refl⟩, ?_⟩
      rintro j m H5 ⟨rfl, hj, o5, t5⟩
      by_cases hjl : j < es'.length
      · refine .inr ⟨wk1.go j H5 ((D, .lst ((g.take i).flatten ++ (g1.take j).flatten)) :: τ1) hjl t5 o5 (hS' _), fun H6 => StOk X.K H6 ((D, .lst ((g.take i).flatten ++ (g1.take (j + 1)).flatten)) :: τ1) ∧ Tr (dom ((D, MO.lst ((g.take i).flatten)) :: τ1)) H4 (dom ((D, MO.lst ((g.take i).flatten)) :: τ1)) H6, fun H6 q => ⟨es'.length - (j + 1), by omega, rfl, hjl, q⟩, fun x1 H6 y1 => ?_⟩
        obtain ⟨e, he', t6, o6, r6⟩ := wk1.yld j H5 ((D, .lst ((g.take i).flatten ++ (g1.take j).flatten)) :: τ1) x1 H6 hjl t5 o5 (hS' _) y1
        obtain ⟨r1, hr1⟩ := same_get hg1l hjl
        obtain ⟨ρ3, e3, hin⟩ := hE j e r1 he' hr1
        obtain ⟨b1, hz0, hz⟩ := hin.run
        have ef1 := flat_take hr1
        obtain ⟨hf1, hy1⟩ := hz ((g.take i).flatten ++ (g1.take j).flatten)
        have l6 : SlOk X.K (dom ((D, MO.lst ((g.take i).flatten ++ (g1.take j).flatten)) :: τ1)) H6 (wipe σ3 vs1) (wipeE ρ2 vs1) := ((((l3.tr t3).tr t4).tr t5).tr t6).wipe vs1
        refine tgR_ok' hu1 l6 e3 r6 fun σ4 l7 w4 => ⟨by rw [w4, wipe_wipe σ3 vs1 vs1 fun _ h => h], ?_⟩
        intro s2 H2' C2 cl2 fp2
        refine hf1 s2 H2' C2 cl2 fp2 σ4 H6 o6 l7 _ fun k H7 τ7 q7 o7 t7 => ?_
        obtain ⟨rfl, rfl⟩ := q7
        cases k with
        | true =>
          refine iteT ?_
          obtain ⟨y, ey, hy⟩ := hy1 rfl
          intro s3 H3' C3 cl3 fp3
          refine hy s3 H3' C3 cl3 fp3 σ4 H7 o7 (l7.tr t7) _ fun v H8 sv τ8 q8 o8 r8 t8 => ?_
          obtain ⟨rfl, rfl⟩ := q8
          obtain ⟨us, h5, h6⟩ := o8.ok (D, .lst _) List.mem_cons_self
          have hl1 : ((g.take i).flatten ++ (g1.take j).flatten).length < 1000000 := by
            have h9 := flat_le (g := g) (i + 1)
            rw [ef, eg, List.length_append] at h9
            have h10 := flat_le (g := g1) (j + 1)
            rw [ef1, ey, List.length_append, List.length_singleton] at h10
            rw [List.length_append]
            omega
          have ow := o8.write (a := D) (o := .lst (us ++ [v])) (mo := .lst (((g.take i).flatten ++ (g1.take j).flatten) ++ [y])) List.mem_cons_self ⟨_, upd_same, (h6.append (.cons r8 .nil)).tr (Tr.write (τ := (D, MO.lst ((g.take i).flatten ++ (g1.take j).flatten)) :: τ1) (a := D) List.mem_cons_self)⟩
          have es1 : setS D (.lst (((g.take i).flatten ++ (g1.take j).flatten) ++ [y])) ((D, MO.lst ((g.take i).flatten ++ (g1.take j).flatten)) :: τ1) = (D, .lst (((g.take i).flatten ++ (g1.take j).flatten) ++ [y])) :: τ1 := if_pos rfl
          rw [es1] at ow
          have tw : Tr (dom ((D, MO.lst ((g.take i).flatten ++ (g1.take j).flatten)) :: τ1)) H8 (dom ((D, MO.lst ((g.take i).flatten ++ (g1.take j).flatten)) :: τ1)) (upd H8 D (.lst (us ++ [v]))) := Tr.write (τ := (D, MO.lst ((g.take i).flatten ++ (g1.take j).flatten)) :: τ1) (a := D) List.mem_cons_self
          refine ⟨us, h5, small_sz' (by rw [h6.length]; exact hl1), ?_, ?_⟩
          · rw [ef1, ey, ← List.append_assoc]
            exact ow
          · exact (((t5.trans t6).trans t7).trans t8).trans tw
        | false =>
          refine iteF ?_
          refine ⟨?_, (t5.trans t6).trans t7⟩
          rw [ef1, hz0 rfl, List.append_nil]
          exact o7
      · have e : j = es'.length := by omega
        subst e
        refine .inl ⟨wk1.stop _ H5 ((D, .lst ((g.take i).flatten ++ (g1.take es'.length).flatten)) :: τ1) (Nat.le_refl _) t5 o5 (hS' _), ?_, (((t'.trans t2).trans t3).trans t4).trans t5⟩
        rw [ef, eg]
        rw [← hg1l, List.take_length] at o5
        exact o5
    | false =>
      refine iteF ?_
      refine ⟨?_, (t'.trans t2).trans t3⟩
      rw [ef, hb0 rfl, List.append_nil]
      exact o3
  · have e : i = ds.length := by omega
    subst e
    refine .inl ⟨wk.stop _ H' _ (Nat.le_refl _) t' o' (hS _ _ nD), ?_⟩
    obtain ⟨us, h5, h6⟩ := o'.ok (D, .lst _) List.mem_cons_self
    rw [← hgl, List.take_length] at h6
    exact p _ H' (.val (.list (g.flatten))) τ1 hd o'.drop (Dn.lst ⟨nD, h5⟩ (h6.tr Tr.drop)) (t1'.trans (t'.trans Tr.drop))
theorem filt_flat {β : Type} {p : β → Bool} {f : β → PyData} : ∀ l : List β, (l.filter p).map f = (l.map fun y => if p y = true then [f y] else []).flatten
  | [] => rfl
  | y :: l => by
    rw [List.map_cons, List.flatten_cons, List.filter_cons, ← filt_flat l]
    by_cases hy : p y = true
    · rw [if_pos hy, if_pos hy, List.map_cons]
      rfl
    · rw [if_neg hy, if_neg hy]
      rfl
/-- the same over items of any type -/
theorem lc2q_of {α β : Type} {t t1 : Tg} {vs vs1 : List Nat} {Q : MV → Store → Prop} {ds : List PyData} (xs : List α) (emb : α → PyData) (he : ds = xs.map emb) (ys : α → List β) (emb1 : β → PyData) (pr : α → β → Bool) (f : α → β → PyData) {S : Store → Prop} {τ1 : Store}
    (hl : (xs.flatMap fun x => ((ys x).filter (pr x)).map (f x)).length ≤ 1000000)
    (h : ∀ x ∈ xs, ∃ ρ2, bindD (wipeE ρ vs) t (emb x) = some ρ2 ∧ ∀ D acc, D ∉ dom τ1 → (∀ s H C cl fp, Df (Blk X s H scope C cl fp) ρ2 ((D, .lst acc) :: τ1) ifs fun k τ2 => k = true ∧ τ2 = (D, .lst acc) :: τ1) ∧
      (∀ s H C cl fp, Di (Blk X s H scope C cl fp) tg1 ρ2 ((D, .lst acc) :: τ1) iter1 fun es' S' τ2 => es' = (ys x).map emb1 ∧ τ2 = (D, .lst acc) :: τ1 ∧ ∀ acc', S' ((D, .lst acc') :: τ1)) ∧
      ∀ y ∈ ys x, ∃ ρ3, bindD (wipeE ρ2 vs1) t1 (emb1 y) = some ρ3 ∧ ∀ acc, (∀ s H C cl fp, Df (Blk X s H scope C cl fp) ρ3 ((D, .lst acc) :: τ1) ifs1 fun k τ2 => k = pr x y ∧ τ2 = (D, .lst acc) :: τ1) ∧
        (pr x y = true → ∀ s H C cl fp, De (Blk X s H scope C cl fp) ρ3 ((D, .lst acc) :: τ1) elt fun sv τ3 => sv = .val (f x y) ∧ τ3 = (D, .lst acc) :: τ1))
    (q : Q (.val (.list (xs.flatMap fun x => ((ys x).filter (pr x)).map (f x)))) τ1) (hS : ∀ D acc, D ∉ dom τ1 → S ((D, .lst acc) :: τ1) := by exact fun _ _ _ => trivial) : Lc2Q X ρ scope vs vs1 t t1 elt tg1 iter1 ifs ifs1 Q ds S τ1 := by
  subst he
  have fl : (xs.map fun x => ((ys x).filter (pr x)).map (f x)).flatten = xs.flatMap fun x => ((ys x).filter (pr x)).map (f x) := by rw [List.flatMap_def]
  refine ⟨xs.map fun x => ((ys x).filter (pr x)).map (f x), by simp, hS, by rw [fl]; exact hl, fun i d r hd hr => ?_, by rw [fl]; exact q⟩
  rw [List.getElem?_map] at hd hr
  cases hx : xs[i]? with
  | none => rw [hx] at hd; cases hd
  | some x =>
    rw [hx] at hd hr
    cases hd
    cases hr
    obtain ⟨ρ2, e2, hh⟩ := h x (List.mem_of_getElem? hx)
    refine ⟨ρ2, e2, fun D acc hD => Out2.mk ⟨true, ⟨fun z => Bool.noConfusion z, (hh D acc hD).1, fun _ => ⟨(ys x).map emb1, (ys x).map fun y => if pr x y = true then [f x y] else [], by simp, ?_, (hh D acc hD).2.1, fun j e q he hq => ?_⟩⟩⟩⟩
    · exact filt_flat (ys x)
    · rw [List.getElem?_map] at he hq
      cases hy : (ys x)[j]? with
      | none => rw [hy] at he; cases he
      | some y =>
        rw [hy] at he hq
        cases he
        cases hq
        obtain ⟨ρ3, e3, h3⟩ := (hh D acc hD).2.2 y (List.mem_of_getElem? hy)
        refine ⟨ρ3, e3, In2.mk ⟨pr x y, ⟨fun z => if_neg (by rw [z]; simp), fun acc' => ⟨(h3 acc').1, fun z => ⟨f x y, if_pos z, (h3 acc').2 z⟩⟩⟩⟩⟩
theorem de_lc2 {t t1 : Tg} {vs1 : List Nat} {Q : MV → Store → Prop} (hc : X.calm = true) (hN : X.N.Nodup) (ok : BlkOk X.N X.env.scope scope own) (hu : ∀ j ∈ t.slots, j ∈ own.map (·.2)) (hu1 : ∀ j ∈ t1.slots, j ∈ vs1) (hv : ∀ i ∈ vs1, i ∈ own.map (·.2))
    (hg : ∀ s H C cl fp, PGx (Blk X s H scope C cl fp) tg t) (hg1 : ∀ s H C cl fp, PGx (Blk X s H scope C cl fp) tg1 t1) (h : Di X tg ρ τ iter (Lc2Q X ρ scope (own.map (·.2)) vs1 t t1 elt tg1 iter1 ifs ifs1 Q)) (hs : ∀ x, foldedSetIterable iter X.env x = pure x := by intro _; rfl) (hs1 : ∀ env x, foldedSetIterable iter1 env x = pure x := by intro _ _; rfl) :
    De X ρ τ (.ListComp elt [⟨tg, iter, ifs, 0⟩, ⟨tg1, iter1, ifs1, 0⟩] scope pos) Q := .mk fun σ H o l QQ p =>
  we_of (pe_lc2 (wi1 := tiB X scope tg1 iter1) (tt := ttB X scope ifs) (tt1 := ttB X scope ifs1) (te := teB X scope elt) (g := tgR X.K t) (g1 := tgR X.K t1) hc hN pi_wi ok hv hg (fun s H C cl fp => ⟨fun pins s' σ' H' Q' I hq => hq s H C cl fp pins s' I⟩) (fun s H C cl fp => ⟨fun pins s' σ' H' Q' I hq => hq s H C cl fp pins s' I⟩) hg1 (fun s H C cl fp => ⟨fun pins s' σ' H' Q' I hq => hq s H C cl fp pins s' I⟩) (fun s H C cl fp => ⟨fun pins s' σ' H' Q' I hq => hq s H C cl fp pins s' I⟩) hs hs1) (lc2_read hu hu1 h o l p)
theorem ds_setLc2 {t t1 : Tg} {vs1 : List Nat} {D : DE} (i : Nat) {y : Str} {py : Pos} (hc : X.calm = true) (hN : X.N.Nodup) (hy : X.N[i]? = some y) (hyl : X.env.scope.names.lookup y = some .local)
    (hsw : swapsWith (.ListComp elt [⟨tg, iter, ifs, 0⟩, ⟨tg1, iter1, ifs1, 0⟩] scope pos) (some (.Name y py)) spos.line X.env = pure true) (ok : BlkOk X.N X.env.scope scope own) (hu : ∀ j ∈ t.slots, j ∈ own.map (·.2)) (hu1 : ∀ j ∈ t1.slots, j ∈ vs1) (hv : ∀ i ∈ vs1, i ∈ own.map (·.2))
    (hg : ∀ s H C cl fp, PGx (Blk X s H scope C cl fp) tg t) (hg1 : ∀ s H C cl fp, PGx (Blk X s H scope C cl fp) tg1 t1) (h : Di X tg ρ τ iter (Lc2Q X ρ scope (own.map (·.2)) vs1 t t1 elt tg1 iter1 ifs ifs1 fun sv τ1 => D.nx (ρ.set i (some sv)) τ1)) (hs : ∀ x, foldedSetIterable iter X.env x = pure x := by intro _; rfl) (hs1 : ∀ env x, foldedSetIterable iter1 env x = pure x := by intro _ _; rfl) :
    Ds X ρ τ (.Assign [.Name y py] (.ListComp elt [⟨tg, iter, ifs, 0⟩, ⟨tg1, iter1, ifs1, 0⟩] scope pos) spos) D := .mk fun σ H o l DD p =>
  ws_of (ps_setLc2 (wi1 := tiB X scope tg1 iter1) (tt := ttB X scope ifs) (tt1 := ttB X scope ifs1) (te := teB X scope elt) (g := tgR X.K t) (g1 := tgR X.K t1) hc hN hy hyl hsw pi_wi ok hv hg (fun s H C cl fp => ⟨fun pins s' σ' H' Q' I hq => hq s H C cl fp pins s' I⟩) (fun s H C cl fp => ⟨fun pins s' σ' H' Q' I hq => hq s H C cl fp pins s' I⟩) hg1 (fun s H C cl fp => ⟨fun pins s' σ' H' Q' I hq => hq s H C cl fp pins s' I⟩) (fun s H C cl fp => ⟨fun pins s' σ' H' Q' I hq => hq s H C cl fp pins s' I⟩) hs hs1)
    (lc2_read hu hu1 h o l (QQ := fun v H1 => gName i v σ H1 DD.nx) fun v H1 sv τ1 q o1 r1 t1 => p.nx _ H1 _ τ1 q o1 ((l.tr t1).set r1 i) t1)
end
end Dl

/-! sorted of tuples of ints -/
namespace Dl
open PySem PySem.Spec L2 PyProof.Rows
def lexL : List Int → List Int → Bool
  | [], [] => false
  | [], _ :: _ => true
  | _ :: _, [] => false
  | x :: xs, y :: ys => if x = y then lexL xs ys else decide (x < y)
theorem lexL_asym : ∀ {x y : List Int}, lexL x y = true → lexL y x = false
  | [], [], h => rfl
  | [], _ :: _, h => rfl
  | _ :: _, [], h => by cases h
  | x :: xs, y :: ys, h => by
    unfold lexL at h ⊢
    by_cases e : x = y
    · rw [if_pos e] at h
      rw [if_pos e.symm]
      exact lexL_asym h
    · rw [if_neg e] at h
      rw [if_neg (fun z => e z.symm)]
      have := of_decide_eq_true h
      exact decide_eq_false (by omega)
theorem lexL_tr : ∀ {x y z : List Int}, lexL y x = false → lexL z y = false → lexL z x = false
  | [], _, [], _, _ => rfl
  | [], _, _ :: _, _, _ => rfl
  | _ :: _, [], _, h, _ => by cases h
  | x :: xs, y :: ys, [], _, h => by cases h
  | x :: xs, y :: ys, z :: zs, h1, h2 => by
    unfold lexL at h1 h2 ⊢
    by_cases e1 : y = x
    · rw [if_pos e1] at h1
      by_cases e2 : z = y
      · rw [if_pos e2] at h2
        rw [if_pos (e2.trans e1)]
        exact lexL_tr h1 h2
      · rw [if_neg e2] at h2
        have := of_decide_eq_false h2
        rw [if_neg (by omega)]
        exact decide_eq_false (by omega)
    · rw [if_neg e1] at h1
      have h1' := of_decide_eq_false h1
      by_cases e2 : z = y
      · rw [if_neg (by omega)]
        exact decide_eq_false (by omega)
      · rw [if_neg e2] at h2
        have := of_decide_eq_false h2
        rw [if_neg (by omega)]
        exact decide_eq_false (by omega)
/-- v is a tuple of these ints -/
def IsTI (h : Heap) (v : Value) (ks : List Int) : Prop := ∃ a o its n, v = .ref a ∧ h.get? a = some o ∧ o.cls = .type "tuple" ∧ o.data = .seq its n ∧ Paired (fun u i => ∃ t, u = Value.int i t) its.toList ks
theorem IsTI.keeps {h h' : Heap} {v : Value} {ks : List Int} (p : IsTI h v ks) (k : ∀ b o, h.get? b = some o → o.cls = .type "tuple" → h'.get? b = some o) : IsTI h' v ks := by
  obtain ⟨a, o, its, n, e, ho, hc, r⟩ := p
  exact ⟨a, o, its, n, e, k _ _ ho hc, hc, r⟩
theorem firsts_ti {h : Heap} : ∀ {vs : List Value}, (∀ v ∈ vs, ∃ ks, ks ≠ [] ∧ IsTI h v ks) → ∃ fs : List Value, PySem.W.KatTups h vs fs ∧ fs.length = vs.length ∧ ∀ f ∈ fs, ∃ x t, f = Value.int x t
  | [], _ => ⟨[], PySem.W.KatTups.nil, rfl, fun _ hm => by simp at hm⟩
  | v :: vs, hp => by
    obtain ⟨fs, h1, h2, h3⟩ := firsts_ti (vs := vs) fun v' hm => hp v' (List.mem_cons_of_mem _ hm)
    obtain ⟨ks, hk, a, o, its, n, e, ho, hc, hd, hr⟩ := hp v (List.mem_cons_self ..)
    subst e
    cases ks with
    | nil => exact absurd rfl hk
    | cons x ks =>
      obtain ⟨il⟩ := its
      cases hr with
      | cons r1 rr =>
        obtain ⟨t, rfl⟩ := r1
        refine ⟨.int x t :: fs, PySem.W.KatTups.cons ho hc hd rfl h1, by rw [List.length_cons, List.length_cons, h2], fun f hm => ?_⟩
        rcases List.mem_cons.mp hm with rfl | hm
        · exact ⟨x, t, rfl⟩
        · exact h3 f hm
section
variable {prog : Program} {w : World} {A : Around} {E : Value → Shared → Prop} {s : Shared}
theorem oneLt_both (c : Bool) {p q : Int} {t u : Tok} {Q : Bool → Shared → Prop} (h : Q (decide (p < q)) s) : wpAny (model prog w) A (oneLt' c (.int p t) (.int q u)) Q (fun _ _ => False) s := by
  cases c with
  | true => exact oneLt_int h
  | false => exact PySem.W.kat_one _ _ (PyProof.Rows.lt_int (Q := PySem.W.BoolBack Q) h)
theorem lex_go {Q : Bool → Shared → Prop} : ∀ {us vs : List Value} {ks js : List Int} (i : Nat), Paired (fun u i => ∃ t, u = Value.int i t) us ks → Paired (fun u i => ∃ t, u = Value.int i t) vs js → Q (lexL ks js) s →
    PySem.W.KatLex prog w A true (decide (ks.length < js.length)) Q (us.zip vs) i s
  | _, _, _, _, i, .nil, .nil, q => PySem.W.kat_nil q
  | _, _, _, _, i, .nil, .cons _ _, q => PySem.W.kat_nil (by rw [decide_eq_true (by simp)]; exact q)
  | _, _, _, _, i, .cons _ _, .nil, q => PySem.W.kat_nil q
  | _, _, x :: ks, y :: js, i, .cons ⟨t, e⟩ r, .cons ⟨u, e'⟩ r', q => by
    subst e e'
    refine PySem.W.kat_cons (SeqAt.EqAt.int_int x t y u prog w _ _ ?_)
    refine PySem.W.kat_go (fun e1 => ?_) (fun e1 => ?_)
    · have ex : x = y := by simpa using e1
      refine PySem.W.kat_yes ?_
      have e3 : decide ((x :: ks).length < (y :: js).length) = decide (ks.length < js.length) := by
        simp only [List.length_cons, Nat.add_lt_add_iff_right]
      rw [e3]
      refine lex_go (i + 1) r r' ?_
      unfold lexL at q
      rw [if_pos ex] at q
      exact q
    · have ex : ¬ x = y := by simpa using e1
      unfold lexL at q
      rw [if_neg ex] at q
      exact PySem.W.kat_no (oneLt_both _ q)
theorem ti_cmp {vs : List Value} {k : Value → List Int} (hp : ∀ v ∈ vs, IsTI s.heap v (k v)) : SrtO.Cmp prog w A s (tuples' true) (fun p => p.1 ∈ vs) (SrtO.lt2 fun v u => lexL (k v) (k u)) := by
  intro p q hm hm'
  obtain ⟨a, o, its, n, e, ho, hc, hd, hr⟩ := hp _ hm
  obtain ⟨a', o', its', n', e', ho', hc', hd', hr'⟩ := hp _ hm'
  show wpAny (model prog w) A (keyLt' (tuples' true) p.1 q.1) (fun r s' => s' = s ∧ r = lexL (k p.1) (k q.1)) (fun _ _ => False) s
  rw [e, e'] at *
  refine PySem.W.kat_lt ho hd ho' hd' ?_
  have e1 : decide (its.size < its'.size) = decide ((k (.ref a)).length < (k (.ref a')).length) := by
    rw [← Array.length_toList, ← Array.length_toList, Paired.length hr, Paired.length hr']
  rw [e1]
  exact lex_go 0 hr hr' ⟨rfl, rfl⟩
theorem ti_sortableO {a : Addr} {vs : List Value} {k : Value → List Int} (h0 : 0 < vs.length) (hp : ∀ v ∈ vs, k v ≠ [] ∧ IsTI s.heap v (k v)) (ha : ∀ o, s.heap.get? a = some o → o.cls ≠ .type "tuple") : SrtO.SortableO prog w A s a vs fun v u => lexL (k v) (k u) := by
  intro h' keep
  have hp' : ∀ v ∈ vs, IsTI h' v (k v) := fun v hm => (hp v hm).2.keeps fun b o e c => keep b o (fun z => by subst z; exact ha o e c) e
  obtain ⟨fs, h1, h2, h3⟩ := firsts_ti fun v hm => ⟨_, (hp v hm).1, hp' v hm⟩
  refine ⟨tuples' true, fun Q E hq => ?_, ti_cmp hp'⟩
  refine PySem.W.kat_kind (T := .type "int") h1 (by omega) (fun f hm => ?_) (by rfl) ?_
  · obtain ⟨x, t, rfl⟩ := h3 f hm
    exact PySem.W.Looks.now
  · have e : (Value.type "int" != Value.type "tuple") = true := by first | decide +kernel | rfl | decide
    rw [e]
    exact hq
theorem sorted_ti {l : Addr} {vs : List Value} {k : Value → List Int} {Q : Value → Shared → Prop} (hl : s.heap.IsList l vs.toArray) (hz : vs.length ≤ sizeLine) (hp : ∀ v ∈ vs, k v ≠ [] ∧ IsTI s.heap v (k v))
    (h : ∀ (h' : Heap) (d : Addr) (out : List Value), SrtO.Srtd (fun v u => lexL (k v) (k u)) out → SrtO.Stb (fun v u => lexL (k v) (k u)) out vs → (∀ b o, s.heap.get? b = some o → h'.get? b = some o) → s.heap.objs.size ≤ d → (∃ n, h'.get? d = some (seqObj "list" out.toArray n)) → Q (.ref d) { s with heap := h' }) :
    wpAny (model prog w) A (call (.builtin "sorted") [.ref l]) Q E s := by
  refine SrtO.sorted_ord (ltv := fun v u => lexL (k v) (k u)) ⟨fun _ _ => lexL_asym, fun _ _ _ => lexL_tr⟩ hl hz (fun h2 h₁ a ha kk => ?_) fun out hs hb => ?_
  · refine ti_sortableO (s := { s with heap := h₁ }) (by omega) (fun v hm => ⟨(hp v hm).1, (hp v hm).2.keeps fun b o e _ => (kk b o e).2⟩) fun o e => ?_
    have e' : some o = some (seqObj "list" vs.toArray 0) := e.symm.trans ha
    cases e'
    intro c
    exact absurd (Value.type.inj c) (by decide)
  · exact h _ _ out hs hb (fun b o e => sortedAll_old e) (Nat.le_succ _) (sortedAll_at s.heap vs out.toArray)
end
abbrev ltT (k : V → List Int) (x y : V) : Bool := lexL (k x) (k y)
theorem ltT_swo (k : V → List Int) : SrtO.Swo (ltT k) := ⟨fun _ _ => lexL_asym, fun _ _ _ => lexL_tr⟩
def rSortedT (K : PySem.W.Frag) : List V → Hp → VK → Prop := fun vs H Q => ∃ (a : Addr) (xs : List V) (k : V → List Int), vs = [V.ref a] ∧ SqL K H a xs ∧ (∀ x ∈ xs, ∃ t, x = V.ref t ∧ k x ≠ [] ∧ H t = some (.tup ((k x).map V.int))) ∧
  ∀ ys p, SrtO.Srtd (ltT k) ys → SrtO.Stb (ltT k) ys xs → H p = none → Q (.ref p) (upd H p (.lst ys))
theorem vals_ti : ∀ {ks : List Int} {us : List Value}, Vals (ks.map V.int) us → Paired (fun u i => ∃ t, u = Value.int i t) us ks
  | [], _, .nil => .nil
  | x :: ks, _, .cons r rr => by
    obtain ⟨t, rfl⟩ := r
    exact .cons ⟨t, rfl⟩ (vals_ti rr)
section
variable {X : Cx}
theorem cr_sortedT : CallR X (.builtin "sorted") (rSortedT X.K) := by
  intro pins s σ H vs us Q I r h
  obtain ⟨a, xs, k, rfl, hs, hx, q⟩ := h
  obtain ⟨its, rv, hl, hz⟩ := I.list hs
  obtain ⟨u, rfl, ru⟩ := vals1 r
  obtain rfl : u = Value.ref a := ru
  obtain ⟨e1, e2⟩ := refs_back rv fun x m => by
    obtain ⟨t, e, _⟩ := hx x m
    exact ⟨t, e⟩
  refine sorted_ti (k := fun u => k (backV u)) hl.isList (by rw [← rv.length]; exact hz) (fun v hv => ?_) fun h' d out h1 h2 kp hd hn => ?_
  · obtain ⟨t, rfl⟩ := e2 v hv
    have hm : V.ref t ∈ xs := by rw [e1]; exact List.mem_map.mpr ⟨_, hv, rfl⟩
    obtain ⟨t', e, hk, ht⟩ := hx _ hm
    cases e
    obtain ⟨_, its2, r2, o, ho, hc, n, hd⟩ := I.hok _ _ ht
    exact ⟨hk, t, o, its2.toArray, n, rfl, ho, hc, hd, vals_ti r2⟩
  · have h3 : ∀ u ∈ out, ∃ a, u = Value.ref a := fun u hu => e2 u (h2.perm.mem_iff.mp hu)
    obtain ⟨n, hn⟩ := hn
    have hb : SrtO.Stb (ltT k) (out.map backV) xs := by
      rw [e1]
      exact SrtO.Stb.map (ltT_swo k) backV h2
    refine ⟨.ref d, upd H d (.lst (out.map backV)), I.laid (t' := s.toks) kp hd ⟨?_, out, n, vals_back h3, hn⟩, rfl, q _ d (SrtO.srtd_map h1) hb (I.hok.fresh hd)⟩
    rw [hb.len]
    exact hz
end
/-- what a value of the heap is as ints -/
def kOf (H : Hp) : V → List Int
  | .ref t => match H t with
    | some (.tup us) => us.filterMap fun u => match u with
      | .int i => some i
      | _ => none
    | _ => []
  | _ => []
theorem dnl_ints {K : PySem.W.Frag} {N : List Addr} {H : Hp} : ∀ {ks : List Int} {us : List V}, DnL K N H us (ks.map .int) → us = ks.map V.int
  | [], _, .nil => rfl
  | x :: ks, _, .cons r rr => by
    cases r
    rw [dnl_ints rr]
    rfl
theorem kOf_int : ∀ (ks : List Int), (ks.map V.int).filterMap (fun u => match u with | .int i => some i | _ => none) = ks
  | [] => rfl
  | x :: ks => by
    rw [List.map_cons, List.filterMap_cons]
    exact congrArg (x :: ·) (kOf_int ks)
theorem kOf_tup {K : PySem.W.Frag} {N : List Addr} {H : Hp} {v : V} {ks : List Int} (h : Dn K N H v (.tuple (ks.map .int))) : ∃ t, v = .ref t ∧ kOf H v = ks ∧ H t = some (.tup (ks.map V.int)) := by
  cases h with
  | @tup a us _ n l =>
    have e := dnl_ints l
    subst e
    refine ⟨a, rfl, ?_, n.2⟩
    show (match H a with | some (HO.tup us) => us.filterMap (fun u => match u with | V.int i => some i | _ => none) | _ => []) = ks
    rw [n.2]
    exact kOf_int ks
theorem dnl_keys {K : PySem.W.Frag} {N : List Addr} {H : Hp} : ∀ {rows : List (List Int)} {us : List V}, DnL K N H us (rows.map fun r => .tuple (r.map .int)) → us.map (kOf H) = rows ∧ ∀ u ∈ us, ∃ t, u = V.ref t ∧ H t = some (.tup ((kOf H u).map V.int)) ∧ kOf H u ∈ rows
  | [], _, .nil => ⟨rfl, fun _ h => by cases h⟩
  | r :: rows, _, .cons h hs => by
    obtain ⟨t, rfl, e, ht⟩ := kOf_tup h
    obtain ⟨e1, e2⟩ := dnl_keys hs
    refine ⟨by rw [List.map_cons, e, e1], fun u hu => ?_⟩
    rcases List.mem_cons.mp hu with rfl | hu
    · exact ⟨t, rfl, by rw [e]; exact ht, by rw [e]; exact List.mem_cons_self⟩
    · obtain ⟨t', a, b, c⟩ := e2 u hu
      exact ⟨t', a, b, List.mem_cons_of_mem _ c⟩
section
variable {X : Cx} {ρ : En} {τ : Store} {Q : MV → Store → Prop} {pos p1 : Pos} {a : Expr}
/-- sorted(rows), rows ascending: the same rows -/
theorem de_sortedT (B : Bl X.mg) (hg : Gl X "sorted") (h : De X ρ τ a fun x τ1 => ∃ rows : List (List Int), datOf τ1 x = some (.list (rows.map fun r => .tuple (r.map .int))) ∧ (∀ r ∈ rows, r ≠ []) ∧ rows.Pairwise (fun r q => lexL q r = false) ∧ Q (.val (.list (rows.map fun r => .tuple (r.map .int)))) τ1)
    (hs : starEach [a] X.env = (false, eval a X.env) :: starEach [] X.env := by rfl) : De X ρ τ (.Call (.Name "sorted" p1) [a] [] pos) Q :=
  de_callB cr_sortedT hg B.h_sorted (by decide +kernel) (da_one (h.mono fun x τ1 ⟨rows, e, hne, hp, q⟩ => .mk fun H vs o r QQ p => by
    obtain ⟨v, rfl, r1⟩ := paired1 r
    obtain ⟨l, xs, rfl, hq, dl⟩ := r1.seqL o e
    obtain ⟨e1, e2⟩ := dnl_keys dl
    refine ⟨l, xs, kOf H, rfl, hq, fun x hx => ?_, fun ys p' h1 h2 hn => ?_⟩
    · obtain ⟨t, a1, a2, a3⟩ := e2 x hx
      exact ⟨t, a1, hne _ a3, a2⟩
    · have hx : SrtO.Srtd (ltT (kOf H)) xs := by
        rw [← e1] at hp
        exact List.pairwise_map.mp hp
      have ey : ys = xs := SrtO.stb_uniq (ltT_swo _) h1 hx h2
      subst ey
      exact p.lst o dl q p' hn) hs) hs rfl
end
end Dl

/-! data with bools, against the empty ones -/
namespace Dl
open PySem PySem.Spec L2
def Pb : Nat → PyData → Prop
  | _, .none => True
  | _, .int _ => True
  | _, .bool _ => True
  | _, .str x => PyData.strOk x = true
  | 0, .list xs => xs = []
  | n + 1, .list xs => ∀ x ∈ xs, Pb n x
  | 0, .tuple xs => xs = []
  | n + 1, .tuple xs => ∀ x ∈ xs, Pb n x
  | _, .dict _ => False
theorem Pb.lay : ∀ {n : Nat} {d : PyData}, Pb n d → d.canLay0 = true
  | _, .none, _ => rfl
  | _, .int _, _ => rfl
  | _, .bool _, _ => rfl
  | n, .str x, h => by
    cases n <;> exact h
  | 0, .list xs, h => by
    have h : xs = [] := h
    subst h
    rfl
  | n + 1, .list xs, h => by
    have h : ∀ x ∈ xs, Pb n x := h
    show PyData.canLayAll0 xs = true
    exact canLayAll0_of fun x hx => (h x hx).lay
  | 0, .tuple xs, h => by
    have h : xs = [] := h
    subst h
    rfl
  | n + 1, .tuple xs, h => by
    have h : ∀ x ∈ xs, Pb n x := h
    show PyData.canLayAll0 xs = true
    exact canLayAll0_of fun x hx => (h x hx).lay
  | n, .dict _, h => by cases n <;> exact h.elim
theorem Pb.dep : ∀ {n : Nat} {d : PyData}, Pb n d → d.depth ≤ n + 1
  | _, .none, _ => Nat.zero_le _
  | _, .int _, _ => Nat.zero_le _
  | _, .bool _, _ => Nat.zero_le _
  | n, .str x, h => Nat.zero_le _
  | 0, .list xs, h => by
    have h : xs = [] := h
    subst h
    exact Nat.le_refl _
  | n + 1, .list xs, h => by
    have h : ∀ x ∈ xs, Pb n x := h
    show PyData.depthAll xs + 1 ≤ n + 1 + 1
    have := depthAll_of (n := n + 1) fun x hx => (h x hx).dep
    omega
  | 0, .tuple xs, h => by
    have h : xs = [] := h
    subst h
    exact Nat.le_refl _
  | n + 1, .tuple xs, h => by
    have h : ∀ x ∈ xs, Pb n x := h
    show PyData.depthAll xs + 1 ≤ n + 1 + 1
    have := depthAll_of (n := n + 1) fun x hx => (h x hx).dep
    omega
  | n, .dict _, h => by cases n <;> exact h.elim
theorem Pb.shaped {n : Nat} {d : PyData} (h : Pb n d) (hn : n ≤ 60 := by decide) : SeqAt.shaped d = true := by
  unfold SeqAt.shaped
  rw [h.lay, Bool.true_and]
  have := h.dep
  exact decide_eq_true (by omega)
section
variable {K : PySem.W.Frag} {τ : Store} {Q : MV → Store → Prop} {neg : Bool}
theorem eq_nilL {n : Nat} {x y : MV} {ds : List PyData} (hx : datOf τ x = some (.list ds)) (hy : datOf τ y = some (.list [])) (hd : Pb n (.list ds)) (q : Q (.val (.bool (bneg neg ds.isEmpty))) τ) (hn : n ≤ 60 := by decide) : EqD K neg x y τ Q :=
  eq_dat hx hy (hd.shaped hn) rfl (by
    have e : PyData.eqv (.list ds) (.list []) = ds.isEmpty := by cases ds <;> simp [PyData.eqv, PyData.eqvAll]
    rw [e]
    exact q)
theorem eq_nilT {n : Nat} {x y : MV} {ds : List PyData} (hx : datOf τ x = some (.tuple ds)) (hy : datOf τ y = some (.tuple [])) (hd : Pb n (.tuple ds)) (q : Q (.val (.bool (bneg neg ds.isEmpty))) τ) (hn : n ≤ 60 := by decide) : EqD K neg x y τ Q :=
  eq_dat hx hy (hd.shaped hn) rfl (by
    have e : PyData.eqv (.tuple ds) (.tuple []) = ds.isEmpty := by cases ds <;> simp [PyData.eqv, PyData.eqvAll]
    rw [e]
    exact q)
end
theorem dnl_intmap {K : PySem.W.Frag} {N : List Addr} {H : Hp} : ∀ ns : List Int, DnL K N H (ns.map V.int) (ns.map .int)
  | [] => .nil
  | n :: ns => .cons (Dn.int n) (dnl_intmap ns)
section
variable {X : Cx} {ρ : En} {τ : Store} {Q : MV → Store → Prop} {pos p1 p2 p3 : Pos} {a : Expr} {kk : Nat}
theorem de_listRg (B : Bl X.mg) (hc : X.calm = true) (hg : Gl X "list") (hg2 : Gl X "range") (h : De X ρ τ a fun x τ1 => ∃ n, x = .val (.int n) ∧ n ≤ 1000000 ∧ -1000000 ≤ n ∧ Q (.val (.list (rangeD 0 n.toNat))) τ1)
    (na : starEach [a] X.env = (false, eval a X.env) :: starEach [] X.env := by rfl) (nb : starEach [.Call (.Name "range" p2) [a] [] p3] X.env = (false, eval (.Call (.Name "range" p2) [a] [] p3) X.env) :: starEach [] X.env := by rfl) :
    De X ρ τ (.Call (.Name "list" p1) [.Call (.Name "range" p2) [a] [] p3] [] pos) Q := .mk fun σ H o l QQ p =>
  we_of (pe_listRg hc hg B.h_list (prg_1 hg2 B.h_range pe_we na) nb) (h σ H o l _ fun v H1 x τ1 ⟨n, ex, h1, h2, q⟩ o1 r1 t1 => by
    subst ex
    cases r1
    refine ⟨n, rfl, ⟨by omega, by omega, by omega, by omega, by omega⟩, ?_⟩
    have e : rgV 0 n = ((List.range n.toNat).map fun i => (0 + (i : Nat) : Int)).map V.int := by
      unfold rgV
      rw [List.map_map, Int.sub_zero]
      rfl
    have e2 : rangeD 0 n.toNat = ((List.range n.toNat).map fun i => (0 + (i : Nat) : Int)).map .int := by
      unfold rangeD
      rw [List.map_map]
      rfl
    rw [e]
    rw [e2] at q
    exact (p.step t1).lst o1 (dnl_intmap _) q)
theorem de_sortedI (B : Bl X.mg) (hg : Gl X "sorted") (h : De X ρ τ a fun x τ1 => ∃ ns : List Int, datOf τ1 x = some (.list (ns.map .int)) ∧ ∀ ms : List Int, ms.Perm ns → ms.Pairwise (· ≤ ·) → Q (.val (.list (ms.map .int))) τ1)
    (hs : starEach [a] X.env = (false, eval a X.env) :: starEach [] X.env := by rfl) : De X ρ τ (.Call (.Name "sorted" p1) [a] [] pos) Q :=
  de_callB cr_sortedI hg B.h_sorted (by decide +kernel) (da_one (h.mono fun x τ1 ⟨ns, e, q⟩ => .mk fun H vs o r QQ p => by
    obtain ⟨v, rfl, r1⟩ := paired1 r
    obtain ⟨l, rfl, hq⟩ := r1.intsL o e
    refine ⟨l, ns, rfl, hq, fun ms p' h1 h2 hn => ?_⟩
    exact p.lst o (dnl_intmap ms) (q ms h1 h2) p' hn) hs) hs rfl
theorem pgx_tup4 {i j k m : Nat} {e1 e2 e3 e4 : Expr} (hc : X.calm = true) (h1 : PG X e1 (gName i)) (h2 : PG X e2 (gName j)) (h3 : PG X e3 (gName k)) (h4 : PG X e4 (gName m))
    (hs : (assignEach [e1, e2, e3, e4] X.env).map (·.2) = assign e1 X.env :: (assignEach [e2, e3, e4] X.env).map (·.2) := by rfl) (hs2 : (assignEach [e2, e3, e4] X.env).map (·.2) = assign e2 X.env :: (assignEach [e3, e4] X.env).map (·.2) := by rfl)
    (hs3 : (assignEach [e3, e4] X.env).map (·.2) = assign e3 X.env :: (assignEach [e4] X.env).map (·.2) := by rfl) (hs4 : (assignEach [e4] X.env).map (·.2) = assign e4 X.env :: (assignEach [] X.env).map (·.2) := by rfl)
    (hn : (assignEach [e1, e2, e3, e4] X.env).length = 4 := by rfl) (hst : (assignEach [e1, e2, e3, e4] X.env).findIdx? (·.1) = none := by rfl) : PGx X (.Tuple [e1, e2, e3, e4] kk pos) (.tup [i, j, k, m]) :=
  PG.weak (pg_tup hc (pgs_cons h1 (pgs_cons h2 (pgs_cons h3 (pgs_cons h4 pgs_nil hs4) hs3) hs2) hs) hn hst) fun v σ H Q ⟨a, xs, e, h, hl, q⟩ => by
    match xs, hl with
    | [x, y, z, w], _ => exact ⟨a, [x, y, z, w], e, h, rfl, x, [y, z, w], rfl, y, [z, w], rfl, z, [w], rfl, w, [], rfl, rfl, q⟩
end
theorem _root_.L2.Room.units65 {k : Nat} {A : Around} (r : Room k A) : A.units + 65 < cLine := by have := r.un; omega
theorem ds_cut {X : Cx} {ρ : En} {τ : Store} {st : Stmt} {D : DE} (R : En → Store → Prop) (h1 : Ds X ρ τ st { D with nx := R }) (h2 : ∀ ρ' τ', R ρ' τ' → D.nx ρ' τ') : Ds X ρ τ st D := .mk fun σ H o l DD p =>
  h1 σ H o l DD ⟨fun σ1 H1 ρ1 τ1 r o1 l1 t1 => p.nx σ1 H1 ρ1 τ1 (h2 _ _ r) o1 l1 t1, p.rt, p.bk, p.ct⟩
theorem cutD_take {ds : List PyData} {j : Nat} (h : j ≤ ds.length) : cutD ds none (some (j : Int)) = ds.take j := by
  unfold cutD
  rw [HT.sIx_none, HT.sIx_nat, List.drop_zero, Nat.sub_zero, Nat.min_eq_left h]
theorem cutD_drop {ds : List PyData} {j : Nat} (h : j ≤ ds.length) : cutD ds (some (j : Int)) none = ds.drop j := by
  unfold cutD
  rw [HT.sIx_none, HT.sIx_nat, Nat.min_eq_left h]
  exact List.take_of_length_le (by rw [List.length_drop]; exact Nat.le_refl _)
end Dl

/-! enumerate of a tuple -/
namespace Dl
open PySem PySem.Spec L2 PyProof.Rows
open AutoSeq1 (wpAny_loadPart')
theorem meets_enumT (l : Addr) (items : Array Value) (n : Nat) (dct : Option Addr) (sl : Array (Option Value)) :
    Meets (Builtin.«enumerate.__new__» ⟨[.type "enumerate", .ref l], []⟩) (fun _ R s => s.heap.get? l = some { cls := .type "tuple", dict := dct, data := .seq items n, slots := sl } ∧
      R (.ok (.ret (.ref (s.heap.push { cls := .type "tuple_iterator", data := .fields #[.ref l, .int 0 0] }).objs.size)))
        { s with heap := (s.heap.push { cls := .type "tuple_iterator", data := .fields #[.ref l, .int 0 0] }).push { cls := .type "enumerate", data := .fields #[.none, .bool false, .ref s.heap.objs.size, rawInt 0, .none, .none] } }) :=
  .of_wp fun prog w A R s h => by
    obtain ⟨hp, g, d, tk, os⟩ := s; obtain ⟨hl, h⟩ := h
    have hsub := sub_enumerate
    have hL : Heap.IsTuple (Shared.heap ⟨hp, g, d, tk, os⟩) l items := ⟨_, hl, rfl, n, rfl⟩
    wp_walk using wpAny_loadPart' hl
    refine wpAny_stack_any fun st => wpAny_pure ?_
    split
    · rename_i c _ _ _ _ _
      cases (c == Value.type "enumerate")
      · wp_walk using wpAny_loadPart' hl, wpAny_pyIter_tuple hL
        exact ⟨_, rfl, h⟩
      · wp_walk using wpAny_loadPart' hl, wpAny_pyIter_tuple hL
        exact ⟨_, rfl, h⟩
    · wp_walk using wpAny_loadPart' hl, wpAny_pyIter_tuple hL
      exact ⟨_, rfl, h⟩
section
variable {prog : Program} {w : World} {A : Around} {E : Value → Shared → Prop} {s : Shared}
theorem call_enumT {l : Addr} {items : Array Value} {Q : Value → Shared → Prop} (hL : s.heap.IsTuple l items)
    (h : ∀ h', IsEnum h' (s.heap.objs.size + 1) s.heap.objs.size 0 .none → h'.IsTupleIter s.heap.objs.size l 0 → h'.objs.size = s.heap.objs.size + 2 →
      (∀ b o, s.heap.get? b = some o → h'.get? b = some o) → Q (.ref (s.heap.objs.size + 1)) { s with heap := h' }) :
    wpAny (model prog w) A (call (.type "enumerate") [.ref l]) Q E s := by
  obtain ⟨⟨c, dct, dt, sl⟩, hl, hc, n, hd⟩ := hL
  replace hc : c = .type "tuple" := hc
  replace hd : dt = .seq items n := hd
  subst hc hd
  refine callType_new F.called_enumerate (by decide) (F.typeCall_enumerate_1 _) (F.newCall_enumerate_1 _) (fun obj => F.args_object_init_2 obj _) F.entry_enumerate_new
    (meets_enumT l items n dct sl) ⟨hl, ?_⟩
  have hz : (s.heap.push { cls := .type "tuple_iterator", data := .fields #[.ref l, .int 0 0] }).objs.size = s.heap.objs.size + 1 := Heap.size_push ..
  show _ ∧ _
  rw [hz]
  have he : IsEnum ((s.heap.push { cls := .type "tuple_iterator", data := .fields #[.ref l, .int 0 0] }).push
      { cls := .type "enumerate", data := .fields #[.none, .bool false, .ref s.heap.objs.size, rawInt 0, .none, .none] }) (s.heap.objs.size + 1) s.heap.objs.size 0 .none := by
    have := Heap.get?_push_size (s.heap.push { cls := .type "tuple_iterator", data := .fields #[.ref l, .int 0 0] })
      (o := { cls := .type "enumerate", data := .fields #[.none, .bool false, .ref s.heap.objs.size, rawInt 0, .none, .none] }) rfl
    rw [hz] at this; exact this
  refine ⟨⟨_, he, rfl⟩, h _ he ⟨_, Heap.get?_push_of_some _ (Heap.get?_push_size _ rfl), rfl, rfl⟩ (by rw [Heap.size_push, hz]) fun b o x => Heap.get?_push_of_some _ (Heap.get?_push_of_some _ x)⟩
theorem enumT_end {e it l : Addr} {i : Int} {j : Nat} {items : Array Value} {old : Value} {Q : Option Value → Shared → Prop} (hh : A.handled = none) (hE : IsEnum s.heap e it i old) (hI : s.heap.IsTupleIter it l j) (hT : s.heap.IsTuple l items) (hx : items[j]? = none)
    (hQ : ∀ h', Heap.ExtBut it s.heap h' → Q none { s with heap := h' }) : wpAny (model prog w) A (pyNext (.ref e)) Q E s := by
  have ty : s.TypeIs (.ref e) "enumerate" := ⟨_, hE, rfl⟩
  unfold pyNext
  refine wpAny_bind (wpAny_attempt (wpAny_callSpecial?_slot (name := Str.ofString "__next__") ty F.slot_enumerate_next (wpAny_call_entry F.slot_enumerate_next ty F.entry_enumerate_next ?_ (F.args_enumerate_next_1 _))))
  show wpAny _ _ (field (.ref e) 2 >>= _) _ _ s
  refine wpAny_bind (wpAny_field hE rfl (x := .ref it) rfl ?_)
  refine wpAny_bind (wpAny_nextOf_tuple_end hh hI hT hx fun h1 x eb ⟨o, ho, hc⟩ => ?_)
  exact wpAny_bind (wpAny_isInstance (T := "StopIteration") (b := true) ⟨o, ho, hc⟩ isSubtype_stop (wpAny_pure (hQ _ eb)))
end
end Dl
namespace L2
open PySem PySem.Spec PyProof.Rows
/-- the tuple at a, each item in a new pair -/
def ItenT (K : PySem.W.Frag) (a : Addr) : It :=
  ⟨fun i H => ∃ (xs : List V) (x : V), SqT K H a xs ∧ xs[i]? = some x, fun i H v H' => ∃ T x, v = .ref T ∧ H T = none ∧ H' = upd H T (.tup [.int (i : Nat), x]) ∧ ∀ xs, SqT K H a xs → xs[i]? = some x, fun i H => ∃ xs : List V, SqT K H a xs ∧ xs.length ≤ i⟩
theorem turn_enumT {P : Program} {w : World} {K : PySem.W.Frag} {elts : List Expr} {kk : Nat} {tpos : Pos} (a e it : Addr) :
    Turn P w K (.Tuple elts kk tpos) (ItenT K a) [e, it] e (fun i h => (∃ old, IsEnum h e it ((i : Nat) : Int) old) ∧ h.IsTupleIter it a i ∧ e ≠ it) where
  mem := by simp
  obj := fun i h st b hb => by
    obtain ⟨⟨old, he⟩, ⟨o, ho, hc, hd⟩, _⟩ := st
    have e' : b = e ∨ b = it := by simpa using hb
    rcases e' with z | z
    · rw [z]; exact ⟨_, he, fun v q => nomatch q⟩
    · rw [z]; exact ⟨o, ho, fun v q => by rw [hd] at q; cases q⟩
  keep := fun i h h' st k => let ⟨⟨old, he⟩, hi, hne⟩ := st; ⟨⟨old, k e (by simp) _ he⟩, hi.at fun o q => k it (by simp) o q, hne⟩
  item := by
    intro X hP hw hK hc i pins s σ H E I hf st hg
    subst hP hw hK
    obtain ⟨⟨old, he⟩, hit, hne⟩ := st
    obtain ⟨xs, x, hq, hx⟩ := hg
    obtain ⟨its, rv, p, hz⟩ := I.tuple hq
    obtain ⟨u, hu, ru⟩ := rv.get hx
    have p' : s.heap.IsTuple a its.toArray := p
    have hel : e < s.heap.objs.size := Heap.lt_size he
    have hil : it < s.heap.objs.size := by obtain ⟨_, q, _⟩ := hit; exact Heap.lt_size q
    have hai : a ≠ it := fun z => by
      obtain ⟨o, ho, hcl, _⟩ := p'
      obtain ⟨o2, ho2, hc2, _⟩ := hit
      rw [z, ho2] at ho
      cases ho
      rw [hc2] at hcl
      exact absurd (Value.type.inj hcl) (by decide)
    have hea : e ≠ a := fun z => by
      obtain ⟨o, ho, hcl, _⟩ := p'
      rw [← z, he] at ho
      cases ho
      exact absurd (Value.type.inj hcl) (by decide)
    have hlt : i < its.toArray.size := by
      have := (List.getElem?_eq_some_iff.mp hu).1
      simpa using this
    refine wpAny_pyNext_enum_itemD (Draws.tuple (A := X.A.in1) (I.ok.hd hc) it a hai its.toArray) he ⟨hit, p'⟩ hlt hne (by simp [hne, hea]) fun x' h' tk hx' ho hst' hT hsz hk => ?_
    have ex : x' = u := by
      have h1 : its.toArray[i]? = some u := by simpa using hu
      rw [h1] at hx'
      exact (Option.some.inj hx').symm
    subst ex
    refine ⟨_, rfl, wpAny_letOwnedTupleGo_enum (s := { s with heap := h', toks := tk + 1 }) ho fun h'' he' sb => ?_⟩
    have hT2 : h''.get? s.heap.objs.size = some { cls := .type "tuple", data := .seq #[.int i tk, x'] } := (sb.2 _ (Nat.ne_of_gt hel)).trans hT
    have new : ObjOk X.prog X.w (upd H s.heap.objs.size (.tup [.int (i : Nat), x])) h'' s.heap.objs.size (.tup [.int (i : Nat), x]) :=
      ⟨by show 2 ≤ sizeLine; decide, [.int i tk, x'], .cons ⟨_, rfl⟩ (.cons ru .nil), ⟨_, hT2, rfl, _, rfl⟩⟩
    have I1 : Inv X pins σ (upd H s.heap.objs.size (.tup [.int (i : Nat), x])) { s with heap := h'', toks := tk + 1 } :=
      I.turnedNew (ch := [e, it]) (fun b ob hb q => (sb.2 b (fun z => hb (by simp [z]))).trans (hk b ob (fun z => hb (by simp [z])) (fun z => hb (by simp [z])) q)) hf (Nat.le_refl _) new
    refine ⟨.ref s.heap.objs.size, _, I1, rfl, ⟨_, x, rfl, I.hok.fresh (Nat.le_refl _), rfl, fun ys hy => by rw [I.tuple_inj hy hq]; exact hx⟩, ⟨⟨x', ?_⟩, hst'.1.at fun o q => (sb.2 it (Ne.symm hne)).trans q, hne⟩, fun b hb => ?_⟩
    · have e1 : ((i + 1 : Nat) : Int) = (i : Int) + 1 := by omega
      rw [e1]; exact he'
    · have hb' : b < s.heap.objs.size := by
        have e' : b = e ∨ b = it := by simpa using hb
        rcases e' with z | z
        · rw [z]; exact hel
        · rw [z]; exact hil
      rw [upd_ne (Nat.ne_of_lt hb')]
      exact (hf b hb).1
  done := by
    intro X hP hw hK hc i pins s σ H E I hf st hg
    subst hP hw hK
    obtain ⟨⟨old, he⟩, hit, hne⟩ := st
    obtain ⟨xs, hq, hx⟩ := hg
    obtain ⟨its, rv, p, hz⟩ := I.tuple hq
    obtain ⟨f0, f1, f2, f3, f4, f5⟩ := hf it (by simp)
    have hl := rv.length
    exact Dl.enumT_end (I.ok.hd hc) he hit (show s.heap.IsTuple a its.toArray from p) (by simp; omega) fun h' eb => ⟨rfl, I.turned (t' := s.toks) (fun b o hb q => eb b o hb q) f0 f1 f3 f4 f5⟩
  self := fun A i s Q E st h => let ⟨⟨_, he⟩, _⟩ := st; wpAny_pyIter_enum he h
def iEnumT (K : PySem.W.Frag) (ta : TA) : TI := fun σ H R => ta σ H fun vs H1 => ∃ a xs, vs = [.ref a] ∧ SqT K H1 a xs ∧ R (ItenT K a) H1
theorem pi_enumT {X : Cx} {e : Expr} {ta : TA} {p pos tpos : Pos} {elts : List Expr} {kk : Nat} (hg : Gl X "enumerate") (hm : X.mg "enumerate" = none) (ha : PA X [e] ta) (hs : starEach [e] X.env = [(false, eval e X.env)] := by rfl) :
    PI X (.Tuple elts kk tpos) (.Call (.Name "enumerate" p) [e] [] pos) (iEnumT X.K ta) := by
  refine ⟨fun pins s σ H R I h => ?_⟩
  refine Call_ (ld_blt I hg hm boot_enumerate (PyProof.Rows.callWith_type1 (thn (ha.run pos pins s σ H _ I h) fun us s1 ⟨vs, H1, I1, r1, q1⟩ => ?_) hs rfl))
  obtain ⟨a, xs, ex, hq, q⟩ := q1
  subst ex
  cases r1 with
  | cons r rr =>
    cases rr
    cases r
    obtain ⟨its, rv, p', hz⟩ := I1.tuple hq
    refine Dl.call_enumT (show s1.heap.IsTuple a its.toArray from p') fun h' he hit hsz hk => wpAny_pyIter_enum he ?_
    have I2 : Inv X pins σ H1 { s1 with heap := h' } := I1.kept (t' := s1.toks) hk
    refine ⟨s1.heap.objs.size + 1, [s1.heap.objs.size + 1, s1.heap.objs.size], _, _, H1, rfl, I2, turn_enumT a (s1.heap.objs.size + 1) s1.heap.objs.size, ⟨⟨.none, he⟩, hit, Nat.succ_ne_self _⟩, fun b hb => ?_, q⟩
    have e' : b = s1.heap.objs.size + 1 ∨ b = s1.heap.objs.size := by simpa using hb
    have hle : s1.heap.objs.size ≤ b := by
      rcases e' with z | z
      · rw [z]; exact Nat.le_add_right _ _
      · rw [z]; exact Nat.le_refl _
    exact I1.fpOk hle (I1.hok.fresh hle)
end L2
namespace Dl
open PySem PySem.Spec L2
def enumD (ds : List PyData) : List PyData := ds.zipIdx.map fun p => .tuple [.int (p.2 : Nat), p.1]
theorem enumD_length (ds : List PyData) : (enumD ds).length = ds.length := by unfold enumD; rw [List.length_map, List.length_zipIdx]
theorem enumD_get {ds : List PyData} {i : Nat} {d : PyData} (h : ds[i]? = some d) : (enumD ds)[i]? = some (.tuple [.int (i : Nat), d]) := by
  unfold enumD
  rw [List.getElem?_map, List.getElem?_zipIdx, h]
  simp
section
variable {K : PySem.W.Frag} {H1 : Hp} {τ1 : Store}
theorem walks_enumT {a : Addr} {vs : List V} {ds : List PyData} (n : NdT (dom τ1) H1 a vs) (l : DnL K (dom τ1) H1 vs ds) : Walks K (ItenT K a) H1 τ1 AnyS (enumD ds) where
  go := fun i H τ hi t o _ => by
    rw [enumD_length] at hi
    have hi' : i < vs.length := by rw [l.length]; exact hi
    exact ⟨vs, vs[i], (n.tr t).sq, List.getElem?_eq_getElem hi'⟩
  yld := fun i H τ x H' hi t o _ y => by
    obtain ⟨T, z, rfl, hT, rfl, y1⟩ := y
    obtain ⟨d, h1, h2⟩ := (l.tr t).get (y1 vs (n.tr t).sq)
    exact ⟨_, enumD_get h1, Tr.new hT, o.new hT, Dn.tup ⟨o.fresh hT, upd_same⟩ (.cons (Dn.int _) (.cons (h2.tr (Tr.new hT)) .nil))⟩
  stop := fun i H τ hi t o _ => by
    rw [enumD_length] at hi
    exact ⟨vs, (n.tr t).sq, by rw [l.length]; exact hi⟩
end
theorem di_enumT {X : Cx} {ρ : En} {τ : Store} {pos p1 tpos : Pos} {a : Expr} {elts : List Expr} {kk : Nat} {Q : List PyData → (Store → Prop) → Store → Prop} (B : Bl X.mg) (hg : Gl X "enumerate") (h : De X ρ τ a fun x τ1 => ∃ ds, x = .val (.tuple ds) ∧ Q (enumD ds) AnyS τ1)
    (hs : starEach [a] X.env = [(false, eval a X.env)] := by rfl) : Di X (.Tuple elts kk tpos) ρ τ (.Call (.Name "enumerate" p1) [a] [] pos) Q := .mk fun σ H o l R p =>
  wi_of (pi_enumT hg B.h_enumerate (pa_cons pe_we pa_nil hs) hs) (h σ H o l _ fun v H1 x τ1 ⟨ds, ex, q⟩ o1 r1 t1 => by
    subst ex
    cases r1 with
    | @tup a vs _ n1 l1 => exact ⟨a, vs, rfl, n1.sq, p _ H1 (enumD ds) AnyS τ1 q o1 t1 (walks_enumT n1 l1)⟩)
end Dl

/-! sum of a tuple of ints -/
namespace Dl
open PySem PySem.Spec L2 PyProof.Rows
section
variable {prog : Program} {w : World} {A : Around} {E : Value → Shared → Prop} {s : Shared} {l : Addr} {its : List Value} {ns : List Int} {Q : Value → Shared → Prop}
theorem sum_tupRaw (hh : A.handled = none) (hl : s.heap.IsTuple l its.toArray) (hi : IntsAre its ns)
    (h : ∀ h' tk t', (∀ b o, s.heap.get? b = some o → h'.get? b = some o) → Q (.int ns.sum t') { s with heap := h', toks := tk }) : wpAny (model prog w) A (call (.builtin "sum") [.ref l]) Q E s := by
  obtain ⟨xs, e⟩ := hi.allInts.items
  have hn : numsOf (intItems xs).toList = ns := by rw [← e]; exact hi.numsOf
  rw [nums_intItems] at hn
  rw [e] at hl
  have hlt : l < s.heap.objs.size := by obtain ⟨_, e1, _⟩ := hl; exact Heap.lt_size e1
  refine call_sum_walkG (wpAny_pyIter_tuple hl ?_)
  refine ⟨_, _, _, _, _, _, numAt xs, rfl, Walks.tuple (A := A.in1) hh _ l (Nat.ne_of_lt hlt) (intItems xs), ⟨⟨_, Heap.get?_push_size _ rfl, rfl, rfl⟩, hl.push _⟩, fun b hb => ?_, (fun _ _ => intItems_at), fun h' tk t' hk => ?_⟩
  · show b < (s.heap.push _).objs.size
    rw [Heap.size_push]
    simp only [List.mem_cons, List.not_mem_nil, or_false] at hb
    rcases hb with rfl | rfl
    · exact Nat.lt_succ_self _
    · exact Nat.lt_succ_of_lt hlt
  · have q := h h' tk t' fun b o eb => hk b o (fun hm => by
      rw [List.mem_singleton] at hm
      exact absurd (hm ▸ Heap.lt_size eb) (Nat.lt_irrefl _)) (Heap.get?_push_of_some _ eb)
    rw [preSum_eq, List.take_of_length_le (by simp [intItems]), hn]
    exact q
end
section
variable {X : Cx}
theorem cr_sumT (hc : X.calm = true) : CallR X (.builtin "sum") (fun vs H Q => ∃ (a : Addr) (ns : List Int), vs = [V.ref a] ∧ SqT X.K H a (ns.map V.int) ∧ Q (.int ns.sum) H) := by
  intro pins s σ H vs us Q I r h
  obtain ⟨a, ns, rfl, hs, q⟩ := h
  obtain ⟨its, rv, hl, _⟩ := I.tuple hs
  rw [Vals.ref1 r]
  exact sum_tupRaw (I.ok.hd hc) (show s.heap.IsTuple a its.toArray from hl) rv.ints fun h' tk t' hk => ⟨.int _, H, I.kept hk, ⟨_, rfl⟩, q⟩
end
section
variable {X : Cx} {ρ : En} {τ : Store} {Q : MV → Store → Prop} {pos p1 : Pos} {a : Expr}
theorem de_sumT (B : Bl X.mg) (hc : X.calm = true) (hg : Gl X "sum") (h : De X ρ τ a fun x τ1 => ∃ ns : List Int, x = .val (.tuple (ns.map .int)) ∧ Q (.val (.int ns.sum)) τ1)
    (hs : starEach [a] X.env = (false, eval a X.env) :: starEach [] X.env := by rfl) : De X ρ τ (.Call (.Name "sum" p1) [a] [] pos) Q :=
  de_callB (cr_sumT hc) hg B.h_sum (by decide +kernel) (da_one (h.mono fun x τ1 ⟨ns, ex, q⟩ => .mk fun H vs o r QQ p => by
    subst ex
    obtain ⟨v, rfl, r1⟩ := paired1 r
    obtain ⟨t, rfl, _, ht⟩ := kOf_tup (show Dn _ _ _ v (.tuple (ns.map .int)) from r1)
    exact ⟨t, ns, rfl, SqT.of ht, p _ H _ τ1 q o (Dn.int _) Tr.refl⟩) hs) hs rfl
end
theorem reads_ints {h : Heap} : ∀ {vs : List Value} {ns : List Int}, IntsAre vs ns → ReadsAll h vs (ns.map .int) []
  | _, _, .nil => .nil
  | _, _, .cons n t r => .cons (.int n t) (reads_ints r)
theorem depth_ints : ∀ ns : List Int, PyData.depthAll (ns.map .int) = 0
  | [] => rfl
  | n :: ns => by
    rw [List.map_cons, PyData.depthAll, depth_ints ns]
    rfl
theorem alike_ints (ns : List Int) : PySem.W.AlikeAll (ns.map .int) := ⟨fun x hx y hy => by
  obtain ⟨i, _, rfl⟩ := List.mem_map.mp hx
  obtain ⟨j, _, rfl⟩ := List.mem_map.mp hy
  rfl, fun x hx => by
  obtain ⟨i, _, rfl⟩ := List.mem_map.mp hx
  exact fun z => by cases z⟩
theorem foldl_min : ∀ (ns : List Int) (n : Int), IsMin (n :: ns) (ns.foldl min n)
  | [], n => ⟨List.mem_cons_self, fun y hy => by rw [List.mem_singleton.mp hy]; exact Int.le_refl _⟩
  | m :: ns, n => by
    obtain ⟨h1, h2⟩ := foldl_min ns (min n m)
    refine ⟨?_, fun y hy => ?_⟩
    · rcases List.mem_cons.mp h1 with e | e
      · rw [List.foldl_cons, e]
        by_cases h : n ≤ m
        · rw [Int.min_eq_left h]; exact List.mem_cons_self
        · rw [Int.min_eq_right (by omega)]; exact List.mem_cons_of_mem _ List.mem_cons_self
      · exact List.mem_cons_of_mem _ (List.mem_cons_of_mem _ e)
    · have h0 := h2 (min n m) List.mem_cons_self
      rcases List.mem_cons.mp hy with e | hy
      · rw [List.foldl_cons, e]; omega
      · rcases List.mem_cons.mp hy with e | hy
        · rw [List.foldl_cons, e]; omega
        · exact h2 y (List.mem_cons_of_mem _ hy)
section
variable {X : Cx}
theorem cr_minT (hc : X.calm = true) (hu : X.A.units + 1 < cLine) : CallR X (.builtin "min") (fun vs H Q => ∃ (a : Addr) (n : Int) (ns : List Int), vs = [V.ref a] ∧ SqT X.K H a ((n :: ns).map V.int) ∧ ∀ m, IsMin (n :: ns) m → Q (.int m) H) := by
  intro pins s σ H vs us Q I r h
  obtain ⟨a, n, ns, rfl, hs, q⟩ := h
  obtain ⟨its, rv, hl, _⟩ := I.tuple hs
  rw [Vals.ref1 r]
  refine PySem.W.min_tuple_data (x := .int n) (xs := ns.map .int) (I.ok.hd hc) (show s.heap.IsTuple a its.toArray from hl) (reads_ints (h := s.heap) (vs := its) rv.ints) (alike_ints (n :: ns)) (by rw [show PyData.depthAll (PyData.int n :: ns.map .int) = 0 from depth_ints (n :: ns)]; exact hu) fun i v h' tk bs _ hr hk => ?_
  rw [PySem.W.minD_ints] at hr
  cases hr
  exact ⟨.int _, H, I.kept hk, ⟨_, rfl⟩, q _ (foldl_min ns n)⟩
end
section
variable {X : Cx} {ρ : En} {τ : Store} {Q : MV → Store → Prop} {pos p1 : Pos} {a : Expr}
theorem de_minT (B : Bl X.mg) (hc : X.calm = true) (hu : X.A.units + 65 < cLine) (hg : Gl X "min") (h : De X ρ τ a fun x τ1 => ∃ ns : List Int, ns ≠ [] ∧ x = .val (.tuple (ns.map .int)) ∧ ∀ m, IsMin ns m → Q (.val (.int m)) τ1)
    (hs : starEach [a] X.env = (false, eval a X.env) :: starEach [] X.env := by rfl) : De X ρ τ (.Call (.Name "min" p1) [a] [] pos) Q :=
  de_callB (cr_minT hc (by omega)) hg B.h_min (by decide +kernel) (da_one (h.mono fun x τ1 ⟨ns, hne, ex, q⟩ => .mk fun H vs o r QQ p => by
    subst ex
    cases ns with
    | nil => exact absurd rfl hne
    | cons n ns =>
      obtain ⟨v, rfl, r1⟩ := paired1 r
      obtain ⟨t, rfl, _, ht⟩ := kOf_tup (show Dn _ _ _ v (.tuple ((n :: ns).map .int)) from r1)
      exact ⟨t, n, ns, rfl, SqT.of ht, fun m hm => p _ H _ τ1 (q m hm) o (Dn.int _) Tr.refl⟩) hs) hs rfl
end
end Dl

/-! max of a tuple of ints; min, max of a list of data; <, > of data -/
namespace Dl
open PySem PySem.Spec L2 PyProof.Rows
theorem foldl_max : ∀ (ns : List Int) (n : Int), IsMax (n :: ns) (ns.foldl max n)
  | [], n => ⟨List.mem_cons_self, fun y hy => by rw [List.mem_singleton.mp hy]; exact Int.le_refl _⟩
  | m :: ns, n => by
    obtain ⟨h1, h2⟩ := foldl_max ns (max n m)
    refine ⟨?_, fun y hy => ?_⟩
    · rcases List.mem_cons.mp h1 with e | e
      · rw [List.foldl_cons, e]
        by_cases h : m ≤ n
        · rw [Int.max_eq_left h]; exact List.mem_cons_self
        · rw [Int.max_eq_right (by omega)]; exact List.mem_cons_of_mem _ List.mem_cons_self
      · exact List.mem_cons_of_mem _ (List.mem_cons_of_mem _ e)
    · have h0 := h2 (max n m) List.mem_cons_self
      rcases List.mem_cons.mp hy with e | hy
      · rw [List.foldl_cons, e]; omega
      · rcases List.mem_cons.mp hy with e | hy
        · rw [List.foldl_cons, e]; omega
        · exact h2 y (List.mem_cons_of_mem _ hy)
section
variable {X : Cx}
theorem cr_maxT (hc : X.calm = true) (hu : X.A.units + 1 < cLine) : CallR X (.builtin "max") (fun vs H Q => ∃ (a : Addr) (n : Int) (ns : List Int), vs = [V.ref a] ∧ SqT X.K H a ((n :: ns).map V.int) ∧ ∀ m, IsMax (n :: ns) m → Q (.int m) H) := by
  intro pins s σ H vs us Q I r h
  obtain ⟨a, n, ns, rfl, hs, q⟩ := h
  obtain ⟨its, rv, hl, _⟩ := I.tuple hs
  rw [Vals.ref1 r]
  refine PySem.W.max_tuple_data (x := .int n) (xs := ns.map .int) (I.ok.hd hc) (show s.heap.IsTuple a its.toArray from hl) (reads_ints (h := s.heap) (vs := its) rv.ints) (alike_ints (n :: ns)) (by rw [show PyData.depthAll (PyData.int n :: ns.map .int) = 0 from depth_ints (n :: ns)]; exact hu) fun i v h' tk bs _ hr hk => ?_
  rw [PySem.W.maxD_ints] at hr
  cases hr
  exact ⟨.int _, H, I.kept hk, ⟨_, rfl⟩, q _ (foldl_max ns n)⟩
theorem vals_get {xs : List V} {its : List Value} (h : Vals xs its) : ∀ {i : Nat} {v : Value}, its[i]? = some v → ∃ x, xs[i]? = some x ∧ RelV x v := by
  induction h with
  | nil => intro i v e; simp at e
  | cons a b ih =>
    intro i v e
    cases i with
    | zero =>
      simp at e
      subst e
      exact ⟨_, rfl, a⟩
    | succ i =>
      obtain ⟨x, h1, h2⟩ := ih (by simpa using e)
      exact ⟨x, by simpa using h1, h2⟩
/-- of a list of data -/
def rBestD (K : PySem.W.Frag) (best : PyData → List PyData → PyData) : List V → Hp → VK → Prop := fun vs H Q => ∃ (a : Addr) (xs : List V) (d : PyData) (ds : List PyData), vs = [V.ref a] ∧ SqL K H a xs ∧ DpAll K H xs (d :: ds) ∧ PySem.W.AlikeAll (d :: ds) ∧ (∀ x ∈ d :: ds, x.canLay0 = true) ∧ PyData.depthAll (d :: ds) ≤ 60 ∧
  ∀ (i : Nat) (v : V) (e : PyData), xs[i]? = some v → (d :: ds)[i]? = some e → e = best d ds → Q v H
theorem dpAll_get {K : PySem.W.Frag} {H : Hp} : ∀ {vs : List V} {ds : List PyData} {i : Nat} {v : V}, DpAll K H vs ds → vs[i]? = some v → ∃ d, ds[i]? = some d ∧ Dp K H v d
  | _, _, _, _, .nil, e => by simp at e
  | _, _, 0, _, .cons a _, e => by
    simp at e
    subst e
    exact ⟨_, rfl, a⟩
  | _, _, i + 1, v, .cons _ b, e => by
    obtain ⟨d, h1, h2⟩ := dpAll_get (i := i) (v := v) b (by simpa using e)
    exact ⟨d, by simpa using h1, h2⟩
theorem cr_minD (hc : X.calm = true) (hu : X.A.units + 65 < cLine) : CallR X (.builtin "min") (rBestD X.K PySem.W.minD) := by
  intro pins s σ H vs us Q I r h
  obtain ⟨a, xs, d, ds, rfl, hs, hd, hal, hlay, hdep, q⟩ := h
  obtain ⟨its, rv, hl, _⟩ := I.list hs
  rw [Vals.ref1 r]
  obtain ⟨as, hr⟩ := Dp.readsAll I (d :: ds) xs its hd rv
  refine PySem.W.min_list_data (x := d) (xs := ds) (vs := its.toArray) (I.ok.hd hc) hl.isList hr hal (by omega) fun i v h' tk bs hv hrd hk => ?_
  have hv : its[i]? = some v := by simpa using hv
  obtain ⟨x, hx, hrel⟩ := vals_get rv hv
  obtain ⟨e, he, hdp⟩ := dpAll_get hd hx
  obtain ⟨as', hr'⟩ := Dp.reads I e x v hdp hrel
  have hu := (Reads.unique (PySem.W.reads_keeps hk hr') _ _ hrd).1
  exact ⟨x, H, I.kept hk, hrel, q i x e hx he hu⟩
theorem cr_maxD (hc : X.calm = true) (hu : X.A.units + 65 < cLine) : CallR X (.builtin "max") (rBestD X.K PySem.W.maxD) := by
  intro pins s σ H vs us Q I r h
  obtain ⟨a, xs, d, ds, rfl, hs, hd, hal, hlay, hdep, q⟩ := h
  obtain ⟨its, rv, hl, _⟩ := I.list hs
  rw [Vals.ref1 r]
  obtain ⟨as, hr⟩ := Dp.readsAll I (d :: ds) xs its hd rv
  refine PySem.W.max_list_data (x := d) (xs := ds) (vs := its.toArray) (I.ok.hd hc) hl.isList hr hal (by omega) fun i v h' tk bs hv hrd hk => ?_
  have hv : its[i]? = some v := by simpa using hv
  obtain ⟨x, hx, hrel⟩ := vals_get rv hv
  obtain ⟨e, he, hdp⟩ := dpAll_get hd hx
  obtain ⟨as', hr'⟩ := Dp.reads I e x v hdp hrel
  have hu := (Reads.unique (PySem.W.reads_keeps hk hr') _ _ hrd).1
  exact ⟨x, H, I.kept hk, hrel, q i x e hx he hu⟩
def rCmpD (K : PySem.W.Frag) (g : PyData → PyData → Bool) : R2 := fun x y H Q => ∃ d e, Dp K H x d ∧ Dp K H y e ∧ PySem.W.alike d e = true ∧ d ≠ .none ∧ d.depth ≤ 60 ∧ Q (.bl (g d e)) H
theorem op_ltD (hu : X.A.units + 64 < cLine) : OpR X (compareOp .Lt) (rCmpD X.K fun d e => PySem.W.dataLt d e) := by
  intro pins s σ H x y v u Q I rx ry h
  obtain ⟨d, e, hx, hy, ha, hn, hd, q⟩ := h
  obtain ⟨as, r1⟩ := Dp.reads I d x v hx rx
  obtain ⟨bs, r2⟩ := Dp.reads I e y u hy ry
  exact PySem.W.lt_data r1 r2 ha hn (by omega) ⟨.bl _, H, I, rfl, q⟩
theorem op_gtD (hu : X.A.units + 64 < cLine) : OpR X (compareOp .Gt) (rCmpD X.K fun d e => PySem.W.dataLt e d) := by
  intro pins s σ H x y v u Q I rx ry h
  obtain ⟨d, e, hx, hy, ha, hn, hd, q⟩ := h
  obtain ⟨as, r1⟩ := Dp.reads I d x v hx rx
  obtain ⟨bs, r2⟩ := Dp.reads I e y u hy ry
  exact PySem.W.gt_data r1 r2 ha hn (by omega) ⟨.bl _, H, I, rfl, q⟩
end
section
variable {X : Cx} {ρ : En} {τ : Store} {Q : MV → Store → Prop} {pos p1 : Pos} {a b : Expr}
theorem de_maxT (B : Bl X.mg) (hc : X.calm = true) (hu : X.A.units + 65 < cLine) (hg : Gl X "max") (h : De X ρ τ a fun x τ1 => ∃ ns : List Int, ns ≠ [] ∧ x = .val (.tuple (ns.map .int)) ∧ ∀ m, IsMax ns m → Q (.val (.int m)) τ1)
    (hs : starEach [a] X.env = (false, eval a X.env) :: starEach [] X.env := by rfl) : De X ρ τ (.Call (.Name "max" p1) [a] [] pos) Q :=
  de_callB (cr_maxT hc (by omega)) hg B.h_max (by decide +kernel) (da_one (h.mono fun x τ1 ⟨ns, hne, ex, q⟩ => .mk fun H vs o r QQ p => by
    subst ex
    cases ns with
    | nil => exact absurd rfl hne
    | cons n ns =>
      obtain ⟨v, rfl, r1⟩ := paired1 r
      obtain ⟨t, rfl, _, ht⟩ := kOf_tup (show Dn _ _ _ v (.tuple ((n :: ns).map .int)) from r1)
      exact ⟨t, n, ns, rfl, SqT.of ht, fun m hm => p _ H _ τ1 (q m hm) o (Dn.int _) Tr.refl⟩) hs) hs rfl
theorem depthAll_pl {n : Nat} {ds : List PyData} (h : ∀ x ∈ ds, Pl n x) : PyData.depthAll ds ≤ n + 1 := depthAll_of fun x hx => (h x hx).dep
theorem de_minD {n : Nat} (B : Bl X.mg) (hc : X.calm = true) (hu : X.A.units + 65 < cLine) (hg : Gl X "min") (h : De X ρ τ a fun x τ1 => ∃ d ds, datOf τ1 x = some (.list (d :: ds)) ∧ PySem.W.AlikeAll (d :: ds) ∧ (∀ x ∈ d :: ds, Pl n x) ∧ Q (.val (PySem.W.minD d ds)) τ1) (hn : n ≤ 50 := by decide)
    (hs : starEach [a] X.env = (false, eval a X.env) :: starEach [] X.env := by rfl) : De X ρ τ (.Call (.Name "min" p1) [a] [] pos) Q :=
  de_callB (cr_minD hc hu) hg B.h_min (by decide +kernel) (da_one (h.mono fun x τ1 ⟨d, ds, ex, hal, hpl, q⟩ => .mk fun H vs o r QQ p => by
    obtain ⟨v, rfl, r1⟩ := paired1 r
    obtain ⟨t, ws, rfl, h1, l1⟩ := r1.seqL o ex
    refine ⟨t, ws, d, ds, rfl, h1, l1.dp, hal, fun x hx => (hpl x hx).lay, Nat.le_trans (depthAll_pl hpl) (by omega), fun i v e hv he ee => ?_⟩
    obtain ⟨e', h2, h3⟩ := l1.get hv
    rw [he] at h2
    cases h2
    subst ee
    exact p _ H _ τ1 q o h3 Tr.refl) hs) hs rfl
/-- two data compared -/
abbrev DatD (n : Nat) (g : PyData → PyData → Bool) (x y : MV) (τ : Store) (Q : MV → Store → Prop) : Prop := ∃ d e, datOf τ x = some d ∧ datOf τ y = some e ∧ PySem.W.alike d e = true ∧ d ≠ .none ∧ Pl n d ∧ n ≤ 50 ∧ Q (.val (.bool (g d e))) τ
theorem opd_dat {K : PySem.W.Frag} {n : Nat} {g : PyData → PyData → Bool} {x y : MV} (h : DatD n g x y τ Q) : OpD K (rCmpD K g) x y τ Q := .mk fun H v u o r1 r2 QQ p => by
  obtain ⟨d, e, hx, hy, ha, hn, hp, h50, q⟩ := h
  exact ⟨d, e, r1.dp o hx, r2.dp o hy, ha, hn, Nat.le_trans hp.dep (by omega), p _ H _ τ q o (Dn.bl _) Tr.refl⟩
theorem de_ltD (n : Nat) (hu : X.A.units + 64 < cLine) (h : De X ρ τ a fun x τ1 => De X ρ τ1 b fun y τ2 => DatD n (fun d e => PySem.W.dataLt d e) x y τ2 Q) : De X ρ τ (.Compare a [.Lt] [b] pos) Q := de_cmp (op_ltD hu) (h.mono fun x τ1 h1 => h1.mono fun y τ2 h2 => opd_dat h2) (nomark b)
theorem de_gtD (n : Nat) (hu : X.A.units + 64 < cLine) (h : De X ρ τ a fun x τ1 => De X ρ τ1 b fun y τ2 => DatD n (fun d e => PySem.W.dataLt e d) x y τ2 Q) : De X ρ τ (.Compare a [.Gt] [b] pos) Q := de_cmp (op_gtD hu) (h.mono fun x τ1 h1 => h1.mono fun y τ2 h2 => opd_dat h2) (nomark b)
theorem dt_ltD {Q : Bool → Store → Prop} (n : Nat) (hu : X.A.units + 64 < cLine) (h : De X ρ τ a fun x τ1 => De X ρ τ1 b fun y τ2 => DatD n (fun d e => PySem.W.dataLt d e) x y τ2 (BoolQ Q)) : Dt X ρ τ (.Compare a [.Lt] [b] pos) Q := dt_cmp (op_ltD hu) (h.mono fun x τ1 h1 => h1.mono fun y τ2 h2 => opd_dat h2) (nomark b)
theorem dt_gtD {Q : Bool → Store → Prop} (n : Nat) (hu : X.A.units + 64 < cLine) (h : De X ρ τ a fun x τ1 => De X ρ τ1 b fun y τ2 => DatD n (fun d e => PySem.W.dataLt e d) x y τ2 (BoolQ Q)) : Dt X ρ τ (.Compare a [.Gt] [b] pos) Q := dt_cmp (op_gtD hu) (h.mono fun x τ1 h1 => h1.mono fun y τ2 h2 => opd_dat h2) (nomark b)
end
end Dl

/-! a, b = x, y with names that are cells; a, b, c = a list -/
namespace Dl
open PySem PySem.Spec L2
theorem SlOk.setAllM {K : PySem.W.Frag} {N : List Addr} {H : Hp} : ∀ {js : List Nat} {vs : List V} {svs : List MV} {σ : L2.St} {ρ : En}, SlOk K N H σ ρ → RvL K N H vs svs → SlOk K N H (Dl.setAll σ js vs) (Dl.setAll ρ js svs)
  | [], _, _, _, _, h, _ => h
  | _ :: _, _, _, _, _, h, .nil => h
  | j :: js, _, _, σ, ρ, h, .cons a b => SlOk.setAllM (js := js) (h.set a j) b
section
variable {X : Cx} {ρ : En} {τ : Store} {D : DE} {pos p1 p2 : Pos} {a tg : Expr} {es : List Expr}
theorem ds_asgM {js : List Nat} {x1} (hg : PGx X tg (.tup js)) (h : Da X ρ τ es fun svs τ1 => svs.length = js.length ∧ svs.length ≤ 1000000 ∧ D.nx (setAll ρ js svs) τ1)
    (hs : swapsWithSole [tg] (.Tuple es x1 p1) pos.line X.env = pure false := by rfl) (hw : swappedStores [tg] (.Tuple es x1 p1) X.env = pure none := by rfl)
    (h1 : (assignEach [tg] X.env).map (·.2) = [assign tg X.env] := by rfl) : Ds X ρ τ (.Assign [tg] (.Tuple es x1 p1) pos) D := .mk fun σ H o l DD p =>
  ws_of (ps_asg (pe_tup pa_wa) hg hs hw h1) (h σ H o l _ fun vs H1 svs τ1 ⟨hl, hz, q⟩ o1 r1 t1 => ⟨small_sz (by rw [Paired.length r1]; exact hz), fun a ha => by
    have t2 : Tr (dom τ1) H1 (dom τ1) (upd H1 a (.tup vs)) := Tr.new ha
    exact ⟨a, vs, rfl, SqT.of upd_same, by rw [Paired.length r1]; exact hl, p.nx _ _ _ τ1 q (o1.new ha) (((l.tr t1).tr t2).setAllM (r1.tr t2)) (t1.trans t2)⟩⟩)
/-- a target that takes a list apart -/
def tgL (K : PySem.W.Frag) (js : List Nat) : TG := fun v σ H Q => ∃ a xs, v = .ref a ∧ SqL K H a xs ∧ xs.length = js.length ∧ Q (setAll σ js xs) H
theorem pgl_3 {i j k : Nat} {e1 e2 e3 : Expr} {kk : Nat} (hc : X.calm = true) (h1 : PG X e1 (gName i)) (h2 : PG X e2 (gName j)) (h3 : PG X e3 (gName k))
    (hs : (assignEach [e1, e2, e3] X.env).map (·.2) = assign e1 X.env :: (assignEach [e2, e3] X.env).map (·.2) := by rfl) (hs2 : (assignEach [e2, e3] X.env).map (·.2) = assign e2 X.env :: (assignEach [e3] X.env).map (·.2) := by rfl)
    (hs3 : (assignEach [e3] X.env).map (·.2) = assign e3 X.env :: (assignEach [] X.env).map (·.2) := by rfl)
    (hn : (assignEach [e1, e2, e3] X.env).length = 3 := by rfl) (hst : (assignEach [e1, e2, e3] X.env).findIdx? (·.1) = none := by rfl) : PG X (.Tuple [e1, e2, e3] kk pos) (tgL X.K [i, j, k]) :=
  PG.weak (pg_lst hc (pgs_cons h1 (pgs_cons h2 (pgs_cons h3 pgs_nil hs3) hs2) hs) hn hst) fun v σ H Q ⟨a, xs, e, h, hl, q⟩ => by
    match xs, hl with
    | [x, y, z], _ => exact ⟨a, [x, y, z], e, h, rfl, x, [y, z], rfl, y, [z], rfl, z, [], rfl, rfl, q⟩
theorem ds_asgL {js : List Nat} (hg : PG X tg (tgL X.K js)) (h : De X ρ τ a fun sv τ1 => ∃ ds, datOf τ1 sv = some (.list ds) ∧ ds.length = js.length ∧ D.nx (setAll ρ js (ds.map .val)) τ1)
    (hs : swapsWithSole [tg] a pos.line X.env = pure false := by rfl) (hw : swappedStores [tg] a X.env = pure none := by rfl)
    (h1 : (assignEach [tg] X.env).map (·.2) = [assign tg X.env] := by rfl) : Ds X ρ τ (.Assign [tg] a pos) D := .mk fun σ H o l DD p =>
  ws_of (ps_asg pe_we hg hs hw h1) (h σ H o l _ fun v H1 sv τ1 ⟨ds, ex, hl, q⟩ o1 r1 t1 => by
    obtain ⟨a, vs, rfl, h2, l1⟩ := r1.seqL o1 ex
    exact ⟨a, vs, rfl, h2, by rw [l1.length]; exact hl, p.nx _ H1 _ τ1 q o1 ((l.tr t1).setAll l1) t1⟩)
variable {Q : MV → Store → Prop}
/-- int(x): an int, a bool -/
theorem de_int1 (B : Bl X.mg) (hg : Gl X "int") (h : De X ρ τ a fun x τ1 => (∃ i, x = .val (.int i) ∧ Q (.val (.int i)) τ1) ∨ ∃ k, x = .val (.bool k) ∧ Q (.val (.int (if k then 1 else 0))) τ1)
    (hs : starEach [a] X.env = (false, eval a X.env) :: starEach [] X.env := by rfl) : De X ρ τ (.Call (.Name "int" p1) [a] [] pos) Q :=
  de_callTy call_int1 hg B.h_int (by decide +kernel) (da_one (h.mono fun x τ1 h1 => .mk fun H vs o r QQ p => by
    obtain ⟨v, rfl, r1⟩ := paired1 r
    rcases h1 with ⟨i, ex, q⟩ | ⟨k, ex, q⟩
    · subst ex
      cases r1
      exact .inl ⟨i, rfl, p _ H _ τ1 q o (Dn.int _) Tr.refl⟩
    · subst ex
      cases r1
      exact .inr ⟨k, rfl, p _ H _ τ1 q o (Dn.int _) Tr.refl⟩) hs) hs rfl
end
theorem lst_tup {K : PySem.W.Frag} {τ : Store} {Q : MV → Store → Prop} {ds : List PyData} (q : Q (.val (.list ds)) τ) : LstD K (.val (.tuple ds)) τ Q := .mk fun H vs o r QQ p => by
  obtain ⟨v, rfl, r1⟩ := paired1 r
  obtain ⟨a, ws, rfl, h1, l1⟩ := r1.seqT o (rfl : datOf τ (.val (.tuple ds)) = some (.tuple ds))
  exact ⟨a, ws, rfl, .inr h1.sq, p.lst o l1 q⟩
/-! sorted(set(t)), t a short tuple of ints -/
section
variable {X : Cx}
def rSetI (K : PySem.W.Frag) (w : World) : List V → Hp → VK → Prop := fun vs H Q => ∃ (a : Addr) (ns : List Int), vs = [V.ref a] ∧ SqT K H a (ns.map V.int) ∧ ns.length ≤ 60 ∧
  ∀ (p : Addr) (S : Int → Bool) (n : Nat), H p = none → (∀ k, S k = true ↔ k ∈ ns) → n ≤ ns.length → Q (.ref p) (upd H p (SetO w p S n))
theorem cr_setT (hc : X.calm = true) : CallR X (.type "set") (rSetI X.K X.w) := by
  intro pins s σ H vs us Q I r h
  obtain ⟨a, ns, rfl, hs, hl, q⟩ := h
  obtain ⟨its, rv, pt, _⟩ := I.tuple hs
  rw [Vals.ref1 r]
  refine call_set_tupI ns (I.ok.hd hc) (show s.heap.IsTuple a its.toArray from pt) rv.ints (by unfold scanBound; omega) fun h' tk c R hcn k => ?_
  have hf : H s.heap.objs.size = none := I.hok.fresh (Nat.le_refl _)
  exact ⟨.ref s.heap.objs.size, _, I.laid (t' := tk) (fun b u e => k b u e) (Nat.le_refl _) (setO_new R), rfl, q _ _ c hf (fun j => decide_eq_true_iff) hcn⟩
end
section
variable {X : Cx} {ρ : En} {τ : Store} {Q : MV → Store → Prop} {pos p1 p2 p3 : Pos} {a : Expr}
theorem de_sortedSetT (B : Bl X.mg) (hc : X.calm = true) (hg : Gl X "sorted") (hg2 : Gl X "set") (h : De X ρ τ a fun x τ1 => ∃ ns : List Int, x = .val (.tuple (ns.map .int)) ∧ ns.length ≤ 60 ∧ ∀ ms : List Int, ms.Pairwise (· < ·) → (∀ k, k ∈ ms ↔ k ∈ ns) → Q (.val (.list (ms.map .int))) τ1)
    (hs : starEach [a] X.env = (false, eval a X.env) :: starEach [] X.env := by rfl) (hs2 : starEach [.Call (.Name "set" p2) [a] [] p3] X.env = (false, eval (.Call (.Name "set" p2) [a] [] p3) X.env) :: starEach [] X.env := by rfl) :
    De X ρ τ (.Call (.Name "sorted" p1) [.Call (.Name "set" p2) [a] [] p3] [] pos) Q := .mk fun σ H o l QQ p => by
  refine we_of (pe_callB (cr_sortedSet hc) hg B.h_sorted (by decide +kernel) (pa_cons (pe_callTy (cr_setT hc) hg2 B.h_set (by decide +kernel) (pa_cons pe_we pa_nil hs) (by decide) (by decide) hs rfl) pa_nil hs2) (by decide) (by decide) hs2 rfl) ?_
  refine h σ H o l _ fun v H1 x τ1 ⟨ns, ex, hl, q⟩ o1 r1 t1 => ?_
  subst ex
  obtain ⟨t, rfl, _, ht⟩ := kOf_tup (show Dn _ _ _ v (.tuple (ns.map .int)) from r1)
  refine ⟨t, ns, rfl, SqT.of ht, hl, fun pa S n hpa hS hn => ?_⟩
  refine ⟨pa, S, n, rfl, upd_same, by omega, fun ms pb hms hmem hlen hpb => ?_⟩
  have t2 : Tr (dom τ1) H1 (dom τ1) (upd H1 pa (SetO X.w pa S n)) := Tr.new hpa
  have o2 := o1.new (o := SetO X.w pa S n) hpa
  exact ((p.step t1).step t2).lst o2 (DnL.of_ints (ns := ms)) (q ms hms fun k => (hmem k).trans (hS k)) pb hpb
end
end Dl

/-! sorted of a list of data -/
namespace Dl
open PySem PySem.Spec L2 PyProof.Rows
theorem dlt_irr (d : PyData) : PySem.W.dataLt d d = false := PyProof.Rows.lex_irrefl (O := PyProof.Rows.itemOrd) _
theorem dlt_tr {a b c : PyData} (h : PySem.W.dataLt a b = true) (h' : PySem.W.dataLt b c = true) : PySem.W.dataLt a c = true := PyProof.Rows.lex_trans (O := PyProof.Rows.itemOrd) _ _ _ h h'
theorem dlt_neg {a b c : PyData} (h : PySem.W.dataLt a b = false) (h' : PySem.W.dataLt b c = false) : PySem.W.dataLt a c = false := by
  cases e : PySem.W.dataLt a c with
  | false => rfl
  | true =>
    rcases PyProof.Rows.lex_negTrans (O := PyProof.Rows.itemOrd) (PySem.W.keyToks a) (PySem.W.keyToks b) (PySem.W.keyToks c) e with z | z
    · rw [show PySem.W.dataLt a b = true from z] at h; cases h
    · rw [show PySem.W.dataLt b c = true from z] at h'; cases h'
theorem dlt_asym {a b : PyData} (h : PySem.W.dataLt a b = true) : PySem.W.dataLt b a = false := by
  cases e : PySem.W.dataLt b a with
  | false => rfl
  | true =>
    have := dlt_tr h e
    rw [dlt_irr] at this
    cases this
theorem dsort_asc (ds : List PyData) : (ds.mergeSort (PySem.W.dataLe false id)).Pairwise fun a b => PySem.W.dataLt b a = false := by
  have h := List.pairwise_mergeSort (le := PySem.W.dataLe false (id : PyData → PyData)) (fun a b c h1 h2 => ?_) (fun a b => ?_) ds
  · refine h.imp fun {a b} h => ?_
    rw [PySem.W.dataLe_eq] at h
    simpa using h
  · rw [PySem.W.dataLe_eq] at h1 h2 ⊢
    have h1 : PySem.W.dataLt b a = false := by simpa using h1
    have h2 : PySem.W.dataLt c b = false := by simpa using h2
    simpa using dlt_neg h2 h1
  · rw [PySem.W.dataLe_eq]
    show (!PySem.W.dataLt b a || !PySem.W.dataLt a b) = true
    cases e : PySem.W.dataLt b a with
    | false => rfl
    | true => rw [dlt_asym e]; rfl
theorem each_rel : ∀ {xs : List V} {ds : List PyData} {its : List Value}, Vals xs its → xs.length = ds.length → PySem.W.EachIs (fun v (p : V × PyData) => RelV p.1 v) its (xs.zip ds)
  | [], [], _, .nil, _ => .nil
  | x :: xs, d :: ds, _, .cons a b, h => .cons a (each_rel b (by simpa using h))
  | x :: xs, [], _, _, h => by simp at h
theorem each_vals : ∀ {out : List Value} {ps : List (V × PyData)}, PySem.W.EachIs (fun v (p : V × PyData) => RelV p.1 v) out ps → Vals (ps.map (·.1)) out
  | _, _, .nil => .nil
  | _, _, .cons a b => .cons a (each_vals b)
section
variable {X : Cx} {pins : List (Addr × Obj)} {σ : L2.St} {H : Hp} {s : Shared}
theorem each_reads (I : Inv X pins σ H s) : ∀ {xs : List V} {ds : List PyData} {its : List Value}, DpAll X.K H xs ds → Vals xs its → PySem.W.EachIs (fun v (p : V × PyData) => ∃ as, Reads s.heap v p.2 as) its (xs.zip ds)
  | [], _, _, .nil, .nil => .nil
  | x :: xs, _, _, .cons h hs, .cons a b => .cons (Dp.reads I _ _ _ h a) (each_reads I hs b)
end
theorem dpAll_len {K : PySem.W.Frag} {H : Hp} : ∀ {vs : List V} {ds : List PyData}, DpAll K H vs ds → vs.length = ds.length
  | _, _, .nil => rfl
  | _, _, .cons _ b => by rw [List.length_cons, List.length_cons, dpAll_len b]
def rSortedD (K : PySem.W.Frag) : List V → Hp → VK → Prop := fun vs H Q => ∃ (a : Addr) (xs : List V) (ds : List PyData), vs = [V.ref a] ∧ SqL K H a xs ∧ DpAll K H xs ds ∧ PySem.W.AllAlike ds ∧ PySem.W.Sortable ds ∧ (∀ d ∈ ds, d.depth ≤ 60) ∧
  ∀ (ps : List (V × PyData)) (p : Addr), ps.Perm (xs.zip ds) → ps.map (·.2) = ds.mergeSort (PySem.W.dataLe false id) → H p = none → Q (.ref p) (upd H p (.lst (ps.map (·.1))))
section
variable {X : Cx}
theorem cr_sortedD (hu : X.A.units + 64 < cLine) : CallR X (.builtin "sorted") (rSortedD X.K) := by
  intro pins s σ H vs us Q I r h
  obtain ⟨a, xs, ds, rfl, hs, hd, hal, hso, hdep, q⟩ := h
  obtain ⟨its, rv, hl, hz⟩ := I.list hs
  rw [Vals.ref1 r]
  have hlen := dpAll_len hd
  have hzl : (xs.zip ds).length = xs.length := by rw [List.length_zip]; omega
  have hsnd : (xs.zip ds).map (·.2) = ds := List.map_snd_zip (by omega)
  refine PySem.W.sorted_data (enc := fun p : V × PyData => p.2) (bs := xs.zip ds) hl.isList (each_rel rv hlen) (each_reads I hd rv) (by rw [hsnd]; exact hal) (by rw [hsnd]; exact hso) (by rw [hzl]; exact hz) (fun b hb => ?_) fun out ho he => ?_
  · have := hdep _ (List.of_mem_zip hb).2
    omega
  · have hv := each_vals he
    obtain ⟨n, hn⟩ := sortedAll_at s.heap its (List.toArray out)
    have hnew : H (s.heap.objs.size + 1) = none := I.hok.fresh (Nat.le_succ _)
    refine ⟨.ref (s.heap.objs.size + 1), _, I.laid (t' := s.toks) (o := .lst (((xs.zip ds).mergeSort (PySem.W.dataLe false fun p : V × PyData => p.2)).map (·.1))) (fun b o e => sortedAll_old e) (Nat.le_succ _) ⟨?_, out, n, hv, hn⟩, rfl, q _ _ (List.mergeSort_perm _ _) ?_ hnew⟩
    · rw [List.length_map, List.length_mergeSort, hzl]
      exact hz
    · have hm := List.map_mergeSort (r := PySem.W.dataLe false fun p : V × PyData => p.2) (s := PySem.W.dataLe false (id : PyData → PyData)) (f := fun p : V × PyData => p.2) (l := xs.zip ds) (fun a _ b _ => rfl)
      rw [hm, hsnd]
end
section
variable {X : Cx} {ρ : En} {τ : Store} {Q : MV → Store → Prop} {pos p1 : Pos} {a : Expr}
theorem dnl_pairs {K : PySem.W.Frag} {N : List Addr} {H : Hp} : ∀ {ps : List (V × PyData)}, (∀ p ∈ ps, Dn K N H p.1 p.2) → DnL K N H (ps.map (·.1)) (ps.map (·.2))
  | [], _ => .nil
  | p :: ps, h => .cons (h p List.mem_cons_self) (dnl_pairs fun q hq => h q (List.mem_cons_of_mem _ hq))
theorem dnl_zip {K : PySem.W.Frag} {N : List Addr} {H : Hp} : ∀ {vs : List V} {ds : List PyData}, DnL K N H vs ds → ∀ p ∈ vs.zip ds, Dn K N H p.1 p.2
  | _, _, .nil => fun p hp => by cases hp
  | _, _, .cons a b => fun p hp => by
    rw [List.zip_cons_cons] at hp
    rcases List.mem_cons.mp hp with rfl | hp
    · exact a
    · exact dnl_zip b p hp
theorem de_sortedD {n : Nat} (B : Bl X.mg) (hu : X.A.units + 64 < cLine) (hg : Gl X "sorted") (h : De X ρ τ a fun x τ1 => ∃ ds : List PyData, datOf τ1 x = some (.list ds) ∧ PySem.W.AllAlike ds ∧ PySem.W.Sortable ds ∧ (∀ d ∈ ds, Pl n d) ∧
    ∀ es : List PyData, es.Perm ds → es.Pairwise (fun a b => PySem.W.dataLt b a = false) → Q (.val (.list es)) τ1) (hn : n ≤ 50 := by decide)
    (hs : starEach [a] X.env = (false, eval a X.env) :: starEach [] X.env := by rfl) : De X ρ τ (.Call (.Name "sorted" p1) [a] [] pos) Q :=
  de_callB (cr_sortedD hu) hg B.h_sorted (by decide +kernel) (da_one (h.mono fun x τ1 ⟨ds, e, hal, hso, hpl, q⟩ => .mk fun H vs o r QQ p => by
    obtain ⟨v, rfl, r1⟩ := paired1 r
    obtain ⟨l, xs, rfl, hq, dl⟩ := r1.seqL o e
    refine ⟨l, xs, ds, rfl, hq, dl.dp, hal, hso, fun d hd => Nat.le_trans (hpl d hd).dep (by omega), fun ps pa hperm hmap hnew => ?_⟩
    have hdn := dnl_pairs (ps := ps) fun p hp => dnl_zip dl p (hperm.mem_iff.mp hp)
    refine p.lst o hdn (q (ps.map (·.2)) ?_ ?_) pa hnew
    · rw [hmap]
      exact List.mergeSort_perm _ _
    · rw [hmap]
      exact dsort_asc ds) hs) hs rfl
end
end Dl

/-! sorted(set(l)), l a short list of ints -/
namespace Dl
open PySem PySem.Spec L2 PyProof.Rows
section
variable {P : Program} {w : World} {A : Around} {E : Value → Shared → Prop} {s : Shared}
/-- what set() makes first -/
abbrev bareSet (w : World) : Obj := { cls := .type "set", dict := none, data := .set #[] 0 (.fresh 0 0 (!w.params.followText "set-order")) }
theorem set_filled {p l : Addr} {us : Array Value} {ns : List Int} {Q : PySem.Fin → Shared → Prop} (hA : A.handled = none) (hp : s.heap.get? p = some (bareSet w)) (hl : s.heap.IsList l us) (hi : IntsAre us.toList ns)
    (hb : ns.length + 1 < scanBound) (hpl : p ≠ l) (q : ∀ (g : Heap) (tk c : Nat), SetR w g p (fun j => decide (j ∈ ns)) c → c ≤ ns.length → (∀ b o, b ≠ p → s.heap.get? b = some o → g.get? b = some o) → Q (.done (.ret .none)) { s with heap := g, toks := tk }) :
    wpAny (model P w) A (Builtin.«set.__init__» ⟨[.ref p, .ref l], []⟩) Q (fun e t => E e t) s := by
  have b1 := F.sub_list_set
  have b2 := F.sub_list_frozenset
  have b3 : (Value.type "list" == Value.type "dict") = false := by decide
  unfold Builtin.«set.__init__» noKeywords Builtin.Frozenset.updateFrom
  generalize hz : pyIter = it
  obtain ⟨x, hx, hc, n, hd⟩ := id hl
  obtain ⟨xc, xd, xo, xs⟩ := x
  dsimp only at hc hd
  subst hc hd
  wp_walk
  subst hz
  refine wpAny_pyIter_list hl (wpAny_bind (wpAny_runValue ?_))
  have pI := Heap.lt_size hp
  have lI := Heap.lt_size hx
  have hn : us.size = ns.length := by rw [← Array.length_toList]; exact IntsAre.length hi
  refine set_update_ints (Walks.list (show A.in1.handled = none by simp [hA]) s.heap.objs.size l (Nat.ne_of_lt lI) us).toS p ?_ ns hn hb ?_ us.size 0 _ rfl (Nat.zero_le _)
    ⟨⟨_, Heap.get?_push_size _ rfl, rfl, rfl⟩, hl.push _⟩ ⟨0, Nat.le_refl 0, setR_new_at (Heap.get?_push_of_some _ hp)⟩ ?_
  · intro z
    rcases List.mem_cons.mp z with z | z
    · exact absurd z (Nat.ne_of_lt pI)
    · exact hpl (List.mem_singleton.mp z)
  · intro i v e
    obtain ⟨t, et⟩ := IntsAre.int_at hi i v ((Array.getElem?_toList ..).trans e)
    have hil : i < ns.length := hn ▸ (Array.getElem?_eq_some_iff.mp e).1
    exact ⟨ns[i], t, List.getElem?_eq_getElem hil, by rw [et, List.getD_eq_getElem?_getD, List.getElem?_eq_getElem hil]; rfl⟩
  · rintro ⟨g, gg, dd, tk, oo⟩ c m hc R
    obtain ⟨m1, m2, m3, m4, _⟩ := m
    cases m2
    cases m3
    cases m4
    refine wpAny_pure (wpAny_pure (q g tk c R (hn ▸ hc) fun b o hbp e => ?_))
    refine m1 b o (fun z => ?_) (Heap.get?_push_of_some _ e)
    rcases List.mem_cons.mp z with z | z
    · exact hbp z
    · exact Nat.ne_of_lt (Heap.lt_size e) (List.mem_singleton.mp z)
theorem set_of_list {l : Addr} {us : Array Value} {ns : List Int} {Q : Value → Shared → Prop} (hA : A.handled = none) (hl : s.heap.IsList l us) (hi : IntsAre us.toList ns) (hb : ns.length + 1 < scanBound)
    (q : ∀ (g : Heap) (tk c : Nat), SetR w g s.heap.objs.size (fun j => decide (j ∈ ns)) c → c ≤ ns.length → (∀ b o, s.heap.get? b = some o → g.get? b = some o) → Q (.ref s.heap.objs.size) { s with heap := g, toks := tk }) :
    wpAny (model P w) A (call (.type "set") [.ref l]) Q E s := by
  obtain ⟨mc, ml, hmro⟩ := F.called_set.mro
  have c1 := F.called_set.made
  have c2 := F.called_set.sub
  have c3 := F.called_set.notType
  have c4 := F.called_set.canCreate
  have c5 := F.typeCall_set_1 (.ref l)
  have hp : (s.heap.push (bareSet w)).get? s.heap.objs.size = some (bareSet w) := Heap.get?_push_size _ rfl
  have hT : Shared.TypeIs { s with heap := s.heap.push (bareSet w) } (.ref s.heap.objs.size) "set" := ⟨_, hp, rfl⟩
  refine wpAny_call (codeAny_of_tree (?_ : wpAny _ _ (callAny (.type "set") _) _ _ _))
  refine wpAny_pure ⟨Code.quiet_builtin _ (by decide +kernel), codeAny_builtin F.entry_type_call ?_⟩
  rw [Around.under_plain (weight_type_call_type "set" [.ref l] []) rfl]
  repeat any_goals (first | assumption | wp_step)
  refine codeAny_mono (code_set_led1 (.ref l) (E := E) (Q₁ := fun v t => v = .ref s.heap.objs.size ∧ t = { s with heap := s.heap.push (bareSet w) }) ⟨rfl, rfl⟩) fun r t hr => ?_
  rcases r with e | f
  · exact hr
  cases f with
  | ret v =>
    obtain ⟨rfl, rfl⟩ := hr
    have c6 := F.called_set.init.lookup
    have c7 := F.called_set.init.bind (.ref s.heap.objs.size)
    repeat any_goals (first | assumption | wp_step)
    refine codeAny_call_builtin F.called_set.init.plain F.entry_set_init (check_set_init_1 hT ?_)
    have li := Heap.lt_size hl.choose_spec.1
    refine set_filled (by simp [hA]) hp (hl.push _) hi hb (fun z => Nat.ne_of_lt li z.symm) fun g tk c R hc k => ?_
    repeat any_goals (first | assumption | wp_step)
    exact q g tk c R hc fun b o e => k b o (Nat.ne_of_lt (Heap.lt_size e)) (Heap.get?_push_of_some _ e)
  | _ => exact hr.elim
end
section
variable {X : Cx}
def rSetL (K : PySem.W.Frag) (w : World) : List V → Hp → VK → Prop := fun vs H Q => ∃ (a : Addr) (ns : List Int), vs = [V.ref a] ∧ SqL K H a (ns.map V.int) ∧ ns.length ≤ 60 ∧
  ∀ (p : Addr) (S : Int → Bool) (n : Nat), H p = none → (∀ k, S k = true ↔ k ∈ ns) → n ≤ ns.length → Q (.ref p) (upd H p (SetO w p S n))
theorem cr_setL (hc : X.calm = true) : CallR X (.type "set") (rSetL X.K X.w) := by
  intro pins s σ H vs us Q I r h
  obtain ⟨a, ns, rfl, hs, hl, q⟩ := h
  obtain ⟨its, rv, ll, _⟩ := I.list hs
  rw [Vals.ref1 r]
  refine set_of_list (I.ok.hd hc) ll.isList rv.ints (by unfold scanBound; omega) fun g tk c R hcn k => ?_
  have hf : H s.heap.objs.size = none := I.hok.fresh (Nat.le_refl _)
  exact ⟨.ref s.heap.objs.size, _, I.laid (t' := tk) (fun b u e => k b u e) (Nat.le_refl _) (setO_new R), rfl, q _ _ c hf (fun j => decide_eq_true_iff) hcn⟩
end
section
variable {X : Cx} {ρ : En} {τ : Store} {Q : MV → Store → Prop} {pos p1 p2 p3 : Pos} {a : Expr}
theorem de_sortedSetL (B : Bl X.mg) (hc : X.calm = true) (hg : Gl X "sorted") (hg2 : Gl X "set") (h : De X ρ τ a fun x τ1 => ∃ ns : List Int, datOf τ1 x = some (.list (ns.map .int)) ∧ ns.length ≤ 60 ∧ ∀ ms : List Int, ms.Pairwise (· < ·) → (∀ k, k ∈ ms ↔ k ∈ ns) → Q (.val (.list (ms.map .int))) τ1)
    (hs : starEach [a] X.env = (false, eval a X.env) :: starEach [] X.env := by rfl) (hs2 : starEach [.Call (.Name "set" p2) [a] [] p3] X.env = (false, eval (.Call (.Name "set" p2) [a] [] p3) X.env) :: starEach [] X.env := by rfl) :
    De X ρ τ (.Call (.Name "sorted" p1) [.Call (.Name "set" p2) [a] [] p3] [] pos) Q := .mk fun σ H o l QQ p => by
  refine we_of (pe_callB (cr_sortedSet hc) hg B.h_sorted (by decide +kernel) (pa_cons (pe_callTy (cr_setL hc) hg2 B.h_set (by decide +kernel) (pa_cons pe_we pa_nil hs) (by decide) (by decide) hs rfl) pa_nil hs2) (by decide) (by decide) hs2 rfl) ?_
  refine h σ H o l _ fun v H1 x τ1 ⟨ns, ex, hl, q⟩ o1 r1 t1 => ?_
  obtain ⟨t, vs, rfl, ht, dl⟩ := r1.seqL o1 ex
  rw [dnl_ints dl] at ht
  refine ⟨t, ns, rfl, ht, hl, fun pa S n hpa hS hn => ?_⟩
  refine ⟨pa, S, n, rfl, upd_same, by omega, fun ms pb hms hmem hlen hpb => ?_⟩
  have t2 : Tr (dom τ1) H1 (dom τ1) (upd H1 pa (SetO X.w pa S n)) := Tr.new hpa
  have o2 := o1.new (o := SetO X.w pa S n) hpa
  exact ((p.step t1).step t2).lst o2 (DnL.of_ints (ns := ms)) (q ms hms fun k => (hmem k).trans (hS k)) pb hpb
end
end Dl

/-! list(range(a, b)) -/
namespace Dl
open PySem PySem.Spec L2
section
variable {X : Cx} {ρ : En} {τ : Store} {Q : MV → Store → Prop} {pos p1 p2 p3 : Pos} {a b : Expr}
theorem de_listRg2 (B : Bl X.mg) (hc : X.calm = true) (hg : Gl X "list") (hg2 : Gl X "range") (h : De X ρ τ a fun x τ1 => De X ρ τ1 b fun y τ2 => ∃ m n, x = .val (.int m) ∧ y = .val (.int n) ∧ (-1000000 ≤ m ∧ m ≤ 1000000) ∧ (-1000000 ≤ n ∧ n ≤ 1000000) ∧ Q (.val (.list (rangeD m (n - m).toNat))) τ2)
    (na : starEach [a, b] X.env = (false, eval a X.env) :: starEach [b] X.env := by rfl) (nb : starEach [b] X.env = (false, eval b X.env) :: starEach [] X.env := by rfl) (np : (backTo p3 (starEach [b] X.env)).any (·.1) = false := by rfl)
    (nc : starEach [.Call (.Name "range" p2) [a, b] [] p3] X.env = (false, eval (.Call (.Name "range" p2) [a, b] [] p3) X.env) :: starEach [] X.env := by rfl) :
    De X ρ τ (.Call (.Name "list" p1) [.Call (.Name "range" p2) [a, b] [] p3] [] pos) Q := .mk fun σ H o l QQ p =>
  we_of (pe_listRg hc hg B.h_list (prg_2 hg2 B.h_range pe_we pe_we na nb np) nc) (h σ H o l _ fun v H1 x τ1 h1 o1 r1 t1 => by
    refine h1 σ H1 o1 (l.tr t1) _ fun u H2 y τ2 ⟨m, n, ex, ey, hm, hn, q⟩ o2 r2 t2 => ?_
    subst ex ey
    cases r1
    cases r2
    refine ⟨m, n, rfl, rfl, ⟨by omega, by omega, by omega, by omega, by omega⟩, ?_⟩
    have e : rgV m n = ((List.range (n - m).toNat).map fun i => (m + (i : Nat) : Int)).map V.int := by
      unfold rgV
      rw [List.map_map]
      rfl
    have e2 : rangeD m (n - m).toNat = ((List.range (n - m).toNat).map fun i => (m + (i : Nat) : Int)).map .int := by
      unfold rangeD
      rw [List.map_map]
      rfl
    rw [e]
    rw [e2] at q
    exact (p.step (t1.trans t2)).lst o2 (dnl_intmap _) q)
end
end Dl
namespace TW
open PySem PySem.Spec L2 Dl
def topS (i : Nat) : Stmt := PySem.Challenge.pw_tidewindows_k74_tides_by_hand.main.body.getD i (.Pass ⟨0, 0, 0, 0⟩)
local macro_rules | `(tactic| walk_at "le") => `(tactic| exact Nat.le_of_ble_eq_true rfl)
/-- the answer of a test that is known, or both ways -/
local macro_rules | `(tactic| walk_at "bq") => `(tactic| first
  | refine ⟨fun _ => ?_, fun h => Bool.noConfusion (show true = false from h)⟩
  | refine ⟨fun h => Bool.noConfusion (show false = true from h), fun _ => ?_⟩
  | refine ⟨fun _ => ?_, fun h => absurd (of_decide_eq_false h) (by first | assumption | omega)⟩
  | refine ⟨fun h => absurd (of_decide_eq_true h) (by first | assumption | omega), fun _ => ?_⟩
  | refine ⟨fun _ => ?_, fun h => absurd h (by first | (simp [bneg]; done) | (simp [bneg]; omega))⟩
  | refine ⟨fun h => absurd h (by first | (simp [bneg]; done) | (simp [bneg]; omega)), fun _ => ?_⟩)
local macro_rules | `(tactic| walk_at "sd") => `(tactic| first
  | decide | omega | exact ⟨by first | decide | omega, by first | decide | omega⟩ | exact ⟨by decide, by decide, by decide⟩)
local macro_rules | `(tactic| walk_at "call") => `(tactic| first
  | refine de_len ‹Bl _› rfl ?_
  | refine de_tuple ‹Bl _› rfl ?_
  | refine de_list ‹Bl _› rfl ?_
  | refine de_isi_int ‹Bl _› rfl rfl ?_
  | refine de_isi_bool ‹Bl _› rfl rfl ?_
  | refine de_isi_tuple ‹Bl _› rfl rfl ?_
  | refine de_isi_str ‹Bl _› rfl rfl ?_
  | refine de_min2 ‹Bl _› rfl rfl ?_
  | refine de_max2 ‹Bl _› rfl rfl ?_
  | refine de_minL ‹Bl _› rfl rfl ?_
  | refine de_maxL ‹Bl _› rfl rfl ?_
  | refine de_abs ‹Bl _› rfl ?_
  | refine de_all ‹Bl _› rfl rfl ?_
  | refine de_any ‹Bl _› rfl rfl ?_
  | refine de_call ‹Knows _ _ _ _ _ _ _ _› ‹Room _ _› rfl ?_)
local macro_rules | `(tactic| walk_at "de") => `(tactic| first
  | ((with_reducible show De _ _ _ (.Name _ _) _); walk_at "nm")
  | ((with_reducible show De _ _ _ (.Constant _ _ _) _); with_reducible first | refine de_int ?_ | refine de_bool ?_ | refine de_none ?_ | refine de_str ?_)
  | ((with_reducible show De _ _ _ (.BinOp _ _ _ _) _); with_reducible first | refine de_plus ?_ | refine de_sub ?_ | refine de_times ?_ | refine de_mod ?_ | refine de_fdiv ?_ | refine de_pow ?_)
  | ((with_reducible show De _ _ _ (.Compare _ [_] _ _) _); first
      | with_reducible refine de_lt ?_ | with_reducible refine de_le ?_ | with_reducible refine de_gt ?_ | with_reducible refine de_ge ?_
      | with_reducible refine de_is ?_ | with_reducible refine de_isnot ?_ | refine de_eq (Room.units ‹Room _ _›) ?_ | refine de_ne (Room.units ‹Room _ _›) ?_ | refine de_in (Room.units65 ‹Room _ _›) ?_ | refine de_notin (Room.units65 ‹Room _ _›) ?_)
  | ((with_reducible show De _ _ _ (.Compare _ _ _ _) _); refine de_chain_le ?_)
  | ((with_reducible show De _ _ _ (.BoolOp _ _ _) _); with_reducible first | refine de_one ?_ | refine de_and ?_ | refine de_or ?_)
  | ((with_reducible show De _ _ _ (.UnaryOp _ _ _) _); with_reducible first | refine de_not ?_ | refine de_neg ?_)
  | ((with_reducible show De _ _ _ (.Call (.Name _ _) _ _ _) _); walk_at "call")
  | ((with_reducible show De _ _ _ (.Subscript _ (.Slice _ _ none _) _) _); with_reducible refine de_slice ?_)
  | ((with_reducible show De _ _ _ (.Subscript _ (.Slice _ _ (some _) _) _) _); refine de_revT ?_)
  | ((with_reducible show De _ _ _ (.Subscript _ _ _) _); refine de_ix ?_)
  | ((with_reducible show De _ _ _ (.IfExp _ _ _ _) _); with_reducible refine de_ifexp ?_)
  | ((with_reducible show De _ _ _ (.Tuple _ _ _) _); with_reducible refine de_tup ?_)
  | ((with_reducible show De _ _ _ (.List _ _) _); with_reducible refine de_lst ?_))
local macro_rules | `(tactic| walk_at "dt") => `(tactic| first
  | ((with_reducible show Dt _ _ _ (.BoolOp _ _ _) _); with_reducible refine dt_bool ?_)
  | ((with_reducible show Dw _ _ _ _ _); with_reducible first | refine dw_and ?_ | refine dw_and1 ?_ | refine dw_or ?_ | refine dw_or1 ?_)
  | ((with_reducible show Dt _ _ _ (.UnaryOp _ _ _) _); with_reducible refine dt_not ?_)
  | ((with_reducible show Dt _ _ _ (.Compare _ [_] _ _) _); first
      | with_reducible refine dt_lt ?_ | with_reducible refine dt_le ?_ | with_reducible refine dt_gt ?_ | with_reducible refine dt_ge ?_
      | with_reducible refine dt_is ?_ | with_reducible refine dt_isnot ?_ | refine dt_eq (Room.units ‹Room _ _›) ?_ | refine dt_ne (Room.units ‹Room _ _›) ?_ | refine dt_in (Room.units65 ‹Room _ _›) ?_ | refine dt_notin (Room.units65 ‹Room _ _›) ?_)
  | ((with_reducible show Dt _ _ _ (.Compare _ _ _ _) _); refine dt_chain_le ?_)
  | refine dt_val ?_)
local macro_rules | `(tactic| walk_at "ds") => `(tactic| first
  | ((with_reducible show Ds _ _ _ (.Return (some _) _) _); with_reducible refine ds_ret ?_)
  | ((with_reducible show Ds _ _ _ (.Assign [.Name _ _] _ _) _); walk_at "st")
  | ((with_reducible show Ds _ _ _ (.If _ _ _ _) _); with_reducible refine ds_if ?_)
  | ((with_reducible show Ds _ _ _ (.Expr _ _) _); refine ds_expr ?_)
  | with_reducible refine ds_retN ?_
  | with_reducible refine ds_pass ?_)
local macro_rules | `(tactic| walk_at "db") => `(tactic| first | refine db_one ?_ | refine db_cons ?_ | refine db_nil ?_)
local macro_rules | `(tactic| walk_at "ex") => `(tactic| first
  | ((with_reducible show PlusD _ _ _ _ _); with_reducible refine plus_int ?_)
  | ((with_reducible show TimesD _ _ _ _ _); with_reducible refine times_int (by first | decide | omega) ?_)
  | ((with_reducible show EqD _ _ _ _ _ _); with_reducible refine eq_int ?_)
  | ((with_reducible show IsD _ _ _ _ _ _); with_reducible first | refine is_none ?_ | refine is_bool ?_)
  | ((with_reducible show LenD _ _ _ _); first | refine len_tup ?_ | refine len_lst rfl ?_)
  | ((with_reducible show TupD _ _ _ _); first | with_reducible refine tup_tup ?_ | refine tup_lst rfl ?_)
  | ((with_reducible show LstD _ _ _ _); refine lst_lst rfl ?_)
  | ((with_reducible show SlD _ _ _ _ _ _); first | refine sl_tup' ?_ | refine sl_lst rfl ?_)
  | ((with_reducible show IxD _ _ _ _ _); refine ix_tup' rfl ?_)
  | ((with_reducible show Do _ _ _ none _); refine (show _ from ?_)))
local macro_rules | `(tactic| walk_at "exq") => `(tactic| first
  | refine ⟨_, _, rfl, rfl, (And.left (b := True) ⟨by walk_at "sd", trivial⟩), ?_⟩
  | refine ⟨_, _, rfl, rfl, ?_⟩
  | refine ⟨_, rfl, (by exact Nat.le_of_ble_eq_true rfl), ?_⟩
  | refine ⟨_, rfl, ?_⟩)
/-- go on as far as it goes by itself -/
local macro_rules | `(tactic| walk_at "g1") => `(tactic| first
  | ((with_reducible show De _ _ _ _ _); walk_at "de")
  | ((with_reducible show Da _ _ _ _ _); first | with_reducible refine da_nil ?_ | refine da_cons ?_)
  | ((with_reducible show Do _ _ _ _ _); with_reducible first | refine do_none ?_ | refine do_some ?_)
  | ((with_reducible show Dt _ _ _ _ _); walk_at "dt")
  | ((with_reducible show Dw _ _ _ _ _); walk_at "dt")
  | ((with_reducible show Ds _ _ _ _ _); walk_at "ds")
  | ((with_reducible show Db _ _ _ _ _); walk_at "db")
  | ((with_reducible show (_ = true → _) ∧ (_ = false → _)); walk_at "bq")
  | ((with_reducible show Exists _); walk_at "exq")
  | walk_at "ex")
local macro_rules | `(tactic| walk_at "go") => `(tactic| repeat walk_at "g1")
/-- go on up to the next block -/
local macro_rules | `(tactic| walk_at "gb") => `(tactic| repeat ((fail_if_success (with_reducible show Db _ _ _ _ _)); walk_at "g1"))
/-- go on up to a call of min or max, or the next block -/
local macro_rules | `(tactic| walk_at "gm") => `(tactic| repeat ((fail_if_success (with_reducible show De _ _ _ (.Call (.Name "min" _) _ _ _) _)); (fail_if_success (with_reducible show De _ _ _ (.Call (.Name "max" _) _ _ _) _)); walk_at "g1"))

/-! ### channels as data -/
structure Chan where
  bars : List (List Int)
  legs : List Int
  waits : List Int
  deriving DecidableEq
def tI (xs : List Int) : PyData := .tuple (xs.map .int)
def chD (c : Chan) : PyData := .tuple [.tuple (c.bars.map tI), tI c.legs, tI c.waits]
structure ChOk (c : Chan) : Prop where
  b1 : 1 ≤ c.bars.length
  b3 : c.bars.length ≤ 3
  bl : ∀ b ∈ c.bars, 1 ≤ b.length ∧ b.length ≤ 8
  bv : ∀ b ∈ c.bars, ∀ x ∈ b, 0 ≤ x ∧ x ≤ 6
  ll : c.legs.length = c.bars.length - 1
  lv : ∀ x ∈ c.legs, 1 ≤ x ∧ x ≤ 9
  wl : c.waits.length = c.bars.length - 1
  wv : ∀ x ∈ c.waits, 0 ≤ x ∧ x ≤ 3
/-- tuples are short, some levels down -/
def Sm : Nat → PyData → Prop
  | n + 1, .tuple xs => xs.length ≤ 100000 ∧ ∀ x ∈ xs, Sm n x
  | 0, .tuple xs => xs.length ≤ 100000
  | _, _ => True
def isBetween : PyData → Int → Int → Bool
  | .int i, lo, hi => decide (lo ≤ i) && decide (i ≤ hi)
  | _, _, _ => false
def areBetween (d : PyData) (n lo hi : Int) : Bool := match d with
  | .tuple ds => decide ((ds.length : Int) = n) && ds.all (fun x => isBetween x lo hi)
  | _ => false
def isBar (d : PyData) : Bool := match d with
  | .tuple ds => decide (1 ≤ (ds.length : Int)) && decide ((ds.length : Int) ≤ 8) && areBetween d ds.length 0 6
  | _ => false
def isChannel (d : PyData) : Bool := match d with
  | .tuple [.tuple bs, legs, waits] => decide (1 ≤ (bs.length : Int)) && decide ((bs.length : Int) ≤ 3) && bs.all isBar && areBetween legs (bs.length - 1) 1 9 && areBetween waits (bs.length - 1) 0 3
  | _ => false
theorem areBetween_tI (xs : List Int) (n lo hi : Int) (hn : (xs.length : Int) = n) (h : ∀ x ∈ xs, lo ≤ x ∧ x ≤ hi) : areBetween (tI xs) n lo hi = true := by
  unfold tI areBetween
  simp only [List.length_map]
  rw [decide_eq_true hn, Bool.true_and, List.all_eq_true]
  intro d hd
  obtain ⟨x, hx, rfl⟩ := List.mem_map.mp hd
  have := h x hx
  simp [isBetween, this.1, this.2]
theorem isChannel_ok {c : Chan} (h : ChOk c) : isChannel (chD c) = true := by
  have e1 : areBetween (tI c.legs) ((c.bars.map tI).length - 1) 1 9 = true := areBetween_tI _ _ _ _ (by rw [List.length_map, h.ll]; have := h.b1; omega) h.lv
  have e2 : areBetween (tI c.waits) ((c.bars.map tI).length - 1) 0 3 = true := areBetween_tI _ _ _ _ (by rw [List.length_map, h.wl]; have := h.b1; omega) h.wv
  have e3 : (c.bars.map tI).all isBar = true := by
    rw [List.all_eq_true]
    intro d hd
    obtain ⟨b, hb, rfl⟩ := List.mem_map.mp hd
    have e := areBetween_tI b b.length 0 6 rfl (h.bv b hb)
    have hl := h.bl b hb
    have e' : areBetween (.tuple (b.map .int)) ((b.map PyData.int).length : Nat) 0 6 = true := by
      rw [List.length_map]
      exact e
    show (decide (1 ≤ ((b.map PyData.int).length : Int)) && decide (((b.map PyData.int).length : Int) ≤ 8) && areBetween (.tuple (b.map .int)) ((b.map PyData.int).length : Nat) 0 6) = true
    rw [e', List.length_map, decide_eq_true (by omega), decide_eq_true (by omega)]
    rfl
  show (decide (1 ≤ ((c.bars.map tI).length : Int)) && decide (((c.bars.map tI).length : Int) ≤ 3) && (c.bars.map tI).all isBar && areBetween (tI c.legs) ((c.bars.map tI).length - 1) 1 9 && areBetween (tI c.waits) ((c.bars.map tI).length - 1) 0 3) = true
  rw [e1, e2, e3, List.length_map, decide_eq_true (by have := h.b1; omega), decide_eq_true (by have := h.b3; omega)]
  rfl
theorem sm_tI {n : Nat} (xs : List Int) (h : xs.length ≤ 100000) : Sm n (tI xs) := by
  cases n with
  | zero => show (xs.map PyData.int).length ≤ 100000; rw [List.length_map]; exact h
  | succ n =>
    refine ⟨by rw [List.length_map]; exact h, fun x hx => ?_⟩
    obtain ⟨y, _, rfl⟩ := List.mem_map.mp hx
    cases n <;> trivial
theorem sm_chD {c : Chan} (h : ChOk c) : Sm 3 (chD c) := by
  refine ⟨Nat.le_of_ble_eq_true rfl, fun x hx => ?_⟩
  simp only [List.mem_cons, List.not_mem_nil, or_false] at hx
  have := h.b3
  rcases hx with rfl | rfl | rfl
  · refine ⟨by rw [List.length_map]; omega, fun y hy => ?_⟩
    obtain ⟨b, hb, rfl⟩ := List.mem_map.mp hy
    exact sm_tI b (by have := h.bl b hb; omega)
  · exact sm_tI _ (by have := h.ll; omega)
  · exact sm_tI _ (by have := h.wl; omega)
/-! what the defs give -/
def periodOf (c : Chan) : Nat := c.bars.foldl (fun a b => Nat.lcm a b.length) 1
def barAt (c : Chan) (j : Nat) : List Int := c.bars.getD j []
def depthOf (c : Chan) (j : Nat) (h : Int) : Int := (barAt c j).getD (h % ((barAt c j).length : Int)).toNat 0
def backOf (c : Chan) : Chan := ⟨c.bars.reverse, c.legs.reverse, c.waits.reverse⟩
def shiftBar (hours : Int) (b : List Int) : List Int := (List.range b.length).map fun (h : Nat) => b.getD (((h : Int) - hours) % (b.length : Int)).toNat 0
def shifted (c : Chan) (hours : Int) : Chan := ⟨c.bars.map (shiftBar hours), c.legs, c.waits⟩
theorem ChOk.back {c : Chan} (h : ChOk c) : ChOk (backOf c) := ⟨by simpa [backOf] using h.b1, by simpa [backOf] using h.b3, by simpa [backOf] using h.bl, by simpa [backOf] using h.bv, by simpa [backOf] using h.ll, by simpa [backOf] using h.lv, by simpa [backOf] using h.wl, by simpa [backOf] using h.wv⟩
theorem getD_mem {xs : List Int} {i : Nat} (h : i < xs.length) : xs.getD i 0 ∈ xs := by
  rw [List.getD_eq_getElem?_getD, List.getElem?_eq_getElem h]
  exact List.getElem_mem h
theorem mod_lt_len {b : List Int} (h : 1 ≤ b.length) (x : Int) : (x % (b.length : Int)).toNat < b.length := by
  have := Int.emod_nonneg x (show (b.length : Int) ≠ 0 by omega)
  have := Int.emod_lt_of_pos x (show (0 : Int) < b.length by omega)
  omega
theorem ChOk.shift {c : Chan} (h : ChOk c) (hours : Int) : ChOk (shifted c hours) := by
  refine ⟨by simpa [shifted] using h.b1, by simpa [shifted] using h.b3, ?_, ?_, by simpa [shifted] using h.ll, h.lv, by simpa [shifted] using h.wl, h.wv⟩
  · intro b hb
    obtain ⟨b', hb', rfl⟩ := List.mem_map.mp hb
    simpa [shiftBar] using h.bl b' hb'
  · intro b hb x hx
    obtain ⟨b', hb', rfl⟩ := List.mem_map.mp hb
    obtain ⟨i, hi, rfl⟩ := List.mem_map.mp hx
    exact h.bv b' hb' _ (getD_mem (mod_lt_len (h.bl b' hb').1 _))
theorem barAt_mem {c : Chan} {j : Nat} (hj : j < c.bars.length) : barAt c j ∈ c.bars := by
  unfold barAt
  rw [List.getD_eq_getElem?_getD, List.getElem?_eq_getElem hj]
  exact List.getElem_mem hj
theorem atI_bar {c : Chan} {j : Nat} (hj : j < c.bars.length) : atI (c.bars.map tI) (j : Int) = some (tI (barAt c j)) := by
  refine atI_nat ?_
  rw [List.getElem?_map, List.getElem?_eq_getElem hj]
  unfold barAt
  rw [List.getD_eq_getElem?_getD, List.getElem?_eq_getElem hj]
  rfl
theorem atI_int {xs : List Int} {i : Int} (h0 : 0 ≤ i) (h1 : i < xs.length) : atI (xs.map PyData.int) i = some (.int (xs.getD i.toNat 0)) := by
  have e : i = (i.toNat : Int) := by omega
  rw [e]
  refine atI_nat ?_
  rw [List.getElem?_map, List.getElem?_eq_getElem (by omega), List.getD_eq_getElem?_getD, List.getElem?_eq_getElem (by omega)]
  rfl

/-! ### the defs of channels.py -/
section
variable {P : Program} {w : World} {K : PySem.W.Frag} {mg : Str → Option Value} {base : Heap}
def cBetween : Ctr := fun svs τ Q => ∃ d lo hi, svs = [.val d, .val (.int lo), .val (.int hi)] ∧ Q (.val (.bool (isBetween d lo hi))) τ
abbrev s_is_between : Stmt := topS 12
theorem sc_is_between : FnScope ["value", "low", "high"] ["value", "low", "high"] (defScope s_is_between) := ⟨rfl, rfl, rfl, by decide +kernel, rfl, by decide +kernel, by decide +kernel⟩
local macro_rules | `(tactic| walk_at "nm") => `(tactic| first
  | with_reducible refine de_name (x := "value") 0 (by with_unfolding_all rfl) (by with_unfolding_all first | exact Or.inl rfl | exact Or.inr (Or.inl rfl) | exact Or.inr (Or.inr rfl)) (by with_unfolding_all rfl) ?_ (by with_unfolding_all decide) (by with_unfolding_all decide)
  | with_reducible refine de_name (x := "low") 1 (by with_unfolding_all rfl) (by with_unfolding_all first | exact Or.inl rfl | exact Or.inr (Or.inl rfl) | exact Or.inr (Or.inr rfl)) (by with_unfolding_all rfl) ?_ (by with_unfolding_all decide) (by with_unfolding_all decide)
  | with_reducible refine de_name (x := "high") 2 (by with_unfolding_all rfl) (by with_unfolding_all first | exact Or.inl rfl | exact Or.inr (Or.inl rfl) | exact Or.inr (Or.inr rfl)) (by with_unfolding_all rfl) ?_ (by with_unfolding_all decide) (by with_unfolding_all decide))
local macro_rules | `(tactic| walk_at "st") => `(tactic| first
  | with_reducible refine ds_set (x := "value") 0 (by with_unfolding_all exact sc_is_between.nd) (by with_unfolding_all rfl) (by with_unfolding_all first | exact Or.inl rfl | exact Or.inr rfl) ?_ (by with_unfolding_all rfl) (by with_unfolding_all first | exact .inl rfl | exact .inr rfl)
  | with_reducible refine ds_set (x := "low") 1 (by with_unfolding_all exact sc_is_between.nd) (by with_unfolding_all rfl) (by with_unfolding_all first | exact Or.inl rfl | exact Or.inr rfl) ?_ (by with_unfolding_all rfl) (by with_unfolding_all first | exact .inl rfl | exact .inr rfl)
  | with_reducible refine ds_set (x := "high") 2 (by with_unfolding_all exact sc_is_between.nd) (by with_unfolding_all rfl) (by with_unfolding_all first | exact Or.inl rfl | exact Or.inr rfl) ?_ (by with_unfolding_all rfl) (by with_unfolding_all first | exact .inl rfl | exact .inr rfl))



theorem kn_is_between (D : HasDef K mg "is_between" s_is_between ["value", "low", "high"]) (B : Bl mg) : Knows P w K mg base 1 "is_between" cBetween := by
  refine knows_mk D sc_is_between (fun _ _ _ ⟨_, _, _, e, _⟩ => by rw [e]; rfl) (fun f cdv A outer s H E hr svs τ Q hC => ?_)
  obtain ⟨d, lo, hi, rfl, q⟩ := hC
  cases d
  case int i =>
    walk_at "go"
    refine ⟨fun h => ?_, fun h => ?_⟩
    · walk_at "go"
      simpa [isBetween, h] using q
    · simpa [isBetween, h] using q
  all_goals (walk_at "go"; exact q)
def cAre : Ctr := fun svs τ Q => ∃ d n lo hi, svs = [.val d, .val (.int n), .val (.int lo), .val (.int hi)] ∧ Sm 0 d ∧ Q (.val (.bool (areBetween d n lo hi))) τ
abbrev s_are_between : Stmt := topS 13
theorem sc_are_between : FnScope ["value", "size", "low", "high", "one"] ["value", "size", "low", "high"] (defScope s_are_between) := ⟨rfl, rfl, rfl, by decide +kernel, rfl, by decide +kernel, by decide +kernel⟩
local macro_rules | `(tactic| walk_at "nm") => `(tactic| first
  | with_reducible refine de_name (x := "value") 0 (by with_unfolding_all rfl) (by with_unfolding_all first | exact Or.inl rfl | exact Or.inr (Or.inl rfl) | exact Or.inr (Or.inr rfl)) (by with_unfolding_all rfl) ?_ (by with_unfolding_all decide) (by with_unfolding_all decide)
  | with_reducible refine de_name (x := "size") 1 (by with_unfolding_all rfl) (by with_unfolding_all first | exact Or.inl rfl | exact Or.inr (Or.inl rfl) | exact Or.inr (Or.inr rfl)) (by with_unfolding_all rfl) ?_ (by with_unfolding_all decide) (by with_unfolding_all decide)
  | with_reducible refine de_name (x := "low") 2 (by with_unfolding_all rfl) (by with_unfolding_all first | exact Or.inl rfl | exact Or.inr (Or.inl rfl) | exact Or.inr (Or.inr rfl)) (by with_unfolding_all rfl) ?_ (by with_unfolding_all decide) (by with_unfolding_all decide)
  | with_reducible refine de_name (x := "high") 3 (by with_unfolding_all rfl) (by with_unfolding_all first | exact Or.inl rfl | exact Or.inr (Or.inl rfl) | exact Or.inr (Or.inr rfl)) (by with_unfolding_all rfl) ?_ (by with_unfolding_all decide) (by with_unfolding_all decide)
  | with_reducible refine de_name (x := "one") 4 (by with_unfolding_all rfl) (by with_unfolding_all first | exact Or.inl rfl | exact Or.inr (Or.inl rfl) | exact Or.inr (Or.inr rfl)) (by with_unfolding_all rfl) ?_ (by with_unfolding_all decide) (by with_unfolding_all decide))
local macro_rules | `(tactic| walk_at "st") => `(tactic| first
  | with_reducible refine ds_set (x := "value") 0 (by with_unfolding_all exact sc_are_between.nd) (by with_unfolding_all rfl) (by with_unfolding_all first | exact Or.inl rfl | exact Or.inr rfl) ?_ (by with_unfolding_all rfl) (by with_unfolding_all first | exact .inl rfl | exact .inr rfl)
  | with_reducible refine ds_set (x := "size") 1 (by with_unfolding_all exact sc_are_between.nd) (by with_unfolding_all rfl) (by with_unfolding_all first | exact Or.inl rfl | exact Or.inr rfl) ?_ (by with_unfolding_all rfl) (by with_unfolding_all first | exact .inl rfl | exact .inr rfl)
  | with_reducible refine ds_set (x := "low") 2 (by with_unfolding_all exact sc_are_between.nd) (by with_unfolding_all rfl) (by with_unfolding_all first | exact Or.inl rfl | exact Or.inr rfl) ?_ (by with_unfolding_all rfl) (by with_unfolding_all first | exact .inl rfl | exact .inr rfl)
  | with_reducible refine ds_set (x := "high") 3 (by with_unfolding_all exact sc_are_between.nd) (by with_unfolding_all rfl) (by with_unfolding_all first | exact Or.inl rfl | exact Or.inr rfl) ?_ (by with_unfolding_all rfl) (by with_unfolding_all first | exact .inl rfl | exact .inr rfl)
  | with_reducible refine ds_set (x := "one") 4 (by with_unfolding_all exact sc_are_between.nd) (by with_unfolding_all rfl) (by with_unfolding_all first | exact Or.inl rfl | exact Or.inr rfl) ?_ (by with_unfolding_all rfl) (by with_unfolding_all first | exact .inl rfl | exact .inr rfl))

local macro_rules | `(tactic| walk_at "lc one") => `(tactic| refine de_lc (t := .name 4) (own := [("one", 4)]) rfl sc_are_between.nd (by first | exact blkOk_by (N := ["value", "size", "low", "high", "one"]) (sc := defScope s_are_between) (by decide +kernel) | exact blkOk_by (N := ["value", "size", "low", "high", "one"]) (sc := relS _ (defScope s_are_between)) (by decide +kernel)) (by decide) (fun _ _ _ _ _ => pgx_name sc_are_between.nd rfl (by first | exact Or.inl rfl | exact Or.inr rfl)) ?_)

theorem kn_are_between (D : HasDef K mg "are_between" s_are_between ["value", "size", "low", "high"]) (B : Bl mg) (k1 : Knows P w K mg base 1 "is_between" cBetween) : Knows P w K mg base 2 "are_between" cAre := by
  refine knows_mk D sc_are_between (fun _ _ _ ⟨_, _, _, _, e, _⟩ => by rw [e]; rfl) (fun f cdv A outer s H E hr svs τ Q hC => ?_)
  obtain ⟨d, n, lo, hi, rfl, hs, q⟩ := hC
  cases d
  case tuple ds =>
    have hs : ds.length ≤ 100000 := hs
    walk_at "go"
    refine ⟨fun h => ?_, fun h => ?_⟩
    · walk_at "go"
      walk_at "lc one"
      refine di_tup ?_
      walk_at "go"
      refine lcq_map ds id (fun x => .bool (isBetween x lo hi)) (List.map_id ds).symm (by omega) (fun x hx => ⟨_, rfl, fun D acc hD s H C cl fp => ?_⟩) ?_
      · walk_at "go"
        exact ⟨_, _, _, rfl, rfl, rfl⟩
      · refine ⟨ds.map fun x => isBetween x lo hi, ?_, ?_⟩
        · show some _ = some _
          rw [List.map_map]
          rfl
        · have e : areBetween (.tuple ds) n lo hi = (ds.map fun x => isBetween x lo hi).all id := by
            unfold areBetween
            simp only
            have h' : decide ((ds.length : Int) = n) = true := h
            rw [h', List.all_map]
            rfl
          rw [← e]
          exact q
    · have h' : decide ((ds.length : Int) = n) = false := h
      have e : areBetween (.tuple ds) n lo hi = false := by
        unfold areBetween
        simp only
        rw [h']
        rfl
      rw [e] at q
      exact q
  all_goals (walk_at "go"; exact q)

def cIsCh : Ctr := fun svs τ Q => ∃ d, svs = [.val d] ∧ Sm 3 d ∧ Q (.val (.bool (isChannel d))) τ
abbrev s_is_channel : Stmt := topS 14
theorem sc_is_channel : FnScope ["value", "bars", "legs", "waits", "bar"] ["value"] (defScope s_is_channel) := ⟨rfl, rfl, rfl, by decide +kernel, rfl, by decide +kernel, by decide +kernel⟩
local macro_rules | `(tactic| walk_at "nm") => `(tactic| first
  | with_reducible refine de_name (x := "value") 0 (by with_unfolding_all rfl) (by with_unfolding_all first | exact Or.inl rfl | exact Or.inr (Or.inl rfl) | exact Or.inr (Or.inr rfl)) (by with_unfolding_all rfl) ?_ (by with_unfolding_all decide) (by with_unfolding_all decide)
  | with_reducible refine de_name (x := "bars") 1 (by with_unfolding_all rfl) (by with_unfolding_all first | exact Or.inl rfl | exact Or.inr (Or.inl rfl) | exact Or.inr (Or.inr rfl)) (by with_unfolding_all rfl) ?_ (by with_unfolding_all decide) (by with_unfolding_all decide)
  | with_reducible refine de_name (x := "legs") 2 (by with_unfolding_all rfl) (by with_unfolding_all first | exact Or.inl rfl | exact Or.inr (Or.inl rfl) | exact Or.inr (Or.inr rfl)) (by with_unfolding_all rfl) ?_ (by with_unfolding_all decide) (by with_unfolding_all decide)
  | with_reducible refine de_name (x := "waits") 3 (by with_unfolding_all rfl) (by with_unfolding_all first | exact Or.inl rfl | exact Or.inr (Or.inl rfl) | exact Or.inr (Or.inr rfl)) (by with_unfolding_all rfl) ?_ (by with_unfolding_all decide) (by with_unfolding_all decide)
  | with_reducible refine de_name (x := "bar") 4 (by with_unfolding_all rfl) (by with_unfolding_all first | exact Or.inl rfl | exact Or.inr (Or.inl rfl) | exact Or.inr (Or.inr rfl)) (by with_unfolding_all rfl) ?_ (by with_unfolding_all decide) (by with_unfolding_all decide))
local macro_rules | `(tactic| walk_at "st") => `(tactic| first
  | with_reducible refine ds_set (x := "value") 0 (by with_unfolding_all exact sc_is_channel.nd) (by with_unfolding_all rfl) (by with_unfolding_all first | exact Or.inl rfl | exact Or.inr rfl) ?_ (by with_unfolding_all rfl) (by with_unfolding_all first | exact .inl rfl | exact .inr rfl)
  | with_reducible refine ds_set (x := "bars") 1 (by with_unfolding_all exact sc_is_channel.nd) (by with_unfolding_all rfl) (by with_unfolding_all first | exact Or.inl rfl | exact Or.inr rfl) ?_ (by with_unfolding_all rfl) (by with_unfolding_all first | exact .inl rfl | exact .inr rfl)
  | with_reducible refine ds_set (x := "legs") 2 (by with_unfolding_all exact sc_is_channel.nd) (by with_unfolding_all rfl) (by with_unfolding_all first | exact Or.inl rfl | exact Or.inr rfl) ?_ (by with_unfolding_all rfl) (by with_unfolding_all first | exact .inl rfl | exact .inr rfl)
  | with_reducible refine ds_set (x := "waits") 3 (by with_unfolding_all exact sc_is_channel.nd) (by with_unfolding_all rfl) (by with_unfolding_all first | exact Or.inl rfl | exact Or.inr rfl) ?_ (by with_unfolding_all rfl) (by with_unfolding_all first | exact .inl rfl | exact .inr rfl)
  | with_reducible refine ds_set (x := "bar") 4 (by with_unfolding_all exact sc_is_channel.nd) (by with_unfolding_all rfl) (by with_unfolding_all first | exact Or.inl rfl | exact Or.inr rfl) ?_ (by with_unfolding_all rfl) (by with_unfolding_all first | exact .inl rfl | exact .inr rfl))



theorem isChannel_no {ds : List PyData} (h : (ds.length : Int) ≠ 3) : isChannel (.tuple ds) = false := by
  unfold isChannel
  split
  · rename_i heq
    cases heq
    exact absurd rfl h
  · rfl
theorem isBar_no {d : PyData} (h : ∀ ds, d ≠ .tuple ds) : isBar d = false := by
  cases d <;> first | rfl | exact absurd rfl (h _)
theorem all_take {α : Type} {p : α → Bool} {xs : List α} {i : Nat} {x : α} (h : xs[i]? = some x) : (xs.take (i + 1)).all p = ((xs.take i).all p && p x) := by
  rw [List.take_add_one, h, List.all_append]
  simp
theorem all_false {α : Type} {p : α → Bool} {xs : List α} {i : Nat} {x : α} (h : xs[i]? = some x) (hp : p x = false) : xs.all p = false := by
  cases e : xs.all p with
  | false => rfl
  | true =>
    rw [List.all_eq_true] at e
    rw [e x (List.mem_of_getElem? h)] at hp
    cases hp
theorem kn_is_channel (D : HasDef K mg "is_channel" s_is_channel ["value"]) (B : Bl mg) (k2 : Knows P w K mg base 2 "are_between" cAre) : Knows P w K mg base 3 "is_channel" cIsCh := by
  refine knows_mk D sc_is_channel (fun _ _ _ ⟨_, e, _⟩ => by rw [e]; rfl) (fun f cdv A outer s H E hr svs τ Q hC => ?_)
  obtain ⟨d, rfl, hs, q⟩ := hC
  cases d
  case tuple ds =>
    walk_at "go"
    refine ⟨fun h => ?_, fun h => ?_⟩
    · have h' : (ds.length : Int) ≠ 3 := by simpa [bneg] using h
      rw [isChannel_no h'] at q
      walk_at "go"
      exact q
    · have h' : (ds.length : Int) = 3 := by simpa [bneg] using h
      match ds, h', hs, q with
      | [bars, legs, waits], _, hs, q =>
      walk_at "go"
      refine ds_asg (t := .tup [1, 2, 3]) (pgx_tup3 rfl (pg_name sc_is_channel.nd rfl (Or.inl rfl)) (pg_name sc_is_channel.nd rfl (Or.inl rfl)) (pg_name sc_is_channel.nd rfl (Or.inl rfl))) ?_
      walk_at "go"
      have hm : ∀ x ∈ [bars, legs, waits], Sm 2 x := hs.2
      have sb : Sm 2 bars := hm _ (by simp)
      have sl : Sm 2 legs := hm _ (by simp)
      have sw : Sm 2 waits := hm _ (by simp)
      have sl0 : Sm 0 legs := by cases legs <;> first | exact sl.1 | trivial
      have sw0 : Sm 0 waits := by cases waits <;> first | exact sw.1 | trivial
      cases bars with
      | tuple bs =>
        walk_at "go"
        have sb' : bs.length ≤ 100000 ∧ ∀ x ∈ bs, Sm 1 x := sb
        have out : ∀ {k : Bool}, isChannel (.tuple [.tuple bs, legs, waits]) = k → Q (.val (.bool k)) τ := fun e => by rw [← e]; exact q
        have eq : isChannel (.tuple [.tuple bs, legs, waits]) = (decide (1 ≤ (bs.length : Int)) && decide ((bs.length : Int) ≤ 3) && bs.all isBar && areBetween legs (bs.length - 1) 1 9 && areBetween waits (bs.length - 1) 0 3) := rfl
        refine ⟨fun h1 => ?_, fun h1 => ?_⟩
        · walk_at "go"
          refine ⟨fun h2 => ?_, fun h2 => ?_⟩
          · walk_at "go"
            refine out ?_
            rw [eq]
            have h2 : decide ((bs.length : Int) ≤ 3) = false := by simpa using h2
            rw [h2]
            simp
          · have h2 : decide ((bs.length : Int) ≤ 3) = true := by simpa using h2
            walk_at "go"
            refine ds_for (t := .name 4) rfl PassesOwn.never (pgx_name sc_is_channel.nd rfl (Or.inl rfl)) (di_tup ?_)
            walk_at "go"
            refine ⟨fun i ρ' τ' => τ' = τ ∧ (bs.take i).all isBar = true ∧ ∃ v, ρ' = [some (.val (.tuple [.tuple bs, legs, waits])), some (.val (.tuple bs)), some (.val legs), some (.val waits), v], ⟨rfl, rfl, none, rfl⟩, fun _ _ _ _ => trivial, ?_, ?_⟩
            · rintro i d ρ' τ' hd ⟨rfl, ha, v, rfl⟩
              refine ⟨_, rfl, ?_⟩
              have sd := sb'.2 d (List.mem_of_getElem? hd)
              have bad : isBar d = false → Q (.val (.bool false)) τ' := fun e => out (by rw [eq, all_false hd e]; simp)
              have good : isBar d = true → (bs.take (i + 1)).all isBar = true := fun e => by rw [all_take hd, ha, e]; rfl
              cases d with
              | tuple xs =>
                have eb : isBar (.tuple xs) = (decide (1 ≤ (xs.length : Int)) && decide ((xs.length : Int) ≤ 8) && areBetween (.tuple xs) xs.length 0 6) := rfl
                walk_at "go"
                refine ⟨fun h3 => ?_, fun h3 => ?_⟩
                · walk_at "go"
                  refine ⟨fun h4 => ?_, fun h4 => ?_⟩
                  · have h4 : decide ((xs.length : Int) ≤ 8) = false := by simpa using h4
                    walk_at "go"
                    exact bad (by rw [eb, h4]; simp)
                  · have h4 : decide ((xs.length : Int) ≤ 8) = true := by simpa using h4
                    walk_at "go"
                    refine ⟨_, _, _, _, rfl, sd.1, _, rfl, ?_⟩
                    refine ⟨fun h5 => ?_, fun h5 => ?_⟩
                    · have h5 : areBetween (.tuple xs) xs.length 0 6 = false := by simpa using h5
                      walk_at "go"
                      exact bad (by rw [eb, h5]; simp)
                    · have h5 : areBetween (.tuple xs) xs.length 0 6 = true := by simpa using h5
                      have h3' : decide (1 ≤ (xs.length : Int)) = true := h3
                      walk_at "go"
                      exact ⟨rfl, good (by rw [eb, h5, h4, h3']; rfl), _, rfl⟩
                · have h3' : decide (1 ≤ (xs.length : Int)) = false := h3
                  walk_at "go"
                  exact bad (by rw [eb, h3']; rfl)
              | _ => (walk_at "go"; exact bad rfl)
            · rintro ρ' τ' ⟨rfl, ha, v, rfl⟩
              rw [List.take_length] at ha
              have h1' : decide (1 ≤ (bs.length : Int)) = true := h1
              have eq2 : isChannel (.tuple [.tuple bs, legs, waits]) = (areBetween legs (bs.length - 1) 1 9 && areBetween waits (bs.length - 1) 0 3) := by
                rw [eq, ha, h2, h1']
                rfl
              walk_at "go"
              refine ⟨_, _, _, _, rfl, sl0, _, rfl, fun h3 => ?_, fun h3 => ?_⟩
              · walk_at "go"
                refine ⟨_, _, _, _, rfl, sw0, out ?_⟩
                rw [eq2, h3]
                rfl
              · refine out ?_
                rw [eq2, h3]
                rfl
        · walk_at "go"
          refine out ?_
          have h1' : decide (1 ≤ (bs.length : Int)) = false := h1
          rw [eq, h1']
          rfl
      | _ => (walk_at "go"; exact q)
  all_goals (walk_at "go"; exact q)
end

section
variable {P : Program} {w : World} {K : PySem.W.Frag} {mg : Str → Option Value} {base : Heap}
def cChk : Ctr := fun svs τ Q => ∃ c, svs = [.val (chD c)] ∧ ChOk c ∧ Q (.val .none) τ
abbrev s_check_channel : Stmt := topS 15
theorem sc_check_channel : FnScope ["value"] ["value"] (defScope s_check_channel) := ⟨rfl, rfl, rfl, by decide +kernel, rfl, by decide +kernel, by decide +kernel⟩
local macro_rules | `(tactic| walk_at "nm") => `(tactic| first
  | with_reducible refine de_name (x := "value") 0 (by with_unfolding_all rfl) (by with_unfolding_all first | exact Or.inl rfl | exact Or.inr (Or.inl rfl) | exact Or.inr (Or.inr rfl)) (by with_unfolding_all rfl) ?_ (by with_unfolding_all decide) (by with_unfolding_all decide))
local macro_rules | `(tactic| walk_at "st") => `(tactic| first
  | with_reducible refine ds_set (x := "value") 0 (by with_unfolding_all exact sc_check_channel.nd) (by with_unfolding_all rfl) (by with_unfolding_all first | exact Or.inl rfl | exact Or.inr rfl) ?_ (by with_unfolding_all rfl) (by with_unfolding_all first | exact .inl rfl | exact .inr rfl))



theorem kn_check_channel (D : HasDef K mg "check_channel" s_check_channel ["value"]) (k3 : Knows P w K mg base 3 "is_channel" cIsCh) : Knows P w K mg base 4 "check_channel" cChk := by
  refine knows_mk D sc_check_channel (fun _ _ _ ⟨_, e, _⟩ => by rw [e]; rfl) (fun f cdv A outer s H E hr svs τ Q hC => ?_)
  obtain ⟨c, rfl, hc, q⟩ := hC
  walk_at "go"
  refine ⟨_, rfl, sm_chD hc, true, by rw [isChannel_ok hc], ?_⟩
  walk_at "go"
  exact q
def cChkI (lo hi : Int) : Ctr := fun svs τ Q => ∃ i, svs = [.val (.int i)] ∧ lo ≤ i ∧ i ≤ hi ∧ Q (.val .none) τ
theorem between_ok {i lo hi : Int} (h1 : lo ≤ i) (h2 : i ≤ hi) : isBetween (.int i) lo hi = true := by simp [isBetween, h1, h2]
end

section
variable {P : Program} {w : World} {K : PySem.W.Frag} {mg : Str → Option Value} {base : Heap}
abbrev s_check_hour : Stmt := topS 17
theorem sc_check_hour : FnScope ["value"] ["value"] (defScope s_check_hour) := ⟨rfl, rfl, rfl, by decide +kernel, rfl, by decide +kernel, by decide +kernel⟩
local macro_rules | `(tactic| walk_at "nm") => `(tactic| first
  | with_reducible refine de_name (x := "value") 0 (by with_unfolding_all rfl) (by with_unfolding_all first | exact Or.inl rfl | exact Or.inr (Or.inl rfl) | exact Or.inr (Or.inr rfl)) (by with_unfolding_all rfl) ?_ (by with_unfolding_all decide) (by with_unfolding_all decide))
local macro_rules | `(tactic| walk_at "st") => `(tactic| first
  | with_reducible refine ds_set (x := "value") 0 (by with_unfolding_all exact sc_check_hour.nd) (by with_unfolding_all rfl) (by with_unfolding_all first | exact Or.inl rfl | exact Or.inr rfl) ?_ (by with_unfolding_all rfl) (by with_unfolding_all first | exact .inl rfl | exact .inr rfl))



theorem kn_check_hour (D : HasDef K mg "check_hour" s_check_hour ["value"]) (k1 : Knows P w K mg base 1 "is_between" cBetween) : Knows P w K mg base 2 "check_hour" (cChkI 0 999) := by
  refine knows_mk D sc_check_hour (fun _ _ _ ⟨_, e, _⟩ => by rw [e]; rfl) (fun f cdv A outer s H E hr svs τ Q hC => ?_)
  obtain ⟨i, rfl, h1, h2, q⟩ := hC
  walk_at "go"
  refine ⟨_, _, _, rfl, true, by rw [between_ok h1 h2], ?_⟩
  walk_at "go"
  exact q
end

section
variable {P : Program} {w : World} {K : PySem.W.Frag} {mg : Str → Option Value} {base : Heap}
abbrev s_check_draught : Stmt := topS 16
theorem sc_check_draught : FnScope ["value"] ["value"] (defScope s_check_draught) := ⟨rfl, rfl, rfl, by decide +kernel, rfl, by decide +kernel, by decide +kernel⟩
local macro_rules | `(tactic| walk_at "nm") => `(tactic| first
  | with_reducible refine de_name (x := "value") 0 (by with_unfolding_all rfl) (by with_unfolding_all first | exact Or.inl rfl | exact Or.inr (Or.inl rfl) | exact Or.inr (Or.inr rfl)) (by with_unfolding_all rfl) ?_ (by with_unfolding_all decide) (by with_unfolding_all decide))
local macro_rules | `(tactic| walk_at "st") => `(tactic| first
  | with_reducible refine ds_set (x := "value") 0 (by with_unfolding_all exact sc_check_draught.nd) (by with_unfolding_all rfl) (by with_unfolding_all first | exact Or.inl rfl | exact Or.inr rfl) ?_ (by with_unfolding_all rfl) (by with_unfolding_all first | exact .inl rfl | exact .inr rfl))



theorem kn_check_draught (D : HasDef K mg "check_draught" s_check_draught ["value"]) (k1 : Knows P w K mg base 1 "is_between" cBetween) : Knows P w K mg base 2 "check_draught" (cChkI 0 6) := by
  refine knows_mk D sc_check_draught (fun _ _ _ ⟨_, e, _⟩ => by rw [e]; rfl) (fun f cdv A outer s H E hr svs τ Q hC => ?_)
  obtain ⟨i, rfl, h1, h2, q⟩ := hC
  walk_at "go"
  refine ⟨_, _, _, rfl, true, by rw [between_ok h1 h2], ?_⟩
  walk_at "go"
  exact q
end

section
variable {P : Program} {w : World} {K : PySem.W.Frag} {mg : Str → Option Value} {base : Heap}
def cDiv : Ctr := fun svs τ Q => ∃ a b : Nat, svs = [.val (.int a), .val (.int b)] ∧ Q (.val (.int (Nat.gcd a b : Nat))) τ
abbrev s_divisor : Stmt := topS 18
theorem sc_divisor : FnScope ["one", "other"] ["one", "other"] (defScope s_divisor) := ⟨rfl, rfl, rfl, by decide +kernel, rfl, by decide +kernel, by decide +kernel⟩
local macro_rules | `(tactic| walk_at "nm") => `(tactic| first
  | with_reducible refine de_name (x := "one") 0 (by with_unfolding_all rfl) (by with_unfolding_all first | exact Or.inl rfl | exact Or.inr (Or.inl rfl) | exact Or.inr (Or.inr rfl)) (by with_unfolding_all rfl) ?_ (by with_unfolding_all decide) (by with_unfolding_all decide)
  | with_reducible refine de_name (x := "other") 1 (by with_unfolding_all rfl) (by with_unfolding_all first | exact Or.inl rfl | exact Or.inr (Or.inl rfl) | exact Or.inr (Or.inr rfl)) (by with_unfolding_all rfl) ?_ (by with_unfolding_all decide) (by with_unfolding_all decide))
local macro_rules | `(tactic| walk_at "st") => `(tactic| first
  | with_reducible refine ds_set (x := "one") 0 (by with_unfolding_all exact sc_divisor.nd) (by with_unfolding_all rfl) (by with_unfolding_all first | exact Or.inl rfl | exact Or.inr rfl) ?_ (by with_unfolding_all rfl) (by with_unfolding_all first | exact .inl rfl | exact .inr rfl)
  | with_reducible refine ds_set (x := "other") 1 (by with_unfolding_all exact sc_divisor.nd) (by with_unfolding_all rfl) (by with_unfolding_all first | exact Or.inl rfl | exact Or.inr rfl) ?_ (by with_unfolding_all rfl) (by with_unfolding_all first | exact .inl rfl | exact .inr rfl))



theorem kn_divisor (D : HasDef K mg "divisor" s_divisor ["one", "other"]) : Knows P w K mg base 1 "divisor" cDiv := by
  refine knows_mk D sc_divisor (fun _ _ _ ⟨_, _, e, _⟩ => by rw [e]; rfl) (fun f cdv A outer s H E hr svs τ Q hC => ?_)
  obtain ⟨a, b, rfl, q⟩ := hC
  refine db_cons (ds_while PassesOwn.never (fun m ρ' τ' => ∃ x y : Nat, m = y ∧ τ' = τ ∧ ρ' = [some (.val (.int x)), some (.val (.int y))] ∧ Nat.gcd x y = Nat.gcd a b) ⟨b, a, b, rfl, rfl, rfl, rfl⟩ ?_)
  rintro m ρ' τ' ⟨x, y, rfl, rfl, rfl, hg⟩
  walk_at "go"
  refine ⟨fun h => ?_, fun h => ?_⟩
  · have h' : m ≠ 0 := by
      intro e
      subst e
      simp [bneg] at h
    refine db_one (ds_par 0 1 rfl sc_divisor.nd rfl rfl (by decide) rfl rfl ?_ (by rfl))
    walk_at "go"
    refine ⟨x % m, Nat.mod_lt _ (by omega), m, x % m, rfl, rfl, ?_, ?_⟩
    · rw [Int.natCast_emod]
      rfl
    · rw [Nat.gcd_comm, ← hg, Nat.gcd_comm x m]
      exact (Nat.gcd_rec m x).symm ▸ rfl
  · have h' : m = 0 := by
      have : (m : Int) = 0 := by simpa [bneg] using h
      omega
    subst h'
    walk_at "go"
    rw [Nat.gcd_zero_right] at hg
    rw [← hg] at q
    exact q
end

theorem foldl_take {α β : Type} {f : β → α → β} {b : β} {xs : List α} {i : Nat} {x : α} (h : xs[i]? = some x) : (xs.take (i + 1)).foldl f b = f ((xs.take i).foldl f b) x := by
  rw [List.take_add_one, h, List.foldl_append]
  rfl
theorem map_get {α β : Type} {f : α → β} {xs : List α} {i : Nat} {y : β} (h : (xs.map f)[i]? = some y) : ∃ x, xs[i]? = some x ∧ y = f x := by
  rw [List.getElem?_map] at h
  cases e : xs[i]? with
  | none => rw [e] at h; cases h
  | some x =>
    rw [e] at h
    exact ⟨x, rfl, (Option.some.inj h).symm⟩
theorem lcm_div (a b : Nat) : ((a : Int) * (b : Int)) / ((Nat.gcd a b : Nat) : Int) = ((Nat.lcm a b : Nat) : Int) := by
  unfold Nat.lcm
  rw [← Int.natCast_mul, ← Int.natCast_ediv]
def cPer : Ctr := fun svs τ Q => ∃ c, svs = [.val (chD c)] ∧ ChOk c ∧ Q (.val (.int (periodOf c : Nat))) τ

section
variable {P : Program} {w : World} {K : PySem.W.Frag} {mg : Str → Option Value} {base : Heap}
abbrev s_period_of : Stmt := topS 19
theorem sc_period_of : FnScope ["channel", "found", "bar"] ["channel"] (defScope s_period_of) := ⟨rfl, rfl, rfl, by decide +kernel, rfl, by decide +kernel, by decide +kernel⟩
local macro_rules | `(tactic| walk_at "nm") => `(tactic| first
  | with_reducible refine de_name (x := "channel") 0 (by with_unfolding_all rfl) (by with_unfolding_all first | exact Or.inl rfl | exact Or.inr (Or.inl rfl) | exact Or.inr (Or.inr rfl)) (by with_unfolding_all rfl) ?_ (by with_unfolding_all decide) (by with_unfolding_all decide)
  | with_reducible refine de_name (x := "found") 1 (by with_unfolding_all rfl) (by with_unfolding_all first | exact Or.inl rfl | exact Or.inr (Or.inl rfl) | exact Or.inr (Or.inr rfl)) (by with_unfolding_all rfl) ?_ (by with_unfolding_all decide) (by with_unfolding_all decide)
  | with_reducible refine de_name (x := "bar") 2 (by with_unfolding_all rfl) (by with_unfolding_all first | exact Or.inl rfl | exact Or.inr (Or.inl rfl) | exact Or.inr (Or.inr rfl)) (by with_unfolding_all rfl) ?_ (by with_unfolding_all decide) (by with_unfolding_all decide))
local macro_rules | `(tactic| walk_at "st") => `(tactic| first
  | with_reducible refine ds_set (x := "channel") 0 (by with_unfolding_all exact sc_period_of.nd) (by with_unfolding_all rfl) (by with_unfolding_all first | exact Or.inl rfl | exact Or.inr rfl) ?_ (by with_unfolding_all rfl) (by with_unfolding_all first | exact .inl rfl | exact .inr rfl)
  | with_reducible refine ds_set (x := "found") 1 (by with_unfolding_all exact sc_period_of.nd) (by with_unfolding_all rfl) (by with_unfolding_all first | exact Or.inl rfl | exact Or.inr rfl) ?_ (by with_unfolding_all rfl) (by with_unfolding_all first | exact .inl rfl | exact .inr rfl)
  | with_reducible refine ds_set (x := "bar") 2 (by with_unfolding_all exact sc_period_of.nd) (by with_unfolding_all rfl) (by with_unfolding_all first | exact Or.inl rfl | exact Or.inr rfl) ?_ (by with_unfolding_all rfl) (by with_unfolding_all first | exact .inl rfl | exact .inr rfl))



theorem kn_period_of (D : HasDef K mg "period_of" s_period_of ["channel"]) (B : Bl mg) (k1 : Knows P w K mg base 1 "divisor" cDiv) : Knows P w K mg base 2 "period_of" cPer := by
  refine knows_mk D sc_period_of (fun _ _ _ ⟨_, e, _⟩ => by rw [e]; rfl) (fun f cdv A outer s H E hr svs τ Q hC => ?_)
  obtain ⟨c, rfl, hc, q⟩ := hC
  unfold chD
  walk_at "go"
  refine ds_for (t := .name 2) rfl PassesOwn.never (pgx_name sc_period_of.nd rfl (Or.inl rfl)) (di_tup ?_)
  walk_at "go"
  refine ⟨fun i ρ' τ' => τ' = τ ∧ ∃ v, ρ' = [some (.val (chD c)), some (.val (.int ((((c.bars.take i).foldl (fun a b => Nat.lcm a b.length) 1 : Nat) : Int)))), v], ⟨rfl, none, rfl⟩, fun _ _ _ _ => trivial, ?_, ?_⟩
  · rintro i d ρ' τ' hd ⟨rfl, v, rfl⟩
    obtain ⟨b, hb, rfl⟩ := map_get hd
    have hl := hc.bl b (List.mem_of_getElem? hb)
    refine ⟨_, rfl, ?_⟩
    unfold tI
    walk_at "go"
    refine times_int (.inr (by rw [List.length_map]; omega)) ?_
    walk_at "go"
    refine ⟨_, _, by rw [List.length_map], ?_⟩
    have gp : 0 < Nat.gcd ((c.bars.take i).foldl (fun a b => Nat.lcm a b.length) 1) b.length := Nat.gcd_pos_of_pos_right _ (by omega)
    have gl : Nat.gcd ((c.bars.take i).foldl (fun a b => Nat.lcm a b.length) 1) b.length ≤ b.length := Nat.gcd_le_right _ (by omega)
    refine ⟨_, _, rfl, rfl, ⟨by omega, by omega⟩, rfl, some (.val (tI b)), ?_⟩
    rw [List.length_map, lcm_div, foldl_take hb]
    rfl
  · rintro ρ' τ' ⟨rfl, v, rfl⟩
    walk_at "go"
    rw [List.length_map, List.take_length]
    exact q
end

section
variable {P : Program} {w : World} {K : PySem.W.Frag} {mg : Str → Option Value} {base : Heap}
def cDepth : Ctr := fun svs τ Q => ∃ c, ∃ j : Nat, ∃ h : Int, svs = [.val (chD c), .val (.int j), .val (.int h)] ∧ j < c.bars.length ∧ 1 ≤ (barAt c j).length ∧ Q (.val (.int (depthOf c j h))) τ
theorem ChOk.bar1 {c : Chan} (h : ChOk c) {j : Nat} (hj : j < c.bars.length) : 1 ≤ (barAt c j).length := (h.bl _ (barAt_mem hj)).1
abbrev s_depth_of : Stmt := topS 20
theorem sc_depth_of : FnScope ["channel", "bar", "hour", "depths"] ["channel", "bar", "hour"] (defScope s_depth_of) := ⟨rfl, rfl, rfl, by decide +kernel, rfl, by decide +kernel, by decide +kernel⟩
local macro_rules | `(tactic| walk_at "nm") => `(tactic| first
  | with_reducible refine de_name (x := "channel") 0 (by with_unfolding_all rfl) (by with_unfolding_all first | exact Or.inl rfl | exact Or.inr (Or.inl rfl) | exact Or.inr (Or.inr rfl)) (by with_unfolding_all rfl) ?_ (by with_unfolding_all decide) (by with_unfolding_all decide)
  | with_reducible refine de_name (x := "bar") 1 (by with_unfolding_all rfl) (by with_unfolding_all first | exact Or.inl rfl | exact Or.inr (Or.inl rfl) | exact Or.inr (Or.inr rfl)) (by with_unfolding_all rfl) ?_ (by with_unfolding_all decide) (by with_unfolding_all decide)
  | with_reducible refine de_name (x := "hour") 2 (by with_unfolding_all rfl) (by with_unfolding_all first | exact Or.inl rfl | exact Or.inr (Or.inl rfl) | exact Or.inr (Or.inr rfl)) (by with_unfolding_all rfl) ?_ (by with_unfolding_all decide) (by with_unfolding_all decide)
  | with_reducible refine de_name (x := "depths") 3 (by with_unfolding_all rfl) (by with_unfolding_all first | exact Or.inl rfl | exact Or.inr (Or.inl rfl) | exact Or.inr (Or.inr rfl)) (by with_unfolding_all rfl) ?_ (by with_unfolding_all decide) (by with_unfolding_all decide))
local macro_rules | `(tactic| walk_at "st") => `(tactic| first
  | with_reducible refine ds_set (x := "channel") 0 (by with_unfolding_all exact sc_depth_of.nd) (by with_unfolding_all rfl) (by with_unfolding_all first | exact Or.inl rfl | exact Or.inr rfl) ?_ (by with_unfolding_all rfl) (by with_unfolding_all first | exact .inl rfl | exact .inr rfl)
  | with_reducible refine ds_set (x := "bar") 1 (by with_unfolding_all exact sc_depth_of.nd) (by with_unfolding_all rfl) (by with_unfolding_all first | exact Or.inl rfl | exact Or.inr rfl) ?_ (by with_unfolding_all rfl) (by with_unfolding_all first | exact .inl rfl | exact .inr rfl)
  | with_reducible refine ds_set (x := "hour") 2 (by with_unfolding_all exact sc_depth_of.nd) (by with_unfolding_all rfl) (by with_unfolding_all first | exact Or.inl rfl | exact Or.inr rfl) ?_ (by with_unfolding_all rfl) (by with_unfolding_all first | exact .inl rfl | exact .inr rfl)
  | with_reducible refine ds_set (x := "depths") 3 (by with_unfolding_all exact sc_depth_of.nd) (by with_unfolding_all rfl) (by with_unfolding_all first | exact Or.inl rfl | exact Or.inr rfl) ?_ (by with_unfolding_all rfl) (by with_unfolding_all first | exact .inl rfl | exact .inr rfl))



theorem kn_depth_of (D : HasDef K mg "depth_of" s_depth_of ["channel", "bar", "hour"]) (B : Bl mg) : Knows P w K mg base 1 "depth_of" cDepth := by
  refine knows_mk D sc_depth_of (fun _ _ _ ⟨_, _, _, e, _⟩ => by rw [e]; rfl) (fun f cdv A outer s H E hr svs τ Q hC => ?_)
  obtain ⟨c, j, h, rfl, hj, hl, q⟩ := hC
  unfold chD
  walk_at "go"
  refine ix_tup' (atI_bar hj) ?_
  unfold tI
  walk_at "go"
  refine ⟨by rw [List.length_map]; omega, ?_⟩
  have h1 := Int.emod_nonneg h (show ((barAt c j).length : Int) ≠ 0 by omega)
  have h2 := Int.emod_lt_of_pos h (show (0 : Int) < (barAt c j).length by omega)
  rw [List.length_map]
  exact ix_tup' (atI_int h1 h2) q
end

section
variable {P : Program} {w : World} {K : PySem.W.Frag} {mg : Str → Option Value} {base : Heap}
def cBack : Ctr := fun svs τ Q => ∃ c, svs = [.val (chD c)] ∧ Q (.val (chD (backOf c))) τ
theorem chD_back (c : Chan) : chD (backOf c) = .tuple [.tuple (c.bars.map tI).reverse, .tuple (c.legs.map .int).reverse, .tuple (c.waits.map .int).reverse] := by
  simp [chD, backOf, tI, List.map_reverse]
abbrev s_back_of : Stmt := topS 21
theorem sc_back_of : FnScope ["channel"] ["channel"] (defScope s_back_of) := ⟨rfl, rfl, rfl, by decide +kernel, rfl, by decide +kernel, by decide +kernel⟩
local macro_rules | `(tactic| walk_at "nm") => `(tactic| first
  | with_reducible refine de_name (x := "channel") 0 (by with_unfolding_all rfl) (by with_unfolding_all first | exact Or.inl rfl | exact Or.inr (Or.inl rfl) | exact Or.inr (Or.inr rfl)) (by with_unfolding_all rfl) ?_ (by with_unfolding_all decide) (by with_unfolding_all decide))
local macro_rules | `(tactic| walk_at "st") => `(tactic| first
  | with_reducible refine ds_set (x := "channel") 0 (by with_unfolding_all exact sc_back_of.nd) (by with_unfolding_all rfl) (by with_unfolding_all first | exact Or.inl rfl | exact Or.inr rfl) ?_ (by with_unfolding_all rfl) (by with_unfolding_all first | exact .inl rfl | exact .inr rfl))



theorem kn_back_of (D : HasDef K mg "back_of" s_back_of ["channel"]) : Knows P w K mg base 1 "back_of" cBack := by
  refine knows_mk D sc_back_of (fun _ _ _ ⟨_, e, _⟩ => by rw [e]; rfl) (fun f cdv A outer s H E hr svs τ Q hC => ?_)
  obtain ⟨c, rfl, q⟩ := hC
  rw [chD_back] at q
  unfold chD tI
  walk_at "go"
  exact q
end

section
variable {P : Program} {w : World} {K : PySem.W.Frag} {mg : Str → Option Value} {base : Heap}
def cShift : Ctr := fun svs τ Q => ∃ c, ∃ h : Int, svs = [.val (chD c), .val (.int h)] ∧ ChOk c ∧ Q (.val (chD (shifted c h))) τ
abbrev s_shifted : Stmt := topS 22
theorem sc_shifted : FnScope ["channel", "hours", "bars", "hour", "bar"] ["channel", "hours"] (defScope s_shifted) := ⟨rfl, rfl, rfl, by decide +kernel, rfl, by decide +kernel, by decide +kernel⟩
local macro_rules | `(tactic| walk_at "nm") => `(tactic| first
  | with_reducible refine de_name (x := "channel") 0 (by with_unfolding_all rfl) (by with_unfolding_all first | exact Or.inl rfl | exact Or.inr (Or.inl rfl) | exact Or.inr (Or.inr rfl)) (by with_unfolding_all rfl) ?_ (by with_unfolding_all decide) (by with_unfolding_all decide)
  | with_reducible refine de_name (x := "hours") 1 (by with_unfolding_all rfl) (by with_unfolding_all first | exact Or.inl rfl | exact Or.inr (Or.inl rfl) | exact Or.inr (Or.inr rfl)) (by with_unfolding_all rfl) ?_ (by with_unfolding_all decide) (by with_unfolding_all decide)
  | with_reducible refine de_name (x := "bars") 2 (by with_unfolding_all rfl) (by with_unfolding_all first | exact Or.inl rfl | exact Or.inr (Or.inl rfl) | exact Or.inr (Or.inr rfl)) (by with_unfolding_all rfl) ?_ (by with_unfolding_all decide) (by with_unfolding_all decide)
  | with_reducible refine de_name (x := "hour") 3 (by with_unfolding_all rfl) (by with_unfolding_all first | exact Or.inl rfl | exact Or.inr (Or.inl rfl) | exact Or.inr (Or.inr rfl)) (by with_unfolding_all rfl) ?_ (by with_unfolding_all decide) (by with_unfolding_all decide)
  | with_reducible refine de_name (x := "bar") 4 (by with_unfolding_all rfl) (by with_unfolding_all first | exact Or.inl rfl | exact Or.inr (Or.inl rfl) | exact Or.inr (Or.inr rfl)) (by with_unfolding_all rfl) ?_ (by with_unfolding_all decide) (by with_unfolding_all decide))
local macro_rules | `(tactic| walk_at "st") => `(tactic| first
  | with_reducible refine ds_set (x := "channel") 0 (by with_unfolding_all exact sc_shifted.nd) (by with_unfolding_all rfl) (by with_unfolding_all first | exact Or.inl rfl | exact Or.inr rfl) ?_ (by with_unfolding_all rfl) (by with_unfolding_all first | exact .inl rfl | exact .inr rfl)
  | with_reducible refine ds_set (x := "hours") 1 (by with_unfolding_all exact sc_shifted.nd) (by with_unfolding_all rfl) (by with_unfolding_all first | exact Or.inl rfl | exact Or.inr rfl) ?_ (by with_unfolding_all rfl) (by with_unfolding_all first | exact .inl rfl | exact .inr rfl)
  | with_reducible refine ds_set (x := "bars") 2 (by with_unfolding_all exact sc_shifted.nd) (by with_unfolding_all rfl) (by with_unfolding_all first | exact Or.inl rfl | exact Or.inr rfl) ?_ (by with_unfolding_all rfl) (by with_unfolding_all first | exact .inl rfl | exact .inr rfl)
  | with_reducible refine ds_set (x := "hour") 3 (by with_unfolding_all exact sc_shifted.nd) (by with_unfolding_all rfl) (by with_unfolding_all first | exact Or.inl rfl | exact Or.inr rfl) ?_ (by with_unfolding_all rfl) (by with_unfolding_all first | exact .inl rfl | exact .inr rfl)
  | with_reducible refine ds_set (x := "bar") 4 (by with_unfolding_all exact sc_shifted.nd) (by with_unfolding_all rfl) (by with_unfolding_all first | exact Or.inl rfl | exact Or.inr rfl) ?_ (by with_unfolding_all rfl) (by with_unfolding_all first | exact .inl rfl | exact .inr rfl))

local macro_rules | `(tactic| walk_at "lc bar") => `(tactic| refine de_lc (t := .name 4) (own := [("bar", 4)]) rfl sc_shifted.nd (by first | exact blkOk_by (N := ["channel", "hours", "bars", "hour", "bar"]) (sc := defScope s_shifted) (by decide +kernel) | exact blkOk_by (N := ["channel", "hours", "bars", "hour", "bar"]) (sc := relS _ (defScope s_shifted)) (by decide +kernel)) (by decide) (fun _ _ _ _ _ => pgx_name sc_shifted.nd rfl (by first | exact Or.inl rfl | exact Or.inr rfl)) ?_)
local macro_rules | `(tactic| walk_at "slc bar") => `(tactic| first
  | refine ds_setLc (t := .name 4) (own := [("bar", 4)]) 2 (y := "bars") rfl sc_shifted.nd rfl rfl (sw_true rfl rfl rfl (by decide +kernel)) (by first | exact blkOk_by (N := ["channel", "hours", "bars", "hour", "bar"]) (sc := defScope s_shifted) (by decide +kernel) | exact blkOk_by (N := ["channel", "hours", "bars", "hour", "bar"]) (sc := relS _ (defScope s_shifted)) (by decide +kernel)) (by decide) (fun _ _ _ _ _ => pgx_name sc_shifted.nd rfl (by first | exact Or.inl rfl | exact Or.inr rfl)) ?_)
local macro_rules | `(tactic| walk_at "lc hour") => `(tactic| refine de_lc (t := .name 3) (own := [("hour", 3)]) rfl sc_shifted.nd (by first | exact blkOk_by (N := ["channel", "hours", "bars", "hour", "bar"]) (sc := defScope s_shifted) (by decide +kernel) | exact blkOk_by (N := ["channel", "hours", "bars", "hour", "bar"]) (sc := relS _ (defScope s_shifted)) (by decide +kernel)) (by decide) (fun _ _ _ _ _ => pgx_name sc_shifted.nd rfl (by first | exact Or.inl rfl | exact Or.inr rfl)) ?_)

theorem kn_shifted (D : HasDef K mg "shifted" s_shifted ["channel", "hours"]) (B : Bl mg) : Knows P w K mg base 1 "shifted" cShift := by
  refine knows_mk D sc_shifted (fun _ _ _ ⟨_, _, e, _⟩ => by rw [e]; rfl) (fun f cdv A outer s H E hr svs τ Q hC => ?_)
  obtain ⟨c, h, rfl, hc, q⟩ := hC
  have ec : chD c = .tuple [.tuple (c.bars.map tI), tI c.legs, tI c.waits] := rfl
  rw [ec]
  refine db_cons ?_
  walk_at "slc bar"
  refine di_tup ?_
  walk_at "go"
  refine lcq_map c.bars tI (fun b => tI (shiftBar h b)) rfl (by have := hc.b3; omega) (fun b hb => ⟨_, rfl, fun D acc hD s H C cl fp => ?_⟩) ?_
  · have hl := hc.bl b hb
    walk_at "go"
    walk_at "lc hour"
    unfold tI
    refine di_range1 ‹Bl _› rfl ?_
    walk_at "go"
    rw [List.length_map]
    refine ⟨by omega, by omega, ?_⟩
    refine lcq_map (List.range b.length) (fun i => .int (0 + (i : Nat))) (fun i => .int (b.getD (((i : Int) - h) % (b.length : Int)).toNat 0)) (by rw [Int.toNat_natCast]; rfl) (by rw [List.length_range]; omega) (fun i hi => ⟨_, rfl, fun D acc hD s H C cl fp => ?_⟩) ?_
    · walk_at "go"
      rw [List.length_map]
      refine ⟨by omega, ?_⟩
      have h1 := Int.emod_nonneg ((0 : Int) + (i : Nat) - h) (show (b.length : Int) ≠ 0 by omega)
      have h2 := Int.emod_lt_of_pos ((0 : Int) + (i : Nat) - h) (show (0 : Int) < b.length by omega)
      refine ix_tup' (atI_int h1 h2) ⟨?_, rfl⟩
      rw [Int.zero_add]
    · walk_at "go"
      refine ⟨?_, rfl⟩
      unfold shiftBar
      rw [List.map_map]
      rfl
  · walk_at "go"
    have eq : chD (shifted c h) = .tuple [.tuple (c.bars.map fun b => tI (shiftBar h b)), tI c.legs, tI c.waits] := by
      simp [chD, shifted, List.map_map, Function.comp_def]
    rw [eq] at q
    exact q
end

section
variable {P : Program} {w : World} {K : PySem.W.Frag} {mg : Str → Option Value} {base : Heap}
def cLater : Ctr := fun svs τ Q => ∃ c, ∃ h : Int, svs = [.val (chD c), .val (.int h)] ∧ ChOk c ∧ 0 ≤ h ∧ h ≤ 999 ∧ Q (.val (chD (shifted c h))) τ
abbrev s_later : Stmt := topS 23
theorem sc_later : FnScope ["channel", "hours"] ["channel", "hours"] (defScope s_later) := ⟨rfl, rfl, rfl, by decide +kernel, rfl, by decide +kernel, by decide +kernel⟩
local macro_rules | `(tactic| walk_at "nm") => `(tactic| first
  | with_reducible refine de_name (x := "channel") 0 (by with_unfolding_all rfl) (by with_unfolding_all first | exact Or.inl rfl | exact Or.inr (Or.inl rfl) | exact Or.inr (Or.inr rfl)) (by with_unfolding_all rfl) ?_ (by with_unfolding_all decide) (by with_unfolding_all decide)
  | with_reducible refine de_name (x := "hours") 1 (by with_unfolding_all rfl) (by with_unfolding_all first | exact Or.inl rfl | exact Or.inr (Or.inl rfl) | exact Or.inr (Or.inr rfl)) (by with_unfolding_all rfl) ?_ (by with_unfolding_all decide) (by with_unfolding_all decide))
local macro_rules | `(tactic| walk_at "st") => `(tactic| first
  | with_reducible refine ds_set (x := "channel") 0 (by with_unfolding_all exact sc_later.nd) (by with_unfolding_all rfl) (by with_unfolding_all first | exact Or.inl rfl | exact Or.inr rfl) ?_ (by with_unfolding_all rfl) (by with_unfolding_all first | exact .inl rfl | exact .inr rfl)
  | with_reducible refine ds_set (x := "hours") 1 (by with_unfolding_all exact sc_later.nd) (by with_unfolding_all rfl) (by with_unfolding_all first | exact Or.inl rfl | exact Or.inr rfl) ?_ (by with_unfolding_all rfl) (by with_unfolding_all first | exact .inl rfl | exact .inr rfl))



theorem kn_later (D : HasDef K mg "later" s_later ["channel", "hours"]) (k1 : Knows P w K mg base 4 "check_channel" cChk) (k3 : Knows P w K mg base 2 "check_hour" (cChkI 0 999)) (k2 : Knows P w K mg base 1 "shifted" cShift) : Knows P w K mg base 5 "later" cLater := by
  refine knows_mk D sc_later (fun _ _ _ ⟨_, _, e, _⟩ => by rw [e]; rfl) (fun f cdv A outer s H E hr svs τ Q hC => ?_)
  obtain ⟨c, h, rfl, hc, h0, h1, q⟩ := hC
  walk_at "go"
  refine ⟨_, rfl, hc, ?_⟩
  walk_at "go"
  refine ⟨_, rfl, h0, h1, ?_⟩
  walk_at "go"
  exact ⟨_, _, rfl, hc, q⟩
end

/-! ### the law's draws -/
/-- the town: a count up to n, and L cells -/
def Tn (L : Nat) (n : Int) (ds : List PyData) : Prop := ∃ (c : Int) (cs : List Int), ds = (c :: cs).map .int ∧ cs.length = L ∧ 0 ≤ c ∧ c ≤ n
theorem Tn.mono {L : Nat} {n m : Int} {ds : List PyData} (h : Tn L n ds) (hm : n ≤ m) : Tn L m ds := by
  obtain ⟨c, cs, e, hl, h0, h1⟩ := h
  exact ⟨c, cs, e, hl, h0, by omega⟩
/-- the town stands in the store -/
def TnS (tw : Addr) (L : Nat) (n : Int) (τ : Store) : Prop := ∃ ds, τ.lookup tw = some (.lst ds) ∧ Tn L n ds
/-- a store that differs in the town alone -/
def Twn (tw : Addr) (L : Nat) (n : Int) (τ τ' : Store) : Prop := ∃ ds, τ' = setS tw (.lst ds) τ ∧ Tn L n ds
theorem TnS.mono {tw : Addr} {L : Nat} {n m : Int} {τ : Store} (h : TnS tw L n τ) (hm : n ≤ m) : TnS tw L m τ := by
  obtain ⟨ds, e, t⟩ := h
  exact ⟨ds, e, t.mono hm⟩
theorem Twn.tn {tw : Addr} {L : Nat} {n : Int} {τ τ' : Store} (h : Twn tw L n τ τ') (hd : tw ∈ dom τ) : TnS tw L n τ' := by
  obtain ⟨ds, e, t⟩ := h
  subst e
  exact ⟨ds, lookup_setS hd, t⟩
theorem TnS.dom {tw : Addr} {L : Nat} {n : Int} {τ : Store} (h : TnS tw L n τ) : tw ∈ Dl.dom τ := by
  obtain ⟨ds, e, _⟩ := h
  exact dom_of_lookup e
theorem Twn.refl {tw : Addr} {L : Nat} {n : Int} {τ : Store} (h : TnS tw L n τ) : Twn tw L n τ τ := by
  obtain ⟨ds, e, t⟩ := h
  exact ⟨ds, (setS_self e).symm, t⟩
theorem Twn.trans {tw : Addr} {L : Nat} {n m : Int} {τ τ1 τ2 : Store} (h : Twn tw L n τ τ1) (h' : Twn tw L m τ1 τ2) : Twn tw L m τ τ2 := by
  obtain ⟨ds, e, _⟩ := h
  obtain ⟨ds', e', t⟩ := h'
  subst e
  exact ⟨ds', by rw [e', setS_setS], t⟩
theorem Twn.mono {tw : Addr} {L : Nat} {n m : Int} {τ τ' : Store} (h : Twn tw L n τ τ') (hm : n ≤ m) : Twn tw L m τ τ' := by
  obtain ⟨ds, e, t⟩ := h
  exact ⟨ds, e, t.mono hm⟩
theorem Twn.dom {tw : Addr} {L : Nat} {n : Int} {τ τ' : Store} (h : Twn tw L n τ τ') : Dl.dom τ' = Dl.dom τ := by
  obtain ⟨ds, e, _⟩ := h
  subst e
  exact dom_setS _ _ _
/-- with one more object ahead -/
theorem TnS.push {tw D : Addr} {L : Nat} {n : Int} {τ : Store} {mo : MO} (h : TnS tw L n τ) (hD : D ∉ Dl.dom τ) : TnS tw L n ((D, mo) :: τ) := by
  obtain ⟨ds, e, t⟩ := h
  exact ⟨ds, lookup_push e hD, t⟩
theorem Twn.pop {tw D : Addr} {L : Nat} {n : Int} {τ τ' : Store} {mo : MO} (h : Twn tw L n ((D, mo) :: τ) τ') (ht : tw ∈ Dl.dom τ) (hD : D ∉ Dl.dom τ) : ∃ τ1, τ' = (D, mo) :: τ1 ∧ Twn tw L n τ τ1 := by
  obtain ⟨ds, e, t⟩ := h
  rw [setS_push ht hD] at e
  exact ⟨_, e, ds, rfl, t⟩
section
variable {P : Program} {w : World} {K : PySem.W.Frag} {mg : Str → Option Value} {base : Heap}
def cTown : Ctr := fun svs τ Q => ∃ ns, svs = [.scr ns] ∧ ns.length ≤ 1000 ∧ ∀ a, a ∉ dom τ → Q (.hdl a) ((a, .lst ((0 :: ns).map .int)) :: τ)
abbrev s__law_town : Stmt := topS 66
theorem sc__law_town : FnScope ["_law_script"] ["_law_script"] (defScope s__law_town) := ⟨rfl, rfl, rfl, by decide +kernel, rfl, by decide +kernel, by decide +kernel⟩
local macro_rules | `(tactic| walk_at "nm") => `(tactic| first
  | with_reducible refine de_name (x := "_law_script") 0 (by with_unfolding_all rfl) (by with_unfolding_all first | exact Or.inl rfl | exact Or.inr (Or.inl rfl) | exact Or.inr (Or.inr rfl)) (by with_unfolding_all rfl) ?_ (by with_unfolding_all decide) (by with_unfolding_all decide))
local macro_rules | `(tactic| walk_at "st") => `(tactic| first
  | with_reducible refine ds_set (x := "_law_script") 0 (by with_unfolding_all exact sc__law_town.nd) (by with_unfolding_all rfl) (by with_unfolding_all first | exact Or.inl rfl | exact Or.inr rfl) ?_ (by with_unfolding_all rfl) (by with_unfolding_all first | exact .inl rfl | exact .inr rfl))



theorem kn_law_town (D : HasDef K mg "_law_town" s__law_town ["_law_script"]) (B : Bl mg) : Knows P w K mg base 1 "_law_town" cTown := by
  refine knows_mk D sc__law_town (fun _ _ _ ⟨_, e, _⟩ => by rw [e]; rfl) (fun f cdv A outer s H E hr svs τ Q hC => ?_)
  obtain ⟨ns, rfl, hl, q⟩ := hC
  walk_at "go"
  exact plus_lstM rfl rfl (by simp; omega) q
def cDraw : Ctr := fun svs τ Q => ∃ ns tw lim n, svs = [.scr ns, .hdl tw, .val (.int lim)] ∧ ns.length ≤ 1000 ∧ 1 ≤ lim ∧ lim ≤ 100000 ∧ n ≤ 1000000 ∧ TnS tw ns.length n τ ∧
  ∀ k τ', 0 ≤ k → k < lim → Twn tw ns.length (n + 1) τ τ' → Q (.val (.int k)) τ'
theorem mod_rng {a m : Int} (h : 1 ≤ m) : 0 ≤ a % m ∧ a % m < m := ⟨Int.emod_nonneg _ (by omega), Int.emod_lt_of_pos _ (by omega)⟩
theorem Tn.at0 {c : Int} {cs : List Int} : atI ((c :: cs).map PyData.int) 0 = some (.int c) := by
  refine atI_nat (j := 0) ?_
  rfl
abbrev s__law_draw : Stmt := topS 67
theorem sc__law_draw : FnScope ["_law_script", "_law_town_here", "_law_limit", "_law_at", "_law_left", "_law_number"] ["_law_script", "_law_town_here", "_law_limit"] (defScope s__law_draw) := ⟨rfl, rfl, rfl, by decide +kernel, rfl, by decide +kernel, by decide +kernel⟩
local macro_rules | `(tactic| walk_at "nm") => `(tactic| first
  | with_reducible refine de_name (x := "_law_script") 0 (by with_unfolding_all rfl) (by with_unfolding_all first | exact Or.inl rfl | exact Or.inr (Or.inl rfl) | exact Or.inr (Or.inr rfl)) (by with_unfolding_all rfl) ?_ (by with_unfolding_all decide) (by with_unfolding_all decide)
  | with_reducible refine de_name (x := "_law_town_here") 1 (by with_unfolding_all rfl) (by with_unfolding_all first | exact Or.inl rfl | exact Or.inr (Or.inl rfl) | exact Or.inr (Or.inr rfl)) (by with_unfolding_all rfl) ?_ (by with_unfolding_all decide) (by with_unfolding_all decide)
  | with_reducible refine de_name (x := "_law_limit") 2 (by with_unfolding_all rfl) (by with_unfolding_all first | exact Or.inl rfl | exact Or.inr (Or.inl rfl) | exact Or.inr (Or.inr rfl)) (by with_unfolding_all rfl) ?_ (by with_unfolding_all decide) (by with_unfolding_all decide)
  | with_reducible refine de_name (x := "_law_at") 3 (by with_unfolding_all rfl) (by with_unfolding_all first | exact Or.inl rfl | exact Or.inr (Or.inl rfl) | exact Or.inr (Or.inr rfl)) (by with_unfolding_all rfl) ?_ (by with_unfolding_all decide) (by with_unfolding_all decide)
  | with_reducible refine de_name (x := "_law_left") 4 (by with_unfolding_all rfl) (by with_unfolding_all first | exact Or.inl rfl | exact Or.inr (Or.inl rfl) | exact Or.inr (Or.inr rfl)) (by with_unfolding_all rfl) ?_ (by with_unfolding_all decide) (by with_unfolding_all decide)
  | with_reducible refine de_name (x := "_law_number") 5 (by with_unfolding_all rfl) (by with_unfolding_all first | exact Or.inl rfl | exact Or.inr (Or.inl rfl) | exact Or.inr (Or.inr rfl)) (by with_unfolding_all rfl) ?_ (by with_unfolding_all decide) (by with_unfolding_all decide))
local macro_rules | `(tactic| walk_at "st") => `(tactic| first
  | with_reducible refine ds_set (x := "_law_script") 0 (by with_unfolding_all exact sc__law_draw.nd) (by with_unfolding_all rfl) (by with_unfolding_all first | exact Or.inl rfl | exact Or.inr rfl) ?_ (by with_unfolding_all rfl) (by with_unfolding_all first | exact .inl rfl | exact .inr rfl)
  | with_reducible refine ds_set (x := "_law_town_here") 1 (by with_unfolding_all exact sc__law_draw.nd) (by with_unfolding_all rfl) (by with_unfolding_all first | exact Or.inl rfl | exact Or.inr rfl) ?_ (by with_unfolding_all rfl) (by with_unfolding_all first | exact .inl rfl | exact .inr rfl)
  | with_reducible refine ds_set (x := "_law_limit") 2 (by with_unfolding_all exact sc__law_draw.nd) (by with_unfolding_all rfl) (by with_unfolding_all first | exact Or.inl rfl | exact Or.inr rfl) ?_ (by with_unfolding_all rfl) (by with_unfolding_all first | exact .inl rfl | exact .inr rfl)
  | with_reducible refine ds_set (x := "_law_at") 3 (by with_unfolding_all exact sc__law_draw.nd) (by with_unfolding_all rfl) (by with_unfolding_all first | exact Or.inl rfl | exact Or.inr rfl) ?_ (by with_unfolding_all rfl) (by with_unfolding_all first | exact .inl rfl | exact .inr rfl)
  | with_reducible refine ds_set (x := "_law_left") 4 (by with_unfolding_all exact sc__law_draw.nd) (by with_unfolding_all rfl) (by with_unfolding_all first | exact Or.inl rfl | exact Or.inr rfl) ?_ (by with_unfolding_all rfl) (by with_unfolding_all first | exact .inl rfl | exact .inr rfl)
  | with_reducible refine ds_set (x := "_law_number") 5 (by with_unfolding_all exact sc__law_draw.nd) (by with_unfolding_all rfl) (by with_unfolding_all first | exact Or.inl rfl | exact Or.inr rfl) ?_ (by with_unfolding_all rfl) (by with_unfolding_all first | exact .inl rfl | exact .inr rfl))



theorem kn_law_draw (D : HasDef K mg "_law_draw" s__law_draw ["_law_script", "_law_town_here", "_law_limit"]) (B : Bl mg) : Knows P w K mg base 1 "_law_draw" cDraw := by
  refine knows_mk D sc__law_draw (fun _ _ _ ⟨_, _, _, _, e, _⟩ => by rw [e]; rfl) (fun f cdv A outer s H E hr svs τ Q hC => ?_)
  obtain ⟨ns, tw, lim, n, rfl, hns, hl1, hl2, hn, ⟨ds, ht, c, cs, rfl, hcs, hc0, hc1⟩, q⟩ := hC
  refine db_cons (ds_setix ?_)
  walk_at "go"
  refine ix_lst (datOf_hdl ht) Tn.at0 ?_
  walk_at "go"
  refine ⟨_, tw, _, _, 0, rfl, rfl, rfl, ht, ixN_ok (by omega) (by rw [List.length_map, List.length_cons]; omega), ?_⟩
  have ht1 : (setS tw (.lst ((((c + 1) :: cs : List Int)).map PyData.int)) τ).lookup tw = some (.lst (((c + 1) :: cs).map PyData.int)) := lookup_setS' ht
  have e1 : Twn tw ns.length (n + 1) τ (setS tw (.lst ((((c + 1) :: cs : List Int)).map PyData.int)) τ) := ⟨_, rfl, c + 1, cs, rfl, hcs, by omega, by omega⟩
  show Db _ _ (setS tw (.lst ((((c + 1) :: cs : List Int)).map PyData.int)) τ) _ _
  generalize (setS tw (.lst ((((c + 1) :: cs : List Int)).map PyData.int)) τ) = τ1 at ht1 e1 ⊢
  walk_at "go"
  refine eq_pl (n := 1) (m := 1) rfl rfl (by rintro x hx; obtain ⟨y, _, rfl⟩ := List.mem_map.mp hx; trivial) (by rintro x hx; cases hx) (fun b hb => ?_)
  refine ⟨_, rfl, fun h => ?_, fun h => ?_⟩
  · walk_at "go"
    refine ix_lst (datOf_hdl ht1) Tn.at0 ?_
    walk_at "go"
    refine ix_lst (datOf_hdl ht1) Tn.at0 ?_
    walk_at "go"
    refine q _ _ ?_ ?_ e1
    · exact (mod_rng hl1).1
    · exact (mod_rng hl1).2
  · have hne : ns ≠ [] := by
      intro e
      subst e
      have h' : b = false := h
      rw [h'] at hb
      exact absurd (hb.mpr rfl) (by decide)
    have hpos : 1 ≤ ns.length := by
      cases ns with
      | nil => exact absurd rfl hne
      | cons a r => simp
    walk_at "go"
    refine ix_lst (datOf_hdl ht1) Tn.at0 ?_
    walk_at "go"
    refine ⟨by rw [List.length_map]; omega, ?_⟩
    rw [List.length_map]
    have hm := mod_rng (a := c + 1) (m := (ns.length : Int)) (by omega)
    walk_at "go"
    refine ix_lst (datOf_hdl ht1) (atI_int (by omega) (by rw [List.length_cons]; omega)) ?_
    walk_at "go"
    refine ix_lst (x := .scr ns) rfl (atI_int hm.1 hm.2) ?_
    walk_at "go"
    refine ⟨fun h1 => ?_, fun h1 => ?_⟩
    · walk_at "go"
      refine ⟨fun h2 => ?_, fun h2 => ?_⟩
      · walk_at "go"
        refine ds_setix ?_
        walk_at "go"
        refine ⟨_, tw, _, _, _, rfl, rfl, rfl, ht1, ixN_ok (by omega) (by rw [List.length_map, List.length_cons]; omega), ?_⟩
        walk_at "go"
        refine q _ _ (mod_rng hl1).1 (mod_rng hl1).2 (e1.trans ⟨_, rfl, c + 1, cs.set ((c + 1) % (ns.length : Int)).toNat (((c + 1) :: cs).getD (1 + (c + 1) % (ns.length : Int)).toNat 0 / lim), ?_, by rw [List.length_set]; exact hcs, by omega, by omega⟩)
        rw [show (1 + (c + 1) % (ns.length : Int)).toNat = ((c + 1) % (ns.length : Int)).toNat + 1 by omega]
        show (PyData.int (c + 1) :: (cs.map PyData.int).set _ _) = PyData.int (c + 1) :: _
        rw [List.map_set]
      · walk_at "go"
        refine ix_lst (x := .scr _) rfl (atI_int hm.1 hm.2) ?_
        walk_at "go"
        refine ix_lst (datOf_hdl ht1) Tn.at0 ?_
        walk_at "go"
        exact q _ _ (mod_rng hl1).1 (mod_rng hl1).2 e1
    · walk_at "go"
      refine ix_lst (x := .scr _) rfl (atI_int hm.1 hm.2) ?_
      walk_at "go"
      refine ix_lst (datOf_hdl ht1) Tn.at0 ?_
      walk_at "go"
      exact q _ _ (mod_rng hl1).1 (mod_rng hl1).2 e1
end

/-! ### the period -/
theorem foldl_lcm_dvd : ∀ (bs : List (List Int)) (a : Nat), a ∣ bs.foldl (fun a b => Nat.lcm a b.length) a ∧ ∀ b ∈ bs, b.length ∣ bs.foldl (fun a b => Nat.lcm a b.length) a
  | [], a => ⟨Nat.dvd_refl _, by simp⟩
  | x :: r, a => by
    obtain ⟨h1, h2⟩ := foldl_lcm_dvd r (Nat.lcm a x.length)
    refine ⟨Nat.dvd_trans (Nat.dvd_lcm_left _ _) h1, fun b hb => ?_⟩
    rcases List.mem_cons.mp hb with rfl | hb
    · exact Nat.dvd_trans (Nat.dvd_lcm_right _ _) h1
    · exact h2 b hb
theorem foldl_lcm_min {n : Nat} : ∀ (bs : List (List Int)) (a : Nat), a ∣ n → (∀ b ∈ bs, b.length ∣ n) → bs.foldl (fun a b => Nat.lcm a b.length) a ∣ n
  | [], a, h, _ => h
  | x :: r, a, h, hb => foldl_lcm_min r _ (Nat.lcm_dvd h (hb x List.mem_cons_self)) fun b hm => hb b (List.mem_cons_of_mem _ hm)
theorem period_dvd {c : Chan} {b : List Int} (hb : b ∈ c.bars) : b.length ∣ periodOf c := (foldl_lcm_dvd c.bars 1).2 b hb
theorem period_min {c : Chan} {n : Nat} (h : ∀ b ∈ c.bars, b.length ∣ n) : periodOf c ∣ n := foldl_lcm_min c.bars 1 (Nat.one_dvd _) h
theorem foldl_lcm_bound : ∀ (bs : List (List Int)) (a : Nat), 0 < a → (∀ b ∈ bs, 1 ≤ b.length ∧ b.length ≤ 8) → 0 < bs.foldl (fun a b => Nat.lcm a b.length) a ∧ bs.foldl (fun a b => Nat.lcm a b.length) a ≤ a * 8 ^ bs.length
  | [], a, h, _ => ⟨h, by simp⟩
  | x :: r, a, h, hb => by
    have hx := hb x List.mem_cons_self
    have hp : 0 < Nat.lcm a x.length := Nat.lcm_pos h (by omega)
    obtain ⟨h1, h2⟩ := foldl_lcm_bound r (Nat.lcm a x.length) hp fun b hm => hb b (List.mem_cons_of_mem _ hm)
    refine ⟨h1, Nat.le_trans h2 ?_⟩
    have h3 : Nat.lcm a x.length ≤ a * 8 := by
      have : Nat.lcm a x.length ≤ a * x.length := Nat.div_le_self _ _
      exact Nat.le_trans this (Nat.mul_le_mul_left _ hx.2)
    rw [List.length_cons, Nat.pow_succ, Nat.mul_comm (8 ^ r.length) 8, ← Nat.mul_assoc]
    exact Nat.mul_le_mul_right _ h3
theorem period_pos {c : Chan} (h : ChOk c) : 0 < periodOf c := (foldl_lcm_bound c.bars 1 (by decide) h.bl).1
theorem period_le {c : Chan} (h : ChOk c) : periodOf c ≤ 512 := by
  have h1 := (foldl_lcm_bound c.bars 1 (by decide) h.bl).2
  have h2 : 1 * 8 ^ c.bars.length ≤ 1 * 8 ^ 3 := Nat.mul_le_mul_left _ (Nat.pow_le_pow_right (by decide) h.b3)
  exact Nat.le_trans h1 h2
theorem period_back (c : Chan) : periodOf (backOf c) = periodOf c := by
  apply Nat.dvd_antisymm
  · exact period_min fun b hb => period_dvd (by simpa [backOf] using hb)
  · exact period_min fun b hb => period_dvd (by simpa [backOf] using hb)
theorem pl_tI {n : Nat} (xs : List Int) : Pl (n + 1) (tI xs) := fun x hx => by
  obtain ⟨y, _, rfl⟩ := List.mem_map.mp hx
  cases n <;> trivial
theorem pl_chD {n : Nat} (c : Chan) : Pl (n + 3) (chD c) := fun x hx => by
  simp only [List.mem_cons, List.not_mem_nil, or_false] at hx
  rcases hx with rfl | rfl | rfl
  · intro y hy
    obtain ⟨b, _, rfl⟩ := List.mem_map.mp hy
    exact pl_tI b
  · exact pl_tI _
  · exact pl_tI _
theorem map_inj_of {α β : Type} {f : α → β} (hf : ∀ a b, f a = f b → a = b) : ∀ {xs ys : List α}, xs.map f = ys.map f → xs = ys
  | [], [], _ => rfl
  | [], _ :: _, h => by cases h
  | _ :: _, [], h => by cases h
  | x :: xs, y :: ys, h => by
    rw [List.map_cons, List.map_cons] at h
    injection h with h1 h2
    rw [hf _ _ h1, map_inj_of hf h2]
theorem tI_inj {xs ys : List Int} (h : tI xs = tI ys) : xs = ys := by
  unfold tI at h
  injection h with h
  exact map_inj_of (fun a b h => by injection h) h
theorem chD_inj {c d : Chan} (h : chD c = chD d) : c = d := by
  unfold chD at h
  injection h with h
  injection h with h1 h2
  injection h2 with h2 h3
  injection h3 with h3 _
  injection h1 with h1
  have e1 := map_inj_of (fun _ _ h => tI_inj h) h1
  have e2 := tI_inj h2
  have e3 := tI_inj h3
  cases c
  cases d
  simp only at e1 e2 e3
  subst e1 e2 e3
  rfl

/-! ### channels later, turned round -/
theorem back_back (c : Chan) : backOf (backOf c) = c := by
  cases c
  simp [backOf]
theorem shiftBar_get {b : List Int} (hb : 1 ≤ b.length) (h x : Int) : (shiftBar h b).getD (x % ((shiftBar h b).length : Int)).toNat 0 = b.getD ((x - h) % (b.length : Int)).toNat 0 := by
  have hl : (shiftBar h b).length = b.length := by simp [shiftBar]
  rw [hl]
  have h1 := Int.emod_nonneg x (show (b.length : Int) ≠ 0 by omega)
  have h2 := Int.emod_lt_of_pos x (show (0 : Int) < b.length by omega)
  have e : (shiftBar h b).getD (x % (b.length : Int)).toNat 0 = b.getD ((((x % (b.length : Int)).toNat : Int) - h) % (b.length : Int)).toNat 0 := by
    rw [List.getD_eq_getElem?_getD]
    unfold shiftBar
    rw [List.getElem?_map, List.getElem?_range (by omega)]
    rfl
  rw [e, Int.toNat_of_nonneg h1, Int.emod_sub_emod]
theorem shiftBar_shiftBar {b : List Int} (hb : 1 ≤ b.length) (g h : Int) : shiftBar h (shiftBar g b) = shiftBar (g + h) b := by
  have hl : (shiftBar g b).length = b.length := by simp [shiftBar]
  apply List.ext_getElem
  · simp [shiftBar]
  · intro i h1 h2
    have hi : i < b.length := by simpa [shiftBar] using h2
    have e1 : (shiftBar h (shiftBar g b))[i] = (shiftBar g b).getD (((i : Int) - h) % ((shiftBar g b).length : Int)).toNat 0 := by
      simp [shiftBar]
    have e2 : (shiftBar (g + h) b)[i] = b.getD (((i : Int) - (g + h)) % (b.length : Int)).toNat 0 := by
      simp [shiftBar]
    rw [e1, e2, shiftBar_get hb]
    congr 3
    omega
theorem shiftBar_period {b : List Int} {n : Int} (hb : 1 ≤ b.length) (hd : (b.length : Int) ∣ n) : shiftBar n b = b := by
  apply List.ext_getElem
  · simp [shiftBar]
  · intro i h1 h2
    have e1 : (shiftBar n b)[i] = b.getD (((i : Int) - n) % (b.length : Int)).toNat 0 := by simp [shiftBar]
    rw [e1]
    obtain ⟨k, rfl⟩ := hd
    have e : ((i : Int) - (b.length : Int) * k) % (b.length : Int) = i := by
      rw [Int.sub_mul_emod_self_left]
      exact Int.emod_eq_of_lt (by omega) (by omega)
    rw [e, Int.toNat_natCast, List.getD_eq_getElem?_getD, List.getElem?_eq_getElem h2]
    rfl
theorem shifted_shifted {c : Chan} (hc : ChOk c) (g h : Int) : shifted (shifted c g) h = shifted c (g + h) := by
  unfold shifted
  simp only [List.map_map]
  congr 1
  apply List.map_congr_left
  intro b hb
  exact shiftBar_shiftBar (hc.bl b hb).1 g h
theorem shifted_period {c : Chan} (hc : ChOk c) {n : Int} (hd : (periodOf c : Int) ∣ n) : shifted c n = c := by
  have e : c.bars.map (shiftBar n) = c.bars := by
    have : c.bars.map (shiftBar n) = c.bars.map id := by
      apply List.map_congr_left
      intro b hb
      exact shiftBar_period (hc.bl b hb).1 (Int.dvd_trans (Int.natCast_dvd_natCast.mpr (period_dvd hb)) hd)
    rw [this, List.map_id]
  cases c
  simp only [shifted] at *
  rw [e]
theorem barAt_shift {c : Chan} {j : Nat} (hj : j < c.bars.length) (h : Int) : barAt (shifted c h) j = shiftBar h (barAt c j) := by
  unfold barAt shifted
  simp only [List.getD_eq_getElem?_getD, List.getElem?_map, List.getElem?_eq_getElem hj]
  rfl
theorem depth_shift {c : Chan} (hc : ChOk c) {j : Nat} (hj : j < c.bars.length) (g h : Int) : depthOf (shifted c g) j (h + g) = depthOf c j h := by
  unfold depthOf
  rw [barAt_shift hj, shiftBar_get (hc.bar1 hj)]
  congr 3
  omega
theorem depth_period {c : Chan} {j : Nat} (hj : j < c.bars.length) {n : Int} (hd : (periodOf c : Int) ∣ n) (h : Int) : depthOf c j (h + n) = depthOf c j h := by
  unfold depthOf
  obtain ⟨k, rfl⟩ := Int.dvd_trans (Int.natCast_dvd_natCast.mpr (period_dvd (barAt_mem hj))) hd
  rw [Int.add_mul_emod_self_left]
theorem barAt_back {c : Chan} {j : Nat} (hj : j < c.bars.length) : barAt (backOf c) (c.bars.length - 1 - j) = barAt c j := by
  unfold barAt backOf
  simp only [List.getD_eq_getElem?_getD]
  rw [List.getElem?_reverse (by omega), show c.bars.length - 1 - (c.bars.length - 1 - j) = j by omega]
theorem depth_back {c : Chan} {j : Nat} (hj : j < c.bars.length) (h : Int) : depthOf (backOf c) (c.bars.length - 1 - j) h = depthOf c j h := by
  unfold depthOf
  rw [barAt_back hj]

/-! ### passages -/
def lastI (r : List Int) : Int := r.getD (r.length - 1) 0
def legAt (c : Chan) (j : Nat) : Int := c.legs.getD j 0
def waitAt (c : Chan) (j : Nat) : Int := c.waits.getD j 0
def extR (c : Chan) (j : Nat) (row : List Int) : List (List Int) := (List.range ((waitAt c j).toNat + 1)).map fun m => row ++ [lastI row + legAt c j + (m : Nat)]
def okR (c : Chan) (d : Int) (j : Nat) (row : List Int) : Bool := decide (d ≤ depthOf c j (lastI row))
def rowsTo (c : Chan) (d h : Int) : Nat → List (List Int)
  | 0 => if d ≤ depthOf c 0 h then [[h]] else []
  | k + 1 => ((rowsTo c d h k).flatMap (extR c k)).filter (okR c d (k + 1))
def allFrom (c : Chan) (d h : Int) : List (List Int) := rowsTo c d h (c.bars.length - 1)
def rowsD (rows : List (List Int)) : PyData := .list (rows.map tI)
theorem ext_len {c : Chan} (hc : ChOk c) {j : Nat} (hj : j + 1 < c.bars.length) (row : List Int) : (extR c j row).length ≤ 4 := by
  unfold extR
  rw [List.length_map, List.length_range]
  have h := hc.wv _ (getD_mem (xs := c.waits) (i := j) (by have := hc.wl; omega))
  unfold waitAt
  omega
theorem flatMap_len {α β : Type} {f : α → List β} {n : Nat} : ∀ {xs : List α}, (∀ x ∈ xs, (f x).length ≤ n) → (xs.flatMap f).length ≤ n * xs.length
  | [], _ => Nat.zero_le _
  | x :: xs, h => by
    rw [List.flatMap_cons, List.length_append, List.length_cons]
    have h1 := h x List.mem_cons_self
    have h2 := flatMap_len (xs := xs) fun y hy => h y (List.mem_cons_of_mem _ hy)
    rw [Nat.mul_add]
    omega
theorem rows_len {c : Chan} (hc : ChOk c) (d h : Int) : ∀ k, k < c.bars.length → (rowsTo c d h k).length ≤ 4 ^ k
  | 0, _ => by
    unfold rowsTo
    split <;> simp
  | k + 1, hk => by
    unfold rowsTo
    refine Nat.le_trans (List.length_filter_le _ _) (Nat.le_trans (flatMap_len fun r _ => ext_len hc hk r) ?_)
    have := rows_len hc d h k (by omega)
    rw [Nat.pow_succ]
    omega
theorem rows_len16 {c : Chan} (hc : ChOk c) (d h : Int) {k : Nat} (hk : k < c.bars.length) : (rowsTo c d h k).length ≤ 16 := by
  have h3 := hc.b3
  refine Nat.le_trans (rows_len hc d h k hk) ?_
  have : k = 0 ∨ k = 1 ∨ k = 2 := by omega
  rcases this with rfl | rfl | rfl <;> decide
theorem ext_eq {c : Chan} {i : Nat} (xs : List (List Int)) : (xs.flatMap fun x => ((List.range ((waitAt c i).toNat + 1)).filter fun _ => true).map fun (m : Nat) => tI (x ++ [lastI x + legAt c i + (m : Nat)])) = (xs.flatMap (extR c i)).map tI := by
  rw [List.map_flatMap]
  refine congrArg (fun g => xs.flatMap g) (funext fun x => ?_)
  unfold extR
  rw [List.map_map, List.filter_eq_self.mpr (fun _ _ => rfl)]
  rfl
theorem row_shape {c : Chan} {d h : Int} : ∀ {k : Nat} {r : List Int}, r ∈ rowsTo c d h k → r.length = k + 1
  | 0, r, hr => by
    unfold rowsTo at hr
    split at hr
    · rw [List.mem_singleton.mp hr]; rfl
    · cases hr
  | k + 1, r, hr => by
    unfold rowsTo at hr
    obtain ⟨q, hq, hm⟩ := List.mem_flatMap.mp (List.mem_filter.mp hr).1
    obtain ⟨m, _, rfl⟩ := List.mem_map.mp hm
    rw [List.length_append, row_shape hq]
    rfl
theorem atI_last {r : List Int} (h : r ≠ []) : atI (r.map PyData.int) (-1) = some (.int (lastI r)) := by
  unfold atI lastI
  have hl : 0 < r.length := List.length_pos_iff.mpr h
  have e : ixN (r.map PyData.int).length (-1) = some (r.length - 1) := by
    unfold ixN
    rw [List.length_map]
    simp
    omega
  first
    | (rw [e]; simp [hl]; done)
    | (simp only [e]; show (r.map PyData.int)[r.length - 1]? = _; rw [List.getElem?_map, List.getElem?_eq_getElem (by omega), List.getD_eq_getElem?_getD, List.getElem?_eq_getElem (by omega)]; rfl)
section
variable {P : Program} {w : World} {K : PySem.W.Frag} {mg : Str → Option Value} {base : Heap}
def cAllFrom : Ctr := fun svs τ Q => ∃ c d h, svs = [.val (chD c), .val (.int d), .val (.int h)] ∧ ChOk c ∧ Q (.val (rowsD (allFrom c d h))) τ
abbrev s_all_from : Stmt := topS 25
theorem sc_all_from : FnScope ["channel", "draught", "hour", "found", "bar", "leg", "wait", "row", "more"] ["channel", "draught", "hour"] (defScope s_all_from) := ⟨rfl, rfl, rfl, by decide +kernel, rfl, by decide +kernel, by decide +kernel⟩
local macro_rules | `(tactic| walk_at "nm") => `(tactic| first
  | with_reducible refine de_name (x := "channel") 0 (by with_unfolding_all rfl) (by with_unfolding_all first | exact Or.inl rfl | exact Or.inr (Or.inl rfl) | exact Or.inr (Or.inr rfl)) (by with_unfolding_all rfl) ?_ (by with_unfolding_all decide) (by with_unfolding_all decide)
  | with_reducible refine de_name (x := "draught") 1 (by with_unfolding_all rfl) (by with_unfolding_all first | exact Or.inl rfl | exact Or.inr (Or.inl rfl) | exact Or.inr (Or.inr rfl)) (by with_unfolding_all rfl) ?_ (by with_unfolding_all decide) (by with_unfolding_all decide)
  | with_reducible refine de_name (x := "hour") 2 (by with_unfolding_all rfl) (by with_unfolding_all first | exact Or.inl rfl | exact Or.inr (Or.inl rfl) | exact Or.inr (Or.inr rfl)) (by with_unfolding_all rfl) ?_ (by with_unfolding_all decide) (by with_unfolding_all decide)
  | with_reducible refine de_name (x := "found") 3 (by with_unfolding_all rfl) (by with_unfolding_all first | exact Or.inl rfl | exact Or.inr (Or.inl rfl) | exact Or.inr (Or.inr rfl)) (by with_unfolding_all rfl) ?_ (by with_unfolding_all decide) (by with_unfolding_all decide)
  | with_reducible refine de_name (x := "bar") 4 (by with_unfolding_all rfl) (by with_unfolding_all first | exact Or.inl rfl | exact Or.inr (Or.inl rfl) | exact Or.inr (Or.inr rfl)) (by with_unfolding_all rfl) ?_ (by with_unfolding_all decide) (by with_unfolding_all decide)
  | with_reducible refine de_name (x := "leg") 5 (by with_unfolding_all rfl) (by with_unfolding_all first | exact Or.inl rfl | exact Or.inr (Or.inl rfl) | exact Or.inr (Or.inr rfl)) (by with_unfolding_all rfl) ?_ (by with_unfolding_all decide) (by with_unfolding_all decide)
  | with_reducible refine de_name (x := "wait") 6 (by with_unfolding_all rfl) (by with_unfolding_all first | exact Or.inl rfl | exact Or.inr (Or.inl rfl) | exact Or.inr (Or.inr rfl)) (by with_unfolding_all rfl) ?_ (by with_unfolding_all decide) (by with_unfolding_all decide)
  | with_reducible refine de_name (x := "row") 7 (by with_unfolding_all rfl) (by with_unfolding_all first | exact Or.inl rfl | exact Or.inr (Or.inl rfl) | exact Or.inr (Or.inr rfl)) (by with_unfolding_all rfl) ?_ (by with_unfolding_all decide) (by with_unfolding_all decide)
  | with_reducible refine de_name (x := "more") 8 (by with_unfolding_all rfl) (by with_unfolding_all first | exact Or.inl rfl | exact Or.inr (Or.inl rfl) | exact Or.inr (Or.inr rfl)) (by with_unfolding_all rfl) ?_ (by with_unfolding_all decide) (by with_unfolding_all decide))
local macro_rules | `(tactic| walk_at "st") => `(tactic| first
  | with_reducible refine ds_set (x := "channel") 0 (by with_unfolding_all exact sc_all_from.nd) (by with_unfolding_all rfl) (by with_unfolding_all first | exact Or.inl rfl | exact Or.inr rfl) ?_ (by with_unfolding_all rfl) (by with_unfolding_all first | exact .inl rfl | exact .inr rfl)
  | with_reducible refine ds_set (x := "draught") 1 (by with_unfolding_all exact sc_all_from.nd) (by with_unfolding_all rfl) (by with_unfolding_all first | exact Or.inl rfl | exact Or.inr rfl) ?_ (by with_unfolding_all rfl) (by with_unfolding_all first | exact .inl rfl | exact .inr rfl)
  | with_reducible refine ds_set (x := "hour") 2 (by with_unfolding_all exact sc_all_from.nd) (by with_unfolding_all rfl) (by with_unfolding_all first | exact Or.inl rfl | exact Or.inr rfl) ?_ (by with_unfolding_all rfl) (by with_unfolding_all first | exact .inl rfl | exact .inr rfl)
  | with_reducible refine ds_set (x := "found") 3 (by with_unfolding_all exact sc_all_from.nd) (by with_unfolding_all rfl) (by with_unfolding_all first | exact Or.inl rfl | exact Or.inr rfl) ?_ (by with_unfolding_all rfl) (by with_unfolding_all first | exact .inl rfl | exact .inr rfl)
  | with_reducible refine ds_set (x := "bar") 4 (by with_unfolding_all exact sc_all_from.nd) (by with_unfolding_all rfl) (by with_unfolding_all first | exact Or.inl rfl | exact Or.inr rfl) ?_ (by with_unfolding_all rfl) (by with_unfolding_all first | exact .inl rfl | exact .inr rfl)
  | with_reducible refine ds_set (x := "leg") 5 (by with_unfolding_all exact sc_all_from.nd) (by with_unfolding_all rfl) (by with_unfolding_all first | exact Or.inl rfl | exact Or.inr rfl) ?_ (by with_unfolding_all rfl) (by with_unfolding_all first | exact .inl rfl | exact .inr rfl)
  | with_reducible refine ds_set (x := "wait") 6 (by with_unfolding_all exact sc_all_from.nd) (by with_unfolding_all rfl) (by with_unfolding_all first | exact Or.inl rfl | exact Or.inr rfl) ?_ (by with_unfolding_all rfl) (by with_unfolding_all first | exact .inl rfl | exact .inr rfl)
  | with_reducible refine ds_set (x := "row") 7 (by with_unfolding_all exact sc_all_from.nd) (by with_unfolding_all rfl) (by with_unfolding_all first | exact Or.inl rfl | exact Or.inr rfl) ?_ (by with_unfolding_all rfl) (by with_unfolding_all first | exact .inl rfl | exact .inr rfl)
  | with_reducible refine ds_set (x := "more") 8 (by with_unfolding_all exact sc_all_from.nd) (by with_unfolding_all rfl) (by with_unfolding_all first | exact Or.inl rfl | exact Or.inr rfl) ?_ (by with_unfolding_all rfl) (by with_unfolding_all first | exact .inl rfl | exact .inr rfl))

local macro_rules | `(tactic| walk_at "lc row / more") => `(tactic| refine de_lc2 (t := .name 7) (t1 := .name 8) (own := [("row", 7), ("more", 8)]) (vs1 := [8]) rfl sc_all_from.nd (by first | exact blkOk_by (N := ["channel", "draught", "hour", "found", "bar", "leg", "wait", "row", "more"]) (sc := defScope s_all_from) (by decide +kernel) | exact blkOk_by (N := ["channel", "draught", "hour", "found", "bar", "leg", "wait", "row", "more"]) (sc := relS _ (defScope s_all_from)) (by decide +kernel)) (by decide) (by decide) (by decide) (fun _ _ _ _ _ => pgx_name sc_all_from.nd rfl (by first | exact Or.inl rfl | exact Or.inr rfl)) (fun _ _ _ _ _ => pgx_name sc_all_from.nd rfl (by first | exact Or.inl rfl | exact Or.inr rfl)) ?_)
local macro_rules | `(tactic| walk_at "slc row / more") => `(tactic| first
  | refine ds_setLc2 (t := .name 7) (t1 := .name 8) (own := [("row", 7), ("more", 8)]) (vs1 := [8]) 3 (y := "found") rfl sc_all_from.nd rfl rfl (sw_true rfl rfl rfl (by decide +kernel)) (by first | exact blkOk_by (N := ["channel", "draught", "hour", "found", "bar", "leg", "wait", "row", "more"]) (sc := defScope s_all_from) (by decide +kernel) | exact blkOk_by (N := ["channel", "draught", "hour", "found", "bar", "leg", "wait", "row", "more"]) (sc := relS _ (defScope s_all_from)) (by decide +kernel)) (by decide) (by decide) (by decide) (fun _ _ _ _ _ => pgx_name sc_all_from.nd rfl (by first | exact Or.inl rfl | exact Or.inr rfl)) (fun _ _ _ _ _ => pgx_name sc_all_from.nd rfl (by first | exact Or.inl rfl | exact Or.inr rfl)) ?_)
local macro_rules | `(tactic| walk_at "lc row") => `(tactic| refine de_lc (t := .name 7) (own := [("row", 7)]) rfl sc_all_from.nd (by first | exact blkOk_by (N := ["channel", "draught", "hour", "found", "bar", "leg", "wait", "row", "more"]) (sc := defScope s_all_from) (by decide +kernel) | exact blkOk_by (N := ["channel", "draught", "hour", "found", "bar", "leg", "wait", "row", "more"]) (sc := relS _ (defScope s_all_from)) (by decide +kernel)) (by decide) (fun _ _ _ _ _ => pgx_name sc_all_from.nd rfl (by first | exact Or.inl rfl | exact Or.inr rfl)) ?_)
local macro_rules | `(tactic| walk_at "slc row") => `(tactic| first
  | refine ds_setLc (t := .name 7) (own := [("row", 7)]) 3 (y := "found") rfl sc_all_from.nd rfl rfl (sw_true rfl rfl rfl (by decide +kernel)) (by first | exact blkOk_by (N := ["channel", "draught", "hour", "found", "bar", "leg", "wait", "row", "more"]) (sc := defScope s_all_from) (by decide +kernel) | exact blkOk_by (N := ["channel", "draught", "hour", "found", "bar", "leg", "wait", "row", "more"]) (sc := relS _ (defScope s_all_from)) (by decide +kernel)) (by decide) (fun _ _ _ _ _ => pgx_name sc_all_from.nd rfl (by first | exact Or.inl rfl | exact Or.inr rfl)) ?_)

theorem kn_all_from (D : HasDef K mg "all_from" s_all_from ["channel", "draught", "hour"]) (B : Bl mg) (k1 : Knows P w K mg base 1 "depth_of" cDepth) : Knows P w K mg base 2 "all_from" cAllFrom := by
  refine knows_mk D sc_all_from (fun _ _ _ ⟨_, _, _, e, _⟩ => by rw [e]; rfl) (fun f cdv A outer s H E hr svs τ Q hC => ?_)
  obtain ⟨c, d, h, rfl, hc, q⟩ := hC
  have hb1 := hc.b1
  have hb3 := hc.b3
  refine db_seq (fun ρ' τ' => τ' = τ ∧ ρ' = [some (.val (chD c)), some (.val (.int d)), some (.val (.int h)), some (.val (rowsD (rowsTo c d h 0))), none, none, none, none, none]) ?_ ?_
  · walk_at "go"
    refine ⟨c, 0, h, rfl, by omega, hc.bar1 (by omega), ?_⟩
    walk_at "go"
    refine ⟨fun g => ?_, fun g => ?_⟩
    · walk_at "go"
      refine ⟨rfl, ?_⟩
      unfold rowsTo
      rw [if_pos (of_decide_eq_true g)]
      rfl
    · walk_at "go"
      refine ⟨rfl, ?_⟩
      unfold rowsTo
      rw [if_neg (of_decide_eq_false g)]
      rfl
  rintro ρ' τ' ⟨rfl, rfl⟩
  walk_at "go"
  refine ds_for (t := .name 4) rfl PassesOwn.never (pgx_name sc_all_from.nd rfl (by first | exact Or.inl rfl | exact Or.inr rfl)) (di_range2 ‹Bl _› rfl ?_)
  walk_at "go"
  refine ⟨⟨by omega, by rw [List.length_map]; omega⟩, fun i ρ' τ2 => τ2 = τ' ∧ ∃ v1 v2 v3 v4 v5, ρ' = [some (.val (chD c)), some (.val (.int d)), some (.val (.int h)), some (.val (rowsD (rowsTo c d h i))), v1, v2, v3, v4, v5], ⟨rfl, none, none, none, none, none, rfl⟩, fun _ _ _ _ => trivial, ?_, ?_⟩
  · rintro i dd ρ' τ2 hd ⟨rfl, v1, v2, v3, v4, v5, rfl⟩
    have hi : i < c.bars.length - 1 := by
      have := (List.getElem?_eq_some_iff.mp hd).1
      rw [rangeD_length, List.length_map] at this
      omega
    rw [rangeD_get (by rw [List.length_map]; omega)] at hd
    cases hd
    have hll := hc.ll
    have hwl := hc.wl
    have hw := hc.wv _ (getD_mem (xs := c.waits) (i := i) (by omega))
    refine ⟨_, rfl, ?_⟩
    walk_at "go"
    refine ds_asg (t := .tup [5, 6]) (pgx_tup2 rfl (pg_name sc_all_from.nd rfl (by first | exact Or.inl rfl | exact Or.inr rfl)) (pg_name sc_all_from.nd rfl (by first | exact Or.inl rfl | exact Or.inr rfl))) ?_
    unfold chD tI
    walk_at "go"
    refine ix_tup' (atI_int (by omega) (by omega)) ?_
    walk_at "go"
    refine ix_tup' (atI_int (by omega) (by omega)) ?_
    have e1 : ((1 : Int) + (i : Nat) - 1).toNat = i := by omega
    rw [e1]
    walk_at "go"
    have ew : (waitAt c i) = c.waits.getD i 0 := rfl
    rw [← ew] at hw ⊢
    have hlen := rows_len16 hc d h (k := i) (by omega)
    walk_at "slc row / more"
    refine di_lst ?_
    walk_at "go"
    refine lc2q_of (rowsTo c d h i) tI rfl (fun _ => List.range ((waitAt c i).toNat + 1)) (fun m => .int (0 + (m : Nat))) (fun _ _ => true) (fun row m => tI (row ++ [lastI row + legAt c i + (m : Nat)])) ?_ ?_ ?_
    · rw [ext_eq]
      rw [List.length_map]
      have := flatMap_len (f := extR c i) (xs := rowsTo c d h i) (n := 4) fun r _ => ext_len hc (by omega) r
      omega
    · intro row hrow
      have hrl := row_shape hrow
      have hne : row ≠ [] := by intro z; rw [z] at hrl; simp at hrl
      refine ⟨_, rfl, fun D acc hD => ⟨fun s H C cl fp => df_nil ⟨rfl, rfl⟩, fun s H C cl fp => ?_, fun m hm => ⟨_, rfl, fun acc => ⟨fun s H C cl fp => df_nil ⟨rfl, rfl⟩, fun _ s H C cl fp => ?_⟩⟩⟩⟩
      · refine di_range1 ‹Bl _› rfl ?_
        walk_at "go"
        refine ⟨by omega, by omega, ?_, rfl, fun _ => trivial⟩
        unfold rangeD
        rw [show (waitAt c i + 1).toNat = (waitAt c i).toNat + 1 from by omega]
      · walk_at "go"
        unfold tI
        refine ix_tup' (atI_last hne) ?_
        walk_at "go"
        refine plus_tup (by simp; omega) ?_
        refine ⟨?_, rfl⟩
        rw [List.map_append]
        show _ = MV.val (PyData.tuple (_ ++ [PyData.int (lastI row + legAt c i + (m : Nat))]))
        rw [Int.zero_add]
        rfl
    · rw [ext_eq]
      show Db _ [some (.val (chD c)), some (.val (.int d)), some (.val (.int h)), some (.val (rowsD ((rowsTo c d h i).flatMap (extR c i)))), _, _, _, _, _] τ2 _ _
      refine db_one ?_
      walk_at "slc row"
      refine di_lst ?_
      walk_at "go"
      refine lcq_filter ((rowsTo c d h i).flatMap (extR c i)) tI tI (okR c d (i + 1)) rfl ?_ ?_ ?_
      · have := flatMap_len (f := extR c i) (xs := rowsTo c d h i) (n := 4) fun r _ => ext_len hc (by omega) r
        omega
      · intro row hrow
        have hne : row ≠ [] := by
          obtain ⟨q, _, hm⟩ := List.mem_flatMap.mp hrow
          obtain ⟨m, _, rfl⟩ := List.mem_map.mp hm
          simp
        refine ⟨_, rfl, fun D acc hD s H C cl fp => ⟨?_, fun _ => ?_⟩⟩
        · walk_at "go"
          unfold tI
          refine ix_tup' (atI_last hne) ?_
          walk_at "go"
          refine ⟨c, i + 1, lastI row, ?_, by omega, hc.bar1 (by omega), ?_⟩
          · have e : (1 : Int) + (i : Nat) = ((i + 1 : Nat) : Int) := by omega
            rw [e]
          · walk_at "go"
            exact ⟨rfl, rfl⟩
        · walk_at "go"
          exact ⟨rfl, rfl⟩
      · exact ⟨rfl, _, _, _, _, _, rfl⟩
  · rintro ρ' τ2 ⟨rfl, v1, v2, v3, v4, v5, rfl⟩
    walk_at "go"
    rw [rangeD_length, List.length_map]
    have e : ((c.bars.length : Int) - 1).toNat = c.bars.length - 1 := by omega
    rw [e]
    exact q
end

section
variable {P : Program} {w : World} {K : PySem.W.Frag} {mg : Str → Option Value} {base : Heap}
def cChk3 : Ctr := fun svs τ Q => ∃ c, ∃ d h : Int, svs = [.val (chD c), .val (.int d), .val (.int h)] ∧ ChOk c ∧ 0 ≤ d ∧ d ≤ 6 ∧ 0 ≤ h ∧ h ≤ 999 ∧ Q (.val .none) τ
abbrev s_check_three : Stmt := topS 26
theorem sc_check_three : FnScope ["channel", "draught", "hour"] ["channel", "draught", "hour"] (defScope s_check_three) := ⟨rfl, rfl, rfl, by decide +kernel, rfl, by decide +kernel, by decide +kernel⟩
local macro_rules | `(tactic| walk_at "nm") => `(tactic| first
  | with_reducible refine de_name (x := "channel") 0 (by with_unfolding_all rfl) (by with_unfolding_all first | exact Or.inl rfl | exact Or.inr (Or.inl rfl) | exact Or.inr (Or.inr rfl)) (by with_unfolding_all rfl) ?_ (by with_unfolding_all decide) (by with_unfolding_all decide)
  | with_reducible refine de_name (x := "draught") 1 (by with_unfolding_all rfl) (by with_unfolding_all first | exact Or.inl rfl | exact Or.inr (Or.inl rfl) | exact Or.inr (Or.inr rfl)) (by with_unfolding_all rfl) ?_ (by with_unfolding_all decide) (by with_unfolding_all decide)
  | with_reducible refine de_name (x := "hour") 2 (by with_unfolding_all rfl) (by with_unfolding_all first | exact Or.inl rfl | exact Or.inr (Or.inl rfl) | exact Or.inr (Or.inr rfl)) (by with_unfolding_all rfl) ?_ (by with_unfolding_all decide) (by with_unfolding_all decide))
local macro_rules | `(tactic| walk_at "st") => `(tactic| first
  | with_reducible refine ds_set (x := "channel") 0 (by with_unfolding_all exact sc_check_three.nd) (by with_unfolding_all rfl) (by with_unfolding_all first | exact Or.inl rfl | exact Or.inr rfl) ?_ (by with_unfolding_all rfl) (by with_unfolding_all first | exact .inl rfl | exact .inr rfl)
  | with_reducible refine ds_set (x := "draught") 1 (by with_unfolding_all exact sc_check_three.nd) (by with_unfolding_all rfl) (by with_unfolding_all first | exact Or.inl rfl | exact Or.inr rfl) ?_ (by with_unfolding_all rfl) (by with_unfolding_all first | exact .inl rfl | exact .inr rfl)
  | with_reducible refine ds_set (x := "hour") 2 (by with_unfolding_all exact sc_check_three.nd) (by with_unfolding_all rfl) (by with_unfolding_all first | exact Or.inl rfl | exact Or.inr rfl) ?_ (by with_unfolding_all rfl) (by with_unfolding_all first | exact .inl rfl | exact .inr rfl))



theorem kn_check_three (D : HasDef K mg "check_three" s_check_three ["channel", "draught", "hour"]) (k1 : Knows P w K mg base 4 "check_channel" cChk) (k2 : Knows P w K mg base 2 "check_draught" (cChkI 0 6)) (k3 : Knows P w K mg base 2 "check_hour" (cChkI 0 999)) : Knows P w K mg base 5 "check_three" cChk3 := by
  refine knows_mk D sc_check_three (fun _ _ _ ⟨_, _, _, e, _⟩ => by rw [e]; rfl) (fun f cdv A outer s H E hr svs τ Q hC => ?_)
  obtain ⟨c, d, h, rfl, hc, d0, d1, h0, h1, q⟩ := hC
  walk_at "go"
  refine ⟨_, rfl, hc, ?_⟩
  walk_at "go"
  refine ⟨_, rfl, d0, d1, ?_⟩
  walk_at "go"
  refine ⟨_, rfl, h0, h1, ?_⟩
  walk_at "go"
  exact q
end

section
variable {P : Program} {w : World} {K : PySem.W.Frag} {mg : Str → Option Value} {base : Heap}
def cPasses : Ctr := fun svs τ Q => ∃ c, ∃ d h : Int, svs = [.val (chD c), .val (.int d), .val (.int h)] ∧ ChOk c ∧ 0 ≤ d ∧ d ≤ 6 ∧ 0 ≤ h ∧ h ≤ 999 ∧ Q (.val (.tuple ((allFrom c d h).map tI))) τ
abbrev s_passages : Stmt := topS 27
theorem sc_passages : FnScope ["channel", "draught", "hour"] ["channel", "draught", "hour"] (defScope s_passages) := ⟨rfl, rfl, rfl, by decide +kernel, rfl, by decide +kernel, by decide +kernel⟩
local macro_rules | `(tactic| walk_at "nm") => `(tactic| first
  | with_reducible refine de_name (x := "channel") 0 (by with_unfolding_all rfl) (by with_unfolding_all first | exact Or.inl rfl | exact Or.inr (Or.inl rfl) | exact Or.inr (Or.inr rfl)) (by with_unfolding_all rfl) ?_ (by with_unfolding_all decide) (by with_unfolding_all decide)
  | with_reducible refine de_name (x := "draught") 1 (by with_unfolding_all rfl) (by with_unfolding_all first | exact Or.inl rfl | exact Or.inr (Or.inl rfl) | exact Or.inr (Or.inr rfl)) (by with_unfolding_all rfl) ?_ (by with_unfolding_all decide) (by with_unfolding_all decide)
  | with_reducible refine de_name (x := "hour") 2 (by with_unfolding_all rfl) (by with_unfolding_all first | exact Or.inl rfl | exact Or.inr (Or.inl rfl) | exact Or.inr (Or.inr rfl)) (by with_unfolding_all rfl) ?_ (by with_unfolding_all decide) (by with_unfolding_all decide))
local macro_rules | `(tactic| walk_at "st") => `(tactic| first
  | with_reducible refine ds_set (x := "channel") 0 (by with_unfolding_all exact sc_passages.nd) (by with_unfolding_all rfl) (by with_unfolding_all first | exact Or.inl rfl | exact Or.inr rfl) ?_ (by with_unfolding_all rfl) (by with_unfolding_all first | exact .inl rfl | exact .inr rfl)
  | with_reducible refine ds_set (x := "draught") 1 (by with_unfolding_all exact sc_passages.nd) (by with_unfolding_all rfl) (by with_unfolding_all first | exact Or.inl rfl | exact Or.inr rfl) ?_ (by with_unfolding_all rfl) (by with_unfolding_all first | exact .inl rfl | exact .inr rfl)
  | with_reducible refine ds_set (x := "hour") 2 (by with_unfolding_all exact sc_passages.nd) (by with_unfolding_all rfl) (by with_unfolding_all first | exact Or.inl rfl | exact Or.inr rfl) ?_ (by with_unfolding_all rfl) (by with_unfolding_all first | exact .inl rfl | exact .inr rfl))



theorem kn_passages (D : HasDef K mg "passages" s_passages ["channel", "draught", "hour"]) (B : Bl mg) (k1 : Knows P w K mg base 5 "check_three" cChk3) (k2 : Knows P w K mg base 2 "all_from" cAllFrom) : Knows P w K mg base 6 "passages" cPasses := by
  refine knows_mk D sc_passages (fun _ _ _ ⟨_, _, _, e, _⟩ => by rw [e]; rfl) (fun f cdv A outer s H E hr svs τ Q hC => ?_)
  obtain ⟨c, d, h, rfl, hc, d0, d1, h0, h1, q⟩ := hC
  walk_at "go"
  refine ⟨c, d, h, rfl, hc, d0, d1, h0, h1, ?_⟩
  walk_at "go"
  refine ⟨c, d, h, rfl, hc, ?_⟩
  exact tup_lst rfl q
end

def isOut (c : Chan) (d h : Int) : Bool := !(allFrom c d h).isEmpty
theorem pl_rows (n : Nat) (rows : List (List Int)) : Pl (n + 2) (rowsD rows) := fun x hx => by
  obtain ⟨r, _, rfl⟩ := List.mem_map.mp hx
  exact pl_tI r
def hoursOf (c : Chan) (d : Int) : List Int := ((List.range (periodOf c)).filter fun h => isOut c d (h : Nat)).map fun h => ((h : Nat) : Int)
theorem hours_len {c : Chan} (hc : ChOk c) (d : Int) : (hoursOf c d).length ≤ 512 := by
  unfold hoursOf
  rw [List.length_map]
  refine Nat.le_trans (List.length_filter_le _ _) ?_
  rw [List.length_range]
  exact period_le hc
def cHoursF : Ctr := fun svs τ Q => ∃ c, ∃ d : Int, svs = [.val (chD c), .val (.int d)] ∧ ChOk c ∧ Q (.val (.list ((hoursOf c d).map .int))) τ
def optD : Option Int → PyData
  | none => .none
  | some i => .int i
def soonOf (c : Chan) (d h : Int) : Option Int := ((allFrom c d h).map lastI).min?
theorem isMin_min? {ns : List Int} {m : Int} (h : IsMin ns m) : ns.min? = some m := List.min?_eq_some_iff.mpr h

/-! ### rows ascend -/
theorem lexL_app_lt : ∀ {r q x y : List Int}, r.length = q.length → lexL r q = true → lexL (r ++ x) (q ++ y) = true
  | [], [], _, _, _, h => by cases h
  | [], _ :: _, _, _, h, _ => by cases h
  | _ :: _, [], _, _, h, _ => by cases h
  | a :: r, b :: q, x, y, hl, h => by
    show lexL (a :: (r ++ x)) (b :: (q ++ y)) = true
    unfold lexL at h ⊢
    by_cases e : a = b
    · rw [if_pos e] at h ⊢
      exact lexL_app_lt (by simpa using hl) h
    · rw [if_neg e] at h ⊢
      exact h
theorem lexL_app_same : ∀ {r x y : List Int}, lexL (r ++ x) (r ++ y) = lexL x y
  | [], _, _ => rfl
  | a :: r, x, y => by
    show lexL (a :: (r ++ x)) (a :: (r ++ y)) = _
    rw [lexL, if_pos rfl]
    exact lexL_app_same
def Asc (rows : List (List Int)) : Prop := rows.Pairwise fun r q => lexL r q = true
theorem asc_ext (c : Chan) (i : Nat) (r : List Int) : Asc (extR c i r) := by
  unfold extR Asc
  rw [List.pairwise_map]
  refine List.pairwise_lt_range.imp fun {a b} h => ?_
  rw [lexL_app_same]
  unfold lexL
  rw [if_neg (by omega)]
  exact decide_eq_true (by omega)
theorem asc_rows (c : Chan) (d h : Int) : ∀ k, Asc (rowsTo c d h k)
  | 0 => by
    unfold rowsTo Asc
    split
    · exact List.pairwise_singleton _ _
    · exact List.Pairwise.nil
  | k + 1 => by
    unfold rowsTo
    refine List.Pairwise.filter _ ?_
    rw [List.pairwise_flatMap]
    refine ⟨fun r _ => asc_ext c k r, ?_⟩
    have ih := asc_rows c d h k
    refine List.Pairwise.imp_of_mem (fun {r q} hr hq hrq x hx y hy => ?_) ih
    obtain ⟨m, _, rfl⟩ := List.mem_map.mp hx
    obtain ⟨m', _, rfl⟩ := List.mem_map.mp hy
    exact lexL_app_lt (by rw [row_shape hr, row_shape hq]) hrq
theorem asc_all {c : Chan} {d h : Int} : (allFrom c d h).Pairwise fun r q => lexL q r = false := (asc_rows c d h _).imp fun h => lexL_asym h
def extTo (c : Chan) (j : Nat) (row : List Int) (n : Nat) : List (List Int) := (List.range n).map fun m => row ++ [lastI row + legAt c j + (m : Nat)]
theorem extTo_succ {c : Chan} {j n : Nat} {row : List Int} : extTo c j row (n + 1) = extTo c j row n ++ [row ++ [lastI row + legAt c j + (n : Nat)]] := by
  unfold extTo
  rw [List.range_succ, List.map_append]
  rfl
theorem atI_lastLen {r : List Int} (h : r ≠ []) : atI (r.map PyData.int) (((r.map PyData.int).length : Int) - 1) = some (.int (lastI r)) := by
  have hl : 0 < r.length := List.length_pos_iff.mpr h
  rw [List.length_map]
  rw [atI_int (by omega) (by omega)]
  unfold lastI
  rw [show ((r.length : Int) - 1).toNat = r.length - 1 from by omega]
theorem lastI_snoc (r : List Int) (x : Int) : lastI (r ++ [x]) = x := by
  unfold lastI
  rw [List.length_append, List.length_singleton, Nat.add_sub_cancel, List.getD_eq_getElem?_getD, List.getElem?_append_right (Nat.le_refl _), Nat.sub_self]
  rfl
theorem lookup_here {l : Addr} {m : MO} {τ : Store} : ((l, m) :: τ : Store).lookup l = some m := by simp [List.lookup]
theorem setS_here {l : Addr} {m m' : MO} {τ : Store} : setS l m ((l, m') :: τ) = (l, m) :: τ := if_pos rfl
theorem flat_snoc {xs : List (List Int)} {f : List Int → List (List Int)} {i : Nat} {x : List Int} (h : xs[i]? = some x) : (xs.take (i + 1)).flatMap f = (xs.take i).flatMap f ++ f x := by
  rw [List.take_add_one, h, List.flatMap_append]
  simp

/-! ### rows and hours come again -/
theorem map_snoc_add (r : List Int) (t x : Int) : (r ++ [x]).map (· + t) = r.map (· + t) ++ [x + t] := by rw [List.map_append]; rfl
theorem lastI_map {r : List Int} (h : r ≠ []) (t : Int) : lastI (r.map (· + t)) = lastI r + t := by
  have hl : 0 < r.length := List.length_pos_iff.mpr h
  unfold lastI
  rw [List.length_map, List.getD_eq_getElem?_getD, List.getD_eq_getElem?_getD, List.getElem?_map, List.getElem?_eq_getElem (by omega)]
  rfl
theorem extR_add {c : Chan} {i : Nat} {r : List Int} (h : r ≠ []) (t : Int) : extR c i (r.map (· + t)) = (extR c i r).map (fun q => q.map (· + t)) := by
  unfold extR
  rw [List.map_map, lastI_map h]
  refine congrArg (fun g => (List.range ((waitAt c i).toNat + 1)).map g) (funext fun m => ?_)
  show _ = (r ++ [lastI r + legAt c i + (m : Nat)]).map (· + t)
  rw [map_snoc_add]
  have e : lastI r + t + legAt c i + (m : Nat) = lastI r + legAt c i + (m : Nat) + t := by omega
  rw [e]
theorem rowsTo_add {c e : Chan} {t : Int} (hl : e.legs = c.legs) (hw : e.waits = c.waits) (d h : Int) : ∀ k, (∀ j, j ≤ k → ∀ x, depthOf e j (x + t) = depthOf c j x) → rowsTo e d (h + t) k = (rowsTo c d h k).map (fun r => r.map (· + t))
  | 0, hd => by
    unfold rowsTo
    rw [hd 0 (Nat.le_refl _)]
    split <;> rfl
  | k + 1, hd => by
    unfold rowsTo
    rw [rowsTo_add hl hw d h k fun j hj => hd j (by omega)]
    have ex : extR e k = extR c k := by
      funext r
      unfold extR waitAt legAt
      rw [hl, hw]
    rw [ex]
    have e1 : ((rowsTo c d h k).map (fun r => r.map (· + t))).flatMap (extR c k) = ((rowsTo c d h k).flatMap (extR c k)).map (fun r => r.map (· + t)) := by
      have : ∀ rows : List (List Int), (∀ r ∈ rows, r ≠ []) → (rows.map (fun r => r.map (· + t))).flatMap (extR c k) = (rows.flatMap (extR c k)).map (fun r => r.map (· + t)) := by
        intro rows
        induction rows with
        | nil => intro _; rfl
        | cons r rows ih =>
          intro hr
          rw [List.map_cons, List.flatMap_cons, List.flatMap_cons, List.map_append, ih fun q hq => hr q (List.mem_cons_of_mem _ hq), extR_add (hr r List.mem_cons_self)]
      exact this _ fun r hr z => by have := row_shape hr; rw [z] at this; simp at this
    rw [e1, List.filter_map]
    refine congrArg _ (List.filter_congr fun r hr => ?_)
    obtain ⟨q, hq, hm⟩ := List.mem_flatMap.mp hr
    obtain ⟨m, _, rfl⟩ := List.mem_map.mp hm
    show okR e d (k + 1) ((q ++ [lastI q + legAt c k + (m : Nat)]).map (· + t)) = okR c d (k + 1) (q ++ [lastI q + legAt c k + (m : Nat)])
    unfold okR
    rw [lastI_map (by simp), hd (k + 1) (Nat.le_refl _)]
theorem allFrom_period {c : Chan} (hc : ChOk c) {n : Int} (hd : (periodOf c : Int) ∣ n) (d h : Int) : allFrom c d (h + n) = (allFrom c d h).map (fun r => r.map (· + n)) :=
  rowsTo_add rfl rfl d h _ fun j hj x => depth_period (by have := hc.b1; omega) hd x
theorem isOut_period {c : Chan} (hc : ChOk c) {n : Int} (hd : (periodOf c : Int) ∣ n) (d h : Int) : isOut c d (h + n) = isOut c d h := by
  unfold isOut
  rw [allFrom_period hc hd]
  cases allFrom c d h <;> rfl
theorem isOut_mod {c : Chan} (hc : ChOk c) (d h : Int) : isOut c d (h % (periodOf c : Int)) = isOut c d h := by
  have e : h = h % (periodOf c : Int) + (periodOf c : Int) * (h / (periodOf c : Int)) := (Int.emod_add_mul_ediv h _).symm
  conv => rhs; rw [e]
  exact (isOut_period hc (Int.dvd_mul_right _ _) _ _).symm
theorem mem_hours {c : Chan} {d x : Int} : x ∈ hoursOf c d ↔ 0 ≤ x ∧ x < periodOf c ∧ isOut c d x = true := by
  unfold hoursOf
  rw [List.mem_map]
  constructor
  · rintro ⟨h, hh, rfl⟩
    obtain ⟨h1, h2⟩ := List.mem_filter.mp hh
    have := List.mem_range.mp h1
    exact ⟨by omega, by omega, h2⟩
  · rintro ⟨h0, h1, h2⟩
    refine ⟨x.toNat, List.mem_filter.mpr ⟨List.mem_range.mpr (by omega), ?_⟩, by omega⟩
    rw [show ((x.toNat : Nat) : Int) = x from by omega]
    exact h2
theorem mod_mem_hours {c : Chan} (hc : ChOk c) {d : Int} (x : Int) : x % (periodOf c : Int) ∈ hoursOf c d ↔ isOut c d x = true := by
  have hp := period_pos hc
  rw [mem_hours, isOut_mod hc]
  exact ⟨fun h => h.2.2, fun h => ⟨Int.emod_nonneg _ (by omega), Int.emod_lt_of_pos _ (by omega), h⟩⟩
theorem period840 {c : Chan} (hc : ChOk c) : periodOf c ∣ 840 := period_min fun b hb => by
  have h := hc.bl b hb
  have : b.length = 1 ∨ b.length = 2 ∨ b.length = 3 ∨ b.length = 4 ∨ b.length = 5 ∨ b.length = 6 ∨ b.length = 7 ∨ b.length = 8 := by omega
  rcases this with e | e | e | e | e | e | e | e <;> rw [e] <;> decide
theorem lcm840 {c e : Chan} (hc : ChOk c) (he : ChOk e) : Nat.lcm (periodOf c) (periodOf e) ≤ 840 := Nat.le_of_dvd (by decide) (Nat.lcm_dvd (period840 hc) (period840 he))

/-! ### small things -/
theorem mem_int (x : Int) (xs : List Int) : PyData.int x ∈ xs.map PyData.int ↔ x ∈ xs := by
  rw [List.mem_map]
  constructor
  · rintro ⟨y, hy, e⟩
    cases e
    exact hy
  · exact fun h => ⟨x, h, rfl⟩
theorem eq_boolS {K : PySem.W.Frag} {τ : Store} {Q : MV → Store → Prop} {neg : Bool} {a b : Bool} (h : a = b) (q : Q (.val (.bool (bneg neg true))) τ) : EqD K neg (.val (.bool a)) (.val (.bool b)) τ Q := by
  subst h
  refine eq_bool ?_
  rw [decide_eq_true rfl]
  exact q
theorem eq_q {Q : MV → Store → Prop} {τ : Store} {d d' : PyData} (h : d = d') (q : Q (.val d') τ) : Q (.val d) τ := by rw [h]; exact q
theorem cutD_drop1 {ds : List PyData} {j : Nat} (h : j + 1 ≤ ds.length) : cutD ds (some ((j : Int) + 1)) none = ds.drop (j + 1) := cutD_drop h
theorem pl_optD (o : Option Int) : Pl 0 (optD o) := by cases o <;> trivial
theorem optD_inj {a b : Option Int} (h : optD a = optD b) : a = b := by
  cases a <;> cases b <;> first | rfl | (cases h; done) | (injection h with h; subst h; rfl)
theorem isNone_optD (o : Option Int) : isNone (optD o) = o.isNone := by cases o <;> rfl
theorem all_len16 {c : Chan} (hc : ChOk c) (d h : Int) : (allFrom c d h).length ≤ 16 := rows_len16 hc d h (by have := hc.b1; omega)
theorem pl_rowsT (n : Nat) (rows : List (List Int)) : Pl (n + 2) (.tuple (rows.map tI)) := fun x hx => by
  obtain ⟨r, _, rfl⟩ := List.mem_map.mp hx
  exact pl_tI r
theorem pb_ints (n : Nat) (xs : List Int) : Pb (n + 1) (.list (xs.map .int)) := fun x hx => by
  obtain ⟨i, _, rfl⟩ := List.mem_map.mp hx
  cases n <;> trivial
theorem pb_intsT (n : Nat) (xs : List Int) : Pb (n + 1) (tI xs) := fun x hx => by
  obtain ⟨i, _, rfl⟩ := List.mem_map.mp hx
  cases n <;> trivial
theorem pb_rows (rows : List (List Int)) : Pb 2 (.list (rows.map tI)) := fun x hx => by
  obtain ⟨r, _, rfl⟩ := List.mem_map.mp hx
  exact pb_intsT 0 r
theorem pb_rowsT (rows : List (List Int)) : Pb 2 (.tuple (rows.map tI)) := fun x hx => by
  obtain ⟨r, _, rfl⟩ := List.mem_map.mp hx
  exact pb_intsT 0 r
theorem hours_asc (c : Chan) (d : Int) : (hoursOf c d).Pairwise (· < ·) := by
  unfold hoursOf
  rw [List.pairwise_map]
  refine (List.Pairwise.filter _ List.pairwise_lt_range).imp fun h => ?_
  omega
theorem asc_eq : ∀ {xs ys : List Int}, xs.Pairwise (· < ·) → ys.Pairwise (· < ·) → (∀ x, x ∈ xs ↔ x ∈ ys) → xs = ys
  | [], [], _, _, _ => rfl
  | [], y :: ys, _, _, h => by have := (h y).mpr List.mem_cons_self; cases this
  | x :: xs, [], _, _, h => by have := (h x).mp List.mem_cons_self; cases this
  | x :: xs, y :: ys, hx, hy, h => by
    obtain ⟨a1, a2⟩ := List.pairwise_cons.mp hx
    obtain ⟨b1, b2⟩ := List.pairwise_cons.mp hy
    have e : x = y := by
      have h1 := (h x).mp List.mem_cons_self
      have h2 := (h y).mpr List.mem_cons_self
      rcases List.mem_cons.mp h1 with e | h1
      · exact e
      · rcases List.mem_cons.mp h2 with e | h2
        · exact e.symm
        · have := b1 x h1
          have := a1 y h2
          omega
    subst e
    rw [asc_eq a2 b2 fun z => ?_]
    constructor
    · intro hz
      have h1 := (h z).mp (List.mem_cons_of_mem _ hz)
      rcases List.mem_cons.mp h1 with e | h1
      · subst e
        have := a1 z hz
        omega
      · exact h1
    · intro hz
      have h1 := (h z).mpr (List.mem_cons_of_mem _ hz)
      rcases List.mem_cons.mp h1 with e | h1
      · subst e
        have := b1 z hz
        omega
      · exact h1
/-- hours are told by what is out -/
theorem hours_eq {c e : Chan} {d d' : Int} (hp : periodOf e = periodOf c) (h : ∀ x, isOut e d' x = isOut c d x) : hoursOf e d' = hoursOf c d := by
  unfold hoursOf
  rw [hp]
  congr 1
  exact List.filter_congr fun x _ => h _
theorem out_of_hours {c e : Chan} (hc : ChOk c) (he : ChOk e) {d d' : Int} (hp : periodOf e = periodOf c) (h : hoursOf e d' = hoursOf c d) (x : Int) : isOut e d' x = isOut c d x := by
  apply Bool.eq_iff_iff.mpr
  rw [← mod_mem_hours he, ← mod_mem_hours hc, h, hp]
theorem hours_nil {c : Chan} (hc : ChOk c) {d : Int} : hoursOf c d = [] ↔ ∀ x, isOut c d x = false := by
  constructor
  · intro h x
    cases hx : isOut c d x with
    | false => rfl
    | true =>
      have := (mod_mem_hours hc x).mpr hx
      rw [h] at this
      cases this
  · intro h
    rw [List.eq_nil_iff_forall_not_mem]
    intro x hx
    have := (mem_hours.mp hx).2.2
    rw [h x] at this
    cases this
theorem period_of_lens {c e : Chan} (h : e.bars.map List.length = c.bars.map List.length) : periodOf e = periodOf c := by
  have g : ∀ b : List (List Int), b.foldl (fun a b => Nat.lcm a b.length) 1 = (b.map List.length).foldl Nat.lcm 1 := fun b => by rw [List.foldl_map]
  unfold periodOf
  rw [g, g, h]

section
variable {P : Program} {w : World} {K : PySem.W.Frag} {mg : Str → Option Value} {base : Heap}
def cIsOut : Ctr := fun svs τ Q => ∃ c, ∃ d h : Int, svs = [.val (chD c), .val (.int d), .val (.int h)] ∧ ChOk c ∧ Q (.val (.bool (isOut c d h))) τ
abbrev s_is_out : Stmt := topS 36
theorem sc_is_out : FnScope ["channel", "draught", "hour"] ["channel", "draught", "hour"] (defScope s_is_out) := ⟨rfl, rfl, rfl, by decide +kernel, rfl, by decide +kernel, by decide +kernel⟩
local macro_rules | `(tactic| walk_at "nm") => `(tactic| first
  | with_reducible refine de_name (x := "channel") 0 (by with_unfolding_all rfl) (by with_unfolding_all first | exact Or.inl rfl | exact Or.inr (Or.inl rfl) | exact Or.inr (Or.inr rfl)) (by with_unfolding_all rfl) ?_ (by with_unfolding_all decide) (by with_unfolding_all decide)
  | with_reducible refine de_name (x := "draught") 1 (by with_unfolding_all rfl) (by with_unfolding_all first | exact Or.inl rfl | exact Or.inr (Or.inl rfl) | exact Or.inr (Or.inr rfl)) (by with_unfolding_all rfl) ?_ (by with_unfolding_all decide) (by with_unfolding_all decide)
  | with_reducible refine de_name (x := "hour") 2 (by with_unfolding_all rfl) (by with_unfolding_all first | exact Or.inl rfl | exact Or.inr (Or.inl rfl) | exact Or.inr (Or.inr rfl)) (by with_unfolding_all rfl) ?_ (by with_unfolding_all decide) (by with_unfolding_all decide))
local macro_rules | `(tactic| walk_at "st") => `(tactic| first
  | with_reducible refine ds_set (x := "channel") 0 (by with_unfolding_all exact sc_is_out.nd) (by with_unfolding_all rfl) (by with_unfolding_all first | exact Or.inl rfl | exact Or.inr rfl) ?_ (by with_unfolding_all rfl) (by with_unfolding_all first | exact .inl rfl | exact .inr rfl)
  | with_reducible refine ds_set (x := "draught") 1 (by with_unfolding_all exact sc_is_out.nd) (by with_unfolding_all rfl) (by with_unfolding_all first | exact Or.inl rfl | exact Or.inr rfl) ?_ (by with_unfolding_all rfl) (by with_unfolding_all first | exact .inl rfl | exact .inr rfl)
  | with_reducible refine ds_set (x := "hour") 2 (by with_unfolding_all exact sc_is_out.nd) (by with_unfolding_all rfl) (by with_unfolding_all first | exact Or.inl rfl | exact Or.inr rfl) ?_ (by with_unfolding_all rfl) (by with_unfolding_all first | exact .inl rfl | exact .inr rfl))



theorem kn_is_out (D : HasDef K mg "is_out" s_is_out ["channel", "draught", "hour"]) (B : Bl mg) (k2 : Knows P w K mg base 2 "all_from" cAllFrom) : Knows P w K mg base 3 "is_out" cIsOut := by
  refine knows_mk D sc_is_out (fun _ _ _ ⟨_, _, _, e, _⟩ => by rw [e]; rfl) (fun f cdv A outer s H E hr svs τ Q hC => ?_)
  obtain ⟨c, d, h, rfl, hc, q⟩ := hC
  walk_at "go"
  refine ⟨c, d, h, rfl, hc, ?_⟩
  walk_at "go"
  refine eq_pl (n := 2) (m := 2) rfl rfl (pl_rows 0 _) (fun x hx => by cases hx) (fun b hb => ?_)
  have e : bneg true b = isOut c d h := by
    unfold isOut
    have hb2 : (b = true ↔ allFrom c d h = []) := by
      rw [hb]
      unfold rowsD
      constructor
      · intro e
        injection e with e
        exact List.map_eq_nil_iff.mp e
      · intro e
        rw [e]
        rfl
    cases b with
    | true => rw [hb2.mp rfl]; rfl
    | false =>
      have : allFrom c d h ≠ [] := fun z => by have := hb2.mpr z; cases this
      cases hA : allFrom c d h with
      | nil => exact absurd hA this
      | cons _ _ => rfl
  rw [e]
  exact q
end

section
variable {P : Program} {w : World} {K : PySem.W.Frag} {mg : Str → Option Value} {base : Heap}
abbrev s_found_hours : Stmt := topS 37
theorem sc_found_hours : FnScope ["channel", "draught", "hour"] ["channel", "draught"] (defScope s_found_hours) := ⟨rfl, rfl, rfl, by decide +kernel, rfl, by decide +kernel, by decide +kernel⟩
local macro_rules | `(tactic| walk_at "nm") => `(tactic| first
  | with_reducible refine de_name (x := "channel") 0 (by with_unfolding_all rfl) (by with_unfolding_all first | exact Or.inl rfl | exact Or.inr (Or.inl rfl) | exact Or.inr (Or.inr rfl)) (by with_unfolding_all rfl) ?_ (by with_unfolding_all decide) (by with_unfolding_all decide)
  | with_reducible refine de_name (x := "draught") 1 (by with_unfolding_all rfl) (by with_unfolding_all first | exact Or.inl rfl | exact Or.inr (Or.inl rfl) | exact Or.inr (Or.inr rfl)) (by with_unfolding_all rfl) ?_ (by with_unfolding_all decide) (by with_unfolding_all decide)
  | with_reducible refine de_name (x := "hour") 2 (by with_unfolding_all rfl) (by with_unfolding_all first | exact Or.inl rfl | exact Or.inr (Or.inl rfl) | exact Or.inr (Or.inr rfl)) (by with_unfolding_all rfl) ?_ (by with_unfolding_all decide) (by with_unfolding_all decide))
local macro_rules | `(tactic| walk_at "st") => `(tactic| first
  | with_reducible refine ds_set (x := "channel") 0 (by with_unfolding_all exact sc_found_hours.nd) (by with_unfolding_all rfl) (by with_unfolding_all first | exact Or.inl rfl | exact Or.inr rfl) ?_ (by with_unfolding_all rfl) (by with_unfolding_all first | exact .inl rfl | exact .inr rfl)
  | with_reducible refine ds_set (x := "draught") 1 (by with_unfolding_all exact sc_found_hours.nd) (by with_unfolding_all rfl) (by with_unfolding_all first | exact Or.inl rfl | exact Or.inr rfl) ?_ (by with_unfolding_all rfl) (by with_unfolding_all first | exact .inl rfl | exact .inr rfl)
  | with_reducible refine ds_set (x := "hour") 2 (by with_unfolding_all exact sc_found_hours.nd) (by with_unfolding_all rfl) (by with_unfolding_all first | exact Or.inl rfl | exact Or.inr rfl) ?_ (by with_unfolding_all rfl) (by with_unfolding_all first | exact .inl rfl | exact .inr rfl))

local macro_rules | `(tactic| walk_at "lc hour") => `(tactic| refine de_lc (t := .name 2) (own := [("hour", 2)]) rfl sc_found_hours.nd (by first | exact blkOk_by (N := ["channel", "draught", "hour"]) (sc := defScope s_found_hours) (by decide +kernel) | exact blkOk_by (N := ["channel", "draught", "hour"]) (sc := relS _ (defScope s_found_hours)) (by decide +kernel)) (by decide) (fun _ _ _ _ _ => pgx_name sc_found_hours.nd rfl (by first | exact Or.inl rfl | exact Or.inr rfl)) ?_)

theorem kn_found_hours (D : HasDef K mg "found_hours" s_found_hours ["channel", "draught"]) (B : Bl mg) (k1 : Knows P w K mg base 2 "period_of" cPer) (k2 : Knows P w K mg base 3 "is_out" cIsOut) : Knows P w K mg base 4 "found_hours" cHoursF := by
  refine knows_mk D sc_found_hours (fun _ _ _ ⟨_, _, e, _⟩ => by rw [e]; rfl) (fun f cdv A outer s H E hr svs τ Q hC => ?_)
  obtain ⟨c, d, rfl, hc, q⟩ := hC
  have hp2 := period_le hc
  walk_at "go"
  walk_at "lc hour"
  refine di_range1 ‹Bl _› rfl ?_
  walk_at "go"
  refine ⟨c, rfl, hc, _, rfl, by omega, by omega, ?_⟩
  refine lcq_filter (List.range (periodOf c)) (fun m => .int (0 + (m : Nat))) (fun m => .int ((m : Nat) : Int)) (fun h => isOut c d (h : Nat)) rfl (by rw [List.length_range]; omega) (fun m hm => ⟨_, rfl, fun D acc hD s H C cl fp => ⟨?_, fun _ => ?_⟩⟩) ?_
  · walk_at "go"
    refine ⟨c, d, _, rfl, hc, ?_⟩
    rw [Int.zero_add]
    walk_at "go"
    exact ⟨rfl, rfl⟩
  · walk_at "go"
    rw [Int.zero_add]
    exact ⟨rfl, rfl⟩
  · unfold hoursOf at q
    rw [List.map_map] at q
    exact q
end

section
variable {P : Program} {w : World} {K : PySem.W.Frag} {mg : Str → Option Value} {base : Heap}
def cChk2 : Ctr := fun svs τ Q => ∃ c, ∃ d : Int, svs = [.val (chD c), .val (.int d)] ∧ ChOk c ∧ 0 ≤ d ∧ d ≤ 6 ∧ Q (.val .none) τ
abbrev s_check_two : Stmt := topS 38
theorem sc_check_two : FnScope ["channel", "draught"] ["channel", "draught"] (defScope s_check_two) := ⟨rfl, rfl, rfl, by decide +kernel, rfl, by decide +kernel, by decide +kernel⟩
local macro_rules | `(tactic| walk_at "nm") => `(tactic| first
  | with_reducible refine de_name (x := "channel") 0 (by with_unfolding_all rfl) (by with_unfolding_all first | exact Or.inl rfl | exact Or.inr (Or.inl rfl) | exact Or.inr (Or.inr rfl)) (by with_unfolding_all rfl) ?_ (by with_unfolding_all decide) (by with_unfolding_all decide)
  | with_reducible refine de_name (x := "draught") 1 (by with_unfolding_all rfl) (by with_unfolding_all first | exact Or.inl rfl | exact Or.inr (Or.inl rfl) | exact Or.inr (Or.inr rfl)) (by with_unfolding_all rfl) ?_ (by with_unfolding_all decide) (by with_unfolding_all decide))
local macro_rules | `(tactic| walk_at "st") => `(tactic| first
  | with_reducible refine ds_set (x := "channel") 0 (by with_unfolding_all exact sc_check_two.nd) (by with_unfolding_all rfl) (by with_unfolding_all first | exact Or.inl rfl | exact Or.inr rfl) ?_ (by with_unfolding_all rfl) (by with_unfolding_all first | exact .inl rfl | exact .inr rfl)
  | with_reducible refine ds_set (x := "draught") 1 (by with_unfolding_all exact sc_check_two.nd) (by with_unfolding_all rfl) (by with_unfolding_all first | exact Or.inl rfl | exact Or.inr rfl) ?_ (by with_unfolding_all rfl) (by with_unfolding_all first | exact .inl rfl | exact .inr rfl))



theorem kn_check_two (D : HasDef K mg "check_two" s_check_two ["channel", "draught"]) (k1 : Knows P w K mg base 4 "check_channel" cChk) (k2 : Knows P w K mg base 2 "check_draught" (cChkI 0 6)) : Knows P w K mg base 5 "check_two" cChk2 := by
  refine knows_mk D sc_check_two (fun _ _ _ ⟨_, _, e, _⟩ => by rw [e]; rfl) (fun f cdv A outer s H E hr svs τ Q hC => ?_)
  obtain ⟨c, d, rfl, hc, d0, d1, q⟩ := hC
  walk_at "go"
  refine ⟨_, rfl, hc, ?_⟩
  walk_at "go"
  refine ⟨_, rfl, d0, d1, ?_⟩
  walk_at "go"
  exact q
end

section
variable {P : Program} {w : World} {K : PySem.W.Frag} {mg : Str → Option Value} {base : Heap}
def cHours : Ctr := fun svs τ Q => ∃ c, ∃ d : Int, svs = [.val (chD c), .val (.int d)] ∧ ChOk c ∧ 0 ≤ d ∧ d ≤ 6 ∧ Q (.val (tI (hoursOf c d))) τ
abbrev s_hours_out : Stmt := topS 39
theorem sc_hours_out : FnScope ["channel", "draught"] ["channel", "draught"] (defScope s_hours_out) := ⟨rfl, rfl, rfl, by decide +kernel, rfl, by decide +kernel, by decide +kernel⟩
local macro_rules | `(tactic| walk_at "nm") => `(tactic| first
  | with_reducible refine de_name (x := "channel") 0 (by with_unfolding_all rfl) (by with_unfolding_all first | exact Or.inl rfl | exact Or.inr (Or.inl rfl) | exact Or.inr (Or.inr rfl)) (by with_unfolding_all rfl) ?_ (by with_unfolding_all decide) (by with_unfolding_all decide)
  | with_reducible refine de_name (x := "draught") 1 (by with_unfolding_all rfl) (by with_unfolding_all first | exact Or.inl rfl | exact Or.inr (Or.inl rfl) | exact Or.inr (Or.inr rfl)) (by with_unfolding_all rfl) ?_ (by with_unfolding_all decide) (by with_unfolding_all decide))
local macro_rules | `(tactic| walk_at "st") => `(tactic| first
  | with_reducible refine ds_set (x := "channel") 0 (by with_unfolding_all exact sc_hours_out.nd) (by with_unfolding_all rfl) (by with_unfolding_all first | exact Or.inl rfl | exact Or.inr rfl) ?_ (by with_unfolding_all rfl) (by with_unfolding_all first | exact .inl rfl | exact .inr rfl)
  | with_reducible refine ds_set (x := "draught") 1 (by with_unfolding_all exact sc_hours_out.nd) (by with_unfolding_all rfl) (by with_unfolding_all first | exact Or.inl rfl | exact Or.inr rfl) ?_ (by with_unfolding_all rfl) (by with_unfolding_all first | exact .inl rfl | exact .inr rfl))



theorem kn_hours_out (D : HasDef K mg "hours_out" s_hours_out ["channel", "draught"]) (B : Bl mg) (k1 : Knows P w K mg base 5 "check_two" cChk2) (k2 : Knows P w K mg base 4 "found_hours" cHoursF) : Knows P w K mg base 6 "hours_out" cHours := by
  refine knows_mk D sc_hours_out (fun _ _ _ ⟨_, _, e, _⟩ => by rw [e]; rfl) (fun f cdv A outer s H E hr svs τ Q hC => ?_)
  obtain ⟨c, d, rfl, hc, d0, d1, q⟩ := hC
  walk_at "go"
  refine ⟨_, _, rfl, hc, d0, d1, ?_⟩
  walk_at "go"
  refine ⟨_, _, rfl, hc, ?_⟩
  exact tup_lst rfl q
end

def gapsOf (xs : List Int) (p : Int) : List Int := (List.range xs.length).map fun k => (xs ++ [xs.getD 0 0 + p]).getD (k + 1) 0 - (xs ++ [xs.getD 0 0 + p]).getD k 0 - 1
def delayOf (c : Chan) (d : Int) : Option Int := (gapsOf (hoursOf c d) (periodOf c)).max?
theorem isMax_max? {ns : List Int} {m : Int} (h : IsMax ns m) : ns.max? = some m := List.max?_eq_some_iff.mpr h

section
variable {P : Program} {w : World} {K : PySem.W.Frag} {mg : Str → Option Value} {base : Heap}
def cDelay : Ctr := fun svs τ Q => ∃ c, ∃ d : Int, svs = [.val (chD c), .val (.int d)] ∧ ChOk c ∧ 0 ≤ d ∧ d ≤ 6 ∧ Q (.val (optD (delayOf c d))) τ
abbrev s_longest_delay : Stmt := topS 40
theorem sc_longest_delay : FnScope ["channel", "draught", "some", "rows", "k"] ["channel", "draught"] (defScope s_longest_delay) := ⟨rfl, rfl, rfl, by decide +kernel, rfl, by decide +kernel, by decide +kernel⟩
local macro_rules | `(tactic| walk_at "nm") => `(tactic| first
  | with_reducible refine de_name (x := "channel") 0 (by with_unfolding_all rfl) (by with_unfolding_all first | exact Or.inl rfl | exact Or.inr (Or.inl rfl) | exact Or.inr (Or.inr rfl)) (by with_unfolding_all rfl) ?_ (by with_unfolding_all decide) (by with_unfolding_all decide)
  | with_reducible refine de_name (x := "draught") 1 (by with_unfolding_all rfl) (by with_unfolding_all first | exact Or.inl rfl | exact Or.inr (Or.inl rfl) | exact Or.inr (Or.inr rfl)) (by with_unfolding_all rfl) ?_ (by with_unfolding_all decide) (by with_unfolding_all decide)
  | with_reducible refine de_name (x := "some") 2 (by with_unfolding_all rfl) (by with_unfolding_all first | exact Or.inl rfl | exact Or.inr (Or.inl rfl) | exact Or.inr (Or.inr rfl)) (by with_unfolding_all rfl) ?_ (by with_unfolding_all decide) (by with_unfolding_all decide)
  | with_reducible refine de_name (x := "rows") 3 (by with_unfolding_all rfl) (by with_unfolding_all first | exact Or.inl rfl | exact Or.inr (Or.inl rfl) | exact Or.inr (Or.inr rfl)) (by with_unfolding_all rfl) ?_ (by with_unfolding_all decide) (by with_unfolding_all decide)
  | with_reducible refine de_name (x := "k") 4 (by with_unfolding_all rfl) (by with_unfolding_all first | exact Or.inl rfl | exact Or.inr (Or.inl rfl) | exact Or.inr (Or.inr rfl)) (by with_unfolding_all rfl) ?_ (by with_unfolding_all decide) (by with_unfolding_all decide))
local macro_rules | `(tactic| walk_at "st") => `(tactic| first
  | with_reducible refine ds_set (x := "channel") 0 (by with_unfolding_all exact sc_longest_delay.nd) (by with_unfolding_all rfl) (by with_unfolding_all first | exact Or.inl rfl | exact Or.inr rfl) ?_ (by with_unfolding_all rfl) (by with_unfolding_all first | exact .inl rfl | exact .inr rfl)
  | with_reducible refine ds_set (x := "draught") 1 (by with_unfolding_all exact sc_longest_delay.nd) (by with_unfolding_all rfl) (by with_unfolding_all first | exact Or.inl rfl | exact Or.inr rfl) ?_ (by with_unfolding_all rfl) (by with_unfolding_all first | exact .inl rfl | exact .inr rfl)
  | with_reducible refine ds_set (x := "some") 2 (by with_unfolding_all exact sc_longest_delay.nd) (by with_unfolding_all rfl) (by with_unfolding_all first | exact Or.inl rfl | exact Or.inr rfl) ?_ (by with_unfolding_all rfl) (by with_unfolding_all first | exact .inl rfl | exact .inr rfl)
  | with_reducible refine ds_set (x := "rows") 3 (by with_unfolding_all exact sc_longest_delay.nd) (by with_unfolding_all rfl) (by with_unfolding_all first | exact Or.inl rfl | exact Or.inr rfl) ?_ (by with_unfolding_all rfl) (by with_unfolding_all first | exact .inl rfl | exact .inr rfl)
  | with_reducible refine ds_set (x := "k") 4 (by with_unfolding_all exact sc_longest_delay.nd) (by with_unfolding_all rfl) (by with_unfolding_all first | exact Or.inl rfl | exact Or.inr rfl) ?_ (by with_unfolding_all rfl) (by with_unfolding_all first | exact .inl rfl | exact .inr rfl))

local macro_rules | `(tactic| walk_at "lc k") => `(tactic| refine de_lc (t := .name 4) (own := [("k", 4)]) rfl sc_longest_delay.nd (by first | exact blkOk_by (N := ["channel", "draught", "some", "rows", "k"]) (sc := defScope s_longest_delay) (by decide +kernel) | exact blkOk_by (N := ["channel", "draught", "some", "rows", "k"]) (sc := relS _ (defScope s_longest_delay)) (by decide +kernel)) (by decide) (fun _ _ _ _ _ => pgx_name sc_longest_delay.nd rfl (by first | exact Or.inl rfl | exact Or.inr rfl)) ?_)

theorem kn_longest_delay (D : HasDef K mg "longest_delay" s_longest_delay ["channel", "draught"]) (B : Bl mg) (k1 : Knows P w K mg base 5 "check_two" cChk2) (k2 : Knows P w K mg base 4 "found_hours" cHoursF) (k3 : Knows P w K mg base 2 "period_of" cPer) : Knows P w K mg base 6 "longest_delay" cDelay := by
  refine knows_mk D sc_longest_delay (fun _ _ _ ⟨_, _, e, _⟩ => by rw [e]; rfl) (fun f cdv A outer s H E hr svs τ Q hC => ?_)
  obtain ⟨c, d, rfl, hc, d0, d1, q⟩ := hC
  have hlen := hours_len hc d
  unfold delayOf at q
  walk_at "go"
  refine ⟨c, d, rfl, hc, d0, d1, ?_⟩
  walk_at "go"
  refine ⟨c, d, rfl, hc, ?_⟩
  generalize hoursOf c d = xs at q hlen ⊢
  cases xs with
  | nil =>
    walk_at "go"
    refine eq_same (n := 1) (d := .list []) rfl rfl (fun x hx => by cases hx) rfl ?_
    walk_at "go"
    exact q
  | cons x xs =>
    walk_at "go"
    refine eq_pl (n := 1) (m := 1) rfl rfl (fun x hx => by obtain ⟨i, _, rfl⟩ := List.mem_map.mp hx; trivial) (fun x hx => by cases hx) (fun b hb => ?_)
    have hb' : b = false := by
      cases b with
      | false => rfl
      | true => have e := hb.mp rfl; cases e
    subst hb'
    have hp2 := period_le hc
    walk_at "go"
    refine ix_lst rfl (d := .int x) (atI_nat rfl) ?_
    walk_at "go"
    refine ⟨c, rfl, hc, ?_⟩
    walk_at "go"
    refine plus_lst rfl rfl (by rw [List.length_map]; show _ + 1 ≤ _; omega) ?_
    have er : (x :: xs).map PyData.int ++ [PyData.int (x + (periodOf c : Nat))] = ((x :: xs) ++ [x + (periodOf c : Nat)]).map .int := by rw [List.map_append]; rfl
    show Db _ [some (.val (chD c)), some (.val (.int d)), some (.val (.list ((x :: xs).map .int))), some (.val (.list ((x :: xs).map PyData.int ++ [PyData.int (x + (periodOf c : Nat))]))), none] τ _ _
    rw [er]
    have hyl : ((x :: xs) ++ [x + ((periodOf c : Nat) : Int)]).length = (x :: xs).length + 1 := by rw [List.length_append]; rfl
    have q : Q (.val (optD ((List.range (x :: xs).length).map fun k => ((x :: xs) ++ [x + ((periodOf c : Nat) : Int)]).getD (k + 1) 0 - ((x :: xs) ++ [x + ((periodOf c : Nat) : Int)]).getD k 0 - 1).max?)) τ := q
    generalize ((x :: xs) ++ [x + ((periodOf c : Nat) : Int)]) = ys at hyl q ⊢
    walk_at "go"
    walk_at "lc k"
    refine di_range1 ‹Bl _› rfl ?_
    walk_at "go"
    refine ⟨by rw [List.length_map]; omega, by omega, ?_⟩
    refine lcq_map (List.range (x :: xs).length) (fun k => .int (0 + (k : Nat))) (fun k => .int (ys.getD (k + 1) 0 - ys.getD k 0 - 1)) (by rw [List.length_map]; rfl) (by rw [List.length_range]; omega) (fun k hk => ⟨_, rfl, fun D acc hD s H C cl fp => ?_⟩) ?_
    · have hk := List.mem_range.mp hk
      walk_at "go"
      rw [Int.zero_add]
      refine ix_lst rfl (atI_int (by omega) (by omega)) ?_
      walk_at "go"
      refine ix_lst rfl (atI_int (by omega) (by omega)) ?_
      walk_at "go"
      exact ⟨rfl, rfl⟩
    have e2 : (List.range (x :: xs).length).map (fun k => PyData.int (ys.getD (k + 1) 0 - ys.getD k 0 - 1)) = ((List.range (x :: xs).length).map fun k => ys.getD (k + 1) 0 - ys.getD k 0 - 1).map .int := by rw [List.map_map]; rfl
    rw [e2]
    refine ⟨_, rfl, by rw [List.length_map, List.length_range]; exact Nat.succ_pos _, fun m hm => ?_⟩
    rw [isMax_max? hm] at q
    exact q
end

/-! ### a draught of nothing always passes -/
theorem depth_low {c : Chan} (hc : ChOk c) {j : Nat} (hj : j < c.bars.length) (h : Int) : 0 ≤ depthOf c j h ∧ depthOf c j h ≤ 6 :=
  hc.bv _ (barAt_mem hj) _ (getD_mem (mod_lt_len (hc.bar1 hj) h))
theorem rows_zero {c : Chan} (hc : ChOk c) {d : Int} (hd : d ≤ 0) (h : Int) : ∀ k, k < c.bars.length → rowsTo c d h k ≠ []
  | 0, hk => by
    unfold rowsTo
    rw [if_pos (by have := depth_low hc hk h; omega)]
    exact List.cons_ne_nil _ _
  | k + 1, hk => by
    have ih := rows_zero hc hd h k (by omega)
    unfold rowsTo
    obtain ⟨r, rs, e⟩ := List.exists_cons_of_ne_nil ih
    intro z
    have hm : r ++ [lastI r + legAt c k + ((0 : Nat) : Int)] ∈ ((rowsTo c d h k).flatMap (extR c k)).filter (okR c d (k + 1)) := by
      refine List.mem_filter.mpr ⟨List.mem_flatMap.mpr ⟨r, by rw [e]; exact List.mem_cons_self, List.mem_map.mpr ⟨0, List.mem_range.mpr (by omega), rfl⟩⟩, ?_⟩
      unfold okR
      have := depth_low hc hk (lastI (r ++ [lastI r + legAt c k + ((0 : Nat) : Int)]))
      exact decide_eq_true (by omega)
    rw [z] at hm
    cases hm
theorem out_zero {c : Chan} (hc : ChOk c) {d : Int} (hd : d ≤ 0) (h : Int) : isOut c d h = true := by
  unfold isOut allFrom
  have := rows_zero hc hd h (c.bars.length - 1) (by have := hc.b1; omega)
  cases e : rowsTo c d h (c.bars.length - 1) with
  | nil => exact absurd e this
  | cons _ _ => rfl
theorem hours_zero {c : Chan} (hc : ChOk c) {d : Int} (hd : d ≤ 0) : (hoursOf c d).length = periodOf c := by
  unfold hoursOf
  rw [List.length_map, List.filter_eq_self.mpr fun h _ => out_zero hc hd _, List.length_range]
def greatL (c : Chan) : List Int := ((List.range 7).filter fun d => !(hoursOf c (d : Nat)).isEmpty).map fun d => ((d : Nat) : Int)
def sureL (c : Chan) : List Int := ((List.range 7).filter fun d => decide ((hoursOf c (d : Nat)).length = periodOf c)).map fun d => ((d : Nat) : Int)

/-! ### delays, great and sure draughts by what is out -/
structure IsDelay (c : Chan) (d m : Int) : Prop where
  m0 : 0 ≤ m
  up : ∀ x : Int, ∃ k, 0 ≤ k ∧ k ≤ m ∧ isOut c d (x + k) = true
  lo : ∃ x : Int, ∀ k, 0 ≤ k → k < m → isOut c d (x + k) = false
theorem IsDelay.le {c e : Chan} {d d' m m' : Int} (h : IsDelay c d m) (h' : IsDelay e d' m') (o : ∀ x, isOut e d' x = true → isOut c d x = true) : m ≤ m' := by
  obtain ⟨x, hx⟩ := h.lo
  obtain ⟨k, h0, h1, h2⟩ := h'.up x
  refine Int.not_lt.mp fun hn => ?_
  have := hx k h0 (by omega)
  rw [o _ h2] at this
  cases this
theorem IsDelay.uniq {c : Chan} {d m m' : Int} (h : IsDelay c d m) (h' : IsDelay c d m') : m = m' := Int.le_antisymm (h.le h' fun _ z => z) (h'.le h fun _ z => z)
theorem between (f : Nat → Int) (r : Int) : ∀ n : Nat, f 0 < r → r ≤ f n → ∃ k, k < n ∧ f k < r ∧ r ≤ f (k + 1)
  | 0, h1, h2 => by omega
  | n + 1, h1, h2 => by
    by_cases h : r ≤ f n
    · obtain ⟨k, hk, a, b⟩ := between f r n h1 h
      exact ⟨k, by omega, a, b⟩
    · exact ⟨n, by omega, by omega, h2⟩
theorem delay_nil {c : Chan} {d : Int} : delayOf c d = none ↔ hoursOf c d = [] := by
  unfold delayOf gapsOf
  rw [List.max?_eq_none_iff, List.map_eq_nil_iff, List.range_eq_nil, List.length_eq_zero_iff]
theorem delay_is {c : Chan} (hc : ChOk c) {d m : Int} (h : delayOf c d = some m) : IsDelay c d m := by
  have hp := period_pos hc
  unfold delayOf at h
  have hasc := hours_asc c d
  have hmem : ∀ x, x ∈ hoursOf c d ↔ 0 ≤ x ∧ x < periodOf c ∧ isOut c d x = true := fun x => mem_hours
  generalize hoursOf c d = xs at h hasc hmem
  unfold gapsOf at h
  obtain ⟨h1, h2⟩ := List.max?_eq_some_iff.mp h
  have hpos : 0 < xs.length := by
    obtain ⟨k, hk, _⟩ := List.mem_map.mp h1
    have := List.mem_range.mp hk
    omega
  have g : ∀ k, k < xs.length → (xs ++ [xs.getD 0 0 + (periodOf c : Int)]).getD k 0 = xs.getD k 0 := fun k hk => by
    rw [List.getD_eq_getElem?_getD, List.getElem?_append_left hk, ← List.getD_eq_getElem?_getD]
  have gl : (xs ++ [xs.getD 0 0 + (periodOf c : Int)]).getD xs.length 0 = xs.getD 0 0 + periodOf c := by
    rw [List.getD_eq_getElem?_getD, List.getElem?_append_right (Nat.le_refl _), Nat.sub_self]
    rfl
  generalize hys : (xs ++ [xs.getD 0 0 + (periodOf c : Int)]) = ys at h1 h2 g gl
  clear h hys
  have A : ∀ k, k < xs.length → xs.getD k 0 ∈ xs := fun k hk => getD_mem hk
  have mono : ∀ i j, i < j → j < xs.length → xs.getD i 0 < xs.getD j 0 := fun i j hij hj => by
    rw [List.getD_eq_getElem?_getD, List.getD_eq_getElem?_getD, List.getElem?_eq_getElem (by omega), List.getElem?_eq_getElem hj]
    exact List.pairwise_iff_getElem.mp hasc i j (by omega) hj hij
  have idx : ∀ x, x ∈ xs → ∃ i, i < xs.length ∧ xs.getD i 0 = x := fun x hx => by
    obtain ⟨i, hi, e⟩ := List.getElem_of_mem hx
    exact ⟨i, hi, by rw [List.getD_eq_getElem?_getD, List.getElem?_eq_getElem hi]; exact e⟩
  have B : ∀ k, k < xs.length → ys.getD k 0 < ys.getD (k + 1) 0 := fun k hk => by
    rw [g k hk]
    by_cases hk1 : k + 1 < xs.length
    · rw [g _ hk1]
      exact mono _ _ (by omega) hk1
    · have e : k + 1 = xs.length := by omega
      rw [e, gl]
      have a := (hmem _).mp (A k hk)
      have b := (hmem _).mp (A 0 hpos)
      omega
  have C : ∀ k, k < xs.length → ∀ x, ys.getD k 0 < x → x < ys.getD (k + 1) 0 → isOut c d x = false := fun k hk x hx1 hx2 => by
    cases ho : isOut c d x with
    | false => rfl
    | true =>
      rw [g k hk] at hx1
      have a := (hmem _).mp (A k hk)
      by_cases hxp : x < periodOf c
      · obtain ⟨i, hi, rfl⟩ := idx x ((hmem x).mpr ⟨by omega, hxp, ho⟩)
        have hki : k < i := Nat.lt_of_not_le fun hle => by
          rcases Nat.lt_or_ge i k with h3 | h3
          · have := mono i k h3 hk
            omega
          · have : i = k := by omega
            subst this
            omega
        rw [g (k + 1) (by omega)] at hx2
        rcases Nat.lt_or_ge (k + 1) i with h3 | h3
        · have := mono (k + 1) i h3 hi
          omega
        · have : i = k + 1 := by omega
          subst this
          omega
      · have b := (hmem _).mp (A 0 hpos)
        by_cases hk1 : k + 1 < xs.length
        · rw [g _ hk1] at hx2
          have a1 := (hmem _).mp (A (k + 1) hk1)
          omega
        · have e : k + 1 = xs.length := by omega
          rw [e, gl] at hx2
          have ho' : isOut c d (x - periodOf c) = true := by
            rw [← isOut_period hc (Int.dvd_refl _) d (x - periodOf c), Int.sub_add_cancel]
            exact ho
          obtain ⟨i, hi, hi2⟩ := idx _ ((hmem (x - periodOf c)).mpr ⟨by omega, by omega, ho'⟩)
          rcases Nat.lt_or_ge 0 i with h3 | h3
          · have := mono 0 i h3 hi
            omega
          · have : i = 0 := by omega
            subst this
            omega
  have gap : ∀ k, k < xs.length → ys.getD (k + 1) 0 - ys.getD k 0 - 1 ≤ m := fun k hk => h2 _ (List.mem_map.mpr ⟨k, List.mem_range.mpr hk, rfl⟩)
  refine ⟨?_, fun x => ?_, ?_⟩
  · have := gap 0 hpos
    have := B 0 hpos
    omega
  · have r0 := Int.emod_nonneg x (show (periodOf c : Int) ≠ 0 by omega)
    have r1 := Int.emod_lt_of_pos x (show (0 : Int) < periodOf c by omega)
    have conv : ∀ k, isOut c d (x + k) = isOut c d (x % (periodOf c : Int) + k) := fun k => by
      rw [← isOut_mod hc d (x + k), ← isOut_mod hc d (x % (periodOf c : Int) + k), Int.emod_add_emod]
    generalize x % (periodOf c : Int) = r at r0 r1 conv
    have b := (hmem _).mp (A 0 hpos)
    by_cases hr : r ≤ xs.getD 0 0
    · refine ⟨xs.getD 0 0 - r, by omega, ?_, ?_⟩
      · have hl := gap (xs.length - 1) (by omega)
        rw [show xs.length - 1 + 1 = xs.length from by omega, gl, g _ (by omega)] at hl
        have a := (hmem _).mp (A (xs.length - 1) (by omega))
        omega
      · rw [conv, show r + (xs.getD 0 0 - r) = xs.getD 0 0 from by omega]
        exact b.2.2
    · have hf0 : ys.getD 0 0 < r := by rw [g 0 hpos]; omega
      have hfn : r ≤ ys.getD xs.length 0 := by rw [gl]; omega
      obtain ⟨k, hk, k1, k2⟩ := between (fun k => ys.getD k 0) r xs.length hf0 hfn
      refine ⟨ys.getD (k + 1) 0 - r, by omega, ?_, ?_⟩
      · have := gap k hk
        have k1 : ys.getD k 0 < r := k1
        omega
      · rw [conv, show r + (ys.getD (k + 1) 0 - r) = ys.getD (k + 1) 0 from by omega]
        by_cases hk1 : k + 1 < xs.length
        · rw [g _ hk1]
          exact ((hmem _).mp (A _ hk1)).2.2
        · have e : k + 1 = xs.length := by omega
          rw [e, gl, isOut_period hc (Int.dvd_refl _)]
          exact b.2.2
  · obtain ⟨k, hk, e⟩ := List.mem_map.mp h1
    have hk := List.mem_range.mp hk
    exact ⟨ys.getD k 0 + 1, fun j j0 j1 => C k hk _ (by omega) (by omega)⟩
theorem delay_ex {c : Chan} (hc : ChOk c) {d x : Int} (h : isOut c d x = true) : ∃ m, delayOf c d = some m ∧ IsDelay c d m := by
  cases e : delayOf c d with
  | none =>
    have := (hours_nil hc).mp (delay_nil.mp e) x
    rw [h] at this
    cases this
  | some m => exact ⟨m, rfl, delay_is hc e⟩
theorem delay_out {c : Chan} {d m : Int} (h : IsDelay c d m) : ∃ x, isOut c d x = true := by
  obtain ⟨k, _, _, h⟩ := h.up 0
  exact ⟨_, h⟩
/-- the same hours, moved: the same delay -/
theorem delay_move {c e : Chan} (hc : ChOk c) (he : ChOk e) {d d' s : Int} (h : ∀ x, isOut e d' (x + s) = isOut c d x) : delayOf e d' = delayOf c d := by
  cases hx : delayOf c d with
  | none =>
    have := (hours_nil hc).mp (delay_nil.mp hx)
    rw [delay_nil, hours_nil he]
    intro x
    have := h (x - s)
    rw [Int.sub_add_cancel] at this
    rw [this]
    apply_assumption
  | some m =>
    have hm := delay_is hc hx
    obtain ⟨x, hxo⟩ := delay_out hm
    obtain ⟨m', h1, h2⟩ := delay_ex he (d := d') (x := x + s) (by rw [h]; exact hxo)
    rw [h1]
    congr 1
    have h3 : IsDelay c d m' := ⟨h2.m0, fun x => by
      obtain ⟨k, a, b, e1⟩ := h2.up (x + s)
      refine ⟨k, a, b, ?_⟩
      rw [← h, ← e1]
      congr 1
      omega, by
      obtain ⟨x, hx⟩ := h2.lo
      refine ⟨x - s, fun k a b => ?_⟩
      rw [← h, ← hx k a b]
      congr 1
      omega⟩
    exact h3.uniq hm
theorem great_mem {c : Chan} (hc : ChOk c) {x : Int} : x ∈ greatL c ↔ 0 ≤ x ∧ x ≤ 6 ∧ ∃ h, isOut c x h = true := by
  unfold greatL
  rw [List.mem_map]
  constructor
  · rintro ⟨n, hn, rfl⟩
    obtain ⟨h1, h2⟩ := List.mem_filter.mp hn
    have := List.mem_range.mp h1
    refine ⟨by omega, by omega, ?_⟩
    cases hh : hoursOf c (n : Nat) with
    | nil => rw [hh] at h2; cases h2
    | cons a r => exact ⟨a, (mem_hours.mp (by rw [hh]; exact List.mem_cons_self)).2.2⟩
  · rintro ⟨h0, h1, h, hh⟩
    refine ⟨x.toNat, List.mem_filter.mpr ⟨List.mem_range.mpr (by omega), ?_⟩, by omega⟩
    rw [show ((x.toNat : Nat) : Int) = x from by omega]
    have hm := (mod_mem_hours hc h).mpr hh
    cases hz : hoursOf c x with
    | nil => rw [hz] at hm; cases hm
    | cons a r => rfl
theorem full_iff {c : Chan} (hc : ChOk c) {d : Int} : (hoursOf c d).length = periodOf c ↔ ∀ h, isOut c d h = true := by
  have hp := period_pos hc
  have e : (hoursOf c d).length = ((List.range (periodOf c)).filter fun h => isOut c d (h : Nat)).length := by unfold hoursOf; rw [List.length_map]
  rw [e]
  constructor
  · intro h x
    have h' : ((List.range (periodOf c)).filter fun h => isOut c d (h : Nat)).length = (List.range (periodOf c)).length := by rw [h, List.length_range]
    have ha := List.length_filter_eq_length_iff.mp h'
    have r0 := Int.emod_nonneg x (show (periodOf c : Int) ≠ 0 by omega)
    have r1 := Int.emod_lt_of_pos x (show (0 : Int) < periodOf c by omega)
    have := ha (x % (periodOf c : Int)).toNat (List.mem_range.mpr (by omega))
    rw [show (((x % (periodOf c : Int)).toNat : Nat) : Int) = x % (periodOf c : Int) from by omega, isOut_mod hc] at this
    exact this
  · intro h
    rw [List.filter_eq_self.mpr fun x _ => h _, List.length_range]
theorem sure_mem {c : Chan} (hc : ChOk c) {x : Int} : x ∈ sureL c ↔ 0 ≤ x ∧ x ≤ 6 ∧ ∀ h, isOut c x h = true := by
  unfold sureL
  rw [List.mem_map]
  constructor
  · rintro ⟨n, hn, rfl⟩
    obtain ⟨h1, h2⟩ := List.mem_filter.mp hn
    have := List.mem_range.mp h1
    exact ⟨by omega, by omega, (full_iff hc).mp (of_decide_eq_true h2)⟩
  · rintro ⟨h0, h1, h⟩
    refine ⟨x.toNat, List.mem_filter.mpr ⟨List.mem_range.mpr (by omega), ?_⟩, by omega⟩
    rw [show ((x.toNat : Nat) : Int) = x from by omega]
    exact decide_eq_true ((full_iff hc).mpr h)
theorem isMax_le {xs ys : List Int} {m n : Int} (h : IsMax xs m) (h' : IsMax ys n) (s : ∀ x ∈ xs, x ∈ ys) : m ≤ n := h'.2 _ (s _ h.1)
theorem isMax_uniq {xs : List Int} {m n : Int} (h : IsMax xs m) (h' : IsMax xs n) : m = n := Int.le_antisymm (h'.2 _ h.1) (h.2 _ h'.1)
theorem great_le {c e : Chan} (hc : ChOk c) (he : ChOk e) {m n : Int} (h : IsMax (greatL c) m) (h' : IsMax (greatL e) n) (s : ∀ d x, isOut c d x = true → ∃ y, isOut e d y = true) : m ≤ n :=
  isMax_le h h' fun d hd => by
    obtain ⟨a, b, x, hx⟩ := (great_mem hc).mp hd
    exact (great_mem he).mpr ⟨a, b, s d x hx⟩
theorem sure_le {c e : Chan} (hc : ChOk c) (he : ChOk e) {m n : Int} (h : IsMax (sureL c) m) (h' : IsMax (sureL e) n) (s : ∀ d, (∀ x, isOut c d x = true) → ∀ y, isOut e d y = true) : m ≤ n :=
  isMax_le h h' fun d hd => by
    obtain ⟨a, b, hx⟩ := (sure_mem hc).mp hd
    exact (sure_mem he).mpr ⟨a, b, s d hx⟩

/-! ### another bar -/
def setBar (c : Chan) (j : Nat) (b : List Int) : Chan := ⟨c.bars.set j b, c.legs, c.waits⟩
theorem ChOk.setBar {c : Chan} (h : ChOk c) {j : Nat} {b : List Int} (hb : 1 ≤ b.length ∧ b.length ≤ 8) (hv : ∀ x ∈ b, 0 ≤ x ∧ x ≤ 6) : ChOk (setBar c j b) := by
  refine ⟨by simpa [TW.setBar] using h.b1, by simpa [TW.setBar] using h.b3, fun z hz => ?_, fun z hz => ?_, by simpa [TW.setBar] using h.ll, h.lv, by simpa [TW.setBar] using h.wl, h.wv⟩
  · rcases List.mem_or_eq_of_mem_set hz with e | e
    · exact h.bl z e
    · rw [e]; exact hb
  · rcases List.mem_or_eq_of_mem_set hz with e | e
    · exact h.bv z e
    · rw [e]; exact hv
theorem set_split {bs : List (List Int)} {j : Nat} {b : List Int} (hj : j < bs.length) : ((bs.map tI).take j ++ [tI b]) ++ (bs.map tI).drop (j + 1) = (bs.set j b).map tI := by
  rw [List.set_eq_take_append_cons_drop, if_pos hj, List.map_append, List.map_cons, List.map_take, List.map_drop, List.append_assoc]
  rfl
theorem setBar_d {c : Chan} {j : Nat} {b : List Int} (hj : j < c.bars.length) : PyData.tuple [.tuple (((c.bars.map tI).take j ++ [tI b]) ++ (c.bars.map tI).drop (j + 1)), tI c.legs, tI c.waits] = chD (setBar c j b) := by
  rw [set_split hj]
  rfl
/-! ### a bar that is 6 deep -/
def deepBar (c : Chan) (j : Nat) : List Int := List.replicate (barAt c j).length 6
def deepCh (c : Chan) (j : Nat) : Chan := setBar c j (deepBar c j)
theorem ChOk.deep {c : Chan} (h : ChOk c) {j : Nat} (hj : j < c.bars.length) : ChOk (deepCh c j) :=
  h.setBar (by unfold deepBar; rw [List.length_replicate]; exact h.bl _ (barAt_mem hj)) fun x hx => by
    rw [(List.mem_replicate.mp hx).2]
    exact ⟨by decide, by decide⟩
theorem period_set {c : Chan} {j : Nat} {b : List Int} (hj : j < c.bars.length) (hl : b.length = (barAt c j).length) : periodOf (setBar c j b) = periodOf c := by
  refine period_of_lens ?_
  show (c.bars.set j b).map List.length = c.bars.map List.length
  rw [List.map_set]
  apply List.ext_getElem?
  intro i
  by_cases hi : j = i
  · subst hi
    rw [List.getElem?_set_self (by rw [List.length_map]; exact hj), List.getElem?_map, hl, barAt, List.getD_eq_getElem?_getD, List.getElem?_eq_getElem hj]
    rfl
  · rw [List.getElem?_set_ne hi]
theorem period_deep {c : Chan} {j : Nat} (hj : j < c.bars.length) : periodOf (deepCh c j) = periodOf c := period_set hj (by unfold deepBar; rw [List.length_replicate])
def needless (c : Chan) (j : Nat) : Bool := (List.range 7).all fun d => decide (hoursOf c (d : Nat) = hoursOf (deepCh c j) (d : Nat))
def needlessL (c : Chan) : List Int := ((List.range c.bars.length).filter fun j => needless c j).map fun j => ((j : Nat) : Int)
theorem needless_iff {c : Chan} {j : Nat} : needless c j = true ↔ ∀ d : Int, 0 ≤ d → d ≤ 6 → hoursOf c d = hoursOf (deepCh c j) d := by
  unfold needless
  rw [List.all_eq_true]
  constructor
  · intro h d h0 h1
    have := of_decide_eq_true (h d.toNat (List.mem_range.mpr (by omega)))
    rwa [show ((d.toNat : Nat) : Int) = d from by omega] at this
  · intro h d hd
    have := List.mem_range.mp hd
    exact decide_eq_true (h _ (by omega) (by omega))
theorem needless_out {c : Chan} (hc : ChOk c) {j : Nat} (hj : j < c.bars.length) : needless c j = true ↔ ∀ d : Int, 0 ≤ d → d ≤ 6 → ∀ x, isOut (deepCh c j) d x = isOut c d x := by
  rw [needless_iff]
  constructor
  · intro h d h0 h1 x
    exact out_of_hours hc (hc.deep hj) (period_deep hj) (h d h0 h1).symm x
  · intro h d h0 h1
    exact (hours_eq (period_deep hj) (h d h0 h1)).symm
theorem mem_needless {c : Chan} {x : Int} : x ∈ needlessL c ↔ 0 ≤ x ∧ x < c.bars.length ∧ needless c x.toNat = true := by
  unfold needlessL
  rw [List.mem_map]
  constructor
  · rintro ⟨j, hj, rfl⟩
    obtain ⟨h1, h2⟩ := List.mem_filter.mp hj
    have := List.mem_range.mp h1
    exact ⟨by omega, by omega, by rw [Int.toNat_natCast]; exact h2⟩
  · rintro ⟨h0, h1, h2⟩
    exact ⟨x.toNat, List.mem_filter.mpr ⟨List.mem_range.mpr (by omega), h2⟩, by omega⟩

section
variable {P : Program} {w : World} {K : PySem.W.Frag} {mg : Str → Option Value} {base : Heap}
def cGreat : Ctr := fun svs τ Q => ∃ c, svs = [.val (chD c)] ∧ ChOk c ∧ ∀ m, IsMax (greatL c) m → Q (.val (.int m)) τ
abbrev s_greatest_draught : Stmt := topS 42
theorem sc_greatest_draught : FnScope ["channel", "draught"] ["channel"] (defScope s_greatest_draught) := ⟨rfl, rfl, rfl, by decide +kernel, rfl, by decide +kernel, by decide +kernel⟩
local macro_rules | `(tactic| walk_at "nm") => `(tactic| first
  | with_reducible refine de_name (x := "channel") 0 (by with_unfolding_all rfl) (by with_unfolding_all first | exact Or.inl rfl | exact Or.inr (Or.inl rfl) | exact Or.inr (Or.inr rfl)) (by with_unfolding_all rfl) ?_ (by with_unfolding_all decide) (by with_unfolding_all decide)
  | with_reducible refine de_name (x := "draught") 1 (by with_unfolding_all rfl) (by with_unfolding_all first | exact Or.inl rfl | exact Or.inr (Or.inl rfl) | exact Or.inr (Or.inr rfl)) (by with_unfolding_all rfl) ?_ (by with_unfolding_all decide) (by with_unfolding_all decide))
local macro_rules | `(tactic| walk_at "st") => `(tactic| first
  | with_reducible refine ds_set (x := "channel") 0 (by with_unfolding_all exact sc_greatest_draught.nd) (by with_unfolding_all rfl) (by with_unfolding_all first | exact Or.inl rfl | exact Or.inr rfl) ?_ (by with_unfolding_all rfl) (by with_unfolding_all first | exact .inl rfl | exact .inr rfl)
  | with_reducible refine ds_set (x := "draught") 1 (by with_unfolding_all exact sc_greatest_draught.nd) (by with_unfolding_all rfl) (by with_unfolding_all first | exact Or.inl rfl | exact Or.inr rfl) ?_ (by with_unfolding_all rfl) (by with_unfolding_all first | exact .inl rfl | exact .inr rfl))

local macro_rules | `(tactic| walk_at "lc draught") => `(tactic| refine de_lc (t := .name 1) (own := [("draught", 1)]) rfl sc_greatest_draught.nd (by first | exact blkOk_by (N := ["channel", "draught"]) (sc := defScope s_greatest_draught) (by decide +kernel) | exact blkOk_by (N := ["channel", "draught"]) (sc := relS _ (defScope s_greatest_draught)) (by decide +kernel)) (by decide) (fun _ _ _ _ _ => pgx_name sc_greatest_draught.nd rfl (by first | exact Or.inl rfl | exact Or.inr rfl)) ?_)

theorem kn_greatest_draught (D : HasDef K mg "greatest_draught" s_greatest_draught ["channel"]) (B : Bl mg) (k1 : Knows P w K mg base 4 "check_channel" cChk) (k2 : Knows P w K mg base 4 "found_hours" cHoursF) : Knows P w K mg base 5 "greatest_draught" cGreat := by
  refine knows_mk D sc_greatest_draught (fun _ _ _ ⟨_, e, _⟩ => by rw [e]; rfl) (fun f cdv A outer s H E hr svs τ Q hC => ?_)
  obtain ⟨c, rfl, hc, q⟩ := hC
  walk_at "go"
  refine ⟨c, rfl, hc, ?_⟩
  walk_at "go"
  walk_at "lc draught"
  refine di_range1 ‹Bl _› rfl ?_
  walk_at "go"
  refine ⟨by decide, by decide, ?_⟩
  refine lcq_filter (List.range 7) (fun d => .int (0 + (d : Nat))) (fun d => .int ((d : Nat) : Int)) (fun d => !(hoursOf c (d : Nat)).isEmpty) rfl (by rw [List.length_range]; decide) (fun d hd => ⟨_, rfl, fun D acc hD s H C cl fp => ⟨?_, fun _ => ?_⟩⟩) ?_
  · walk_at "go"
    rw [Int.zero_add]
    refine ⟨c, _, rfl, hc, ?_⟩
    walk_at "go"
    refine eq_nilL (n := 1) rfl rfl (fun x hx => by obtain ⟨i, _, rfl⟩ := List.mem_map.mp hx; trivial) ?_
    rw [List.isEmpty_map]
    walk_at "go"
    exact ⟨rfl, rfl⟩
  · walk_at "go"
    rw [Int.zero_add]
    exact ⟨rfl, rfl⟩
  have e : ((List.range 7).filter fun d => !(hoursOf c (d : Nat)).isEmpty).map (fun d => PyData.int ((d : Nat) : Int)) = (greatL c).map .int := by unfold greatL; rw [List.map_map]; rfl
  rw [e]
  refine ⟨_, rfl, ?_, q⟩
  have hp := period_pos hc
  have hz := hours_zero hc (Int.le_refl 0)
  refine List.length_pos_iff.mpr fun z => ?_
  have hm : (0 : Int) ∈ greatL c := List.mem_map.mpr ⟨0, List.mem_filter.mpr ⟨List.mem_range.mpr (by decide), by
    cases hh : hoursOf c ((0 : Nat) : Int) with
    | nil =>
      have hh : hoursOf c 0 = [] := hh
      rw [hh] at hz
      simp at hz
      omega
    | cons _ _ => rfl⟩, rfl⟩
  rw [z] at hm
  cases hm
end

section
variable {P : Program} {w : World} {K : PySem.W.Frag} {mg : Str → Option Value} {base : Heap}
def cSure : Ctr := fun svs τ Q => ∃ c, svs = [.val (chD c)] ∧ ChOk c ∧ ∀ m, IsMax (sureL c) m → Q (.val (.int m)) τ
abbrev s_sure_draught : Stmt := topS 43
theorem sc_sure_draught : FnScope ["channel", "draught"] ["channel"] (defScope s_sure_draught) := ⟨rfl, rfl, rfl, by decide +kernel, rfl, by decide +kernel, by decide +kernel⟩
local macro_rules | `(tactic| walk_at "nm") => `(tactic| first
  | with_reducible refine de_name (x := "channel") 0 (by with_unfolding_all rfl) (by with_unfolding_all first | exact Or.inl rfl | exact Or.inr (Or.inl rfl) | exact Or.inr (Or.inr rfl)) (by with_unfolding_all rfl) ?_ (by with_unfolding_all decide) (by with_unfolding_all decide)
  | with_reducible refine de_name (x := "draught") 1 (by with_unfolding_all rfl) (by with_unfolding_all first | exact Or.inl rfl | exact Or.inr (Or.inl rfl) | exact Or.inr (Or.inr rfl)) (by with_unfolding_all rfl) ?_ (by with_unfolding_all decide) (by with_unfolding_all decide))
local macro_rules | `(tactic| walk_at "st") => `(tactic| first
  | with_reducible refine ds_set (x := "channel") 0 (by with_unfolding_all exact sc_sure_draught.nd) (by with_unfolding_all rfl) (by with_unfolding_all first | exact Or.inl rfl | exact Or.inr rfl) ?_ (by with_unfolding_all rfl) (by with_unfolding_all first | exact .inl rfl | exact .inr rfl)
  | with_reducible refine ds_set (x := "draught") 1 (by with_unfolding_all exact sc_sure_draught.nd) (by with_unfolding_all rfl) (by with_unfolding_all first | exact Or.inl rfl | exact Or.inr rfl) ?_ (by with_unfolding_all rfl) (by with_unfolding_all first | exact .inl rfl | exact .inr rfl))

local macro_rules | `(tactic| walk_at "lc draught") => `(tactic| refine de_lc (t := .name 1) (own := [("draught", 1)]) rfl sc_sure_draught.nd (by first | exact blkOk_by (N := ["channel", "draught"]) (sc := defScope s_sure_draught) (by decide +kernel) | exact blkOk_by (N := ["channel", "draught"]) (sc := relS _ (defScope s_sure_draught)) (by decide +kernel)) (by decide) (fun _ _ _ _ _ => pgx_name sc_sure_draught.nd rfl (by first | exact Or.inl rfl | exact Or.inr rfl)) ?_)

theorem kn_sure_draught (D : HasDef K mg "sure_draught" s_sure_draught ["channel"]) (B : Bl mg) (k1 : Knows P w K mg base 4 "check_channel" cChk) (k2 : Knows P w K mg base 4 "found_hours" cHoursF) (k3 : Knows P w K mg base 2 "period_of" cPer) : Knows P w K mg base 5 "sure_draught" cSure := by
  refine knows_mk D sc_sure_draught (fun _ _ _ ⟨_, e, _⟩ => by rw [e]; rfl) (fun f cdv A outer s H E hr svs τ Q hC => ?_)
  obtain ⟨c, rfl, hc, q⟩ := hC
  walk_at "go"
  refine ⟨c, rfl, hc, ?_⟩
  walk_at "go"
  walk_at "lc draught"
  refine di_range1 ‹Bl _› rfl ?_
  walk_at "go"
  refine ⟨by decide, by decide, ?_⟩
  refine lcq_filter (List.range 7) (fun d => .int (0 + (d : Nat))) (fun d => .int ((d : Nat) : Int)) (fun d => decide ((hoursOf c (d : Nat)).length = periodOf c)) rfl (by rw [List.length_range]; decide) (fun d hd => ⟨_, rfl, fun D acc hD s H C cl fp => ⟨?_, fun _ => ?_⟩⟩) ?_
  · walk_at "go"
    rw [Int.zero_add]
    refine ⟨c, _, rfl, hc, ?_⟩
    walk_at "go"
    refine ⟨c, rfl, hc, ?_⟩
    walk_at "go"
    refine ⟨?_, rfl⟩
    show decide (((((hoursOf c (d : Nat)).map PyData.int).length : Nat) : Int) = ((periodOf c : Nat) : Int)) = _
    rw [List.length_map]
    exact decide_eq_decide.mpr (by omega)
  · walk_at "go"
    rw [Int.zero_add]
    exact ⟨rfl, rfl⟩
  have e : ((List.range 7).filter fun d => decide ((hoursOf c (d : Nat)).length = periodOf c)).map (fun d => PyData.int ((d : Nat) : Int)) = (sureL c).map .int := by unfold sureL; rw [List.map_map]; rfl
  rw [e]
  refine ⟨_, rfl, ?_, q⟩
  have hz := hours_zero hc (Int.le_refl 0)
  refine List.length_pos_iff.mpr fun z => ?_
  have hm : (0 : Int) ∈ sureL c := List.mem_map.mpr ⟨0, List.mem_filter.mpr ⟨List.mem_range.mpr (by decide), decide_eq_true hz⟩, rfl⟩
  rw [z] at hm
  cases hm
end

section
variable {P : Program} {w : World} {K : PySem.W.Frag} {mg : Str → Option Value} {base : Heap}
theorem rep_six (n : Nat) : (List.replicate n [PyData.int 6]).flatten = (List.replicate n (6 : Int)).map .int := by
  induction n with
  | zero => rfl
  | succ n ih => rw [List.replicate_succ, List.flatten_cons, ih]; rfl
def cNeed : Ctr := fun svs τ Q => ∃ c, ∃ j : Nat, svs = [.val (chD c), .val (.int j)] ∧ ChOk c ∧ j < c.bars.length ∧ Q (.val (.bool (needless c j))) τ
abbrev s_is_needless : Stmt := topS 44
theorem sc_is_needless : FnScope ["channel", "bar", "deep", "other", "draught"] ["channel", "bar"] (defScope s_is_needless) := ⟨rfl, rfl, rfl, by decide +kernel, rfl, by decide +kernel, by decide +kernel⟩
local macro_rules | `(tactic| walk_at "nm") => `(tactic| first
  | with_reducible refine de_name (x := "channel") 0 (by with_unfolding_all rfl) (by with_unfolding_all first | exact Or.inl rfl | exact Or.inr (Or.inl rfl) | exact Or.inr (Or.inr rfl)) (by with_unfolding_all rfl) ?_ (by with_unfolding_all decide) (by with_unfolding_all decide)
  | with_reducible refine de_name (x := "bar") 1 (by with_unfolding_all rfl) (by with_unfolding_all first | exact Or.inl rfl | exact Or.inr (Or.inl rfl) | exact Or.inr (Or.inr rfl)) (by with_unfolding_all rfl) ?_ (by with_unfolding_all decide) (by with_unfolding_all decide)
  | with_reducible refine de_name (x := "deep") 2 (by with_unfolding_all rfl) (by with_unfolding_all first | exact Or.inl rfl | exact Or.inr (Or.inl rfl) | exact Or.inr (Or.inr rfl)) (by with_unfolding_all rfl) ?_ (by with_unfolding_all decide) (by with_unfolding_all decide)
  | with_reducible refine de_name (x := "other") 3 (by with_unfolding_all rfl) (by with_unfolding_all first | exact Or.inl rfl | exact Or.inr (Or.inl rfl) | exact Or.inr (Or.inr rfl)) (by with_unfolding_all rfl) ?_ (by with_unfolding_all decide) (by with_unfolding_all decide)
  | with_reducible refine de_name (x := "draught") 4 (by with_unfolding_all rfl) (by with_unfolding_all first | exact Or.inl rfl | exact Or.inr (Or.inl rfl) | exact Or.inr (Or.inr rfl)) (by with_unfolding_all rfl) ?_ (by with_unfolding_all decide) (by with_unfolding_all decide))
local macro_rules | `(tactic| walk_at "st") => `(tactic| first
  | with_reducible refine ds_set (x := "channel") 0 (by with_unfolding_all exact sc_is_needless.nd) (by with_unfolding_all rfl) (by with_unfolding_all first | exact Or.inl rfl | exact Or.inr rfl) ?_ (by with_unfolding_all rfl) (by with_unfolding_all first | exact .inl rfl | exact .inr rfl)
  | with_reducible refine ds_set (x := "bar") 1 (by with_unfolding_all exact sc_is_needless.nd) (by with_unfolding_all rfl) (by with_unfolding_all first | exact Or.inl rfl | exact Or.inr rfl) ?_ (by with_unfolding_all rfl) (by with_unfolding_all first | exact .inl rfl | exact .inr rfl)
  | with_reducible refine ds_set (x := "deep") 2 (by with_unfolding_all exact sc_is_needless.nd) (by with_unfolding_all rfl) (by with_unfolding_all first | exact Or.inl rfl | exact Or.inr rfl) ?_ (by with_unfolding_all rfl) (by with_unfolding_all first | exact .inl rfl | exact .inr rfl)
  | with_reducible refine ds_set (x := "other") 3 (by with_unfolding_all exact sc_is_needless.nd) (by with_unfolding_all rfl) (by with_unfolding_all first | exact Or.inl rfl | exact Or.inr rfl) ?_ (by with_unfolding_all rfl) (by with_unfolding_all first | exact .inl rfl | exact .inr rfl)
  | with_reducible refine ds_set (x := "draught") 4 (by with_unfolding_all exact sc_is_needless.nd) (by with_unfolding_all rfl) (by with_unfolding_all first | exact Or.inl rfl | exact Or.inr rfl) ?_ (by with_unfolding_all rfl) (by with_unfolding_all first | exact .inl rfl | exact .inr rfl))

local macro_rules | `(tactic| walk_at "lc draught") => `(tactic| refine de_lc (t := .name 4) (own := [("draught", 4)]) rfl sc_is_needless.nd (by first | exact blkOk_by (N := ["channel", "bar", "deep", "other", "draught"]) (sc := defScope s_is_needless) (by decide +kernel) | exact blkOk_by (N := ["channel", "bar", "deep", "other", "draught"]) (sc := relS _ (defScope s_is_needless)) (by decide +kernel)) (by decide) (fun _ _ _ _ _ => pgx_name sc_is_needless.nd rfl (by first | exact Or.inl rfl | exact Or.inr rfl)) ?_)

theorem kn_is_needless (D : HasDef K mg "is_needless" s_is_needless ["channel", "bar"]) (B : Bl mg) (k2 : Knows P w K mg base 4 "found_hours" cHoursF) : Knows P w K mg base 5 "is_needless" cNeed := by
  refine knows_mk D sc_is_needless (fun _ _ _ ⟨_, _, e, _⟩ => by rw [e]; rfl) (fun f cdv A outer s H E hr svs τ Q hC => ?_)
  obtain ⟨c, j, rfl, hc, hj, q⟩ := hC
  have hbl := hc.bl _ (barAt_mem hj)
  have hb3 := hc.b3
  have lt1 : j ≤ (c.bars.map tI).length := by rw [List.length_map]; omega
  have lt2 : j + 1 ≤ (c.bars.map tI).length := by rw [List.length_map]; omega
  have ec : chD c = .tuple [.tuple (c.bars.map tI), tI c.legs, tI c.waits] := rfl
  refine db_seq (fun ρ' τ' => τ' = τ ∧ ρ' = [some (.val (chD c)), some (.val (.int j)), some (.val (tI (deepBar c j))), none, none]) ?_ ?_
  · rw [ec]
    walk_at "go"
    refine ix_tup' (atI_bar hj) ?_
    unfold tI
    walk_at "go"
    rw [List.length_map]
    refine times_tup' (List.cons_ne_nil _ _) (by omega) (by omega) (by decide) ?_
    rw [Int.toNat_natCast]
    refine ⟨rfl, ?_⟩
    rw [rep_six]
    rfl
  rintro ρ' τ' ⟨rfl, rfl⟩
  refine db_seq (fun ρ' τ1 => τ1 = τ' ∧ ρ' = [some (.val (chD c)), some (.val (.int j)), some (.val (tI (deepBar c j))), some (.val (chD (deepCh c j))), none]) ?_ ?_
  · rw [ec]
    unfold deepCh
    generalize deepBar c j = nb
    walk_at "go"
    show PlusD _ (MV.val (PyData.tuple (cutD (c.bars.map tI) none (some (j : Int))))) (MV.val (.tuple [tI nb])) _ _
    rw [cutD_take lt1]
    refine plus_tup (by rw [List.length_take, List.length_map]; show _ + 1 ≤ _; omega) ?_
    walk_at "go"
    show PlusD _ (MV.val (PyData.tuple ((c.bars.map tI).take j ++ [tI nb]))) (MV.val (PyData.tuple (cutD (c.bars.map tI) (some ((j : Int) + 1)) none))) _ _
    rw [cutD_drop1 lt2]
    refine plus_tup (by rw [List.length_append, List.length_take, List.length_drop, List.length_map]; show _ + 1 + _ ≤ _; omega) ?_
    walk_at "go"
    refine ⟨rfl, ?_⟩
    show [_, _, _, some (MV.val (PyData.tuple [.tuple (((c.bars.map tI).take j ++ [tI nb]) ++ (c.bars.map tI).drop (j + 1)), tI c.legs, tI c.waits])), _] = _
    rw [setBar_d hj]
  rintro ρ' τ1 ⟨rfl, rfl⟩
  walk_at "go"
  walk_at "lc draught"
  refine di_range1 ‹Bl _› rfl ?_
  walk_at "go"
  refine ⟨by decide, by decide, ?_⟩
  refine lcq_map (List.range 7) (fun d => .int (0 + (d : Nat))) (fun d => .bool (decide (hoursOf c (d : Nat) = hoursOf (deepCh c j) (d : Nat)))) rfl (by rw [List.length_range]; decide) (fun d hd => ⟨_, rfl, fun D acc hD s H C cl fp => ?_⟩) ?_
  · walk_at "go"
    rw [Int.zero_add]
    refine ⟨c, _, rfl, hc, ?_⟩
    walk_at "go"
    refine ⟨deepCh c j, _, rfl, hc.deep hj, ?_⟩
    refine eq_pl (n := 1) (m := 1) rfl rfl (fun x hx => by obtain ⟨i, _, rfl⟩ := List.mem_map.mp hx; trivial) (fun x hx => by obtain ⟨i, _, rfl⟩ := List.mem_map.mp hx; trivial) (fun b hb => ?_)
    refine ⟨?_, rfl⟩
    have e : b = decide (hoursOf c (d : Nat) = hoursOf (deepCh c j) (d : Nat)) := by
      apply Bool.eq_iff_iff.mpr
      rw [hb, decide_eq_true_iff]
      constructor
      · intro h
        injection h with h
        exact map_inj_of (fun a b h => by injection h) h
      · intro h; rw [h]
    rw [← e]
    rfl
  refine ⟨(List.range 7).map fun d => decide (hoursOf c (d : Nat) = hoursOf (deepCh c j) (d : Nat)), ?_, ?_⟩
  · show some _ = some _
    rw [List.map_map]
    rfl
  · unfold needless at q
    rw [List.all_map]
    exact q
end
section
variable {P : Program} {w : World} {K : PySem.W.Frag} {mg : Str → Option Value} {base : Heap}
def cNeedless : Ctr := fun svs τ Q => ∃ c, svs = [.val (chD c)] ∧ ChOk c ∧ Q (.val (tI (needlessL c))) τ
abbrev s_needless_bars : Stmt := topS 45
theorem sc_needless_bars : FnScope ["channel", "bar"] ["channel"] (defScope s_needless_bars) := ⟨rfl, rfl, rfl, by decide +kernel, rfl, by decide +kernel, by decide +kernel⟩
local macro_rules | `(tactic| walk_at "nm") => `(tactic| first
  | with_reducible refine de_name (x := "channel") 0 (by with_unfolding_all rfl) (by with_unfolding_all first | exact Or.inl rfl | exact Or.inr (Or.inl rfl) | exact Or.inr (Or.inr rfl)) (by with_unfolding_all rfl) ?_ (by with_unfolding_all decide) (by with_unfolding_all decide)
  | with_reducible refine de_name (x := "bar") 1 (by with_unfolding_all rfl) (by with_unfolding_all first | exact Or.inl rfl | exact Or.inr (Or.inl rfl) | exact Or.inr (Or.inr rfl)) (by with_unfolding_all rfl) ?_ (by with_unfolding_all decide) (by with_unfolding_all decide))
local macro_rules | `(tactic| walk_at "st") => `(tactic| first
  | with_reducible refine ds_set (x := "channel") 0 (by with_unfolding_all exact sc_needless_bars.nd) (by with_unfolding_all rfl) (by with_unfolding_all first | exact Or.inl rfl | exact Or.inr rfl) ?_ (by with_unfolding_all rfl) (by with_unfolding_all first | exact .inl rfl | exact .inr rfl)
  | with_reducible refine ds_set (x := "bar") 1 (by with_unfolding_all exact sc_needless_bars.nd) (by with_unfolding_all rfl) (by with_unfolding_all first | exact Or.inl rfl | exact Or.inr rfl) ?_ (by with_unfolding_all rfl) (by with_unfolding_all first | exact .inl rfl | exact .inr rfl))

local macro_rules | `(tactic| walk_at "lc bar") => `(tactic| refine de_lc (t := .name 1) (own := [("bar", 1)]) rfl sc_needless_bars.nd (by first | exact blkOk_by (N := ["channel", "bar"]) (sc := defScope s_needless_bars) (by decide +kernel) | exact blkOk_by (N := ["channel", "bar"]) (sc := relS _ (defScope s_needless_bars)) (by decide +kernel)) (by decide) (fun _ _ _ _ _ => pgx_name sc_needless_bars.nd rfl (by first | exact Or.inl rfl | exact Or.inr rfl)) ?_)

theorem kn_needless_bars (D : HasDef K mg "needless_bars" s_needless_bars ["channel"]) (B : Bl mg) (k1 : Knows P w K mg base 4 "check_channel" cChk) (k2 : Knows P w K mg base 5 "is_needless" cNeed) : Knows P w K mg base 6 "needless_bars" cNeedless := by
  refine knows_mk D sc_needless_bars (fun _ _ _ ⟨_, e, _⟩ => by rw [e]; rfl) (fun f cdv A outer s H E hr svs τ Q hC => ?_)
  obtain ⟨c, rfl, hc, q⟩ := hC
  have hb3 := hc.b3
  walk_at "go"
  refine ⟨c, rfl, hc, ?_⟩
  have ec : chD c = .tuple [.tuple (c.bars.map tI), tI c.legs, tI c.waits] := rfl
  rw [ec]
  walk_at "go"
  walk_at "lc bar"
  refine di_range1 ‹Bl _› rfl ?_
  walk_at "go"
  rw [List.length_map]
  refine ⟨by omega, by omega, ?_⟩
  refine lcq_filter (List.range c.bars.length) (fun d => .int (0 + (d : Nat))) (fun d => .int ((d : Nat) : Int)) (fun j => needless c j) rfl (by rw [List.length_range]; omega) (fun d hd => ⟨_, rfl, fun D acc hD s H C cl fp => ⟨?_, fun _ => ?_⟩⟩) ?_
  · have hd := List.mem_range.mp hd
    walk_at "go"
    rw [Int.zero_add]
    refine ⟨c, d, rfl, hc, hd, ?_⟩
    walk_at "go"
    exact ⟨rfl, rfl⟩
  · walk_at "go"
    rw [Int.zero_add]
    exact ⟨rfl, rfl⟩
  refine tup_lst rfl ?_
  have e : ((List.range c.bars.length).filter fun j => needless c j).map (fun d => PyData.int ((d : Nat) : Int)) = (needlessL c).map .int := by unfold needlessL; rw [List.map_map]; rfl
  rw [e]
  exact q
end

/-! ### deeper bars -/
/-- no bar less deep: nothing is lost -/
theorem rows_more {c e : Chan} {d d' h : Int} (hl : e.legs = c.legs) (hw : e.waits = c.waits) : ∀ k, (∀ j, j ≤ k → ∀ x, d ≤ depthOf c j x → d' ≤ depthOf e j x) → ∀ r ∈ rowsTo c d h k, r ∈ rowsTo e d' h k
  | 0, hd, r, hr => by
    unfold rowsTo at hr ⊢
    split at hr
    · rename_i z
      rw [if_pos (hd 0 (Nat.le_refl _) h z)]
      exact hr
    · cases hr
  | k + 1, hd, r, hr => by
    unfold rowsTo at hr ⊢
    obtain ⟨h1, h2⟩ := List.mem_filter.mp hr
    obtain ⟨q, hq, hm⟩ := List.mem_flatMap.mp h1
    have ex : extR e k = extR c k := by
      funext r
      unfold extR legAt waitAt
      rw [hl, hw]
    refine List.mem_filter.mpr ⟨List.mem_flatMap.mpr ⟨q, rows_more hl hw k (fun j hj => hd j (by omega)) q hq, by rw [ex]; exact hm⟩, ?_⟩
    unfold okR at h2 ⊢
    exact decide_eq_true (hd (k + 1) (Nat.le_refl _) _ (of_decide_eq_true h2))
theorem out_more {c e : Chan} {d d' h : Int} (hb : e.bars.length = c.bars.length) (hl : e.legs = c.legs) (hw : e.waits = c.waits) (hd : ∀ j, j ≤ c.bars.length - 1 → ∀ x, d ≤ depthOf c j x → d' ≤ depthOf e j x) (h1 : isOut c d h = true) : isOut e d' h = true := by
  unfold isOut allFrom at h1 ⊢
  rw [hb]
  cases hx : rowsTo c d h (c.bars.length - 1) with
  | nil => rw [hx] at h1; cases h1
  | cons r rs =>
    have := rows_more hl hw _ hd r (by rw [hx]; exact List.mem_cons_self)
    cases hy : rowsTo e d' h (c.bars.length - 1) with
    | nil => rw [hy] at this; cases this
    | cons _ _ => rfl

/-! ### alike, and equal ints -/
theorem eqv_int (a b : Int) : PyData.eqv (.int a) (.int b) = true ↔ a = b := by
  have := Pl.eqv_iff (n := 0) (m := 0) (d := .int a) (e := .int b) trivial trivial
  rw [this]
  exact ⟨fun h => by injection h, fun h => by rw [h]⟩
theorem alikeAll_ints : ∀ xs ys : List Int, PySem.W.alikeAll (xs.map .int) (ys.map .int) = true
  | [], _ => by rw [List.map_nil, PySem.W.alikeAll]
  | _ :: _, [] => by rw [List.map_nil, List.map_cons, PySem.W.alikeAll]
  | x :: xs, y :: ys => by rw [List.map_cons, List.map_cons, PySem.W.alikeAll, PySem.W.alike, alikeAll_ints xs ys]; rfl
theorem alike_tI (xs ys : List Int) : PySem.W.alike (tI xs) (tI ys) = true := by
  unfold tI
  rw [PySem.W.alike]
  exact alikeAll_ints xs ys

/-! ### the shortest passage -/
def pairD (r : List Int) : PyData := .tuple [.int (lastI r - r.getD 0 0), tI r]
def pairsTo (c : Chan) (d : Int) (n : Nat) : List (List Int) := ((hoursOf c d).take n).flatMap (allFrom c d)
def pairsOf (c : Chan) (d : Int) : List (List Int) := (hoursOf c d).flatMap (allFrom c d)
def bestD : List PyData → PyData
  | [] => .none
  | x :: xs => PySem.W.minD x xs
def sndD : PyData → PyData
  | .tuple [_, r] => r
  | _ => .none
def shortD (c : Chan) (d : Int) : PyData := sndD (bestD ((pairsOf c d).map pairD))
theorem minD_mem : ∀ (xs : List PyData) (x : PyData), PySem.W.minD x xs ∈ x :: xs
  | [], x => List.mem_cons_self
  | y :: ys, x => by
    show PySem.W.minD (if PySem.W.dataLt y x then y else x) ys ∈ x :: y :: ys
    rcases List.mem_cons.mp (minD_mem ys (if PySem.W.dataLt y x then y else x)) with e | e
    · rw [e]
      split
      · exact List.mem_cons_of_mem _ List.mem_cons_self
      · exact List.mem_cons_self
    · exact List.mem_cons_of_mem _ (List.mem_cons_of_mem _ e)
theorem alike_pair (r q : List Int) : PySem.W.alike (pairD r) (pairD q) = true := by
  unfold pairD
  rw [PySem.W.alike, PySem.W.alikeAll, PySem.W.alikeAll, PySem.W.alike, alike_tI, PySem.W.alikeAll]
  rfl
theorem alike_pairs (rs : List (List Int)) : PySem.W.AlikeAll (rs.map pairD) := ⟨fun x hx y hy => by
  obtain ⟨r, _, rfl⟩ := List.mem_map.mp hx
  obtain ⟨q, _, rfl⟩ := List.mem_map.mp hy
  exact alike_pair r q, fun x hx => by
  obtain ⟨r, _, rfl⟩ := List.mem_map.mp hx
  exact fun z => by cases z⟩
theorem pl_pair (r : List Int) : Pl 2 (pairD r) := fun x hx => by
  simp only [List.mem_cons, List.not_mem_nil, or_false] at hx
  rcases hx with rfl | rfl
  · trivial
  · exact pl_tI r
theorem pb_pair (r : List Int) : Pb 2 (pairD r) := fun x hx => by
  simp only [List.mem_cons, List.not_mem_nil, or_false] at hx
  rcases hx with rfl | rfl
  · trivial
  · exact pb_intsT 0 r
theorem pairsTo_succ {c : Chan} {d : Int} {n : Nat} {h : Int} (e : (hoursOf c d)[n]? = some h) : pairsTo c d (n + 1) = pairsTo c d n ++ allFrom c d h := by
  unfold pairsTo
  rw [List.take_add_one, e, List.flatMap_append]
  simp
theorem pairsTo_len {c : Chan} (hc : ChOk c) (d : Int) (n : Nat) : (pairsTo c d n).length ≤ 16 * 512 := by
  unfold pairsTo
  have h1 := flatMap_len (f := allFrom c d) (xs := (hoursOf c d).take n) (n := 16) fun h _ => all_len16 hc d h
  have h2 := hours_len hc d
  have h3 : ((hoursOf c d).take n).length ≤ (hoursOf c d).length := by rw [List.length_take]; omega
  omega
theorem pair_row {c : Chan} {d : Int} {r : List Int} (h : r ∈ pairsOf c d) : r ≠ [] ∧ ∃ x, x ∈ hoursOf c d ∧ r ∈ allFrom c d x := by
  unfold pairsOf at h
  obtain ⟨x, hx, hr⟩ := List.mem_flatMap.mp h
  refine ⟨fun z => ?_, x, hx, hr⟩
  have := row_shape hr
  rw [z] at this
  simp at this
section
variable {P : Program} {w : World} {K : PySem.W.Frag} {mg : Str → Option Value} {base : Heap}
def cShort : Ctr := fun svs τ Q => ∃ c, ∃ d : Int, svs = [.val (chD c), .val (.int d)] ∧ ChOk c ∧ 0 ≤ d ∧ d ≤ 6 ∧ Q (.val (shortD c d)) τ
abbrev s_shortest : Stmt := topS 41
theorem sc_shortest : FnScope ["channel", "draught", "rows", "hour", "row"] ["channel", "draught"] (defScope s_shortest) := ⟨rfl, rfl, rfl, by decide +kernel, rfl, by decide +kernel, by decide +kernel⟩
local macro_rules | `(tactic| walk_at "nm") => `(tactic| first
  | with_reducible refine de_name (x := "channel") 0 (by with_unfolding_all rfl) (by with_unfolding_all first | exact Or.inl rfl | exact Or.inr (Or.inl rfl) | exact Or.inr (Or.inr rfl)) (by with_unfolding_all rfl) ?_ (by with_unfolding_all decide) (by with_unfolding_all decide)
  | with_reducible refine de_name (x := "draught") 1 (by with_unfolding_all rfl) (by with_unfolding_all first | exact Or.inl rfl | exact Or.inr (Or.inl rfl) | exact Or.inr (Or.inr rfl)) (by with_unfolding_all rfl) ?_ (by with_unfolding_all decide) (by with_unfolding_all decide)
  | with_reducible refine de_name (x := "rows") 2 (by with_unfolding_all rfl) (by with_unfolding_all first | exact Or.inl rfl | exact Or.inr (Or.inl rfl) | exact Or.inr (Or.inr rfl)) (by with_unfolding_all rfl) ?_ (by with_unfolding_all decide) (by with_unfolding_all decide)
  | with_reducible refine de_name (x := "hour") 3 (by with_unfolding_all rfl) (by with_unfolding_all first | exact Or.inl rfl | exact Or.inr (Or.inl rfl) | exact Or.inr (Or.inr rfl)) (by with_unfolding_all rfl) ?_ (by with_unfolding_all decide) (by with_unfolding_all decide)
  | with_reducible refine de_name (x := "row") 4 (by with_unfolding_all rfl) (by with_unfolding_all first | exact Or.inl rfl | exact Or.inr (Or.inl rfl) | exact Or.inr (Or.inr rfl)) (by with_unfolding_all rfl) ?_ (by with_unfolding_all decide) (by with_unfolding_all decide))
local macro_rules | `(tactic| walk_at "st") => `(tactic| first
  | with_reducible refine ds_set (x := "channel") 0 (by with_unfolding_all exact sc_shortest.nd) (by with_unfolding_all rfl) (by with_unfolding_all first | exact Or.inl rfl | exact Or.inr rfl) ?_ (by with_unfolding_all rfl) (by with_unfolding_all first | exact .inl rfl | exact .inr rfl)
  | with_reducible refine ds_set (x := "draught") 1 (by with_unfolding_all exact sc_shortest.nd) (by with_unfolding_all rfl) (by with_unfolding_all first | exact Or.inl rfl | exact Or.inr rfl) ?_ (by with_unfolding_all rfl) (by with_unfolding_all first | exact .inl rfl | exact .inr rfl)
  | with_reducible refine ds_set (x := "rows") 2 (by with_unfolding_all exact sc_shortest.nd) (by with_unfolding_all rfl) (by with_unfolding_all first | exact Or.inl rfl | exact Or.inr rfl) ?_ (by with_unfolding_all rfl) (by with_unfolding_all first | exact .inl rfl | exact .inr rfl)
  | with_reducible refine ds_set (x := "hour") 3 (by with_unfolding_all exact sc_shortest.nd) (by with_unfolding_all rfl) (by with_unfolding_all first | exact Or.inl rfl | exact Or.inr rfl) ?_ (by with_unfolding_all rfl) (by with_unfolding_all first | exact .inl rfl | exact .inr rfl)
  | with_reducible refine ds_set (x := "row") 4 (by with_unfolding_all exact sc_shortest.nd) (by with_unfolding_all rfl) (by with_unfolding_all first | exact Or.inl rfl | exact Or.inr rfl) ?_ (by with_unfolding_all rfl) (by with_unfolding_all first | exact .inl rfl | exact .inr rfl))

local macro_rules | `(tactic| walk_at "lc row") => `(tactic| refine de_lc (t := .name 4) (own := [("row", 4)]) rfl sc_shortest.nd (by first | exact blkOk_by (N := ["channel", "draught", "rows", "hour", "row"]) (sc := defScope s_shortest) (by decide +kernel) | exact blkOk_by (N := ["channel", "draught", "rows", "hour", "row"]) (sc := relS _ (defScope s_shortest)) (by decide +kernel)) (by decide) (fun _ _ _ _ _ => pgx_name sc_shortest.nd rfl (by first | exact Or.inl rfl | exact Or.inr rfl)) ?_)

theorem kn_shortest (D : HasDef K mg "shortest" s_shortest ["channel", "draught"]) (B : Bl mg) (k1 : Knows P w K mg base 5 "check_two" cChk2) (k2 : Knows P w K mg base 4 "found_hours" cHoursF) (k3 : Knows P w K mg base 2 "all_from" cAllFrom) : Knows P w K mg base 6 "shortest" cShort := by
  refine knows_mk D sc_shortest (fun _ _ _ ⟨_, _, e, _⟩ => by rw [e]; rfl) (fun f cdv A outer s H E hr svs τ Q hC => ?_)
  obtain ⟨c, d, rfl, hc, d0, d1, q⟩ := hC
  have hlen := hours_len hc d
  walk_at "go"
  refine ⟨c, d, rfl, hc, d0, d1, ?_⟩
  walk_at "db"
  walk_at "st"
  refine de_lstM ?_
  walk_at "go"
  intro l hl
  refine db_seq (fun ρ' τ' => ∃ v3, τ' = (l, .lst ((pairsOf c d).map pairD)) :: τ ∧ ρ' = [some (.val (chD c)), some (.val (.int d)), some (.hdl l), v3, none]) ?_ ?_
  · refine ds_for (t := .name 3) rfl PassesOwn.never (pgx_name sc_shortest.nd rfl (by first | exact Or.inl rfl | exact Or.inr rfl)) (di_lst ?_)
    walk_at "go"
    refine ⟨c, d, rfl, hc, _, rfl, fun i ρ' τ' => ∃ v3, τ' = (l, .lst ((pairsTo c d i).map pairD)) :: τ ∧ ρ' = [some (.val (chD c)), some (.val (.int d)), some (.hdl l), v3, none], ⟨none, rfl, rfl⟩, fun _ _ _ _ => trivial, ?_, ?_⟩
    · rintro i dd ρ' τ' hd ⟨v3, rfl, rfl⟩
      obtain ⟨h, hh, rfl⟩ := map_get hd
      have hl16 := all_len16 hc d h
      have hlp := pairsTo_len hc d i
      refine ⟨_, rfl, ?_⟩
      refine db_one (ds_expr (de_extend ?_))
      walk_at "go"
      refine ⟨l, _, rfl, lookup_here, ?_⟩
      walk_at "lc row"
      refine di_lst ?_
      walk_at "go"
      refine ⟨c, d, h, rfl, hc, _, rfl, ?_⟩
      refine lcq_map (allFrom c d h) tI pairD rfl (by omega) (fun r hr => ⟨_, rfl, fun D acc hD s H C cl fp => ?_⟩) ?_
      · have hrs := row_shape hr
        have hne : r ≠ [] := fun z => by rw [z] at hrs; simp at hrs
        have eR : tI r = .tuple (r.map .int) := rfl
        rw [eR]
        walk_at "go"
        refine ix_tup' (atI_last hne) ?_
        walk_at "go"
        refine ix_tup' (atI_int (by omega) (by have := List.length_pos_iff.mpr hne; omega)) ?_
        walk_at "go"
        exact ⟨rfl, rfl⟩
      · refine ⟨_, _, rfl, lookup_here, by rw [List.length_map, List.length_map]; omega, _, ?_, rfl⟩
        rw [setS_here, pairsTo_succ hh, List.map_append]
    · rintro ρ' τ' ⟨v3, rfl, rfl⟩
      refine ⟨v3, ?_, rfl⟩
      rw [List.length_map]
      unfold pairsTo
      rw [List.take_length]
      rfl
  · rintro ρ' τ' ⟨v3, rfl, rfl⟩
    refine db_freeze 2 rfl ?_
    unfold shortD at q
    have hmem : ∀ r ∈ pairsOf c d, True := fun _ _ => trivial
    generalize pairsOf c d = L at q ⊢
    walk_at "db"
    walk_at "ds"
    refine de_ifexp ?_
    refine dt_ne (Room.units ‹Room _ _›) ?_
    walk_at "go"
    refine eq_nilL (n := 3) rfl rfl (fun x hx => by obtain ⟨r, _, rfl⟩ := List.mem_map.mp hx; exact pb_pair r) ?_
    cases L with
    | nil =>
      walk_at "go"
      exact q
    | cons r rs =>
      walk_at "gm"
      refine de_minD (n := 2) ‹Bl _› rfl (Room.units65 ‹Room _ _›) rfl ?_
      walk_at "go"
      refine ⟨pairD r, rs.map pairD, rfl, alike_pairs (r :: rs), fun x hx => ?_, ?_⟩
      · rcases List.mem_cons.mp hx with rfl | hx
        · exact pl_pair r
        · obtain ⟨z, _, rfl⟩ := List.mem_map.mp hx
          exact pl_pair z
      have q : Q (.val (sndD (PySem.W.minD (pairD r) (rs.map pairD)))) τ := q
      have hm := minD_mem (rs.map pairD) (pairD r)
      obtain ⟨z, hz⟩ : ∃ z, PySem.W.minD (pairD r) (rs.map pairD) = pairD z := by
        rcases List.mem_cons.mp hm with e | hm
        · exact ⟨r, e⟩
        · obtain ⟨z, _, e⟩ := List.mem_map.mp hm
          exact ⟨z, e.symm⟩
      rw [hz] at q ⊢
      unfold pairD
      walk_at "go"
      exact q
end

section
variable {P : Program} {w : World} {K : PySem.W.Frag} {mg : Str → Option Value} {base : Heap}
def cSoonF : Ctr := fun svs τ Q => ∃ c, ∃ d h : Int, svs = [.val (chD c), .val (.int d), .val (.int h)] ∧ ChOk c ∧ Q (.val (optD (soonOf c d h))) τ
abbrev s_soonest_from : Stmt := topS 28
theorem sc_soonest_from : FnScope ["channel", "draught", "hour", "some", "row"] ["channel", "draught", "hour"] (defScope s_soonest_from) := ⟨rfl, rfl, rfl, by decide +kernel, rfl, by decide +kernel, by decide +kernel⟩
local macro_rules | `(tactic| walk_at "nm") => `(tactic| first
  | with_reducible refine de_name (x := "channel") 0 (by with_unfolding_all rfl) (by with_unfolding_all first | exact Or.inl rfl | exact Or.inr (Or.inl rfl) | exact Or.inr (Or.inr rfl)) (by with_unfolding_all rfl) ?_ (by with_unfolding_all decide) (by with_unfolding_all decide)
  | with_reducible refine de_name (x := "draught") 1 (by with_unfolding_all rfl) (by with_unfolding_all first | exact Or.inl rfl | exact Or.inr (Or.inl rfl) | exact Or.inr (Or.inr rfl)) (by with_unfolding_all rfl) ?_ (by with_unfolding_all decide) (by with_unfolding_all decide)
  | with_reducible refine de_name (x := "hour") 2 (by with_unfolding_all rfl) (by with_unfolding_all first | exact Or.inl rfl | exact Or.inr (Or.inl rfl) | exact Or.inr (Or.inr rfl)) (by with_unfolding_all rfl) ?_ (by with_unfolding_all decide) (by with_unfolding_all decide)
  | with_reducible refine de_name (x := "some") 3 (by with_unfolding_all rfl) (by with_unfolding_all first | exact Or.inl rfl | exact Or.inr (Or.inl rfl) | exact Or.inr (Or.inr rfl)) (by with_unfolding_all rfl) ?_ (by with_unfolding_all decide) (by with_unfolding_all decide)
  | with_reducible refine de_name (x := "row") 4 (by with_unfolding_all rfl) (by with_unfolding_all first | exact Or.inl rfl | exact Or.inr (Or.inl rfl) | exact Or.inr (Or.inr rfl)) (by with_unfolding_all rfl) ?_ (by with_unfolding_all decide) (by with_unfolding_all decide))
local macro_rules | `(tactic| walk_at "st") => `(tactic| first
  | with_reducible refine ds_set (x := "channel") 0 (by with_unfolding_all exact sc_soonest_from.nd) (by with_unfolding_all rfl) (by with_unfolding_all first | exact Or.inl rfl | exact Or.inr rfl) ?_ (by with_unfolding_all rfl) (by with_unfolding_all first | exact .inl rfl | exact .inr rfl)
  | with_reducible refine ds_set (x := "draught") 1 (by with_unfolding_all exact sc_soonest_from.nd) (by with_unfolding_all rfl) (by with_unfolding_all first | exact Or.inl rfl | exact Or.inr rfl) ?_ (by with_unfolding_all rfl) (by with_unfolding_all first | exact .inl rfl | exact .inr rfl)
  | with_reducible refine ds_set (x := "hour") 2 (by with_unfolding_all exact sc_soonest_from.nd) (by with_unfolding_all rfl) (by with_unfolding_all first | exact Or.inl rfl | exact Or.inr rfl) ?_ (by with_unfolding_all rfl) (by with_unfolding_all first | exact .inl rfl | exact .inr rfl)
  | with_reducible refine ds_set (x := "some") 3 (by with_unfolding_all exact sc_soonest_from.nd) (by with_unfolding_all rfl) (by with_unfolding_all first | exact Or.inl rfl | exact Or.inr rfl) ?_ (by with_unfolding_all rfl) (by with_unfolding_all first | exact .inl rfl | exact .inr rfl)
  | with_reducible refine ds_set (x := "row") 4 (by with_unfolding_all exact sc_soonest_from.nd) (by with_unfolding_all rfl) (by with_unfolding_all first | exact Or.inl rfl | exact Or.inr rfl) ?_ (by with_unfolding_all rfl) (by with_unfolding_all first | exact .inl rfl | exact .inr rfl))

local macro_rules | `(tactic| walk_at "lc row") => `(tactic| refine de_lc (t := .name 4) (own := [("row", 4)]) rfl sc_soonest_from.nd (by first | exact blkOk_by (N := ["channel", "draught", "hour", "some", "row"]) (sc := defScope s_soonest_from) (by decide +kernel) | exact blkOk_by (N := ["channel", "draught", "hour", "some", "row"]) (sc := relS _ (defScope s_soonest_from)) (by decide +kernel)) (by decide) (fun _ _ _ _ _ => pgx_name sc_soonest_from.nd rfl (by first | exact Or.inl rfl | exact Or.inr rfl)) ?_)
local macro_rules | `(tactic| walk_at "slc row") => `(tactic| first
  | refine ds_setLc (t := .name 4) (own := [("row", 4)]) 3 (y := "some") rfl sc_soonest_from.nd rfl rfl (sw_true rfl rfl rfl (by decide +kernel)) (by first | exact blkOk_by (N := ["channel", "draught", "hour", "some", "row"]) (sc := defScope s_soonest_from) (by decide +kernel) | exact blkOk_by (N := ["channel", "draught", "hour", "some", "row"]) (sc := relS _ (defScope s_soonest_from)) (by decide +kernel)) (by decide) (fun _ _ _ _ _ => pgx_name sc_soonest_from.nd rfl (by first | exact Or.inl rfl | exact Or.inr rfl)) ?_)

theorem kn_soonest_from (D : HasDef K mg "soonest_from" s_soonest_from ["channel", "draught", "hour"]) (B : Bl mg) (k2 : Knows P w K mg base 2 "all_from" cAllFrom) : Knows P w K mg base 3 "soonest_from" cSoonF := by
  refine knows_mk D sc_soonest_from (fun _ _ _ ⟨_, _, _, e, _⟩ => by rw [e]; rfl) (fun f cdv A outer s H E hr svs τ Q hC => ?_)
  obtain ⟨c, d, h, rfl, hc, q⟩ := hC
  walk_at "db"
  walk_at "slc row"
  refine di_lst ?_
  walk_at "go"
  refine ⟨c, d, h, rfl, hc, _, rfl, ?_⟩
  have hl := rows_len16 hc d h (k := c.bars.length - 1) (by have := hc.b1; omega)
  refine lcq_map (allFrom c d h) tI (fun r => .int (lastI r)) rfl (by unfold allFrom; omega) (fun r hr => ⟨_, rfl, fun D acc hD s H C cl fp => ?_⟩) ?_
  · have hne : r ≠ [] := by
      have := row_shape hr
      intro z; rw [z] at this; simp at this
    walk_at "go"
    unfold tI
    refine ix_tup' (atI_last hne) ?_
    exact ⟨rfl, rfl⟩
  have e : (allFrom c d h).map (fun r => PyData.int (lastI r)) = ((allFrom c d h).map lastI).map .int := by rw [List.map_map]; rfl
  rw [e]
  unfold soonOf at q
  generalize (allFrom c d h).map lastI = ns at q ⊢
  walk_at "go"
  refine eq_pl (n := 1) (m := 1) rfl rfl (fun x hx => by obtain ⟨i, _, rfl⟩ := List.mem_map.mp hx; trivial) (fun x hx => by cases hx) (fun b hb => ?_)
  refine ⟨_, rfl, fun g => ?_, fun g => ?_⟩
  · refine de_minL ‹Bl _› rfl rfl ?_
    have hb' : b = false := by simpa [bneg] using g
    have hne : ns ≠ [] := fun z => by
      have := hb.mpr (by rw [z]; rfl)
      rw [hb'] at this
      cases this
    walk_at "go"
    refine ⟨List.length_pos_iff.mpr hne, fun m hm => ?_⟩
    rw [isMin_min? hm] at q
    exact q
  · have hb' : b = true := by simpa [bneg] using g
    have e := hb.mp hb'
    injection e with e
    rw [List.map_eq_nil_iff.mp e] at q
    walk_at "go"
    exact q
end

section
variable {P : Program} {w : World} {K : PySem.W.Frag} {mg : Str → Option Value} {base : Heap}
def cSoon : Ctr := fun svs τ Q => ∃ c, ∃ d h : Int, svs = [.val (chD c), .val (.int d), .val (.int h)] ∧ ChOk c ∧ 0 ≤ d ∧ d ≤ 6 ∧ 0 ≤ h ∧ h ≤ 999 ∧ Q (.val (optD (soonOf c d h))) τ
abbrev s_soonest : Stmt := topS 29
theorem sc_soonest : FnScope ["channel", "draught", "hour"] ["channel", "draught", "hour"] (defScope s_soonest) := ⟨rfl, rfl, rfl, by decide +kernel, rfl, by decide +kernel, by decide +kernel⟩
local macro_rules | `(tactic| walk_at "nm") => `(tactic| first
  | with_reducible refine de_name (x := "channel") 0 (by with_unfolding_all rfl) (by with_unfolding_all first | exact Or.inl rfl | exact Or.inr (Or.inl rfl) | exact Or.inr (Or.inr rfl)) (by with_unfolding_all rfl) ?_ (by with_unfolding_all decide) (by with_unfolding_all decide)
  | with_reducible refine de_name (x := "draught") 1 (by with_unfolding_all rfl) (by with_unfolding_all first | exact Or.inl rfl | exact Or.inr (Or.inl rfl) | exact Or.inr (Or.inr rfl)) (by with_unfolding_all rfl) ?_ (by with_unfolding_all decide) (by with_unfolding_all decide)
  | with_reducible refine de_name (x := "hour") 2 (by with_unfolding_all rfl) (by with_unfolding_all first | exact Or.inl rfl | exact Or.inr (Or.inl rfl) | exact Or.inr (Or.inr rfl)) (by with_unfolding_all rfl) ?_ (by with_unfolding_all decide) (by with_unfolding_all decide))
local macro_rules | `(tactic| walk_at "st") => `(tactic| first
  | with_reducible refine ds_set (x := "channel") 0 (by with_unfolding_all exact sc_soonest.nd) (by with_unfolding_all rfl) (by with_unfolding_all first | exact Or.inl rfl | exact Or.inr rfl) ?_ (by with_unfolding_all rfl) (by with_unfolding_all first | exact .inl rfl | exact .inr rfl)
  | with_reducible refine ds_set (x := "draught") 1 (by with_unfolding_all exact sc_soonest.nd) (by with_unfolding_all rfl) (by with_unfolding_all first | exact Or.inl rfl | exact Or.inr rfl) ?_ (by with_unfolding_all rfl) (by with_unfolding_all first | exact .inl rfl | exact .inr rfl)
  | with_reducible refine ds_set (x := "hour") 2 (by with_unfolding_all exact sc_soonest.nd) (by with_unfolding_all rfl) (by with_unfolding_all first | exact Or.inl rfl | exact Or.inr rfl) ?_ (by with_unfolding_all rfl) (by with_unfolding_all first | exact .inl rfl | exact .inr rfl))



theorem kn_soonest (D : HasDef K mg "soonest" s_soonest ["channel", "draught", "hour"]) (k1 : Knows P w K mg base 5 "check_three" cChk3) (k2 : Knows P w K mg base 3 "soonest_from" cSoonF) : Knows P w K mg base 6 "soonest" cSoon := by
  refine knows_mk D sc_soonest (fun _ _ _ ⟨_, _, _, e, _⟩ => by rw [e]; rfl) (fun f cdv A outer s H E hr svs τ Q hC => ?_)
  obtain ⟨c, d, h, rfl, hc, d0, d1, h0, h1, q⟩ := hC
  walk_at "go"
  refine ⟨c, d, h, rfl, hc, d0, d1, h0, h1, ?_⟩
  walk_at "go"
  exact ⟨c, d, h, rfl, hc, q⟩
end

/-! ### what a passage is -/
def hAt (r : List Int) (j : Nat) : Int := r.getD j 0
def stepOk (c : Chan) (d : Int) (r : List Int) : Nat → Bool
  | 0 => decide (d ≤ depthOf c 0 (hAt r 0))
  | j + 1 => decide (d ≤ depthOf c (j + 1) (hAt r (j + 1))) && (decide (0 ≤ hAt r (j + 1) - hAt r j - legAt c j) && decide (hAt r (j + 1) - hAt r j - legAt c j ≤ waitAt c j))
def okUp (c : Chan) (d : Int) (r : List Int) : Nat → Bool
  | 0 => true
  | j + 1 => okUp c d r j && stepOk c d r j
theorem okUp_false {c : Chan} {d : Int} {r : List Int} : ∀ {n j : Nat}, j < n → stepOk c d r j = false → okUp c d r n = false
  | n + 1, j, h, hs => by
    unfold okUp
    by_cases e : j = n
    · rw [← e, hs, Bool.and_false]
    · rw [okUp_false (show j < n by omega) hs, Bool.false_and]

def fewOf (c : Chan) (d h : Int) : Option Int := ((allFrom c d h).map fun r => lastI r - hAt r 0 - c.legs.sum).min?
section
variable {P : Program} {w : World} {K : PySem.W.Frag} {mg : Str → Option Value} {base : Heap}
def cFew : Ctr := fun svs τ Q => ∃ c, ∃ d h : Int, svs = [.val (chD c), .val (.int d), .val (.int h)] ∧ ChOk c ∧ 0 ≤ d ∧ d ≤ 6 ∧ 0 ≤ h ∧ h ≤ 999 ∧ Q (.val (optD (fewOf c d h))) τ
abbrev s_fewest_waits : Stmt := topS 30
theorem sc_fewest_waits : FnScope ["channel", "draught", "hour", "some", "row"] ["channel", "draught", "hour"] (defScope s_fewest_waits) := ⟨rfl, rfl, rfl, by decide +kernel, rfl, by decide +kernel, by decide +kernel⟩
local macro_rules | `(tactic| walk_at "nm") => `(tactic| first
  | with_reducible refine de_name (x := "channel") 0 (by with_unfolding_all rfl) (by with_unfolding_all first | exact Or.inl rfl | exact Or.inr (Or.inl rfl) | exact Or.inr (Or.inr rfl)) (by with_unfolding_all rfl) ?_ (by with_unfolding_all decide) (by with_unfolding_all decide)
  | with_reducible refine de_name (x := "draught") 1 (by with_unfolding_all rfl) (by with_unfolding_all first | exact Or.inl rfl | exact Or.inr (Or.inl rfl) | exact Or.inr (Or.inr rfl)) (by with_unfolding_all rfl) ?_ (by with_unfolding_all decide) (by with_unfolding_all decide)
  | with_reducible refine de_name (x := "hour") 2 (by with_unfolding_all rfl) (by with_unfolding_all first | exact Or.inl rfl | exact Or.inr (Or.inl rfl) | exact Or.inr (Or.inr rfl)) (by with_unfolding_all rfl) ?_ (by with_unfolding_all decide) (by with_unfolding_all decide)
  | with_reducible refine de_name (x := "some") 3 (by with_unfolding_all rfl) (by with_unfolding_all first | exact Or.inl rfl | exact Or.inr (Or.inl rfl) | exact Or.inr (Or.inr rfl)) (by with_unfolding_all rfl) ?_ (by with_unfolding_all decide) (by with_unfolding_all decide)
  | with_reducible refine de_name (x := "row") 4 (by with_unfolding_all rfl) (by with_unfolding_all first | exact Or.inl rfl | exact Or.inr (Or.inl rfl) | exact Or.inr (Or.inr rfl)) (by with_unfolding_all rfl) ?_ (by with_unfolding_all decide) (by with_unfolding_all decide))
local macro_rules | `(tactic| walk_at "st") => `(tactic| first
  | with_reducible refine ds_set (x := "channel") 0 (by with_unfolding_all exact sc_fewest_waits.nd) (by with_unfolding_all rfl) (by with_unfolding_all first | exact Or.inl rfl | exact Or.inr rfl) ?_ (by with_unfolding_all rfl) (by with_unfolding_all first | exact .inl rfl | exact .inr rfl)
  | with_reducible refine ds_set (x := "draught") 1 (by with_unfolding_all exact sc_fewest_waits.nd) (by with_unfolding_all rfl) (by with_unfolding_all first | exact Or.inl rfl | exact Or.inr rfl) ?_ (by with_unfolding_all rfl) (by with_unfolding_all first | exact .inl rfl | exact .inr rfl)
  | with_reducible refine ds_set (x := "hour") 2 (by with_unfolding_all exact sc_fewest_waits.nd) (by with_unfolding_all rfl) (by with_unfolding_all first | exact Or.inl rfl | exact Or.inr rfl) ?_ (by with_unfolding_all rfl) (by with_unfolding_all first | exact .inl rfl | exact .inr rfl)
  | with_reducible refine ds_set (x := "some") 3 (by with_unfolding_all exact sc_fewest_waits.nd) (by with_unfolding_all rfl) (by with_unfolding_all first | exact Or.inl rfl | exact Or.inr rfl) ?_ (by with_unfolding_all rfl) (by with_unfolding_all first | exact .inl rfl | exact .inr rfl)
  | with_reducible refine ds_set (x := "row") 4 (by with_unfolding_all exact sc_fewest_waits.nd) (by with_unfolding_all rfl) (by with_unfolding_all first | exact Or.inl rfl | exact Or.inr rfl) ?_ (by with_unfolding_all rfl) (by with_unfolding_all first | exact .inl rfl | exact .inr rfl))

local macro_rules | `(tactic| walk_at "lc row") => `(tactic| refine de_lc (t := .name 4) (own := [("row", 4)]) rfl sc_fewest_waits.nd (by first | exact blkOk_by (N := ["channel", "draught", "hour", "some", "row"]) (sc := defScope s_fewest_waits) (by decide +kernel) | exact blkOk_by (N := ["channel", "draught", "hour", "some", "row"]) (sc := relS _ (defScope s_fewest_waits)) (by decide +kernel)) (by decide) (fun _ _ _ _ _ => pgx_name sc_fewest_waits.nd rfl (by first | exact Or.inl rfl | exact Or.inr rfl)) ?_)
local macro_rules | `(tactic| walk_at "slc row") => `(tactic| first
  | refine ds_setLc (t := .name 4) (own := [("row", 4)]) 3 (y := "some") rfl sc_fewest_waits.nd rfl rfl (sw_true rfl rfl rfl (by decide +kernel)) (by first | exact blkOk_by (N := ["channel", "draught", "hour", "some", "row"]) (sc := defScope s_fewest_waits) (by decide +kernel) | exact blkOk_by (N := ["channel", "draught", "hour", "some", "row"]) (sc := relS _ (defScope s_fewest_waits)) (by decide +kernel)) (by decide) (fun _ _ _ _ _ => pgx_name sc_fewest_waits.nd rfl (by first | exact Or.inl rfl | exact Or.inr rfl)) ?_)

theorem kn_fewest_waits (D : HasDef K mg "fewest_waits" s_fewest_waits ["channel", "draught", "hour"]) (B : Bl mg) (k1 : Knows P w K mg base 5 "check_three" cChk3) (k2 : Knows P w K mg base 2 "all_from" cAllFrom) : Knows P w K mg base 6 "fewest_waits" cFew := by
  refine knows_mk D sc_fewest_waits (fun _ _ _ ⟨_, _, _, e, _⟩ => by rw [e]; rfl) (fun f cdv A outer s H E hr svs τ Q hC => ?_)
  obtain ⟨c, d, h, rfl, hc, d0, d1, h0, h1, q⟩ := hC
  walk_at "go"
  refine ⟨c, d, h, rfl, hc, d0, d1, h0, h1, ?_⟩
  refine db_cons ?_
  walk_at "slc row"
  refine di_lst ?_
  walk_at "go"
  refine ⟨c, d, h, rfl, hc, _, rfl, ?_⟩
  have hl := rows_len16 hc d h (k := c.bars.length - 1) (by have := hc.b1; omega)
  refine lcq_map (allFrom c d h) tI (fun r => .int (lastI r - hAt r 0 - c.legs.sum)) rfl (by unfold allFrom; omega) (fun r hr => ⟨_, rfl, fun D acc hD s H C cl fp => ?_⟩) ?_
  · have hrl := row_shape hr
    have hne : r ≠ [] := by
      intro z; rw [z] at hrl; simp at hrl
    unfold chD tI
    walk_at "go"
    refine ix_tup' (atI_last hne) ?_
    walk_at "go"
    refine ix_tup' (atI_int (by omega) (by omega)) ?_
    walk_at "go"
    refine de_sumT ‹Bl _› rfl rfl ?_
    walk_at "go"
    exact ⟨rfl, rfl⟩
  have e : (allFrom c d h).map (fun r => PyData.int (lastI r - hAt r 0 - c.legs.sum)) = ((allFrom c d h).map fun r => lastI r - hAt r 0 - c.legs.sum).map .int := by rw [List.map_map]; rfl
  rw [e]
  unfold fewOf at q
  generalize ((allFrom c d h).map fun r => lastI r - hAt r 0 - c.legs.sum) = ns at q ⊢
  walk_at "go"
  refine eq_pl (n := 1) (m := 1) rfl rfl (fun x hx => by obtain ⟨i, _, rfl⟩ := List.mem_map.mp hx; trivial) (fun x hx => by cases hx) (fun b hb => ?_)
  refine ⟨_, rfl, fun g => ?_, fun g => ?_⟩
  · have hb' : b = false := by simpa [bneg] using g
    have hne : ns ≠ [] := fun z => by
      have := hb.mpr (by rw [z]; rfl)
      rw [hb'] at this
      cases this
    walk_at "go"
    refine ⟨List.length_pos_iff.mpr hne, fun m hm => ?_⟩
    rw [isMin_min? hm] at q
    exact q
  · have hb' : b = true := by simpa [bneg] using g
    have e := hb.mp hb'
    injection e with e
    rw [List.map_eq_nil_iff.mp e] at q
    walk_at "go"
    exact q
end

/-! ### ways home -/
theorem min_eq {l m : List Int} (h1 : ∀ x ∈ l, x ∈ m) (h2 : ∀ y ∈ m, ∃ x ∈ l, x ≤ y) : l.min? = m.min? := by
  cases hl : l.min? with
  | none =>
    have e : l = [] := List.min?_eq_none_iff.mp hl
    cases m with
    | nil => rfl
    | cons y m =>
      obtain ⟨x, hx, _⟩ := h2 y List.mem_cons_self
      rw [e] at hx
      cases hx
  | some a =>
    obtain ⟨ha, hb⟩ := List.min?_eq_some_iff.mp hl
    exact (List.min?_eq_some_iff.mpr ⟨h1 a ha, fun y hy => by
      obtain ⟨x, hx, hxy⟩ := h2 y hy
      have := hb x hx
      omega⟩).symm
theorem min_le {l m : List Int} {a b : Int} (h2 : ∀ y ∈ m, ∃ x ∈ l, x ≤ y) (ha : l.min? = some a) (hb : m.min? = some b) : a ≤ b := by
  obtain ⟨h3, _⟩ := List.min?_eq_some_iff.mp hb
  obtain ⟨_, h4⟩ := List.min?_eq_some_iff.mp ha
  obtain ⟨x, hx, hxy⟩ := h2 b h3
  have := h4 x hx
  omega
def homeB (c : Chan) (d b : Int) : Option Int := ((List.range (periodOf c)).filterMap fun k => soonOf c d (b + (k : Nat))).min?
def homeOf (c : Chan) (d h s : Int) : Option Int := (soonOf c d h).bind fun a => homeB (backOf c) d (a + s)
theorem min_map_add {l : List Int} (t : Int) : (l.map (· + t)).min? = l.min?.map (· + t) := by
  cases hl : l.min? with
  | none =>
    rw [List.min?_eq_none_iff.mp hl]
    rfl
  | some a =>
    obtain ⟨ha, hb⟩ := List.min?_eq_some_iff.mp hl
    refine List.min?_eq_some_iff.mpr ⟨List.mem_map.mpr ⟨a, ha, rfl⟩, fun y hy => ?_⟩
    obtain ⟨x, hx, rfl⟩ := List.mem_map.mp hy
    have := hb x hx
    show a + t ≤ x + t
    omega
theorem soon_period {c : Chan} (hc : ChOk c) {n : Int} (hd : (periodOf c : Int) ∣ n) (d h : Int) : soonOf c d (h + n) = (soonOf c d h).map (· + n) := by
  unfold soonOf
  rw [allFrom_period hc hd, List.map_map, ← min_map_add, List.map_map]
  refine congrArg List.min? (List.map_congr_left fun r hr => ?_)
  exact lastI_map (fun z => by have := row_shape hr; rw [z] at this; simp at this) n
/-- an hour b or later, moved to the period from b on -/
theorem soon_from {c : Chan} (hc : ChOk c) {d b o y : Int} (hb : b ≤ o) (h : soonOf c d o = some y) : ∃ k : Nat, k < periodOf c ∧ ∃ x, soonOf c d (b + (k : Nat)) = some x ∧ x ≤ y := by
  have hp := period_pos hc
  have h0 := Int.emod_nonneg (o - b) (show (periodOf c : Int) ≠ 0 by omega)
  have h1 := Int.emod_lt_of_pos (o - b) (show (0 : Int) < periodOf c by omega)
  have h2 := Int.emod_add_mul_ediv (o - b) (periodOf c : Int)
  have h3 : 0 ≤ (periodOf c : Int) * ((o - b) / (periodOf c : Int)) := Int.mul_nonneg (by omega) (Int.ediv_nonneg (by omega) (by omega))
  refine ⟨((o - b) % (periodOf c : Int)).toNat, by omega, ?_⟩
  have e : o = (b + (((o - b) % (periodOf c : Int)).toNat : Nat)) + (periodOf c : Int) * ((o - b) / (periodOf c : Int)) := by omega
  rw [e, soon_period hc (Int.dvd_mul_right _ _)] at h
  cases hx : soonOf c d (b + (((o - b) % (periodOf c : Int)).toNat : Nat)) with
  | none => rw [hx] at h; cases h
  | some x =>
    rw [hx] at h
    have h : x + (periodOf c : Int) * ((o - b) / (periodOf c : Int)) = y := Option.some.inj h
    exact ⟨x, rfl, by omega⟩
theorem mem_homeL {c : Chan} {d b x : Int} {n : Nat} : x ∈ (List.range n).filterMap (fun k => soonOf c d (b + (k : Nat))) ↔ ∃ k : Nat, k < n ∧ soonOf c d (b + (k : Nat)) = some x := by
  rw [List.mem_filterMap]
  constructor
  · rintro ⟨k, hk, h⟩
    exact ⟨k, List.mem_range.mp hk, h⟩
  · rintro ⟨k, hk, h⟩
    exact ⟨k, List.mem_range.mpr hk, h⟩
theorem home_le {c : Chan} (hc : ChOk c) {d b b' x y : Int} (h : b ≤ b') (hx : homeB c d b = some x) (hy : homeB c d b' = some y) : x ≤ y := by
  refine min_le (fun z hz => ?_) hx hy
  obtain ⟨k, _, hk⟩ := mem_homeL.mp hz
  obtain ⟨j, hj, w, hw, hle⟩ := soon_from hc (b := b) (o := b' + (k : Nat)) (by omega) hk
  exact ⟨w, mem_homeL.mpr ⟨j, hj, hw⟩, hle⟩
theorem min_some {l : List Int} {x : Int} (h : x ∈ l) : ∃ m, l.min? = some m := by
  cases hl : l.min? with
  | none =>
    rw [List.min?_eq_none_iff.mp hl] at h
    cases h
  | some m => exact ⟨m, rfl⟩
theorem home_some {c : Chan} (hc : ChOk c) {d b b' x : Int} (hx : homeB c d b = some x) : ∃ y, homeB c d b' = some y := by
  obtain ⟨h1, _⟩ := List.min?_eq_some_iff.mp hx
  obtain ⟨k, _, hk⟩ := mem_homeL.mp h1
  have hp := period_pos hc
  obtain ⟨j, hj, w, hw, _⟩ := soon_from hc (b := b') (o := b + (k : Nat) + (periodOf c : Int) * ((b' - b).toNat : Nat)) (y := x + (periodOf c : Int) * ((b' - b).toNat : Nat)) (by
    have h9 : ((b' - b).toNat : Int) ≤ (periodOf c : Int) * ((b' - b).toNat : Nat) := by
      have : (1 : Int) * ((b' - b).toNat : Nat) ≤ (periodOf c : Int) * ((b' - b).toNat : Nat) := Int.mul_le_mul_of_nonneg_right (by omega) (by omega)
      omega
    omega) (by rw [soon_period hc (Int.dvd_mul_right _ _), hk]; rfl)
  exact min_some (mem_homeL.mpr ⟨j, hj, hw⟩)
/-- the law's way: two periods, all ends -/
theorem home_ends {c : Chan} (hc : ChOk c) (d b : Int) : ((List.range (2 * periodOf c)).flatMap fun k => (allFrom c d (b + (k : Nat))).map lastI).min? = homeB c d b := by
  unfold homeB
  refine (min_eq (fun x hx => ?_) (fun y hy => ?_)).symm
  · obtain ⟨k, hk, h⟩ := mem_homeL.mp hx
    unfold soonOf at h
    exact List.mem_flatMap.mpr ⟨k, List.mem_range.mpr (by omega), (List.min?_eq_some_iff.mp h).1⟩
  · obtain ⟨k, _, h⟩ := List.mem_flatMap.mp hy
    obtain ⟨m, hm⟩ := min_some h
    have hle := (List.min?_eq_some_iff.mp hm).2 y h
    obtain ⟨j, hj, w, hw, hl⟩ := soon_from hc (b := b) (o := b + (k : Nat)) (y := m) (by omega) hm
    exact ⟨w, mem_homeL.mpr ⟨j, hj, hw⟩, by omega⟩
/-! how late -/
theorem row_bound {c : Chan} (hc : ChOk c) {d h : Int} : ∀ {k : Nat} {r : List Int}, k < c.bars.length → r ∈ rowsTo c d h k → h ≤ lastI r ∧ lastI r ≤ h + 12 * k
  | 0, r, _, hr => by
    unfold rowsTo at hr
    split at hr
    · rw [List.mem_singleton.mp hr]
      exact ⟨Int.le_refl _, by show h ≤ _; omega⟩
    · cases hr
  | k + 1, r, hk, hr => by
    unfold rowsTo at hr
    obtain ⟨q, hq, hm⟩ := List.mem_flatMap.mp (List.mem_filter.mp hr).1
    obtain ⟨m, hm', rfl⟩ := List.mem_map.mp hm
    have hm' := List.mem_range.mp hm'
    have ih := row_bound hc (by omega) hq
    have h1 := hc.lv _ (getD_mem (xs := c.legs) (i := k) (by have := hc.ll; omega))
    have h2 := hc.wv _ (getD_mem (xs := c.waits) (i := k) (by have := hc.wl; omega))
    have e1 : legAt c k = c.legs.getD k 0 := rfl
    have e2 : waitAt c k = c.waits.getD k 0 := rfl
    rw [lastI_snoc]
    rw [← e1] at h1
    rw [← e2] at h2
    omega
theorem soon_bound {c : Chan} (hc : ChOk c) {d h x : Int} (hx : soonOf c d h = some x) : h ≤ x ∧ x ≤ h + 24 := by
  obtain ⟨h1, _⟩ := List.min?_eq_some_iff.mp hx
  obtain ⟨r, hr, rfl⟩ := List.mem_map.mp h1
  have h2 := row_bound hc (by have := hc.b1; omega) hr
  have := hc.b3
  omega
theorem home_bound {c : Chan} (hc : ChOk c) {d b x : Int} (hx : homeB c d b = some x) : b ≤ x ∧ x ≤ b + 536 := by
  obtain ⟨h1, _⟩ := List.min?_eq_some_iff.mp hx
  obtain ⟨k, hk, h⟩ := mem_homeL.mp h1
  have := soon_bound hc h
  have := period_le hc
  omega

section
variable {P : Program} {w : World} {K : PySem.W.Frag} {mg : Str → Option Value} {base : Heap}
theorem filt_some (xs : List (Option Int)) : (xs.filter (·.isSome)).map (fun o => PyData.int (o.getD 0)) = (xs.filterMap id).map .int := by
  induction xs with
  | nil => rfl
  | cons o xs ih =>
    cases o with
    | none => exact ih
    | some i =>
      show PyData.int i :: _ = PyData.int i :: _
      rw [ih]
def cHomeF : Ctr := fun svs τ Q => ∃ c, ∃ d h s : Int, svs = [.val (chD c), .val (.int d), .val (.int h), .val (.int s)] ∧ ChOk c ∧ 0 ≤ h ∧ h ≤ 2000 ∧ 0 ≤ s ∧ s ≤ 2000 ∧ Q (.val (optD (homeOf c d h s))) τ
abbrev s_home_after : Stmt := topS 32
theorem sc_home_after : FnScope ["channel", "draught", "hour", "stay", "arrival", "begin", "back", "some", "out", "one"] ["channel", "draught", "hour", "stay"] (defScope s_home_after) := ⟨rfl, rfl, rfl, by decide +kernel, rfl, by decide +kernel, by decide +kernel⟩
local macro_rules | `(tactic| walk_at "nm") => `(tactic| first
  | with_reducible refine de_name (x := "channel") 0 (by with_unfolding_all rfl) (by with_unfolding_all first | exact Or.inl rfl | exact Or.inr (Or.inl rfl) | exact Or.inr (Or.inr rfl)) (by with_unfolding_all rfl) ?_ (by with_unfolding_all decide) (by with_unfolding_all decide)
  | with_reducible refine de_name (x := "draught") 1 (by with_unfolding_all rfl) (by with_unfolding_all first | exact Or.inl rfl | exact Or.inr (Or.inl rfl) | exact Or.inr (Or.inr rfl)) (by with_unfolding_all rfl) ?_ (by with_unfolding_all decide) (by with_unfolding_all decide)
  | with_reducible refine de_name (x := "hour") 2 (by with_unfolding_all rfl) (by with_unfolding_all first | exact Or.inl rfl | exact Or.inr (Or.inl rfl) | exact Or.inr (Or.inr rfl)) (by with_unfolding_all rfl) ?_ (by with_unfolding_all decide) (by with_unfolding_all decide)
  | with_reducible refine de_name (x := "stay") 3 (by with_unfolding_all rfl) (by with_unfolding_all first | exact Or.inl rfl | exact Or.inr (Or.inl rfl) | exact Or.inr (Or.inr rfl)) (by with_unfolding_all rfl) ?_ (by with_unfolding_all decide) (by with_unfolding_all decide)
  | with_reducible refine de_name (x := "arrival") 4 (by with_unfolding_all rfl) (by with_unfolding_all first | exact Or.inl rfl | exact Or.inr (Or.inl rfl) | exact Or.inr (Or.inr rfl)) (by with_unfolding_all rfl) ?_ (by with_unfolding_all decide) (by with_unfolding_all decide)
  | with_reducible refine de_name (x := "begin") 5 (by with_unfolding_all rfl) (by with_unfolding_all first | exact Or.inl rfl | exact Or.inr (Or.inl rfl) | exact Or.inr (Or.inr rfl)) (by with_unfolding_all rfl) ?_ (by with_unfolding_all decide) (by with_unfolding_all decide)
  | with_reducible refine de_name (x := "back") 6 (by with_unfolding_all rfl) (by with_unfolding_all first | exact Or.inl rfl | exact Or.inr (Or.inl rfl) | exact Or.inr (Or.inr rfl)) (by with_unfolding_all rfl) ?_ (by with_unfolding_all decide) (by with_unfolding_all decide)
  | with_reducible refine de_name (x := "some") 7 (by with_unfolding_all rfl) (by with_unfolding_all first | exact Or.inl rfl | exact Or.inr (Or.inl rfl) | exact Or.inr (Or.inr rfl)) (by with_unfolding_all rfl) ?_ (by with_unfolding_all decide) (by with_unfolding_all decide)
  | with_reducible refine de_name (x := "out") 8 (by with_unfolding_all rfl) (by with_unfolding_all first | exact Or.inl rfl | exact Or.inr (Or.inl rfl) | exact Or.inr (Or.inr rfl)) (by with_unfolding_all rfl) ?_ (by with_unfolding_all decide) (by with_unfolding_all decide)
  | with_reducible refine de_name (x := "one") 9 (by with_unfolding_all rfl) (by with_unfolding_all first | exact Or.inl rfl | exact Or.inr (Or.inl rfl) | exact Or.inr (Or.inr rfl)) (by with_unfolding_all rfl) ?_ (by with_unfolding_all decide) (by with_unfolding_all decide))
local macro_rules | `(tactic| walk_at "st") => `(tactic| first
  | with_reducible refine ds_set (x := "channel") 0 (by with_unfolding_all exact sc_home_after.nd) (by with_unfolding_all rfl) (by with_unfolding_all first | exact Or.inl rfl | exact Or.inr rfl) ?_ (by with_unfolding_all rfl) (by with_unfolding_all first | exact .inl rfl | exact .inr rfl)
  | with_reducible refine ds_set (x := "draught") 1 (by with_unfolding_all exact sc_home_after.nd) (by with_unfolding_all rfl) (by with_unfolding_all first | exact Or.inl rfl | exact Or.inr rfl) ?_ (by with_unfolding_all rfl) (by with_unfolding_all first | exact .inl rfl | exact .inr rfl)
  | with_reducible refine ds_set (x := "hour") 2 (by with_unfolding_all exact sc_home_after.nd) (by with_unfolding_all rfl) (by with_unfolding_all first | exact Or.inl rfl | exact Or.inr rfl) ?_ (by with_unfolding_all rfl) (by with_unfolding_all first | exact .inl rfl | exact .inr rfl)
  | with_reducible refine ds_set (x := "stay") 3 (by with_unfolding_all exact sc_home_after.nd) (by with_unfolding_all rfl) (by with_unfolding_all first | exact Or.inl rfl | exact Or.inr rfl) ?_ (by with_unfolding_all rfl) (by with_unfolding_all first | exact .inl rfl | exact .inr rfl)
  | with_reducible refine ds_set (x := "arrival") 4 (by with_unfolding_all exact sc_home_after.nd) (by with_unfolding_all rfl) (by with_unfolding_all first | exact Or.inl rfl | exact Or.inr rfl) ?_ (by with_unfolding_all rfl) (by with_unfolding_all first | exact .inl rfl | exact .inr rfl)
  | with_reducible refine ds_set (x := "begin") 5 (by with_unfolding_all exact sc_home_after.nd) (by with_unfolding_all rfl) (by with_unfolding_all first | exact Or.inl rfl | exact Or.inr rfl) ?_ (by with_unfolding_all rfl) (by with_unfolding_all first | exact .inl rfl | exact .inr rfl)
  | with_reducible refine ds_set (x := "back") 6 (by with_unfolding_all exact sc_home_after.nd) (by with_unfolding_all rfl) (by with_unfolding_all first | exact Or.inl rfl | exact Or.inr rfl) ?_ (by with_unfolding_all rfl) (by with_unfolding_all first | exact .inl rfl | exact .inr rfl)
  | with_reducible refine ds_set (x := "some") 7 (by with_unfolding_all exact sc_home_after.nd) (by with_unfolding_all rfl) (by with_unfolding_all first | exact Or.inl rfl | exact Or.inr rfl) ?_ (by with_unfolding_all rfl) (by with_unfolding_all first | exact .inl rfl | exact .inr rfl)
  | with_reducible refine ds_set (x := "out") 8 (by with_unfolding_all exact sc_home_after.nd) (by with_unfolding_all rfl) (by with_unfolding_all first | exact Or.inl rfl | exact Or.inr rfl) ?_ (by with_unfolding_all rfl) (by with_unfolding_all first | exact .inl rfl | exact .inr rfl)
  | with_reducible refine ds_set (x := "one") 9 (by with_unfolding_all exact sc_home_after.nd) (by with_unfolding_all rfl) (by with_unfolding_all first | exact Or.inl rfl | exact Or.inr rfl) ?_ (by with_unfolding_all rfl) (by with_unfolding_all first | exact .inl rfl | exact .inr rfl))

local macro_rules | `(tactic| walk_at "lc out") => `(tactic| refine de_lc (t := .name 8) (own := [("out", 8)]) rfl sc_home_after.nd (by first | exact blkOk_by (N := ["channel", "draught", "hour", "stay", "arrival", "begin", "back", "some", "out", "one"]) (sc := defScope s_home_after) (by decide +kernel) | exact blkOk_by (N := ["channel", "draught", "hour", "stay", "arrival", "begin", "back", "some", "out", "one"]) (sc := relS _ (defScope s_home_after)) (by decide +kernel)) (by decide) (fun _ _ _ _ _ => pgx_name sc_home_after.nd rfl (by first | exact Or.inl rfl | exact Or.inr rfl)) ?_)
local macro_rules | `(tactic| walk_at "slc out") => `(tactic| first
  | refine ds_setLc (t := .name 8) (own := [("out", 8)]) 7 (y := "some") rfl sc_home_after.nd rfl rfl (sw_true rfl rfl rfl (by decide +kernel)) (by first | exact blkOk_by (N := ["channel", "draught", "hour", "stay", "arrival", "begin", "back", "some", "out", "one"]) (sc := defScope s_home_after) (by decide +kernel) | exact blkOk_by (N := ["channel", "draught", "hour", "stay", "arrival", "begin", "back", "some", "out", "one"]) (sc := relS _ (defScope s_home_after)) (by decide +kernel)) (by decide) (fun _ _ _ _ _ => pgx_name sc_home_after.nd rfl (by first | exact Or.inl rfl | exact Or.inr rfl)) ?_)
local macro_rules | `(tactic| walk_at "lc one") => `(tactic| refine de_lc (t := .name 9) (own := [("one", 9)]) rfl sc_home_after.nd (by first | exact blkOk_by (N := ["channel", "draught", "hour", "stay", "arrival", "begin", "back", "some", "out", "one"]) (sc := defScope s_home_after) (by decide +kernel) | exact blkOk_by (N := ["channel", "draught", "hour", "stay", "arrival", "begin", "back", "some", "out", "one"]) (sc := relS _ (defScope s_home_after)) (by decide +kernel)) (by decide) (fun _ _ _ _ _ => pgx_name sc_home_after.nd rfl (by first | exact Or.inl rfl | exact Or.inr rfl)) ?_)
local macro_rules | `(tactic| walk_at "slc one") => `(tactic| first
  | refine ds_setLc (t := .name 9) (own := [("one", 9)]) 7 (y := "some") rfl sc_home_after.nd rfl rfl (sw_true rfl rfl rfl (by decide +kernel)) (by first | exact blkOk_by (N := ["channel", "draught", "hour", "stay", "arrival", "begin", "back", "some", "out", "one"]) (sc := defScope s_home_after) (by decide +kernel) | exact blkOk_by (N := ["channel", "draught", "hour", "stay", "arrival", "begin", "back", "some", "out", "one"]) (sc := relS _ (defScope s_home_after)) (by decide +kernel)) (by decide) (fun _ _ _ _ _ => pgx_name sc_home_after.nd rfl (by first | exact Or.inl rfl | exact Or.inr rfl)) ?_)

theorem kn_home_after (D : HasDef K mg "home_after" s_home_after ["channel", "draught", "hour", "stay"]) (B : Bl mg) (k1 : Knows P w K mg base 3 "soonest_from" cSoonF) (k2 : Knows P w K mg base 2 "period_of" cPer) (k3 : Knows P w K mg base 1 "back_of" cBack) : Knows P w K mg base 4 "home_after" cHomeF := by
  refine knows_mk D sc_home_after (fun _ _ _ ⟨_, _, _, _, e, _⟩ => by rw [e]; rfl) (fun f cdv A outer sh H E hr svs τ Q hC => ?_)
  obtain ⟨c, d, h, s, rfl, hc, h0, h1, s0, s1, q⟩ := hC
  have hp2 := period_le hc
  have hp0 := period_pos hc
  walk_at "go"
  refine ⟨c, d, h, rfl, hc, ?_⟩
  unfold homeOf at q
  cases ha : soonOf c d h with
  | none =>
    rw [ha] at q
    walk_at "go"
    exact q
  | some a =>
    rw [ha] at q
    have hb := soon_bound hc ha
    walk_at "go"
    refine ds_asg (t := .tup [5, 6]) (pgx_tup2 rfl (pg_name sc_home_after.nd rfl (by first | exact Or.inl rfl | exact Or.inr rfl)) (pg_name sc_home_after.nd rfl (by first | exact Or.inl rfl | exact Or.inr rfl))) ?_
    unfold optD
    walk_at "go"
    refine ⟨c, rfl, ?_⟩
    walk_at "go"
    walk_at "slc out"
    refine di_range2 ‹Bl _› rfl ?_
    walk_at "go"
    refine ⟨c, rfl, hc, ?_⟩
    walk_at "go"
    refine ⟨⟨by omega, by omega⟩, ?_⟩
    have en : (a + s + ((periodOf c : Nat) : Int) - (a + s)).toNat = periodOf c := by omega
    rw [en]
    refine lcq_map (List.range (periodOf c)) (fun k => .int (a + s + (k : Nat))) (fun k => optD (soonOf (backOf c) d (a + s + (k : Nat)))) rfl (by rw [List.length_range]; omega) (fun k hk => ⟨_, rfl, fun D acc hD s H C cl fp => ?_⟩) ?_
    · walk_at "go"
      exact ⟨backOf c, d, _, rfl, hc.back, rfl, rfl⟩
    have e1 : (List.range (periodOf c)).map (fun k => optD (soonOf (backOf c) d (a + s + (k : Nat)))) = ((List.range (periodOf c)).map fun k => soonOf (backOf c) d (a + s + (k : Nat))).map optD := by rw [List.map_map]; rfl
    rw [e1]
    have e2 : homeB (backOf c) d (a + s) = (((List.range (periodOf c)).map fun k => soonOf (backOf c) d (a + s + (k : Nat))).filterMap id).min? := by
      unfold homeB
      rw [period_back, List.filterMap_map]
      rfl
    have q : Q (.val (optD (homeB (backOf c) d (a + s)))) τ := q
    rw [e2] at q
    have hlo : ((List.range (periodOf c)).map fun k => soonOf (backOf c) d (a + s + (k : Nat))).length ≤ 512 := by rw [List.length_map, List.length_range]; omega
    generalize ((List.range (periodOf c)).map fun k => soonOf (backOf c) d (a + s + (k : Nat))) = os at q hlo ⊢
    refine db_cons ?_
    walk_at "slc one"
    refine di_lst ?_
    walk_at "go"
    refine lcq_filter os optD (fun o => .int (o.getD 0)) (·.isSome) rfl (by omega) (fun o ho => ⟨_, rfl, fun D acc hD s H C cl fp => ⟨?_, fun hs => ?_⟩⟩) ?_
    · walk_at "go"
      cases o <;> exact ⟨rfl, rfl⟩
    · cases o with
      | none => cases hs
      | some i =>
        walk_at "go"
        exact ⟨rfl, rfl⟩
    rw [filt_some]
    generalize os.filterMap id = ns at q ⊢
    walk_at "go"
    refine eq_pl (n := 1) (m := 1) rfl rfl (fun x hx => by obtain ⟨i, _, rfl⟩ := List.mem_map.mp hx; trivial) (fun x hx => by cases hx) (fun b hb => ?_)
    refine ⟨_, rfl, fun g => ?_, fun g => ?_⟩
    · have hb' : b = false := by simpa [bneg] using g
      have hne : ns ≠ [] := fun z => by
        have := hb.mpr (by rw [z]; rfl)
        rw [hb'] at this
        cases this
      walk_at "go"
      refine ⟨List.length_pos_iff.mpr hne, fun m hm => ?_⟩
      rw [isMin_min? hm] at q
      exact q
    · have hb' : b = true := by simpa [bneg] using g
      have e := hb.mp hb'
      injection e with e
      rw [List.map_eq_nil_iff.mp e] at q
      walk_at "go"
      exact q
end

section
variable {P : Program} {w : World} {K : PySem.W.Frag} {mg : Str → Option Value} {base : Heap}
def cBackAg : Ctr := fun svs τ Q => ∃ c, ∃ d h s : Int, svs = [.val (chD c), .val (.int d), .val (.int h), .val (.int s)] ∧ ChOk c ∧ 0 ≤ d ∧ d ≤ 6 ∧ 0 ≤ h ∧ h ≤ 999 ∧ 0 ≤ s ∧ s ≤ 99 ∧ Q (.val (optD (homeOf c d h s))) τ
abbrev s_back_again : Stmt := topS 33
theorem sc_back_again : FnScope ["channel", "draught", "hour", "stay"] ["channel", "draught", "hour", "stay"] (defScope s_back_again) := ⟨rfl, rfl, rfl, by decide +kernel, rfl, by decide +kernel, by decide +kernel⟩
local macro_rules | `(tactic| walk_at "nm") => `(tactic| first
  | with_reducible refine de_name (x := "channel") 0 (by with_unfolding_all rfl) (by with_unfolding_all first | exact Or.inl rfl | exact Or.inr (Or.inl rfl) | exact Or.inr (Or.inr rfl)) (by with_unfolding_all rfl) ?_ (by with_unfolding_all decide) (by with_unfolding_all decide)
  | with_reducible refine de_name (x := "draught") 1 (by with_unfolding_all rfl) (by with_unfolding_all first | exact Or.inl rfl | exact Or.inr (Or.inl rfl) | exact Or.inr (Or.inr rfl)) (by with_unfolding_all rfl) ?_ (by with_unfolding_all decide) (by with_unfolding_all decide)
  | with_reducible refine de_name (x := "hour") 2 (by with_unfolding_all rfl) (by with_unfolding_all first | exact Or.inl rfl | exact Or.inr (Or.inl rfl) | exact Or.inr (Or.inr rfl)) (by with_unfolding_all rfl) ?_ (by with_unfolding_all decide) (by with_unfolding_all decide)
  | with_reducible refine de_name (x := "stay") 3 (by with_unfolding_all rfl) (by with_unfolding_all first | exact Or.inl rfl | exact Or.inr (Or.inl rfl) | exact Or.inr (Or.inr rfl)) (by with_unfolding_all rfl) ?_ (by with_unfolding_all decide) (by with_unfolding_all decide))
local macro_rules | `(tactic| walk_at "st") => `(tactic| first
  | with_reducible refine ds_set (x := "channel") 0 (by with_unfolding_all exact sc_back_again.nd) (by with_unfolding_all rfl) (by with_unfolding_all first | exact Or.inl rfl | exact Or.inr rfl) ?_ (by with_unfolding_all rfl) (by with_unfolding_all first | exact .inl rfl | exact .inr rfl)
  | with_reducible refine ds_set (x := "draught") 1 (by with_unfolding_all exact sc_back_again.nd) (by with_unfolding_all rfl) (by with_unfolding_all first | exact Or.inl rfl | exact Or.inr rfl) ?_ (by with_unfolding_all rfl) (by with_unfolding_all first | exact .inl rfl | exact .inr rfl)
  | with_reducible refine ds_set (x := "hour") 2 (by with_unfolding_all exact sc_back_again.nd) (by with_unfolding_all rfl) (by with_unfolding_all first | exact Or.inl rfl | exact Or.inr rfl) ?_ (by with_unfolding_all rfl) (by with_unfolding_all first | exact .inl rfl | exact .inr rfl)
  | with_reducible refine ds_set (x := "stay") 3 (by with_unfolding_all exact sc_back_again.nd) (by with_unfolding_all rfl) (by with_unfolding_all first | exact Or.inl rfl | exact Or.inr rfl) ?_ (by with_unfolding_all rfl) (by with_unfolding_all first | exact .inl rfl | exact .inr rfl))



theorem kn_back_again (D : HasDef K mg "back_again" s_back_again ["channel", "draught", "hour", "stay"]) (k1 : Knows P w K mg base 5 "check_three" cChk3) (k2 : Knows P w K mg base 1 "is_between" cBetween) (k3 : Knows P w K mg base 4 "home_after" cHomeF) : Knows P w K mg base 6 "back_again" cBackAg := by
  refine knows_mk D sc_back_again (fun _ _ _ ⟨_, _, _, _, e, _⟩ => by rw [e]; rfl) (fun f cdv A outer sh H E hr svs τ Q hC => ?_)
  obtain ⟨c, d, h, s, rfl, hc, d0, d1, h0, h1, s0, s1, q⟩ := hC
  walk_at "go"
  refine ⟨c, d, h, rfl, hc, d0, d1, h0, h1, ?_⟩
  walk_at "go"
  refine ⟨_, _, _, rfl, true, by rw [between_ok s0 s1], ?_⟩
  walk_at "go"
  exact ⟨c, d, h, s, rfl, hc, h0, by omega, s0, by omega, q⟩
end

def fitsOf (c : Chan) (d h e : Int) : List Int := ((List.range 100).filter fun s => decide ((homeOf c d h (s : Nat)).getD 0 ≤ e)).map fun s => ((s : Nat) : Int)
def longOf (c : Chan) (d h e : Int) : Option Int := if (homeOf c d h 0).isNone then none else if fitsOf c d h e = [] then none else some (lastI (fitsOf c d h e))
theorem home_all {c : Chan} (hc : ChOk c) {d h s x : Int} (hx : homeOf c d h 0 = some x) : ∃ y, homeOf c d h s = some y := by
  unfold homeOf at hx ⊢
  cases ha : soonOf c d h with
  | none => rw [ha] at hx; cases hx
  | some a =>
    rw [ha] at hx
    exact home_some hc.back hx
section
variable {P : Program} {w : World} {K : PySem.W.Frag} {mg : Str → Option Value} {base : Heap}
def cLong : Ctr := fun svs τ Q => ∃ c, ∃ d h e : Int, svs = [.val (chD c), .val (.int d), .val (.int h), .val (.int e)] ∧ ChOk c ∧ 0 ≤ d ∧ d ≤ 6 ∧ 0 ≤ h ∧ h ≤ 999 ∧ 0 ≤ e ∧ e ≤ 999 ∧ Q (.val (optD (longOf c d h e))) τ
abbrev s_longest_stay : Stmt := topS 34
theorem sc_longest_stay : FnScope ["channel", "draught", "hour", "end", "some", "stay"] ["channel", "draught", "hour", "end"] (defScope s_longest_stay) := ⟨rfl, rfl, rfl, by decide +kernel, rfl, by decide +kernel, by decide +kernel⟩
local macro_rules | `(tactic| walk_at "nm") => `(tactic| first
  | with_reducible refine de_name (x := "channel") 0 (by with_unfolding_all rfl) (by with_unfolding_all first | exact Or.inl rfl | exact Or.inr (Or.inl rfl) | exact Or.inr (Or.inr rfl)) (by with_unfolding_all rfl) ?_ (by with_unfolding_all decide) (by with_unfolding_all decide)
  | with_reducible refine de_name (x := "draught") 1 (by with_unfolding_all rfl) (by with_unfolding_all first | exact Or.inl rfl | exact Or.inr (Or.inl rfl) | exact Or.inr (Or.inr rfl)) (by with_unfolding_all rfl) ?_ (by with_unfolding_all decide) (by with_unfolding_all decide)
  | with_reducible refine de_name (x := "hour") 2 (by with_unfolding_all rfl) (by with_unfolding_all first | exact Or.inl rfl | exact Or.inr (Or.inl rfl) | exact Or.inr (Or.inr rfl)) (by with_unfolding_all rfl) ?_ (by with_unfolding_all decide) (by with_unfolding_all decide)
  | with_reducible refine de_name (x := "end") 3 (by with_unfolding_all rfl) (by with_unfolding_all first | exact Or.inl rfl | exact Or.inr (Or.inl rfl) | exact Or.inr (Or.inr rfl)) (by with_unfolding_all rfl) ?_ (by with_unfolding_all decide) (by with_unfolding_all decide)
  | with_reducible refine de_name (x := "some") 4 (by with_unfolding_all rfl) (by with_unfolding_all first | exact Or.inl rfl | exact Or.inr (Or.inl rfl) | exact Or.inr (Or.inr rfl)) (by with_unfolding_all rfl) ?_ (by with_unfolding_all decide) (by with_unfolding_all decide)
  | with_reducible refine de_name (x := "stay") 5 (by with_unfolding_all rfl) (by with_unfolding_all first | exact Or.inl rfl | exact Or.inr (Or.inl rfl) | exact Or.inr (Or.inr rfl)) (by with_unfolding_all rfl) ?_ (by with_unfolding_all decide) (by with_unfolding_all decide))
local macro_rules | `(tactic| walk_at "st") => `(tactic| first
  | with_reducible refine ds_set (x := "channel") 0 (by with_unfolding_all exact sc_longest_stay.nd) (by with_unfolding_all rfl) (by with_unfolding_all first | exact Or.inl rfl | exact Or.inr rfl) ?_ (by with_unfolding_all rfl) (by with_unfolding_all first | exact .inl rfl | exact .inr rfl)
  | with_reducible refine ds_set (x := "draught") 1 (by with_unfolding_all exact sc_longest_stay.nd) (by with_unfolding_all rfl) (by with_unfolding_all first | exact Or.inl rfl | exact Or.inr rfl) ?_ (by with_unfolding_all rfl) (by with_unfolding_all first | exact .inl rfl | exact .inr rfl)
  | with_reducible refine ds_set (x := "hour") 2 (by with_unfolding_all exact sc_longest_stay.nd) (by with_unfolding_all rfl) (by with_unfolding_all first | exact Or.inl rfl | exact Or.inr rfl) ?_ (by with_unfolding_all rfl) (by with_unfolding_all first | exact .inl rfl | exact .inr rfl)
  | with_reducible refine ds_set (x := "end") 3 (by with_unfolding_all exact sc_longest_stay.nd) (by with_unfolding_all rfl) (by with_unfolding_all first | exact Or.inl rfl | exact Or.inr rfl) ?_ (by with_unfolding_all rfl) (by with_unfolding_all first | exact .inl rfl | exact .inr rfl)
  | with_reducible refine ds_set (x := "some") 4 (by with_unfolding_all exact sc_longest_stay.nd) (by with_unfolding_all rfl) (by with_unfolding_all first | exact Or.inl rfl | exact Or.inr rfl) ?_ (by with_unfolding_all rfl) (by with_unfolding_all first | exact .inl rfl | exact .inr rfl)
  | with_reducible refine ds_set (x := "stay") 5 (by with_unfolding_all exact sc_longest_stay.nd) (by with_unfolding_all rfl) (by with_unfolding_all first | exact Or.inl rfl | exact Or.inr rfl) ?_ (by with_unfolding_all rfl) (by with_unfolding_all first | exact .inl rfl | exact .inr rfl))

local macro_rules | `(tactic| walk_at "lc stay") => `(tactic| refine de_lc (t := .name 5) (own := [("stay", 5)]) rfl sc_longest_stay.nd (by first | exact blkOk_by (N := ["channel", "draught", "hour", "end", "some", "stay"]) (sc := defScope s_longest_stay) (by decide +kernel) | exact blkOk_by (N := ["channel", "draught", "hour", "end", "some", "stay"]) (sc := relS _ (defScope s_longest_stay)) (by decide +kernel)) (by decide) (fun _ _ _ _ _ => pgx_name sc_longest_stay.nd rfl (by first | exact Or.inl rfl | exact Or.inr rfl)) ?_)
local macro_rules | `(tactic| walk_at "slc stay") => `(tactic| first
  | refine ds_setLc (t := .name 5) (own := [("stay", 5)]) 4 (y := "some") rfl sc_longest_stay.nd rfl rfl (sw_true rfl rfl rfl (by decide +kernel)) (by first | exact blkOk_by (N := ["channel", "draught", "hour", "end", "some", "stay"]) (sc := defScope s_longest_stay) (by decide +kernel) | exact blkOk_by (N := ["channel", "draught", "hour", "end", "some", "stay"]) (sc := relS _ (defScope s_longest_stay)) (by decide +kernel)) (by decide) (fun _ _ _ _ _ => pgx_name sc_longest_stay.nd rfl (by first | exact Or.inl rfl | exact Or.inr rfl)) ?_)

theorem kn_longest_stay (D : HasDef K mg "longest_stay" s_longest_stay ["channel", "draught", "hour", "end"]) (B : Bl mg) (k1 : Knows P w K mg base 5 "check_three" cChk3) (k2 : Knows P w K mg base 2 "check_hour" (cChkI 0 999)) (k3 : Knows P w K mg base 4 "home_after" cHomeF) : Knows P w K mg base 6 "longest_stay" cLong := by
  refine knows_mk D sc_longest_stay (fun _ _ _ ⟨_, _, _, _, e, _⟩ => by rw [e]; rfl) (fun f cdv A outer sh H E hr svs τ Q hC => ?_)
  obtain ⟨c, d, h, e, rfl, hc, d0, d1, h0, h1, s0, s1, q⟩ := hC
  unfold longOf at q
  walk_at "go"
  refine ⟨c, d, h, rfl, hc, d0, d1, h0, h1, ?_⟩
  walk_at "go"
  refine ⟨e, rfl, s0, s1, ?_⟩
  walk_at "go"
  refine ⟨c, d, h, 0, rfl, hc, h0, by omega, by omega, by omega, ?_⟩
  cases hx : homeOf c d h 0 with
  | none =>
    rw [hx] at q
    walk_at "go"
    exact q
  | some x =>
    rw [hx] at q
    walk_at "go"
    walk_at "slc stay"
    refine di_range1 ‹Bl _› rfl ?_
    walk_at "go"
    refine ⟨by decide, by decide, ?_⟩
    refine lcq_filter (List.range 100) (fun s => .int (0 + (s : Nat))) (fun s => .int ((s : Nat) : Int)) (fun s => decide ((homeOf c d h (s : Nat)).getD 0 ≤ e)) rfl (by rw [List.length_range]; decide) (fun s hs => ⟨_, rfl, fun D acc hD s' H C cl fp => ⟨?_, fun hs => ?_⟩⟩) ?_
    · have hs := List.mem_range.mp hs
      walk_at "go"
      rw [Int.zero_add]
      refine ⟨c, d, h, _, rfl, hc, h0, by omega, by omega, by omega, ?_⟩
      obtain ⟨y, hy⟩ := home_all hc (s := ((s : Nat) : Int)) hx
      rw [hy]
      walk_at "go"
      exact ⟨rfl, rfl⟩
    · walk_at "go"
      rw [Int.zero_add]
      exact ⟨rfl, rfl⟩
    have e1 : ((List.range 100).filter fun s => decide ((homeOf c d h (s : Nat)).getD 0 ≤ e)).map (fun s => PyData.int ((s : Nat) : Int)) = (fitsOf c d h e).map .int := by unfold fitsOf; rw [List.map_map]; rfl
    rw [e1]
    generalize fitsOf c d h e = ns at q ⊢
    have q : Q (.val (optD (if ns = [] then none else some (lastI ns)))) τ := q
    walk_at "go"
    refine eq_pl (n := 1) (m := 1) rfl rfl (fun x hx => by obtain ⟨i, _, rfl⟩ := List.mem_map.mp hx; trivial) (fun x hx => by cases hx) (fun b hb => ?_)
    refine ⟨_, rfl, fun g => ?_, fun g => ?_⟩
    · have hb' : b = false := by simpa [bneg] using g
      have hne : ns ≠ [] := fun z => by
        have := hb.mpr (by rw [z]; rfl)
        rw [hb'] at this
        cases this
      walk_at "go"
      refine ix_lst rfl (atI_last hne) ?_
      rw [if_neg hne] at q
      exact q
    · have hb' : b = true := by simpa [bneg] using g
      have e := hb.mp hb'
      injection e with e
      rw [if_pos (List.map_eq_nil_iff.mp e)] at q
      walk_at "go"
      exact q
end

section
variable {P : Program} {w : World} {K : PySem.W.Frag} {mg : Str → Option Value} {base : Heap}
def cChkB : Ctr := fun svs τ Q => ∃ c e, svs = [.val (chD c), .val (chD e)] ∧ ChOk c ∧ ChOk e ∧ Q (.val .none) τ
abbrev s_check_both : Stmt := topS 47
theorem sc_check_both : FnScope ["one", "other"] ["one", "other"] (defScope s_check_both) := ⟨rfl, rfl, rfl, by decide +kernel, rfl, by decide +kernel, by decide +kernel⟩
local macro_rules | `(tactic| walk_at "nm") => `(tactic| first
  | with_reducible refine de_name (x := "one") 0 (by with_unfolding_all rfl) (by with_unfolding_all first | exact Or.inl rfl | exact Or.inr (Or.inl rfl) | exact Or.inr (Or.inr rfl)) (by with_unfolding_all rfl) ?_ (by with_unfolding_all decide) (by with_unfolding_all decide)
  | with_reducible refine de_name (x := "other") 1 (by with_unfolding_all rfl) (by with_unfolding_all first | exact Or.inl rfl | exact Or.inr (Or.inl rfl) | exact Or.inr (Or.inr rfl)) (by with_unfolding_all rfl) ?_ (by with_unfolding_all decide) (by with_unfolding_all decide))
local macro_rules | `(tactic| walk_at "st") => `(tactic| first
  | with_reducible refine ds_set (x := "one") 0 (by with_unfolding_all exact sc_check_both.nd) (by with_unfolding_all rfl) (by with_unfolding_all first | exact Or.inl rfl | exact Or.inr rfl) ?_ (by with_unfolding_all rfl) (by with_unfolding_all first | exact .inl rfl | exact .inr rfl)
  | with_reducible refine ds_set (x := "other") 1 (by with_unfolding_all exact sc_check_both.nd) (by with_unfolding_all rfl) (by with_unfolding_all first | exact Or.inl rfl | exact Or.inr rfl) ?_ (by with_unfolding_all rfl) (by with_unfolding_all first | exact .inl rfl | exact .inr rfl))



theorem kn_check_both (D : HasDef K mg "check_both" s_check_both ["one", "other"]) (k1 : Knows P w K mg base 4 "check_channel" cChk) : Knows P w K mg base 5 "check_both" cChkB := by
  refine knows_mk D sc_check_both (fun _ _ _ ⟨_, _, e, _⟩ => by rw [e]; rfl) (fun f cdv A outer s H E hr svs τ Q hC => ?_)
  obtain ⟨c, e, rfl, hc, he, q⟩ := hC
  walk_at "go"
  refine ⟨_, rfl, hc, ?_⟩
  walk_at "go"
  refine ⟨_, rfl, he, ?_⟩
  walk_at "go"
  exact q
end

abbrev Part := Int × Int × Bool
def partD (p : Part) : PyData := .tuple [.int p.1, .int p.2.1, .bool p.2.2]
def partsAt (c e : Chan) (d : Int) (n : Nat) : List Part := ((List.range n).filter fun h => isOut c d (h : Nat) != isOut e d (h : Nat)).map fun h => (d, ((h : Nat) : Int), isOut c d (h : Nat))
def partsTo (c e : Chan) (n : Nat) : List Part := (List.range n).flatMap fun d => partsAt c e ((d : Nat) : Int) (Nat.lcm (periodOf c) (periodOf e))
def parts (c e : Chan) : List Part := partsTo c e 7
theorem partsAt_succ {c e : Chan} {d : Int} {n : Nat} : partsAt c e d (n + 1) = partsAt c e d n ++ if (isOut c d (n : Nat) != isOut e d (n : Nat)) = true then [(d, ((n : Nat) : Int), isOut c d (n : Nat))] else [] := by
  unfold partsAt
  rw [List.range_succ, List.filter_append, List.map_append]
  refine congrArg _ ?_
  rw [List.filter_cons]
  split <;> rfl
theorem partsTo_succ {c e : Chan} {n : Nat} : partsTo c e (n + 1) = partsTo c e n ++ partsAt c e (n : Nat) (Nat.lcm (periodOf c) (periodOf e)) := by
  unfold partsTo
  rw [List.range_succ, List.flatMap_append]
  simp
theorem partsAt_len {c e : Chan} {d : Int} {n : Nat} : (partsAt c e d n).length ≤ n := by
  unfold partsAt
  rw [List.length_map]
  refine Nat.le_trans (List.length_filter_le _ _) ?_
  rw [List.length_range]
  exact Nat.le_refl _
theorem partsTo_len {c e : Chan} (hc : ChOk c) (he : ChOk e) : ∀ n, (partsTo c e n).length ≤ 840 * n
  | 0 => Nat.zero_le _
  | n + 1 => by
    rw [partsTo_succ, List.length_append]
    have := partsTo_len hc he n
    have := partsAt_len (c := c) (e := e) (d := (n : Nat)) (n := Nat.lcm (periodOf c) (periodOf e))
    have := lcm840 hc he
    omega
section
variable {P : Program} {w : World} {K : PySem.W.Frag} {mg : Str → Option Value} {base : Heap}
def cParts : Ctr := fun svs τ Q => ∃ c e, svs = [.val (chD c), .val (chD e)] ∧ ChOk c ∧ ChOk e ∧ Q (.val (.list ((parts c e).map partD))) τ
abbrev s_found_partings : Stmt := topS 48
theorem sc_found_partings : FnScope ["one", "other", "first", "second", "rows", "draught", "hour", "answer"] ["one", "other"] (defScope s_found_partings) := ⟨rfl, rfl, rfl, by decide +kernel, rfl, by decide +kernel, by decide +kernel⟩
local macro_rules | `(tactic| walk_at "nm") => `(tactic| first
  | with_reducible refine de_name (x := "one") 0 (by with_unfolding_all rfl) (by with_unfolding_all first | exact Or.inl rfl | exact Or.inr (Or.inl rfl) | exact Or.inr (Or.inr rfl)) (by with_unfolding_all rfl) ?_ (by with_unfolding_all decide) (by with_unfolding_all decide)
  | with_reducible refine de_name (x := "other") 1 (by with_unfolding_all rfl) (by with_unfolding_all first | exact Or.inl rfl | exact Or.inr (Or.inl rfl) | exact Or.inr (Or.inr rfl)) (by with_unfolding_all rfl) ?_ (by with_unfolding_all decide) (by with_unfolding_all decide)
  | with_reducible refine de_name (x := "first") 2 (by with_unfolding_all rfl) (by with_unfolding_all first | exact Or.inl rfl | exact Or.inr (Or.inl rfl) | exact Or.inr (Or.inr rfl)) (by with_unfolding_all rfl) ?_ (by with_unfolding_all decide) (by with_unfolding_all decide)
  | with_reducible refine de_name (x := "second") 3 (by with_unfolding_all rfl) (by with_unfolding_all first | exact Or.inl rfl | exact Or.inr (Or.inl rfl) | exact Or.inr (Or.inr rfl)) (by with_unfolding_all rfl) ?_ (by with_unfolding_all decide) (by with_unfolding_all decide)
  | with_reducible refine de_name (x := "rows") 4 (by with_unfolding_all rfl) (by with_unfolding_all first | exact Or.inl rfl | exact Or.inr (Or.inl rfl) | exact Or.inr (Or.inr rfl)) (by with_unfolding_all rfl) ?_ (by with_unfolding_all decide) (by with_unfolding_all decide)
  | with_reducible refine de_name (x := "draught") 5 (by with_unfolding_all rfl) (by with_unfolding_all first | exact Or.inl rfl | exact Or.inr (Or.inl rfl) | exact Or.inr (Or.inr rfl)) (by with_unfolding_all rfl) ?_ (by with_unfolding_all decide) (by with_unfolding_all decide)
  | with_reducible refine de_name (x := "hour") 6 (by with_unfolding_all rfl) (by with_unfolding_all first | exact Or.inl rfl | exact Or.inr (Or.inl rfl) | exact Or.inr (Or.inr rfl)) (by with_unfolding_all rfl) ?_ (by with_unfolding_all decide) (by with_unfolding_all decide)
  | with_reducible refine de_name (x := "answer") 7 (by with_unfolding_all rfl) (by with_unfolding_all first | exact Or.inl rfl | exact Or.inr (Or.inl rfl) | exact Or.inr (Or.inr rfl)) (by with_unfolding_all rfl) ?_ (by with_unfolding_all decide) (by with_unfolding_all decide))
local macro_rules | `(tactic| walk_at "st") => `(tactic| first
  | with_reducible refine ds_set (x := "one") 0 (by with_unfolding_all exact sc_found_partings.nd) (by with_unfolding_all rfl) (by with_unfolding_all first | exact Or.inl rfl | exact Or.inr rfl) ?_ (by with_unfolding_all rfl) (by with_unfolding_all first | exact .inl rfl | exact .inr rfl)
  | with_reducible refine ds_set (x := "other") 1 (by with_unfolding_all exact sc_found_partings.nd) (by with_unfolding_all rfl) (by with_unfolding_all first | exact Or.inl rfl | exact Or.inr rfl) ?_ (by with_unfolding_all rfl) (by with_unfolding_all first | exact .inl rfl | exact .inr rfl)
  | with_reducible refine ds_set (x := "first") 2 (by with_unfolding_all exact sc_found_partings.nd) (by with_unfolding_all rfl) (by with_unfolding_all first | exact Or.inl rfl | exact Or.inr rfl) ?_ (by with_unfolding_all rfl) (by with_unfolding_all first | exact .inl rfl | exact .inr rfl)
  | with_reducible refine ds_set (x := "second") 3 (by with_unfolding_all exact sc_found_partings.nd) (by with_unfolding_all rfl) (by with_unfolding_all first | exact Or.inl rfl | exact Or.inr rfl) ?_ (by with_unfolding_all rfl) (by with_unfolding_all first | exact .inl rfl | exact .inr rfl)
  | with_reducible refine ds_set (x := "rows") 4 (by with_unfolding_all exact sc_found_partings.nd) (by with_unfolding_all rfl) (by with_unfolding_all first | exact Or.inl rfl | exact Or.inr rfl) ?_ (by with_unfolding_all rfl) (by with_unfolding_all first | exact .inl rfl | exact .inr rfl)
  | with_reducible refine ds_set (x := "draught") 5 (by with_unfolding_all exact sc_found_partings.nd) (by with_unfolding_all rfl) (by with_unfolding_all first | exact Or.inl rfl | exact Or.inr rfl) ?_ (by with_unfolding_all rfl) (by with_unfolding_all first | exact .inl rfl | exact .inr rfl)
  | with_reducible refine ds_set (x := "hour") 6 (by with_unfolding_all exact sc_found_partings.nd) (by with_unfolding_all rfl) (by with_unfolding_all first | exact Or.inl rfl | exact Or.inr rfl) ?_ (by with_unfolding_all rfl) (by with_unfolding_all first | exact .inl rfl | exact .inr rfl)
  | with_reducible refine ds_set (x := "answer") 7 (by with_unfolding_all exact sc_found_partings.nd) (by with_unfolding_all rfl) (by with_unfolding_all first | exact Or.inl rfl | exact Or.inr rfl) ?_ (by with_unfolding_all rfl) (by with_unfolding_all first | exact .inl rfl | exact .inr rfl))



theorem kn_found_partings (D : HasDef K mg "found_partings" s_found_partings ["one", "other"]) (B : Bl mg) (k1 : Knows P w K mg base 2 "period_of" cPer) (k2 : Knows P w K mg base 1 "divisor" cDiv) (k3 : Knows P w K mg base 3 "is_out" cIsOut) : Knows P w K mg base 4 "found_partings" cParts := by
  refine knows_mk D sc_found_partings (fun _ _ _ ⟨_, _, e, _⟩ => by rw [e]; rfl) (fun f cdv A outer s H E hr svs τ Q hC => ?_)
  obtain ⟨c, e, rfl, hc, he, q⟩ := hC
  have hlc := lcm840 hc he
  refine db_cons ?_
  refine ds_par 2 3 rfl sc_found_partings.nd rfl rfl (by decide) rfl rfl ?_ (by first | rfl | kernel_rfl)
  walk_at "go"
  refine ⟨c, rfl, hc, ?_⟩
  walk_at "go"
  refine ⟨e, rfl, he, ?_⟩
  refine db_cons ?_
  walk_at "st"
  refine de_lstM ?_
  walk_at "go"
  intro l hl
  refine db_seq (fun ρ' τ' => ∃ v1 v2 v3, τ' = (l, .lst ((parts c e).map partD)) :: τ ∧ ρ' = [some (.val (chD c)), some (.val (chD e)), some (.val (.int (periodOf c : Nat))), some (.val (.int (periodOf e : Nat))), some (.hdl l), v1, v2, v3]) ?_ ?_
  · refine ds_for (t := .name 5) rfl PassesOwn.never (pgx_name sc_found_partings.nd rfl (by first | exact Or.inl rfl | exact Or.inr rfl)) (di_range1 ‹Bl _› rfl ?_)
    walk_at "go"
    refine ⟨by decide, by decide, fun i ρ' τ' => ∃ v1 v2 v3, τ' = (l, .lst ((partsTo c e i).map partD)) :: τ ∧ ρ' = [some (.val (chD c)), some (.val (chD e)), some (.val (.int (periodOf c : Nat))), some (.val (.int (periodOf e : Nat))), some (.hdl l), v1, v2, v3], ⟨_, _, _, rfl, rfl⟩, fun _ _ _ _ => trivial, ?_, ?_⟩
    · rintro i dd ρ' τ3 hd ⟨v1, v2, v3, rfl, rfl⟩
      have hi : i < 7 := by
        have := (List.getElem?_eq_some_iff.mp hd).1
        rw [rangeD_length] at this
        exact this
      change (rangeD 0 7)[i]? = _ at hd
      rw [rangeD_get hi, Int.zero_add] at hd
      cases hd
      refine ⟨_, rfl, ?_⟩
      refine db_one ?_
      refine ds_for (t := .name 6) rfl PassesOwn.never (pgx_name sc_found_partings.nd rfl (by first | exact Or.inl rfl | exact Or.inr rfl)) (di_range1 ‹Bl _› rfl ?_)
      have hg : 0 < Nat.gcd (periodOf c) (periodOf e) := Nat.gcd_pos_of_pos_left _ (period_pos hc)
      have hg2 : Nat.gcd (periodOf c) (periodOf e) ≤ periodOf c := Nat.gcd_le_left _ (period_pos hc)
      have hp2 := period_le hc
      walk_at "go"
      refine ⟨_, _, rfl, ?_⟩
      refine ⟨_, _, rfl, rfl, ⟨by omega, by omega⟩, _, rfl, ?_⟩
      have en : ((periodOf c : Nat) : Int) * ((periodOf e : Nat) : Int) / ((Nat.gcd (periodOf c) (periodOf e) : Nat) : Int) = ((Nat.lcm (periodOf c) (periodOf e) : Nat) : Int) := lcm_div _ _
      rw [en]
      have hpl := partsTo_len hc he i
      refine ⟨by omega, by omega, fun j ρ' τ' => ∃ v2 v3, τ' = (l, .lst ((partsTo c e i ++ partsAt c e (i : Nat) j).map partD)) :: τ ∧ ρ' = [some (.val (chD c)), some (.val (chD e)), some (.val (.int (periodOf c : Nat))), some (.val (.int (periodOf e : Nat))), some (.hdl l), some (.val (.int (i : Nat))), v2, v3], ⟨_, _, ?_, rfl⟩, fun _ _ _ _ => trivial, ?_, ?_⟩
      · show _ = (l, MO.lst ((partsTo c e i ++ []).map partD)) :: τ
        rw [List.append_nil]
      · rintro j dd ρ' τ4 hd ⟨v2, v3, rfl, rfl⟩
        have hj : j < Nat.lcm (periodOf c) (periodOf e) := by
          have := (List.getElem?_eq_some_iff.mp hd).1
          rw [rangeD_length] at this
          omega
        change (rangeD 0 (Nat.lcm (periodOf c) (periodOf e)))[j]? = _ at hd
        rw [rangeD_get hj, Int.zero_add] at hd
        cases hd
        have hpa := partsAt_len (c := c) (e := e) (d := (i : Nat)) (n := j)
        have hll : ((partsTo c e i ++ partsAt c e (i : Nat) j).map partD).length < 1000000 := by
          rw [List.length_map, List.length_append]
          omega
        refine ⟨_, rfl, ?_⟩
        walk_at "go"
        refine ⟨c, _, _, rfl, hc, ?_⟩
        walk_at "go"
        refine ⟨e, _, _, rfl, he, ?_⟩
        refine eq_bool ?_
        walk_at "go"
        refine ⟨fun g => ?_, fun g => ?_⟩
        · walk_at "go"
          refine de_append ?_
          walk_at "go"
          refine ⟨l, _, rfl, lookup_here, ?_⟩
          walk_at "go"
          refine ⟨_, _, rfl, lookup_here, hll, ?_⟩
          walk_at "go"
          refine ⟨_, _, ?_, rfl⟩
          rw [setS_here, partsAt_succ, if_pos (by simpa [bneg] using g), ← List.append_assoc, List.map_append (l₂ := [_])]
          rfl
        · walk_at "go"
          refine ⟨_, _, ?_, rfl⟩
          rw [partsAt_succ, if_neg (by simpa [bneg] using g), List.append_nil]
      · rintro ρ' τ4 ⟨v2, v3, rfl, rfl⟩
        refine ⟨_, v2, v3, ?_, rfl⟩
        rw [rangeD_length, partsTo_succ]
        rfl
    · rintro ρ' τ3 ⟨v1, v2, v3, rfl, rfl⟩
      exact ⟨v1, v2, v3, rfl, rfl⟩
  · rintro ρ' τ3 ⟨v1, v2, v3, rfl, rfl⟩
    refine db_freeze 4 rfl ?_
    walk_at "go"
    exact q
end

theorem pb_parts (ps : List Part) : Pb 2 (.list (ps.map partD)) := fun x hx => by
  obtain ⟨p, _, rfl⟩ := List.mem_map.mp hx
  intro y hy
  simp only [List.mem_cons, List.not_mem_nil, or_false] at hy
  rcases hy with rfl | rfl | rfl <;> trivial
def optP : Option (Int × Int) → PyData
  | none => .none
  | some p => .tuple [.int p.1, .int p.2]
def firstPart (c e : Chan) : Option (Int × Int) := (parts c e).head?.map fun p => (p.1, p.2.1)
def neverWorse (c e : Chan) : Bool := (parts c e).all fun p => p.2.2
theorem parts_len {c e : Chan} (hc : ChOk c) (he : ChOk e) : (parts c e).length ≤ 5880 := partsTo_len hc he 7

section
variable {P : Program} {w : World} {K : PySem.W.Frag} {mg : Str → Option Value} {base : Heap}
def cAlike : Ctr := fun svs τ Q => ∃ c e, svs = [.val (chD c), .val (chD e)] ∧ ChOk c ∧ ChOk e ∧ Q (.val (.bool (parts c e).isEmpty)) τ
abbrev s_are_alike : Stmt := topS 49
theorem sc_are_alike : FnScope ["one", "other"] ["one", "other"] (defScope s_are_alike) := ⟨rfl, rfl, rfl, by decide +kernel, rfl, by decide +kernel, by decide +kernel⟩
local macro_rules | `(tactic| walk_at "nm") => `(tactic| first
  | with_reducible refine de_name (x := "one") 0 (by with_unfolding_all rfl) (by with_unfolding_all first | exact Or.inl rfl | exact Or.inr (Or.inl rfl) | exact Or.inr (Or.inr rfl)) (by with_unfolding_all rfl) ?_ (by with_unfolding_all decide) (by with_unfolding_all decide)
  | with_reducible refine de_name (x := "other") 1 (by with_unfolding_all rfl) (by with_unfolding_all first | exact Or.inl rfl | exact Or.inr (Or.inl rfl) | exact Or.inr (Or.inr rfl)) (by with_unfolding_all rfl) ?_ (by with_unfolding_all decide) (by with_unfolding_all decide))
local macro_rules | `(tactic| walk_at "st") => `(tactic| first
  | with_reducible refine ds_set (x := "one") 0 (by with_unfolding_all exact sc_are_alike.nd) (by with_unfolding_all rfl) (by with_unfolding_all first | exact Or.inl rfl | exact Or.inr rfl) ?_ (by with_unfolding_all rfl) (by with_unfolding_all first | exact .inl rfl | exact .inr rfl)
  | with_reducible refine ds_set (x := "other") 1 (by with_unfolding_all exact sc_are_alike.nd) (by with_unfolding_all rfl) (by with_unfolding_all first | exact Or.inl rfl | exact Or.inr rfl) ?_ (by with_unfolding_all rfl) (by with_unfolding_all first | exact .inl rfl | exact .inr rfl))



theorem kn_are_alike (D : HasDef K mg "are_alike" s_are_alike ["one", "other"]) (k1 : Knows P w K mg base 5 "check_both" cChkB) (k2 : Knows P w K mg base 4 "found_partings" cParts) : Knows P w K mg base 6 "are_alike" cAlike := by
  refine knows_mk D sc_are_alike (fun _ _ _ ⟨_, _, e, _⟩ => by rw [e]; rfl) (fun f cdv A outer s H E hr svs τ Q hC => ?_)
  obtain ⟨c, e, rfl, hc, he, q⟩ := hC
  walk_at "go"
  refine ⟨_, _, rfl, hc, he, ?_⟩
  walk_at "go"
  refine ⟨_, _, rfl, hc, he, ?_⟩
  walk_at "go"
  refine eq_nilL rfl rfl (pb_parts _) ?_
  rw [List.isEmpty_map]
  exact q
end

section
variable {P : Program} {w : World} {K : PySem.W.Frag} {mg : Str → Option Value} {base : Heap}
def cFirst : Ctr := fun svs τ Q => ∃ c e, svs = [.val (chD c), .val (chD e)] ∧ ChOk c ∧ ChOk e ∧ Q (.val (optP (firstPart c e))) τ
abbrev s_first_parting : Stmt := topS 50
theorem sc_first_parting : FnScope ["one", "other", "rows"] ["one", "other"] (defScope s_first_parting) := ⟨rfl, rfl, rfl, by decide +kernel, rfl, by decide +kernel, by decide +kernel⟩
local macro_rules | `(tactic| walk_at "nm") => `(tactic| first
  | with_reducible refine de_name (x := "one") 0 (by with_unfolding_all rfl) (by with_unfolding_all first | exact Or.inl rfl | exact Or.inr (Or.inl rfl) | exact Or.inr (Or.inr rfl)) (by with_unfolding_all rfl) ?_ (by with_unfolding_all decide) (by with_unfolding_all decide)
  | with_reducible refine de_name (x := "other") 1 (by with_unfolding_all rfl) (by with_unfolding_all first | exact Or.inl rfl | exact Or.inr (Or.inl rfl) | exact Or.inr (Or.inr rfl)) (by with_unfolding_all rfl) ?_ (by with_unfolding_all decide) (by with_unfolding_all decide)
  | with_reducible refine de_name (x := "rows") 2 (by with_unfolding_all rfl) (by with_unfolding_all first | exact Or.inl rfl | exact Or.inr (Or.inl rfl) | exact Or.inr (Or.inr rfl)) (by with_unfolding_all rfl) ?_ (by with_unfolding_all decide) (by with_unfolding_all decide))
local macro_rules | `(tactic| walk_at "st") => `(tactic| first
  | with_reducible refine ds_set (x := "one") 0 (by with_unfolding_all exact sc_first_parting.nd) (by with_unfolding_all rfl) (by with_unfolding_all first | exact Or.inl rfl | exact Or.inr rfl) ?_ (by with_unfolding_all rfl) (by with_unfolding_all first | exact .inl rfl | exact .inr rfl)
  | with_reducible refine ds_set (x := "other") 1 (by with_unfolding_all exact sc_first_parting.nd) (by with_unfolding_all rfl) (by with_unfolding_all first | exact Or.inl rfl | exact Or.inr rfl) ?_ (by with_unfolding_all rfl) (by with_unfolding_all first | exact .inl rfl | exact .inr rfl)
  | with_reducible refine ds_set (x := "rows") 2 (by with_unfolding_all exact sc_first_parting.nd) (by with_unfolding_all rfl) (by with_unfolding_all first | exact Or.inl rfl | exact Or.inr rfl) ?_ (by with_unfolding_all rfl) (by with_unfolding_all first | exact .inl rfl | exact .inr rfl))



theorem kn_first_parting (D : HasDef K mg "first_parting" s_first_parting ["one", "other"]) (k1 : Knows P w K mg base 5 "check_both" cChkB) (k2 : Knows P w K mg base 4 "found_partings" cParts) : Knows P w K mg base 6 "first_parting" cFirst := by
  refine knows_mk D sc_first_parting (fun _ _ _ ⟨_, _, e, _⟩ => by rw [e]; rfl) (fun f cdv A outer s H E hr svs τ Q hC => ?_)
  obtain ⟨c, e, rfl, hc, he, q⟩ := hC
  unfold firstPart at q
  walk_at "go"
  refine ⟨_, _, rfl, hc, he, ?_⟩
  walk_at "go"
  refine ⟨_, _, rfl, hc, he, ?_⟩
  generalize parts c e = ps at q ⊢
  walk_at "go"
  refine eq_nilL rfl rfl (pb_parts _) ?_
  rw [List.isEmpty_map]
  cases ps with
  | nil =>
    walk_at "go"
    exact q
  | cons p ps =>
    walk_at "go"
    refine ix_lst rfl (d := partD p) (atI_nat rfl) ?_
    unfold partD
    walk_at "go"
    exact q
end

section
variable {P : Program} {w : World} {K : PySem.W.Frag} {mg : Str → Option Value} {base : Heap}
def cNever : Ctr := fun svs τ Q => ∃ c e, svs = [.val (chD c), .val (chD e)] ∧ ChOk c ∧ ChOk e ∧ Q (.val (.bool (neverWorse c e))) τ
abbrev s_is_never_worse : Stmt := topS 51
theorem sc_is_never_worse : FnScope ["one", "other", "row"] ["one", "other"] (defScope s_is_never_worse) := ⟨rfl, rfl, rfl, by decide +kernel, rfl, by decide +kernel, by decide +kernel⟩
local macro_rules | `(tactic| walk_at "nm") => `(tactic| first
  | with_reducible refine de_name (x := "one") 0 (by with_unfolding_all rfl) (by with_unfolding_all first | exact Or.inl rfl | exact Or.inr (Or.inl rfl) | exact Or.inr (Or.inr rfl)) (by with_unfolding_all rfl) ?_ (by with_unfolding_all decide) (by with_unfolding_all decide)
  | with_reducible refine de_name (x := "other") 1 (by with_unfolding_all rfl) (by with_unfolding_all first | exact Or.inl rfl | exact Or.inr (Or.inl rfl) | exact Or.inr (Or.inr rfl)) (by with_unfolding_all rfl) ?_ (by with_unfolding_all decide) (by with_unfolding_all decide)
  | with_reducible refine de_name (x := "row") 2 (by with_unfolding_all rfl) (by with_unfolding_all first | exact Or.inl rfl | exact Or.inr (Or.inl rfl) | exact Or.inr (Or.inr rfl)) (by with_unfolding_all rfl) ?_ (by with_unfolding_all decide) (by with_unfolding_all decide))
local macro_rules | `(tactic| walk_at "st") => `(tactic| first
  | with_reducible refine ds_set (x := "one") 0 (by with_unfolding_all exact sc_is_never_worse.nd) (by with_unfolding_all rfl) (by with_unfolding_all first | exact Or.inl rfl | exact Or.inr rfl) ?_ (by with_unfolding_all rfl) (by with_unfolding_all first | exact .inl rfl | exact .inr rfl)
  | with_reducible refine ds_set (x := "other") 1 (by with_unfolding_all exact sc_is_never_worse.nd) (by with_unfolding_all rfl) (by with_unfolding_all first | exact Or.inl rfl | exact Or.inr rfl) ?_ (by with_unfolding_all rfl) (by with_unfolding_all first | exact .inl rfl | exact .inr rfl)
  | with_reducible refine ds_set (x := "row") 2 (by with_unfolding_all exact sc_is_never_worse.nd) (by with_unfolding_all rfl) (by with_unfolding_all first | exact Or.inl rfl | exact Or.inr rfl) ?_ (by with_unfolding_all rfl) (by with_unfolding_all first | exact .inl rfl | exact .inr rfl))

local macro_rules | `(tactic| walk_at "lc row") => `(tactic| refine de_lc (t := .name 2) (own := [("row", 2)]) rfl sc_is_never_worse.nd (by first | exact blkOk_by (N := ["one", "other", "row"]) (sc := defScope s_is_never_worse) (by decide +kernel) | exact blkOk_by (N := ["one", "other", "row"]) (sc := relS _ (defScope s_is_never_worse)) (by decide +kernel)) (by decide) (fun _ _ _ _ _ => pgx_name sc_is_never_worse.nd rfl (by first | exact Or.inl rfl | exact Or.inr rfl)) ?_)

theorem kn_is_never_worse (D : HasDef K mg "is_never_worse" s_is_never_worse ["one", "other"]) (B : Bl mg) (k1 : Knows P w K mg base 5 "check_both" cChkB) (k2 : Knows P w K mg base 4 "found_partings" cParts) : Knows P w K mg base 6 "is_never_worse" cNever := by
  refine knows_mk D sc_is_never_worse (fun _ _ _ ⟨_, _, e, _⟩ => by rw [e]; rfl) (fun f cdv A outer s H E hr svs τ Q hC => ?_)
  obtain ⟨c, e, rfl, hc, he, q⟩ := hC
  have hl := parts_len hc he
  walk_at "go"
  refine ⟨_, _, rfl, hc, he, ?_⟩
  walk_at "go"
  walk_at "lc row"
  refine di_lst ?_
  walk_at "go"
  refine ⟨_, _, rfl, hc, he, _, rfl, ?_⟩
  refine lcq_map (parts c e) partD (fun p => .bool p.2.2) rfl (by omega) (fun p hp => ⟨_, rfl, fun D acc hD s H C cl fp => ?_⟩) ?_
  · unfold partD
    walk_at "go"
    exact ⟨rfl, rfl⟩
  · have e1 : (parts c e).map (fun p => PyData.bool p.2.2) = ((parts c e).map fun p => p.2.2).map .bool := by rw [List.map_map]; rfl
    rw [e1]
    refine ⟨_, rfl, ?_⟩
    rw [List.all_map]
    exact q
end

/-! ### digging -/
def digBar (b : List Int) (m : Int) : List Int := b.map fun x => min 6 (x + m)
def digCh (c : Chan) (g : List Int) : Chan := ⟨(c.bars.zip g).map fun p => digBar p.1 p.2, c.legs, c.waits⟩
theorem ChOk.dig {c : Chan} (h : ChOk c) {g : List Int} (hl : g.length = c.bars.length) (hg : ∀ x ∈ g, 0 ≤ x ∧ x ≤ 6) : ChOk (digCh c g) := by
  have e : (digCh c g).bars.length = c.bars.length := by
    show ((c.bars.zip g).map fun p => digBar p.1 p.2).length = _
    rw [List.length_map, List.length_zip]; omega
  refine ⟨by rw [e]; exact h.b1, by rw [e]; exact h.b3, fun b hb => ?_, fun b hb x hx => ?_, by rw [e]; exact h.ll, h.lv, by rw [e]; exact h.wl, h.wv⟩
  · obtain ⟨p, hp, rfl⟩ := List.mem_map.mp hb
    unfold digBar
    rw [List.length_map]
    exact h.bl _ (List.of_mem_zip hp).1
  · obtain ⟨p, hp, rfl⟩ := List.mem_map.mp hb
    obtain ⟨y, hy, rfl⟩ := List.mem_map.mp hx
    have h1 := h.bv _ (List.of_mem_zip hp).1 y hy
    have h2 := hg _ (List.of_mem_zip hp).2
    exact ⟨by omega, by omega⟩
theorem dig_len {c : Chan} {g : List Int} (hl : g.length = c.bars.length) : (digCh c g).bars.length = c.bars.length := by
  show ((c.bars.zip g).map fun p => digBar p.1 p.2).length = _
  rw [List.length_map, List.length_zip]; omega
theorem barAt_dig {c : Chan} {g : List Int} (hl : g.length = c.bars.length) {j : Nat} (hj : j < c.bars.length) : barAt (digCh c g) j = digBar (barAt c j) (g.getD j 0) := by
  unfold barAt digCh
  simp only [List.getD_eq_getElem?_getD, List.getElem?_map]
  rw [(List.getElem?_zip_eq_some (z := (c.bars[j], g[j]'(by omega)))).mpr ⟨List.getElem?_eq_getElem hj, List.getElem?_eq_getElem (by omega)⟩, List.getElem?_eq_getElem hj, List.getElem?_eq_getElem (show j < g.length by omega)]
  rfl
theorem depth_dig {c : Chan} (hc : ChOk c) {g : List Int} (hl : g.length = c.bars.length) {j : Nat} (hj : j < c.bars.length) (x : Int) : depthOf (digCh c g) j x = min 6 (depthOf c j x + g.getD j 0) := by
  unfold depthOf
  rw [barAt_dig hl hj]
  unfold digBar
  have hm := mod_lt_len (hc.bar1 hj) x
  rw [List.length_map]
  generalize (x % ((barAt c j).length : Int)).toNat = i at hm ⊢
  rw [List.getD_eq_getElem?_getD, List.getElem?_map, List.getElem?_eq_getElem hm, List.getD_eq_getElem?_getD (l := barAt c j), List.getElem?_eq_getElem hm]
  rfl
theorem period_dig {c : Chan} {g : List Int} (hl : g.length = c.bars.length) : periodOf (digCh c g) = periodOf c := by
  refine period_of_lens ?_
  show ((c.bars.zip g).map fun p => digBar p.1 p.2).map List.length = c.bars.map List.length
  rw [List.map_map]
  have e : (List.length ∘ fun p : List Int × Int => digBar p.1 p.2) = fun p : List Int × Int => p.1.length := by
    funext p
    show (digBar p.1 p.2).length = _
    unfold digBar
    rw [List.length_map]
  rw [e]
  have : (c.bars.zip g).map (fun p : List Int × Int => p.1.length) = ((c.bars.zip g).map Prod.fst).map List.length := by rw [List.map_map]; rfl
  rw [this, List.map_fst_zip (by omega)]
theorem zip_tI (bs : List (List Int)) (g : List Int) : zipD (bs.map tI) (g.map .int) = (bs.zip g).map fun p => .tuple [tI p.1, .int p.2] := by
  unfold zipD
  rw [List.zip_map, List.map_map]
  rfl
section
variable {P : Program} {w : World} {K : PySem.W.Frag} {mg : Str → Option Value} {base : Heap}
def cDeeper : Ctr := fun svs τ Q => ∃ c g, svs = [.val (chD c), .val (tI g)] ∧ ChOk c ∧ g.length = c.bars.length ∧ Q (.val (chD (digCh c g))) τ
abbrev s_deeper : Stmt := topS 53
theorem sc_deeper : FnScope ["channel", "digging", "bars", "depth", "bar", "more"] ["channel", "digging"] (defScope s_deeper) := ⟨rfl, rfl, rfl, by decide +kernel, rfl, by decide +kernel, by decide +kernel⟩
local macro_rules | `(tactic| walk_at "nm") => `(tactic| first
  | with_reducible refine de_name (x := "channel") 0 (by with_unfolding_all rfl) (by with_unfolding_all first | exact Or.inl rfl | exact Or.inr (Or.inl rfl) | exact Or.inr (Or.inr rfl)) (by with_unfolding_all rfl) ?_ (by with_unfolding_all decide) (by with_unfolding_all decide)
  | with_reducible refine de_name (x := "digging") 1 (by with_unfolding_all rfl) (by with_unfolding_all first | exact Or.inl rfl | exact Or.inr (Or.inl rfl) | exact Or.inr (Or.inr rfl)) (by with_unfolding_all rfl) ?_ (by with_unfolding_all decide) (by with_unfolding_all decide)
  | with_reducible refine de_name (x := "bars") 2 (by with_unfolding_all rfl) (by with_unfolding_all first | exact Or.inl rfl | exact Or.inr (Or.inl rfl) | exact Or.inr (Or.inr rfl)) (by with_unfolding_all rfl) ?_ (by with_unfolding_all decide) (by with_unfolding_all decide)
  | with_reducible refine de_name (x := "depth") 3 (by with_unfolding_all rfl) (by with_unfolding_all first | exact Or.inl rfl | exact Or.inr (Or.inl rfl) | exact Or.inr (Or.inr rfl)) (by with_unfolding_all rfl) ?_ (by with_unfolding_all decide) (by with_unfolding_all decide)
  | with_reducible refine de_name (x := "bar") 4 (by with_unfolding_all rfl) (by with_unfolding_all first | exact Or.inl rfl | exact Or.inr (Or.inl rfl) | exact Or.inr (Or.inr rfl)) (by with_unfolding_all rfl) ?_ (by with_unfolding_all decide) (by with_unfolding_all decide)
  | with_reducible refine de_name (x := "more") 5 (by with_unfolding_all rfl) (by with_unfolding_all first | exact Or.inl rfl | exact Or.inr (Or.inl rfl) | exact Or.inr (Or.inr rfl)) (by with_unfolding_all rfl) ?_ (by with_unfolding_all decide) (by with_unfolding_all decide))
local macro_rules | `(tactic| walk_at "st") => `(tactic| first
  | with_reducible refine ds_set (x := "channel") 0 (by with_unfolding_all exact sc_deeper.nd) (by with_unfolding_all rfl) (by with_unfolding_all first | exact Or.inl rfl | exact Or.inr rfl) ?_ (by with_unfolding_all rfl) (by with_unfolding_all first | exact .inl rfl | exact .inr rfl)
  | with_reducible refine ds_set (x := "digging") 1 (by with_unfolding_all exact sc_deeper.nd) (by with_unfolding_all rfl) (by with_unfolding_all first | exact Or.inl rfl | exact Or.inr rfl) ?_ (by with_unfolding_all rfl) (by with_unfolding_all first | exact .inl rfl | exact .inr rfl)
  | with_reducible refine ds_set (x := "bars") 2 (by with_unfolding_all exact sc_deeper.nd) (by with_unfolding_all rfl) (by with_unfolding_all first | exact Or.inl rfl | exact Or.inr rfl) ?_ (by with_unfolding_all rfl) (by with_unfolding_all first | exact .inl rfl | exact .inr rfl)
  | with_reducible refine ds_set (x := "depth") 3 (by with_unfolding_all exact sc_deeper.nd) (by with_unfolding_all rfl) (by with_unfolding_all first | exact Or.inl rfl | exact Or.inr rfl) ?_ (by with_unfolding_all rfl) (by with_unfolding_all first | exact .inl rfl | exact .inr rfl)
  | with_reducible refine ds_set (x := "bar") 4 (by with_unfolding_all exact sc_deeper.nd) (by with_unfolding_all rfl) (by with_unfolding_all first | exact Or.inl rfl | exact Or.inr rfl) ?_ (by with_unfolding_all rfl) (by with_unfolding_all first | exact .inl rfl | exact .inr rfl)
  | with_reducible refine ds_set (x := "more") 5 (by with_unfolding_all exact sc_deeper.nd) (by with_unfolding_all rfl) (by with_unfolding_all first | exact Or.inl rfl | exact Or.inr rfl) ?_ (by with_unfolding_all rfl) (by with_unfolding_all first | exact .inl rfl | exact .inr rfl))

local macro_rules | `(tactic| walk_at "lc bar more") => `(tactic| refine de_lc (t := .tup [4, 5]) (own := [("bar", 4), ("more", 5)]) rfl sc_deeper.nd (by first | exact blkOk_by (N := ["channel", "digging", "bars", "depth", "bar", "more"]) (sc := defScope s_deeper) (by decide +kernel) | exact blkOk_by (N := ["channel", "digging", "bars", "depth", "bar", "more"]) (sc := relS _ (defScope s_deeper)) (by decide +kernel)) (by decide) (fun _ _ _ _ _ => pgx_tup2 rfl (pg_name sc_deeper.nd rfl (by first | exact Or.inl rfl | exact Or.inr rfl)) (pg_name sc_deeper.nd rfl (by first | exact Or.inl rfl | exact Or.inr rfl))) ?_)
local macro_rules | `(tactic| walk_at "slc bar more") => `(tactic| first
  | refine ds_setLc (t := .tup [4, 5]) (own := [("bar", 4), ("more", 5)]) 2 (y := "bars") rfl sc_deeper.nd rfl rfl (sw_true rfl rfl rfl (by decide +kernel)) (by first | exact blkOk_by (N := ["channel", "digging", "bars", "depth", "bar", "more"]) (sc := defScope s_deeper) (by decide +kernel) | exact blkOk_by (N := ["channel", "digging", "bars", "depth", "bar", "more"]) (sc := relS _ (defScope s_deeper)) (by decide +kernel)) (by decide) (fun _ _ _ _ _ => pgx_tup2 rfl (pg_name sc_deeper.nd rfl (by first | exact Or.inl rfl | exact Or.inr rfl)) (pg_name sc_deeper.nd rfl (by first | exact Or.inl rfl | exact Or.inr rfl))) ?_)
local macro_rules | `(tactic| walk_at "lc depth") => `(tactic| refine de_lc (t := .name 3) (own := [("depth", 3)]) rfl sc_deeper.nd (by first | exact blkOk_by (N := ["channel", "digging", "bars", "depth", "bar", "more"]) (sc := defScope s_deeper) (by decide +kernel) | exact blkOk_by (N := ["channel", "digging", "bars", "depth", "bar", "more"]) (sc := relS _ (defScope s_deeper)) (by decide +kernel)) (by decide) (fun _ _ _ _ _ => pgx_name sc_deeper.nd rfl (by first | exact Or.inl rfl | exact Or.inr rfl)) ?_)

theorem kn_deeper (D : HasDef K mg "deeper" s_deeper ["channel", "digging"]) (B : Bl mg) : Knows P w K mg base 1 "deeper" cDeeper := by
  refine knows_mk D sc_deeper (fun _ _ _ ⟨_, _, e, _⟩ => by rw [e]; rfl) (fun f cdv A outer s H E hr svs τ Q hC => ?_)
  obtain ⟨c, g, rfl, hc, hl, q⟩ := hC
  have hb3 := hc.b3
  have ec : chD c = .tuple [.tuple (c.bars.map tI), tI c.legs, tI c.waits] := rfl
  have eg : tI g = .tuple (g.map .int) := rfl
  rw [ec, eg]
  refine db_cons ?_
  walk_at "slc bar more"
  refine di_zip ‹Bl _› rfl ?_
  walk_at "go"
  refine ⟨_, _, .inl ⟨rfl, rfl⟩, ?_⟩
  rw [zip_tI]
  refine lcq_map (c.bars.zip g) (fun p => .tuple [tI p.1, .int p.2]) (fun p => tI (digBar p.1 p.2)) rfl (by rw [List.length_zip]; omega) (fun p hp => ⟨_, rfl, fun D acc hD s H C cl fp => ?_⟩) ?_
  · have hbl := hc.bl _ (List.of_mem_zip hp).1
    obtain ⟨b, m⟩ := p
    have eb : tI b = .tuple (b.map .int) := rfl
    have hbl : 1 ≤ b.length ∧ b.length ≤ 8 := hbl
    rw [eb]
    walk_at "go"
    walk_at "lc depth"
    refine di_tup ?_
    walk_at "go"
    refine lcq_map b .int (fun x => .int (min 6 (x + m))) rfl (by omega) (fun x hx => ⟨_, rfl, fun D acc hD s H C cl fp => ?_⟩) ?_
    · walk_at "go"
      exact ⟨rfl, rfl⟩
    · walk_at "go"
      refine ⟨?_, rfl⟩
      unfold digBar tI
      rw [List.map_map]
      rfl
  · walk_at "go"
    have e : chD (digCh c g) = .tuple [.tuple ((c.bars.zip g).map fun p => tI (digBar p.1 p.2)), tI c.legs, tI c.waits] := by
      unfold chD digCh
      simp only [List.map_map]
      rfl
    rw [e] at q
    exact q
end

section
variable {P : Program} {w : World} {K : PySem.W.Frag} {mg : Str → Option Value} {base : Heap}
def cDug : Ctr := fun svs τ Q => ∃ c g, svs = [.val (chD c), .val (tI g)] ∧ ChOk c ∧ g.length = c.bars.length ∧ (∀ x ∈ g, 0 ≤ x ∧ x ≤ 6) ∧ Q (.val (chD (digCh c g))) τ
abbrev s_dug : Stmt := topS 54
theorem sc_dug : FnScope ["channel", "digging"] ["channel", "digging"] (defScope s_dug) := ⟨rfl, rfl, rfl, by decide +kernel, rfl, by decide +kernel, by decide +kernel⟩
local macro_rules | `(tactic| walk_at "nm") => `(tactic| first
  | with_reducible refine de_name (x := "channel") 0 (by with_unfolding_all rfl) (by with_unfolding_all first | exact Or.inl rfl | exact Or.inr (Or.inl rfl) | exact Or.inr (Or.inr rfl)) (by with_unfolding_all rfl) ?_ (by with_unfolding_all decide) (by with_unfolding_all decide)
  | with_reducible refine de_name (x := "digging") 1 (by with_unfolding_all rfl) (by with_unfolding_all first | exact Or.inl rfl | exact Or.inr (Or.inl rfl) | exact Or.inr (Or.inr rfl)) (by with_unfolding_all rfl) ?_ (by with_unfolding_all decide) (by with_unfolding_all decide))
local macro_rules | `(tactic| walk_at "st") => `(tactic| first
  | with_reducible refine ds_set (x := "channel") 0 (by with_unfolding_all exact sc_dug.nd) (by with_unfolding_all rfl) (by with_unfolding_all first | exact Or.inl rfl | exact Or.inr rfl) ?_ (by with_unfolding_all rfl) (by with_unfolding_all first | exact .inl rfl | exact .inr rfl)
  | with_reducible refine ds_set (x := "digging") 1 (by with_unfolding_all exact sc_dug.nd) (by with_unfolding_all rfl) (by with_unfolding_all first | exact Or.inl rfl | exact Or.inr rfl) ?_ (by with_unfolding_all rfl) (by with_unfolding_all first | exact .inl rfl | exact .inr rfl))



theorem kn_dug (D : HasDef K mg "dug" s_dug ["channel", "digging"]) (B : Bl mg) (k1 : Knows P w K mg base 4 "check_channel" cChk) (k2 : Knows P w K mg base 2 "are_between" cAre) (k3 : Knows P w K mg base 1 "deeper" cDeeper) : Knows P w K mg base 5 "dug" cDug := by
  refine knows_mk D sc_dug (fun _ _ _ ⟨_, _, e, _⟩ => by rw [e]; rfl) (fun f cdv A outer s H E hr svs τ Q hC => ?_)
  obtain ⟨c, g, rfl, hc, hl, hg, q⟩ := hC
  have hb3 := hc.b3
  have ec : chD c = .tuple [.tuple (c.bars.map tI), tI c.legs, tI c.waits] := rfl
  walk_at "go"
  refine ⟨c, rfl, hc, ?_⟩
  rw [ec]
  walk_at "go"
  refine ⟨_, _, _, _, rfl, ?_, true, ?_, ?_⟩
  · show (g.map PyData.int).length ≤ 100000
    rw [List.length_map]; omega
  · rw [areBetween_tI g _ 0 6 (by rw [List.length_map]; omega) hg]
  · walk_at "go"
    exact ⟨c, g, rfl, hc, hl, q⟩
end

/-! ### the least digging -/
def astr (o : Bool) : Str := if o = true then "once" else "always"
def serves (c : Chan) (d : Int) (o : Bool) : Bool := if o = true then !(hoursOf c d).isEmpty else decide ((hoursOf c d).length = periodOf c)
theorem eqs_oo : PyData.eqv (.str "once") (.str "once") = true := by decide +kernel
theorem eqs_ao : PyData.eqv (.str "always") (.str "once") = false := by decide +kernel
theorem eqs_oa : PyData.eqv (.str "once") (.str "always") = false := by decide +kernel
theorem eqs_aa : PyData.eqv (.str "always") (.str "always") = true := by decide +kernel
theorem eq_once {K : PySem.W.Frag} {τ : Store} {Q : MV → Store → Prop} {neg o : Bool} (q : Q (.val (.bool (bneg neg o))) τ) : EqD K neg (.val (.str (astr o))) (.val (.str "once")) τ Q := by
  refine eq_dat rfl rfl (by cases o <;> decide +kernel) (by decide +kernel) ?_
  cases o with
  | true =>
    show Q (.val (.bool (bneg neg (PyData.eqv (.str "once") (.str "once"))))) τ
    rw [eqs_oo]
    exact q
  | false =>
    show Q (.val (.bool (bneg neg (PyData.eqv (.str "always") (.str "once"))))) τ
    rw [eqs_ao]
    exact q
theorem in_aims {K : PySem.W.Frag} {τ : Store} {Q : MV → Store → Prop} {neg o : Bool} (q : Q (.val (.bool (bneg neg true))) τ) : InD K neg (.val (.str (astr o))) (.val (.tuple [.str "once", .str "always"])) τ Q := by
  refine in_datT rfl rfl (by cases o <;> decide +kernel) (by decide +kernel) ?_
  have e : ([PyData.str "once", .str "always"].any fun z => PyData.eqv z (.str (astr o))) = true := by
    cases o with
    | true =>
      show (PyData.eqv (.str "once") (.str "once") || _) = true
      rw [eqs_oo]
      rfl
    | false =>
      show (PyData.eqv (.str "once") (.str "always") || (PyData.eqv (.str "always") (.str "always") || false)) = true
      rw [eqs_aa, Bool.true_or, Bool.or_true]
  rw [e]
  exact q
theorem serves_any {c : Chan} (hc : ChOk c) (d : Int) : ((List.range (periodOf c)).map fun h => isOut c d (h : Nat)).any id = serves c d true := by
  show _ = !(hoursOf c d).isEmpty
  rw [List.any_map]
  unfold hoursOf
  rw [List.isEmpty_map]
  apply Bool.eq_iff_iff.mpr
  rw [List.any_eq_true]
  constructor
  · rintro ⟨h, hh, ho⟩
    cases e : (List.range (periodOf c)).filter fun h => isOut c d (h : Nat) with
    | nil =>
      have := List.filter_eq_nil_iff.mp e h hh
      exact absurd ho this
    | cons _ _ => rfl
  · intro h
    cases e : (List.range (periodOf c)).filter fun h => isOut c d (h : Nat) with
    | nil => rw [e] at h; cases h
    | cons x xs =>
      have hx : x ∈ (List.range (periodOf c)).filter fun h => isOut c d (h : Nat) := by rw [e]; exact List.mem_cons_self
      obtain ⟨h1, h2⟩ := List.mem_filter.mp hx
      exact ⟨x, h1, h2⟩
theorem serves_all {c : Chan} (hc : ChOk c) (d : Int) : ((List.range (periodOf c)).map fun h => isOut c d (h : Nat)).all id = serves c d false := by
  show _ = decide ((hoursOf c d).length = periodOf c)
  rw [List.all_map]
  apply Bool.eq_iff_iff.mpr
  rw [decide_eq_true_iff, full_iff hc, List.all_eq_true]
  constructor
  · intro h x
    have hp := period_pos hc
    have r0 := Int.emod_nonneg x (show (periodOf c : Int) ≠ 0 by omega)
    have r1 := Int.emod_lt_of_pos x (show (0 : Int) < periodOf c by omega)
    have := h (x % (periodOf c : Int)).toNat (List.mem_range.mpr (by omega))
    rw [← isOut_mod hc]
    rw [show x % (periodOf c : Int) = ((x % (periodOf c : Int)).toNat : Nat) from by omega]
    exact this
  · exact fun h x _ => h _
/-- all diggings of n bars, ascending -/
def digs : Nat → List (List Int)
  | 0 => [[]]
  | n + 1 => (digs n).flatMap fun r => (List.range 7).map fun m => r ++ [((m : Nat) : Int)]
theorem mem_digs : ∀ {n : Nat} {r : List Int}, r ∈ digs n ↔ r.length = n ∧ ∀ x ∈ r, 0 ≤ x ∧ x ≤ 6
  | 0, r => by
    show r ∈ [[]] ↔ _
    rw [List.mem_singleton]
    constructor
    · rintro rfl
      exact ⟨rfl, fun x hx => by cases hx⟩
    · exact fun h => List.length_eq_zero_iff.mp h.1
  | n + 1, r => by
    show r ∈ (digs n).flatMap _ ↔ _
    rw [List.mem_flatMap]
    constructor
    · rintro ⟨q, hq, hm⟩
      obtain ⟨m, hm', rfl⟩ := List.mem_map.mp hm
      have hm' := List.mem_range.mp hm'
      obtain ⟨h1, h2⟩ := mem_digs.mp hq
      refine ⟨by rw [List.length_append, h1]; rfl, fun x hx => ?_⟩
      rcases List.mem_append.mp hx with hx | hx
      · exact h2 x hx
      · rw [List.mem_singleton.mp hx]
        omega
    · rintro ⟨h1, h2⟩
      have hne : r ≠ [] := fun z => by rw [z] at h1; simp at h1
      have e := List.dropLast_concat_getLast hne
      have hl := h2 _ (List.getLast_mem hne)
      refine ⟨r.dropLast, mem_digs.mpr ⟨by rw [List.length_dropLast]; omega, fun x hx => h2 x (List.dropLast_subset _ hx)⟩, List.mem_map.mpr ⟨(r.getLast hne).toNat, List.mem_range.mpr (by omega), ?_⟩⟩
      rw [show (((r.getLast hne).toNat : Nat) : Int) = r.getLast hne from by omega]
      exact e
theorem digs_len : ∀ n, (digs n).length = 7 ^ n
  | 0 => rfl
  | n + 1 => by
    show ((digs n).flatMap _).length = _
    rw [List.length_flatMap]
    have : (digs n).map (fun r => ((List.range 7).map fun m => r ++ [((m : Nat) : Int)]).length) = List.replicate (digs n).length 7 := by
      rw [List.eq_replicate_iff]
      refine ⟨by rw [List.length_map], fun x hx => ?_⟩
      obtain ⟨r, _, rfl⟩ := List.mem_map.mp hx
      rw [List.length_map, List.length_range]
    have rs : ∀ k : Nat, (List.replicate k 7).sum = k * 7 := fun k => by
      induction k with
      | zero => rfl
      | succ k ih => rw [List.replicate_succ, List.sum_cons, ih]; omega
    rw [this, rs, digs_len n, Nat.pow_succ]
theorem digs_len3 {n : Nat} (h : n ≤ 3) : (digs n).length ≤ 343 := by
  rw [digs_len]
  have : n = 0 ∨ n = 1 ∨ n = 2 ∨ n = 3 := by omega
  rcases this with rfl | rfl | rfl | rfl <;> decide
def sumD (r : List Int) : PyData := .tuple [.int r.sum, tI r]
theorem pl_sumD (r : List Int) : Pl 2 (sumD r) := fun x hx => by
  simp only [List.mem_cons, List.not_mem_nil, or_false] at hx
  rcases hx with rfl | rfl
  · trivial
  · exact pl_tI r
theorem alike_sumD (r q : List Int) : PySem.W.alike (sumD r) (sumD q) = true := by
  unfold sumD
  rw [PySem.W.alike, PySem.W.alikeAll, PySem.W.alikeAll, PySem.W.alike, alike_tI, PySem.W.alikeAll]
  rfl
theorem dig_six {c : Chan} (hc : ChOk c) {d : Int} (hd : d ≤ 6) (x : Int) : isOut (digCh c (List.replicate c.bars.length 6)) d x = true := by
  have hb1 := hc.b1
  have hl : (List.replicate c.bars.length (6 : Int)).length = c.bars.length := List.length_replicate
  refine out_more (c := c) (d := 0) (dig_len hl) rfl rfl (fun j hj y _ => ?_) (out_zero hc (Int.le_refl 0) x)
  rw [depth_dig hc hl (by omega), List.getD_eq_getElem?_getD, List.getElem?_replicate, if_pos (by omega)]
  have := (depth_low hc (j := j) (by omega) y).1
  show d ≤ min 6 (depthOf c j y + 6)
  omega
theorem serves_six {c : Chan} (hc : ChOk c) {d : Int} (hd : d ≤ 6) (o : Bool) : serves (digCh c (List.replicate c.bars.length 6)) d o = true := by
  have hl : (List.replicate c.bars.length (6 : Int)).length = c.bars.length := List.length_replicate
  have hk : ChOk (digCh c (List.replicate c.bars.length 6)) := hc.dig hl fun x hx => by rw [(List.mem_replicate.mp hx).2]; exact ⟨by decide, by decide⟩
  have hall := (full_iff hk (d := d)).mpr fun x => dig_six hc hd x
  have hp := period_pos hk
  cases o with
  | true =>
    show (!(hoursOf _ d).isEmpty) = true
    cases e : hoursOf (digCh c (List.replicate c.bars.length 6)) d with
    | nil => rw [e] at hall; simp at hall; omega
    | cons _ _ => rfl
  | false => exact decide_eq_true hall
section
variable {P : Program} {w : World} {K : PySem.W.Frag} {mg : Str → Option Value} {base : Heap}
def cEnough : Ctr := fun svs τ Q => ∃ c, ∃ d : Int, ∃ o : Bool, svs = [.val (chD c), .val (.int d), .val (.str (astr o))] ∧ ChOk c ∧ Q (.val (.bool (serves c d o))) τ
abbrev s_is_enough : Stmt := topS 55
theorem sc_is_enough : FnScope ["channel", "draught", "aim", "some", "hour"] ["channel", "draught", "aim"] (defScope s_is_enough) := ⟨rfl, rfl, rfl, by decide +kernel, rfl, by decide +kernel, by decide +kernel⟩
local macro_rules | `(tactic| walk_at "nm") => `(tactic| first
  | with_reducible refine de_name (x := "channel") 0 (by with_unfolding_all rfl) (by with_unfolding_all first | exact Or.inl rfl | exact Or.inr (Or.inl rfl) | exact Or.inr (Or.inr rfl)) (by with_unfolding_all rfl) ?_ (by with_unfolding_all decide) (by with_unfolding_all decide)
  | with_reducible refine de_name (x := "draught") 1 (by with_unfolding_all rfl) (by with_unfolding_all first | exact Or.inl rfl | exact Or.inr (Or.inl rfl) | exact Or.inr (Or.inr rfl)) (by with_unfolding_all rfl) ?_ (by with_unfolding_all decide) (by with_unfolding_all decide)
  | with_reducible refine de_name (x := "aim") 2 (by with_unfolding_all rfl) (by with_unfolding_all first | exact Or.inl rfl | exact Or.inr (Or.inl rfl) | exact Or.inr (Or.inr rfl)) (by with_unfolding_all rfl) ?_ (by with_unfolding_all decide) (by with_unfolding_all decide)
  | with_reducible refine de_name (x := "some") 3 (by with_unfolding_all rfl) (by with_unfolding_all first | exact Or.inl rfl | exact Or.inr (Or.inl rfl) | exact Or.inr (Or.inr rfl)) (by with_unfolding_all rfl) ?_ (by with_unfolding_all decide) (by with_unfolding_all decide)
  | with_reducible refine de_name (x := "hour") 4 (by with_unfolding_all rfl) (by with_unfolding_all first | exact Or.inl rfl | exact Or.inr (Or.inl rfl) | exact Or.inr (Or.inr rfl)) (by with_unfolding_all rfl) ?_ (by with_unfolding_all decide) (by with_unfolding_all decide))
local macro_rules | `(tactic| walk_at "st") => `(tactic| first
  | with_reducible refine ds_set (x := "channel") 0 (by with_unfolding_all exact sc_is_enough.nd) (by with_unfolding_all rfl) (by with_unfolding_all first | exact Or.inl rfl | exact Or.inr rfl) ?_ (by with_unfolding_all rfl) (by with_unfolding_all first | exact .inl rfl | exact .inr rfl)
  | with_reducible refine ds_set (x := "draught") 1 (by with_unfolding_all exact sc_is_enough.nd) (by with_unfolding_all rfl) (by with_unfolding_all first | exact Or.inl rfl | exact Or.inr rfl) ?_ (by with_unfolding_all rfl) (by with_unfolding_all first | exact .inl rfl | exact .inr rfl)
  | with_reducible refine ds_set (x := "aim") 2 (by with_unfolding_all exact sc_is_enough.nd) (by with_unfolding_all rfl) (by with_unfolding_all first | exact Or.inl rfl | exact Or.inr rfl) ?_ (by with_unfolding_all rfl) (by with_unfolding_all first | exact .inl rfl | exact .inr rfl)
  | with_reducible refine ds_set (x := "some") 3 (by with_unfolding_all exact sc_is_enough.nd) (by with_unfolding_all rfl) (by with_unfolding_all first | exact Or.inl rfl | exact Or.inr rfl) ?_ (by with_unfolding_all rfl) (by with_unfolding_all first | exact .inl rfl | exact .inr rfl)
  | with_reducible refine ds_set (x := "hour") 4 (by with_unfolding_all exact sc_is_enough.nd) (by with_unfolding_all rfl) (by with_unfolding_all first | exact Or.inl rfl | exact Or.inr rfl) ?_ (by with_unfolding_all rfl) (by with_unfolding_all first | exact .inl rfl | exact .inr rfl))

local macro_rules | `(tactic| walk_at "lc hour") => `(tactic| refine de_lc (t := .name 4) (own := [("hour", 4)]) rfl sc_is_enough.nd (by first | exact blkOk_by (N := ["channel", "draught", "aim", "some", "hour"]) (sc := defScope s_is_enough) (by decide +kernel) | exact blkOk_by (N := ["channel", "draught", "aim", "some", "hour"]) (sc := relS _ (defScope s_is_enough)) (by decide +kernel)) (by decide) (fun _ _ _ _ _ => pgx_name sc_is_enough.nd rfl (by first | exact Or.inl rfl | exact Or.inr rfl)) ?_)
local macro_rules | `(tactic| walk_at "slc hour") => `(tactic| first
  | refine ds_setLc (t := .name 4) (own := [("hour", 4)]) 3 (y := "some") rfl sc_is_enough.nd rfl rfl (sw_true rfl rfl rfl (by decide +kernel)) (by first | exact blkOk_by (N := ["channel", "draught", "aim", "some", "hour"]) (sc := defScope s_is_enough) (by decide +kernel) | exact blkOk_by (N := ["channel", "draught", "aim", "some", "hour"]) (sc := relS _ (defScope s_is_enough)) (by decide +kernel)) (by decide) (fun _ _ _ _ _ => pgx_name sc_is_enough.nd rfl (by first | exact Or.inl rfl | exact Or.inr rfl)) ?_)

theorem kn_is_enough (D : HasDef K mg "is_enough" s_is_enough ["channel", "draught", "aim"]) (B : Bl mg) (k1 : Knows P w K mg base 2 "period_of" cPer) (k2 : Knows P w K mg base 3 "is_out" cIsOut) : Knows P w K mg base 4 "is_enough" cEnough := by
  refine knows_mk D sc_is_enough (fun _ _ _ ⟨_, _, _, e, _⟩ => by rw [e]; rfl) (fun f cdv A outer s H E hr svs τ Q hC => ?_)
  obtain ⟨c, d, o, rfl, hc, q⟩ := hC
  have hp2 := period_le hc
  refine db_seq (fun ρ' τ' => τ' = τ ∧ ρ' = [some (.val (chD c)), some (.val (.int d)), some (.val (.str (astr o))), some (.val (.list (((List.range (periodOf c)).map fun h => isOut c d (h : Nat)).map .bool))), none]) ?_ ?_
  · walk_at "slc hour"
    refine di_range1 ‹Bl _› rfl ?_
    walk_at "go"
    refine ⟨c, rfl, hc, _, rfl, by omega, by omega, ?_⟩
    refine lcq_map (List.range (periodOf c)) (fun m => .int (0 + (m : Nat))) (fun h => .bool (isOut c d (h : Nat))) rfl (by rw [List.length_range]; omega) (fun m hm => ⟨_, rfl, fun D acc hD s H C cl fp => ?_⟩) ?_
    · walk_at "go"
      rw [Int.zero_add]
      exact ⟨c, d, _, rfl, hc, rfl, rfl⟩
    · refine ⟨rfl, ?_⟩
      rw [List.map_map]
      rfl
  rintro ρ' τ' ⟨rfl, rfl⟩
  have ha := serves_any hc d
  have hb := serves_all hc d
  generalize ((List.range (periodOf c)).map fun h => isOut c d (h : Nat)) = bs at ha hb ⊢
  walk_at "db"
  walk_at "ds"
  refine de_ifexp ?_
  refine dt_eq (Room.units ‹Room _ _›) ?_
  walk_at "nm"
  walk_at "go"
  refine eq_once ?_
  refine ⟨_, rfl, ?_⟩
  cases o with
  | true =>
    walk_at "go"
    rw [ha]
    exact q
  | false =>
    walk_at "go"
    rw [hb]
    exact q
end

section
variable {P : Program} {w : World} {K : PySem.W.Frag} {mg : Str → Option Value} {base : Heap}
theorem digs_ext (xs : List (List Int)) : (xs.flatMap fun x => ((List.range 7).filter fun _ => true).map fun (m : Nat) => tI (x ++ [((m : Nat) : Int)])) = (xs.flatMap fun r => (List.range 7).map fun m => r ++ [((m : Nat) : Int)]).map tI := by
  rw [List.map_flatMap]
  refine congrArg (fun g => xs.flatMap g) (funext fun x => ?_)
  rw [List.map_map, List.filter_eq_self.mpr (fun _ _ => rfl)]
  rfl
structure IsLeastDig (c : Chan) (d : Int) (o : Bool) (z : List Int) : Prop where
  mem : z ∈ digs c.bars.length
  ok : serves (digCh c z) d o = true
  least : ∀ y ∈ digs c.bars.length, PySem.W.dataLt (sumD y) (sumD z) = true → serves (digCh c y) d o = false
def cLeast : Ctr := fun svs τ Q => ∃ c, ∃ d : Int, ∃ o : Bool, svs = [.val (chD c), .val (.int d), .val (.str (astr o))] ∧ ChOk c ∧ 0 ≤ d ∧ d ≤ 6 ∧ ∀ z, IsLeastDig c d o z → Q (.val (tI z)) τ
abbrev s_least_digging : Stmt := topS 56
theorem sc_least_digging : FnScope ["channel", "draught", "aim", "rows", "bar", "row", "more", "total"] ["channel", "draught", "aim"] (defScope s_least_digging) := ⟨rfl, rfl, rfl, by decide +kernel, rfl, by decide +kernel, by decide +kernel⟩
local macro_rules | `(tactic| walk_at "nm") => `(tactic| first
  | with_reducible refine de_name (x := "channel") 0 (by with_unfolding_all rfl) (by with_unfolding_all first | exact Or.inl rfl | exact Or.inr (Or.inl rfl) | exact Or.inr (Or.inr rfl)) (by with_unfolding_all rfl) ?_ (by with_unfolding_all decide) (by with_unfolding_all decide)
  | with_reducible refine de_name (x := "draught") 1 (by with_unfolding_all rfl) (by with_unfolding_all first | exact Or.inl rfl | exact Or.inr (Or.inl rfl) | exact Or.inr (Or.inr rfl)) (by with_unfolding_all rfl) ?_ (by with_unfolding_all decide) (by with_unfolding_all decide)
  | with_reducible refine de_name (x := "aim") 2 (by with_unfolding_all rfl) (by with_unfolding_all first | exact Or.inl rfl | exact Or.inr (Or.inl rfl) | exact Or.inr (Or.inr rfl)) (by with_unfolding_all rfl) ?_ (by with_unfolding_all decide) (by with_unfolding_all decide)
  | with_reducible refine de_name (x := "rows") 3 (by with_unfolding_all rfl) (by with_unfolding_all first | exact Or.inl rfl | exact Or.inr (Or.inl rfl) | exact Or.inr (Or.inr rfl)) (by with_unfolding_all rfl) ?_ (by with_unfolding_all decide) (by with_unfolding_all decide)
  | with_reducible refine de_name (x := "bar") 4 (by with_unfolding_all rfl) (by with_unfolding_all first | exact Or.inl rfl | exact Or.inr (Or.inl rfl) | exact Or.inr (Or.inr rfl)) (by with_unfolding_all rfl) ?_ (by with_unfolding_all decide) (by with_unfolding_all decide)
  | with_reducible refine de_name (x := "row") 5 (by with_unfolding_all rfl) (by with_unfolding_all first | exact Or.inl rfl | exact Or.inr (Or.inl rfl) | exact Or.inr (Or.inr rfl)) (by with_unfolding_all rfl) ?_ (by with_unfolding_all decide) (by with_unfolding_all decide)
  | with_reducible refine de_name (x := "more") 6 (by with_unfolding_all rfl) (by with_unfolding_all first | exact Or.inl rfl | exact Or.inr (Or.inl rfl) | exact Or.inr (Or.inr rfl)) (by with_unfolding_all rfl) ?_ (by with_unfolding_all decide) (by with_unfolding_all decide)
  | with_reducible refine de_name (x := "total") 7 (by with_unfolding_all rfl) (by with_unfolding_all first | exact Or.inl rfl | exact Or.inr (Or.inl rfl) | exact Or.inr (Or.inr rfl)) (by with_unfolding_all rfl) ?_ (by with_unfolding_all decide) (by with_unfolding_all decide))
local macro_rules | `(tactic| walk_at "st") => `(tactic| first
  | with_reducible refine ds_set (x := "channel") 0 (by with_unfolding_all exact sc_least_digging.nd) (by with_unfolding_all rfl) (by with_unfolding_all first | exact Or.inl rfl | exact Or.inr rfl) ?_ (by with_unfolding_all rfl) (by with_unfolding_all first | exact .inl rfl | exact .inr rfl)
  | with_reducible refine ds_set (x := "draught") 1 (by with_unfolding_all exact sc_least_digging.nd) (by with_unfolding_all rfl) (by with_unfolding_all first | exact Or.inl rfl | exact Or.inr rfl) ?_ (by with_unfolding_all rfl) (by with_unfolding_all first | exact .inl rfl | exact .inr rfl)
  | with_reducible refine ds_set (x := "aim") 2 (by with_unfolding_all exact sc_least_digging.nd) (by with_unfolding_all rfl) (by with_unfolding_all first | exact Or.inl rfl | exact Or.inr rfl) ?_ (by with_unfolding_all rfl) (by with_unfolding_all first | exact .inl rfl | exact .inr rfl)
  | with_reducible refine ds_set (x := "rows") 3 (by with_unfolding_all exact sc_least_digging.nd) (by with_unfolding_all rfl) (by with_unfolding_all first | exact Or.inl rfl | exact Or.inr rfl) ?_ (by with_unfolding_all rfl) (by with_unfolding_all first | exact .inl rfl | exact .inr rfl)
  | with_reducible refine ds_set (x := "bar") 4 (by with_unfolding_all exact sc_least_digging.nd) (by with_unfolding_all rfl) (by with_unfolding_all first | exact Or.inl rfl | exact Or.inr rfl) ?_ (by with_unfolding_all rfl) (by with_unfolding_all first | exact .inl rfl | exact .inr rfl)
  | with_reducible refine ds_set (x := "row") 5 (by with_unfolding_all exact sc_least_digging.nd) (by with_unfolding_all rfl) (by with_unfolding_all first | exact Or.inl rfl | exact Or.inr rfl) ?_ (by with_unfolding_all rfl) (by with_unfolding_all first | exact .inl rfl | exact .inr rfl)
  | with_reducible refine ds_set (x := "more") 6 (by with_unfolding_all exact sc_least_digging.nd) (by with_unfolding_all rfl) (by with_unfolding_all first | exact Or.inl rfl | exact Or.inr rfl) ?_ (by with_unfolding_all rfl) (by with_unfolding_all first | exact .inl rfl | exact .inr rfl)
  | with_reducible refine ds_set (x := "total") 7 (by with_unfolding_all exact sc_least_digging.nd) (by with_unfolding_all rfl) (by with_unfolding_all first | exact Or.inl rfl | exact Or.inr rfl) ?_ (by with_unfolding_all rfl) (by with_unfolding_all first | exact .inl rfl | exact .inr rfl))

local macro_rules | `(tactic| walk_at "lc row / more") => `(tactic| refine de_lc2 (t := .name 5) (t1 := .name 6) (own := [("row", 5), ("more", 6)]) (vs1 := [6]) rfl sc_least_digging.nd (by first | exact blkOk_by (N := ["channel", "draught", "aim", "rows", "bar", "row", "more", "total"]) (sc := defScope s_least_digging) (by decide +kernel) | exact blkOk_by (N := ["channel", "draught", "aim", "rows", "bar", "row", "more", "total"]) (sc := relS _ (defScope s_least_digging)) (by decide +kernel)) (by decide) (by decide) (by decide) (fun _ _ _ _ _ => pgx_name sc_least_digging.nd rfl (by first | exact Or.inl rfl | exact Or.inr rfl)) (fun _ _ _ _ _ => pgx_name sc_least_digging.nd rfl (by first | exact Or.inl rfl | exact Or.inr rfl)) ?_)
local macro_rules | `(tactic| walk_at "slc row / more") => `(tactic| first
  | refine ds_setLc2 (t := .name 5) (t1 := .name 6) (own := [("row", 5), ("more", 6)]) (vs1 := [6]) 3 (y := "rows") rfl sc_least_digging.nd rfl rfl (sw_true rfl rfl rfl (by decide +kernel)) (by first | exact blkOk_by (N := ["channel", "draught", "aim", "rows", "bar", "row", "more", "total"]) (sc := defScope s_least_digging) (by decide +kernel) | exact blkOk_by (N := ["channel", "draught", "aim", "rows", "bar", "row", "more", "total"]) (sc := relS _ (defScope s_least_digging)) (by decide +kernel)) (by decide) (by decide) (by decide) (fun _ _ _ _ _ => pgx_name sc_least_digging.nd rfl (by first | exact Or.inl rfl | exact Or.inr rfl)) (fun _ _ _ _ _ => pgx_name sc_least_digging.nd rfl (by first | exact Or.inl rfl | exact Or.inr rfl)) ?_)
local macro_rules | `(tactic| walk_at "lc row") => `(tactic| refine de_lc (t := .name 5) (own := [("row", 5)]) rfl sc_least_digging.nd (by first | exact blkOk_by (N := ["channel", "draught", "aim", "rows", "bar", "row", "more", "total"]) (sc := defScope s_least_digging) (by decide +kernel) | exact blkOk_by (N := ["channel", "draught", "aim", "rows", "bar", "row", "more", "total"]) (sc := relS _ (defScope s_least_digging)) (by decide +kernel)) (by decide) (fun _ _ _ _ _ => pgx_name sc_least_digging.nd rfl (by first | exact Or.inl rfl | exact Or.inr rfl)) ?_)

theorem kn_least_digging (D : HasDef K mg "least_digging" s_least_digging ["channel", "draught", "aim"]) (B : Bl mg) (k1 : Knows P w K mg base 4 "check_channel" cChk) (k2 : Knows P w K mg base 2 "check_draught" (cChkI 0 6)) (k3 : Knows P w K mg base 4 "is_enough" cEnough) (k4 : Knows P w K mg base 1 "deeper" cDeeper) : Knows P w K mg base 5 "least_digging" cLeast := by
  refine knows_mk D sc_least_digging (fun _ _ _ ⟨_, _, _, e, _⟩ => by rw [e]; rfl) (fun f cdv A outer sh H E hr svs τ Q hC => ?_)
  obtain ⟨c, d, o, rfl, hc, d0, d1, q⟩ := hC
  have hb1 := hc.b1
  have hb3 := hc.b3
  have hdl := digs_len3 hb3
  have ec : chD c = .tuple [.tuple (c.bars.map tI), tI c.legs, tI c.waits] := rfl
  walk_at "go"
  refine ⟨c, rfl, hc, ?_⟩
  walk_at "go"
  refine ⟨d, rfl, d0, d1, ?_⟩
  walk_at "go"
  refine in_aims ?_
  walk_at "go"
  refine ds_cut (fun ρ' τ' => τ' = τ ∧ ∃ v4 v5 v6, ρ' = [some (.val (chD c)), some (.val (.int d)), some (.val (.str (astr o))), some (.val (rowsD (digs c.bars.length))), v4, v5, v6, none]) ?_ ?_
  · refine ds_for (t := .name 4) rfl PassesOwn.never (pgx_name sc_least_digging.nd rfl (by first | exact Or.inl rfl | exact Or.inr rfl)) (di_tup ?_)
    rw [ec]
    walk_at "go"
    refine ⟨fun i ρ' τ' => τ' = τ ∧ ∃ v4 v5 v6, ρ' = [some (.val (chD c)), some (.val (.int d)), some (.val (.str (astr o))), some (.val (rowsD (digs i))), v4, v5, v6, none], ⟨rfl, none, none, none, rfl⟩, fun _ _ _ _ => trivial, ?_, ?_⟩
    · rintro i dd ρ' τ' hd ⟨rfl, v4, v5, v6, rfl⟩
      obtain ⟨b, hb, rfl⟩ := map_get hd
      have hi := (List.getElem?_eq_some_iff.mp hb).1
      have hlen := digs_len3 (n := i) (by omega)
      have hlen2 := digs_len3 (n := i + 1) (by omega)
      refine ⟨_, rfl, ?_⟩
      refine db_one ?_
      walk_at "slc row / more"
      refine di_lst ?_
      walk_at "go"
      refine lc2q_of (digs i) tI rfl (fun _ => List.range 7) (fun m => .int (0 + (m : Nat))) (fun _ _ => true) (fun row m => tI (row ++ [((m : Nat) : Int)])) ?_ ?_ ?_
      · rw [digs_ext, List.length_map]
        show (digs (i + 1)).length ≤ _
        omega
      · intro row hrow
        have hrl := (mem_digs.mp hrow).1
        refine ⟨_, rfl, fun D acc hD => ⟨fun s H C cl fp => df_nil ⟨rfl, rfl⟩, fun s H C cl fp => ?_, fun m hm => ⟨_, rfl, fun acc => ⟨fun s H C cl fp => df_nil ⟨rfl, rfl⟩, fun _ s H C cl fp => ?_⟩⟩⟩⟩
        · refine di_range1 ‹Bl _› rfl ?_
          walk_at "go"
          exact ⟨by decide, by decide, rfl, rfl, fun _ => trivial⟩
        · have eR : tI row = .tuple (row.map .int) := rfl
          rw [eR]
          walk_at "go"
          refine plus_tup (by simp; omega) ?_
          refine ⟨?_, rfl⟩
          rw [Int.zero_add]
          unfold tI
          rw [List.map_append]
          rfl
      · rw [digs_ext]
        exact ⟨rfl, some (.val (tI b)), v5, v6, rfl⟩
    · rintro ρ' τ' ⟨rfl, v4, v5, v6, rfl⟩
      rw [List.length_map]
      exact ⟨rfl, _, _, _, rfl⟩
  rintro ρ' τ' ⟨rfl, v4, v5, v6, rfl⟩
  walk_at "db"
  refine ds_for (t := .tup [7, 5]) rfl PassesOwn.never (pgx_tup2 rfl (pg_name sc_least_digging.nd rfl (by first | exact Or.inl rfl | exact Or.inr rfl)) (pg_name sc_least_digging.nd rfl (by first | exact Or.inl rfl | exact Or.inr rfl))) (di_lst ?_)
  refine de_sortedD (n := 2) ‹Bl _› (Room.units ‹Room _ _›) rfl ?_
  walk_at "lc row"
  refine di_lst ?_
  walk_at "go"
  refine lcq_map (digs c.bars.length) tI sumD rfl (by omega) (fun r hr => ⟨_, rfl, fun D acc hD s H C cl fp => ?_⟩) ?_
  · have eR : tI r = .tuple (r.map .int) := rfl
    rw [eR]
    walk_at "go"
    refine de_sumT ‹Bl _› rfl rfl ?_
    walk_at "go"
    exact ⟨rfl, rfl⟩
  refine ⟨_, rfl, fun x hx y hy => ?_, .inl fun x hx => ?_, fun x hx => ?_, fun es hperm hasc => ⟨_, rfl, ?_⟩⟩
  · obtain ⟨r, _, rfl⟩ := List.mem_map.mp hx
    obtain ⟨s, _, rfl⟩ := List.mem_map.mp hy
    exact alike_sumD r s
  · obtain ⟨r, _, rfl⟩ := List.mem_map.mp hx
    exact ⟨_, _, rfl⟩
  · obtain ⟨r, _, rfl⟩ := List.mem_map.mp hx
    exact pl_sumD r
  have hmem : ∀ x ∈ es, ∃ r, r ∈ digs c.bars.length ∧ x = sumD r := fun x hx => by
    obtain ⟨r, hr, e⟩ := List.mem_map.mp (hperm.mem_iff.mp hx)
    exact ⟨r, hr, e.symm⟩
  have hin : ∀ r ∈ digs c.bars.length, sumD r ∈ es := fun r hr => hperm.mem_iff.mpr (List.mem_map.mpr ⟨r, hr, rfl⟩)
  have hinj : ∀ {r s : List Int}, sumD r = sumD s → r = s := fun h => by
    unfold sumD at h
    injection h with h
    injection h with _ h
    injection h with h _
    exact tI_inj h
  refine ⟨fun i ρ' τ2 => τ2 = τ' ∧ (∀ r, sumD r ∈ es.take i → serves (digCh c r) d o = false) ∧ ∃ v4 v5 v6 v7, ρ' = [some (.val (chD c)), some (.val (.int d)), some (.val (.str (astr o))), some (.val (rowsD (digs c.bars.length))), v4, v5, v6, v7], ⟨rfl, fun r hr => (by simp at hr), _, _, _, _, rfl⟩, fun _ _ _ _ => trivial, ?_, ?_⟩
  · rintro i dd ρ' τ2 hd ⟨rfl, hno, v4, v5, v6, v7, rfl⟩
    obtain ⟨z, hz, rfl⟩ := hmem dd (List.mem_of_getElem? hd)
    obtain ⟨z1, z2⟩ := mem_digs.mp hz
    refine ⟨_, rfl, ?_⟩
    walk_at "go"
    refine ⟨c, z, rfl, hc, z1, ?_⟩
    walk_at "go"
    refine ⟨digCh c z, d, o, rfl, hc.dig z1 z2, ?_⟩
    refine ⟨_, rfl, fun g => ?_, fun g => ?_⟩
    · walk_at "go"
      refine q z ⟨hz, g, fun y hy hlt => ?_⟩
      obtain ⟨j, hj, ej⟩ := List.getElem_of_mem (hin y hy)
      obtain ⟨hi, ei⟩ := List.getElem?_eq_some_iff.mp hd
      have hji : j < i := Nat.lt_of_not_le fun hle => by
        rcases Nat.lt_or_ge i j with h | h
        · have := List.pairwise_iff_getElem.mp hasc i j hi hj h
          rw [ei, ej, hlt] at this
          cases this
        · have : i = j := by omega
          subst this
          rw [← ej, ei, dlt_irr] at hlt
          cases hlt
      refine hno y ?_
      rw [← ej]
      exact List.mem_iff_getElem.mpr ⟨j, by rw [List.length_take]; omega, by rw [List.getElem_take]⟩
    · walk_at "go"
      refine ⟨rfl, fun r hr => ?_, _, _, _, _, rfl⟩
      rw [List.take_add_one, hd] at hr
      rcases List.mem_append.mp hr with hr | hr
      · exact hno r hr
      · have : sumD r = sumD z := by simpa using hr
        rw [hinj this]
        exact g
  · rintro ρ' τ2 ⟨rfl, hno, v4, v5, v6, v7, rfl⟩
    rw [List.take_length] at hno
    have h6 := hno (List.replicate c.bars.length 6) (hin _ (mem_digs.mpr ⟨List.length_replicate, fun x hx => by rw [(List.mem_replicate.mp hx).2]; exact ⟨by decide, by decide⟩⟩))
    rw [serves_six hc d1] at h6
    cases h6
end

/-! ### pairs of passages -/
def untilL (c : Chan) (d : Int) (n : Nat) : List (List Int) := (List.range n).flatMap fun h => allFrom c d (h : Nat)
theorem untilL_succ {c : Chan} {d : Int} {n : Nat} : untilL c d (n + 1) = untilL c d n ++ allFrom c d (n : Nat) := by
  unfold untilL
  rw [List.range_succ, List.flatMap_append]
  simp
theorem untilL_len {c : Chan} (hc : ChOk c) (d : Int) : ∀ n, (untilL c d n).length ≤ 16 * n
  | 0 => Nat.zero_le _
  | n + 1 => by
    rw [untilL_succ, List.length_append]
    have := untilL_len hc d n
    have := all_len16 hc d (n : Nat)
    omega
theorem mem_until {c : Chan} {d : Int} {n : Nat} {r : List Int} : r ∈ untilL c d n ↔ ∃ h : Nat, h < n ∧ r ∈ allFrom c d (h : Nat) := by
  unfold untilL
  rw [List.mem_flatMap]
  exact ⟨fun ⟨h, a, b⟩ => ⟨h, List.mem_range.mp a, b⟩, fun ⟨h, a, b⟩ => ⟨h, List.mem_range.mpr a, b⟩⟩
theorem until_row {c : Chan} (hc : ChOk c) {d : Int} {n : Nat} {r : List Int} (h : r ∈ untilL c d n) : r.length = c.bars.length ∧ r ≠ [] := by
  obtain ⟨x, _, hr⟩ := mem_until.mp h
  have := row_shape hr
  have hb := hc.b1
  exact ⟨by omega, fun z => by rw [z] at this; simp at this⟩
def absI (x : Int) : Int := if x < 0 then -x else x
def gapAll (g : Int) (a b : List Int) : Bool := (a.zip b).all fun p => decide (g ≤ absI (p.1 - p.2))
def pairF (L1 L2 : List (List Int)) (g : Int) : Option (List Int × List Int) := L1.findSome? fun a => (L2.find? (gapAll g a)).map fun b => (a, b)
def pairOD : Option (List Int × List Int) → PyData
  | none => .none
  | some p => .tuple [tI p.1, tI p.2]
theorem find_at {α : Type} {p : α → Bool} : ∀ {xs : List α} {i : Nat} {x : α}, xs[i]? = some x → (∀ y ∈ xs.take i, p y = false) → p x = true → xs.find? p = some x
  | [], _, _, h, _, _ => by simp at h
  | y :: ys, 0, x, h, _, hp => by
    simp at h
    subst h
    rw [List.find?_cons_of_pos hp]
  | y :: ys, i + 1, x, h, hn, hp => by
    rw [List.find?_cons_of_neg (by rw [hn y (by simp)]; exact Bool.false_ne_true)]
    exact find_at (i := i) (by simpa using h) (fun z hz => hn z (by rw [List.take_succ_cons]; exact List.mem_cons_of_mem _ hz)) hp
theorem pairF_hit {L2 : List (List Int)} {g : Int} : ∀ {L1 : List (List Int)} {i j : Nat} {a b : List Int}, (∀ a' ∈ L1.take i, ∀ b' ∈ L2, gapAll g a' b' = false) → L1[i]? = some a → (∀ b' ∈ L2.take j, gapAll g a b' = false) → L2[j]? = some b → gapAll g a b = true → pairF L1 L2 g = some (a, b)
  | [], _, _, _, _, _, h, _, _, _ => by simp at h
  | y :: ys, 0, j, a, b, _, h, h2, h3, h4 => by
    simp at h
    subst h
    unfold pairF
    rw [List.findSome?_cons, find_at h3 h2 h4]
    rfl
  | y :: ys, i + 1, j, a, b, h1, h, h2, h3, h4 => by
    have e : L2.find? (gapAll g y) = none := List.find?_eq_none.mpr fun b' hb => by rw [h1 y (by simp) b' hb]; exact Bool.false_ne_true
    unfold pairF
    rw [List.findSome?_cons, e]
    exact pairF_hit (i := i) (fun a' ha => h1 a' (by rw [List.take_succ_cons]; exact List.mem_cons_of_mem _ ha)) (by simpa using h) h2 h3 h4
theorem pairF_miss {L1 L2 : List (List Int)} {g : Int} (h : ∀ a ∈ L1, ∀ b ∈ L2, gapAll g a b = false) : pairF L1 L2 g = none := by
  unfold pairF
  rw [List.findSome?_eq_none_iff]
  intro a ha
  rw [List.find?_eq_none.mpr fun b hb => by rw [h a ha b hb]; exact Bool.false_ne_true]
  rfl
theorem pairF_none {L1 L2 : List (List Int)} {g : Int} (h : pairF L1 L2 g = none) : ∀ a ∈ L1, ∀ b ∈ L2, gapAll g a b = false := by
  unfold pairF at h
  rw [List.findSome?_eq_none_iff] at h
  intro a ha b hb
  have := h a ha
  rw [Option.map_eq_none_iff, List.find?_eq_none] at this
  have := this b hb
  simpa using this
theorem find_idx {α : Type} {p : α → Bool} : ∀ {xs : List α} {x : α}, xs.find? p = some x → ∃ i, xs[i]? = some x ∧ p x = true ∧ ∀ y ∈ xs.take i, p y = false
  | [], _, h => by cases h
  | y :: ys, x, h => by
    cases e : p y with
    | true =>
      rw [List.find?_cons_of_pos e] at h
      cases h
      exact ⟨0, rfl, e, fun z hz => by simp at hz⟩
    | false =>
      rw [List.find?_cons_of_neg (by rw [e]; exact Bool.false_ne_true)] at h
      obtain ⟨i, h1, h2, h3⟩ := find_idx h
      refine ⟨i + 1, by simpa using h1, h2, fun z hz => ?_⟩
      rw [List.take_succ_cons] at hz
      rcases List.mem_cons.mp hz with rfl | hz
      · exact e
      · exact h3 z hz
theorem pairF_idx {L2 : List (List Int)} {g : Int} : ∀ {L1 : List (List Int)} {a b : List Int}, pairF L1 L2 g = some (a, b) → ∃ i j, L1[i]? = some a ∧ L2[j]? = some b ∧ gapAll g a b = true ∧ (∀ a' ∈ L1.take i, ∀ b' ∈ L2, gapAll g a' b' = false) ∧ ∀ b' ∈ L2.take j, gapAll g a b' = false
  | [], _, _, h => by cases h
  | y :: ys, a, b, h => by
    unfold pairF at h
    rw [List.findSome?_cons] at h
    cases e : L2.find? (gapAll g y) with
    | some z =>
      rw [e] at h
      cases h
      obtain ⟨j, h1, h2, h3⟩ := find_idx e
      exact ⟨0, j, rfl, h1, h2, fun a' ha => by simp at ha, h3⟩
    | none =>
      rw [e] at h
      obtain ⟨i, j, h1, h2, h3, h4, h5⟩ := pairF_idx (L1 := ys) h
      refine ⟨i + 1, j, by simpa using h1, h2, h3, fun a' ha b' hb => ?_, h5⟩
      rw [List.take_succ_cons] at ha
      rcases List.mem_cons.mp ha with rfl | ha
      · have := List.find?_eq_none.mp e b' hb
        simpa using this
      · exact h4 a' ha b' hb
theorem zip_ints (a b : List Int) : zipD (a.map .int) (b.map .int) = (a.zip b).map fun p => .tuple [.int p.1, .int p.2] := by
  unfold zipD
  rw [List.zip_map, List.map_map]
  rfl
section
variable {P : Program} {w : World} {K : PySem.W.Frag} {mg : Str → Option Value} {base : Heap}
def cUntil : Ctr := fun svs τ Q => ∃ c, ∃ d e : Int, svs = [.val (chD c), .val (.int d), .val (.int e)] ∧ ChOk c ∧ 0 ≤ e ∧ e ≤ 50 ∧ Q (.val (rowsD (untilL c d (e + 1).toNat))) τ
abbrev s_all_until : Stmt := topS 58
theorem sc_all_until : FnScope ["channel", "draught", "end", "found", "hour"] ["channel", "draught", "end"] (defScope s_all_until) := ⟨rfl, rfl, rfl, by decide +kernel, rfl, by decide +kernel, by decide +kernel⟩
local macro_rules | `(tactic| walk_at "nm") => `(tactic| first
  | with_reducible refine de_name (x := "channel") 0 (by with_unfolding_all rfl) (by with_unfolding_all first | exact Or.inl rfl | exact Or.inr (Or.inl rfl) | exact Or.inr (Or.inr rfl)) (by with_unfolding_all rfl) ?_ (by with_unfolding_all decide) (by with_unfolding_all decide)
  | with_reducible refine de_name (x := "draught") 1 (by with_unfolding_all rfl) (by with_unfolding_all first | exact Or.inl rfl | exact Or.inr (Or.inl rfl) | exact Or.inr (Or.inr rfl)) (by with_unfolding_all rfl) ?_ (by with_unfolding_all decide) (by with_unfolding_all decide)
  | with_reducible refine de_name (x := "end") 2 (by with_unfolding_all rfl) (by with_unfolding_all first | exact Or.inl rfl | exact Or.inr (Or.inl rfl) | exact Or.inr (Or.inr rfl)) (by with_unfolding_all rfl) ?_ (by with_unfolding_all decide) (by with_unfolding_all decide)
  | with_reducible refine de_name (x := "found") 3 (by with_unfolding_all rfl) (by with_unfolding_all first | exact Or.inl rfl | exact Or.inr (Or.inl rfl) | exact Or.inr (Or.inr rfl)) (by with_unfolding_all rfl) ?_ (by with_unfolding_all decide) (by with_unfolding_all decide)
  | with_reducible refine de_name (x := "hour") 4 (by with_unfolding_all rfl) (by with_unfolding_all first | exact Or.inl rfl | exact Or.inr (Or.inl rfl) | exact Or.inr (Or.inr rfl)) (by with_unfolding_all rfl) ?_ (by with_unfolding_all decide) (by with_unfolding_all decide))
local macro_rules | `(tactic| walk_at "st") => `(tactic| first
  | with_reducible refine ds_set (x := "channel") 0 (by with_unfolding_all exact sc_all_until.nd) (by with_unfolding_all rfl) (by with_unfolding_all first | exact Or.inl rfl | exact Or.inr rfl) ?_ (by with_unfolding_all rfl) (by with_unfolding_all first | exact .inl rfl | exact .inr rfl)
  | with_reducible refine ds_set (x := "draught") 1 (by with_unfolding_all exact sc_all_until.nd) (by with_unfolding_all rfl) (by with_unfolding_all first | exact Or.inl rfl | exact Or.inr rfl) ?_ (by with_unfolding_all rfl) (by with_unfolding_all first | exact .inl rfl | exact .inr rfl)
  | with_reducible refine ds_set (x := "end") 2 (by with_unfolding_all exact sc_all_until.nd) (by with_unfolding_all rfl) (by with_unfolding_all first | exact Or.inl rfl | exact Or.inr rfl) ?_ (by with_unfolding_all rfl) (by with_unfolding_all first | exact .inl rfl | exact .inr rfl)
  | with_reducible refine ds_set (x := "found") 3 (by with_unfolding_all exact sc_all_until.nd) (by with_unfolding_all rfl) (by with_unfolding_all first | exact Or.inl rfl | exact Or.inr rfl) ?_ (by with_unfolding_all rfl) (by with_unfolding_all first | exact .inl rfl | exact .inr rfl)
  | with_reducible refine ds_set (x := "hour") 4 (by with_unfolding_all exact sc_all_until.nd) (by with_unfolding_all rfl) (by with_unfolding_all first | exact Or.inl rfl | exact Or.inr rfl) ?_ (by with_unfolding_all rfl) (by with_unfolding_all first | exact .inl rfl | exact .inr rfl))



theorem kn_all_until (D : HasDef K mg "all_until" s_all_until ["channel", "draught", "end"]) (B : Bl mg) (k1 : Knows P w K mg base 2 "all_from" cAllFrom) : Knows P w K mg base 3 "all_until" cUntil := by
  refine knows_mk D sc_all_until (fun _ _ _ ⟨_, _, _, e, _⟩ => by rw [e]; rfl) (fun f cdv A outer s H E hr svs τ Q hC => ?_)
  obtain ⟨c, d, e, rfl, hc, e0, e1, q⟩ := hC
  walk_at "db"
  walk_at "st"
  refine de_lstM ?_
  walk_at "go"
  intro l hl
  refine db_seq (fun ρ' τ' => ∃ v4, τ' = (l, .lst ((untilL c d (e + 1).toNat).map tI)) :: τ ∧ ρ' = [some (.val (chD c)), some (.val (.int d)), some (.val (.int e)), some (.hdl l), v4]) ?_ ?_
  · refine ds_for (t := .name 4) rfl PassesOwn.never (pgx_name sc_all_until.nd rfl (by first | exact Or.inl rfl | exact Or.inr rfl)) (di_range1 ‹Bl _› rfl ?_)
    walk_at "go"
    refine ⟨by omega, by omega, fun i ρ' τ' => ∃ v4, τ' = (l, .lst ((untilL c d i).map tI)) :: τ ∧ ρ' = [some (.val (chD c)), some (.val (.int d)), some (.val (.int e)), some (.hdl l), v4], ⟨none, rfl, rfl⟩, fun _ _ _ _ => trivial, ?_, ?_⟩
    · rintro i dd ρ' τ' hd ⟨v4, rfl, rfl⟩
      have hi : i < (e + 1).toNat := by
        have := (List.getElem?_eq_some_iff.mp hd).1
        rw [rangeD_length] at this
        exact this
      rw [rangeD_get hi, Int.zero_add] at hd
      cases hd
      have h1 := untilL_len hc d i
      have h2 := all_len16 hc d (i : Nat)
      refine ⟨_, rfl, ?_⟩
      refine db_one (ds_expr (de_extend ?_))
      walk_at "go"
      refine ⟨l, _, rfl, lookup_here, ?_⟩
      walk_at "go"
      refine ⟨c, d, _, rfl, hc, ?_⟩
      refine ⟨_, _, rfl, lookup_here, by rw [List.length_map, List.length_map]; omega, ?_⟩
      refine ⟨_, ?_, rfl⟩
      rw [setS_here, untilL_succ, List.map_append]
    · rintro ρ' τ' ⟨v4, rfl, rfl⟩
      refine ⟨v4, ?_, rfl⟩
      rw [rangeD_length]
  · rintro ρ' τ' ⟨v4, rfl, rfl⟩
    refine db_freeze 3 rfl ?_
    walk_at "go"
    exact q
end
section
variable {P : Program} {w : World} {K : PySem.W.Frag} {mg : Str → Option Value} {base : Heap}
theorem gap_min {g m : Int} {a b : List Int} (h : IsMin ((a.zip b).map fun p => absI (p.1 - p.2)) m) : gGe m g = gapAll g a b := by
  unfold gapAll
  apply Bool.eq_iff_iff.mpr
  rw [List.all_eq_true]
  show decide (g ≤ m) = true ↔ _
  rw [decide_eq_true_iff]
  constructor
  · intro hg p hp
    have := h.2 _ (List.mem_map.mpr ⟨p, hp, rfl⟩)
    exact decide_eq_true (by omega)
  · intro hall
    obtain ⟨p, hp, e⟩ := List.mem_map.mp h.1
    have := of_decide_eq_true (hall p hp)
    omega
def cPair : Ctr := fun svs τ Q => ∃ c, ∃ f s g e : Int, svs = [.val (chD c), .val (.int f), .val (.int s), .val (.int g), .val (.int e)] ∧ ChOk c ∧ 0 ≤ f ∧ f ≤ 6 ∧ 0 ≤ s ∧ s ≤ 6 ∧ 0 ≤ g ∧ g ≤ 9 ∧ 0 ≤ e ∧ e ≤ 24 ∧ Q (.val (pairOD (pairF (untilL c f (e + 1).toNat) (untilL c s (e + 1).toNat) g))) τ
abbrev s_pair_of_passages : Stmt := topS 59
theorem sc_pair_of_passages : FnScope ["channel", "first", "second", "gap", "end", "others", "one", "other", "x", "y"] ["channel", "first", "second", "gap", "end"] (defScope s_pair_of_passages) := ⟨rfl, rfl, rfl, by decide +kernel, rfl, by decide +kernel, by decide +kernel⟩
local macro_rules | `(tactic| walk_at "nm") => `(tactic| first
  | with_reducible refine de_name (x := "channel") 0 (by with_unfolding_all rfl) (by with_unfolding_all first | exact Or.inl rfl | exact Or.inr (Or.inl rfl) | exact Or.inr (Or.inr rfl)) (by with_unfolding_all rfl) ?_ (by with_unfolding_all decide) (by with_unfolding_all decide)
  | with_reducible refine de_name (x := "first") 1 (by with_unfolding_all rfl) (by with_unfolding_all first | exact Or.inl rfl | exact Or.inr (Or.inl rfl) | exact Or.inr (Or.inr rfl)) (by with_unfolding_all rfl) ?_ (by with_unfolding_all decide) (by with_unfolding_all decide)
  | with_reducible refine de_name (x := "second") 2 (by with_unfolding_all rfl) (by with_unfolding_all first | exact Or.inl rfl | exact Or.inr (Or.inl rfl) | exact Or.inr (Or.inr rfl)) (by with_unfolding_all rfl) ?_ (by with_unfolding_all decide) (by with_unfolding_all decide)
  | with_reducible refine de_name (x := "gap") 3 (by with_unfolding_all rfl) (by with_unfolding_all first | exact Or.inl rfl | exact Or.inr (Or.inl rfl) | exact Or.inr (Or.inr rfl)) (by with_unfolding_all rfl) ?_ (by with_unfolding_all decide) (by with_unfolding_all decide)
  | with_reducible refine de_name (x := "end") 4 (by with_unfolding_all rfl) (by with_unfolding_all first | exact Or.inl rfl | exact Or.inr (Or.inl rfl) | exact Or.inr (Or.inr rfl)) (by with_unfolding_all rfl) ?_ (by with_unfolding_all decide) (by with_unfolding_all decide)
  | with_reducible refine de_name (x := "others") 5 (by with_unfolding_all rfl) (by with_unfolding_all first | exact Or.inl rfl | exact Or.inr (Or.inl rfl) | exact Or.inr (Or.inr rfl)) (by with_unfolding_all rfl) ?_ (by with_unfolding_all decide) (by with_unfolding_all decide)
  | with_reducible refine de_name (x := "one") 6 (by with_unfolding_all rfl) (by with_unfolding_all first | exact Or.inl rfl | exact Or.inr (Or.inl rfl) | exact Or.inr (Or.inr rfl)) (by with_unfolding_all rfl) ?_ (by with_unfolding_all decide) (by with_unfolding_all decide)
  | with_reducible refine de_name (x := "other") 7 (by with_unfolding_all rfl) (by with_unfolding_all first | exact Or.inl rfl | exact Or.inr (Or.inl rfl) | exact Or.inr (Or.inr rfl)) (by with_unfolding_all rfl) ?_ (by with_unfolding_all decide) (by with_unfolding_all decide)
  | with_reducible refine de_name (x := "x") 8 (by with_unfolding_all rfl) (by with_unfolding_all first | exact Or.inl rfl | exact Or.inr (Or.inl rfl) | exact Or.inr (Or.inr rfl)) (by with_unfolding_all rfl) ?_ (by with_unfolding_all decide) (by with_unfolding_all decide)
  | with_reducible refine de_name (x := "y") 9 (by with_unfolding_all rfl) (by with_unfolding_all first | exact Or.inl rfl | exact Or.inr (Or.inl rfl) | exact Or.inr (Or.inr rfl)) (by with_unfolding_all rfl) ?_ (by with_unfolding_all decide) (by with_unfolding_all decide))
local macro_rules | `(tactic| walk_at "st") => `(tactic| first
  | with_reducible refine ds_set (x := "channel") 0 (by with_unfolding_all exact sc_pair_of_passages.nd) (by with_unfolding_all rfl) (by with_unfolding_all first | exact Or.inl rfl | exact Or.inr rfl) ?_ (by with_unfolding_all rfl) (by with_unfolding_all first | exact .inl rfl | exact .inr rfl)
  | with_reducible refine ds_set (x := "first") 1 (by with_unfolding_all exact sc_pair_of_passages.nd) (by with_unfolding_all rfl) (by with_unfolding_all first | exact Or.inl rfl | exact Or.inr rfl) ?_ (by with_unfolding_all rfl) (by with_unfolding_all first | exact .inl rfl | exact .inr rfl)
  | with_reducible refine ds_set (x := "second") 2 (by with_unfolding_all exact sc_pair_of_passages.nd) (by with_unfolding_all rfl) (by with_unfolding_all first | exact Or.inl rfl | exact Or.inr rfl) ?_ (by with_unfolding_all rfl) (by with_unfolding_all first | exact .inl rfl | exact .inr rfl)
  | with_reducible refine ds_set (x := "gap") 3 (by with_unfolding_all exact sc_pair_of_passages.nd) (by with_unfolding_all rfl) (by with_unfolding_all first | exact Or.inl rfl | exact Or.inr rfl) ?_ (by with_unfolding_all rfl) (by with_unfolding_all first | exact .inl rfl | exact .inr rfl)
  | with_reducible refine ds_set (x := "end") 4 (by with_unfolding_all exact sc_pair_of_passages.nd) (by with_unfolding_all rfl) (by with_unfolding_all first | exact Or.inl rfl | exact Or.inr rfl) ?_ (by with_unfolding_all rfl) (by with_unfolding_all first | exact .inl rfl | exact .inr rfl)
  | with_reducible refine ds_set (x := "others") 5 (by with_unfolding_all exact sc_pair_of_passages.nd) (by with_unfolding_all rfl) (by with_unfolding_all first | exact Or.inl rfl | exact Or.inr rfl) ?_ (by with_unfolding_all rfl) (by with_unfolding_all first | exact .inl rfl | exact .inr rfl)
  | with_reducible refine ds_set (x := "one") 6 (by with_unfolding_all exact sc_pair_of_passages.nd) (by with_unfolding_all rfl) (by with_unfolding_all first | exact Or.inl rfl | exact Or.inr rfl) ?_ (by with_unfolding_all rfl) (by with_unfolding_all first | exact .inl rfl | exact .inr rfl)
  | with_reducible refine ds_set (x := "other") 7 (by with_unfolding_all exact sc_pair_of_passages.nd) (by with_unfolding_all rfl) (by with_unfolding_all first | exact Or.inl rfl | exact Or.inr rfl) ?_ (by with_unfolding_all rfl) (by with_unfolding_all first | exact .inl rfl | exact .inr rfl)
  | with_reducible refine ds_set (x := "x") 8 (by with_unfolding_all exact sc_pair_of_passages.nd) (by with_unfolding_all rfl) (by with_unfolding_all first | exact Or.inl rfl | exact Or.inr rfl) ?_ (by with_unfolding_all rfl) (by with_unfolding_all first | exact .inl rfl | exact .inr rfl)
  | with_reducible refine ds_set (x := "y") 9 (by with_unfolding_all exact sc_pair_of_passages.nd) (by with_unfolding_all rfl) (by with_unfolding_all first | exact Or.inl rfl | exact Or.inr rfl) ?_ (by with_unfolding_all rfl) (by with_unfolding_all first | exact .inl rfl | exact .inr rfl))

local macro_rules | `(tactic| walk_at "lc x y") => `(tactic| refine de_lc (t := .tup [8, 9]) (own := [("x", 8), ("y", 9)]) rfl sc_pair_of_passages.nd (by first | exact blkOk_by (N := ["channel", "first", "second", "gap", "end", "others", "one", "other", "x", "y"]) (sc := defScope s_pair_of_passages) (by decide +kernel) | exact blkOk_by (N := ["channel", "first", "second", "gap", "end", "others", "one", "other", "x", "y"]) (sc := relS _ (defScope s_pair_of_passages)) (by decide +kernel)) (by decide) (fun _ _ _ _ _ => pgx_tup2 rfl (pg_name sc_pair_of_passages.nd rfl (by first | exact Or.inl rfl | exact Or.inr rfl)) (pg_name sc_pair_of_passages.nd rfl (by first | exact Or.inl rfl | exact Or.inr rfl))) ?_)

theorem kn_pair_of_passages (D : HasDef K mg "pair_of_passages" s_pair_of_passages ["channel", "first", "second", "gap", "end"]) (B : Bl mg) (k1 : Knows P w K mg base 4 "check_channel" cChk) (k2 : Knows P w K mg base 2 "check_draught" (cChkI 0 6)) (k3 : Knows P w K mg base 1 "is_between" cBetween) (k4 : Knows P w K mg base 3 "all_until" cUntil) : Knows P w K mg base 5 "pair_of_passages" cPair := by
  refine knows_mk D sc_pair_of_passages (fun _ _ _ ⟨_, _, _, _, _, e, _⟩ => by rw [e]; rfl) (fun fa cdv A outer sh H E hr svs τ Q hC => ?_)
  obtain ⟨c, f, s, g, e, rfl, hc, f0, f1, s0, s1, g0, g1, e0, e1, q⟩ := hC
  walk_at "go"
  refine ⟨c, rfl, hc, ?_⟩
  walk_at "go"
  refine ⟨f, rfl, f0, f1, ?_⟩
  walk_at "go"
  refine ⟨s, rfl, s0, s1, ?_⟩
  walk_at "go"
  refine ⟨_, _, _, rfl, true, by rw [between_ok g0 g1], ?_⟩
  walk_at "go"
  refine ⟨_, _, _, rfl, true, by rw [between_ok e0 e1], ?_⟩
  walk_at "go"
  refine ⟨c, s, e, rfl, hc, e0, by omega, ?_⟩
  have hL1 := fun {r : List Int} (h : r ∈ untilL c f (e + 1).toNat) => until_row hc h
  have hL2 := fun {r : List Int} (h : r ∈ untilL c s (e + 1).toNat) => until_row hc h
  obtain ⟨L2, hL2e⟩ : ∃ L, L = untilL c s (e + 1).toNat := ⟨_, rfl⟩
  obtain ⟨L1, hL1e⟩ : ∃ L, L = untilL c f (e + 1).toNat := ⟨_, rfl⟩
  rw [← hL1e] at q hL1
  rw [← hL2e] at q hL2 ⊢
  refine db_seq (fun ρ' τ' => τ' = τ ∧ (∀ a ∈ L1, ∀ b ∈ L2, gapAll g a b = false) ∧ ∃ v6 v7 v8 v9, ρ' = [some (.val (chD c)), some (.val (.int f)), some (.val (.int s)), some (.val (.int g)), some (.val (.int e)), some (.val (rowsD L2)), v6, v7, v8, v9]) ?_ ?_
  · refine ds_for (t := .name 6) rfl PassesOwn.never (pgx_name sc_pair_of_passages.nd rfl (by first | exact Or.inl rfl | exact Or.inr rfl)) (di_lst ?_)
    walk_at "go"
    refine ⟨c, f, e, rfl, hc, e0, by omega, _, rfl, ?_⟩
    rw [← hL1e]
    refine ⟨fun i ρ' τ' => τ' = τ ∧ (∀ a ∈ L1.take i, ∀ b ∈ L2, gapAll g a b = false) ∧ ∃ v6 v7 v8 v9, ρ' = [some (.val (chD c)), some (.val (.int f)), some (.val (.int s)), some (.val (.int g)), some (.val (.int e)), some (.val (rowsD L2)), v6, v7, v8, v9], ⟨rfl, fun a ha => (by simp at ha), none, none, none, none, rfl⟩, fun _ _ _ _ => trivial, ?_, ?_⟩
    · rintro i dd ρ' τ' hd ⟨rfl, hno, v6, v7, v8, v9, rfl⟩
      obtain ⟨a, ha, rfl⟩ := map_get hd
      have har := hL1 (List.mem_of_getElem? ha)
      refine ⟨_, rfl, ?_⟩
      refine db_one ?_
      refine ds_for (t := .name 7) rfl PassesOwn.never (pgx_name sc_pair_of_passages.nd rfl (by first | exact Or.inl rfl | exact Or.inr rfl)) (di_lst ?_)
      walk_at "go"
      refine ⟨fun j ρ' τ2 => τ2 = τ' ∧ (∀ b ∈ L2.take j, gapAll g a b = false) ∧ ∃ v7 v8 v9, ρ' = [some (.val (chD c)), some (.val (.int f)), some (.val (.int s)), some (.val (.int g)), some (.val (.int e)), some (.val (rowsD L2)), some (.val (tI a)), v7, v8, v9], ⟨rfl, fun b hb => (by simp at hb), _, _, _, rfl⟩, fun _ _ _ _ => trivial, ?_, ?_⟩
      · rintro j dd ρ' τ2 hd ⟨rfl, hno2, v7, v8, v9, rfl⟩
        obtain ⟨b, hb, rfl⟩ := map_get hd
        have hbr := hL2 (List.mem_of_getElem? hb)
        refine ⟨_, rfl, ?_⟩
        refine db_one (ds_if ?_)
        refine dt_ge ?_
        refine de_minL ‹Bl _› rfl rfl ?_
        walk_at "lc x y"
        refine di_zip ‹Bl _› rfl ?_
        have eA : tI a = .tuple (a.map .int) := rfl
        have eB : tI b = .tuple (b.map .int) := rfl
        rw [eA, eB]
        walk_at "go"
        refine ⟨_, _, .inl ⟨rfl, rfl⟩, ?_⟩
        rw [zip_ints]
        refine lcq_map (a.zip b) (fun p => .tuple [.int p.1, .int p.2]) (fun p => .int (absI (p.1 - p.2))) rfl (by rw [List.length_zip]; have := hc.b3; omega) (fun p hp => ⟨_, rfl, fun D acc hD s H C cl fp => ?_⟩) ?_
        · walk_at "go"
          exact ⟨rfl, rfl⟩
        refine ⟨(a.zip b).map fun p => absI (p.1 - p.2), by show some _ = some _; rw [List.map_map]; rfl, by rw [List.length_map, List.length_zip]; have := hc.b1; omega, fun m hm => ?_⟩
        walk_at "nm"
        refine ⟨_, _, rfl, rfl, _, rfl, ?_⟩
        rw [gap_min hm]
        cases hG : gapAll g a b with
        | true =>
          walk_at "go"
          rw [pairF_hit hno ha hno2 hb hG] at q
          exact q
        | false =>
          walk_at "go"
          refine ⟨rfl, fun b' hb' => ?_, _, _, _, rfl⟩
          rw [List.take_add_one, hb] at hb'
          rcases List.mem_append.mp hb' with hb' | hb'
          · exact hno2 b' hb'
          · rw [show b' = b from by simpa using hb']; exact hG
      · rintro ρ' τ2 ⟨rfl, hno2, v7, v8, v9, rfl⟩
        rw [List.length_map, List.take_length] at hno2
        refine ⟨rfl, fun a' ha' => ?_, _, _, _, _, rfl⟩
        rw [List.take_add_one, ha] at ha'
        rcases List.mem_append.mp ha' with ha' | ha'
        · exact hno a' ha'
        · rw [show a' = a from by simpa using ha']; exact hno2
    · rintro ρ' τ' ⟨rfl, hno, v6, v7, v8, v9, rfl⟩
      rw [List.length_map, List.take_length] at hno
      exact ⟨rfl, hno, _, _, _, _, rfl⟩
  rintro ρ' τ' ⟨rfl, hno, v6, v7, v8, v9, rfl⟩
  rw [pairF_miss hno] at q
  walk_at "go"
  exact q
end

/-! ### a channel later -/
theorem len_shift (c : Chan) (s : Int) : (shifted c s).bars.length = c.bars.length := by simp [shifted]
theorem all_shift {c : Chan} (hc : ChOk c) (s d h : Int) : allFrom (shifted c s) d (h + s) = (allFrom c d h).map (fun r => r.map (· + s)) := by
  unfold allFrom
  rw [len_shift]
  refine rowsTo_add (c := c) (e := shifted c s) (t := s) rfl rfl d h (c.bars.length - 1) fun j hj x => ?_
  have := hc.b1
  exact depth_shift hc (by omega) s x
theorem out_shift {c : Chan} (hc : ChOk c) (s d x : Int) : isOut (shifted c s) d (x + s) = isOut c d x := by
  unfold isOut
  rw [all_shift hc]
  cases allFrom c d x <;> rfl
theorem out_shift' {c : Chan} (hc : ChOk c) (s d x : Int) : isOut (shifted c s) d x = isOut c d (x - s) := by
  have := out_shift hc s d (x - s)
  rwa [Int.sub_add_cancel] at this
theorem period_shift (c : Chan) (s : Int) : periodOf (shifted c s) = periodOf c := by
  refine period_of_lens ?_
  show (c.bars.map (shiftBar s)).map List.length = c.bars.map List.length
  rw [List.map_map]
  refine List.map_congr_left fun b _ => ?_
  simp [shiftBar]

/-! ### hours seen -/
def pairSD (p : Int × Bool) : PyData := .tuple [.int p.1, .bool p.2]
def seenD (ps : List (Int × Bool)) : PyData := .tuple (ps.map pairSD)
def agrees (c : Chan) (d : Int) (ps : List (Int × Bool)) : Bool := ps.all fun p => decide (isOut c d p.1 = p.2)
structure SeenOk (ps : List (Int × Bool)) : Prop where
  len : ps.length ≤ 12
  low : ∀ p ∈ ps, 0 ≤ p.1 ∧ p.1 ≤ 999
  asc : (ps.map (·.1)).Pairwise (· < ·)
section
variable {P : Program} {w : World} {K : PySem.W.Frag} {mg : Str → Option Value} {base : Heap}
def cSeen : Ctr := fun svs τ Q => ∃ ps, svs = [.val (seenD ps)] ∧ SeenOk ps ∧ Q (.val .none) τ
def cAgree : Ctr := fun svs τ Q => ∃ c, ∃ d : Int, ∃ ps, svs = [.val (chD c), .val (.int d), .val (seenD ps)] ∧ ChOk c ∧ ps.length ≤ 12 ∧ Q (.val (.bool (agrees c d ps))) τ
abbrev s_does_agree : Stmt := topS 62
theorem sc_does_agree : FnScope ["channel", "draught", "seen", "hour", "came"] ["channel", "draught", "seen"] (defScope s_does_agree) := ⟨rfl, rfl, rfl, by decide +kernel, rfl, by decide +kernel, by decide +kernel⟩
local macro_rules | `(tactic| walk_at "nm") => `(tactic| first
  | with_reducible refine de_name (x := "channel") 0 (by with_unfolding_all rfl) (by with_unfolding_all first | exact Or.inl rfl | exact Or.inr (Or.inl rfl) | exact Or.inr (Or.inr rfl)) (by with_unfolding_all rfl) ?_ (by with_unfolding_all decide) (by with_unfolding_all decide)
  | with_reducible refine de_name (x := "draught") 1 (by with_unfolding_all rfl) (by with_unfolding_all first | exact Or.inl rfl | exact Or.inr (Or.inl rfl) | exact Or.inr (Or.inr rfl)) (by with_unfolding_all rfl) ?_ (by with_unfolding_all decide) (by with_unfolding_all decide)
  | with_reducible refine de_name (x := "seen") 2 (by with_unfolding_all rfl) (by with_unfolding_all first | exact Or.inl rfl | exact Or.inr (Or.inl rfl) | exact Or.inr (Or.inr rfl)) (by with_unfolding_all rfl) ?_ (by with_unfolding_all decide) (by with_unfolding_all decide)
  | with_reducible refine de_name (x := "hour") 3 (by with_unfolding_all rfl) (by with_unfolding_all first | exact Or.inl rfl | exact Or.inr (Or.inl rfl) | exact Or.inr (Or.inr rfl)) (by with_unfolding_all rfl) ?_ (by with_unfolding_all decide) (by with_unfolding_all decide)
  | with_reducible refine de_name (x := "came") 4 (by with_unfolding_all rfl) (by with_unfolding_all first | exact Or.inl rfl | exact Or.inr (Or.inl rfl) | exact Or.inr (Or.inr rfl)) (by with_unfolding_all rfl) ?_ (by with_unfolding_all decide) (by with_unfolding_all decide))
local macro_rules | `(tactic| walk_at "st") => `(tactic| first
  | with_reducible refine ds_set (x := "channel") 0 (by with_unfolding_all exact sc_does_agree.nd) (by with_unfolding_all rfl) (by with_unfolding_all first | exact Or.inl rfl | exact Or.inr rfl) ?_ (by with_unfolding_all rfl) (by with_unfolding_all first | exact .inl rfl | exact .inr rfl)
  | with_reducible refine ds_set (x := "draught") 1 (by with_unfolding_all exact sc_does_agree.nd) (by with_unfolding_all rfl) (by with_unfolding_all first | exact Or.inl rfl | exact Or.inr rfl) ?_ (by with_unfolding_all rfl) (by with_unfolding_all first | exact .inl rfl | exact .inr rfl)
  | with_reducible refine ds_set (x := "seen") 2 (by with_unfolding_all exact sc_does_agree.nd) (by with_unfolding_all rfl) (by with_unfolding_all first | exact Or.inl rfl | exact Or.inr rfl) ?_ (by with_unfolding_all rfl) (by with_unfolding_all first | exact .inl rfl | exact .inr rfl)
  | with_reducible refine ds_set (x := "hour") 3 (by with_unfolding_all exact sc_does_agree.nd) (by with_unfolding_all rfl) (by with_unfolding_all first | exact Or.inl rfl | exact Or.inr rfl) ?_ (by with_unfolding_all rfl) (by with_unfolding_all first | exact .inl rfl | exact .inr rfl)
  | with_reducible refine ds_set (x := "came") 4 (by with_unfolding_all exact sc_does_agree.nd) (by with_unfolding_all rfl) (by with_unfolding_all first | exact Or.inl rfl | exact Or.inr rfl) ?_ (by with_unfolding_all rfl) (by with_unfolding_all first | exact .inl rfl | exact .inr rfl))

local macro_rules | `(tactic| walk_at "lc hour came") => `(tactic| refine de_lc (t := .tup [3, 4]) (own := [("hour", 3), ("came", 4)]) rfl sc_does_agree.nd (by first | exact blkOk_by (N := ["channel", "draught", "seen", "hour", "came"]) (sc := defScope s_does_agree) (by decide +kernel) | exact blkOk_by (N := ["channel", "draught", "seen", "hour", "came"]) (sc := relS _ (defScope s_does_agree)) (by decide +kernel)) (by decide) (fun _ _ _ _ _ => pgx_tup2 rfl (pg_name sc_does_agree.nd rfl (by first | exact Or.inl rfl | exact Or.inr rfl)) (pg_name sc_does_agree.nd rfl (by first | exact Or.inl rfl | exact Or.inr rfl))) ?_)

theorem kn_does_agree (D : HasDef K mg "does_agree" s_does_agree ["channel", "draught", "seen"]) (B : Bl mg) (k1 : Knows P w K mg base 3 "is_out" cIsOut) : Knows P w K mg base 4 "does_agree" cAgree := by
  refine knows_mk D sc_does_agree (fun _ _ _ ⟨_, _, _, e, _⟩ => by rw [e]; rfl) (fun f cdv A outer s H E hr svs τ Q hC => ?_)
  obtain ⟨c, d, ps, rfl, hc, hl, q⟩ := hC
  have eS : seenD ps = .tuple (ps.map pairSD) := rfl
  rw [eS]
  walk_at "go"
  walk_at "lc hour came"
  refine di_tup ?_
  walk_at "go"
  refine lcq_map ps pairSD (fun p => .bool (decide (isOut c d p.1 = p.2))) rfl (by omega) (fun p hp => ⟨_, rfl, fun D acc hD s H C cl fp => ?_⟩) ?_
  · walk_at "go"
    refine ⟨c, d, p.1, rfl, hc, ?_⟩
    walk_at "go"
    refine eq_bool ?_
    exact ⟨rfl, rfl⟩
  refine ⟨ps.map fun p => decide (isOut c d p.1 = p.2), by rw [List.map_map]; rfl, ?_⟩
  have e : (ps.map fun p => decide (isOut c d p.1 = p.2)).all id = agrees c d ps := by
    rw [List.all_map]
    rfl
  rw [e]
  exact q
end

section
variable {P : Program} {w : World} {K : PySem.W.Frag} {mg : Str → Option Value} {base : Heap}
theorem pairS_at {ps : List (Int × Bool)} {k : Nat} {p : Int × Bool} (h : ps[k]? = some p) : atI (ps.map pairSD) ((k : Nat) : Int) = some (pairSD p) := by
  have hk := (List.getElem?_eq_some_iff.mp h).1
  unfold atI
  rw [ixN_ok (by omega) (by rw [List.length_map]; omega)]
  show (ps.map pairSD)[((k : Nat) : Int).toNat]? = _
  rw [Int.toNat_natCast, List.getElem?_map, h]
  rfl
abbrev s_check_seen : Stmt := topS 61
theorem sc_check_seen : FnScope ["value", "pair", "k"] ["value"] (defScope s_check_seen) := ⟨rfl, rfl, rfl, by decide +kernel, rfl, by decide +kernel, by decide +kernel⟩
local macro_rules | `(tactic| walk_at "nm") => `(tactic| first
  | with_reducible refine de_name (x := "value") 0 (by with_unfolding_all rfl) (by with_unfolding_all first | exact Or.inl rfl | exact Or.inr (Or.inl rfl) | exact Or.inr (Or.inr rfl)) (by with_unfolding_all rfl) ?_ (by with_unfolding_all decide) (by with_unfolding_all decide)
  | with_reducible refine de_name (x := "pair") 1 (by with_unfolding_all rfl) (by with_unfolding_all first | exact Or.inl rfl | exact Or.inr (Or.inl rfl) | exact Or.inr (Or.inr rfl)) (by with_unfolding_all rfl) ?_ (by with_unfolding_all decide) (by with_unfolding_all decide)
  | with_reducible refine de_name (x := "k") 2 (by with_unfolding_all rfl) (by with_unfolding_all first | exact Or.inl rfl | exact Or.inr (Or.inl rfl) | exact Or.inr (Or.inr rfl)) (by with_unfolding_all rfl) ?_ (by with_unfolding_all decide) (by with_unfolding_all decide))
local macro_rules | `(tactic| walk_at "st") => `(tactic| first
  | with_reducible refine ds_set (x := "value") 0 (by with_unfolding_all exact sc_check_seen.nd) (by with_unfolding_all rfl) (by with_unfolding_all first | exact Or.inl rfl | exact Or.inr rfl) ?_ (by with_unfolding_all rfl) (by with_unfolding_all first | exact .inl rfl | exact .inr rfl)
  | with_reducible refine ds_set (x := "pair") 1 (by with_unfolding_all exact sc_check_seen.nd) (by with_unfolding_all rfl) (by with_unfolding_all first | exact Or.inl rfl | exact Or.inr rfl) ?_ (by with_unfolding_all rfl) (by with_unfolding_all first | exact .inl rfl | exact .inr rfl)
  | with_reducible refine ds_set (x := "k") 2 (by with_unfolding_all exact sc_check_seen.nd) (by with_unfolding_all rfl) (by with_unfolding_all first | exact Or.inl rfl | exact Or.inr rfl) ?_ (by with_unfolding_all rfl) (by with_unfolding_all first | exact .inl rfl | exact .inr rfl))

local macro_rules | `(tactic| walk_at "lc k") => `(tactic| refine de_lc (t := .name 2) (own := [("k", 2)]) rfl sc_check_seen.nd (by first | exact blkOk_by (N := ["value", "pair", "k"]) (sc := defScope s_check_seen) (by decide +kernel) | exact blkOk_by (N := ["value", "pair", "k"]) (sc := relS _ (defScope s_check_seen)) (by decide +kernel)) (by decide) (fun _ _ _ _ _ => pgx_name sc_check_seen.nd rfl (by first | exact Or.inl rfl | exact Or.inr rfl)) ?_)

theorem kn_check_seen (D : HasDef K mg "check_seen" s_check_seen ["value"]) (B : Bl mg) (k1 : Knows P w K mg base 1 "is_between" cBetween) : Knows P w K mg base 2 "check_seen" cSeen := by
  refine knows_mk D sc_check_seen (fun _ _ _ ⟨_, e, _⟩ => by rw [e]; rfl) (fun f cdv A outer s H E hr svs τ Q hC => ?_)
  obtain ⟨ps, rfl, hs, q⟩ := hC
  have hl := hs.len
  have eS : seenD ps = .tuple (ps.map pairSD) := rfl
  rw [eS]
  have hlm : (ps.map pairSD).length ≤ 12 := by rw [List.length_map]; exact hl
  refine db_seq (fun ρ' τ' => τ' = τ ∧ ρ' = [some (.val (.tuple (ps.map pairSD))), none, none]) ?_ ?_
  · walk_at "go"
    exact ⟨rfl, rfl⟩
  rintro ρ' τ' ⟨rfl, rfl⟩
  refine db_seq (fun ρ' τ => τ = τ' ∧ ∃ v1, ρ' = [some (.val (.tuple (ps.map pairSD))), v1, none]) ?_ ?_
  · refine ds_for (t := .name 1) rfl PassesOwn.never (pgx_name sc_check_seen.nd rfl (by first | exact Or.inl rfl | exact Or.inr rfl)) (di_tup ?_)
    walk_at "go"
    refine ⟨fun i ρ' τ => τ = τ' ∧ ∃ v1, ρ' = [some (.val (.tuple (ps.map pairSD))), v1, none], ⟨rfl, none, rfl⟩, fun _ _ _ _ => trivial, ?_, ?_⟩
    · rintro i dd ρ' τ hd ⟨rfl, v1, rfl⟩
      obtain ⟨p, hp, rfl⟩ := map_get hd
      have hpl := hs.low p (List.mem_of_getElem? hp)
      refine ⟨_, rfl, ?_⟩
      have eP : pairSD p = .tuple [.int p.1, .bool p.2] := rfl
      rw [eP]
      walk_at "go"
      refine ⟨_, _, _, rfl, true, by rw [between_ok hpl.1 hpl.2], ?_⟩
      walk_at "go"
      exact ⟨rfl, _, rfl⟩
    · rintro ρ' τ ⟨rfl, v1, rfl⟩
      exact ⟨rfl, _, rfl⟩
  rintro ρ' τ ⟨rfl, v1, rfl⟩
  walk_at "go"
  walk_at "lc k"
  refine di_range1 ‹Bl _› rfl ?_
  walk_at "go"
  rw [List.length_map]
  refine ⟨by omega, by omega, ?_⟩
  refine lcq_map (List.range (ps.length - 1)) (fun k => .int (0 + (k : Nat))) (fun _ => .bool true) ?_ (by rw [List.length_range]; omega) (fun k hk => ⟨_, rfl, fun D acc hD s H C cl fp => ?_⟩) ?_
  · rw [show ((ps.length : Int) - 1).toNat = ps.length - 1 from by omega]
    rfl
  · have hk := List.mem_range.mp hk
    obtain ⟨p, hp⟩ : ∃ p, ps[k]? = some p := ⟨_, List.getElem?_eq_getElem (by omega)⟩
    obtain ⟨p', hp'⟩ : ∃ p, ps[k + 1]? = some p := ⟨_, List.getElem?_eq_getElem (by omega)⟩
    have hlt : p.1 < p'.1 := by
      have := List.pairwise_iff_getElem.mp hs.asc k (k + 1) (by rw [List.length_map]; omega) (by rw [List.length_map]; omega) (by omega)
      rw [List.getElem_map, List.getElem_map] at this
      rw [(List.getElem?_eq_some_iff.mp hp).2, (List.getElem?_eq_some_iff.mp hp').2] at this
      exact this
    rw [Int.zero_add]
    walk_at "go"
    refine ix_tup' (pairS_at hp) ?_
    unfold pairSD
    walk_at "go"
    refine ix_tup' (pairS_at hp') ?_
    unfold pairSD
    walk_at "go"
    exact ⟨congrArg (fun b => MV.val (PyData.bool b)) (decide_eq_true hlt), rfl⟩
  refine ⟨(List.range (ps.length - 1)).map fun _ => true, by rw [List.map_map]; rfl, ?_⟩
  rw [show ((List.range (ps.length - 1)).map fun _ => true).all id = true from List.all_eq_true.mpr fun x hx => by obtain ⟨_, _, rfl⟩ := List.mem_map.mp hx; rfl]
  walk_at "go"
  exact q
end

def duesL (c : Chan) (ps : List (Int × Bool)) : List Int := ((List.range 7).filter fun d => agrees c (d : Nat) ps).map fun d => ((d : Nat) : Int)
def fitsTo (c : Chan) (d : Int) (ps : List (Int × Bool)) (n : Nat) : List Int := ((List.range n).filter fun h => agrees (shifted c (h : Nat)) d ps).map fun h => ((h : Nat) : Int)
def fitsL (c : Chan) (d : Int) (ps : List (Int × Bool)) : List Int := fitsTo c d ps (periodOf c)
theorem fitsTo_yes {c : Chan} {d : Int} {ps : List (Int × Bool)} {i : Nat} (h : agrees (shifted c (i : Nat)) d ps = true) : fitsTo c d ps (i + 1) = fitsTo c d ps i ++ [((i : Nat) : Int)] := by
  unfold fitsTo
  rw [List.range_succ, List.filter_append, List.filter_cons_of_pos (p := fun h : Nat => agrees (shifted c (h : Nat)) d ps) h, List.filter_nil, List.map_append]
  rfl
theorem fitsTo_no {c : Chan} {d : Int} {ps : List (Int × Bool)} {i : Nat} (h : agrees (shifted c (i : Nat)) d ps = false) : fitsTo c d ps (i + 1) = fitsTo c d ps i := by
  unfold fitsTo
  rw [List.range_succ, List.filter_append, List.filter_cons_of_neg (p := fun h : Nat => agrees (shifted c (h : Nat)) d ps) (by rw [h]; exact Bool.false_ne_true), List.filter_nil, List.append_nil]
theorem fitsTo_len (c : Chan) (d : Int) (ps : List (Int × Bool)) (n : Nat) : (fitsTo c d ps n).length ≤ n := by
  have := List.length_filter_le (fun h => agrees (shifted c (h : Nat)) d ps) (List.range n)
  unfold fitsTo
  rw [List.length_map]
  rwa [List.length_range] at this
section
variable {P : Program} {w : World} {K : PySem.W.Frag} {mg : Str → Option Value} {base : Heap}
def cDues : Ctr := fun svs τ Q => ∃ c ps, svs = [.val (chD c), .val (seenD ps)] ∧ ChOk c ∧ SeenOk ps ∧ Q (.val (tI (duesL c ps))) τ
def cFits : Ctr := fun svs τ Q => ∃ c, ∃ d : Int, ∃ ps, svs = [.val (chD c), .val (.int d), .val (seenD ps)] ∧ ChOk c ∧ 0 ≤ d ∧ d ≤ 6 ∧ SeenOk ps ∧ Q (.val (tI (fitsL c d ps))) τ
abbrev s_draughts_for : Stmt := topS 63
theorem sc_draughts_for : FnScope ["channel", "seen", "draught"] ["channel", "seen"] (defScope s_draughts_for) := ⟨rfl, rfl, rfl, by decide +kernel, rfl, by decide +kernel, by decide +kernel⟩
local macro_rules | `(tactic| walk_at "nm") => `(tactic| first
  | with_reducible refine de_name (x := "channel") 0 (by with_unfolding_all rfl) (by with_unfolding_all first | exact Or.inl rfl | exact Or.inr (Or.inl rfl) | exact Or.inr (Or.inr rfl)) (by with_unfolding_all rfl) ?_ (by with_unfolding_all decide) (by with_unfolding_all decide)
  | with_reducible refine de_name (x := "seen") 1 (by with_unfolding_all rfl) (by with_unfolding_all first | exact Or.inl rfl | exact Or.inr (Or.inl rfl) | exact Or.inr (Or.inr rfl)) (by with_unfolding_all rfl) ?_ (by with_unfolding_all decide) (by with_unfolding_all decide)
  | with_reducible refine de_name (x := "draught") 2 (by with_unfolding_all rfl) (by with_unfolding_all first | exact Or.inl rfl | exact Or.inr (Or.inl rfl) | exact Or.inr (Or.inr rfl)) (by with_unfolding_all rfl) ?_ (by with_unfolding_all decide) (by with_unfolding_all decide))
local macro_rules | `(tactic| walk_at "st") => `(tactic| first
  | with_reducible refine ds_set (x := "channel") 0 (by with_unfolding_all exact sc_draughts_for.nd) (by with_unfolding_all rfl) (by with_unfolding_all first | exact Or.inl rfl | exact Or.inr rfl) ?_ (by with_unfolding_all rfl) (by with_unfolding_all first | exact .inl rfl | exact .inr rfl)
  | with_reducible refine ds_set (x := "seen") 1 (by with_unfolding_all exact sc_draughts_for.nd) (by with_unfolding_all rfl) (by with_unfolding_all first | exact Or.inl rfl | exact Or.inr rfl) ?_ (by with_unfolding_all rfl) (by with_unfolding_all first | exact .inl rfl | exact .inr rfl)
  | with_reducible refine ds_set (x := "draught") 2 (by with_unfolding_all exact sc_draughts_for.nd) (by with_unfolding_all rfl) (by with_unfolding_all first | exact Or.inl rfl | exact Or.inr rfl) ?_ (by with_unfolding_all rfl) (by with_unfolding_all first | exact .inl rfl | exact .inr rfl))

local macro_rules | `(tactic| walk_at "lc draught") => `(tactic| refine de_lc (t := .name 2) (own := [("draught", 2)]) rfl sc_draughts_for.nd (by first | exact blkOk_by (N := ["channel", "seen", "draught"]) (sc := defScope s_draughts_for) (by decide +kernel) | exact blkOk_by (N := ["channel", "seen", "draught"]) (sc := relS _ (defScope s_draughts_for)) (by decide +kernel)) (by decide) (fun _ _ _ _ _ => pgx_name sc_draughts_for.nd rfl (by first | exact Or.inl rfl | exact Or.inr rfl)) ?_)

theorem kn_draughts_for (D : HasDef K mg "draughts_for" s_draughts_for ["channel", "seen"]) (B : Bl mg) (k1 : Knows P w K mg base 4 "check_channel" cChk) (k2 : Knows P w K mg base 2 "check_seen" cSeen) (k3 : Knows P w K mg base 4 "does_agree" cAgree) : Knows P w K mg base 5 "draughts_for" cDues := by
  refine knows_mk D sc_draughts_for (fun _ _ _ ⟨_, _, e, _⟩ => by rw [e]; rfl) (fun f cdv A outer s H E hr svs τ Q hC => ?_)
  obtain ⟨c, ps, rfl, hc, hs, q⟩ := hC
  walk_at "go"
  refine ⟨c, rfl, hc, ?_⟩
  walk_at "go"
  refine ⟨ps, rfl, hs, ?_⟩
  walk_at "go"
  walk_at "lc draught"
  refine di_range1 ‹Bl _› rfl ?_
  walk_at "go"
  refine ⟨by decide, by decide, ?_⟩
  refine lcq_filter (List.range 7) (fun d => .int (0 + (d : Nat))) (fun d => .int ((d : Nat) : Int)) (fun d => agrees c (d : Nat) ps) rfl (by rw [List.length_range]; decide) (fun d hd => ⟨_, rfl, fun D acc hD s H C cl fp => ⟨?_, fun _ => ?_⟩⟩) ?_
  · walk_at "go"
    rw [Int.zero_add]
    exact ⟨c, _, ps, rfl, hc, hs.len, _, rfl, rfl, rfl⟩
  · walk_at "go"
    rw [Int.zero_add]
    exact ⟨rfl, rfl⟩
  refine tup_lst rfl ?_
  have e : tI (duesL c ps) = .tuple (((List.range 7).filter fun d => agrees c (d : Nat) ps).map fun (d : Nat) => PyData.int (d : Nat)) := by
    unfold tI duesL
    rw [List.map_map]
    rfl
  rw [e] at q
  exact q
abbrev s_hours_for : Stmt := topS 64
theorem sc_hours_for : FnScope ["channel", "draught", "seen", "found", "hours"] ["channel", "draught", "seen"] (defScope s_hours_for) := ⟨rfl, rfl, rfl, by decide +kernel, rfl, by decide +kernel, by decide +kernel⟩
local macro_rules | `(tactic| walk_at "nm") => `(tactic| first
  | with_reducible refine de_name (x := "channel") 0 (by with_unfolding_all rfl) (by with_unfolding_all first | exact Or.inl rfl | exact Or.inr (Or.inl rfl) | exact Or.inr (Or.inr rfl)) (by with_unfolding_all rfl) ?_ (by with_unfolding_all decide) (by with_unfolding_all decide)
  | with_reducible refine de_name (x := "draught") 1 (by with_unfolding_all rfl) (by with_unfolding_all first | exact Or.inl rfl | exact Or.inr (Or.inl rfl) | exact Or.inr (Or.inr rfl)) (by with_unfolding_all rfl) ?_ (by with_unfolding_all decide) (by with_unfolding_all decide)
  | with_reducible refine de_name (x := "seen") 2 (by with_unfolding_all rfl) (by with_unfolding_all first | exact Or.inl rfl | exact Or.inr (Or.inl rfl) | exact Or.inr (Or.inr rfl)) (by with_unfolding_all rfl) ?_ (by with_unfolding_all decide) (by with_unfolding_all decide)
  | with_reducible refine de_name (x := "found") 3 (by with_unfolding_all rfl) (by with_unfolding_all first | exact Or.inl rfl | exact Or.inr (Or.inl rfl) | exact Or.inr (Or.inr rfl)) (by with_unfolding_all rfl) ?_ (by with_unfolding_all decide) (by with_unfolding_all decide)
  | with_reducible refine de_name (x := "hours") 4 (by with_unfolding_all rfl) (by with_unfolding_all first | exact Or.inl rfl | exact Or.inr (Or.inl rfl) | exact Or.inr (Or.inr rfl)) (by with_unfolding_all rfl) ?_ (by with_unfolding_all decide) (by with_unfolding_all decide))
local macro_rules | `(tactic| walk_at "st") => `(tactic| first
  | with_reducible refine ds_set (x := "channel") 0 (by with_unfolding_all exact sc_hours_for.nd) (by with_unfolding_all rfl) (by with_unfolding_all first | exact Or.inl rfl | exact Or.inr rfl) ?_ (by with_unfolding_all rfl) (by with_unfolding_all first | exact .inl rfl | exact .inr rfl)
  | with_reducible refine ds_set (x := "draught") 1 (by with_unfolding_all exact sc_hours_for.nd) (by with_unfolding_all rfl) (by with_unfolding_all first | exact Or.inl rfl | exact Or.inr rfl) ?_ (by with_unfolding_all rfl) (by with_unfolding_all first | exact .inl rfl | exact .inr rfl)
  | with_reducible refine ds_set (x := "seen") 2 (by with_unfolding_all exact sc_hours_for.nd) (by with_unfolding_all rfl) (by with_unfolding_all first | exact Or.inl rfl | exact Or.inr rfl) ?_ (by with_unfolding_all rfl) (by with_unfolding_all first | exact .inl rfl | exact .inr rfl)
  | with_reducible refine ds_set (x := "found") 3 (by with_unfolding_all exact sc_hours_for.nd) (by with_unfolding_all rfl) (by with_unfolding_all first | exact Or.inl rfl | exact Or.inr rfl) ?_ (by with_unfolding_all rfl) (by with_unfolding_all first | exact .inl rfl | exact .inr rfl)
  | with_reducible refine ds_set (x := "hours") 4 (by with_unfolding_all exact sc_hours_for.nd) (by with_unfolding_all rfl) (by with_unfolding_all first | exact Or.inl rfl | exact Or.inr rfl) ?_ (by with_unfolding_all rfl) (by with_unfolding_all first | exact .inl rfl | exact .inr rfl))



theorem kn_hours_for (D : HasDef K mg "hours_for" s_hours_for ["channel", "draught", "seen"]) (B : Bl mg) (k1 : Knows P w K mg base 4 "check_channel" cChk) (k4 : Knows P w K mg base 2 "check_draught" (cChkI 0 6)) (k2 : Knows P w K mg base 2 "check_seen" cSeen) (k3 : Knows P w K mg base 4 "does_agree" cAgree) (k5 : Knows P w K mg base 2 "period_of" cPer) (k6 : Knows P w K mg base 1 "shifted" cShift) : Knows P w K mg base 5 "hours_for" cFits := by
  refine knows_mk D sc_hours_for (fun _ _ _ ⟨_, _, _, e, _⟩ => by rw [e]; rfl) (fun f cdv A outer s H E hr svs τ Q hC => ?_)
  obtain ⟨c, d, ps, rfl, hc, d0, d1, hs, q⟩ := hC
  have hp2 := period_le hc
  walk_at "go"
  refine ⟨c, rfl, hc, ?_⟩
  walk_at "go"
  refine ⟨d, rfl, d0, d1, ?_⟩
  walk_at "go"
  refine ⟨ps, rfl, hs, ?_⟩
  walk_at "gb"
  walk_at "db"
  walk_at "st"
  refine de_lstM ?_
  walk_at "go"
  intro l hnl
  refine db_seq (fun ρ' τ' => ∃ v4, τ' = (l, .lst ((fitsL c d ps).map .int)) :: τ ∧ ρ' = [some (.val (chD c)), some (.val (.int d)), some (.val (seenD ps)), some (.hdl l), v4]) ?_ ?_
  · refine ds_for (t := .name 4) rfl PassesOwn.never (pgx_name sc_hours_for.nd rfl (by first | exact Or.inl rfl | exact Or.inr rfl)) (di_range1 ‹Bl _› rfl ?_)
    walk_at "go"
    refine ⟨c, rfl, hc, _, rfl, by omega, by omega, ?_⟩
    refine ⟨fun i ρ' τ' => ∃ v4, τ' = (l, .lst ((fitsTo c d ps i).map .int)) :: τ ∧ ρ' = [some (.val (chD c)), some (.val (.int d)), some (.val (seenD ps)), some (.hdl l), v4], ⟨none, rfl, rfl⟩, fun _ _ _ _ => trivial, ?_, ?_⟩
    · rintro i dd ρ' τ' hd ⟨v4, rfl, rfl⟩
      have hi : i < periodOf c := by
        have := (List.getElem?_eq_some_iff.mp hd).1
        rw [rangeD_length] at this
        omega
      change (rangeD 0 (periodOf c))[i]? = _ at hd
      rw [rangeD_get hi, Int.zero_add] at hd
      cases hd
      refine ⟨_, rfl, ?_⟩
      walk_at "go"
      refine ⟨c, _, rfl, hc, ?_⟩
      walk_at "go"
      refine ⟨shifted c (i : Nat), d, ps, rfl, hc.shift _, hs.len, ?_⟩
      have hlen := fitsTo_len c d ps i
      refine ⟨_, rfl, fun g => ?_, fun g => ?_⟩
      · have hy := fitsTo_yes g
        refine db_one (ds_expr (de_append ?_))
        walk_at "go"
        refine ⟨l, _, rfl, lookup_here, ?_⟩
        walk_at "go"
        refine ⟨_, _, rfl, lookup_here, by rw [List.length_map]; omega, ?_⟩
        refine ⟨_, ?_, rfl⟩
        rw [setS_here, hy, List.map_append]
        rfl
      · have hy := fitsTo_no g
        walk_at "go"
        refine ⟨_, ?_, rfl⟩
        rw [hy]
    · rintro ρ' τ' ⟨v4, rfl, rfl⟩
      rw [rangeD_length]
      exact ⟨_, rfl, rfl⟩
  rintro ρ' τ' ⟨v4, rfl, rfl⟩
  refine db_freeze 3 rfl ?_
  walk_at "go"
  exact q
end

/-! ### what is known of the tides by hand -/
def tideL : List Int := [0, 1, 2, 3, 4, 3, 2, 1]
def oneC : Chan := ⟨[tideL], [], []⟩
def sameC : Chan := ⟨[tideL, tideL], [8], [0]⟩
def agC : Chan := ⟨[tideL, tideL], [4], [0]⟩
def heldC : Chan := ⟨[tideL, tideL], [4], [3]⟩
theorem ok_one : ChOk oneC := ⟨by decide, by decide, by decide, by decide, rfl, by decide, rfl, by decide⟩
theorem ok_same : ChOk sameC := ⟨by decide, by decide, by decide, by decide, rfl, by decide, rfl, by decide⟩
theorem ok_ag : ChOk agC := ⟨by decide, by decide, by decide, by decide, rfl, by decide, rfl, by decide⟩
theorem ok_held : ChOk heldC := ⟨by decide, by decide, by decide, by decide, rfl, by decide, rfl, by decide⟩
theorem four {k : Int} (h1 : 1 ≤ k) (h4 : k ≤ 4) : k = 1 ∨ k = 2 ∨ k = 3 ∨ k = 4 := by omega
theorem hours_one {k : Int} (h1 : 1 ≤ k) (h4 : k ≤ 4) : tI (hoursOf oneC k) = .tuple (rangeD k (9 - k - k).toNat) := by
  rcases four h1 h4 with rfl | rfl | rfl | rfl
  · rw [show hoursOf oneC 1 = [1, 2, 3, 4, 5, 6, 7] from by decide +kernel]; rfl
  · rw [show hoursOf oneC 2 = [2, 3, 4, 5, 6] from by decide +kernel]; rfl
  · rw [show hoursOf oneC 3 = [3, 4, 5] from by decide +kernel]; rfl
  · rw [show hoursOf oneC 4 = [4] from by decide +kernel]; rfl
theorem delay_one {k : Int} (h1 : 1 ≤ k) (h4 : k ≤ 4) : delayOf oneC k = some (2 * k - 1) := by
  rcases four h1 h4 with rfl | rfl | rfl | rfl <;> decide +kernel
theorem same_one {k : Int} (h1 : 1 ≤ k) (h4 : k ≤ 4) : hoursOf sameC k = hoursOf oneC k := by
  rcases four h1 h4 with rfl | rfl | rfl | rfl <;> decide +kernel
theorem great_one : IsMax (greatL oneC) 4 := ⟨by decide +kernel, by decide +kernel⟩
theorem sure_one : IsMax (sureL oneC) 0 := ⟨by decide +kernel, by decide +kernel⟩
theorem great_ag : IsMax (greatL agC) 2 := ⟨by decide +kernel, by decide +kernel⟩
theorem alike_one : (parts sameC oneC).isEmpty = true := by decide +kernel
theorem hours_ag3 : hoursOf agC 3 = [] := by decide +kernel
theorem hours_ag2 : hoursOf agC 2 = [2, 6] := by decide +kernel
theorem first_ag : firstPart oneC agC = some (1, 4) := by decide +kernel
theorem never_ag : neverWorse agC oneC = false := by decide +kernel
theorem need_same : needlessL sameC = [0, 1] := by decide +kernel
theorem need_one : needlessL oneC = [] := by decide +kernel
theorem delay_ag : delayOf agC 3 = none := by decide +kernel
theorem held4 : allFrom heldC 4 4 = [] := by decide +kernel
theorem held3 : allFrom heldC 3 4 = [[4, 11]] := by decide +kernel
theorem soon_held : soonOf heldC 2 3 = some 10 := by decide +kernel
theorem few_held : fewOf heldC 2 3 = some 3 := by decide +kernel
theorem home_one : homeOf oneC 4 4 1 = some 12 := by decide +kernel
theorem long_one : longOf oneC 4 4 28 = some 24 := by decide +kernel
theorem long_no : longOf oneC 4 4 3 = none := by decide +kernel
theorem dig_one : digCh oneC [5] = ⟨[[5, 6, 6, 6, 6, 6, 6, 6]], [], []⟩ := by decide +kernel
theorem pair_one : pairF (untilL oneC 4 13) (untilL oneC 4 13) 8 = some ([4], [12]) := by decide +kernel
theorem pair_no : pairF (untilL oneC 4 13) (untilL oneC 4 13) 9 = none := by decide +kernel
theorem dues_one : duesL oneC [(3, true), (10, false)] = [3] := by decide +kernel
theorem dues_no : duesL oneC [(0, true), (1, false)] = [] := by decide +kernel
theorem fits_one : fitsL oneC 4 [(7, true)] = [3] := by decide +kernel
theorem shift_one : shifted oneC 4 = ⟨[[4, 3, 2, 1, 0, 1, 2, 3]], [], []⟩ := by decide +kernel
theorem short_one {k : Int} (h1 : 1 ≤ k) (h4 : k ≤ 4) : shortD oneC k = tI [k] := by
  rcases four h1 h4 with rfl | rfl | rfl | rfl <;> rfl

/-! ### rows of ints compared -/
theorem lexL_irr (r : List Int) : lexL r r = false := by
  cases h : lexL r r with
  | false => rfl
  | true => have := lexL_asym h; rw [h] at this; cases this
theorem eqv_tI (a b : List Int) : PyData.eqv (tI a) (tI b) = true ↔ a = b := by
  rw [Pl.eqv_iff (n := 1) (m := 1) (pl_tI a) (pl_tI b)]
  exact ⟨tI_inj, fun h => by rw [h]⟩
theorem alike_int (x y : Int) : PySem.W.alike (.int x) (.int y) = true := by rw [PySem.W.alike]
theorem alike_two (a b a' b' : List Int) : PySem.W.alike (.tuple [tI a, tI b]) (.tuple [tI a', tI b']) = true := by
  rw [PySem.W.alike, PySem.W.alikeAll, PySem.W.alikeAll, alike_tI, alike_tI, PySem.W.alikeAll]
  rfl
/-- tuples of ints of one length compare as rows -/
theorem dlt_tI : ∀ {a b : List Int}, a.length = b.length → PySem.W.dataLt (tI a) (tI b) = lexL a b
  | [], [], _ => dlt_irr _
  | [], _ :: _, h => by simp at h
  | _ :: _, [], h => by simp at h
  | x :: xs, y :: ys, h => by
    have ih := dlt_tI (a := xs) (b := ys) (by simpa using h)
    unfold tI at ih ⊢
    rw [PySem.W.dataLt_tuple] at ih ⊢
    rw [List.map_cons, List.map_cons]
    show _ = (if x = y then lexL xs ys else decide (x < y))
    by_cases e : x = y
    · rw [if_pos e, PySem.W.dataLt_all_yes (alike_int x y) ((eqv_int x y).mpr e), ih]
    · have : PyData.eqv (.int x) (.int y) = false := by
        cases z : PyData.eqv (.int x) (.int y) with
        | false => rfl
        | true => exact absurd ((eqv_int x y).mp z) e
      rw [if_neg e, PySem.W.dataLt_all_no (alike_int x y) this, PySem.W.dataLt_int]

/-! ### the least diggings known -/
def ltS (r q : List Int) : Bool := if r.sum = q.sum then lexL r q else decide (r.sum < q.sum)
theorem dlt_sumD {r q : List Int} (h : r.length = q.length) : PySem.W.dataLt (sumD r) (sumD q) = ltS r q := by
  unfold sumD ltS
  rw [PySem.W.dataLt_pair (alike_int _ _) (alike_tI r q)]
  by_cases e : r.sum = q.sum
  · rw [if_pos e, if_pos ((eqv_int _ _).mpr e)]
    by_cases z : r = q
    · rw [if_pos ((eqv_tI r q).mpr z), z, lexL_irr]
    · rw [if_neg (fun x => z ((eqv_tI r q).mp x)), dlt_tI h]
  · rw [if_neg e, if_neg (fun z => e ((eqv_int _ _).mp z)), PySem.W.dataLt_int]
theorem least_is {c : Chan} {d : Int} {o : Bool} {y z : List Int} (h : IsLeastDig c d o z) (hy : y ∈ digs c.bars.length) (ho : serves (digCh c y) d o = true)
    (hl : ∀ x ∈ digs c.bars.length, serves (digCh c x) d o = true → x = y ∨ ltS y x = true) : z = y := by
  rcases hl z h.mem h.ok with e | e
  · exact e
  · have := h.least y hy (by rw [dlt_sumD (by rw [(mem_digs.mp hy).1, (mem_digs.mp h.mem).1]), e])
    rw [ho] at this
    cases this
theorem least_one {z : List Int} (h : IsLeastDig oneC 4 false z) : z = [4] := least_is h (by decide +kernel) (by decide +kernel) (by decide +kernel)
theorem least_once {z : List Int} (h : IsLeastDig oneC 4 true z) : z = [0] := least_is h (by decide +kernel) (by decide +kernel) (by decide +kernel)
theorem least_ag {z : List Int} (h : IsLeastDig agC 3 true z) : z = [0, 2] := least_is h (by decide +kernel) (by decide +kernel) (by decide +kernel)
/-! ### channels of one depth -/
def flatC (k : Int) : Chan := ⟨[[k], [k]], [1], [0]⟩
theorem seven {k : Int} (h0 : 0 ≤ k) (h6 : k ≤ 6) : k = 0 ∨ k = 1 ∨ k = 2 ∨ k = 3 ∨ k = 4 ∨ k = 5 ∨ k = 6 := by omega
theorem ok_flat {k : Int} (h0 : 0 ≤ k) (h6 : k ≤ 6) : ChOk (flatC k) := by
  rcases seven h0 h6 with rfl | rfl | rfl | rfl | rfl | rfl | rfl <;> exact ⟨by decide, by decide, by decide, by decide, rfl, by decide, rfl, by decide⟩
theorem great_flat {k : Int} (h0 : 0 ≤ k) (h6 : k ≤ 6) : IsMax (greatL (flatC k)) k := by
  rcases seven h0 h6 with rfl | rfl | rfl | rfl | rfl | rfl | rfl <;> exact ⟨by decide +kernel, by decide +kernel⟩
theorem sure_flat {k : Int} (h0 : 0 ≤ k) (h6 : k ≤ 6) : IsMax (sureL (flatC k)) k := by
  rcases seven h0 h6 with rfl | rfl | rfl | rfl | rfl | rfl | rfl <;> exact ⟨by decide +kernel, by decide +kernel⟩
theorem need_flat {k : Int} (h0 : 0 ≤ k) (h6 : k ≤ 6) : needlessL (flatC k) = [0, 1] := by
  rcases seven h0 h6 with rfl | rfl | rfl | rfl | rfl | rfl | rfl <;> decide +kernel

section
variable {P : Program} {w : World} {K : PySem.W.Frag} {mg : Str → Option Value} {base : Heap}
def cFlat : Ctr := fun svs τ Q => ∃ k : Int, svs = [.val (.int k)] ∧ 0 ≤ k ∧ k ≤ 6 ∧ Q (.val (.bool true)) τ
theorem pl_two : Pl 1 (tI [0, 1]) := pl_tI _
abbrev s__law_flat : Stmt := topS 68
theorem sc__law_flat : FnScope ["_law_k", "_law_flat_here"] ["_law_k"] (defScope s__law_flat) := ⟨rfl, rfl, rfl, by decide +kernel, rfl, by decide +kernel, by decide +kernel⟩
local macro_rules | `(tactic| walk_at "nm") => `(tactic| first
  | with_reducible refine de_name (x := "_law_k") 0 (by with_unfolding_all rfl) (by with_unfolding_all first | exact Or.inl rfl | exact Or.inr (Or.inl rfl) | exact Or.inr (Or.inr rfl)) (by with_unfolding_all rfl) ?_ (by with_unfolding_all decide) (by with_unfolding_all decide)
  | with_reducible refine de_name (x := "_law_flat_here") 1 (by with_unfolding_all rfl) (by with_unfolding_all first | exact Or.inl rfl | exact Or.inr (Or.inl rfl) | exact Or.inr (Or.inr rfl)) (by with_unfolding_all rfl) ?_ (by with_unfolding_all decide) (by with_unfolding_all decide))
local macro_rules | `(tactic| walk_at "st") => `(tactic| first
  | with_reducible refine ds_set (x := "_law_k") 0 (by with_unfolding_all exact sc__law_flat.nd) (by with_unfolding_all rfl) (by with_unfolding_all first | exact Or.inl rfl | exact Or.inr rfl) ?_ (by with_unfolding_all rfl) (by with_unfolding_all first | exact .inl rfl | exact .inr rfl)
  | with_reducible refine ds_set (x := "_law_flat_here") 1 (by with_unfolding_all exact sc__law_flat.nd) (by with_unfolding_all rfl) (by with_unfolding_all first | exact Or.inl rfl | exact Or.inr rfl) ?_ (by with_unfolding_all rfl) (by with_unfolding_all first | exact .inl rfl | exact .inr rfl))



theorem kn_law_flat (D : HasDef K mg "_law_flat" s__law_flat ["_law_k"]) (B : Bl mg) (b3 : Knows P w K mg base 5 "greatest_draught" cGreat) (b4 : Knows P w K mg base 5 "sure_draught" cSure) (b5 : Knows P w K mg base 6 "needless_bars" cNeedless) : Knows P w K mg base 7 "_law_flat" cFlat := by
  refine knows_mk D sc__law_flat (fun _ _ _ ⟨_, e, _⟩ => by rw [e]; rfl) (fun f cdv A outer s H E hr svs τ Q hC => ?_)
  obtain ⟨k, rfl, k0, k6, q⟩ := hC
  walk_at "go"
  refine ⟨flatC k, rfl, ok_flat k0 k6, fun m hm => ?_⟩
  have := isMax_uniq hm (sure_flat k0 k6)
  subst this
  walk_at "go"
  refine ⟨flatC m, rfl, ok_flat k0 k6, fun m' hm' => ?_⟩
  have := isMax_uniq hm' (great_flat k0 k6)
  subst this
  walk_at "go"
  refine ⟨flatC m', rfl, ok_flat k0 k6, ?_⟩
  rw [need_flat k0 k6]
  walk_at "go"
  refine eq_same (n := 1) rfl rfl pl_two rfl ?_
  exact q
end
section
variable {P : Program} {w : World} {K : PySem.W.Frag} {mg : Str → Option Value} {base : Heap}
theorem pl_rowsH (rows : List (List Int)) : Pl 2 (.tuple (rows.map tI)) := fun x hx => by
  obtain ⟨r, _, rfl⟩ := List.mem_map.mp hx
  exact pl_tI r
abbrev k74E (ns : List Int) (tw : Addr) (k : Int) (v5 v6 v7 : Option MV) : En := [some (.scr ns), some (.hdl tw), some (.val (tI tideL)), some (.val (chD oneC)), some (.val (.int k)), v5, v6, v7]
abbrev s_law : Stmt := topS 69
theorem sc_law : FnScope ["_law_script", "_law_town_here", "_law_tide", "_law_one", "_law_high", "_law_same", "_law_against", "_law_held"] ["_law_script"] (defScope s_law) := ⟨rfl, rfl, rfl, by decide +kernel, rfl, by decide +kernel, by decide +kernel⟩
local macro_rules | `(tactic| walk_at "nm") => `(tactic| first
  | with_reducible refine de_name (x := "_law_script") 0 (by with_unfolding_all rfl) (by with_unfolding_all first | exact Or.inl rfl | exact Or.inr (Or.inl rfl) | exact Or.inr (Or.inr rfl)) (by with_unfolding_all rfl) ?_ (by with_unfolding_all decide) (by with_unfolding_all decide)
  | with_reducible refine de_name (x := "_law_town_here") 1 (by with_unfolding_all rfl) (by with_unfolding_all first | exact Or.inl rfl | exact Or.inr (Or.inl rfl) | exact Or.inr (Or.inr rfl)) (by with_unfolding_all rfl) ?_ (by with_unfolding_all decide) (by with_unfolding_all decide)
  | with_reducible refine de_name (x := "_law_tide") 2 (by with_unfolding_all rfl) (by with_unfolding_all first | exact Or.inl rfl | exact Or.inr (Or.inl rfl) | exact Or.inr (Or.inr rfl)) (by with_unfolding_all rfl) ?_ (by with_unfolding_all decide) (by with_unfolding_all decide)
  | with_reducible refine de_name (x := "_law_one") 3 (by with_unfolding_all rfl) (by with_unfolding_all first | exact Or.inl rfl | exact Or.inr (Or.inl rfl) | exact Or.inr (Or.inr rfl)) (by with_unfolding_all rfl) ?_ (by with_unfolding_all decide) (by with_unfolding_all decide)
  | with_reducible refine de_name (x := "_law_high") 4 (by with_unfolding_all rfl) (by with_unfolding_all first | exact Or.inl rfl | exact Or.inr (Or.inl rfl) | exact Or.inr (Or.inr rfl)) (by with_unfolding_all rfl) ?_ (by with_unfolding_all decide) (by with_unfolding_all decide)
  | with_reducible refine de_name (x := "_law_same") 5 (by with_unfolding_all rfl) (by with_unfolding_all first | exact Or.inl rfl | exact Or.inr (Or.inl rfl) | exact Or.inr (Or.inr rfl)) (by with_unfolding_all rfl) ?_ (by with_unfolding_all decide) (by with_unfolding_all decide)
  | with_reducible refine de_name (x := "_law_against") 6 (by with_unfolding_all rfl) (by with_unfolding_all first | exact Or.inl rfl | exact Or.inr (Or.inl rfl) | exact Or.inr (Or.inr rfl)) (by with_unfolding_all rfl) ?_ (by with_unfolding_all decide) (by with_unfolding_all decide)
  | with_reducible refine de_name (x := "_law_held") 7 (by with_unfolding_all rfl) (by with_unfolding_all first | exact Or.inl rfl | exact Or.inr (Or.inl rfl) | exact Or.inr (Or.inr rfl)) (by with_unfolding_all rfl) ?_ (by with_unfolding_all decide) (by with_unfolding_all decide))
local macro_rules | `(tactic| walk_at "st") => `(tactic| first
  | with_reducible refine ds_set (x := "_law_script") 0 (by with_unfolding_all exact sc_law.nd) (by with_unfolding_all rfl) (by with_unfolding_all first | exact Or.inl rfl | exact Or.inr rfl) ?_ (by with_unfolding_all rfl) (by with_unfolding_all first | exact .inl rfl | exact .inr rfl)
  | with_reducible refine ds_set (x := "_law_town_here") 1 (by with_unfolding_all exact sc_law.nd) (by with_unfolding_all rfl) (by with_unfolding_all first | exact Or.inl rfl | exact Or.inr rfl) ?_ (by with_unfolding_all rfl) (by with_unfolding_all first | exact .inl rfl | exact .inr rfl)
  | with_reducible refine ds_set (x := "_law_tide") 2 (by with_unfolding_all exact sc_law.nd) (by with_unfolding_all rfl) (by with_unfolding_all first | exact Or.inl rfl | exact Or.inr rfl) ?_ (by with_unfolding_all rfl) (by with_unfolding_all first | exact .inl rfl | exact .inr rfl)
  | with_reducible refine ds_set (x := "_law_one") 3 (by with_unfolding_all exact sc_law.nd) (by with_unfolding_all rfl) (by with_unfolding_all first | exact Or.inl rfl | exact Or.inr rfl) ?_ (by with_unfolding_all rfl) (by with_unfolding_all first | exact .inl rfl | exact .inr rfl)
  | with_reducible refine ds_set (x := "_law_high") 4 (by with_unfolding_all exact sc_law.nd) (by with_unfolding_all rfl) (by with_unfolding_all first | exact Or.inl rfl | exact Or.inr rfl) ?_ (by with_unfolding_all rfl) (by with_unfolding_all first | exact .inl rfl | exact .inr rfl)
  | with_reducible refine ds_set (x := "_law_same") 5 (by with_unfolding_all exact sc_law.nd) (by with_unfolding_all rfl) (by with_unfolding_all first | exact Or.inl rfl | exact Or.inr rfl) ?_ (by with_unfolding_all rfl) (by with_unfolding_all first | exact .inl rfl | exact .inr rfl)
  | with_reducible refine ds_set (x := "_law_against") 6 (by with_unfolding_all exact sc_law.nd) (by with_unfolding_all rfl) (by with_unfolding_all first | exact Or.inl rfl | exact Or.inr rfl) ?_ (by with_unfolding_all rfl) (by with_unfolding_all first | exact .inl rfl | exact .inr rfl)
  | with_reducible refine ds_set (x := "_law_held") 7 (by with_unfolding_all exact sc_law.nd) (by with_unfolding_all rfl) (by with_unfolding_all first | exact Or.inl rfl | exact Or.inr rfl) ?_ (by with_unfolding_all rfl) (by with_unfolding_all first | exact .inl rfl | exact .inr rfl))



theorem ok_law (B : Bl mg) (a1 : Knows P w K mg base 1 "_law_town" cTown) (a2 : Knows P w K mg base 1 "_law_draw" cDraw) (a3 : Knows P w K mg base 7 "_law_flat" cFlat) (b1 : Knows P w K mg base 6 "hours_out" cHours) (b2 : Knows P w K mg base 6 "longest_delay" cDelay) (b3 : Knows P w K mg base 5 "greatest_draught" cGreat) (b4 : Knows P w K mg base 5 "sure_draught" cSure) (b5 : Knows P w K mg base 6 "needless_bars" cNeedless) (b6 : Knows P w K mg base 6 "shortest" cShort) (b7 : Knows P w K mg base 6 "are_alike" cAlike) (b8 : Knows P w K mg base 6 "first_parting" cFirst) (b9 : Knows P w K mg base 6 "is_never_worse" cNever) (b10 : Knows P w K mg base 6 "passages" cPasses) (b11 : Knows P w K mg base 6 "soonest" cSoon) (b12 : Knows P w K mg base 6 "fewest_waits" cFew) (b13 : Knows P w K mg base 6 "back_again" cBackAg) (b14 : Knows P w K mg base 6 "longest_stay" cLong) (b15 : Knows P w K mg base 5 "least_digging" cLeast) (b16 : Knows P w K mg base 5 "dug" cDug) (b17 : Knows P w K mg base 5 "pair_of_passages" cPair) (b18 : Knows P w K mg base 5 "draughts_for" cDues) (b19 : Knows P w K mg base 5 "hours_for" cFits) (b20 : Knows P w K mg base 5 "later" cLater) : KnowsF P w K mg base 8 "law" s_law ["_law_script"] cLaw := by
  refine knowsF_mk sc_law (fun _ _ _ ⟨_, e, _⟩ => by rw [e]; rfl) (fun fa cdv A outer sh H E hr svs τ Q hC => ?_)
  obtain ⟨ns, rfl, hns, rfl, q⟩ := hC
  walk_at "go"
  refine ⟨ns, rfl, by omega, fun tw _ => ?_⟩
  have ht : TnS tw ns.length 0 [(tw, .lst ((0 :: ns).map .int))] := ⟨_, by simp, 0, ns, rfl, rfl, by omega, by omega⟩
  generalize [(tw, MO.lst ((0 :: ns).map .int))] = τ at ht ⊢
  walk_at "gb"
  walk_at "db"
  walk_at "st"
  walk_at "gb"
  walk_at "db"
  refine ds_par 3 4 rfl sc_law.nd rfl rfl (by decide) rfl rfl ?_ (by first | rfl | kernel_rfl)
  walk_at "go"
  refine ⟨ns, tw, _, _, rfl, by omega, by omega, by omega, by omega, ht, fun k' τ1 k0 k1 e1 => ?_⟩
  have ht1 := e1.tn ht.dom
  clear e1 ht τ
  obtain ⟨k, hk⟩ : ∃ k : Int, k = 1 + k' := ⟨_, rfl⟩
  have h1 : 1 ≤ k := by omega
  have h4 : k ≤ 4 := by omega
  walk_at "gb"
  rw [← hk]
  show Db _ (k74E ns tw k none none none) _ _ _
  clear hk k0 k1 k'
  refine db_seq (fun ρ' τ' => τ' = τ1 ∧ ρ' = k74E ns tw k none none none) ?_ ?_
  · unfold k74E
    walk_at "go"
    refine ⟨oneC, k, rfl, ok_one, by omega, by omega, ?_⟩
    have hPl : Pl 1 (tI (hoursOf oneC k)) := pl_tI _
    rw [hours_one h1 h4] at hPl
    rw [hours_one h1 h4]
    refine de_tuple ‹Bl _› rfl ?_
    refine de_listRg2 ‹Bl _› rfl rfl rfl ?_
    walk_at "go"
    refine ⟨by omega, tup_lst rfl ?_⟩
    refine eq_same (n := 1) rfl rfl hPl rfl ?_
    walk_at "go"
    refine ⟨oneC, k, rfl, ok_one, by omega, by omega, ?_⟩
    rw [delay_one h1 h4, show optD (some (2 * k - 1)) = PyData.int (2 * k - 1) from rfl]
    walk_at "go"
    exact ⟨rfl, rfl⟩
  rintro ρ' τ' ⟨rfl, rfl⟩
  refine db_seq (fun ρ' τ1 => τ1 = τ' ∧ ρ' = k74E ns tw k none none none) ?_ ?_
  · unfold k74E
    walk_at "go"
    refine ⟨oneC, rfl, ok_one, fun m hm => ?_⟩
    have := isMax_uniq hm great_one
    subst this
    walk_at "go"
    refine ⟨oneC, rfl, ok_one, fun m hm => ?_⟩
    have := isMax_uniq hm sure_one
    subst this
    walk_at "go"
    refine ⟨oneC, k, rfl, ok_one, by omega, by omega, ?_⟩
    rw [short_one h1 h4]
    walk_at "go"
    refine eq_same (n := 1) rfl rfl (pl_tI [k]) rfl ?_
    walk_at "go"
    exact ⟨rfl, rfl⟩
  rintro ρ' τ1 ⟨rfl, rfl⟩
  walk_at "db"
  refine ds_par 5 6 rfl sc_law.nd rfl rfl (by decide) rfl rfl ?_ (by first | rfl | kernel_rfl)
  walk_at "gb"
  show Db _ (k74E ns tw k (some (.val (chD sameC))) (some (.val (chD agC))) none) _ _ _
  refine db_seq (fun ρ' τ' => τ' = τ1 ∧ ρ' = k74E ns tw k (some (.val (chD sameC))) (some (.val (chD agC))) none) ?_ ?_
  · unfold k74E
    walk_at "go"
    refine ⟨sameC, k, rfl, ok_same, by omega, by omega, ?_⟩
    rw [same_one h1 h4]
    walk_at "go"
    refine ⟨oneC, k, rfl, ok_one, by omega, by omega, ?_⟩
    refine eq_same (n := 1) rfl rfl (pl_tI _) rfl ?_
    walk_at "go"
    refine ⟨sameC, oneC, rfl, ok_same, ok_one, ?_⟩
    rw [alike_one]
    walk_at "go"
    exact ⟨rfl, rfl⟩
  rintro ρ' τ' ⟨rfl, rfl⟩
  refine db_seq (fun ρ' τ1 => τ1 = τ' ∧ ρ' = k74E ns tw k (some (.val (chD sameC))) (some (.val (chD agC))) none) ?_ ?_
  · unfold k74E
    walk_at "go"
    refine ⟨agC, 3, rfl, ok_ag, by decide, by decide, ?_⟩
    rw [hours_ag3]
    walk_at "go"
    refine eq_same (n := 1) rfl rfl (pl_tI []) rfl ?_
    walk_at "go"
    refine ⟨agC, 2, rfl, ok_ag, by decide, by decide, ?_⟩
    rw [hours_ag2]
    walk_at "go"
    refine eq_same (n := 1) rfl rfl (pl_tI [2, 6]) rfl ?_
    walk_at "go"
    refine ⟨agC, rfl, ok_ag, fun m hm => ?_⟩
    have := isMax_uniq hm great_ag
    subst this
    walk_at "go"
    exact ⟨rfl, rfl⟩
  rintro ρ' τ1 ⟨rfl, rfl⟩
  refine db_seq (fun ρ' τ' => τ' = τ1 ∧ ρ' = k74E ns tw k (some (.val (chD sameC))) (some (.val (chD agC))) none) ?_ ?_
  · unfold k74E
    walk_at "go"
    refine ⟨oneC, agC, rfl, ok_one, ok_ag, ?_⟩
    rw [first_ag]
    walk_at "go"
    refine eq_same (n := 1) rfl rfl (pl_tI [1, 4]) rfl ?_
    walk_at "go"
    refine ⟨agC, oneC, rfl, ok_ag, ok_one, ?_⟩
    rw [never_ag]
    walk_at "go"
    exact ⟨rfl, rfl⟩
  rintro ρ' τ' ⟨rfl, rfl⟩
  refine db_seq (fun ρ' τ1 => τ1 = τ' ∧ ρ' = k74E ns tw k (some (.val (chD sameC))) (some (.val (chD agC))) none) ?_ ?_
  · unfold k74E
    walk_at "go"
    refine ⟨sameC, rfl, ok_same, ?_⟩
    rw [need_same]
    walk_at "go"
    refine eq_same (n := 1) rfl rfl (pl_two) rfl ?_
    walk_at "go"
    refine ⟨oneC, rfl, ok_one, ?_⟩
    rw [need_one]
    walk_at "go"
    refine eq_same (n := 1) rfl rfl (pl_tI []) rfl ?_
    walk_at "go"
    refine ⟨agC, 3, rfl, ok_ag, by decide, by decide, ?_⟩
    rw [delay_ag, show optD none = PyData.none from rfl]
    walk_at "go"
    exact ⟨rfl, rfl⟩
  rintro ρ' τ1 ⟨rfl, rfl⟩
  refine db_seq (fun ρ' τ' => τ' = τ1 ∧ ρ' = k74E ns tw k (some (.val (chD sameC))) (some (.val (chD agC))) (some (.val (chD heldC)))) ?_ ?_
  · unfold k74E
    walk_at "go"
    exact ⟨rfl, rfl⟩
  rintro ρ' τ' ⟨rfl, rfl⟩
  refine db_seq (fun ρ' τ1 => τ1 = τ' ∧ ρ' = k74E ns tw k (some (.val (chD sameC))) (some (.val (chD agC))) (some (.val (chD heldC)))) ?_ ?_
  · unfold k74E
    walk_at "go"
    refine ⟨heldC, 4, 4, rfl, ok_held, by decide, by decide, by decide, by decide, ?_⟩
    rw [held4]
    walk_at "go"
    refine eq_same (n := 2) rfl rfl (pl_rowsH []) rfl ?_
    walk_at "go"
    refine ⟨heldC, 3, 4, rfl, ok_held, by decide, by decide, by decide, by decide, ?_⟩
    rw [held3]
    walk_at "go"
    refine eq_same (n := 2) rfl rfl (pl_rowsH [[4, 11]]) rfl ?_
    walk_at "go"
    exact ⟨rfl, rfl⟩
  rintro ρ' τ1 ⟨rfl, rfl⟩
  refine db_seq (fun ρ' τ' => τ' = τ1 ∧ ρ' = k74E ns tw k (some (.val (chD sameC))) (some (.val (chD agC))) (some (.val (chD heldC)))) ?_ ?_
  · unfold k74E
    walk_at "go"
    refine ⟨heldC, 2, 3, rfl, ok_held, by decide, by decide, by decide, by decide, ?_⟩
    rw [soon_held, show optD (some (10)) = PyData.int (10) from rfl]
    walk_at "go"
    refine ⟨heldC, 2, 3, rfl, ok_held, by decide, by decide, by decide, by decide, ?_⟩
    rw [few_held, show optD (some (3)) = PyData.int (3) from rfl]
    walk_at "go"
    exact ⟨rfl, rfl⟩
  rintro ρ' τ' ⟨rfl, rfl⟩
  refine db_seq (fun ρ' τ1 => τ1 = τ' ∧ ρ' = k74E ns tw k (some (.val (chD sameC))) (some (.val (chD agC))) (some (.val (chD heldC)))) ?_ ?_
  · unfold k74E
    walk_at "go"
    refine ⟨oneC, 4, 4, 1, rfl, ok_one, by decide, by decide, by decide, by decide, by decide, by decide, ?_⟩
    rw [home_one, show optD (some (12)) = PyData.int (12) from rfl]
    walk_at "go"
    refine ⟨oneC, 4, 4, 28, rfl, ok_one, by decide, by decide, by decide, by decide, by decide, by decide, ?_⟩
    rw [long_one, show optD (some (24)) = PyData.int (24) from rfl]
    walk_at "go"
    refine ⟨oneC, 4, 4, 3, rfl, ok_one, by decide, by decide, by decide, by decide, by decide, by decide, ?_⟩
    rw [long_no, show optD none = PyData.none from rfl]
    walk_at "go"
    exact ⟨rfl, rfl⟩
  rintro ρ' τ1 ⟨rfl, rfl⟩
  refine db_seq (fun ρ' τ' => τ' = τ1 ∧ ρ' = k74E ns tw k (some (.val (chD sameC))) (some (.val (chD agC))) (some (.val (chD heldC)))) ?_ ?_
  · unfold k74E
    walk_at "go"
    refine ⟨oneC, 4, false, rfl, ok_one, by decide, by decide, fun z hz => ?_⟩
    have := least_one hz
    subst this
    walk_at "go"
    refine eq_same (n := 1) rfl rfl (pl_tI [4]) rfl ?_
    walk_at "go"
    refine ⟨agC, 3, true, rfl, ok_ag, by decide, by decide, fun z hz => ?_⟩
    have := least_ag hz
    subst this
    walk_at "go"
    refine eq_same (n := 1) rfl rfl (pl_tI [0, 2]) rfl ?_
    walk_at "go"
    exact ⟨rfl, rfl⟩
  rintro ρ' τ' ⟨rfl, rfl⟩
  refine db_seq (fun ρ' τ1 => τ1 = τ' ∧ ρ' = k74E ns tw k (some (.val (chD sameC))) (some (.val (chD agC))) (some (.val (chD heldC)))) ?_ ?_
  · unfold k74E
    walk_at "go"
    refine ⟨oneC, [5], rfl, ok_one, rfl, by decide, ?_⟩
    rw [dig_one, show chD ⟨[[5, 6, 6, 6, 6, 6, 6, 6]], [], []⟩ = PyData.tuple [.tuple [.tuple [.int 5, .int 6, .int 6, .int 6, .int 6, .int 6, .int 6, .int 6]], .tuple [], .tuple []] from rfl]
    walk_at "go"
    refine eq_same (n := 1) (d := tI [5, 6, 6]) rfl rfl (pl_tI _) rfl ?_
    walk_at "go"
    refine ⟨oneC, 4, true, rfl, ok_one, by decide, by decide, fun z hz => ?_⟩
    have := least_once hz
    subst this
    walk_at "go"
    refine eq_same (n := 1) rfl rfl (pl_tI [0]) rfl ?_
    walk_at "go"
    exact ⟨rfl, rfl⟩
  rintro ρ' τ1 ⟨rfl, rfl⟩
  refine db_seq (fun ρ' τ' => τ' = τ1 ∧ ρ' = k74E ns tw k (some (.val (chD sameC))) (some (.val (chD agC))) (some (.val (chD heldC)))) ?_ ?_
  · unfold k74E
    walk_at "go"
    refine ⟨oneC, 4, 4, 8, 12, rfl, ok_one, by decide, by decide, by decide, by decide, by decide, by decide, by decide, by decide, ?_⟩
    rw [show pairF (untilL oneC 4 ((12 : Int) + 1).toNat) (untilL oneC 4 ((12 : Int) + 1).toNat) 8 = some ([4], [12]) from pair_one]
    walk_at "go"
    refine eq_same (n := 2) rfl rfl (pl_rowsH [[4], [12]]) rfl ?_
    walk_at "go"
    refine ⟨oneC, 4, 4, 9, 12, rfl, ok_one, by decide, by decide, by decide, by decide, by decide, by decide, by decide, by decide, ?_⟩
    rw [show pairF (untilL oneC 4 ((12 : Int) + 1).toNat) (untilL oneC 4 ((12 : Int) + 1).toNat) 9 = none from pair_no, show pairOD none = PyData.none from rfl]
    walk_at "go"
    exact ⟨rfl, rfl⟩
  rintro ρ' τ' ⟨rfl, rfl⟩
  refine db_seq (fun ρ' τ1 => τ1 = τ' ∧ ρ' = k74E ns tw k (some (.val (chD sameC))) (some (.val (chD agC))) (some (.val (chD heldC)))) ?_ ?_
  · unfold k74E
    walk_at "go"
    refine ⟨oneC, [(3, true), (10, false)], rfl, ok_one, ⟨by decide, by decide, by decide⟩, ?_⟩
    rw [dues_one]
    walk_at "go"
    refine eq_same (n := 1) rfl rfl (pl_tI [3]) rfl ?_
    walk_at "go"
    refine ⟨oneC, [(0, true), (1, false)], rfl, ok_one, ⟨by decide, by decide, by decide⟩, ?_⟩
    rw [dues_no]
    walk_at "go"
    refine eq_same (n := 1) rfl rfl (pl_tI []) rfl ?_
    walk_at "go"
    exact ⟨rfl, rfl⟩
  rintro ρ' τ1 ⟨rfl, rfl⟩
  refine db_seq (fun ρ' τ' => τ' = τ1 ∧ ρ' = k74E ns tw k (some (.val (chD sameC))) (some (.val (chD agC))) (some (.val (chD heldC)))) ?_ ?_
  · unfold k74E
    walk_at "go"
    refine ⟨oneC, 4, [(7, true)], rfl, ok_one, by decide, by decide, ⟨by decide, by decide, by decide⟩, ?_⟩
    rw [fits_one]
    walk_at "go"
    refine eq_same (n := 1) rfl rfl (pl_tI [3]) rfl ?_
    walk_at "go"
    refine ⟨oneC, 4, rfl, ok_one, by decide, by decide, ?_⟩
    rw [shift_one, show chD ⟨[[4, 3, 2, 1, 0, 1, 2, 3]], [], []⟩ = PyData.tuple [.tuple [.tuple [.int 4, .int 3, .int 2, .int 1, .int 0, .int 1, .int 2, .int 3]], .tuple [], .tuple []] from rfl]
    walk_at "go"
    refine eq_same (n := 1) rfl rfl (pl_tI [4, 3, 2, 1, 0, 1, 2, 3]) rfl ?_
    walk_at "go"
    exact ⟨rfl, rfl⟩
  rintro ρ' τ' ⟨rfl, rfl⟩
  unfold k74E
  walk_at "go"
  refine ⟨ns, tw, _, _, rfl, by omega, by omega, by omega, by omega, ht1, fun j τ2 j0 j1 e2 => ?_⟩
  walk_at "go"
  exact ⟨j, rfl, j0, by omega, q _⟩
end
theorem chain {P : Program} {w : World} {K : PySem.W.Frag} {mg : Str → Option Value} (B : Bl mg) (d_is_between : HasDef K mg "is_between" s_is_between ["value", "low", "high"]) (d_are_between : HasDef K mg "are_between" s_are_between ["value", "size", "low", "high"]) (d_is_channel : HasDef K mg "is_channel" s_is_channel ["value"]) (d_check_channel : HasDef K mg "check_channel" s_check_channel ["value"]) (d_check_hour : HasDef K mg "check_hour" s_check_hour ["value"]) (d_check_draught : HasDef K mg "check_draught" s_check_draught ["value"]) (d_divisor : HasDef K mg "divisor" s_divisor ["one", "other"]) (d_period_of : HasDef K mg "period_of" s_period_of ["channel"]) (d_depth_of : HasDef K mg "depth_of" s_depth_of ["channel", "bar", "hour"]) (d_back_of : HasDef K mg "back_of" s_back_of ["channel"]) (d_shifted : HasDef K mg "shifted" s_shifted ["channel", "hours"]) (d_later : HasDef K mg "later" s_later ["channel", "hours"]) (d__law_town : HasDef K mg "_law_town" s__law_town ["_law_script"]) (d__law_draw : HasDef K mg "_law_draw" s__law_draw ["_law_script", "_law_town_here", "_law_limit"]) (d_all_from : HasDef K mg "all_from" s_all_from ["channel", "draught", "hour"]) (d_check_three : HasDef K mg "check_three" s_check_three ["channel", "draught", "hour"]) (d_passages : HasDef K mg "passages" s_passages ["channel", "draught", "hour"]) (d_is_out : HasDef K mg "is_out" s_is_out ["channel", "draught", "hour"]) (d_found_hours : HasDef K mg "found_hours" s_found_hours ["channel", "draught"]) (d_check_two : HasDef K mg "check_two" s_check_two ["channel", "draught"]) (d_hours_out : HasDef K mg "hours_out" s_hours_out ["channel", "draught"]) (d_longest_delay : HasDef K mg "longest_delay" s_longest_delay ["channel", "draught"]) (d_greatest_draught : HasDef K mg "greatest_draught" s_greatest_draught ["channel"]) (d_sure_draught : HasDef K mg "sure_draught" s_sure_draught ["channel"]) (d_is_needless : HasDef K mg "is_needless" s_is_needless ["channel", "bar"]) (d_needless_bars : HasDef K mg "needless_bars" s_needless_bars ["channel"]) (d_shortest : HasDef K mg "shortest" s_shortest ["channel", "draught"]) (d_soonest_from : HasDef K mg "soonest_from" s_soonest_from ["channel", "draught", "hour"]) (d_soonest : HasDef K mg "soonest" s_soonest ["channel", "draught", "hour"]) (d_fewest_waits : HasDef K mg "fewest_waits" s_fewest_waits ["channel", "draught", "hour"]) (d_home_after : HasDef K mg "home_after" s_home_after ["channel", "draught", "hour", "stay"]) (d_back_again : HasDef K mg "back_again" s_back_again ["channel", "draught", "hour", "stay"]) (d_longest_stay : HasDef K mg "longest_stay" s_longest_stay ["channel", "draught", "hour", "end"]) (d_check_both : HasDef K mg "check_both" s_check_both ["one", "other"]) (d_found_partings : HasDef K mg "found_partings" s_found_partings ["one", "other"]) (d_are_alike : HasDef K mg "are_alike" s_are_alike ["one", "other"]) (d_first_parting : HasDef K mg "first_parting" s_first_parting ["one", "other"]) (d_is_never_worse : HasDef K mg "is_never_worse" s_is_never_worse ["one", "other"]) (d_deeper : HasDef K mg "deeper" s_deeper ["channel", "digging"]) (d_dug : HasDef K mg "dug" s_dug ["channel", "digging"]) (d_is_enough : HasDef K mg "is_enough" s_is_enough ["channel", "draught", "aim"]) (d_least_digging : HasDef K mg "least_digging" s_least_digging ["channel", "draught", "aim"]) (d_all_until : HasDef K mg "all_until" s_all_until ["channel", "draught", "end"]) (d_pair_of_passages : HasDef K mg "pair_of_passages" s_pair_of_passages ["channel", "first", "second", "gap", "end"]) (d_does_agree : HasDef K mg "does_agree" s_does_agree ["channel", "draught", "seen"]) (d_check_seen : HasDef K mg "check_seen" s_check_seen ["value"]) (d_draughts_for : HasDef K mg "draughts_for" s_draughts_for ["channel", "seen"]) (d_hours_for : HasDef K mg "hours_for" s_hours_for ["channel", "draught", "seen"]) (d__law_flat : HasDef K mg "_law_flat" s__law_flat ["_law_k"]) : ∀ base, KnowsF P w K mg base 8 "law" s_law ["_law_script"] cLaw := by
    intro base
    have n_kn_is_between := kn_is_between (P := P) (w := w) (base := base) d_is_between B
    have n_kn_are_between := kn_are_between (P := P) (w := w) (base := base) d_are_between B n_kn_is_between
    have n_kn_is_channel := kn_is_channel (P := P) (w := w) (base := base) d_is_channel B n_kn_are_between
    have n_kn_check_channel := kn_check_channel (P := P) (w := w) (base := base) d_check_channel n_kn_is_channel
    have n_kn_check_hour := kn_check_hour (P := P) (w := w) (base := base) d_check_hour n_kn_is_between
    have n_kn_check_draught := kn_check_draught (P := P) (w := w) (base := base) d_check_draught n_kn_is_between
    have n_kn_divisor := kn_divisor (P := P) (w := w) (base := base) d_divisor
    have n_kn_period_of := kn_period_of (P := P) (w := w) (base := base) d_period_of B n_kn_divisor
    have n_kn_depth_of := kn_depth_of (P := P) (w := w) (base := base) d_depth_of B
    have n_kn_back_of := kn_back_of (P := P) (w := w) (base := base) d_back_of
    have n_kn_shifted := kn_shifted (P := P) (w := w) (base := base) d_shifted B
    have n_kn_later := kn_later (P := P) (w := w) (base := base) d_later n_kn_check_channel n_kn_check_hour n_kn_shifted
    have n_kn_law_town := kn_law_town (P := P) (w := w) (base := base) d__law_town B
    have n_kn_law_draw := kn_law_draw (P := P) (w := w) (base := base) d__law_draw B
    have n_kn_all_from := kn_all_from (P := P) (w := w) (base := base) d_all_from B n_kn_depth_of
    have n_kn_check_three := kn_check_three (P := P) (w := w) (base := base) d_check_three n_kn_check_channel n_kn_check_draught n_kn_check_hour
    have n_kn_passages := kn_passages (P := P) (w := w) (base := base) d_passages B n_kn_check_three n_kn_all_from
    have n_kn_is_out := kn_is_out (P := P) (w := w) (base := base) d_is_out B n_kn_all_from
    have n_kn_found_hours := kn_found_hours (P := P) (w := w) (base := base) d_found_hours B n_kn_period_of n_kn_is_out
    have n_kn_check_two := kn_check_two (P := P) (w := w) (base := base) d_check_two n_kn_check_channel n_kn_check_draught
    have n_kn_hours_out := kn_hours_out (P := P) (w := w) (base := base) d_hours_out B n_kn_check_two n_kn_found_hours
    have n_kn_longest_delay := kn_longest_delay (P := P) (w := w) (base := base) d_longest_delay B n_kn_check_two n_kn_found_hours n_kn_period_of
    have n_kn_greatest_draught := kn_greatest_draught (P := P) (w := w) (base := base) d_greatest_draught B n_kn_check_channel n_kn_found_hours
    have n_kn_sure_draught := kn_sure_draught (P := P) (w := w) (base := base) d_sure_draught B n_kn_check_channel n_kn_found_hours n_kn_period_of
    have n_kn_is_needless := kn_is_needless (P := P) (w := w) (base := base) d_is_needless B n_kn_found_hours
    have n_kn_needless_bars := kn_needless_bars (P := P) (w := w) (base := base) d_needless_bars B n_kn_check_channel n_kn_is_needless
    have n_kn_shortest := kn_shortest (P := P) (w := w) (base := base) d_shortest B n_kn_check_two n_kn_found_hours n_kn_all_from
    have n_kn_soonest_from := kn_soonest_from (P := P) (w := w) (base := base) d_soonest_from B n_kn_all_from
    have n_kn_soonest := kn_soonest (P := P) (w := w) (base := base) d_soonest n_kn_check_three n_kn_soonest_from
    have n_kn_fewest_waits := kn_fewest_waits (P := P) (w := w) (base := base) d_fewest_waits B n_kn_check_three n_kn_all_from
    have n_kn_home_after := kn_home_after (P := P) (w := w) (base := base) d_home_after B n_kn_soonest_from n_kn_period_of n_kn_back_of
    have n_kn_back_again := kn_back_again (P := P) (w := w) (base := base) d_back_again n_kn_check_three n_kn_is_between n_kn_home_after
    have n_kn_longest_stay := kn_longest_stay (P := P) (w := w) (base := base) d_longest_stay B n_kn_check_three n_kn_check_hour n_kn_home_after
    have n_kn_check_both := kn_check_both (P := P) (w := w) (base := base) d_check_both n_kn_check_channel
    have n_kn_found_partings := kn_found_partings (P := P) (w := w) (base := base) d_found_partings B n_kn_period_of n_kn_divisor n_kn_is_out
    have n_kn_are_alike := kn_are_alike (P := P) (w := w) (base := base) d_are_alike n_kn_check_both n_kn_found_partings
    have n_kn_first_parting := kn_first_parting (P := P) (w := w) (base := base) d_first_parting n_kn_check_both n_kn_found_partings
    have n_kn_is_never_worse := kn_is_never_worse (P := P) (w := w) (base := base) d_is_never_worse B n_kn_check_both n_kn_found_partings
    have n_kn_deeper := kn_deeper (P := P) (w := w) (base := base) d_deeper B
    have n_kn_dug := kn_dug (P := P) (w := w) (base := base) d_dug B n_kn_check_channel n_kn_are_between n_kn_deeper
    have n_kn_is_enough := kn_is_enough (P := P) (w := w) (base := base) d_is_enough B n_kn_period_of n_kn_is_out
    have n_kn_least_digging := kn_least_digging (P := P) (w := w) (base := base) d_least_digging B n_kn_check_channel n_kn_check_draught n_kn_is_enough n_kn_deeper
    have n_kn_all_until := kn_all_until (P := P) (w := w) (base := base) d_all_until B n_kn_all_from
    have n_kn_pair_of_passages := kn_pair_of_passages (P := P) (w := w) (base := base) d_pair_of_passages B n_kn_check_channel n_kn_check_draught n_kn_is_between n_kn_all_until
    have n_kn_does_agree := kn_does_agree (P := P) (w := w) (base := base) d_does_agree B n_kn_is_out
    have n_kn_check_seen := kn_check_seen (P := P) (w := w) (base := base) d_check_seen B n_kn_is_between
    have n_kn_draughts_for := kn_draughts_for (P := P) (w := w) (base := base) d_draughts_for B n_kn_check_channel n_kn_check_seen n_kn_does_agree
    have n_kn_hours_for := kn_hours_for (P := P) (w := w) (base := base) d_hours_for B n_kn_check_channel n_kn_check_draught n_kn_check_seen n_kn_does_agree n_kn_period_of n_kn_shifted
    have n_kn_law_flat := kn_law_flat (P := P) (w := w) (base := base) d__law_flat B n_kn_greatest_draught n_kn_sure_draught n_kn_needless_bars
    exact ok_law (P := P) (w := w) (base := base) B n_kn_law_town n_kn_law_draw n_kn_law_flat n_kn_hours_out n_kn_longest_delay n_kn_greatest_draught n_kn_sure_draught n_kn_needless_bars n_kn_shortest n_kn_are_alike n_kn_first_parting n_kn_is_never_worse n_kn_passages n_kn_soonest n_kn_fewest_waits n_kn_back_again n_kn_longest_stay n_kn_least_digging n_kn_dug n_kn_pair_of_passages n_kn_draughts_for n_kn_hours_for n_kn_later
end TW
open PySem PySem.W PyProof.Rows
set_option maxRecDepth 100000 in
set_option maxHeartbeats 0 in
theorem PySem.Challenge.cw_tidewindows_k74_tides_by_hand_holds : PySem.Challenge.rw_tidewindows_k74_tides_by_hand.Holds := by
  w_on; o_law; k_head; (case hw => w_witness2)
  k_fill
  refine Dl.walk_law (st := TW.s_law) (l := PySem.Challenge.rw_tidewindows_k74_tides_by_hand) (k := 8) rfl rfl ⟨rfl, by decide, by decide⟩ (fun w h Y => PySem.W.kIn_of Y) ?F
  case F =>
    intro w mg fa h KX G hmg
    have B : Dl.Bl mg := ⟨PySem.W.mg_none_of KX G (by k_is), PySem.W.mg_none_of KX G (by k_is), PySem.W.mg_none_of KX G (by k_is), PySem.W.mg_none_of KX G (by k_is), PySem.W.mg_none_of KX G (by k_is), PySem.W.mg_none_of KX G (by k_is), PySem.W.mg_none_of KX G (by k_is), PySem.W.mg_none_of KX G (by k_is), PySem.W.mg_none_of KX G (by k_is), PySem.W.mg_none_of KX G (by k_is), PySem.W.mg_none_of KX G (by k_is), PySem.W.mg_none_of KX G (by k_is), PySem.W.mg_none_of KX G (by k_is), PySem.W.mg_none_of KX G (by k_is), PySem.W.mg_none_of KX G (by k_is), PySem.W.mg_none_of KX G (by k_is), PySem.W.mg_none_of KX G (by k_is), PySem.W.mg_none_of KX G (by k_is), PySem.W.mg_none_of KX G (by k_is)⟩
    refine' Dl.law_fin (st := TW.s_law) KX G hmg ?a ?l ?c ?k (fun _ _ _ _ _ _ us hl => match us, hl with | [_], _ => rfl) (TW.chain B ?d_is_between ?d_are_between ?d_is_channel ?d_check_channel ?d_check_hour ?d_check_draught ?d_divisor ?d_period_of ?d_depth_of ?d_back_of ?d_shifted ?d_later ?d__law_town ?d__law_draw ?d_all_from ?d_check_three ?d_passages ?d_is_out ?d_found_hours ?d_check_two ?d_hours_out ?d_longest_delay ?d_greatest_draught ?d_sure_draught ?d_is_needless ?d_needless_bars ?d_shortest ?d_soonest_from ?d_soonest ?d_fewest_waits ?d_home_after ?d_back_again ?d_longest_stay ?d_check_both ?d_found_partings ?d_are_alike ?d_first_parting ?d_is_never_worse ?d_deeper ?d_dug ?d_is_enough ?d_least_digging ?d_all_until ?d_pair_of_passages ?d_does_agree ?d_check_seen ?d_draughts_for ?d_hours_for ?d__law_flat)
    (case a => k_is); (case l => k_is); (case c => k_is); (case k => k_is)
    (case d_is_between =>
      refine' Dl.hasDef_mk KX G ?a ?l ?c ?k (fun _ _ _ _ _ _ us hl => match us, hl with | [_, _, _], _ => rfl)
      (case a => k_is); (case l => k_is); (case c => k_is); (case k => k_is))
    (case d_are_between =>
      refine' Dl.hasDef_mk KX G ?a ?l ?c ?k (fun _ _ _ _ _ _ us hl => match us, hl with | [_, _, _, _], _ => rfl)
      (case a => k_is); (case l => k_is); (case c => k_is); (case k => k_is))
    (case d_is_channel =>
      refine' Dl.hasDef_mk KX G ?a ?l ?c ?k (fun _ _ _ _ _ _ us hl => match us, hl with | [_], _ => rfl)
      (case a => k_is); (case l => k_is); (case c => k_is); (case k => k_is))
    (case d_check_channel =>
      refine' Dl.hasDef_mk KX G ?a ?l ?c ?k (fun _ _ _ _ _ _ us hl => match us, hl with | [_], _ => rfl)
      (case a => k_is); (case l => k_is); (case c => k_is); (case k => k_is))
    (case d_check_hour =>
      refine' Dl.hasDef_mk KX G ?a ?l ?c ?k (fun _ _ _ _ _ _ us hl => match us, hl with | [_], _ => rfl)
      (case a => k_is); (case l => k_is); (case c => k_is); (case k => k_is))
    (case d_check_draught =>
      refine' Dl.hasDef_mk KX G ?a ?l ?c ?k (fun _ _ _ _ _ _ us hl => match us, hl with | [_], _ => rfl)
      (case a => k_is); (case l => k_is); (case c => k_is); (case k => k_is))
    (case d_divisor =>
      refine' Dl.hasDef_mk KX G ?a ?l ?c ?k (fun _ _ _ _ _ _ us hl => match us, hl with | [_, _], _ => rfl)
      (case a => k_is); (case l => k_is); (case c => k_is); (case k => k_is))
    (case d_period_of =>
      refine' Dl.hasDef_mk KX G ?a ?l ?c ?k (fun _ _ _ _ _ _ us hl => match us, hl with | [_], _ => rfl)
      (case a => k_is); (case l => k_is); (case c => k_is); (case k => k_is))
    (case d_depth_of =>
      refine' Dl.hasDef_mk KX G ?a ?l ?c ?k (fun _ _ _ _ _ _ us hl => match us, hl with | [_, _, _], _ => rfl)
      (case a => k_is); (case l => k_is); (case c => k_is); (case k => k_is))
    (case d_back_of =>
      refine' Dl.hasDef_mk KX G ?a ?l ?c ?k (fun _ _ _ _ _ _ us hl => match us, hl with | [_], _ => rfl)
      (case a => k_is); (case l => k_is); (case c => k_is); (case k => k_is))
    (case d_shifted =>
      refine' Dl.hasDef_mk KX G ?a ?l ?c ?k (fun _ _ _ _ _ _ us hl => match us, hl with | [_, _], _ => rfl)
      (case a => k_is); (case l => k_is); (case c => k_is); (case k => k_is))
    (case d_later =>
      refine' Dl.hasDef_mk KX G ?a ?l ?c ?k (fun _ _ _ _ _ _ us hl => match us, hl with | [_, _], _ => rfl)
      (case a => k_is); (case l => k_is); (case c => k_is); (case k => k_is))
    (case d__law_town =>
      refine' Dl.hasDef_mk KX G ?a ?l ?c ?k (fun _ _ _ _ _ _ us hl => match us, hl with | [_], _ => rfl)
      (case a => k_is); (case l => k_is); (case c => k_is); (case k => k_is))
    (case d__law_draw =>
      refine' Dl.hasDef_mk KX G ?a ?l ?c ?k (fun _ _ _ _ _ _ us hl => match us, hl with | [_, _, _], _ => rfl)
      (case a => k_is); (case l => k_is); (case c => k_is); (case k => k_is))
    (case d_all_from =>
      refine' Dl.hasDef_mk KX G ?a ?l ?c ?k (fun _ _ _ _ _ _ us hl => match us, hl with | [_, _, _], _ => rfl)
      (case a => k_is); (case l => k_is); (case c => k_is); (case k => k_is))
    (case d_check_three =>
      refine' Dl.hasDef_mk KX G ?a ?l ?c ?k (fun _ _ _ _ _ _ us hl => match us, hl with | [_, _, _], _ => rfl)
      (case a => k_is); (case l => k_is); (case c => k_is); (case k => k_is))
    (case d_passages =>
      refine' Dl.hasDef_mk KX G ?a ?l ?c ?k (fun _ _ _ _ _ _ us hl => match us, hl with | [_, _, _], _ => rfl)
      (case a => k_is); (case l => k_is); (case c => k_is); (case k => k_is))
    (case d_is_out =>
      refine' Dl.hasDef_mk KX G ?a ?l ?c ?k (fun _ _ _ _ _ _ us hl => match us, hl with | [_, _, _], _ => rfl)
      (case a => k_is); (case l => k_is); (case c => k_is); (case k => k_is))
    (case d_found_hours =>
      refine' Dl.hasDef_mk KX G ?a ?l ?c ?k (fun _ _ _ _ _ _ us hl => match us, hl with | [_, _], _ => rfl)
      (case a => k_is); (case l => k_is); (case c => k_is); (case k => k_is))
    (case d_check_two =>
      refine' Dl.hasDef_mk KX G ?a ?l ?c ?k (fun _ _ _ _ _ _ us hl => match us, hl with | [_, _], _ => rfl)
      (case a => k_is); (case l => k_is); (case c => k_is); (case k => k_is))
    (case d_hours_out =>
      refine' Dl.hasDef_mk KX G ?a ?l ?c ?k (fun _ _ _ _ _ _ us hl => match us, hl with | [_, _], _ => rfl)
      (case a => k_is); (case l => k_is); (case c => k_is); (case k => k_is))
    (case d_longest_delay =>
      refine' Dl.hasDef_mk KX G ?a ?l ?c ?k (fun _ _ _ _ _ _ us hl => match us, hl with | [_, _], _ => rfl)
      (case a => k_is); (case l => k_is); (case c => k_is); (case k => k_is))
    (case d_greatest_draught =>
      refine' Dl.hasDef_mk KX G ?a ?l ?c ?k (fun _ _ _ _ _ _ us hl => match us, hl with | [_], _ => rfl)
      (case a => k_is); (case l => k_is); (case c => k_is); (case k => k_is))
    (case d_sure_draught =>
      refine' Dl.hasDef_mk KX G ?a ?l ?c ?k (fun _ _ _ _ _ _ us hl => match us, hl with | [_], _ => rfl)
      (case a => k_is); (case l => k_is); (case c => k_is); (case k => k_is))
    (case d_is_needless =>
      refine' Dl.hasDef_mk KX G ?a ?l ?c ?k (fun _ _ _ _ _ _ us hl => match us, hl with | [_, _], _ => rfl)
      (case a => k_is); (case l => k_is); (case c => k_is); (case k => k_is))
    (case d_needless_bars =>
      refine' Dl.hasDef_mk KX G ?a ?l ?c ?k (fun _ _ _ _ _ _ us hl => match us, hl with | [_], _ => rfl)
      (case a => k_is); (case l => k_is); (case c => k_is); (case k => k_is))
    (case d_shortest =>
      refine' Dl.hasDef_mk KX G ?a ?l ?c ?k (fun _ _ _ _ _ _ us hl => match us, hl with | [_, _], _ => rfl)
      (case a => k_is); (case l => k_is); (case c => k_is); (case k => k_is))
    (case d_soonest_from =>
      refine' Dl.hasDef_mk KX G ?a ?l ?c ?k (fun _ _ _ _ _ _ us hl => match us, hl with | [_, _, _], _ => rfl)
      (case a => k_is); (case l => k_is); (case c => k_is); (case k => k_is))
    (case d_soonest =>
      refine' Dl.hasDef_mk KX G ?a ?l ?c ?k (fun _ _ _ _ _ _ us hl => match us, hl with | [_, _, _], _ => rfl)
      (case a => k_is); (case l => k_is); (case c => k_is); (case k => k_is))
    (case d_fewest_waits =>
      refine' Dl.hasDef_mk KX G ?a ?l ?c ?k (fun _ _ _ _ _ _ us hl => match us, hl with | [_, _, _], _ => rfl)
      (case a => k_is); (case l => k_is); (case c => k_is); (case k => k_is))
    (case d_home_after =>
      refine' Dl.hasDef_mk KX G ?a ?l ?c ?k (fun _ _ _ _ _ _ us hl => match us, hl with | [_, _, _, _], _ => rfl)
      (case a => k_is); (case l => k_is); (case c => k_is); (case k => k_is))
    (case d_back_again =>
      refine' Dl.hasDef_mk KX G ?a ?l ?c ?k (fun _ _ _ _ _ _ us hl => match us, hl with | [_, _, _, _], _ => rfl)
      (case a => k_is); (case l => k_is); (case c => k_is); (case k => k_is))
    (case d_longest_stay =>
      refine' Dl.hasDef_mk KX G ?a ?l ?c ?k (fun _ _ _ _ _ _ us hl => match us, hl with | [_, _, _, _], _ => rfl)
      (case a => k_is); (case l => k_is); (case c => k_is); (case k => k_is))
    (case d_check_both =>
      refine' Dl.hasDef_mk KX G ?a ?l ?c ?k (fun _ _ _ _ _ _ us hl => match us, hl with | [_, _], _ => rfl)
      (case a => k_is); (case l => k_is); (case c => k_is); (case k => k_is))
    (case d_found_partings =>
      refine' Dl.hasDef_mk KX G ?a ?l ?c ?k (fun _ _ _ _ _ _ us hl => match us, hl with | [_, _], _ => rfl)
      (case a => k_is); (case l => k_is); (case c => k_is); (case k => k_is))
    (case d_are_alike =>
      refine' Dl.hasDef_mk KX G ?a ?l ?c ?k (fun _ _ _ _ _ _ us hl => match us, hl with | [_, _], _ => rfl)
      (case a => k_is); (case l => k_is); (case c => k_is); (case k => k_is))
    (case d_first_parting =>
      refine' Dl.hasDef_mk KX G ?a ?l ?c ?k (fun _ _ _ _ _ _ us hl => match us, hl with | [_, _], _ => rfl)
      (case a => k_is); (case l => k_is); (case c => k_is); (case k => k_is))
    (case d_is_never_worse =>
      refine' Dl.hasDef_mk KX G ?a ?l ?c ?k (fun _ _ _ _ _ _ us hl => match us, hl with | [_, _], _ => rfl)
      (case a => k_is); (case l => k_is); (case c => k_is); (case k => k_is))
    (case d_deeper =>
      refine' Dl.hasDef_mk KX G ?a ?l ?c ?k (fun _ _ _ _ _ _ us hl => match us, hl with | [_, _], _ => rfl)
      (case a => k_is); (case l => k_is); (case c => k_is); (case k => k_is))
    (case d_dug =>
      refine' Dl.hasDef_mk KX G ?a ?l ?c ?k (fun _ _ _ _ _ _ us hl => match us, hl with | [_, _], _ => rfl)
      (case a => k_is); (case l => k_is); (case c => k_is); (case k => k_is))
    (case d_is_enough =>
      refine' Dl.hasDef_mk KX G ?a ?l ?c ?k (fun _ _ _ _ _ _ us hl => match us, hl with | [_, _, _], _ => rfl)
      (case a => k_is); (case l => k_is); (case c => k_is); (case k => k_is))
    (case d_least_digging =>
      refine' Dl.hasDef_mk KX G ?a ?l ?c ?k (fun _ _ _ _ _ _ us hl => match us, hl with | [_, _, _], _ => rfl)
      (case a => k_is); (case l => k_is); (case c => k_is); (case k => k_is))
    (case d_all_until =>
      refine' Dl.hasDef_mk KX G ?a ?l ?c ?k (fun _ _ _ _ _ _ us hl => match us, hl with | [_, _, _], _ => rfl)
      (case a => k_is); (case l => k_is); (case c => k_is); (case k => k_is))
    (case d_pair_of_passages =>
      refine' Dl.hasDef_mk KX G ?a ?l ?c ?k (fun _ _ _ _ _ _ us hl => match us, hl with | [_, _, _, _, _], _ => rfl)
      (case a => k_is); (case l => k_is); (case c => k_is); (case k => k_is))
    (case d_does_agree =>
      refine' Dl.hasDef_mk KX G ?a ?l ?c ?k (fun _ _ _ _ _ _ us hl => match us, hl with | [_, _, _], _ => rfl)
      (case a => k_is); (case l => k_is); (case c => k_is); (case k => k_is))
    (case d_check_seen =>
      refine' Dl.hasDef_mk KX G ?a ?l ?c ?k (fun _ _ _ _ _ _ us hl => match us, hl with | [_], _ => rfl)
      (case a => k_is); (case l => k_is); (case c => k_is); (case k => k_is))
    (case d_draughts_for =>
      refine' Dl.hasDef_mk KX G ?a ?l ?c ?k (fun _ _ _ _ _ _ us hl => match us, hl with | [_, _], _ => rfl)
      (case a => k_is); (case l => k_is); (case c => k_is); (case k => k_is))
    (case d_hours_for =>
      refine' Dl.hasDef_mk KX G ?a ?l ?c ?k (fun _ _ _ _ _ _ us hl => match us, hl with | [_, _, _], _ => rfl)
      (case a => k_is); (case l => k_is); (case c => k_is); (case k => k_is))
    (case d__law_flat =>
      refine' Dl.hasDef_mk KX G ?a ?l ?c ?k (fun _ _ _ _ _ _ us hl => match us, hl with | [_], _ => rfl)
      (case a => k_is); (case l => k_is); (case c => k_is); (case k => k_is))
