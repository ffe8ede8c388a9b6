import PyProof.Rows.All
import Wide.All
import OpenK.AllK
import Wide.FinOn
import HandS.ForMost
import HandS.TupAny
import HandS.TupMul
import HandS.Style
import HandS.Zip
import HandS.IsInst
import HandS.Deep
import HandS.Conv
import HandS.SortRule
import HandS.SortInts
import KE.GoesMore
import KE.GoesEnum
import KE.DataMinMax
import PyProof.Rows.SumAny
import KE.DataCmp
import PyProof.Claim2Refuses
import HandS.TryOnly
import HandS.SetFor
import HandS.Strs
import KE.SortData
import PyProof.Rows.SetFrom
import PySem.Challenge.RW_tidewindows_k60_whole_watching
set_option Elab.async false
set_option linter.all false
set_option maxRecDepth 100000
set_option maxHeartbeats 4000000
/-! Dl: a judgement without heaps over the hand layer. Values as data (PyData); a store of the objects that change. -/
namespace Dl
open PySem PySem.Spec L2

/-! ### data in the heap -/
def KLst (K : PySem.W.Frag) (a : Addr) (xs : List V) : Prop :=
  ∃ (o : Obj) (its : Array Value) (n : Nat), K.lookup a = some o ∧ o.cls = .type "list" ∧ o.dict = none ∧ o.data = .seq its n ∧ its.size ≤ sizeLine ∧ Vals xs its.toList
/-- N: the addresses of what may change -/
def NdL (N : List Addr) (H : Hp) (a : Addr) (xs : List V) : Prop := a ∉ N ∧ H a = some (.lst xs)
def NdT (N : List Addr) (H : Hp) (a : Addr) (xs : List V) : Prop := a ∉ N ∧ H a = some (.tup xs)
mutual
inductive Dn (K : PySem.W.Frag) (N : List Addr) (H : Hp) : V → PyData → Prop
  | non : Dn K N H .non .none
  | bl (b : Bool) : Dn K N H (.bl b) (.bool b)
  | int (i : Int) : Dn K N H (.int i) (.int i)
  | str (x : Str) : Dn K N H (.str x) (.str x)
  | lst {a : Addr} {xs : List V} {ds : List PyData} : NdL N H a xs → DnL K N H xs ds → Dn K N H (.ref a) (.list ds)
  | tup {a : Addr} {xs : List V} {ds : List PyData} : NdT N H a xs → DnL K N H xs ds → Dn K N H (.ref a) (.tuple ds)
inductive DnL (K : PySem.W.Frag) (N : List Addr) (H : Hp) : List V → List PyData → Prop
  | nil : DnL K N H [] []
  | cons {v : V} {vs : List V} {d : PyData} {ds : List PyData} : Dn K N H v d → DnL K N H vs ds → DnL K N H (v :: vs) (d :: ds)
end
/-- from one heap to a later one: what is known and may not change stays -/
def Tr (N : List Addr) (H : Hp) (N' : List Addr) (H' : Hp) : Prop := ∀ a o, a ∉ N → H a = some o → H' a = some o ∧ a ∉ N'
theorem Tr.refl {N : List Addr} {H : Hp} : Tr N H N H := fun _ _ n h => ⟨h, n⟩
theorem Tr.trans {N N1 N2 : List Addr} {H H1 H2 : Hp} (a : Tr N H N1 H1) (b : Tr N1 H1 N2 H2) : Tr N H N2 H2 := fun x o n h => by
  obtain ⟨h1, n1⟩ := a x o n h
  exact b x o n1 h1
theorem Tr.new {N : List Addr} {H : Hp} {p : Addr} {o : HO} (h : H p = none) : Tr N H N (upd H p o) := fun a u n e => ⟨by
  rw [upd_ne (ne_of_none e h)]
  exact e, n⟩
section
variable {K : PySem.W.Frag} {N N' : List Addr} {H H' : Hp}
theorem NdL.tr {a : Addr} {xs : List V} (t : Tr N H N' H') (h : NdL N H a xs) : NdL N' H' a xs := by
  obtain ⟨h1, n1⟩ := t a _ h.1 h.2
  exact ⟨n1, h1⟩
theorem NdT.tr {a : Addr} {xs : List V} (t : Tr N H N' H') (h : NdT N H a xs) : NdT N' H' a xs := by
  obtain ⟨h1, n1⟩ := t a _ h.1 h.2
  exact ⟨n1, h1⟩
mutual
theorem Dn.tr (t : Tr N H N' H') : ∀ {v : V} {d : PyData}, Dn K N H v d → Dn K N' H' v d
  | _, _, .non => .non
  | _, _, .bl b => .bl b
  | _, _, .int i => .int i
  | _, _, .str x => .str x
  | _, _, .lst n l => .lst (n.tr t) (DnL.tr t l)
  | _, _, .tup n l => .tup (n.tr t) (DnL.tr t l)
theorem DnL.tr (t : Tr N H N' H') : ∀ {vs : List V} {ds : List PyData}, DnL K N H vs ds → DnL K N' H' vs ds
  | _, _, .nil => .nil
  | _, _, .cons a b => .cons (Dn.tr t a) (DnL.tr t b)
end
theorem NdL.sq {a : Addr} {xs : List V} (h : NdL N H a xs) : SqL K H a xs := SqL.of h.2
theorem NdT.sq {a : Addr} {xs : List V} (h : NdT N H a xs) : SqT K H a xs := SqT.of h.2
mutual
theorem Dn.dp : ∀ {v : V} {d : PyData}, Dn K N H v d → Dp K H v d
  | _, _, .non => .non
  | _, _, .bl b => .bl b
  | _, _, .int i => .int i
  | _, _, .str x => .str x
  | _, _, .lst n l => .lst n.sq (DnL.dp l)
  | _, _, .tup n l => .tup n.sq (DnL.dp l)
theorem DnL.dp : ∀ {vs : List V} {ds : List PyData}, DnL K N H vs ds → DpAll K H vs ds
  | _, _, .nil => .nil
  | _, _, .cons a b => .cons (Dn.dp a) (DnL.dp b)
end
theorem DnL.length : ∀ {vs : List V} {ds : List PyData}, DnL K N H vs ds → vs.length = ds.length
  | _, _, .nil => rfl
  | _, _, .cons _ b => by rw [List.length_cons, List.length_cons, DnL.length b]
theorem DnL.get : ∀ {vs : List V} {ds : List PyData} {i : Nat} {v : V}, DnL K N H vs ds → vs[i]? = some v → ∃ d, ds[i]? = some d ∧ Dn K N H v d
  | _, _, _, _, .nil, e => by simp at e
  | _, _, 0, _, .cons a _, e => by
    simp at e
    subst e
    exact ⟨_, rfl, a⟩
  | _, _, i + 1, v, .cons _ b, e => by
    obtain ⟨d, h1, h2⟩ := DnL.get (i := i) (v := v) b (by simpa using e)
    exact ⟨d, by simpa using h1, h2⟩
theorem DnL.getD : ∀ {vs : List V} {ds : List PyData} {i : Nat} {d : PyData}, DnL K N H vs ds → ds[i]? = some d → ∃ v, vs[i]? = some v ∧ Dn K N H v d
  | _, _, _, _, .nil, e => by simp at e
  | _, _, 0, _, .cons a _, e => by
    simp at e
    subst e
    exact ⟨_, rfl, a⟩
  | _, _, i + 1, d, .cons _ b, e => by
    obtain ⟨v, h1, h2⟩ := DnL.getD (i := i) (d := d) b (by simpa using e)
    exact ⟨v, by simpa using h1, h2⟩
theorem DnL.append : ∀ {vs ws : List V} {ds es : List PyData}, DnL K N H vs ds → DnL K N H ws es → DnL K N H (vs ++ ws) (ds ++ es)
  | _, _, _, _, .nil, b => b
  | _, _, _, _, .cons a c, b => .cons a (DnL.append c b)
theorem DnL.take : ∀ {vs : List V} {ds : List PyData} (n : Nat), DnL K N H vs ds → DnL K N H (vs.take n) (ds.take n)
  | _, _, 0, _ => .nil
  | _, _, _ + 1, .nil => .nil
  | _, _, n + 1, .cons a b => .cons a (DnL.take n b)
theorem DnL.drop : ∀ {vs : List V} {ds : List PyData} (n : Nat), DnL K N H vs ds → DnL K N H (vs.drop n) (ds.drop n)
  | _, _, 0, a => a
  | _, _, _ + 1, .nil => .nil
  | _, _, n + 1, .cons _ b => DnL.drop n b
theorem DnL.reverse : ∀ {vs : List V} {ds : List PyData}, DnL K N H vs ds → DnL K N H vs.reverse ds.reverse
  | _, _, .nil => .nil
  | _, _, .cons a b => by
    rw [List.reverse_cons, List.reverse_cons]
    exact (DnL.reverse b).append (.cons a .nil)
theorem DnL.set : ∀ {vs : List V} {ds : List PyData} {v : V} {d : PyData} (i : Nat), DnL K N H vs ds → Dn K N H v d → DnL K N H (vs.set i v) (ds.set i d)
  | _, _, _, _, _, .nil, _ => .nil
  | _, _, _, _, 0, .cons _ b, h => .cons h b
  | _, _, _, _, i + 1, .cons a b, h => .cons a (DnL.set i b h)
theorem DnL.dropLast : ∀ {vs : List V} {ds : List PyData}, DnL K N H vs ds → DnL K N H vs.dropLast ds.dropLast
  | _, _, .nil => .nil
  | _, _, .cons a .nil => .nil
  | _, _, .cons a (.cons b c) => .cons a (DnL.dropLast (.cons b c))
theorem DnL.ints : ∀ {vs : List V} {ns : List Int}, DnL K N H vs (ns.map PyData.int) → vs = ns.map V.int
  | [], [], _ => rfl
  | _ :: _, [], h => nomatch h
  | [], _ :: _, h => nomatch h
  | v :: vs, n :: ns, h => by
    cases h with
    | cons a b =>
      cases a
      rw [DnL.ints b]
      all_goals rfl
theorem DnL.of_ints : ∀ {ns : List Int}, DnL K N H (ns.map V.int) (ns.map PyData.int)
  | [] => .nil
  | n :: ns => .cons (.int n) DnL.of_ints
theorem DnL.bools : ∀ {vs : List V} {bs : List Bool}, DnL K N H vs (bs.map PyData.bool) → vs = bs.map V.bl
  | [], [], _ => rfl
  | _ :: _, [], h => nomatch h
  | [], _ :: _, h => nomatch h
  | v :: vs, n :: ns, h => by
    cases h with
    | cons a b =>
      cases a
      rw [DnL.bools b]
      all_goals rfl
theorem DnL.texts : ∀ {vs : List V} {bs : List Str}, DnL K N H vs (bs.map PyData.str) → vs = bs.map V.str
  | [], [], _ => rfl
  | _ :: _, [], h => nomatch h
  | [], _ :: _, h => nomatch h
  | v :: vs, n :: ns, h => by
    cases h with
    | cons a b =>
      cases a
      rw [DnL.texts b]
      all_goals rfl
end

/-! ### the store: what may change -/
/-- a value: data, or the address of something that changes -/
inductive MV where
  | val (d : PyData) | hdl (a : Addr)
  /-- the script -/
  | scr (ns : List Int)
inductive MO where
  | lst (ds : List PyData) | ins (C dx : Addr) (fs : List (Str × MV))
abbrev Store := List (Addr × MO)
abbrev dom (τ : Store) : List Addr := τ.map (·.1)
def ScrOk (K : PySem.W.Frag) (N : List Addr) (H : Hp) (a : Addr) (ns : List Int) : Prop := (a ∉ N ∧ ∃ o, H a = some (.frz o (.lst (ns.map V.int)))) ∨ KLst K a (ns.map V.int)
def Rv (K : PySem.W.Frag) (N : List Addr) (H : Hp) (v : V) : MV → Prop
  | .val d => Dn K N H v d
  | .hdl a => v = .ref a
  | .scr ns => ∃ a, v = .ref a ∧ ScrOk K N H a ns
abbrev RvL (K : PySem.W.Frag) (N : List Addr) (H : Hp) : List V → List MV → Prop := Paired (Rv K N H)
def MOk (K : PySem.W.Frag) (N : List Addr) (H : Hp) (a : Addr) : MO → Prop
  | .lst ds => ∃ vs, H a = some (.lst vs) ∧ DnL K N H vs ds
  | .ins C dx fs => ∃ vs, H a = some (.ins C dx vs) ∧ Paired (fun (p : Str × V) (q : Str × MV) => p.1 = q.1 ∧ Rv K N H p.2 q.2) vs fs
structure StOk (K : PySem.W.Frag) (H : Hp) (τ : Store) : Prop where
  nd : (dom τ).Nodup
  ok : ∀ p ∈ τ, MOk K (dom τ) H p.1 p.2
abbrev En := List (Option MV)
structure SlOk (K : PySem.W.Frag) (N : List Addr) (H : Hp) (σ : St) (ρ : En) : Prop where
  len : σ.length = ρ.length
  ok : ∀ (i : Nat) (sv : MV), ρ[i]? = some (some sv) → ∃ v, σ[i]? = some (some v) ∧ Rv K N H v sv
section
variable {K : PySem.W.Frag} {N N' : List Addr} {H H' : Hp}
theorem Rv.tr (t : Tr N H N' H') {v : V} {sv : MV} (h : Rv K N H v sv) : Rv K N' H' v sv := by
  cases sv with
  | val d => exact Dn.tr t h
  | hdl a => exact h
  | scr ns =>
    obtain ⟨a, e, h⟩ := h
    refine ⟨a, e, ?_⟩
    rcases h with ⟨n, o, h⟩ | h
    · obtain ⟨h1, n1⟩ := t a _ n h
      exact .inl ⟨n1, o, h1⟩
    · exact .inr h
theorem ScrOk.sq {a : Addr} {ns : List Int} (h : ScrOk K N H a ns) : SqL K H a (ns.map V.int) := by
  rcases h with ⟨_, o, h⟩ | h
  · exact .inl (.inr ⟨o, h⟩)
  · exact .inr h
theorem RvL.tr (t : Tr N H N' H') {vs : List V} {svs : List MV} (h : RvL K N H vs svs) : RvL K N' H' vs svs := Paired.mapP h fun _ _ q => Rv.tr t q
theorem SlOk.tr (t : Tr N H N' H') {σ : St} {ρ : En} (h : SlOk K N H σ ρ) : SlOk K N' H' σ ρ := ⟨h.len, fun i sv e => by
  obtain ⟨v, h1, h2⟩ := h.ok i sv e
  exact ⟨v, h1, h2.tr t⟩⟩
theorem SlOk.set {σ : St} {ρ : En} {v : V} {sv : MV} (h : SlOk K N H σ ρ) (r : Rv K N H v sv) (i : Nat) : SlOk K N H (σ.set i (some v)) (ρ.set i (some sv)) := by
  refine ⟨by rw [List.length_set, List.length_set, h.len], fun j sv' e => ?_⟩
  by_cases hj : i = j
  · subst hj
    by_cases hl : i < ρ.length
    · rw [List.getElem?_set_self hl] at e
      cases e
      exact ⟨v, List.getElem?_set_self (by rw [h.len]; exact hl), r⟩
    · rw [List.getElem?_eq_none (by rw [List.length_set]; omega)] at e
      cases e
  · rw [List.getElem?_set_ne hj] at e
    obtain ⟨v', h1, h2⟩ := h.ok j sv' e
    exact ⟨v', by rw [List.getElem?_set_ne hj]; exact h1, h2⟩
theorem SlOk.set_none {σ : St} {ρ : En} (h : SlOk K N H σ ρ) (i : Nat) : SlOk K N H (σ.set i none) (ρ.set i none) := by
  refine ⟨by rw [List.length_set, List.length_set, h.len], fun j sv' e => ?_⟩
  by_cases hj : i = j
  · subst hj
    by_cases hl : i < ρ.length
    · rw [List.getElem?_set_self hl] at e
      cases e
    · rw [List.getElem?_eq_none (by rw [List.length_set]; omega)] at e
      cases e
  · rw [List.getElem?_set_ne hj] at e
    obtain ⟨v', h1, h2⟩ := h.ok j sv' e
    exact ⟨v', by rw [List.getElem?_set_ne hj]; exact h1, h2⟩
def wipeE (ρ : En) : List Nat → En
  | [] => ρ
  | v :: vs => (wipeE ρ vs).set v none
theorem SlOk.wipe {σ : St} {ρ : En} (h : SlOk K N H σ ρ) : ∀ vs : List Nat, SlOk K N H (L2.wipe σ vs) (wipeE ρ vs)
  | [] => h
  | _ :: vs => (SlOk.wipe h vs).set_none _
theorem MOk.ex {a : Addr} {mo : MO} (h : MOk K N H a mo) : ∃ o, H a = some o := by
  cases mo with
  | lst ds =>
    obtain ⟨vs, h, _⟩ := h
    exact ⟨_, h⟩
  | ins C dx fs =>
    obtain ⟨vs, h, _⟩ := h
    exact ⟨_, h⟩
theorem StOk.ex {τ : Store} (h : StOk K H τ) {a : Addr} (ha : a ∈ dom τ) : ∃ o, H a = some o := by
  obtain ⟨p, hp, rfl⟩ := List.mem_map.mp ha
  exact (h.ok p hp).ex
theorem StOk.fresh {τ : Store} (h : StOk K H τ) {a : Addr} (ha : H a = none) : a ∉ dom τ := fun q => by
  obtain ⟨o, e⟩ := h.ex q
  rw [ha] at e
  cases e
theorem mem_of_lookup {τ : Store} {a : Addr} {mo : MO} : τ.lookup a = some mo → (a, mo) ∈ τ := by
  induction τ with
  | nil => intro h; simp at h
  | cons p r ih =>
    intro h
    obtain ⟨b, m⟩ := p
    rw [List.lookup_cons] at h
    by_cases e : a = b
    · subst e
      simp at h
      subst h
      exact List.mem_cons_self
    · rw [show (a == b) = false from beq_eq_false_iff_ne.mpr e] at h
      exact List.mem_cons_of_mem _ (ih h)
theorem StOk.get {τ : Store} (h : StOk K H τ) {a : Addr} {mo : MO} (e : τ.lookup a = some mo) : MOk K (dom τ) H a mo := h.ok _ (mem_of_lookup e)
theorem MOk.tr' {a : Addr} {mo : MO} (h : MOk K N H a mo) (ha : H' a = H a) (t : Tr N H N' H') : MOk K N' H' a mo := by
  cases mo with
  | lst ds =>
    obtain ⟨vs, h1, h2⟩ := h
    exact ⟨vs, by rw [ha]; exact h1, h2.tr t⟩
  | ins C dx fs =>
    obtain ⟨vs, h1, h2⟩ := h
    exact ⟨vs, by rw [ha]; exact h1, Paired.mapP h2 fun _ _ q => ⟨q.1, q.2.tr t⟩⟩
/-- a new object that is data: the store stays -/
theorem StOk.new {τ : Store} (h : StOk K H τ) {p : Addr} {o : HO} (hp : H p = none) : StOk K (upd H p o) τ := by
  refine ⟨h.nd, fun q hq => (h.ok q hq).tr' (upd_ne fun e => ?_) (Tr.new hp)⟩
  obtain ⟨u, hu⟩ := (h.ok q hq).ex
  rw [e, hp] at hu
  cases hu
/-- replace -/
def setS (a : Addr) (mo : MO) : Store → Store
  | [] => []
  | (b, m) :: r => if b = a then (b, mo) :: r else (b, m) :: setS a mo r
theorem dom_setS (a : Addr) (mo : MO) : ∀ τ : Store, dom (setS a mo τ) = dom τ
  | [] => rfl
  | (b, m) :: r => by
    unfold setS
    split
    · rfl
    · show b :: dom (setS a mo r) = b :: dom r
      rw [dom_setS a mo r]
theorem mem_setS {a : Addr} {mo : MO} : ∀ {τ : Store} {p : Addr × MO}, (dom τ).Nodup → p ∈ setS a mo τ → (p = (a, mo)) ∨ (p ∈ τ ∧ p.1 ≠ a)
  | [], p, _, h => by cases h
  | (b, m) :: r, p, nd, h => by
    unfold setS at h
    have hb : b ∉ dom r := (List.nodup_cons.mp nd).1
    split at h
    · rename_i e
      subst e
      rcases List.mem_cons.mp h with h | h
      · exact .inl h
      · refine .inr ⟨List.mem_cons_of_mem _ h, fun e => hb ?_⟩
        rw [← e]
        exact List.mem_map_of_mem h
    · rename_i e
      rcases List.mem_cons.mp h with h | h
      · subst h
        exact .inr ⟨List.mem_cons_self, e⟩
      · rcases mem_setS (List.nodup_cons.mp nd).2 h with q | ⟨q, q2⟩
        · exact .inl q
        · exact .inr ⟨List.mem_cons_of_mem _ q, q2⟩
theorem Tr.write {τ : Store} {a : Addr} {o : HO} (ha : a ∈ dom τ) : Tr (dom τ) H (dom τ) (upd H a o) := fun b u n e => ⟨by
  rw [upd_ne fun q => n (by rw [q]; exact ha)]
  exact e, n⟩
theorem StOk.write {τ : Store} (h : StOk K H τ) {a : Addr} {o : HO} {mo : MO} (ha : a ∈ dom τ) (new : MOk K (dom τ) (upd H a o) a mo) : StOk K (upd H a o) (setS a mo τ) := by
  refine ⟨by rw [dom_setS]; exact h.nd, fun q hq => ?_⟩
  rw [dom_setS]
  rcases mem_setS h.nd hq with rfl | ⟨h1, h2⟩
  · exact new
  · exact (h.ok q h1).tr' (upd_ne h2) (Tr.write ha)
/-- a new object goes onto the store -/
theorem Tr.push {τ : Store} {p : Addr} {o : HO} {mo : MO} (hp : H p = none) : Tr (dom τ) H (dom ((p, mo) :: τ)) (upd H p o) := fun a u n e => by
  have na : a ≠ p := ne_of_none e hp
  refine ⟨by rw [upd_ne na]; exact e, fun q => ?_⟩
  rcases List.mem_cons.mp q with q | q
  · exact na q
  · exact n q
theorem StOk.push {τ : Store} (h : StOk K H τ) {p : Addr} {o : HO} {mo : MO} (hp : H p = none) (new : MOk K (dom ((p, mo) :: τ)) (upd H p o) p mo) : StOk K (upd H p o) ((p, mo) :: τ) := by
  refine ⟨List.nodup_cons.mpr ⟨h.fresh hp, h.nd⟩, fun q hq => ?_⟩
  rcases List.mem_cons.mp hq with rfl | hq
  · exact new
  · refine (h.ok q hq).tr' (upd_ne fun e => ?_) (Tr.push hp)
    obtain ⟨u, hu⟩ := (h.ok q hq).ex
    rw [e, hp] at hu
    cases hu
/-- an object leaves the store: from now on it is data -/
theorem Tr.drop {τ : Store} {p : Addr × MO} : Tr (dom (p :: τ)) H (dom τ) H := fun _ _ n e => ⟨e, fun q => n (List.mem_cons_of_mem _ q)⟩
theorem StOk.drop {τ : Store} {p : Addr × MO} (h : StOk K H (p :: τ)) : StOk K H τ :=
  ⟨(List.nodup_cons.mp h.nd).2, fun q hq => (h.ok q (List.mem_cons_of_mem _ hq)).tr' rfl Tr.drop⟩
end

/-! ### readings that say all: what the machine does -/
section
variable (X : Cx)
def We (e : Expr) : TE := fun σ H Q => ∀ (pins : List (Addr × Obj)) (s : Shared), Inv X pins σ H s → wpAny (model X.prog X.w) X.A (eval e X.env) (EP X pins σ Q) X.xe s
def Wt (e : Expr) : TT := fun σ H Q => ∀ (pins : List (Addr × Obj)) (s : Shared), Inv X pins σ H s → wpAny (model X.prog X.w) X.A (isTrue e X.env (eval e X.env)) (TP X pins σ Q) X.xe s
def Ww (e : Expr) : TT := fun σ H Q => ∀ (wh : Sem Value) (pins : List (Addr × Obj)) (s : Shared), Inv X pins σ H s → wpAny (model X.prog X.w) X.A (isTrue e X.env wh) (TP X pins σ Q) X.xe s
def Wa (es : List Expr) : TA := fun σ H Q => ∀ (pos : Pos) (pins : List (Addr × Obj)) (s : Shared), Inv X pins σ H s → wpAny (model X.prog X.w) X.A (spliced (backTo pos (starEach es X.env))) (AP X pins σ Q) X.xe s
def Ws (st : Stmt) : TS := fun D σ H => ∀ (pins : List (Addr × Obj)) (s : Shared), Inv X pins σ H s → wpAny (model X.prog X.w) X.A (exec st X.env) (SP X pins D) X.xe s
def Wb (st : List Stmt) : TS := fun D σ H => ∀ (pins : List (Addr × Obj)) (s : Shared), Inv X pins σ H s → wpAny (model X.prog X.w) X.A (execs st X.env) (SP X pins D) X.xe s
def Wi (tg iter : Expr) : TI := fun σ H R => ∀ (pins : List (Addr × Obj)) (s : Shared), Inv X pins σ H s →
    wpAny (model X.prog X.w) X.A (eval iter X.env) (fun v s1 => wpAny (model X.prog X.w) X.A (pyIter v) (PIE X pins σ tg R) X.xe s1) X.xe s
def Wf (ifs : List Expr) : TT := fun σ H Q => ∀ (pins : List (Addr × Obj)) (s : Shared), Inv X pins σ H s →
    wpAny (model X.prog X.w) X.A (forIn ifs true fun c r => if r = true then do let ok ← isTrue c X.env (eval c X.env); pure (ForInStep.yield ok) else pure (ForInStep.yield r)) (TP X pins σ Q) X.xe s
end
section
variable {X : Cx} {σ : St} {H : Hp}
theorem pe_we {e : Expr} : PE X e (We X e) := ⟨fun pins s _ _ _ I h => h pins s I⟩
theorem we_of {e : Expr} {t : TE} {Q : VK} (h : PE X e t) (q : t σ H Q) : We X e σ H Q := fun pins s I => h.run pins s σ H Q I q
theorem pt_wt {e : Expr} : PT X e (Wt X e) := ⟨fun pins s _ _ _ I h => h pins s I⟩
theorem wt_of {e : Expr} {t : TT} {Q : Bool → Hp → Prop} (h : PT X e t) (q : t σ H Q) : Wt X e σ H Q := fun pins s I => h.run pins s σ H Q I q
theorem pw_ww {e : Expr} : PW X e (Ww X e) := ⟨fun wh pins s _ _ _ I h => h wh pins s I⟩
theorem ww_of {e : Expr} {t : TT} {Q : Bool → Hp → Prop} (h : PW X e t) (q : t σ H Q) : Ww X e σ H Q := fun wh pins s I => h.run wh pins s σ H Q I q
theorem pa_wa {es : List Expr} : PA X es (Wa X es) := ⟨fun pos pins s _ _ _ I h => h pos pins s I⟩
theorem wa_of {es : List Expr} {t : TA} {Q : List V → Hp → Prop} (h : PA X es t) (q : t σ H Q) : Wa X es σ H Q := fun pos pins s I => h.run pos pins s σ H Q I q
theorem ps_ws {st : Stmt} : PS X st (Ws X st) := ⟨fun pins s _ _ _ I h => h pins s I⟩
theorem ws_of {st : Stmt} {t : TS} {D : Ends} (h : PS X st t) (q : t D σ H) : Ws X st D σ H := fun pins s I => h.run pins s σ H D I q
theorem pss_wb {st : List Stmt} : PSs X st (Wb X st) := ⟨fun pins s _ _ _ I h => h pins s I⟩
theorem wb_of {st : List Stmt} {t : TS} {D : Ends} (h : PSs X st t) (q : t D σ H) : Wb X st D σ H := fun pins s I => h.run pins s σ H D I q
theorem pi_wi {tg iter : Expr} : PI X tg iter (Wi X tg iter) := ⟨fun pins s _ _ _ I h => h pins s I⟩
theorem wi_of {tg iter : Expr} {t : TI} {R : It → Hp → Prop} (h : PI X tg iter t) (q : t σ H R) : Wi X tg iter σ H R := fun pins s I => h.run pins s σ H R I q
theorem pts_wf {ifs : List Expr} : PTs X ifs (Wf X ifs) := ⟨fun pins s _ _ _ I h => h pins s I⟩
theorem wf_of {ifs : List Expr} {t : TT} {Q : Bool → Hp → Prop} (h : PTs X ifs t) (q : t σ H Q) : Wf X ifs σ H Q := fun pins s I => h.run pins s σ H Q I q
end

/-! ### what is wanted behind: over data and store -/
/-- behind a value -/
def Pst (K : PySem.W.Frag) (τ : Store) (H : Hp) (Q : MV → Store → Prop) (QQ : VK) : Prop :=
  ∀ v H' sv τ', Q sv τ' → StOk K H' τ' → Rv K (dom τ') H' v sv → Tr (dom τ) H (dom τ') H' → QQ v H'
def PstB (K : PySem.W.Frag) (τ : Store) (H : Hp) (Q : Bool → Store → Prop) (QQ : Bool → Hp → Prop) : Prop :=
  ∀ b H' τ', Q b τ' → StOk K H' τ' → Tr (dom τ) H (dom τ') H' → QQ b H'
def PstA (K : PySem.W.Frag) (τ : Store) (H : Hp) (Q : List MV → Store → Prop) (QQ : List V → Hp → Prop) : Prop :=
  ∀ vs H' svs τ', Q svs τ' → StOk K H' τ' → RvL K (dom τ') H' vs svs → Tr (dom τ) H (dom τ') H' → QQ vs H'
structure DE where
  nx : En → Store → Prop
  rt : MV → Store → Prop
  bk : En → Store → Prop := fun _ _ => False
  ct : En → Store → Prop := fun _ _ => False
def PstN (K : PySem.W.Frag) (τ : Store) (H : Hp) (Q : En → Store → Prop) (QQ : St → Hp → Prop) : Prop :=
  ∀ σ' H' ρ' τ', Q ρ' τ' → StOk K H' τ' → SlOk K (dom τ') H' σ' ρ' → Tr (dom τ) H (dom τ') H' → QQ σ' H'
structure PstD (K : PySem.W.Frag) (τ : Store) (H : Hp) (D : DE) (DD : Ends) : Prop where
  nx : PstN K τ H D.nx DD.nx
  rt : Pst K τ H D.rt DD.rt
  bk : PstN K τ H D.bk DD.bk
  ct : PstN K τ H D.ct DD.ct
section
variable {K : PySem.W.Frag} {τ τ1 : Store} {H H1 : Hp}
theorem Pst.step {Q : MV → Store → Prop} {QQ : VK} (h : Pst K τ H Q QQ) (t : Tr (dom τ) H (dom τ1) H1) : Pst K τ1 H1 Q QQ := fun v H' sv τ' q o r t' => h v H' sv τ' q o r (t.trans t')
theorem PstB.step {Q : Bool → Store → Prop} {QQ : Bool → Hp → Prop} (h : PstB K τ H Q QQ) (t : Tr (dom τ) H (dom τ1) H1) : PstB K τ1 H1 Q QQ := fun b H' τ' q o t' => h b H' τ' q o (t.trans t')
theorem PstA.step {Q : List MV → Store → Prop} {QQ : List V → Hp → Prop} (h : PstA K τ H Q QQ) (t : Tr (dom τ) H (dom τ1) H1) : PstA K τ1 H1 Q QQ := fun v H' sv τ' q o r t' => h v H' sv τ' q o r (t.trans t')
theorem PstN.step {Q : En → Store → Prop} {QQ : St → Hp → Prop} (h : PstN K τ H Q QQ) (t : Tr (dom τ) H (dom τ1) H1) : PstN K τ1 H1 Q QQ := fun v H' sv τ' q o r t' => h v H' sv τ' q o r (t.trans t')
theorem PstD.step {D : DE} {DD : Ends} (h : PstD K τ H D DD) (t : Tr (dom τ) H (dom τ1) H1) : PstD K τ1 H1 D DD := ⟨h.nx.step t, h.rt.step t, h.bk.step t, h.ct.step t⟩
end

/-! ### the judgements -/
section
variable (X : Cx) (ρ : En) (τ : Store)
structure De (e : Expr) (Q : MV → Store → Prop) : Prop where
  run : ∀ (σ : St) (H : Hp), StOk X.K H τ → SlOk X.K (dom τ) H σ ρ → ∀ QQ : VK, Pst X.K τ H Q QQ → We X e σ H QQ
structure Dt (e : Expr) (Q : Bool → Store → Prop) : Prop where
  run : ∀ (σ : St) (H : Hp), StOk X.K H τ → SlOk X.K (dom τ) H σ ρ → ∀ QQ : Bool → Hp → Prop, PstB X.K τ H Q QQ → Wt X e σ H QQ
structure Dw (e : Expr) (Q : Bool → Store → Prop) : Prop where
  run : ∀ (σ : St) (H : Hp), StOk X.K H τ → SlOk X.K (dom τ) H σ ρ → ∀ QQ : Bool → Hp → Prop, PstB X.K τ H Q QQ → Ww X e σ H QQ
structure Df (ifs : List Expr) (Q : Bool → Store → Prop) : Prop where
  run : ∀ (σ : St) (H : Hp), StOk X.K H τ → SlOk X.K (dom τ) H σ ρ → ∀ QQ : Bool → Hp → Prop, PstB X.K τ H Q QQ → Wf X ifs σ H QQ
structure Da (es : List Expr) (Q : List MV → Store → Prop) : Prop where
  run : ∀ (σ : St) (H : Hp), StOk X.K H τ → SlOk X.K (dom τ) H σ ρ → ∀ QQ : List V → Hp → Prop, PstA X.K τ H Q QQ → Wa X es σ H QQ
structure Ds (st : Stmt) (D : DE) : Prop where
  run : ∀ (σ : St) (H : Hp), StOk X.K H τ → SlOk X.K (dom τ) H σ ρ → ∀ DD : Ends, PstD X.K τ H D DD → Ws X st DD σ H
structure Db (st : List Stmt) (D : DE) : Prop where
  run : ∀ (σ : St) (H : Hp), StOk X.K H τ → SlOk X.K (dom τ) H σ ρ → ∀ DD : Ends, PstD X.K τ H D DD → Wb X st DD σ H
end
/-- an operation on two values, a call on values -/
structure OpD (K : PySem.W.Frag) (r : R2) (x y : MV) (τ : Store) (Q : MV → Store → Prop) : Prop where
  run : ∀ (H : Hp) (v u : V), StOk K H τ → Rv K (dom τ) H v x → Rv K (dom τ) H u y → ∀ QQ : VK, Pst K τ H Q QQ → r v u H QQ
structure CaD (K : PySem.W.Frag) (r : List V → Hp → VK → Prop) (xs : List MV) (τ : Store) (Q : MV → Store → Prop) : Prop where
  run : ∀ (H : Hp) (vs : List V), StOk K H τ → RvL K (dom τ) H vs xs → ∀ QQ : VK, Pst K τ H Q QQ → r vs H QQ
instance {X : Cx} {ρ : En} {τ : Store} {e : Expr} {Q : MV → Store → Prop} : CoeFun (De X ρ τ e Q) fun _ => ∀ (σ : St) (H : Hp), StOk X.K H τ → SlOk X.K (dom τ) H σ ρ → ∀ QQ : VK, Pst X.K τ H Q QQ → We X e σ H QQ := ⟨fun h => h.run⟩
instance {X : Cx} {ρ : En} {τ : Store} {e : Expr} {Q : Bool → Store → Prop} : CoeFun (Dt X ρ τ e Q) fun _ => ∀ (σ : St) (H : Hp), StOk X.K H τ → SlOk X.K (dom τ) H σ ρ → ∀ QQ : Bool → Hp → Prop, PstB X.K τ H Q QQ → Wt X e σ H QQ := ⟨fun h => h.run⟩
instance {X : Cx} {ρ : En} {τ : Store} {e : Expr} {Q : Bool → Store → Prop} : CoeFun (Dw X ρ τ e Q) fun _ => ∀ (σ : St) (H : Hp), StOk X.K H τ → SlOk X.K (dom τ) H σ ρ → ∀ QQ : Bool → Hp → Prop, PstB X.K τ H Q QQ → Ww X e σ H QQ := ⟨fun h => h.run⟩
instance {X : Cx} {ρ : En} {τ : Store} {ifs : List Expr} {Q : Bool → Store → Prop} : CoeFun (Df X ρ τ ifs Q) fun _ => ∀ (σ : St) (H : Hp), StOk X.K H τ → SlOk X.K (dom τ) H σ ρ → ∀ QQ : Bool → Hp → Prop, PstB X.K τ H Q QQ → Wf X ifs σ H QQ := ⟨fun h => h.run⟩
instance {X : Cx} {ρ : En} {τ : Store} {es : List Expr} {Q : List MV → Store → Prop} : CoeFun (Da X ρ τ es Q) fun _ => ∀ (σ : St) (H : Hp), StOk X.K H τ → SlOk X.K (dom τ) H σ ρ → ∀ QQ : List V → Hp → Prop, PstA X.K τ H Q QQ → Wa X es σ H QQ := ⟨fun h => h.run⟩
instance {X : Cx} {ρ : En} {τ : Store} {st : Stmt} {D : DE} : CoeFun (Ds X ρ τ st D) fun _ => ∀ (σ : St) (H : Hp), StOk X.K H τ → SlOk X.K (dom τ) H σ ρ → ∀ DD : Ends, PstD X.K τ H D DD → Ws X st DD σ H := ⟨fun h => h.run⟩
instance {X : Cx} {ρ : En} {τ : Store} {st : List Stmt} {D : DE} : CoeFun (Db X ρ τ st D) fun _ => ∀ (σ : St) (H : Hp), StOk X.K H τ → SlOk X.K (dom τ) H σ ρ → ∀ DD : Ends, PstD X.K τ H D DD → Wb X st DD σ H := ⟨fun h => h.run⟩
instance {K : PySem.W.Frag} {r : R2} {x y : MV} {τ : Store} {Q : MV → Store → Prop} : CoeFun (OpD K r x y τ Q) fun _ => ∀ (H : Hp) (v u : V), StOk K H τ → Rv K (dom τ) H v x → Rv K (dom τ) H u y → ∀ QQ : VK, Pst K τ H Q QQ → r v u H QQ := ⟨fun h => h.run⟩
instance {K : PySem.W.Frag} {r : List V → Hp → VK → Prop} {xs : List MV} {τ : Store} {Q : MV → Store → Prop} : CoeFun (CaD K r xs τ Q) fun _ => ∀ (H : Hp) (vs : List V), StOk K H τ → RvL K (dom τ) H vs xs → ∀ QQ : VK, Pst K τ H Q QQ → r vs H QQ := ⟨fun h => h.run⟩
section
variable {X : Cx} {ρ : En} {τ : Store}
theorem De.mono {e : Expr} {Q Q' : MV → Store → Prop} (h : De X ρ τ e Q) (q : ∀ sv τ', Q sv τ' → Q' sv τ') : De X ρ τ e Q' := .mk fun σ H o l QQ p => h σ H o l QQ fun v H' sv τ' h1 => p v H' sv τ' (q _ _ h1)
theorem Dt.mono {e : Expr} {Q Q' : Bool → Store → Prop} (h : Dt X ρ τ e Q) (q : ∀ b τ', Q b τ' → Q' b τ') : Dt X ρ τ e Q' := .mk fun σ H o l QQ p => h σ H o l QQ fun v H' τ' h1 => p v H' τ' (q _ _ h1)
theorem Df.mono {e : List Expr} {Q Q' : Bool → Store → Prop} (h : Df X ρ τ e Q) (q : ∀ b τ', Q b τ' → Q' b τ') : Df X ρ τ e Q' := .mk fun σ H o l QQ p => h σ H o l QQ fun v H' τ' h1 => p v H' τ' (q _ _ h1)
theorem Da.mono {e : List Expr} {Q Q' : List MV → Store → Prop} (h : Da X ρ τ e Q) (q : ∀ b τ', Q b τ' → Q' b τ') : Da X ρ τ e Q' := .mk fun σ H o l QQ p => h σ H o l QQ fun v H' sv τ' h1 => p v H' sv τ' (q _ _ h1)
end

/-! ### names and constants -/
section
variable {X : Cx} {ρ : En} {τ : Store} {Q : MV → Store → Prop} {pos : Pos}
theorem de_name {x : Str} (i : Nat) {sv : MV} (hN : X.N[i]? = some x) (hv : Vis X.env.scope x) (e : ρ[i]? = some (some sv)) (q : Q sv τ) (hd : (x == ("__debug__" : Str)) = false := by decide) (hcd : (x == ("__classdict__" : Str)) = false := by decide) : De X ρ τ (.Name x pos) Q := .mk fun σ H o l QQ p => by
  obtain ⟨v, h1, h2⟩ := l.ok i sv e
  exact we_of (pe_var hN hv hd hcd) ⟨v, h1, p v H sv τ q o h2 Tr.refl⟩
theorem de_int {i : Int} {j} (q : Q (.val (.int i)) τ) : De X ρ τ (.Constant (.int i) j pos) Q := .mk fun σ H o l QQ p => we_of pe_int (p _ H _ τ q o (Dn.int i) Tr.refl)
theorem de_bool {b : Bool} {j} (q : Q (.val (.bool b)) τ) : De X ρ τ (.Constant (.bool b) j pos) Q := .mk fun σ H o l QQ p => we_of pe_bl (p _ H _ τ q o (Dn.bl b) Tr.refl)
theorem de_none {j} (q : Q (.val .none) τ) : De X ρ τ (.Constant .none j pos) Q := .mk fun σ H o l QQ p => we_of pe_non (p _ H _ τ q o Dn.non Tr.refl)
theorem de_str {x : Str} {j} (q : Q (.val (.str x)) τ) : De X ρ τ (.Constant (.str x) j pos) Q := .mk fun σ H o l QQ p => we_of pe_str (p _ H _ τ q o (Dn.str x) Tr.refl)
/-! ### operators -/
variable {a b c : Expr}
theorem de_op {op : Operator} {r : R2} (ho : OpR X (binaryOp op) r) (h : De X ρ τ a fun x τ1 => De X ρ τ1 b fun y τ2 => OpD X.K r x y τ2 Q) : De X ρ τ (.BinOp a op b pos) Q := .mk fun σ H o l QQ p => by
  refine we_of (pe_op ho pe_we pe_we) (h σ H o l _ fun v H1 x τ1 h1 o1 r1 t1 => ?_)
  exact h1 σ H1 o1 (l.tr t1) _ fun u H2 y τ2 h2 o2 r2 t2 => h2 H2 v u o2 (r1.tr t2) r2 QQ ((p.step t1).step t2)
theorem de_cmp {op : CmpOp} {r : R2} (ho : OpR X (compareOp op) r) (h : De X ρ τ a fun x τ1 => De X ρ τ1 b fun y τ2 => OpD X.K r x y τ2 Q) (hm : behindInMarks op b = false := by rfl) : De X ρ τ (.Compare a [op] [b] pos) Q := .mk fun σ H o l QQ p => by
  refine we_of (pe_cmpR ho pe_we pe_we hm) (h σ H o l _ fun v H1 x τ1 h1 o1 r1 t1 => ?_)
  exact h1 σ H1 o1 (l.tr t1) _ fun u H2 y τ2 h2 o2 r2 t2 => h2 H2 v u o2 (r1.tr t2) r2 QQ ((p.step t1).step t2)
theorem de_chain {op op' : CmpOp} {r r' : R2} (ho : OpR X (compareOp op) r) (ho' : OpR X (compareOp op') r')
    (h : De X ρ τ a fun x τ1 => De X ρ τ1 b fun y τ2 => OpD X.K r x y τ2 fun z τ3 => ∃ k, z = .val (.bool k) ∧ if k = true then De X ρ τ3 c fun u τ4 => OpD X.K r' y u τ4 Q else Q (.val (.bool false)) τ3)
    (hm : lastMarks [op, op'] [b, c] = false := by with_unfolding_all rfl) : De X ρ τ (.Compare a [op, op'] [b, c] pos) Q := .mk fun σ H o l QQ p => by
  refine we_of (pe_chain ho ho' pe_we pe_we pe_we hm) (h σ H o l _ fun v H1 x τ1 h1 o1 r1 t1 => ?_)
  refine h1 σ H1 o1 (l.tr t1) _ fun u H2 y τ2 h2 o2 r2 t2 => ?_
  refine h2 H2 v u o2 (r1.tr t2) r2 _ fun z H3 sz τ3 h3 o3 r3 t3 => ?_
  obtain ⟨k, rfl, h3⟩ := h3
  cases r3
  refine ⟨k, rfl, ?_⟩
  cases k with
  | true =>
    rw [if_pos rfl] at h3 ⊢
    exact h3 σ H3 o3 (((l.tr t1).tr t2).tr t3) _ fun w H4 x4 τ4 h4 o4 r4 t4 => h4 H4 u w o4 ((r2.tr t3).tr t4) r4 QQ ((((p.step t1).step t2).step t3).step t4)
  | false =>
    rw [if_neg Bool.false_ne_true] at h3 ⊢
    exact p _ H3 _ τ3 h3 o3 (Dn.bl false) ((t1.trans t2).trans t3)
end
end Dl

namespace Dl
open PySem PySem.Spec L2

/-! ### what a value bears as data -/
def datOf (τ : Store) : MV → Option PyData
  | .val d => some d
  | .scr ns => some (.list (ns.map .int))
  | .hdl a => match τ.lookup a with
    | some (.lst ds) => some (.list ds)
    | _ => none
section
variable {K : PySem.W.Frag} {H : Hp} {τ : Store} {v : V} {sv : MV}
theorem hdl_dat {a : Addr} {d : PyData} (e : datOf τ (.hdl a) = some d) : ∃ ds, τ.lookup a = some (.lst ds) ∧ d = .list ds := by
  unfold datOf at e
  simp only at e
  cases h : τ.lookup a with
  | none => rw [h] at e; cases e
  | some mo =>
    rw [h] at e
    cases mo with
    | lst ds => exact ⟨ds, rfl, (Option.some.inj e).symm⟩
    | ins C dx fs => cases e
theorem Rv.dp {d : PyData} (o : StOk K H τ) (r : Rv K (dom τ) H v sv) (e : datOf τ sv = some d) : Dp K H v d := by
  cases sv with
  | val d' =>
    cases e
    exact Dn.dp r
  | scr ns =>
    cases e
    obtain ⟨a, rfl, h⟩ := r
    exact .lst h.sq (DnL.dp (DnL.of_ints (N := dom τ)))
  | hdl a =>
    obtain ⟨ds, h1, rfl⟩ := hdl_dat e
    obtain ⟨vs, h2, h3⟩ := o.get h1
    cases r
    exact .lst (SqL.of h2) h3.dp
theorem Rv.seqL {ds : List PyData} (o : StOk K H τ) (r : Rv K (dom τ) H v sv) (e : datOf τ sv = some (.list ds)) : ∃ a vs, v = .ref a ∧ SqL K H a vs ∧ DnL K (dom τ) H vs ds := by
  cases sv with
  | val d' =>
    cases e
    cases r with
    | lst n l => exact ⟨_, _, rfl, n.sq, l⟩
  | scr ns =>
    cases e
    obtain ⟨a, rfl, h⟩ := r
    exact ⟨a, _, rfl, h.sq, DnL.of_ints⟩
  | hdl a =>
    obtain ⟨ds', h1, e2⟩ := hdl_dat e
    cases e2
    obtain ⟨vs, h2, h3⟩ := o.get h1
    cases r
    exact ⟨a, vs, rfl, SqL.of h2, h3⟩
theorem Rv.seqT {ds : List PyData} (o : StOk K H τ) (r : Rv K (dom τ) H v sv) (e : datOf τ sv = some (.tuple ds)) : ∃ a vs, v = .ref a ∧ NdT (dom τ) H a vs ∧ DnL K (dom τ) H vs ds := by
  cases sv with
  | val d' =>
    cases e
    cases r with
    | tup n l => exact ⟨_, _, rfl, n, l⟩
  | scr ns => cases e
  | hdl a =>
    obtain ⟨ds', h1, e2⟩ := hdl_dat e
    cases e2
/-- a list that is tracked as it stands -/
def lstOf (τ : Store) : MV → Option (List PyData)
  | .val (.list ds) => some ds
  | .hdl a => match τ.lookup a with
    | some (.lst ds) => some ds
    | _ => none
  | _ => none
theorem Rv.lstS {ds : List PyData} (o : StOk K H τ) (r : Rv K (dom τ) H v sv) (e : lstOf τ sv = some ds) : ∃ a vs, v = .ref a ∧ H a = some (.lst vs) ∧ DnL K (dom τ) H vs ds := by
  cases sv with
  | val d' =>
    cases d' with
    | list es =>
      cases e
      cases r with
      | lst n l => exact ⟨_, _, rfl, n.2, l⟩
    | _ => cases e
  | scr ns => cases e
  | hdl a =>
    unfold lstOf at e
    simp only at e
    cases h : τ.lookup a with
    | none => rw [h] at e; cases e
    | some mo =>
      rw [h] at e
      cases mo with
      | lst es =>
        cases e
        obtain ⟨vs, h2, h3⟩ := o.get h
        cases r
        exact ⟨a, vs, rfl, h2, h3⟩
      | ins C dx fs => cases e
/-- a new object laid -/
theorem Pst.tup {Q : MV → Store → Prop} {QQ : VK} {vs : List V} {ds : List PyData} (p : Pst K τ H Q QQ) (o : StOk K H τ) (l : DnL K (dom τ) H vs ds) (q : Q (.val (.tuple ds)) τ) : ∀ a, H a = none → QQ (.ref a) (upd H a (.tup vs)) := fun a ha =>
  p _ _ _ τ q (o.new ha) (Dn.tup ⟨o.fresh ha, upd_same⟩ (l.tr (Tr.new ha))) (Tr.new ha)
theorem Pst.lst {Q : MV → Store → Prop} {QQ : VK} {vs : List V} {ds : List PyData} (p : Pst K τ H Q QQ) (o : StOk K H τ) (l : DnL K (dom τ) H vs ds) (q : Q (.val (.list ds)) τ) : ∀ a, H a = none → QQ (.ref a) (upd H a (.lst vs)) := fun a ha =>
  p _ _ _ τ q (o.new ha) (Dn.lst ⟨o.fresh ha, upd_same⟩ (l.tr (Tr.new ha))) (Tr.new ha)
theorem Pst.lstM {Q : MV → Store → Prop} {QQ : VK} {vs : List V} {ds : List PyData} (p : Pst K τ H Q QQ) (o : StOk K H τ) (l : DnL K (dom τ) H vs ds) (q : ∀ a, a ∉ dom τ → Q (.hdl a) ((a, .lst ds) :: τ)) : ∀ a, H a = none → QQ (.ref a) (upd H a (.lst vs)) := fun a ha =>
  p _ _ (.hdl a) _ (q a (o.fresh ha)) (o.push ha ⟨vs, upd_same, l.tr (Tr.push ha)⟩) rfl (Tr.push ha)
end
theorem small_sz {n : Nat} (h : n ≤ 1000000) : n ≤ sizeLine := Nat.le_trans h (by decide)
theorem small_sz' {n : Nat} (h : n < 1000000) : n < sizeLine := Nat.lt_of_lt_of_le h (by decide)

/-! ### + -/
abbrev rAddS : R2 := fun x y H Q => ∃ i j, x = .str i ∧ y = .str j ∧ i.length + j.length ≤ sizeLine ∧ Q (.str (i ++ j)) H
abbrev rAddI : R2 := rI0 fun i j => .int (i + j)
def rPlus (K : PySem.W.Frag) : R2 := fun x y H Q => rAddI x y H Q ∨ (rCat x y H Q ∨ (rCatA K x y H Q ∨ rAddS x y H Q))
def PlusD (K : PySem.W.Frag) (x y : MV) (τ : Store) (Q : MV → Store → Prop) : Prop := OpD K (rPlus K) x y τ Q
section
variable {K : PySem.W.Frag} {τ : Store} {Q : MV → Store → Prop}
theorem plus_int {i j : Int} (q : Q (.val (.int (i + j))) τ) : PlusD K (.val (.int i)) (.val (.int j)) τ Q := .mk fun H v u o r1 r2 QQ p => by
  cases r1
  cases r2
  exact .inl ⟨i, j, rfl, rfl, p _ H _ τ q o (Dn.int _) Tr.refl⟩
theorem plus_str {i j : Str} (hl : i.length + j.length ≤ 1000000) (q : Q (.val (.str (i ++ j))) τ) : PlusD K (.val (.str i)) (.val (.str j)) τ Q := .mk fun H v u o r1 r2 QQ p => by
  cases r1
  cases r2
  exact .inr (.inr (.inr ⟨i, j, rfl, rfl, small_sz hl, p _ H _ τ q o (Dn.str _) Tr.refl⟩))
theorem plus_lst {x y : MV} {ds es : List PyData} (hx : lstOf τ x = some ds) (hy : lstOf τ y = some es) (hl : ds.length + es.length ≤ 1000000) (q : Q (.val (.list (ds ++ es))) τ) : PlusD K x y τ Q := .mk fun H v u o r1 r2 QQ p => by
  obtain ⟨a, vs, rfl, h1, l1⟩ := r1.lstS o hx
  obtain ⟨b, ws, rfl, h2, l2⟩ := r2.lstS o hy
  refine .inr (.inl ⟨a, b, vs, ws, rfl, rfl, h1, h2, small_sz (by rw [l1.length, l2.length]; exact hl), p.lst o (l1.append l2) q⟩)
/-- a new list that will change -/
theorem plus_lstM {x y : MV} {ds es : List PyData} (hx : lstOf τ x = some ds) (hy : lstOf τ y = some es) (hl : ds.length + es.length ≤ 1000000) (q : ∀ a, a ∉ dom τ → Q (.hdl a) ((a, .lst (ds ++ es)) :: τ)) : PlusD K x y τ Q := .mk fun H v u o r1 r2 QQ p => by
  obtain ⟨a, vs, rfl, h1, l1⟩ := r1.lstS o hx
  obtain ⟨b, ws, rfl, h2, l2⟩ := r2.lstS o hy
  refine .inr (.inl ⟨a, b, vs, ws, rfl, rfl, h1, h2, small_sz (by rw [l1.length, l2.length]; exact hl), p.lstM o (l1.append l2) q⟩)
theorem plus_tup {ds es : List PyData} (hl : ds.length + es.length ≤ 1000000) (q : Q (.val (.tuple (ds ++ es))) τ) : PlusD K (.val (.tuple ds)) (.val (.tuple es)) τ Q := .mk fun H v u o r1 r2 QQ p => by
  cases r1 with
  | @tup a vs _ n1 l1 =>
  cases r2 with
  | @tup b ws _ n2 l2 =>
  refine .inr (.inr (.inl ⟨a, b, vs, ws, rfl, rfl, n1.sq, n2.sq, small_sz (by rw [l1.length, l2.length]; exact hl), fun e => ?_, fun ne e => ?_, fun _ _ => p.tup o (l1.append l2) q⟩))
  · subst e
    cases l1
    exact p _ H _ τ q o (Dn.tup n2 l2) Tr.refl
  · subst e
    cases l2
    rw [List.append_nil] at q
    exact p _ H _ τ q o (Dn.tup n1 l1) Tr.refl
end

/-! ### builtins' names are what they are -/
structure Bl (mg : Str → Option Value) : Prop where
  h_isinstance : mg "isinstance" = none
  h_len : mg "len" = none
  h_all : mg "all" = none
  h_any : mg "any" = none
  h_tuple : mg "tuple" = none
  h_list : mg "list" = none
  h_range : mg "range" = none
  h_min : mg "min" = none
  h_max : mg "max" = none
  h_sum : mg "sum" = none
  h_abs : mg "abs" = none
  h_sorted : mg "sorted" = none
  h_str : mg "str" = none
  h_int : mg "int" = none
  h_bool : mg "bool" = none
  h_enumerate : mg "enumerate" = none
  h_zip : mg "zip" = none
  h_ValueError : mg "ValueError" = none
  h_set : mg "set" = none

section
variable {X : Cx} {ρ : En} {τ : Store} {Q : MV → Store → Prop} {pos p1 : Pos} {a b c : Expr} {es : List Expr}
theorem de_plus (h : De X ρ τ a fun x τ1 => De X ρ τ1 b fun y τ2 => PlusD X.K x y τ2 Q) : De X ρ τ (.BinOp a .Add b pos) Q :=
  de_op (op_add.or (op_cat.or (op_catA.or op_add_str))) h
theorem de_sub (h : De X ρ τ a fun x τ1 => De X ρ τ1 b fun y τ2 => ∃ i j, x = .val (.int i) ∧ y = .val (.int j) ∧ Q (.val (.int (i - j))) τ2) : De X ρ τ (.BinOp a .Sub b pos) Q :=
  de_op op_sub (h.mono fun x τ1 h1 => h1.mono fun y τ2 ⟨i, j, ex, ey, q⟩ => .mk fun H v u o r1 r2 QQ p => by
    subst ex ey
    cases r1
    cases r2
    exact ⟨i, j, rfl, rfl, p _ H _ τ2 q o (Dn.int _) Tr.refl⟩)
theorem de_mod (h : De X ρ τ a fun x τ1 => De X ρ τ1 b fun y τ2 => ∃ i j, x = .val (.int i) ∧ y = .val (.int j) ∧ 0 < j ∧ Q (.val (.int (i % j))) τ2) : De X ρ τ (.BinOp a .Mod b pos) Q :=
  de_op op_mod (h.mono fun x τ1 h1 => h1.mono fun y τ2 ⟨i, j, ex, ey, hj, q⟩ => .mk fun H v u o r1 r2 QQ p => by
    subst ex ey
    cases r1
    cases r2
    exact ⟨i, j, rfl, rfl, hj, p _ H _ τ2 q o (Dn.int _) Tr.refl⟩)
theorem de_fdiv (h : De X ρ τ a fun x τ1 => De X ρ τ1 b fun y τ2 => ∃ i j, x = .val (.int i) ∧ y = .val (.int j) ∧ (0 < j ∧ j < 1073741824) ∧ Q (.val (.int (i / j))) τ2) : De X ρ τ (.BinOp a .FloorDiv b pos) Q :=
  de_op op_fdiv (h.mono fun x τ1 h1 => h1.mono fun y τ2 ⟨i, j, ex, ey, hj, q⟩ => .mk fun H v u o r1 r2 QQ p => by
    subst ex ey
    cases r1
    cases r2
    exact ⟨i, j, rfl, rfl, hj, p _ H _ τ2 q o (Dn.int _) Tr.refl⟩)
theorem de_pow (h : De X ρ τ a fun x τ1 => De X ρ τ1 b fun y τ2 => ∃ i j, x = .val (.int i) ∧ y = .val (.int j) ∧ (0 ≤ j ∧ j ≤ 1000000 ∧ i.natAbs < 2 ^ 64) ∧ Q (.val (.int (i ^ j.toNat))) τ2) : De X ρ τ (.BinOp a .Pow b pos) Q :=
  de_op op_pow (h.mono fun x τ1 h1 => h1.mono fun y τ2 ⟨i, j, ex, ey, hj, q⟩ => .mk fun H v u o r1 r2 QQ p => by
    subst ex ey
    cases r1
    cases r2
    exact ⟨i, j, rfl, rfl, hj, p _ H _ τ2 q o (Dn.int _) Tr.refl⟩)
/-! t * 1, t * 0 -/
theorem tuple_mul_one (l : Addr) (items : Array Value) (n : Nat) (dd : Option Addr) (sl : Array (Option Value)) (u : Tok) :
    Meets (Builtin.«tuple.__mul__» ⟨[.ref l, .int 1 u], []⟩) (fun _ R s => s.heap.get? l = some { cls := .type "tuple", dict := dd, data := .seq items n, slots := sl } ∧ R (.ok (.ret (Value.ref l))) s) :=
  .of_wp fun prog w A R s h => by
    obtain ⟨hp, g, d, tk, os⟩ := s
    obtain ⟨hl, h⟩ := h
    have f1 := AutoSeq1.idx_int
    wp_walk using wpAny_loadPart' hl
    exact ⟨_, rfl, h⟩
theorem tuple_mul_zero (l : Addr) (items : Array Value) (n : Nat) (dd : Option Addr) (sl : Array (Option Value)) (u : Tok) (c1 : items.isEmpty = false) :
    Meets (Builtin.«tuple.__mul__» ⟨[.ref l, .int 0 u], []⟩) (fun _ R s => s.heap.get? l = some { cls := .type "tuple", dict := dd, data := .seq items n, slots := sl } ∧
      R (.ok (.ret (Value.ref s.heap.objs.size))) { s with heap := s.heap.push { cls := Value.type "tuple", data := Data.seq #[] }, toks := s.toks }) :=
  .of_wp fun prog w A R s h => by
    obtain ⟨hp, g, d, tk, os⟩ := s
    obtain ⟨hl, h⟩ := h
    have f1 := AutoSeq1.idx_int
    have c2 : (items.isEmpty || (0 : Int) == 1) = false := by rw [c1]; rfl
    wp_walk using wpAny_loadPart' hl
    exact ⟨_, rfl, h⟩
def rRepT1 (K : PySem.W.Frag) : R2 := fun x y H Q => ∃ l xs, x = .ref l ∧ y = .int 1 ∧ SqT K H l xs ∧ Q (.ref l) H
def rRepT0 (K : PySem.W.Frag) : R2 := fun x y H Q => ∃ l xs, x = .ref l ∧ y = .int 0 ∧ SqT K H l xs ∧ xs ≠ [] ∧ ∀ p, H p = none → Q (.ref p) (upd H p (.tup []))
theorem op_repT1 {X : Cx} : OpR X (binaryOp .Mult) (rRepT1 X.K) := by
  intro pins s σ H x y v u Q I rx ry h
  obtain ⟨l, xs, rfl, rfl, hT, q⟩ := h
  cases rx
  obtain ⟨t, rfl⟩ := ry
  obtain ⟨its, r, ⟨⟨cls, dd, data, sl⟩, ho, hc, n, hd⟩, hs⟩ := I.tuple hT
  simp only at hc hd
  subst hc hd
  refine wpAny_binaryOp_repeat_ref (T := "tuple") (U := "int") (by decide) ⟨_, ho, rfl⟩ (fun s' => typeIs_int s' 1 t) noFill_tuple_mul F.fills_int_mul F.slot_int_rmul repeat_tuple F.slot_int_index.lookup
    (call_meets F.slot_int_rmul (typeIs_int s 1 t) F.entry_int_rmul (F.args_int_rmul_2 _ _) (int_rmul_tuple 1 t l its.toArray n dd sl)
      ⟨ho, rfl, ⟨_, ho, rfl⟩, call_meets F.slot_tuple_mul ⟨_, ho, rfl⟩ F.entry_tuple_mul (F.args_tuple_mul_2 _ _) (tuple_mul_one l its.toArray n dd sl t) ⟨ho, ?_⟩⟩)
  exact ⟨.ref l, H, I, rfl, q⟩
theorem op_repT0 {X : Cx} : OpR X (binaryOp .Mult) (rRepT0 X.K) := by
  intro pins s σ H x y v u Q I rx ry h
  obtain ⟨l, xs, rfl, rfl, hT, hne, q⟩ := h
  cases rx
  obtain ⟨t, rfl⟩ := ry
  obtain ⟨its, r, ⟨⟨cls, dd, data, sl⟩, ho, hc, n, hd⟩, hs⟩ := I.tuple hT
  simp only at hc hd
  subst hc hd
  have hi : its.toArray.isEmpty = false := by
    cases its with
    | nil =>
      cases r
      exact absurd rfl hne
    | cons a b => rfl
  refine wpAny_binaryOp_repeat_ref (T := "tuple") (U := "int") (by decide) ⟨_, ho, rfl⟩ (fun s' => typeIs_int s' 0 t) noFill_tuple_mul F.fills_int_mul F.slot_int_rmul repeat_tuple F.slot_int_index.lookup
    (call_meets F.slot_int_rmul (typeIs_int s 0 t) F.entry_int_rmul (F.args_int_rmul_2 _ _) (int_rmul_tuple 0 t l its.toArray n dd sl)
      ⟨ho, rfl, ⟨_, ho, rfl⟩, call_meets F.slot_tuple_mul ⟨_, ho, rfl⟩ F.entry_tuple_mul (F.args_tuple_mul_2 _ _) (tuple_mul_zero l its.toArray n dd sl t hi) ⟨ho, ?_⟩⟩)
  refine ⟨.ref s.heap.objs.size, _, I.laid (t' := s.toks) (o := .tup []) (fun b ob q => Heap.get?_push_of_some _ q) (Nat.le_refl _) ?_, rfl, q _ (I.hok.fresh (Nat.le_refl _))⟩
  exact ⟨Nat.zero_le _, [], .nil, PyProof.Rows.IsTup.new _ _⟩
/-- * : ints, or a tuple and an int, or a list and an int -/
def rTimes (K : PySem.W.Frag) : R2 := fun x y H Q => rI CMul (fun i j => .int (i * j)) x y H Q ∨ (rRepT K x y H Q ∨ (rRepT1 K x y H Q ∨ (rRepT0 K x y H Q ∨ rRep x y H Q)))
def TimesD (K : PySem.W.Frag) (x y : MV) (τ : Store) (Q : MV → Store → Prop) : Prop := OpD K (rTimes K) x y τ Q
theorem times_int {K : PySem.W.Frag} {i j : Int} (hc : (-(2 ^ 64) < i ∧ i < 2 ^ 64) ∨ (-(2 ^ 64) < j ∧ j < 2 ^ 64)) (q : Q (.val (.int (i * j))) τ) : TimesD K (.val (.int i)) (.val (.int j)) τ Q := .mk fun H v u o r1 r2 QQ p => by
  cases r1
  cases r2
  exact .inl ⟨i, j, rfl, rfl, hc, p _ H _ τ q o (Dn.int _) Tr.refl⟩
theorem DnL.rep {K : PySem.W.Frag} {N : List Addr} {H : Hp} {vs : List V} {ds : List PyData} (h : DnL K N H vs ds) : ∀ k : Nat, DnL K N H (List.replicate k vs).flatten (List.replicate k ds).flatten
  | 0 => .nil
  | k + 1 => by
    rw [List.replicate_succ, List.replicate_succ, List.flatten_cons, List.flatten_cons]
    exact h.append (DnL.rep h k)
theorem times_tup {K : PySem.W.Frag} {ds : List PyData} {k : Int} (h0 : ds ≠ []) (h1 : 2 ≤ k) (h2 : k ≤ 1000) (hl : ds.length ≤ 1000) (q : Q (.val (.tuple (List.replicate k.toNat ds).flatten)) τ) : TimesD K (.val (.tuple ds)) (.val (.int k)) τ Q := .mk fun H v u o r1 r2 QQ p => by
  cases r1 with
  | @tup a vs _ n1 l1 =>
  cases r2
  refine .inr (.inl ⟨a, k, vs, rfl, rfl, n1.sq, fun e => h0 ?_, h1, h2, by rw [l1.length]; exact hl, p.tup o (l1.rep _) q⟩)
  subst e
  cases l1
  rfl
/-- any count from 0 on -/
theorem times_tup' {K : PySem.W.Frag} {ds : List PyData} {k : Int} (h0 : ds ≠ []) (h1 : 0 ≤ k) (h2 : k ≤ 1000) (hl : ds.length ≤ 1000) (q : Q (.val (.tuple (List.replicate k.toNat ds).flatten)) τ) : TimesD K (.val (.tuple ds)) (.val (.int k)) τ Q := by
  by_cases e1 : k = 1
  · subst e1
    refine .mk fun H v u o r1 r2 QQ p => ?_
    have q : Q (.val (.tuple (ds ++ []))) τ := q
    rw [List.append_nil] at q
    cases r1 with
    | @tup a vs _ n1 l1 =>
    cases r2
    exact .inr (.inr (.inl ⟨a, vs, rfl, rfl, n1.sq, p _ H _ τ q o (Dn.tup n1 l1) Tr.refl⟩))
  · by_cases e0 : k = 0
    · subst e0
      refine .mk fun H v u o r1 r2 QQ p => ?_
      cases r1 with
      | @tup a vs _ n1 l1 =>
      cases r2
      refine .inr (.inr (.inr (.inl ⟨a, vs, rfl, rfl, n1.sq, fun e => h0 ?_, p.tup o .nil q⟩)))
      subst e
      cases l1
      rfl
    · exact times_tup h0 (by omega) h2 hl q
theorem times_lst {K : PySem.W.Frag} {x : MV} {ds : List PyData} {k : Int} (hx : lstOf τ x = some ds) (h1 : -1000 ≤ k) (h2 : k ≤ 1000) (hl : ds.length ≤ 1000) (q : Q (.val (.list (List.replicate k.toNat ds).flatten)) τ) : TimesD K x (.val (.int k)) τ Q := .mk fun H v u o r1 r2 QQ p => by
  obtain ⟨a, vs, rfl, e1, l1⟩ := r1.lstS o hx
  cases r2
  refine .inr (.inr (.inr (.inr ⟨a, k, vs, rfl, rfl, e1, by omega, by omega, small_sz ?_, p.lst o (l1.rep _) q⟩)))
  rw [l1.length]
  exact Nat.le_trans (Nat.mul_le_mul hl (show k.toNat ≤ 1000 by omega)) (by decide)
theorem de_times (h : De X ρ τ a fun x τ1 => De X ρ τ1 b fun y τ2 => TimesD X.K x y τ2 Q) : De X ρ τ (.BinOp a .Mult b pos) Q := de_op (op_mul.or (op_repT.or (op_repT1.or (op_repT0.or op_rep)))) h
theorem de_neg (h : De X ρ τ a fun x τ1 => ∃ i, x = .val (.int i) ∧ Q (.val (.int (-i))) τ1) : De X ρ τ (.UnaryOp .USub a pos) Q := .mk fun σ H o l QQ p =>
  we_of (pe_un un_neg pe_we) (h σ H o l _ fun v H1 x τ1 ⟨i, ex, q⟩ o1 r1 t1 => by
    subst ex
    cases r1
    exact ⟨i, rfl, p _ H1 _ τ1 q o1 (Dn.int _) t1⟩)

/-! ### comparisons -/
abbrev BoolQ (Q : Bool → Store → Prop) : MV → Store → Prop := fun z τ => ∃ k, z = .val (.bool k) ∧ Q k τ
theorem dt_cmp {op : CmpOp} {r : R2} {Q : Bool → Store → Prop} (ho : OpR X (compareOp op) r) (h : De X ρ τ a fun x τ1 => De X ρ τ1 b fun y τ2 => OpD X.K r x y τ2 (BoolQ Q)) (hm : behindInMarks op b = false := by rfl) : Dt X ρ τ (.Compare a [op] [b] pos) Q := .mk fun σ H o l QQ p => by
  refine wt_of (pt_cmpR ho pe_we pe_we hm) (h σ H o l _ fun v H1 x τ1 h1 o1 r1 t1 => ?_)
  refine h1 σ H1 o1 (l.tr t1) _ fun u H2 y τ2 h2 o2 r2 t2 => h2 H2 v u o2 (r1.tr t2) r2 _ fun z H3 sz τ3 h3 o3 r3 t3 => ?_
  obtain ⟨k, rfl, h3⟩ := h3
  cases r3
  exact ⟨k, rfl, p k H3 τ3 h3 o3 ((t1.trans t2).trans t3)⟩
theorem dt_chain {op op' : CmpOp} {r r' : R2} {Q : Bool → Store → Prop} (ho : OpR X (compareOp op) r) (ho' : OpR X (compareOp op') r')
    (h : De X ρ τ a fun x τ1 => De X ρ τ1 b fun y τ2 => OpD X.K r x y τ2 fun z τ3 => ∃ k, z = .val (.bool k) ∧ if k = true then De X ρ τ3 c fun u τ4 => OpD X.K r' y u τ4 (BoolQ Q) else Q false τ3)
    (hm : lastMarks [op, op'] [b, c] = false := by with_unfolding_all rfl) : Dt X ρ τ (.Compare a [op, op'] [b, c] pos) Q := .mk fun σ H o l QQ p => by
  refine wt_of (pt_chain ho ho' pe_we pe_we pe_we hm) (h σ H o l _ fun v H1 x τ1 h1 o1 r1 t1 => ?_)
  refine h1 σ H1 o1 (l.tr t1) _ fun u H2 y τ2 h2 o2 r2 t2 => ?_
  refine h2 H2 v u o2 (r1.tr t2) r2 _ fun z H3 sz τ3 h3 o3 r3 t3 => ?_
  obtain ⟨k, rfl, h3⟩ := h3
  cases r3
  refine ⟨k, rfl, ?_⟩
  cases k with
  | true =>
    rw [if_pos rfl] at h3 ⊢
    refine h3 σ H3 o3 (((l.tr t1).tr t2).tr t3) _ fun w H4 x4 τ4 h4 o4 r4 t4 => h4 H4 u w o4 ((r2.tr t3).tr t4) r4 _ fun z' H5 sz' τ5 h5 o5 r5 t5 => ?_
    obtain ⟨k', rfl, h5⟩ := h5
    cases r5
    exact ⟨k', rfl, p k' H5 τ5 h5 o5 ((((t1.trans t2).trans t3).trans t4).trans t5)⟩
  | false =>
    rw [if_neg Bool.false_ne_true] at h3 ⊢
    exact ⟨false, rfl, p false H3 τ3 h3 o3 ((t1.trans t2).trans t3)⟩
/-- two ints compared -/
abbrev IntD (g : Int → Int → Bool) (x y : MV) (τ : Store) (Q : MV → Store → Prop) : Prop := ∃ i j, x = .val (.int i) ∧ y = .val (.int j) ∧ Q (.val (.bool (g i j))) τ
theorem opd_int {K : PySem.W.Frag} {g : Int → Int → Bool} {x y : MV} (h : IntD g x y τ Q) : OpD K (rI0 fun i j => .bl (g i j)) x y τ Q := .mk fun H v u o r1 r2 QQ p => by
  obtain ⟨i, j, rfl, rfl, q⟩ := h
  cases r1
  cases r2
  exact ⟨i, j, rfl, rfl, p _ H _ τ q o (Dn.bl _) Tr.refl⟩
abbrev gLt (i j : Int) : Bool := decide (i < j)
abbrev gLe (i j : Int) : Bool := decide (i ≤ j)
abbrev gGt (i j : Int) : Bool := decide (j < i)
abbrev gGe (i j : Int) : Bool := decide (j ≤ i)
theorem de_lt (h : De X ρ τ a fun x τ1 => De X ρ τ1 b fun y τ2 => IntD gLt x y τ2 Q) : De X ρ τ (.Compare a [.Lt] [b] pos) Q := de_cmp op_lt (h.mono fun x τ1 h1 => h1.mono fun y τ2 h2 => opd_int h2) (nomark b)
theorem de_le (h : De X ρ τ a fun x τ1 => De X ρ τ1 b fun y τ2 => IntD gLe x y τ2 Q) : De X ρ τ (.Compare a [.LtE] [b] pos) Q := de_cmp op_le (h.mono fun x τ1 h1 => h1.mono fun y τ2 h2 => opd_int h2) (nomark b)
theorem de_gt (h : De X ρ τ a fun x τ1 => De X ρ τ1 b fun y τ2 => IntD gGt x y τ2 Q) : De X ρ τ (.Compare a [.Gt] [b] pos) Q := de_cmp op_gt (h.mono fun x τ1 h1 => h1.mono fun y τ2 h2 => opd_int h2) (nomark b)
theorem de_ge (h : De X ρ τ a fun x τ1 => De X ρ τ1 b fun y τ2 => IntD gGe x y τ2 Q) : De X ρ τ (.Compare a [.GtE] [b] pos) Q := de_cmp op_ge (h.mono fun x τ1 h1 => h1.mono fun y τ2 h2 => opd_int h2) (nomark b)
section
variable {Q : Bool → Store → Prop}
theorem dt_lt (h : De X ρ τ a fun x τ1 => De X ρ τ1 b fun y τ2 => IntD gLt x y τ2 (BoolQ Q)) : Dt X ρ τ (.Compare a [.Lt] [b] pos) Q := dt_cmp op_lt (h.mono fun x τ1 h1 => h1.mono fun y τ2 h2 => opd_int h2) (nomark b)
theorem dt_le (h : De X ρ τ a fun x τ1 => De X ρ τ1 b fun y τ2 => IntD gLe x y τ2 (BoolQ Q)) : Dt X ρ τ (.Compare a [.LtE] [b] pos) Q := dt_cmp op_le (h.mono fun x τ1 h1 => h1.mono fun y τ2 h2 => opd_int h2) (nomark b)
theorem dt_gt (h : De X ρ τ a fun x τ1 => De X ρ τ1 b fun y τ2 => IntD gGt x y τ2 (BoolQ Q)) : Dt X ρ τ (.Compare a [.Gt] [b] pos) Q := dt_cmp op_gt (h.mono fun x τ1 h1 => h1.mono fun y τ2 h2 => opd_int h2) (nomark b)
theorem dt_ge (h : De X ρ τ a fun x τ1 => De X ρ τ1 b fun y τ2 => IntD gGe x y τ2 (BoolQ Q)) : Dt X ρ τ (.Compare a [.GtE] [b] pos) Q := dt_cmp op_ge (h.mono fun x τ1 h1 => h1.mono fun y τ2 h2 => opd_int h2) (nomark b)
theorem dt_chain_le (h : De X ρ τ a fun x τ1 => De X ρ τ1 b fun y τ2 => IntD gLe x y τ2 fun z τ3 => ∃ k, z = .val (.bool k) ∧ (k = true → De X ρ τ3 c fun u τ4 => IntD gLe y u τ4 (BoolQ Q)) ∧ (k = false → Q false τ3))
    (hm : lastMarks [.LtE, .LtE] [b, c] = false := by with_unfolding_all rfl) : Dt X ρ τ (.Compare a [.LtE, .LtE] [b, c] pos) Q :=
  dt_chain op_le op_le (h.mono fun x τ1 h1 => h1.mono fun y τ2 ⟨i, j, ex, ey, k, ek, h3, h3'⟩ => opd_int ⟨i, j, ex, ey, k, ek, by
    split
    · rename_i hk
      exact (h3 hk).mono fun u τ4 h4 => opd_int h4
    · rename_i hk
      exact h3' (by simpa using hk)⟩) hm
end
theorem de_chain_le (h : De X ρ τ a fun x τ1 => De X ρ τ1 b fun y τ2 => IntD gLe x y τ2 fun z τ3 => ∃ k, z = .val (.bool k) ∧ (k = true → De X ρ τ3 c fun u τ4 => IntD gLe y u τ4 Q) ∧ (k = false → Q (.val (.bool false)) τ3))
    (hm : lastMarks [.LtE, .LtE] [b, c] = false := by with_unfolding_all rfl) : De X ρ τ (.Compare a [.LtE, .LtE] [b, c] pos) Q :=
  de_chain op_le op_le (h.mono fun x τ1 h1 => h1.mono fun y τ2 ⟨i, j, ex, ey, k, ek, h3, h3'⟩ => opd_int ⟨i, j, ex, ey, k, ek, by
    split
    · rename_i hk
      exact (h3 hk).mono fun u τ4 h4 => opd_int h4
    · rename_i hk
      exact h3' (by simpa using hk)⟩) hm
/-- ==, != of data -/
def EqD (K : PySem.W.Frag) (neg : Bool) (x y : MV) (τ : Store) (Q : MV → Store → Prop) : Prop := OpD K (if neg then rNeD K else rEqD K) x y τ Q
def bneg (neg b : Bool) : Bool := if neg then !b else b
theorem eq_dat {K : PySem.W.Frag} {neg : Bool} {x y : MV} {d e : PyData} (hx : datOf τ x = some d) (hy : datOf τ y = some e) (sd : SeqAt.shaped d = true) (se : SeqAt.shaped e = true) (q : Q (.val (.bool (bneg neg (PyData.eqv d e)))) τ) : EqD K neg x y τ Q := .mk fun H v u o r1 r2 QQ p => by
  cases neg with
  | true => exact ⟨d, e, r1.dp o hx, r2.dp o hy, sd, se, p _ H _ τ q o (Dn.bl _) Tr.refl⟩
  | false => exact ⟨d, e, r1.dp o hx, r2.dp o hy, sd, se, p _ H _ τ q o (Dn.bl _) Tr.refl⟩
theorem de_eq (hu : X.A.units + 64 < cLine) (h : De X ρ τ a fun x τ1 => De X ρ τ1 b fun y τ2 => EqD X.K false x y τ2 Q) : De X ρ τ (.Compare a [.Eq] [b] pos) Q := de_cmp (op_eqD hu) h (nomark b)
theorem de_ne (hu : X.A.units + 64 < cLine) (h : De X ρ τ a fun x τ1 => De X ρ τ1 b fun y τ2 => EqD X.K true x y τ2 Q) : De X ρ τ (.Compare a [.NotEq] [b] pos) Q := de_cmp (op_neD hu) h (nomark b)
theorem dt_eq {Q : Bool → Store → Prop} (hu : X.A.units + 64 < cLine) (h : De X ρ τ a fun x τ1 => De X ρ τ1 b fun y τ2 => EqD X.K false x y τ2 (BoolQ Q)) : Dt X ρ τ (.Compare a [.Eq] [b] pos) Q := dt_cmp (op_eqD hu) h (nomark b)
theorem dt_ne {Q : Bool → Store → Prop} (hu : X.A.units + 64 < cLine) (h : De X ρ τ a fun x τ1 => De X ρ τ1 b fun y τ2 => EqD X.K true x y τ2 (BoolQ Q)) : Dt X ρ τ (.Compare a [.NotEq] [b] pos) Q := dt_cmp (op_neD hu) h (nomark b)
/-- is, is not: None, bools -/
def isR (neg : Bool) : R2 := fun x y H Q => (y = .non ∧ Q (.bl (bneg neg (decide (x = .non)))) H) ∨ ∃ a b : Bool, x = .bl a ∧ y = .bl b ∧ Q (.bl (bneg neg (decide (a = b)))) H
def IsD (K : PySem.W.Frag) (neg : Bool) (x y : MV) (τ : Store) (Q : MV → Store → Prop) : Prop := OpD K (isR neg) x y τ Q
def isNone : PyData → Bool
  | .none => true
  | _ => false
theorem is_none {K : PySem.W.Frag} {neg : Bool} {d : PyData} (q : Q (.val (.bool (bneg neg (isNone d)))) τ) : IsD K neg (.val d) (.val .none) τ Q := .mk fun H v u o r1 r2 QQ p => by
  cases r2
  refine .inl ⟨rfl, ?_⟩
  have e : decide (v = V.non) = isNone d := by
    cases r1 <;> rfl
  rw [e]
  exact p _ H _ τ q o (Dn.bl _) Tr.refl
theorem is_bool {K : PySem.W.Frag} {neg : Bool} {a b : Bool} (q : Q (.val (.bool (bneg neg (decide (a = b))))) τ) : IsD K neg (.val (.bool a)) (.val (.bool b)) τ Q := .mk fun H v u o r1 r2 QQ p => by
  cases r1
  cases r2
  exact .inr ⟨a, b, rfl, rfl, p _ H _ τ q o (Dn.bl _) Tr.refl⟩
theorem op_isR : OpR X (compareOp .Is) (isR false) := fun pins s σ H x y v u Q I rx ry h => h.elim (fun h => op_isN pins s σ H x y v u Q I rx ry h) fun h => op_isBl pins s σ H x y v u Q I rx ry h
theorem op_notR : OpR X (compareOp .IsNot) (isR true) := fun pins s σ H x y v u Q I rx ry h => h.elim (fun h => op_notN pins s σ H x y v u Q I rx ry h) fun h => op_notBl pins s σ H x y v u Q I rx ry h
theorem de_is (h : De X ρ τ a fun x τ1 => De X ρ τ1 b fun y τ2 => IsD X.K false x y τ2 Q) : De X ρ τ (.Compare a [.Is] [b] pos) Q := de_cmp op_isR h (nomark b)
theorem de_isnot (h : De X ρ τ a fun x τ1 => De X ρ τ1 b fun y τ2 => IsD X.K true x y τ2 Q) : De X ρ τ (.Compare a [.IsNot] [b] pos) Q := de_cmp op_notR h (nomark b)
theorem dt_is {Q : Bool → Store → Prop} (h : De X ρ τ a fun x τ1 => De X ρ τ1 b fun y τ2 => IsD X.K false x y τ2 (BoolQ Q)) : Dt X ρ τ (.Compare a [.Is] [b] pos) Q := dt_cmp op_isR h (nomark b)
theorem dt_isnot {Q : Bool → Store → Prop} (h : De X ρ τ a fun x τ1 => De X ρ τ1 b fun y τ2 => IsD X.K true x y τ2 (BoolQ Q)) : Dt X ρ τ (.Compare a [.IsNot] [b] pos) Q := dt_cmp op_notR h (nomark b)
/-- in, not in a list of data, in a list or a tuple of flat things -/
def rInDT (K : PySem.W.Frag) (neg : Bool) : R2 := fun x y H Q => ∃ d ds, Dp K H x d ∧ Dp K H y (.tuple ds) ∧ SeqAt.shaped d = true ∧ SeqAt.shaped (.tuple ds) = true ∧ Q (.bl (if neg then !ds.any (fun z => PyData.eqv z d) else ds.any fun z => PyData.eqv z d)) H
theorem op_inDT {X : Cx} (hu : X.A.units + 65 < cLine) : OpR X (compareOp .In) (rInDT X.K false) := by
  intro pins s σ H x y v u Q I rx ry h
  obtain ⟨d, ds, hd, he, sd, se, q⟩ := h
  obtain ⟨as, r1⟩ := Dp.reads I d x v hd rx
  obtain ⟨bs, r2⟩ := Dp.reads I (.tuple ds) y u he ry
  exact SeqAt.in_tuple_reads r2 r1 (SeqAt.canLay_of_shaped se) (SeqAt.canLay_of_shaped sd) (PyProof.Rows.room_in_shaped sd hu) ⟨.bl _, H, I, rfl, q⟩
theorem op_notInDT {X : Cx} (hu : X.A.units + 65 < cLine) : OpR X (compareOp .NotIn) (rInDT X.K true) := by
  intro pins s σ H x y v u Q I rx ry h
  obtain ⟨d, ds, hd, he, sd, se, q⟩ := h
  obtain ⟨as, r1⟩ := Dp.reads I d x v hd rx
  obtain ⟨bs, r2⟩ := Dp.reads I (.tuple ds) y u he ry
  exact SeqAt.notIn_tuple_reads r2 r1 (SeqAt.canLay_of_shaped se) (SeqAt.canLay_of_shaped sd) (PyProof.Rows.room_in_shaped sd hu) ⟨.bl _, H, I, rfl, q⟩
def rInA (K : PySem.W.Frag) : R2 := fun x y H Q => rInD K x y H Q ∨ (rIn K false x y H Q ∨ rInDT K false x y H Q)
def rNotInA (K : PySem.W.Frag) : R2 := fun x y H Q => rNotInD K x y H Q ∨ (rIn K true x y H Q ∨ rInDT K true x y H Q)
def InD (K : PySem.W.Frag) (neg : Bool) (x y : MV) (τ : Store) (Q : MV → Store → Prop) : Prop := OpD K (if neg then rNotInA K else rInA K) x y τ Q
theorem in_dat {K : PySem.W.Frag} {neg : Bool} {x y : MV} {d : PyData} {ds : List PyData} (hx : datOf τ x = some d) (hy : datOf τ y = some (.list ds)) (sd : SeqAt.shaped d = true) (se : SeqAt.shaped (.list ds) = true) (q : Q (.val (.bool (bneg neg (ds.any fun z => PyData.eqv z d)))) τ) : InD K neg x y τ Q := .mk fun H v u o r1 r2 QQ p => by
  cases neg with
  | true => exact .inl ⟨d, ds, r1.dp o hx, r2.dp o hy, sd, se, p _ H _ τ q o (Dn.bl _) Tr.refl⟩
  | false => exact .inl ⟨d, ds, r1.dp o hx, r2.dp o hy, sd, se, p _ H _ τ q o (Dn.bl _) Tr.refl⟩
theorem inV_int {i : Int} {ns : List Int} : inV (.int i) (ns.map V.int) = decide (i ∈ ns) := by
  unfold inV
  induction ns with
  | nil => rfl
  | cons n ns ih =>
    rw [List.map_cons, List.any_cons, ih]
    by_cases e : n = i
    · subst e
      simp [eqV]
    · have : ¬ i = n := fun z => e z.symm
      simp [eqV, e, this]
theorem flat_ints (ns : List Int) : (ns.map V.int).all flatV = true := by
  rw [List.all_eq_true]
  intro x hx
  obtain ⟨i, _, rfl⟩ := List.mem_map.mp hx
  rfl
/-- an int in a tuple of ints -/
theorem in_intT {K : PySem.W.Frag} {neg : Bool} {i : Int} {ns : List Int} (q : Q (.val (.bool (bneg neg (decide (i ∈ ns))))) τ) : InD K neg (.val (.int i)) (.val (.tuple (ns.map .int))) τ Q := .mk fun H v u o r1 r2 QQ p => by
  cases r1
  obtain ⟨a, vs, rfl, h1, l1⟩ := r2.seqT o (rfl : datOf τ (.val (.tuple (ns.map .int))) = some (.tuple (ns.map .int)))
  have e := l1.ints
  subst e
  cases neg with
  | true => exact .inr <| .inl ⟨a, _, rfl, .inr h1.sq, rfl, flat_ints ns, by
    show QQ (.bl (!inV (.int i) (ns.map V.int))) H
    rw [inV_int]
    exact p _ H _ τ q o (Dn.bl _) Tr.refl⟩
  | false => exact .inr <| .inl ⟨a, _, rfl, .inr h1.sq, rfl, flat_ints ns, by
    show QQ (.bl (inV (.int i) (ns.map V.int))) H
    rw [inV_int]
    exact p _ H _ τ q o (Dn.bl _) Tr.refl⟩
theorem in_datT {K : PySem.W.Frag} {neg : Bool} {x y : MV} {d : PyData} {ds : List PyData} (hx : datOf τ x = some d) (hy : datOf τ y = some (.tuple ds)) (sd : SeqAt.shaped d = true) (se : SeqAt.shaped (.tuple ds) = true) (q : Q (.val (.bool (bneg neg (ds.any fun z => PyData.eqv z d)))) τ) : InD K neg x y τ Q := .mk fun H v u o r1 r2 QQ p => by
  cases neg with
  | true => exact .inr <| .inr ⟨d, ds, r1.dp o hx, r2.dp o hy, sd, se, p _ H _ τ q o (Dn.bl _) Tr.refl⟩
  | false => exact .inr <| .inr ⟨d, ds, r1.dp o hx, r2.dp o hy, sd, se, p _ H _ τ q o (Dn.bl _) Tr.refl⟩
/-- an int in a list of ints -/
theorem in_intL {K : PySem.W.Frag} {neg : Bool} {i : Int} {y : MV} {ns : List Int} (hy : datOf τ y = some (.list (ns.map .int))) (q : Q (.val (.bool (bneg neg (decide (i ∈ ns))))) τ) : InD K neg (.val (.int i)) y τ Q := .mk fun H v u o r1 r2 QQ p => by
  cases r1
  obtain ⟨a, vs, rfl, h1, l1⟩ := r2.seqL o hy
  have e := l1.ints
  subst e
  cases neg with
  | true => exact .inr <| .inl ⟨a, _, rfl, .inl h1, rfl, flat_ints ns, by
    show QQ (.bl (!inV (.int i) (ns.map V.int))) H
    rw [inV_int]
    exact p _ H _ τ q o (Dn.bl _) Tr.refl⟩
  | false => exact .inr <| .inl ⟨a, _, rfl, .inl h1, rfl, flat_ints ns, by
    show QQ (.bl (inV (.int i) (ns.map V.int))) H
    rw [inV_int]
    exact p _ H _ τ q o (Dn.bl _) Tr.refl⟩
theorem de_in (hu : X.A.units + 65 < cLine) (h : De X ρ τ a fun x τ1 => De X ρ τ1 b fun y τ2 => InD X.K false x y τ2 Q) (hm : behindInMarks .In b = false := by rfl) : De X ρ τ (.Compare a [.In] [b] pos) Q := de_cmp ((op_inD hu).or (op_in_seq.or (op_inDT hu))) h hm
theorem de_notin (hu : X.A.units + 65 < cLine) (h : De X ρ τ a fun x τ1 => De X ρ τ1 b fun y τ2 => InD X.K true x y τ2 Q) (hm : behindInMarks .NotIn b = false := by rfl) : De X ρ τ (.Compare a [.NotIn] [b] pos) Q := de_cmp ((op_notInD hu).or (op_notIn_seq.or (op_notInDT hu))) h hm
theorem dt_in {Q : Bool → Store → Prop} (hu : X.A.units + 65 < cLine) (h : De X ρ τ a fun x τ1 => De X ρ τ1 b fun y τ2 => InD X.K false x y τ2 (BoolQ Q)) (hm : behindInMarks .In b = false := by rfl) : Dt X ρ τ (.Compare a [.In] [b] pos) Q := dt_cmp ((op_inD hu).or (op_in_seq.or (op_inDT hu))) h hm
theorem dt_notin {Q : Bool → Store → Prop} (hu : X.A.units + 65 < cLine) (h : De X ρ τ a fun x τ1 => De X ρ τ1 b fun y τ2 => InD X.K true x y τ2 (BoolQ Q)) (hm : behindInMarks .NotIn b = false := by rfl) : Dt X ρ τ (.Compare a [.NotIn] [b] pos) Q := dt_cmp ((op_notInD hu).or (op_notIn_seq.or (op_notInDT hu))) h hm
/-! ### and, or, not, if -/
theorem dt_val {Q : Bool → Store → Prop} (h : De X ρ τ a (BoolQ Q)) (he : ∀ whole, isTrue a X.env whole = (do let v ← whole; standAt a.pos; holding [v] (truthy v)) := by intro _; rfl) : Dt X ρ τ a Q := .mk fun σ H o l QQ p =>
  wt_of (pt_val pe_we he) (h σ H o l _ fun v H1 x τ1 ⟨k, ex, q⟩ o1 r1 t1 => by
    subst ex
    cases r1
    exact ⟨k, rfl, p k H1 τ1 q o1 t1⟩)
theorem dt_not {Q : Bool → Store → Prop} (h : Dt X ρ τ a fun k τ1 => Q (!k) τ1) : Dt X ρ τ (.UnaryOp .Not a pos) Q := .mk fun σ H o l QQ p =>
  wt_of (pt_not pt_wt) (h σ H o l _ fun k H1 τ1 q o1 t1 => p (!k) H1 τ1 q o1 t1)
theorem dt_bool {Q : Bool → Store → Prop} {op es} (h : Dw X ρ τ (.BoolOp op es pos) Q) : Dt X ρ τ (.BoolOp op es pos) Q := .mk fun σ H o l QQ p => wt_of pw_ww.pt (h σ H o l QQ p)
theorem dw_and1 {Q : Bool → Store → Prop} (h : Dt X ρ τ a Q) : Dw X ρ τ (.BoolOp .And [a] pos) Q := .mk fun σ H o l QQ p => ww_of (pw_and1 pt_wt) (h σ H o l QQ p)
theorem dw_or1 {Q : Bool → Store → Prop} (h : Dt X ρ τ a Q) : Dw X ρ τ (.BoolOp .Or [a] pos) Q := .mk fun σ H o l QQ p => ww_of (pw_or1 pt_wt) (h σ H o l QQ p)
theorem dw_and {Q : Bool → Store → Prop} (h : Dt X ρ τ a fun k τ1 => (k = true → Dw X ρ τ1 (.BoolOp .And (b :: es) pos) Q) ∧ (k = false → Q false τ1)) : Dw X ρ τ (.BoolOp .And (a :: b :: es) pos) Q := .mk fun σ H o l QQ p =>
  ww_of (pw_and pt_wt pw_ww) (h σ H o l _ fun k H1 τ1 ⟨q1, q2⟩ o1 t1 => by
    cases k with
    | true => exact iteT (q1 rfl σ H1 o1 (l.tr t1) QQ (p.step t1))
    | false => exact iteF (p false H1 τ1 (q2 rfl) o1 t1))
theorem dw_or {Q : Bool → Store → Prop} (h : Dt X ρ τ a fun k τ1 => (k = true → Q true τ1) ∧ (k = false → Dw X ρ τ1 (.BoolOp .Or (b :: es) pos) Q)) : Dw X ρ τ (.BoolOp .Or (a :: b :: es) pos) Q := .mk fun σ H o l QQ p =>
  ww_of (pw_or pt_wt pw_ww) (h σ H o l _ fun k H1 τ1 ⟨q1, q2⟩ o1 t1 => by
    cases k with
    | true => exact iteT (p true H1 τ1 (q1 rfl) o1 t1)
    | false => exact iteF (q2 rfl σ H1 o1 (l.tr t1) QQ (p.step t1)))
theorem de_one {op} (h : De X ρ τ a Q) : De X ρ τ (.BoolOp op [a] pos) Q := .mk fun σ H o l QQ p => we_of (pe_one pe_we) (h σ H o l QQ p)
theorem de_and (h : De X ρ τ a (BoolQ fun k τ1 => (k = true → De X ρ τ1 (.BoolOp .And (b :: es) pos) Q) ∧ (k = false → Q (.val (.bool false)) τ1))) : De X ρ τ (.BoolOp .And (a :: b :: es) pos) Q := .mk fun σ H o l QQ p =>
  we_of (pe_and pe_we pe_we) (h σ H o l _ fun v H1 x τ1 ⟨k, ex, q1, q2⟩ o1 r1 t1 => by
    subst ex
    cases r1
    refine ⟨k, rfl, ?_⟩
    cases k with
    | true => exact iteT (q1 rfl σ H1 o1 (l.tr t1) QQ (p.step t1))
    | false => exact iteF (p _ H1 _ τ1 (q2 rfl) o1 (Dn.bl _) t1))
theorem de_or (h : De X ρ τ a (BoolQ fun k τ1 => (k = true → Q (.val (.bool true)) τ1) ∧ (k = false → De X ρ τ1 (.BoolOp .Or (b :: es) pos) Q))) : De X ρ τ (.BoolOp .Or (a :: b :: es) pos) Q := .mk fun σ H o l QQ p =>
  we_of (pe_or pe_we pe_we) (h σ H o l _ fun v H1 x τ1 ⟨k, ex, q1, q2⟩ o1 r1 t1 => by
    subst ex
    cases r1
    refine ⟨k, rfl, ?_⟩
    cases k with
    | true => exact iteT (p _ H1 _ τ1 (q1 rfl) o1 (Dn.bl _) t1)
    | false => exact iteF (q2 rfl σ H1 o1 (l.tr t1) QQ (p.step t1)))
theorem de_not (h : De X ρ τ a (BoolQ fun k τ1 => Q (.val (.bool (!k))) τ1)) : De X ρ τ (.UnaryOp .Not a pos) Q := .mk fun σ H o l QQ p =>
  we_of (pe_not pe_we) (h σ H o l _ fun v H1 x τ1 ⟨k, ex, q⟩ o1 r1 t1 => by
    subst ex
    cases r1
    exact ⟨k, rfl, p _ H1 _ τ1 q o1 (Dn.bl _) t1⟩)
theorem de_ifexp (h : Dt X ρ τ a fun k τ1 => (k = true → De X ρ τ1 b Q) ∧ (k = false → De X ρ τ1 c Q)) : De X ρ τ (.IfExp a b c pos) Q := .mk fun σ H o l QQ p =>
  we_of (pe_ifExp pt_wt pe_we pe_we) (h σ H o l _ fun k H1 τ1 ⟨q1, q2⟩ o1 t1 => by
    cases k with
    | true => exact iteT (q1 rfl σ H1 o1 (l.tr t1) QQ (p.step t1))
    | false => exact iteF (q2 rfl σ H1 o1 (l.tr t1) QQ (p.step t1)))
/-! ### argument lists, displays -/
theorem da_nil {Q : List MV → Store → Prop} (q : Q [] τ) : Da X ρ τ [] Q := .mk fun σ H o l QQ p => wa_of pa_nil (p [] H [] τ q o .nil Tr.refl)
theorem da_cons {Q : List MV → Store → Prop} (h : De X ρ τ a fun x τ1 => Da X ρ τ1 es fun xs τ2 => Q (x :: xs) τ2) (hs : starEach (a :: es) X.env = (false, eval a X.env) :: starEach es X.env := by rfl) : Da X ρ τ (a :: es) Q := .mk fun σ H o l QQ p =>
  wa_of (pa_cons pe_we pa_wa hs) (h σ H o l _ fun v H1 x τ1 h1 o1 r1 t1 => h1 σ H1 o1 (l.tr t1) _ fun vs H2 xs τ2 q o2 r2 t2 => p _ H2 _ τ2 q o2 (.cons (r1.tr t2) r2) (t1.trans t2))
/-- all data -/
def vals : List MV → Option (List PyData)
  | [] => some []
  | .val d :: r => (vals r).map (d :: ·)
  | _ :: _ => none
theorem RvL.vals {K : PySem.W.Frag} {N : List Addr} {H : Hp} : ∀ {vs : List V} {svs : List MV} {ds : List PyData}, RvL K N H vs svs → Dl.vals svs = some ds → DnL K N H vs ds
  | _, _, _, .nil, e => by
    cases e
    exact .nil
  | _, .val d :: r, ds, .cons a b, e => by
    unfold Dl.vals at e
    cases h : Dl.vals r with
    | none => rw [h] at e; cases e
    | some es =>
      rw [h] at e
      cases e
      exact .cons a (RvL.vals b h)
  | _, .hdl _ :: _, _, _, e => by cases e
  | _, .scr _ :: _, _, _, e => by cases e
theorem de_tup {x1} (h : Da X ρ τ es fun xs τ1 => ∃ ds, vals xs = some ds ∧ ds.length ≤ 1000000 ∧ Q (.val (.tuple ds)) τ1) : De X ρ τ (.Tuple es x1 pos) Q := .mk fun σ H o l QQ p =>
  we_of (pe_tup pa_wa) (h σ H o l _ fun vs H1 xs τ1 ⟨ds, e, hl, q⟩ o1 r1 t1 => ⟨small_sz (by rw [(r1.vals e).length]; exact hl), (p.step t1).tup o1 (r1.vals e) q⟩)
theorem de_lst (h : Da X ρ τ es fun xs τ1 => ∃ ds, vals xs = some ds ∧ ds.length ≤ 1000000 ∧ Q (.val (.list ds)) τ1) : De X ρ τ (.List es pos) Q := .mk fun σ H o l QQ p =>
  we_of (pe_lst pa_wa) (h σ H o l _ fun vs H1 xs τ1 ⟨ds, e, hl, q⟩ o1 r1 t1 => ⟨small_sz (by rw [(r1.vals e).length]; exact hl), (p.step t1).lst o1 (r1.vals e) q⟩)
/-- a new list that will change -/
theorem de_lstM (h : Da X ρ τ es fun xs τ1 => ∃ ds, vals xs = some ds ∧ ds.length ≤ 1000000 ∧ ∀ l, l ∉ dom τ1 → Q (.hdl l) ((l, .lst ds) :: τ1)) : De X ρ τ (.List es pos) Q := .mk fun σ H o l QQ p =>
  we_of (pe_lst pa_wa) (h σ H o l _ fun vs H1 xs τ1 ⟨ds, e, hl, q⟩ o1 r1 t1 => ⟨small_sz (by rw [(r1.vals e).length]; exact hl), (p.step t1).lstM o1 (r1.vals e) q⟩)
end
end Dl

namespace Dl
open PySem PySem.Spec L2

/-! ### subscripts -/
section
variable {X : Cx} {ρ : En} {τ : Store} {Q : MV → Store → Prop} {pos p1 p2 p3 : Pos} {a b c : Expr} {es : List Expr}
def IxD (K : PySem.W.Frag) (x y : MV) (τ : Store) (Q : MV → Store → Prop) : Prop := OpD K (rIx K) x y τ Q
theorem atI_dn {K : PySem.W.Frag} {N : List Addr} {H : Hp} {vs : List V} {ds : List PyData} {i : Int} {d : PyData} (l : DnL K N H vs ds) (e : atI ds i = some d) : ∃ v, atI vs i = some v ∧ Dn K N H v d := by
  unfold atI at e ⊢
  rw [← l.length] at e
  cases h : ixN vs.length i with
  | none => rw [h] at e; cases e
  | some j =>
    rw [h] at e
    exact l.getD e
theorem ix_lst {K : PySem.W.Frag} {x : MV} {ds : List PyData} {i : Int} {d : PyData} (hx : datOf τ x = some (.list ds)) (e : atI ds i = some d) (q : Q (.val d) τ) : IxD K x (.val (.int i)) τ Q := .mk fun H v u o r1 r2 QQ p => by
  obtain ⟨a, vs, rfl, h1, l1⟩ := r1.seqL o hx
  cases r2
  obtain ⟨w, h2, h3⟩ := atI_dn l1 e
  exact .inl ⟨a, vs, i, w, rfl, rfl, h1, h2, p _ H _ τ q o h3 Tr.refl⟩
theorem ix_tup' {K : PySem.W.Frag} {ds : List PyData} {i : Int} {d : PyData} (e : atI ds i = some d) (q : Q (.val d) τ) : IxD K (.val (.tuple ds)) (.val (.int i)) τ Q := .mk fun H v u o r1 r2 QQ p => by
  obtain ⟨a, vs, rfl, h1, l1⟩ := r1.seqT o (rfl : datOf τ (.val (.tuple ds)) = some (.tuple ds))
  cases r2
  obtain ⟨w, h2, h3⟩ := atI_dn l1 e
  exact .inr (.inl ⟨a, vs, i, w, rfl, rfl, h1.sq, h2, p _ H _ τ q o h3 Tr.refl⟩)
theorem ix_str' {K : PySem.W.Frag} {z : Str} {i : Int} {ch : Nat} (hz : z.length ≤ 1000000) (e : atI z.cps.toList i = some ch) (q : Q (.val (.str ⟨#[ch]⟩)) τ) : IxD K (.val (.str z)) (.val (.int i)) τ Q := .mk fun H v u o r1 r2 QQ p => by
  cases r1
  cases r2
  exact .inr (.inr ⟨z, i, ch, rfl, rfl, small_sz hz, e, p _ H _ τ q o (Dn.str _) Tr.refl⟩)
theorem de_ix (h : De X ρ τ a fun x τ1 => De X ρ τ1 b fun y τ2 => IxD X.K x y τ2 Q) (hs : PlainIx b := by exact fun _ _ => rfl) : De X ρ τ (.Subscript a b pos) Q := .mk fun σ H o l QQ p => by
  refine we_of (pe_ix ix_seq pe_we pe_we hs) (h σ H o l _ fun v H1 x τ1 h1 o1 r1 t1 => ?_)
  exact h1 σ H1 o1 (l.tr t1) _ fun u H2 y τ2 h2 o2 r2 t2 => OpD.run h2 H2 v u o2 (r1.tr t2) r2 QQ ((p.step t1).step t2)
/-! slices -/
def cutD (ds : List PyData) (lo hi : Option Int) : List PyData := (ds.drop (HT.sIx ds.length 0 lo)).take (HT.sIx ds.length ds.length hi - HT.sIx ds.length 0 lo)
def Do (X : Cx) (ρ : En) (τ : Store) (e : Option Expr) (Q : Option Int → Store → Prop) : Prop := match e with
  | none => Q none τ
  | some e => De X ρ τ e fun x τ1 => ∃ i, x = .val (.int i) ∧ Q (some i) τ1
def Wo (X : Cx) (e : Option Expr) : TO := match e with
  | none => tNoPart
  | some e => tPart (We X e)
theorem po_wo {e : Option Expr} : PO X e (Wo X e) := by
  cases e with
  | none => exact po_none
  | some e => exact po_some pe_we
theorem wo_of {e : Option Expr} {σ : L2.St} {H : Hp} {Q : Option Int → Store → Prop} (h : Do X ρ τ e Q) (o : StOk X.K H τ) (l : SlOk X.K (dom τ) H σ ρ) {QQ : Option Int → Hp → Prop}
    (p : ∀ i H' τ', Q i τ' → StOk X.K H' τ' → Tr (dom τ) H (dom τ') H' → QQ i H') : Wo X e σ H QQ := by
  cases e with
  | none => exact p none H τ h o Tr.refl
  | some e =>
    refine De.run (show De X ρ τ e _ from h) σ H o l _ fun v H1 x τ1 ⟨i, ex, q⟩ o1 r1 t1 => ?_
    subst ex
    cases r1
    exact ⟨i, rfl, p (some i) H1 τ1 q o1 t1⟩
theorem do_none {Q : Option Int → Store → Prop} (q : Q none τ) : Do X ρ τ none Q := q
theorem do_some {Q : Option Int → Store → Prop} {e : Expr} (h : De X ρ τ e fun x τ1 => ∃ i, x = .val (.int i) ∧ Q (some i) τ1) : Do X ρ τ (some e) Q := h
def rSl (K : PySem.W.Frag) : V → Option Int → Option Int → Hp → VK → Prop := fun x lo hi H Q => rSlL K x lo hi H Q ∨ (rSlA K x lo hi H Q ∨ (∃ z, x = .str z ∧ z.length ≤ sizeLine ∧ Q (.str (cutS z lo hi)) H))
structure SlD (K : PySem.W.Frag) (x : MV) (lo hi : Option Int) (τ : Store) (Q : MV → Store → Prop) : Prop where
  run : ∀ (H : Hp) (v : V), StOk K H τ → Rv K (dom τ) H v x → ∀ QQ : VK, Pst K τ H Q QQ → rSl K v lo hi H QQ
instance {K : PySem.W.Frag} {x : MV} {lo hi : Option Int} {τ : Store} {Q : MV → Store → Prop} : CoeFun (SlD K x lo hi τ Q) fun _ => ∀ (H : Hp) (v : V), StOk K H τ → Rv K (dom τ) H v x → ∀ QQ : VK, Pst K τ H Q QQ → rSl K v lo hi H QQ := ⟨fun h => h.run⟩
theorem sl_all : SlR X (rSl X.K) := SlR.or sl_list (SlR.or sl_tupA sl_str)
theorem DnL.cut {K : PySem.W.Frag} {N : List Addr} {H : Hp} {vs : List V} {ds : List PyData} (l : DnL K N H vs ds) (lo hi : Option Int) : DnL K N H (cutV vs lo hi) (cutD ds lo hi) := by
  unfold cutV cutD
  rw [l.length]
  exact (l.drop _).take _
theorem sl_lst {K : PySem.W.Frag} {x : MV} {ds : List PyData} {lo hi : Option Int} (hx : datOf τ x = some (.list ds)) (q : Q (.val (.list (cutD ds lo hi))) τ) : SlD K x lo hi τ Q := .mk fun H v o r1 QQ p => by
  obtain ⟨a, vs, rfl, h1, l1⟩ := r1.seqL o hx
  exact .inl ⟨a, vs, rfl, h1, p.lst o (l1.cut lo hi) q⟩
theorem cutD_whole {ds : List PyData} {lo hi : Option Int} (hw : HT.sIx ds.length 0 lo = 0 ∧ HT.sIx ds.length ds.length hi = ds.length) : cutD ds lo hi = ds := by
  unfold cutD
  rw [hw.1, hw.2, List.drop_zero, Nat.sub_zero, List.take_length]
theorem sl_tup' {K : PySem.W.Frag} {ds : List PyData} {lo hi : Option Int} (q : Q (.val (.tuple (cutD ds lo hi))) τ) : SlD K (.val (.tuple ds)) lo hi τ Q := .mk fun H v o r1 QQ p => by
  obtain ⟨a, vs, rfl, h1, l1⟩ := r1.seqT o (rfl : datOf τ (.val (.tuple ds)) = some (.tuple ds))
  refine .inr (.inl ⟨a, vs, rfl, h1.sq, fun hw => ?_, fun hw => p.tup o (l1.cut lo hi) q⟩)
  rw [l1.length] at hw
  rw [cutD_whole hw] at q
  exact p _ H _ τ q o (Dn.tup h1 l1) Tr.refl
theorem sl_str' {K : PySem.W.Frag} {z : Str} {lo hi : Option Int} (hz : z.length ≤ 1000000) (q : Q (.val (.str (cutS z lo hi))) τ) : SlD K (.val (.str z)) lo hi τ Q := .mk fun H v o r1 QQ p => by
  cases r1
  exact .inr (.inr ⟨z, rfl, small_sz hz, p _ H _ τ q o (Dn.str _) Tr.refl⟩)
theorem de_slice {lo hi : Option Expr} (h : De X ρ τ a fun x τ1 => Do X ρ τ1 lo fun i τ2 => Do X ρ τ2 hi fun j τ3 => SlD X.K x i j τ3 Q) : De X ρ τ (.Subscript a (.Slice lo hi none p2) pos) Q := .mk fun σ H o l QQ p => by
  refine we_of (pe_slice sl_all pe_we po_wo po_wo) (h σ H o l _ fun v H1 x τ1 h1 o1 r1 t1 => ?_)
  refine wo_of h1 o1 (l.tr t1) fun i H2 τ2 h2 o2 t2 => wo_of h2 o2 ((l.tr t1).tr t2) fun j H3 τ3 h3 o3 t3 => ?_
  exact h3 H3 v o3 ((r1.tr t2).tr t3) QQ (((p.step t1).step t2).step t3)

/-! ### calls of builtins -/
theorem de_callB {r : List V → Hp → VK → Prop} {id : String} {x : Str} (hc : CallR X (.builtin id) r) (hg : Gl X x) (hm : X.mg x = none) (hv : bootBuiltins x = some (.builtin id)) (h : Da X ρ τ (a :: es) fun xs τ1 => CaD X.K r xs τ1 Q)
    (he : starEach (a :: es) X.env = (false, eval a X.env) :: starEach es X.env := by rfl) (hpl : (backTo pos (starEach es X.env)).any (·.1) = false := by rfl) (hn : x ≠ "__name__" := by decide) (hdb : (x == ("__debug__" : Str)) = false := by decide) :
    De X ρ τ (.Call (.Name x p1) (a :: es) [] pos) Q := .mk fun σ H o l QQ p =>
  we_of (pe_callB hc hg hm hv pa_wa hn hdb he hpl) (h σ H o l _ fun vs H1 xs τ1 h1 o1 r1 t1 => h1 H1 vs o1 r1 QQ (p.step t1))
theorem de_callTy {r : List V → Hp → VK → Prop} {T : String} {x : Str} (hc : CallR X (.type T) r) (hg : Gl X x) (hm : X.mg x = none) (hv : bootBuiltins x = some (.type T)) (h : Da X ρ τ (a :: es) fun xs τ1 => CaD X.K r xs τ1 Q)
    (he : starEach (a :: es) X.env = (false, eval a X.env) :: starEach es X.env := by rfl) (hpl : (backTo pos (starEach es X.env)).any (·.1) = false := by rfl) (hn : x ≠ "__name__" := by decide) (hdb : (x == ("__debug__" : Str)) = false := by decide) :
    De X ρ τ (.Call (.Name x p1) (a :: es) [] pos) Q := .mk fun σ H o l QQ p =>
  we_of (pe_callTy hc hg hm hv pa_wa hn hdb he hpl) (h σ H o l _ fun vs H1 xs τ1 h1 o1 r1 t1 => h1 H1 vs o1 r1 QQ (p.step t1))
theorem paired1 {α β : Type} {R : α → β → Prop} {vs : List α} {x : β} (h : Paired R vs [x]) : ∃ v, vs = [v] ∧ R v x := by
  cases h with
  | cons a b =>
    cases b
    exact ⟨_, rfl, a⟩
theorem paired2 {α β : Type} {R : α → β → Prop} {vs : List α} {x y : β} (h : Paired R vs [x, y]) : ∃ v u, vs = [v, u] ∧ R v x ∧ R u y := by
  cases h with
  | cons a b =>
    cases b with
    | cons c d =>
      cases d
      exact ⟨_, _, rfl, a, c⟩
/-! len -/
def LenD (K : PySem.W.Frag) (x : MV) (τ : Store) (Q : MV → Store → Prop) : Prop := CaD K (fun xs H Q => ∃ x n, xs = [x] ∧ LenV K x H n ∧ Q (.int n) H) [x] τ Q
theorem da_one {Q : List MV → Store → Prop} (h : De X ρ τ a fun x τ1 => Q [x] τ1) (hs : starEach [a] X.env = (false, eval a X.env) :: starEach [] X.env := by rfl) : Da X ρ τ [a] Q := da_cons (h.mono fun x τ1 h1 => da_nil h1) hs
theorem da_two {Q : List MV → Store → Prop} (h : De X ρ τ a fun x τ1 => De X ρ τ1 b fun y τ2 => Q [x, y] τ2) (hs : starEach [a, b] X.env = (false, eval a X.env) :: starEach [b] X.env := by rfl) (hs2 : starEach [b] X.env = (false, eval b X.env) :: starEach [] X.env := by rfl) : Da X ρ τ [a, b] Q :=
  da_cons (h.mono fun x τ1 h1 => da_one h1 hs2) hs
theorem de_len (B : Bl X.mg) (hg : Gl X "len") (h : De X ρ τ a fun x τ1 => LenD X.K x τ1 Q)
    (hs : starEach [a] X.env = (false, eval a X.env) :: starEach [] X.env := by rfl) : De X ρ τ (.Call (.Name "len" p1) [a] [] pos) Q := de_callB call_len hg B.h_len PySem.boot_len (da_one h hs) hs rfl
theorem len_lst {K : PySem.W.Frag} {x : MV} {ds : List PyData} (hx : datOf τ x = some (.list ds)) (q : Q (.val (.int ds.length)) τ) : LenD K x τ Q := .mk fun H vs o r QQ p => by
  obtain ⟨v, rfl, r1⟩ := paired1 r
  obtain ⟨a, ws, rfl, h1, l1⟩ := r1.seqL o hx
  exact ⟨_, ds.length, rfl, .inl ⟨ws, h1, l1.length.symm⟩, p _ H _ τ q o (Dn.int _) Tr.refl⟩
theorem len_tup {K : PySem.W.Frag} {ds : List PyData} (q : Q (.val (.int ds.length)) τ) : LenD K (.val (.tuple ds)) τ Q := .mk fun H vs o r QQ p => by
  obtain ⟨v, rfl, r1⟩ := paired1 r
  obtain ⟨a, ws, rfl, h1, l1⟩ := r1.seqT o (rfl : datOf τ (.val (.tuple ds)) = some (.tuple ds))
  exact ⟨_, ds.length, rfl, .inr ⟨ws, h1.sq, l1.length.symm⟩, p _ H _ τ q o (Dn.int _) Tr.refl⟩
theorem len_str {K : PySem.W.Frag} {z : Str} (hz : z.length ≤ 1000000) (q : Q (.val (.int z.length)) τ) : LenD K (.val (.str z)) τ Q := .mk fun H vs o r QQ p => by
  obtain ⟨v, rfl, r1⟩ := paired1 r
  cases r1
  exact ⟨_, z.length, rfl, ⟨small_sz hz, rfl⟩, p _ H _ τ q o (Dn.int _) Tr.refl⟩
/-! tuple, list -/
def TupD (K : PySem.W.Frag) (x : MV) (τ : Store) (Q : MV → Store → Prop) : Prop := CaD K (fun xs H Q => ∃ p ys, xs = [.ref p] ∧ ((SqL K H p ys ∧ ∀ l, H l = none → Q (.ref l) (upd H l (.tup ys))) ∨ (SqT K H p ys ∧ Q (.ref p) H))) [x] τ Q
theorem de_tuple (B : Bl X.mg) (hg : Gl X "tuple") (h : De X ρ τ a fun x τ1 => TupD X.K x τ1 Q)
    (hs : starEach [a] X.env = (false, eval a X.env) :: starEach [] X.env := by rfl) : De X ρ τ (.Call (.Name "tuple" p1) [a] [] pos) Q := de_callTy call_tuple_of hg B.h_tuple (by decide +kernel) (da_one h hs) hs rfl
theorem tup_lst {K : PySem.W.Frag} {x : MV} {ds : List PyData} (hx : datOf τ x = some (.list ds)) (q : Q (.val (.tuple ds)) τ) : TupD K x τ Q := .mk fun H vs o r QQ p => by
  obtain ⟨v, rfl, r1⟩ := paired1 r
  obtain ⟨a, ws, rfl, h1, l1⟩ := r1.seqL o hx
  exact ⟨a, ws, rfl, .inl ⟨h1, p.tup o l1 q⟩⟩
theorem tup_tup {K : PySem.W.Frag} {ds : List PyData} (q : Q (.val (.tuple ds)) τ) : TupD K (.val (.tuple ds)) τ Q := .mk fun H vs o r QQ p => by
  obtain ⟨v, rfl, r1⟩ := paired1 r
  obtain ⟨a, ws, rfl, h1, l1⟩ := r1.seqT o (rfl : datOf τ (.val (.tuple ds)) = some (.tuple ds))
  exact ⟨a, ws, rfl, .inr ⟨h1.sq, p _ H _ τ q o (Dn.tup h1 l1) Tr.refl⟩⟩
def LstD (K : PySem.W.Frag) (x : MV) (τ : Store) (Q : MV → Store → Prop) : Prop := CaD K (fun xs H Q => ∃ p ys, xs = [.ref p] ∧ (SqL K H p ys ∨ SqT K H p ys) ∧ ∀ l, H l = none → Q (.ref l) (upd H l (.lst ys))) [x] τ Q
theorem de_list (B : Bl X.mg) (hg : Gl X "list") (h : De X ρ τ a fun x τ1 => LstD X.K x τ1 Q)
    (hs : starEach [a] X.env = (false, eval a X.env) :: starEach [] X.env := by rfl) : De X ρ τ (.Call (.Name "list" p1) [a] [] pos) Q := de_callTy call_list_of hg B.h_list (by decide +kernel) (da_one h hs) hs rfl
theorem lst_lst {K : PySem.W.Frag} {x : MV} {ds : List PyData} (hx : datOf τ x = some (.list ds)) (q : Q (.val (.list ds)) τ) : LstD K x τ Q := .mk fun H vs o r QQ p => by
  obtain ⟨v, rfl, r1⟩ := paired1 r
  obtain ⟨a, ws, rfl, h1, l1⟩ := r1.seqL o hx
  exact ⟨a, ws, rfl, .inl h1, p.lst o l1 q⟩
/-! two ints: min, max; abs -/
abbrev MinD (K : PySem.W.Frag) (x y : MV) (τ : Store) (Q : MV → Store → Prop) : Prop := ∃ i j, x = .val (.int i) ∧ y = .val (.int j) ∧ Q (.val (.int (min i j))) τ
abbrev MaxD (K : PySem.W.Frag) (x y : MV) (τ : Store) (Q : MV → Store → Prop) : Prop := ∃ i j, x = .val (.int i) ∧ y = .val (.int j) ∧ Q (.val (.int (max i j))) τ
theorem de_min2 (B : Bl X.mg) (hc : X.calm = true) (hg : Gl X "min") (h : De X ρ τ a fun x τ1 => De X ρ τ1 b fun y τ2 => MinD X.K x y τ2 Q)
    (hs : starEach [a, b] X.env = (false, eval a X.env) :: starEach [b] X.env := by rfl) (hs2 : starEach [b] X.env = (false, eval b X.env) :: starEach [] X.env := by rfl) (hpl : (backTo pos (starEach [b] X.env)).any (·.1) = false := by rfl) : De X ρ τ (.Call (.Name "min" p1) [a, b] [] pos) Q :=
  de_callB (call_min2 hc) hg B.h_min (by decide +kernel) (da_two (h.mono fun x τ1 h1 => h1.mono fun y τ2 ⟨i, j, ex, ey, q⟩ => .mk fun H vs o r QQ p => by
    subst ex ey
    obtain ⟨v, u, rfl, r1, r2⟩ := paired2 r
    cases r1
    cases r2
    refine ⟨i, j, rfl, p _ H _ τ2 q o ?_ Tr.refl⟩
    have e : (if j < i then j else i) = min i j := by omega
    rw [e]
    exact Dn.int _) hs hs2) hs hpl
theorem de_max2 (B : Bl X.mg) (hc : X.calm = true) (hg : Gl X "max") (h : De X ρ τ a fun x τ1 => De X ρ τ1 b fun y τ2 => MaxD X.K x y τ2 Q)
    (hs : starEach [a, b] X.env = (false, eval a X.env) :: starEach [b] X.env := by rfl) (hs2 : starEach [b] X.env = (false, eval b X.env) :: starEach [] X.env := by rfl) (hpl : (backTo pos (starEach [b] X.env)).any (·.1) = false := by rfl) : De X ρ τ (.Call (.Name "max" p1) [a, b] [] pos) Q :=
  de_callB (call_max2 hc) hg B.h_max (by decide +kernel) (da_two (h.mono fun x τ1 h1 => h1.mono fun y τ2 ⟨i, j, ex, ey, q⟩ => .mk fun H vs o r QQ p => by
    subst ex ey
    obtain ⟨v, u, rfl, r1, r2⟩ := paired2 r
    cases r1
    cases r2
    refine ⟨i, j, rfl, p _ H _ τ2 q o ?_ Tr.refl⟩
    have e : (if j > i then j else i) = max i j := by omega
    rw [e]
    exact Dn.int _) hs hs2) hs hpl
theorem de_abs (B : Bl X.mg) (hg : Gl X "abs") (h : De X ρ τ a fun x τ1 => ∃ i, x = .val (.int i) ∧ Q (.val (.int (if i < 0 then -i else i))) τ1)
    (hs : starEach [a] X.env = (false, eval a X.env) :: starEach [] X.env := by rfl) : De X ρ τ (.Call (.Name "abs" p1) [a] [] pos) Q :=
  de_callB call_abs hg B.h_abs (by decide +kernel) (da_one (h.mono fun x τ1 ⟨i, ex, q⟩ => .mk fun H vs o r QQ p => by
    subst ex
    obtain ⟨v, rfl, r1⟩ := paired1 r
    cases r1
    exact ⟨i, rfl, p _ H _ τ1 q o (Dn.int _) Tr.refl⟩) hs) hs rfl
/-! lists of ints, of bools -/
theorem Rv.intsL {K : PySem.W.Frag} {H : Hp} {v : V} {x : MV} {ns : List Int} (o : StOk K H τ) (r : Rv K (dom τ) H v x) (e : datOf τ x = some (.list (ns.map .int))) : ∃ a, v = .ref a ∧ SqL K H a (ns.map V.int) := by
  obtain ⟨a, vs, rfl, h1, l1⟩ := r.seqL o e
  rw [l1.ints] at h1
  exact ⟨a, rfl, h1⟩
theorem Rv.boolsL {K : PySem.W.Frag} {H : Hp} {v : V} {x : MV} {bs : List Bool} (o : StOk K H τ) (r : Rv K (dom τ) H v x) (e : datOf τ x = some (.list (bs.map .bool))) : ∃ a, v = .ref a ∧ SqL K H a (bs.map V.bl) := by
  obtain ⟨a, vs, rfl, h1, l1⟩ := r.seqL o e
  rw [l1.bools] at h1
  exact ⟨a, rfl, h1⟩
theorem de_sum (B : Bl X.mg) (hc : X.calm = true) (hg : Gl X "sum") (h : De X ρ τ a fun x τ1 => ∃ ns : List Int, datOf τ1 x = some (.list (ns.map .int)) ∧ Q (.val (.int ns.sum)) τ1)
    (hs : starEach [a] X.env = (false, eval a X.env) :: starEach [] X.env := by rfl) : De X ρ τ (.Call (.Name "sum" p1) [a] [] pos) Q :=
  de_callB (cr_sum hc) hg B.h_sum (by decide +kernel) (da_one (h.mono fun x τ1 ⟨ns, ex, q⟩ => .mk fun H vs o r QQ p => by
    obtain ⟨v, rfl, r1⟩ := paired1 r
    obtain ⟨a, rfl, h1⟩ := r1.intsL o ex
    exact ⟨a, ns, rfl, h1, p _ H _ τ1 q o (Dn.int _) Tr.refl⟩) hs) hs rfl
def IsMax (ns : List Int) (m : Int) : Prop := m ∈ ns ∧ ∀ y ∈ ns, y ≤ m
def IsMin (ns : List Int) (m : Int) : Prop := m ∈ ns ∧ ∀ y ∈ ns, m ≤ y
theorem de_maxL (B : Bl X.mg) (hc : X.calm = true) (hg : Gl X "max") (h : De X ρ τ a fun x τ1 => ∃ ns : List Int, datOf τ1 x = some (.list (ns.map .int)) ∧ 0 < ns.length ∧ ∀ m, IsMax ns m → Q (.val (.int m)) τ1)
    (hs : starEach [a] X.env = (false, eval a X.env) :: starEach [] X.env := by rfl) : De X ρ τ (.Call (.Name "max" p1) [a] [] pos) Q :=
  de_callB (cr_max hc) hg B.h_max (by decide +kernel) (da_one (h.mono fun x τ1 ⟨ns, ex, hl, q⟩ => .mk fun H vs o r QQ p => by
    obtain ⟨v, rfl, r1⟩ := paired1 r
    obtain ⟨a, rfl, h1⟩ := r1.intsL o ex
    exact ⟨a, ns, rfl, h1, hl, fun m h2 h3 => p _ H _ τ1 (q m ⟨h2, h3⟩) o (Dn.int _) Tr.refl⟩) hs) hs rfl
theorem de_minL (B : Bl X.mg) (hc : X.calm = true) (hg : Gl X "min") (h : De X ρ τ a fun x τ1 => ∃ ns : List Int, datOf τ1 x = some (.list (ns.map .int)) ∧ 0 < ns.length ∧ ∀ m, IsMin ns m → Q (.val (.int m)) τ1)
    (hs : starEach [a] X.env = (false, eval a X.env) :: starEach [] X.env := by rfl) : De X ρ τ (.Call (.Name "min" p1) [a] [] pos) Q :=
  de_callB (cr_min hc) hg B.h_min (by decide +kernel) (da_one (h.mono fun x τ1 ⟨ns, ex, hl, q⟩ => .mk fun H vs o r QQ p => by
    obtain ⟨v, rfl, r1⟩ := paired1 r
    obtain ⟨a, rfl, h1⟩ := r1.intsL o ex
    exact ⟨a, ns, rfl, h1, hl, fun m h2 h3 => p _ H _ τ1 (q m ⟨h2, h3⟩) o (Dn.int _) Tr.refl⟩) hs) hs rfl
theorem de_all (B : Bl X.mg) (hc : X.calm = true) (hg : Gl X "all") (h : De X ρ τ a fun x τ1 => ∃ bs : List Bool, datOf τ1 x = some (.list (bs.map .bool)) ∧ Q (.val (.bool (bs.all id))) τ1)
    (hs : starEach [a] X.env = (false, eval a X.env) :: starEach [] X.env := by rfl) : De X ρ τ (.Call (.Name "all" p1) [a] [] pos) Q :=
  de_callB (cr_all hc) hg B.h_all (by decide +kernel) (da_one (h.mono fun x τ1 ⟨ns, ex, q⟩ => .mk fun H vs o r QQ p => by
    obtain ⟨v, rfl, r1⟩ := paired1 r
    obtain ⟨a, rfl, h1⟩ := r1.boolsL o ex
    exact ⟨a, ns, rfl, h1, p _ H _ τ1 q o (Dn.bl _) Tr.refl⟩) hs) hs rfl
theorem de_any (B : Bl X.mg) (hc : X.calm = true) (hg : Gl X "any") (h : De X ρ τ a fun x τ1 => ∃ bs : List Bool, datOf τ1 x = some (.list (bs.map .bool)) ∧ Q (.val (.bool (bs.any id))) τ1)
    (hs : starEach [a] X.env = (false, eval a X.env) :: starEach [] X.env := by rfl) : De X ρ τ (.Call (.Name "any" p1) [a] [] pos) Q :=
  de_callB (cr_any hc) hg B.h_any (by decide +kernel) (da_one (h.mono fun x τ1 ⟨ns, ex, q⟩ => .mk fun H vs o r QQ p => by
    obtain ⟨v, rfl, r1⟩ := paired1 r
    obtain ⟨a, rfl, h1⟩ := r1.boolsL o ex
    exact ⟨a, ns, rfl, h1, p _ H _ τ1 q o (Dn.bl _) Tr.refl⟩) hs) hs rfl
/-! isinstance(x, T), T a built-in type's name -/
inductive BT where
  | int | bool | str | tuple | list
def BT.nm : BT → String
  | .int => "int"
  | .bool => "bool"
  | .str => "str"
  | .tuple => "tuple"
  | .list => "list"
def tyName : PyData → String
  | .none => "NoneType"
  | .bool _ => "bool"
  | .int _ => "int"
  | .str _ => "str"
  | .list _ => "list"
  | .tuple _ => "tuple"
  | .dict _ => "dict"
theorem Dn.ty {K : PySem.W.Frag} {N : List Addr} {H : Hp} {v : V} {d : PyData} (h : Dn K N H v d) : TyX K H v (.type (tyName d)) := by
  cases h with
  | non => exact .base .non
  | bl b => exact .base (.bl b)
  | int i => exact .base (.int i)
  | str x => exact .base (.str x)
  | lst n l => exact .base (.lst n.2)
  | tup n l => exact .base (.tup n.2)
def isTy : BT → PyData → Bool
  | .int, .int _ => true
  | .int, .bool _ => true
  | .bool, .bool _ => true
  | .str, .str _ => true
  | .tuple, .tuple _ => true
  | .list, .list _ => true
  | _, _ => false
theorem kit_isTy {K : PySem.W.Frag} {T : BT} : ∀ {d : PyData} {N : List Addr} {H : Hp} {v : V}, Dn K N H v d → PySem.W.kitOne K (.type (tyName d)) (.type T.nm) = some (isTy T d) := by
  intro d N H v h
  cases T
  all_goals
    cases h <;> (refine kit_ty ?_; dsimp only [tyName, BT.nm, isTy]; decide +kernel)
theorem de_isi {T : Str} (TT : BT) (B : Bl X.mg) (hg : Gl X "isinstance") (hgT : Gl X T) (hmT : X.mg T = none) (hvT : bootBuiltins T = some (.type TT.nm))
    (h : De X ρ τ a fun x τ1 => ∃ d, x = .val d ∧ Q (.val (.bool (isTy TT d))) τ1)
    (hn : T ≠ "__name__" := by decide) (hd : (T == ("__debug__" : Str)) = false := by decide)
    (hs : starEach [a, .Name T p2] X.env = (false, eval a X.env) :: starEach [.Name T p2] X.env := by rfl) (hs2 : starEach [.Name T p2] X.env = (false, eval (.Name T p2) X.env) :: starEach [] X.env := by rfl) (hpl : (backTo pos (starEach [.Name T p2] X.env)).any (·.1) = false := by rfl) :
    De X ρ τ (.Call (.Name "isinstance" p1) [a, .Name T p2] [] pos) Q := .mk fun σ H o l QQ p => by
  refine we_of (pe_callB call_isi hg B.h_isinstance (by decide +kernel) (pa_cons pe_we (pa_cons (pe_bltn (v := .ty TT.nm) hgT hmT hvT rfl hn hd) pa_nil hs2) hs) (by decide) (by decide) hs hpl) ?_
  refine h σ H o l _ fun v H1 x τ1 ⟨d, ex, q⟩ o1 r1 t1 => ?_
  subst ex
  exact ⟨v, .ty TT.nm, .type (tyName d), .type TT.nm, isTy TT d, rfl, .ty TT.nm, Dn.ty r1, kit_isTy r1, p _ H1 _ τ1 q o1 (Dn.bl _) t1⟩

theorem de_isi_int (B : Bl X.mg) (hg : Gl X "isinstance") (hgT : Gl X "int") (h : De X ρ τ a fun x τ1 => ∃ d, x = .val d ∧ Q (.val (.bool (isTy .int d))) τ1)
    (hs : starEach [a, .Name "int" p2] X.env = (false, eval a X.env) :: starEach [.Name "int" p2] X.env := by rfl) (hs2 : starEach [.Name "int" p2] X.env = (false, eval (.Name "int" p2) X.env) :: starEach [] X.env := by rfl) (hpl : (backTo pos (starEach [.Name "int" p2] X.env)).any (·.1) = false := by rfl) :
    De X ρ τ (.Call (.Name "isinstance" p1) [a, .Name "int" p2] [] pos) Q := de_isi .int B hg hgT B.h_int (by decide +kernel) h (by decide) (by decide) hs hs2 hpl
theorem de_isi_bool (B : Bl X.mg) (hg : Gl X "isinstance") (hgT : Gl X "bool") (h : De X ρ τ a fun x τ1 => ∃ d, x = .val d ∧ Q (.val (.bool (isTy .bool d))) τ1)
    (hs : starEach [a, .Name "bool" p2] X.env = (false, eval a X.env) :: starEach [.Name "bool" p2] X.env := by rfl) (hs2 : starEach [.Name "bool" p2] X.env = (false, eval (.Name "bool" p2) X.env) :: starEach [] X.env := by rfl) (hpl : (backTo pos (starEach [.Name "bool" p2] X.env)).any (·.1) = false := by rfl) :
    De X ρ τ (.Call (.Name "isinstance" p1) [a, .Name "bool" p2] [] pos) Q := de_isi .bool B hg hgT B.h_bool (by decide +kernel) h (by decide) (by decide) hs hs2 hpl
theorem de_isi_tuple (B : Bl X.mg) (hg : Gl X "isinstance") (hgT : Gl X "tuple") (h : De X ρ τ a fun x τ1 => ∃ d, x = .val d ∧ Q (.val (.bool (isTy .tuple d))) τ1)
    (hs : starEach [a, .Name "tuple" p2] X.env = (false, eval a X.env) :: starEach [.Name "tuple" p2] X.env := by rfl) (hs2 : starEach [.Name "tuple" p2] X.env = (false, eval (.Name "tuple" p2) X.env) :: starEach [] X.env := by rfl) (hpl : (backTo pos (starEach [.Name "tuple" p2] X.env)).any (·.1) = false := by rfl) :
    De X ρ τ (.Call (.Name "isinstance" p1) [a, .Name "tuple" p2] [] pos) Q := de_isi .tuple B hg hgT B.h_tuple (by decide +kernel) h (by decide) (by decide) hs hs2 hpl
theorem de_isi_str (B : Bl X.mg) (hg : Gl X "isinstance") (hgT : Gl X "str") (h : De X ρ τ a fun x τ1 => ∃ d, x = .val d ∧ Q (.val (.bool (isTy .str d))) τ1)
    (hs : starEach [a, .Name "str" p2] X.env = (false, eval a X.env) :: starEach [.Name "str" p2] X.env := by rfl) (hs2 : starEach [.Name "str" p2] X.env = (false, eval (.Name "str" p2) X.env) :: starEach [] X.env := by rfl) (hpl : (backTo pos (starEach [.Name "str" p2] X.env)).any (·.1) = false := by rfl) :
    De X ρ τ (.Call (.Name "isinstance" p1) [a, .Name "str" p2] [] pos) Q := de_isi .str B hg hgT B.h_str (by decide +kernel) h (by decide) (by decide) hs hs2 hpl

/-! ### a def of the text that keeps a promise -/
/-- a promise over data and store: arguments, store, what is wanted -/
abbrev Ctr := List MV → Store → (MV → Store → Prop) → Prop
def spC (K : PySem.W.Frag) (C : Ctr) : Sp := fun vs H Q _ => ∃ τ svs QQ, StOk K H τ ∧ RvL K (dom τ) H vs svs ∧ C svs τ QQ ∧ Pst K τ H QQ Q
structure Knows (P : Program) (w : World) (K : PySem.W.Frag) (mg : Str → Option Value) (base : Heap) (k : Nat) (x : Str) (C : Ctr) : Prop where
  ex : ∃ (f : Addr) (fd : FuncData) (ps : List Str), FnOk P w K mg base CX0 k f fd ps (spC K C) ∧ mg x = some (.ref f) ∧ PySem.W.keepIn K (.ref f) = true ∧ Binds K fd ps []
theorem Knows.imp {P : Program} {w : World} {K : PySem.W.Frag} {mg : Str → Option Value} {base : Heap} {k : Nat} {x : Str} {C C' : Ctr} (h : Knows P w K mg base k x C) (i : ∀ svs τ Q, C' svs τ Q → C svs τ Q) : Knows P w K mg base k x C' := by
  obtain ⟨f, fd, ps, F, g, kp, b⟩ := h.ex
  exact ⟨f, fd, ps, F.imp fun vs H Q E ⟨τ, svs, QQ, o, r, c, p⟩ => ⟨τ, svs, QQ, o, r, i _ _ _ c, p⟩, g, kp, b⟩
theorem Knows.mono {P : Program} {w : World} {K : PySem.W.Frag} {mg : Str → Option Value} {base : Heap} {j k : Nat} {x : Str} {C : Ctr} (h : Knows P w K mg base j x C) (hk : j ≤ k) : Knows P w K mg base k x C := by
  obtain ⟨f, fd, ps, F, g, kp, b⟩ := h.ex
  exact ⟨f, fd, ps, F.mono hk, g, kp, b⟩
theorem de_call {k j : Nat} {x : Str} {C : Ctr} (F : Knows X.prog X.w X.K X.mg X.base k x C) (hr : Room j X.A) (hg : Gl X x) (h : Da X ρ τ (a :: es) fun xs τ1 => C xs τ1 Q) (hk : k ≤ j := by decide)
    (hdb : (x == ("__debug__" : Str)) = false := by decide) (he : starEach (a :: es) X.env = (false, eval a X.env) :: starEach es X.env := by rfl) (hpl : (backTo pos (starEach es X.env)).any (·.1) = false := by rfl) :
    De X ρ τ (.Call (.Name x p1) (a :: es) [] pos) Q := .mk fun σ H o l QQ p => by
  obtain ⟨f, fd, ps, F, g, kp, b⟩ := F.ex
  refine we_of (pe_call F (hr.mono hk) hg g kp b .nil pass0 pa_wa hdb he hpl) (h σ H o l _ fun vs H1 xs τ1 h1 o1 r1 t1 => ?_)
  rw [List.append_nil]
  exact ⟨τ1, xs, Q, o1, r1, h1, p.step t1⟩
end
end Dl

namespace Dl
open PySem PySem.Spec L2

/-! ### what is walked: items as data. S: what the store must keep while it is walked -/
structure Walks (K : PySem.W.Frag) (J : It) (H1 : Hp) (τ1 : Store) (S : Store → Prop) (ds : List PyData) : Prop where
  go : ∀ (i : Nat) (H : Hp) (τ : Store), i < ds.length → Tr (dom τ1) H1 (dom τ) H → StOk K H τ → S τ → J.go i H
  yld : ∀ (i : Nat) (H : Hp) (τ : Store) (x : V) (H' : Hp), i < ds.length → Tr (dom τ1) H1 (dom τ) H → StOk K H τ → S τ → J.yld i H x H' → ∃ d, ds[i]? = some d ∧ Tr (dom τ) H (dom τ) H' ∧ StOk K H' τ ∧ Dn K (dom τ) H' x d
  stop : ∀ (i : Nat) (H : Hp) (τ : Store), ds.length ≤ i → Tr (dom τ1) H1 (dom τ) H → StOk K H τ → S τ → J.stop i H
abbrev AnyS : Store → Prop := fun _ => True
section
variable {K : PySem.W.Frag} {H1 : Hp} {τ1 : Store}
theorem walks_tup {a : Addr} {vs : List V} {ds : List PyData} (n : NdT (dom τ1) H1 a vs) (l : DnL K (dom τ1) H1 vs ds) : Walks K (Itt K a) H1 τ1 AnyS ds where
  go := fun i H τ hi t o _ => by
    have n' := n.tr t
    have hi' : i < vs.length := by rw [l.length]; exact hi
    exact ⟨vs, vs[i], n'.sq, List.getElem?_eq_getElem hi'⟩
  yld := fun i H τ x H' hi t o _ y => by
    obtain ⟨rfl, y⟩ := y
    have hx := y vs (n.tr t).sq
    obtain ⟨d, h1, h2⟩ := (l.tr t).get hx
    exact ⟨d, h1, Tr.refl, o, h2⟩
  stop := fun i H τ hi t o _ => ⟨vs, (n.tr t).sq, by rw [l.length]; exact hi⟩
theorem walks_lst {a : Addr} {vs : List V} {ds : List PyData} (n : NdL (dom τ1) H1 a vs) (l : DnL K (dom τ1) H1 vs ds) : Walks K (Itl K a) H1 τ1 AnyS ds where
  go := fun i H τ hi t o _ => by
    have n' := n.tr t
    have hi' : i < vs.length := by rw [l.length]; exact hi
    exact ⟨vs, vs[i], n'.sq, List.getElem?_eq_getElem hi'⟩
  yld := fun i H τ x H' hi t o _ y => by
    obtain ⟨rfl, y⟩ := y
    have hx := y vs (n.tr t).sq
    obtain ⟨d, h1, h2⟩ := (l.tr t).get hx
    exact ⟨d, h1, Tr.refl, o, h2⟩
  stop := fun i H τ hi t o _ => ⟨vs, (n.tr t).sq, by rw [l.length]; exact hi⟩
/-- a list of the store, walked while it stands -/
theorem walks_hdl {a : Addr} {ds : List PyData} : Walks K (Itl K a) H1 τ1 (fun τ => τ.lookup a = some (.lst ds)) ds where
  go := fun i H τ hi t o e => by
    obtain ⟨vs, h1, l⟩ := o.get e
    have hi' : i < vs.length := by rw [l.length]; exact hi
    exact ⟨vs, vs[i], SqL.of h1, List.getElem?_eq_getElem hi'⟩
  yld := fun i H τ x H' hi t o e y => by
    obtain ⟨vs, h1, l⟩ := o.get e
    obtain ⟨rfl, y⟩ := y
    obtain ⟨d, h2, h3⟩ := l.get (y vs (SqL.of h1))
    exact ⟨d, h2, Tr.refl, o, h3⟩
  stop := fun i H τ hi t o e => by
    obtain ⟨vs, h1, l⟩ := o.get e
    exact ⟨vs, SqL.of h1, by rw [l.length]; exact hi⟩
def rangeD (lo : Int) (n : Nat) : List PyData := (List.range n).map fun i => .int (lo + (i : Nat))
theorem rangeD_length (lo : Int) (n : Nat) : (rangeD lo n).length = n := by unfold rangeD; rw [List.length_map, List.length_range]
theorem rangeD_get {lo : Int} {n i : Nat} (h : i < n) : (rangeD lo n)[i]? = some (.int (lo + (i : Nat))) := by
  unfold rangeD
  rw [List.getElem?_map, List.getElem?_range h]
  rfl
theorem walks_range {lo : Int} {n : Nat} : Walks K (Itr lo n) H1 τ1 AnyS (rangeD lo n) where
  go := fun i H τ hi t o _ => by
    rw [rangeD_length] at hi
    exact hi
  yld := fun i H τ x H' hi t o _ y => by
    rw [rangeD_length] at hi
    obtain ⟨rfl, rfl⟩ := y
    exact ⟨_, rangeD_get hi, Tr.refl, o, Dn.int _⟩
  stop := fun i H τ hi t o _ => by
    rw [rangeD_length] at hi
    exact hi
def zipD (ds es : List PyData) : List PyData := (ds.zip es).map fun p => .tuple [p.1, p.2]
theorem zipD_length (ds es : List PyData) : (zipD ds es).length = min ds.length es.length := by unfold zipD; rw [List.length_map, List.length_zip]
theorem zipD_get {ds es : List PyData} {i : Nat} {d e : PyData} (h : ds[i]? = some d) (h' : es[i]? = some e) : (zipD ds es)[i]? = some (.tuple [d, e]) := by
  unfold zipD
  rw [List.getElem?_map, (List.getElem?_zip_eq_some (z := (d, e))).mpr ⟨h, h'⟩]
  rfl
theorem walks_zipT {a b : Addr} {vs us : List V} {ds es : List PyData} (n : NdT (dom τ1) H1 a vs) (l : DnL K (dom τ1) H1 vs ds) (n' : NdT (dom τ1) H1 b us) (l' : DnL K (dom τ1) H1 us es) : Walks K (RZ.ItzT K a b) H1 τ1 AnyS (zipD ds es) where
  go := fun i H τ hi t o _ => by
    rw [zipD_length] at hi
    have h1 : i < vs.length := by rw [l.length]; omega
    have h2 : i < us.length := by rw [l'.length]; omega
    exact ⟨vs, us, vs[i], us[i], (n.tr t).sq, (n'.tr t).sq, List.getElem?_eq_getElem h1, List.getElem?_eq_getElem h2⟩
  yld := fun i H τ x H' hi t o _ y => by
    obtain ⟨T, x1, x2, rfl, hT, rfl, y1, y2⟩ := y
    obtain ⟨d, h1, h2⟩ := (l.tr t).get (y1 vs (n.tr t).sq)
    obtain ⟨e, h3, h4⟩ := (l'.tr t).get (y2 us (n'.tr t).sq)
    exact ⟨_, zipD_get h1 h3, Tr.new hT, o.new hT, Dn.tup ⟨o.fresh hT, upd_same⟩ (.cons (h2.tr (Tr.new hT)) (.cons (h4.tr (Tr.new hT)) .nil))⟩
  stop := fun i H τ hi t o _ => by
    rw [zipD_length] at hi
    have := l.length
    have := l'.length
    exact ⟨vs, us, (n.tr t).sq, (n'.tr t).sq, by omega⟩
theorem walks_zipL {a b : Addr} {vs us : List V} {ds es : List PyData} (n : NdL (dom τ1) H1 a vs) (l : DnL K (dom τ1) H1 vs ds) (n' : NdL (dom τ1) H1 b us) (l' : DnL K (dom τ1) H1 us es) : Walks K (Itz K a b) H1 τ1 AnyS (zipD ds es) where
  go := fun i H τ hi t o _ => by
    rw [zipD_length] at hi
    have h1 : i < vs.length := by rw [l.length]; omega
    have h2 : i < us.length := by rw [l'.length]; omega
    exact ⟨vs, us, vs[i], us[i], (n.tr t).sq, (n'.tr t).sq, List.getElem?_eq_getElem h1, List.getElem?_eq_getElem h2⟩
  yld := fun i H τ x H' hi t o _ y => by
    obtain ⟨T, x1, x2, rfl, hT, rfl, y1, y2⟩ := y
    obtain ⟨d, h1, h2⟩ := (l.tr t).get (y1 vs (n.tr t).sq)
    obtain ⟨e, h3, h4⟩ := (l'.tr t).get (y2 us (n'.tr t).sq)
    exact ⟨_, zipD_get h1 h3, Tr.new hT, o.new hT, Dn.tup ⟨o.fresh hT, upd_same⟩ (.cons (h2.tr (Tr.new hT)) (.cons (h4.tr (Tr.new hT)) .nil))⟩
  stop := fun i H τ hi t o _ => by
    rw [zipD_length] at hi
    have := l.length
    have := l'.length
    exact ⟨vs, us, (n.tr t).sq, (n'.tr t).sq, by omega⟩
end
/-- an expression that is walked -/
structure Di (X : Cx) (tg : Expr) (ρ : En) (τ : Store) (iter : Expr) (Q : List PyData → (Store → Prop) → Store → Prop) : Prop where
  run : ∀ (σ : L2.St) (H : Hp), StOk X.K H τ → SlOk X.K (dom τ) H σ ρ → ∀ R : It → Hp → Prop, (∀ J H1 ds S τ1, Q ds S τ1 → StOk X.K H1 τ1 → Tr (dom τ) H (dom τ1) H1 → Walks X.K J H1 τ1 S ds → R J H1) → Wi X tg iter σ H R
instance {X : Cx} {tg : Expr} {ρ : En} {τ : Store} {iter : Expr} {Q : List PyData → (Store → Prop) → Store → Prop} : CoeFun (Di X tg ρ τ iter Q) fun _ => ∀ (σ : L2.St) (H : Hp), StOk X.K H τ → SlOk X.K (dom τ) H σ ρ → ∀ R : It → Hp → Prop, (∀ J H1 ds S τ1, Q ds S τ1 → StOk X.K H1 τ1 → Tr (dom τ) H (dom τ1) H1 → Walks X.K J H1 τ1 S ds → R J H1) → Wi X tg iter σ H R := ⟨fun h => h.run⟩
section
variable {X : Cx} {tg : Expr} {ρ : En} {τ : Store} {Q : List PyData → (Store → Prop) → Store → Prop} {pos p1 : Pos} {a b : Expr}
theorem di_tup (h : De X ρ τ a fun x τ1 => ∃ ds, x = .val (.tuple ds) ∧ Q ds AnyS τ1) : Di X tg ρ τ a Q := .mk fun σ H o l R p =>
  wi_of (pi_tup pe_we) (h σ H o l _ fun v H1 x τ1 ⟨ds, ex, q⟩ o1 r1 t1 => by
    subst ex
    cases r1 with
    | @tup a vs _ n1 l1 => exact ⟨a, rfl, ⟨vs, n1.sq⟩, p _ H1 ds AnyS τ1 q o1 t1 (walks_tup n1 l1)⟩)
theorem di_lst (h : De X ρ τ a fun x τ1 => ∃ ds, x = .val (.list ds) ∧ Q ds AnyS τ1) : Di X tg ρ τ a Q := .mk fun σ H o l R p =>
  wi_of (pi_list pe_we) (h σ H o l _ fun v H1 x τ1 ⟨ds, ex, q⟩ o1 r1 t1 => by
    subst ex
    cases r1 with
    | @lst a vs _ n1 l1 => exact ⟨a, rfl, ⟨vs, n1.sq⟩, p _ H1 ds AnyS τ1 q o1 t1 (walks_lst n1 l1)⟩)
theorem di_hdl (h : De X ρ τ a fun x τ1 => ∃ l ds, x = .hdl l ∧ τ1.lookup l = some (.lst ds) ∧ Q ds (fun τ => τ.lookup l = some (.lst ds)) τ1) : Di X tg ρ τ a Q := .mk fun σ H o l R p =>
  wi_of (pi_list pe_we) (h σ H o l _ fun v H1 x τ1 ⟨l', ds, ex, e, q⟩ o1 r1 t1 => by
    subst ex
    cases r1
    obtain ⟨vs, h1, _⟩ := o1.get e
    exact ⟨l', rfl, ⟨vs, SqL.of h1⟩, p _ H1 ds _ τ1 q o1 t1 walks_hdl⟩)
theorem di_range1 (B : Bl X.mg) (hg : Gl X "range") (h : De X ρ τ a fun x τ1 => ∃ n, x = .val (.int n) ∧ n ≤ 1000000 ∧ -1000000 ≤ n ∧ Q (rangeD 0 n.toNat) AnyS τ1)
    (hs : starEach [a] X.env = [(false, eval a X.env)] := by rfl) : Di X tg ρ τ (.Call (.Name "range" p1) [a] [] pos) Q := .mk fun σ H o l R p =>
  wi_of (pi_range1 hg B.h_range (pa_cons pe_we pa_nil hs) hs) (h σ H o l _ fun v H1 x τ1 ⟨n, ex, h1, h2, q⟩ o1 r1 t1 => by
    subst ex
    cases r1
    exact ⟨n, rfl, by omega, by omega, p _ H1 _ AnyS τ1 q o1 t1 walks_range⟩)
theorem di_range2 (B : Bl X.mg) (hg : Gl X "range") (h : De X ρ τ a fun x τ1 => De X ρ τ1 b fun y τ2 => ∃ m n, x = .val (.int m) ∧ y = .val (.int n) ∧ (-1000000 ≤ m ∧ m ≤ 1000000) ∧ (-1000000 ≤ n ∧ n ≤ 1000000) ∧ Q (rangeD m (n - m).toNat) AnyS τ2)
    (hs : starEach [a, b] X.env = [(false, eval a X.env), (false, eval b X.env)] := by rfl) (hs2 : starEach [b] X.env = [(false, eval b X.env)] := by rfl) : Di X tg ρ τ (.Call (.Name "range" p1) [a, b] [] pos) Q := .mk fun σ H o l R p => by
  have hs' : starEach [a, b] X.env = (false, eval a X.env) :: starEach [b] X.env := by rw [hs, hs2]
  refine wi_of (pi_range2 hg B.h_range (pa_cons pe_we (pa_cons pe_we pa_nil hs2) hs') hs hs2) (h σ H o l _ fun v H1 x τ1 h1 o1 r1 t1 => ?_)
  refine h1 σ H1 o1 (l.tr t1) _ fun u H2 y τ2 ⟨m, n, ex, ey, hm, hn, q⟩ o2 r2 t2 => ?_
  subst ex ey
  cases r1
  cases r2
  exact ⟨m, n, rfl, by omega, p _ H2 _ AnyS τ2 q o2 (t1.trans t2) walks_range⟩
theorem di_zip {elts : List Expr} {kk : Nat} {tpos : Pos} {Q : List PyData → (Store → Prop) → Store → Prop} (B : Bl X.mg) (hg : Gl X "zip") (h : De X ρ τ a fun x τ1 => De X ρ τ1 b fun y τ2 => ∃ ds es, ((x = .val (.tuple ds) ∧ y = .val (.tuple es)) ∨ (x = .val (.list ds) ∧ y = .val (.list es))) ∧ Q (zipD ds es) AnyS τ2)
    (hs : starEach [a, b] X.env = (false, eval a X.env) :: starEach [b] X.env := by rfl) (hs2 : starEach [b] X.env = (false, eval b X.env) :: starEach [] X.env := by rfl) (hpl : (backTo pos (starEach [b] X.env)).any (·.1) = false := by rfl) : Di X (.Tuple elts kk tpos) ρ τ (.Call (.Name "zip" p1) [a, b] [] pos) Q := .mk fun σ H o l R p => by
  refine wi_of (RZ.pi_zipA hg B.h_zip (pa_cons pe_we (pa_cons pe_we pa_nil hs2) hs) hs hpl) (h σ H o l _ fun v H1 x τ1 h1 o1 r1 t1 => ?_)
  refine h1 σ H1 o1 (l.tr t1) _ fun u H2 y τ2 ⟨ds, es, hxy, q⟩ o2 r2 t2 => ?_
  have r1' := r1.tr t2
  rcases hxy with ⟨ex, ey⟩ | ⟨ex, ey⟩
  · subst ex ey
    cases r1' with
    | @tup a vs _ n1 l1 =>
    cases r2 with
    | @tup b us _ n2 l2 =>
    exact ⟨a, b, vs, us, rfl, .inr ⟨n1.sq, n2.sq, p _ H2 _ AnyS τ2 q o2 (t1.trans t2) (walks_zipT n1 l1 n2 l2)⟩⟩
  · subst ex ey
    cases r1' with
    | @lst a vs _ n1 l1 =>
    cases r2 with
    | @lst b us _ n2 l2 =>
    exact ⟨a, b, vs, us, rfl, .inl ⟨n1.sq, n2.sq, p _ H2 _ AnyS τ2 q o2 (t1.trans t2) (walks_zipL n1 l1 n2 l2)⟩⟩
end

/-! ### targets: a name, a tuple of names -/
inductive Tg where
  | name (j : Nat) | tup (js : List Nat)
def setAll {α : Type} (σ : List (Option α)) : List Nat → List α → List (Option α)
  | j :: js, v :: vs => setAll (σ.set j (some v)) js vs
  | _, _ => σ
def tgR (K : PySem.W.Frag) : Tg → TG
  | .name j => gName j
  | .tup js => fun v σ H Q => ∃ a xs, v = .ref a ∧ SqT K H a xs ∧ xs.length = js.length ∧ Q (setAll σ js xs) H
/-- the slots behind a store of d -/
def bindD (ρ : En) : Tg → PyData → Option En
  | .name j, d => some (ρ.set j (some (.val d)))
  | .tup js, .tuple ds => if ds.length = js.length then some (setAll ρ js (ds.map .val)) else none
  | .tup _, _ => none
theorem bindD_tup {ρ ρ2 : En} {js : List Nat} {ds : List PyData} (e : bindD ρ (.tup js) (.tuple ds) = some ρ2) : ds.length = js.length ∧ setAll ρ js (ds.map .val) = ρ2 := by
  have e' : (if ds.length = js.length then some (setAll ρ js (ds.map MV.val)) else none) = some ρ2 := e
  by_cases hl : ds.length = js.length
  · rw [if_pos hl] at e'
    exact ⟨hl, Option.some.inj e'⟩
  · rw [if_neg hl] at e'
    cases e'
theorem SlOk.setAll {K : PySem.W.Frag} {N : List Addr} {H : Hp} : ∀ {js : List Nat} {vs : List V} {ds : List PyData} {σ : L2.St} {ρ : En}, SlOk K N H σ ρ → DnL K N H vs ds → SlOk K N H (Dl.setAll σ js vs) (Dl.setAll ρ js (ds.map .val))
  | [], _, _, _, _, h, _ => h
  | _ :: _, _, _, _, _, h, .nil => h
  | j :: js, _, _, σ, ρ, h, .cons (v := v) (d := d) a b => SlOk.setAll (js := js) (h.set (sv := .val d) a j) b
theorem tgR_ok {K : PySem.W.Frag} {N : List Addr} {H : Hp} {t : Tg} {d : PyData} {v : V} {σ : L2.St} {ρ ρ2 : En} (h : SlOk K N H σ ρ) (e : bindD ρ t d = some ρ2) (r : Dn K N H v d) {Q : L2.St → Hp → Prop} (q : ∀ σ2, SlOk K N H σ2 ρ2 → Q σ2 H) : tgR K t v σ H Q := by
  cases t with
  | name j =>
    cases e
    exact q _ (h.set (sv := .val d) r j)
  | tup js =>
    cases d with
    | tuple ds =>
      obtain ⟨hl, rfl⟩ := bindD_tup e
      cases r with
      | @tup a vs _ n1 l1 => exact ⟨a, vs, rfl, n1.sq, by rw [l1.length]; exact hl, q _ (h.setAll l1)⟩
    | _ => cases e
/-- the target as it stands in the text -/
def PGx (X : Cx) (tg : Expr) (t : Tg) : Prop := PG X tg (tgR X.K t)
section
variable {X : Cx} {pos p1 p2 p3 : Pos} {kk : Nat}
theorem PG.weak {tg : Expr} {g g' : TG} (h : PG X tg g) (i : ∀ v σ H Q, g' v σ H Q → g v σ H Q) : PG X tg g' := ⟨fun pins s σ H v u Q I r q => h.run pins s σ H v u Q I r (i _ _ _ _ q)⟩
theorem pgx_name {j : Nat} {x : Str} (hN : X.N.Nodup) (hi : X.N[j]? = some x) (hx : Loc X.env.scope x) (hf : X.fn x = true ∨ X.env.scope.names.lookup x = some .local := by first | exact .inl rfl | exact .inr rfl) : PGx X (.Name x pos) (.name j) := pg_name hN hi hx hf
theorem pgx_tup2 {i j : Nat} {e1 e2 : Expr} (hc : X.calm = true) (h1 : PG X e1 (gName i)) (h2 : PG X e2 (gName j))
    (hs : (assignEach [e1, e2] X.env).map (·.2) = assign e1 X.env :: (assignEach [e2] X.env).map (·.2) := by rfl) (hs2 : (assignEach [e2] X.env).map (·.2) = assign e2 X.env :: (assignEach [] X.env).map (·.2) := by rfl)
    (hn : (assignEach [e1, e2] X.env).length = 2 := by rfl) (hst : (assignEach [e1, e2] X.env).findIdx? (·.1) = none := by rfl) : PGx X (.Tuple [e1, e2] kk pos) (.tup [i, j]) :=
  PG.weak (pg_tup hc (pgs_cons h1 (pgs_cons h2 pgs_nil hs2) hs) hn hst) fun v σ H Q ⟨a, xs, e, h, hl, q⟩ => by
    match xs, hl with
    | [x, y], _ => exact ⟨a, [x, y], e, h, rfl, x, [y], rfl, y, [], rfl, rfl, q⟩
theorem pgx_tup3 {i j k : Nat} {e1 e2 e3 : Expr} (hc : X.calm = true) (h1 : PG X e1 (gName i)) (h2 : PG X e2 (gName j)) (h3 : PG X e3 (gName k))
    (hs : (assignEach [e1, e2, e3] X.env).map (·.2) = assign e1 X.env :: (assignEach [e2, e3] X.env).map (·.2) := by rfl) (hs2 : (assignEach [e2, e3] X.env).map (·.2) = assign e2 X.env :: (assignEach [e3] X.env).map (·.2) := by rfl)
    (hs3 : (assignEach [e3] X.env).map (·.2) = assign e3 X.env :: (assignEach [] X.env).map (·.2) := by rfl)
    (hn : (assignEach [e1, e2, e3] X.env).length = 3 := by rfl) (hst : (assignEach [e1, e2, e3] X.env).findIdx? (·.1) = none := by rfl) : PGx X (.Tuple [e1, e2, e3] kk pos) (.tup [i, j, k]) :=
  PG.weak (pg_tup hc (pgs_cons h1 (pgs_cons h2 (pgs_cons h3 pgs_nil hs3) hs2) hs) hn hst) fun v σ H Q ⟨a, xs, e, h, hl, q⟩ => by
    match xs, hl with
    | [x, y, z], _ => exact ⟨a, [x, y, z], e, h, rfl, x, [y, z], rfl, y, [z], rfl, z, [], rfl, rfl, q⟩
end
/-- slots of a target -/
def Tg.slots : Tg → List Nat
  | .name j => [j]
  | .tup js => js
theorem wipe_set {σ : L2.St} {o : Option V} : ∀ {vs : List Nat} {j : Nat}, j ∈ vs → wipe (σ.set j o) vs = wipe σ vs
  | v :: vs, j, h => by
    unfold wipe
    by_cases e : j = v
    · subst e
      by_cases hm : j ∈ vs
      · rw [wipe_set hm]
      · have c : ∀ vs : List Nat, j ∉ vs → wipe (σ.set j o) vs = (wipe σ vs).set j o := by
          intro vs
          induction vs with
          | nil => intro _; rfl
          | cons u us ih =>
            intro hn
            simp only [List.mem_cons, not_or] at hn
            show (wipe (σ.set j o) us).set u none = ((wipe σ us).set u none).set j o
            rw [ih hn.2, List.set_comm _ _ hn.1]
        rw [c vs hm, List.set_set]
    · have hm : j ∈ vs := by
        rcases List.mem_cons.mp h with h | h
        · exact absurd h e
        · exact h
      rw [wipe_set hm]
theorem wipe_wipe (σ : L2.St) : ∀ (vs us : List Nat), (∀ v ∈ vs, v ∈ us) → wipe (wipe σ vs) us = wipe σ us
  | [], _, _ => rfl
  | v :: vs, us, h => by
    show wipe ((wipe σ vs).set v none) us = wipe σ us
    rw [wipe_set (h v List.mem_cons_self), wipe_wipe σ vs us fun u hu => h u (List.mem_cons_of_mem _ hu)]
theorem wipe_setAll {us : List Nat} : ∀ {js : List Nat} {vs : List V} {σ : L2.St}, (∀ j ∈ js, j ∈ us) → wipe (setAll σ js vs) us = wipe σ us
  | [], _, _, _ => rfl
  | _ :: _, [], _, _ => rfl
  | j :: js, v :: vs, σ, h => by
    show wipe (setAll (σ.set j (some v)) js vs) us = wipe σ us
    rw [wipe_setAll fun i hi => h i (List.mem_cons_of_mem _ hi), wipe_set (h j List.mem_cons_self)]
theorem tgR_ok' {K : PySem.W.Frag} {N : List Addr} {H : Hp} {t : Tg} {d : PyData} {v : V} {σ : L2.St} {ρ ρ2 : En} {us : List Nat} (hu : ∀ j ∈ t.slots, j ∈ us) (h : SlOk K N H σ ρ) (e : bindD ρ t d = some ρ2) (r : Dn K N H v d) {Q : L2.St → Hp → Prop} (q : ∀ σ2, SlOk K N H σ2 ρ2 → wipe σ2 us = wipe σ us → Q σ2 H) : tgR K t v σ H Q := by
  cases t with
  | name j =>
    cases e
    exact q _ (h.set (sv := .val d) r j) (wipe_set (hu j (by simp [Tg.slots])))
  | tup js =>
    cases d with
    | tuple ds =>
      obtain ⟨hl, rfl⟩ := bindD_tup e
      cases r with
      | @tup a vs _ n1 l1 => exact ⟨a, vs, rfl, n1.sq, by rw [l1.length]; exact hl, q _ (h.setAll l1) (wipe_setAll hu)⟩
    | _ => cases e
end Dl

namespace Dl
open PySem PySem.Spec L2

section
variable {X : Cx} {ρ : En} {τ : Store} {D : DE} {pos p1 p2 p3 spos : Pos} {a b c tg iter elt : Expr} {body els rest : List Stmt} {st : Stmt} {es ifs : List Expr}
/-! ### blocks -/
theorem db_nil (q : D.nx ρ τ) : Db X ρ τ [] D := .mk fun σ H o l DD p => wb_of pss_nil (p.nx σ H ρ τ q o l Tr.refl)
theorem db_cons (h : Ds X ρ τ st { D with nx := fun ρ1 τ1 => Db X ρ1 τ1 rest D }) : Db X ρ τ (st :: rest) D := .mk fun σ H o l DD p =>
  wb_of (pss_cons ps_ws pss_wb) (h σ H o l { DD with nx := Wb X rest DD } ⟨fun σ1 H1 ρ1 τ1 h1 o1 l1 t1 => h1 σ1 H1 o1 l1 DD (p.step t1), p.rt, p.bk, p.ct⟩)
theorem db_one (h : Ds X ρ τ st D) : Db X ρ τ [st] D := .mk fun σ H o l DD p => wb_of (pss_one ps_ws) (h σ H o l DD p)
theorem Db.mono {D' : DE} (h : Db X ρ τ body D) (n : ∀ ρ' τ', D.nx ρ' τ' → D'.nx ρ' τ') (r : ∀ sv τ', D.rt sv τ' → D'.rt sv τ') (k : ∀ ρ' τ', D.bk ρ' τ' → D'.bk ρ' τ') (g : ∀ ρ' τ', D.ct ρ' τ' → D'.ct ρ' τ') : Db X ρ τ body D' := .mk fun σ H o l DD p =>
  h σ H o l DD ⟨fun σ' H' ρ' τ' q => p.nx σ' H' ρ' τ' (n _ _ q), fun v H' sv τ' q => p.rt v H' sv τ' (r _ _ q), fun σ' H' ρ' τ' q => p.bk σ' H' ρ' τ' (k _ _ q), fun σ' H' ρ' τ' q => p.ct σ' H' ρ' τ' (g _ _ q)⟩
/-- an object leaves the store -/
theorem db_drop {q : Addr × MO} (h : Db X ρ τ body D) : Db X ρ (q :: τ) body D := .mk fun σ H o l DD p => h σ H o.drop (l.tr Tr.drop) DD (p.step Tr.drop)
theorem de_drop {Q : MV → Store → Prop} {q : Addr × MO} (h : De X ρ τ a Q) : De X ρ (q :: τ) a Q := .mk fun σ H o l QQ p => h σ H o.drop (l.tr Tr.drop) QQ (p.step Tr.drop)
/-- a list of the store, the first one, becomes data -/
theorem db_freeze {l : Addr} {ds : List PyData} (i : Nat) (e : ρ[i]? = some (some (.hdl l))) (h : Db X (ρ.set i (some (.val (.list ds)))) τ body D) : Db X ρ ((l, .lst ds) :: τ) body D := .mk fun σ H o s DD p => by
  have o' := o.drop
  have s' := s.tr (Tr.drop (p := (l, .lst ds)) (τ := τ) (H := H))
  refine h σ H o' ?_ DD (p.step Tr.drop)
  obtain ⟨vs, h1, h2⟩ := o.ok (l, .lst ds) List.mem_cons_self
  obtain ⟨v, hv, rv⟩ := s.ok i _ e
  cases rv
  have nl : l ∉ dom τ := (List.nodup_cons.mp o.nd).1
  have dn : Dn X.K (dom τ) H (.ref l) (.list ds) := .lst ⟨nl, h1⟩ (h2.tr Tr.drop)
  have z := s'.set (sv := .val (.list ds)) dn i
  have es : σ.set i (some (V.ref l)) = σ := by
    apply List.ext_getElem?
    intro j
    by_cases hj : i = j
    · subst hj
      rw [List.getElem?_set_self (List.getElem?_eq_some_iff.mp hv).1, hv]
    · rw [List.getElem?_set_ne hj]
  rw [es] at z
  exact z
/-! ### small statements -/
theorem ds_pass (q : D.nx ρ τ) : Ds X ρ τ (.Pass pos) D := .mk fun σ H o l DD p => ws_of ps_pass (p.nx σ H ρ τ q o l Tr.refl)
theorem ds_break (q : D.bk ρ τ) : Ds X ρ τ (.Break pos) D := .mk fun σ H o l DD p => ws_of ps_break (p.bk σ H ρ τ q o l Tr.refl)
theorem ds_continue (q : D.ct ρ τ) : Ds X ρ τ (.Continue pos) D := .mk fun σ H o l DD p => ws_of ps_continue (p.ct σ H ρ τ q o l Tr.refl)
theorem ds_ret (h : De X ρ τ a D.rt) : Ds X ρ τ (.Return (some a) pos) D := .mk fun σ H o l DD p => ws_of (ps_ret pe_we) (h σ H o l DD.rt p.rt)
theorem ds_retN (q : D.rt (.val .none) τ) : Ds X ρ τ (.Return none pos) D := .mk fun σ H o l DD p => ws_of ps_retN (p.rt .non H _ τ q o Dn.non Tr.refl)
theorem ds_expr (h : De X ρ τ a fun _ τ1 => D.nx ρ τ1) (hs : swapsWith a none pos.line X.env = pure false := by rfl) : Ds X ρ τ (.Expr a pos) D := .mk fun σ H o l DD p =>
  ws_of (ps_expr pe_we hs) (h σ H o l _ fun v H1 x τ1 q o1 r1 t1 => p.nx σ H1 ρ τ1 q o1 (l.tr t1) t1)
theorem ds_if (h : Dt X ρ τ c fun k τ1 => (k = true → Db X ρ τ1 body D) ∧ (k = false → Db X ρ τ1 els D)) : Ds X ρ τ (.If c body els pos) D := .mk fun σ H o l DD p =>
  ws_of (ps_if pt_wt pss_wb pss_wb) (h σ H o l _ fun k H1 τ1 ⟨q1, q2⟩ o1 t1 => by
    cases k with
    | true => exact iteT (q1 rfl σ H1 o1 (l.tr t1) DD (p.step t1))
    | false => exact iteF (q2 rfl σ H1 o1 (l.tr t1) DD (p.step t1)))
theorem ds_set (i : Nat) {x : Str} {pos' : Pos} (hN : X.N.Nodup) (hi : X.N[i]? = some x) (hx : Loc X.env.scope x) (h : De X ρ τ a fun sv τ1 => D.nx (ρ.set i (some sv)) τ1)
    (hs : swapsWith a (some (.Name x pos')) pos.line X.env = pure false := by rfl) (hf : X.fn x = true ∨ X.env.scope.names.lookup x = some .local := by first | exact .inl rfl | exact .inr rfl) : Ds X ρ τ (.Assign [.Name x pos'] a pos) D := .mk fun σ H o l DD p =>
  ws_of (ps_set hN hi hx pe_we hs hf) (h σ H o l _ fun v H1 sv τ1 q o1 r1 t1 => p.nx _ H1 _ τ1 q o1 ((l.tr t1).set r1 i) t1)
/-- a, b, .. = a tuple -/
theorem ds_asg {t : Tg} (hg : PGx X tg t) (h : De X ρ τ a fun sv τ1 => ∃ d, sv = .val d ∧ ∃ ρ2, bindD ρ t d = some ρ2 ∧ D.nx ρ2 τ1)
    (hs : swapsWithSole [tg] a pos.line X.env = pure false := by rfl) (hw : swappedStores [tg] a X.env = pure none := by rfl)
    (h1 : (assignEach [tg] X.env).map (·.2) = [assign tg X.env] := by rfl) : Ds X ρ τ (.Assign [tg] a pos) D := .mk fun σ H o l DD p =>
  ws_of (ps_asg pe_we hg hs hw h1) (h σ H o l _ fun v H1 sv τ1 ⟨d, ex, ρ2, e, q⟩ o1 r1 t1 => by
    subst ex
    exact tgR_ok (l.tr t1) e r1 fun σ2 l2 => p.nx σ2 H1 ρ2 τ1 q o1 l2 t1)
/-- a, b = x, y: two local names -/
theorem ds_par (i j : Nat) {x y : Str} {px py pt : Pos} {kt k2 pt2} (hc : X.calm = true) (hN : X.N.Nodup) (hi : X.N[i]? = some x) (hj : X.N[j]? = some y) (hij : i ≠ j)
    (hx : X.env.scope.names.lookup x = some .local) (hy : X.env.scope.names.lookup y = some .local)
    (h : De X ρ τ a fun sv τ1 => De X ρ τ1 b fun su τ2 => D.nx ((ρ.set i (some sv)).set j (some su)) τ2)
    (hw : swappedStores [.Tuple [.Name x px, .Name y py] kt pt] (.Tuple [a, b] k2 pt2) X.env = pure (some [x, y]))
    (hs : swapsWithSole [.Tuple [.Name x px, .Name y py] kt pt] (.Tuple [a, b] k2 pt2) pos.line X.env = pure false := by rfl)
    (he : starEach [a, b] X.env = (false, eval a X.env) :: starEach [b] X.env := by rfl) (he2 : starEach [b] X.env = (false, eval b X.env) :: starEach [] X.env := by rfl) :
    Ds X ρ τ (.Assign [.Tuple [.Name x px, .Name y py] kt pt] (.Tuple [a, b] k2 pt2) pos) D := .mk fun σ H o l DD p =>
  ws_of (ps_par hc hN hi hj hij hx hy (pa_cons pe_we (pa_cons pe_we pa_nil he2) he) hw hs) (h σ H o l _ fun v H1 sv τ1 h1 o1 r1 t1 => h1 σ H1 o1 (l.tr t1) _ fun u H2 su τ2 q o2 r2 t2 =>
    ⟨v, u, rfl, p.nx _ H2 _ τ2 q o2 ((((l.tr t1).tr t2).set (r1.tr t2) i).set r2 j) (t1.trans t2)⟩)
/-- xs[i] = e, xs a list of the store -/
theorem ds_setix (h : De X ρ τ c fun sv τ1 => De X ρ τ1 a fun x τ2 => De X ρ τ2 b fun y τ3 => ∃ d l ds j n, sv = .val d ∧ x = .hdl l ∧ y = .val (.int n) ∧ τ3.lookup l = some (.lst ds) ∧ ixN ds.length n = some j ∧ D.nx ρ (setS l (.lst (ds.set j d)) τ3))
    (hsub : ∀ v, assign (.Subscript a b p1) X.env v = (do
      let ov ← holding [v] (eval a X.env)
      let iv ← holding [v, ov] (eval b X.env)
      standAt p1
      holding [v, ov, iv] (setItem ov iv v)
      release [v, ov, iv] []) := by intro _; rfl)
    (hs : swapsWithSole [.Subscript a b p1] c pos.line X.env = pure false := by rfl) (hw : swappedStores [.Subscript a b p1] c X.env = pure none := by rfl)
    (h1 : (assignEach [.Subscript a b p1] X.env).map (·.2) = [assign (.Subscript a b p1) X.env] := by rfl) : Ds X ρ τ (.Assign [.Subscript a b p1] c pos) D := .mk fun σ H o l DD p => by
  refine ws_of (ps_asg pe_we (pg_sub pe_we pe_we set_list hsub) hs hw h1) (h σ H o l _ fun v H1 sv τ1 h1 o1 r1 t1 => ?_)
  refine h1 σ H1 o1 (l.tr t1) _ fun v2 H2 x τ2 h2 o2 r2 t2 => h2 σ H2 o2 ((l.tr t1).tr t2) _ fun v3 H3 y τ3 ⟨d, l', ds, j, n, e1, e2, e3, e4, e5, q⟩ o3 r3 t3 => ?_
  subst e1 e2 e3
  cases r2
  cases r3
  obtain ⟨vs, h4, h5⟩ := o3.get e4
  have hm : l' ∈ dom τ3 := List.mem_map_of_mem (mem_of_lookup e4)
  have dn : Dn X.K (dom τ3) H3 v d := (r1.tr t2).tr t3
  refine ⟨l', vs, n, j, rfl, rfl, h4, by rw [h5.length]; exact e5, ?_⟩
  have tw : Tr (dom τ3) H3 (dom τ3) (upd H3 l' (.lst (vs.set j v))) := Tr.write hm
  have tw' : Tr (dom τ3) H3 (dom (setS l' (.lst (ds.set j d)) τ3)) (upd H3 l' (.lst (vs.set j v))) := by
    rw [dom_setS]
    exact tw
  exact p.nx σ _ ρ _ q (o3.write hm ⟨_, upd_same, (h5.set j dn).tr tw⟩) ((((l.tr t1).tr t2).tr t3).tr tw') (((t1.trans t2).trans t3).trans tw')
/-! ### methods of built-in types -/
structure MeD (K : PySem.W.Frag) (r : V → List V → Hp → VK → Prop) (x : MV) (xs : List MV) (τ : Store) (Q : MV → Store → Prop) : Prop where
  run : ∀ (H : Hp) (v : V) (vs : List V), StOk K H τ → Rv K (dom τ) H v x → RvL K (dom τ) H vs xs → ∀ QQ : VK, Pst K τ H Q QQ → r v vs H QQ
instance {K : PySem.W.Frag} {r : V → List V → Hp → VK → Prop} {x : MV} {xs : List MV} {τ : Store} {Q : MV → Store → Prop} : CoeFun (MeD K r x xs τ Q) fun _ => ∀ (H : Hp) (v : V) (vs : List V), StOk K H τ → Rv K (dom τ) H v x → RvL K (dom τ) H vs xs → ∀ QQ : VK, Pst K τ H Q QQ → r v vs H QQ := ⟨fun h => h.run⟩
def TyM (T : String) (x : MV) (τ : Store) : Prop := (T = "list" ∧ ∃ ds, datOf τ x = some (.list ds)) ∨ (T = "str" ∧ ∃ z, x = .val (.str z))
theorem TyM.ty {K : PySem.W.Frag} {H : Hp} {v : V} {T : String} {x : MV} (h : TyM T x τ) (o : StOk K H τ) (r : Rv K (dom τ) H v x) : tyV K T v H := by
  rcases h with ⟨rfl, ds, e⟩ | ⟨rfl, z, rfl⟩
  · obtain ⟨a, vs, rfl, h1, _⟩ := r.seqL o e
    exact .inl ⟨rfl, vs, h1⟩
  · cases r
    rfl
variable {Q : MV → Store → Prop}
theorem de_bm {T id : String} {name : Str} {r : V → List V → Hp → VK → Prop} {apos cpos : Pos} (pa : PlainAttrs T) (slot : Slot T name id) (hty : typeOf (.builtin id) = pure (.type "method_descriptor")) (hm : MtR X id r)
    (h : De X ρ τ a fun x τ1 => TyM T x τ1 ∧ Da X ρ τ1 (b :: es) fun xs τ2 => MeD X.K r x xs τ2 Q)
    (hbase : attributeBase a name X.env (eval a X.env) = eval a X.env := by rfl)
    (hfew : ((backTo cpos (starEach (b :: es) X.env)).all (fun x => !x.1) && (backToKw cpos (keywordEach [] X.env)).all (fun x => x.1.isSome)
      && decide ((b :: es).length + ([] : List Keyword).length + (if ([] : List Keyword).isEmpty then 0 else 1) < 30)) = true := by rfl)
    (hline : (apos.endLine == cpos.line) = true := by rfl) (hs : starEach (b :: es) X.env = (false, eval b X.env) :: starEach es X.env := by rfl) (hplain : (backTo cpos (starEach es X.env)).any (·.1) = false := by rfl) :
    De X ρ τ (.Call (.Attribute a name apos) (b :: es) [] cpos) Q := .mk fun σ H o l QQ p =>
  we_of (pe_bm pa slot hty hm pe_we pa_wa hbase hfew hline hs hplain) (h σ H o l _ fun v H1 x τ1 ⟨ty, h1⟩ o1 r1 t1 => ⟨ty.ty o1 r1, h1 σ H1 o1 (l.tr t1) _ fun vs H2 xs τ2 h2 o2 r2 t2 => h2 H2 v vs o2 (r1.tr t2) r2 QQ ((p.step t1).step t2)⟩)
theorem de_bm0 {T id : String} {name : Str} {r : V → List V → Hp → VK → Prop} {apos cpos : Pos} (pa : PlainAttrs T) (slot : Slot T name id) (hty : typeOf (.builtin id) = pure (.type "method_descriptor")) (hm : MtR X id r)
    (h : De X ρ τ a fun x τ1 => TyM T x τ1 ∧ MeD X.K r x [] τ1 Q)
    (hbase : attributeBase a name X.env (eval a X.env) = eval a X.env := by rfl) (hline : (apos.endLine == cpos.line) = true := by rfl) :
    De X ρ τ (.Call (.Attribute a name apos) [] [] cpos) Q := .mk fun σ H o l QQ p =>
  we_of (pe_bm0 pa slot hty hm pe_we hbase hline) (h σ H o l _ fun v H1 x τ1 ⟨ty, h1⟩ o1 r1 t1 => ⟨ty.ty o1 r1, h1 H1 v [] o1 r1 .nil QQ (p.step t1)⟩)
/-- a list of the store is written -/
theorem Pst.write {K : PySem.W.Frag} {H : Hp} {QQ : VK} {l : Addr} {ds es : List PyData} {vs : List V} {v : V} {sv : MV} (p : Pst K τ H Q QQ) (o : StOk K H τ) (e : τ.lookup l = some (.lst ds)) (dn : DnL K (dom τ) H vs es)
    (rv : ∀ N H', Tr (dom τ) H N H' → Rv K N H' v sv) (q : Q sv (setS l (.lst es) τ)) : QQ v (upd H l (.lst vs)) := by
  have hm : l ∈ dom τ := List.mem_map_of_mem (mem_of_lookup e)
  have tw : Tr (dom τ) H (dom τ) (upd H l (.lst vs)) := Tr.write hm
  have tw' : Tr (dom τ) H (dom (setS l (.lst es) τ)) (upd H l (.lst vs)) := by
    rw [dom_setS]
    exact tw
  exact p _ _ sv _ q (o.write hm ⟨_, upd_same, dn.tr tw⟩) (rv _ _ tw') tw'
/-- xs.append(e) -/
theorem de_append {apos cpos : Pos} (h : De X ρ τ a fun x τ1 => ∃ l ds', x = .hdl l ∧ τ1.lookup l = some (.lst ds') ∧ De X ρ τ1 b fun sv τ2 => ∃ d ds, sv = .val d ∧ τ2.lookup l = some (.lst ds) ∧ ds.length < 1000000 ∧ Q (.val .none) (setS l (.lst (ds ++ [d])) τ2))
    (hbase : attributeBase a "append" X.env (eval a X.env) = eval a X.env := by rfl)
    (hfew : ((backTo cpos (starEach [b] X.env)).all (fun x => !x.1) && (backToKw cpos (keywordEach [] X.env)).all (fun x => x.1.isSome)
      && decide ([b].length + ([] : List Keyword).length + (if ([] : List Keyword).isEmpty then 0 else 1) < 30)) = true := by rfl)
    (hline : (apos.endLine == cpos.line) = true := by rfl) (hs : starEach [b] X.env = (false, eval b X.env) :: starEach [] X.env := by rfl) (hplain : (backTo cpos (starEach [] X.env)).any (·.1) = false := by rfl) :
    De X ρ τ (.Call (.Attribute a "append" apos) [b] [] cpos) Q := .mk fun σ H o l QQ p =>
  de_bm PySem.F.plainAttrs_list PySem.F.slot_list_append PySem.F.type_list_append mt_append (h.mono fun x τ1 ⟨l, ds', ex, e, h1⟩ => by
    subst ex
    refine ⟨.inl ⟨rfl, ds', by simp only [datOf, e]⟩, da_one (h1.mono fun sv τ2 ⟨d, ds, ev, e2, hl, q⟩ => ?_) hs⟩
    subst ev
    refine .mk fun H v vs o rv rl QQ p => ?_
    cases rv
    obtain ⟨u, rfl, ru⟩ := paired1 rl
    obtain ⟨ws, h2, h3⟩ := o.get e2
    exact ⟨l, ws, u, rfl, rfl, h2, small_sz' (by rw [h3.length]; exact hl), p.write (sv := .val .none) o e2 (h3.append (.cons ru .nil)) (fun _ _ _ => Dn.non) q⟩) hbase hfew hline hs hplain σ H o l QQ p
/-- xs.extend(ys) -/
theorem de_extend {apos cpos : Pos} (h : De X ρ τ a fun x τ1 => ∃ l ds', x = .hdl l ∧ τ1.lookup l = some (.lst ds') ∧ De X ρ τ1 b fun sv τ2 => ∃ ds es, lstOf τ2 sv = some es ∧ τ2.lookup l = some (.lst ds) ∧ ds.length + es.length ≤ 1000000 ∧ Q (.val .none) (setS l (.lst (ds ++ es)) τ2))
    (hbase : attributeBase a "extend" X.env (eval a X.env) = eval a X.env := by rfl)
    (hfew : ((backTo cpos (starEach [b] X.env)).all (fun x => !x.1) && (backToKw cpos (keywordEach [] X.env)).all (fun x => x.1.isSome)
      && decide ([b].length + ([] : List Keyword).length + (if ([] : List Keyword).isEmpty then 0 else 1) < 30)) = true := by rfl)
    (hline : (apos.endLine == cpos.line) = true := by rfl) (hs : starEach [b] X.env = (false, eval b X.env) :: starEach [] X.env := by rfl) (hplain : (backTo cpos (starEach [] X.env)).any (·.1) = false := by rfl) :
    De X ρ τ (.Call (.Attribute a "extend" apos) [b] [] cpos) Q := .mk fun σ H o l QQ p =>
  de_bm PySem.F.plainAttrs_list PySem.F.slot_list_extend PySem.F.type_list_extend mt_extend (h.mono fun x τ1 ⟨l, ds', ex, e, h1⟩ => by
    subst ex
    refine ⟨.inl ⟨rfl, ds', by simp only [datOf, e]⟩, da_one (h1.mono fun sv τ2 ⟨ds, es, ev, e2, hl, q⟩ => ?_) hs⟩
    refine .mk fun H v vs o rv rl QQ p => ?_
    cases rv
    obtain ⟨u, rfl, ru⟩ := paired1 rl
    obtain ⟨ws, h2, h3⟩ := o.get e2
    obtain ⟨b', us, rfl, h4, h5⟩ := ru.lstS o ev
    exact ⟨l, b', ws, us, rfl, rfl, h2, h4, small_sz (by rw [h3.length, h5.length]; exact hl), p.write (sv := .val .none) o e2 (h3.append h5) (fun _ _ _ => Dn.non) q⟩) hbase hfew hline hs hplain σ H o l QQ p

/-! ### for -/
theorem ds_for {t : Tg} (hc : X.calm = true) (hp : PassesOwn (model X.prog X.w) X.A X.env X.xe) (hg : PGx X tg t)
    (h : Di X tg ρ τ iter fun ds S τ1 => ∃ I : Nat → En → Store → Prop, I 0 ρ τ1 ∧ (∀ i ρ' τ', I i ρ' τ' → S τ') ∧
      (∀ i d ρ' τ', ds[i]? = some d → I i ρ' τ' → ∃ ρ2, bindD ρ' t d = some ρ2 ∧ Db X ρ2 τ' body { D with nx := I (i + 1), ct := I (i + 1), bk := D.nx }) ∧
      (∀ ρ' τ', I ds.length ρ' τ' → D.nx ρ' τ'))
    (hs : ∀ x, foldedSetIterable iter X.env x = pure x := by intro _; rfl) : Ds X ρ τ (.For tg iter body [] pos) D := .mk fun σ H o l DD p => by
  refine ws_of (ps_for hp hc pi_wi hg pss_wb hs) (h σ H o l _ fun J H1 ds S τ1 ⟨I, h0, hS, hst, hd⟩ o1 t1 wk => ?_)
  refine ⟨fun i m σ' H' => m = ds.length - i ∧ i ≤ ds.length ∧ ∃ ρ' τ', I i ρ' τ' ∧ StOk X.K H' τ' ∧ SlOk X.K (dom τ') H' σ' ρ' ∧ Tr (dom τ1) H1 (dom τ') H', ⟨ds.length, rfl, Nat.zero_le _, ρ, τ1, h0, o1, l.tr t1, Tr.refl⟩, ?_⟩
  rintro i m σ' H' ⟨rfl, hi, ρ', τ', hI, o', l', t'⟩
  by_cases hlt : i < ds.length
  · refine .inr ⟨wk.go i H' τ' hlt t' o' (hS _ _ _ hI), fun σ2 H2 => ∃ ρ2 τ2, I (i + 1) ρ2 τ2 ∧ StOk X.K H2 τ2 ∧ SlOk X.K (dom τ2) H2 σ2 ρ2 ∧ Tr (dom τ1) H1 (dom τ2) H2, fun σ2 H2 q => ⟨ds.length - (i + 1), by omega, rfl, hlt, q⟩, fun x H2 y => ?_⟩
    obtain ⟨d, hd', t2, o2, r2⟩ := wk.yld i H' τ' x H2 hlt t' o' (hS _ _ _ hI) y
    obtain ⟨ρ2, e2, hb⟩ := hst i d ρ' τ' hd' hI
    refine tgR_ok (l'.tr t2) e2 r2 fun σ3 l3 => hb σ3 H2 o2 l3 _ ⟨fun σ4 H4 ρ4 τ4 q o4 l4 t4 => ⟨ρ4, τ4, q, o4, l4, (t'.trans t2).trans t4⟩, ?_, ?_, fun σ4 H4 ρ4 τ4 q o4 l4 t4 => ⟨ρ4, τ4, q, o4, l4, (t'.trans t2).trans t4⟩⟩
    · exact p.rt.step ((t1.trans t').trans t2)
    · exact p.nx.step ((t1.trans t').trans t2)
  · have e : i = ds.length := by omega
    subst e
    exact .inl ⟨wk.stop _ H' τ' (Nat.le_refl _) t' o' (hS _ _ _ hI), p.nx σ' H' ρ' τ' (hd _ _ hI) o' l' (t1.trans t')⟩
/-! ### while -/
theorem ds_while (hp : PassesOwn (model X.prog X.w) X.A X.env X.xe) (I : Nat → En → Store → Prop) (h0 : ∃ m, I m ρ τ)
    (h : ∀ m ρ' τ', I m ρ' τ' → Dt X ρ' τ' c fun k τ1 => (k = true → Db X ρ' τ1 body { D with nx := fun ρ2 τ2 => ∃ m', m' < m ∧ I m' ρ2 τ2, ct := fun ρ2 τ2 => ∃ m', m' < m ∧ I m' ρ2 τ2, bk := D.nx }) ∧ (k = false → D.nx ρ' τ1)) :
    Ds X ρ τ (.While c body [] pos) D := .mk fun σ H o l DD p => by
  refine ws_of (ps_while hp pt_wt pss_wb) ⟨fun m σ' H' => ∃ ρ' τ', I m ρ' τ' ∧ StOk X.K H' τ' ∧ SlOk X.K (dom τ') H' σ' ρ' ∧ Tr (dom τ) H (dom τ') H', ?_, ?_⟩
  · obtain ⟨m, hm⟩ := h0
    exact ⟨m, ρ, τ, hm, o, l, Tr.refl⟩
  · rintro m σ' H' ⟨ρ', τ', hI, o', l', t'⟩
    refine h m ρ' τ' hI σ' H' o' l' _ fun k H1 τ1 ⟨q1, q2⟩ o1 t1 => ?_
    cases k with
    | true =>
      refine iteT ⟨fun σ2 H2 => ∃ m', m' < m ∧ ∃ ρ2 τ2, I m' ρ2 τ2 ∧ StOk X.K H2 τ2 ∧ SlOk X.K (dom τ2) H2 σ2 ρ2 ∧ Tr (dom τ) H (dom τ2) H2, fun σ2 H2 q => q, ?_⟩
      refine q1 rfl σ' H1 o1 (l'.tr t1) _ ⟨fun σ4 H4 ρ4 τ4 ⟨m', hm, q⟩ o4 l4 t4 => ⟨m', hm, ρ4, τ4, q, o4, l4, (t'.trans t1).trans t4⟩, ?_, ?_, fun σ4 H4 ρ4 τ4 ⟨m', hm, q⟩ o4 l4 t4 => ⟨m', hm, ρ4, τ4, q, o4, l4, (t'.trans t1).trans t4⟩⟩
      · exact p.rt.step (t'.trans t1)
      · exact p.nx.step (t'.trans t1)
    | false => exact iteF (p.nx σ' H1 ρ' τ1 (q2 rfl) o1 (l'.tr t1) (t'.trans t1))
end

/-! ### comprehensions -/
abbrev Blk (X : Cx) (s : Shared) (H : Hp) (scope : Scope) (C : Addr) (cl : List (Str × Addr)) (fp : List Addr) : Cx := X.blk s H scope (compEnvC scope cl C X.env) fp
section
variable {X : Cx} {ρ : En} {τ : Store} {pos p1 p2 p3 spos : Pos} {tg iter elt tg1 iter1 : Expr} {ifs ifs1 : List Expr} {scope : Scope} {own : List (Str × Nat)}
theorem df_nil {Q : Bool → Store → Prop} (q : Q true τ) : Df X ρ τ [] Q := .mk fun σ H o l QQ p => wf_of pts_nil (p true H τ q o Tr.refl)
theorem df_one {c : Expr} {Q : Bool → Store → Prop} (h : Dt X ρ τ c Q) : Df X ρ τ [c] Q := .mk fun σ H o l QQ p => wf_of (pts_one pt_wt) (h σ H o l QQ p)
/-- one turn: the items' loop by an invariant over the turn, what is made so far, the store -/
structure Turns (X : Cx) (ρ : En) (scope : Scope) (vs : List Nat) (t : Tg) (elt : Expr) (ifs : List Expr) (ds : List PyData) (S : Store → Prop) (I : Nat → List PyData → Store → Prop) : Prop where
  keep : ∀ i acc τ' D, I i acc τ' → D ∉ dom τ' → S ((D, .lst acc) :: τ')
  turn : ∀ i d acc τ', ds[i]? = some d → I i acc τ' → acc.length < 1000000 ∧ ∀ D, D ∉ dom τ' → ∃ ρ2, bindD (wipeE ρ vs) t d = some ρ2 ∧ ∃ T : Bool → Store → Prop,
    (∀ s H C cl fp, Df (Blk X s H scope C cl fp) ρ2 ((D, .lst acc) :: τ') ifs T) ∧
    (∀ τ2, T true τ2 → ∀ s H C cl fp, De (Blk X s H scope C cl fp) ρ2 τ2 elt fun sv τ3 => ∃ y τ4, sv = .val y ∧ τ3 = (D, .lst acc) :: τ4 ∧ I (i + 1) (acc ++ [y]) τ4) ∧
    (∀ τ2, T false τ2 → ∃ τ4, τ2 = (D, .lst acc) :: τ4 ∧ I (i + 1) acc τ4)
/-- what a comprehension hands on, over what is walked -/
def LcQ (X : Cx) (ρ : En) (scope : Scope) (vs : List Nat) (t : Tg) (elt : Expr) (ifs : List Expr) (Q : MV → Store → Prop) : List PyData → (Store → Prop) → Store → Prop := fun ds S τ1 =>
  ∃ I : Nat → List PyData → Store → Prop, I 0 [] τ1 ∧ Turns X ρ scope vs t elt ifs ds S I ∧ ∀ acc τ', I ds.length acc τ' → Q (.val (.list acc)) τ'
def ttB (X : Cx) (scope : Scope) (ifs : List Expr) : TT := fun σ H Q => ∀ s H0 C cl fp, Wf (Blk X s H0 scope C cl fp) ifs σ H Q
def teB (X : Cx) (scope : Scope) (elt : Expr) : TE := fun σ H Q => ∀ s H0 C cl fp, We (Blk X s H0 scope C cl fp) elt σ H Q
theorem lc_read {t : Tg} {vs : List Nat} {Q : MV → Store → Prop} (hu : ∀ j ∈ t.slots, j ∈ vs) (h : Di X tg ρ τ iter (LcQ X ρ scope vs t elt ifs Q)) {σ : L2.St} {H : Hp} (o : StOk X.K H τ) (l : SlOk X.K (dom τ) H σ ρ) {QQ : VK} (p : Pst X.K τ H Q QQ) :
    tLc (Wi X tg iter) (tgR X.K t) (ttB X scope ifs) (teB X scope elt) vs σ H QQ := by
  refine h σ H o l _ fun J H1 ds S τ1 ⟨I, h0, ht, hd⟩ o1 t1 wk => fun D hD => ?_
  have t1' : Tr (dom τ1) H1 (dom ((D, MO.lst []) :: τ1)) (upd H1 D (.lst [])) := Tr.push hD
  refine ⟨fun i m H' => m = ds.length - i ∧ i ≤ ds.length ∧ ∃ acc τ', I i acc τ' ∧ StOk X.K H' ((D, .lst acc) :: τ') ∧ Tr (dom τ1) H1 (dom ((D, MO.lst acc) :: τ')) H', ⟨ds.length, rfl, Nat.zero_le _, [], τ1, h0, o1.push hD ⟨[], upd_same, .nil⟩, t1'⟩, ?_⟩
  rintro i m H' ⟨rfl, hi, acc, τ', hI, o', t'⟩
  have nD : D ∉ dom τ' := (List.nodup_cons.mp o'.nd).1
  by_cases hlt : i < ds.length
  · refine .inr ⟨wk.go i H' _ hlt t' o' (ht.keep _ _ _ _ hI nD), fun H2 => ∃ acc τ', I (i + 1) acc τ' ∧ StOk X.K H2 ((D, .lst acc) :: τ') ∧ Tr (dom τ1) H1 (dom ((D, MO.lst acc) :: τ')) H2, fun H2 q => ⟨ds.length - (i + 1), by omega, rfl, hlt, q⟩, fun x H2 y => ?_⟩
    obtain ⟨d, hd', t2, o2, r2⟩ := wk.yld i H' _ x H2 hlt t' o' (ht.keep _ _ _ _ hI nD) y
    obtain ⟨hl, ht2⟩ := ht.turn i d acc τ' hd' hI
    obtain ⟨ρ2, e2, T, hf, he, hn⟩ := ht2 D nD
    have l2 : SlOk X.K (dom ((D, MO.lst acc) :: τ')) H2 (wipe σ vs) (wipeE ρ vs) := (((l.tr t1).tr t').tr t2).wipe vs
    refine tgR_ok' hu l2 e2 r2 fun σ3 l3 w3 => ⟨by rw [w3, wipe_wipe σ vs vs fun _ h => h], ?_⟩
    intro s0 H0 C0 cl0 fp0
    refine hf s0 H0 C0 cl0 fp0 σ3 H2 o2 l3 _ fun k H3 τ3 q3 o3 t3 => ?_
    cases k with
    | true =>
      refine iteT ?_
      intro s1 H1' C1 cl1 fp1
      refine he τ3 q3 s1 H1' C1 cl1 fp1 σ3 H3 o3 (l3.tr t3) _ fun v H4 sv τ4 ⟨y', τ5, e5, e6, q5⟩ o4 r4 t4 => ?_
      subst e5 e6
      obtain ⟨us, h5, h6⟩ := o4.ok (D, .lst acc) List.mem_cons_self
      have nD5 : D ∉ dom τ5 := (List.nodup_cons.mp o4.nd).1
      have tw : Tr (dom ((D, MO.lst acc) :: τ5)) H4 (dom ((D, MO.lst (acc ++ [y'])) :: τ5)) (upd H4 D (.lst (us ++ [v]))) := Tr.write (τ := (D, MO.lst acc) :: τ5) (a := D) List.mem_cons_self
      have ow := o4.write (a := D) (o := .lst (us ++ [v])) (mo := .lst (acc ++ [y'])) List.mem_cons_self ⟨_, upd_same, (h6.append (.cons r4 .nil)).tr (Tr.write (τ := (D, MO.lst acc) :: τ5) (a := D) List.mem_cons_self)⟩
      have es : setS D (.lst (acc ++ [y'])) ((D, MO.lst acc) :: τ5) = (D, .lst (acc ++ [y'])) :: τ5 := if_pos rfl
      rw [es] at ow
      exact ⟨us, h5, small_sz' (by rw [h6.length]; exact hl), acc ++ [y'], τ5, q5, ow, (((t'.trans t2).trans t3).trans t4).trans tw⟩
    | false =>
      refine iteF ?_
      obtain ⟨τ5, e5, q5⟩ := hn τ3 q3
      subst e5
      exact ⟨acc, τ5, q5, o3, (t'.trans t2).trans t3⟩
  · have e : i = ds.length := by omega
    subst e
    refine .inl ⟨wk.stop _ H' _ (Nat.le_refl _) t' o' (ht.keep _ _ _ _ hI nD), ?_⟩
    obtain ⟨us, h5, h6⟩ := o'.ok (D, .lst acc) List.mem_cons_self
    exact p _ H' (.val (.list acc)) τ' (hd _ _ hI) o'.drop (Dn.lst ⟨nD, h5⟩ (h6.tr Tr.drop)) (t1.trans (t'.trans Tr.drop))
theorem de_lc {t : Tg} {Q : MV → Store → Prop} (hc : X.calm = true) (hN : X.N.Nodup) (ok : BlkOk X.N X.env.scope scope own) (hu : ∀ j ∈ t.slots, j ∈ own.map (·.2))
    (hg : ∀ s H C cl fp, PGx (Blk X s H scope C cl fp) tg t) (h : Di X tg ρ τ iter (LcQ X ρ scope (own.map (·.2)) t elt ifs Q)) (hs : ∀ x, foldedSetIterable iter X.env x = pure x := by intro _; rfl) :
    De X ρ τ (.ListComp elt [⟨tg, iter, ifs, 0⟩] scope pos) Q := .mk fun σ H o l QQ p =>
  we_of (pe_lc (tt := ttB X scope ifs) (te := teB X scope elt) (g := tgR X.K t) hc hN pi_wi ok hg (fun s H C cl fp => ⟨fun pins s' σ' H' Q' I hq => hq s H C cl fp pins s' I⟩) (fun s H C cl fp => ⟨fun pins s' σ' H' Q' I hq => hq s H C cl fp pins s' I⟩) hs) (lc_read hu h o l p)
/-- name = [..] -/
theorem ds_setLc {t : Tg} {D : DE} (i : Nat) {y : Str} {py : Pos} (hc : X.calm = true) (hN : X.N.Nodup) (hy : X.N[i]? = some y) (hyl : X.env.scope.names.lookup y = some .local)
    (hsw : swapsWith (.ListComp elt [⟨tg, iter, ifs, 0⟩] scope pos) (some (.Name y py)) spos.line X.env = pure true) (ok : BlkOk X.N X.env.scope scope own) (hu : ∀ j ∈ t.slots, j ∈ own.map (·.2))
    (hg : ∀ s H C cl fp, PGx (Blk X s H scope C cl fp) tg t) (h : Di X tg ρ τ iter (LcQ X ρ scope (own.map (·.2)) t elt ifs fun sv τ1 => D.nx (ρ.set i (some sv)) τ1)) (hs : ∀ x, foldedSetIterable iter X.env x = pure x := by intro _; rfl) :
    Ds X ρ τ (.Assign [.Name y py] (.ListComp elt [⟨tg, iter, ifs, 0⟩] scope pos) spos) D := .mk fun σ H o l DD p =>
  ws_of (ps_setLc (tt := ttB X scope ifs) (te := teB X scope elt) (g := tgR X.K t) hc hN hy hyl hsw pi_wi ok hg (fun s H C cl fp => ⟨fun pins s' σ' H' Q' I hq => hq s H C cl fp pins s' I⟩) (fun s H C cl fp => ⟨fun pins s' σ' H' Q' I hq => hq s H C cl fp pins s' I⟩) hs)
    (lc_read hu h o l (QQ := fun v H1 => gName i v σ H1 DD.nx) fun v H1 sv τ1 q o1 r1 t1 => p.nx _ H1 _ τ1 q o1 ((l.tr t1).set r1 i) t1)
/-- no test, nothing changes: a map -/
theorem lcq_map {α : Type} {t : Tg} {vs : List Nat} {Q : MV → Store → Prop} {ds : List PyData} (xs : List α) (emb f : α → PyData) (he : ds = xs.map emb) {S : Store → Prop} {τ1 : Store} (hl : xs.length ≤ 1000000)
    (h : ∀ x ∈ xs, ∃ ρ2, bindD (wipeE ρ vs) t (emb x) = some ρ2 ∧ ∀ D acc, D ∉ dom τ1 → ∀ s H C cl fp, De (Blk X s H scope C cl fp) ρ2 ((D, .lst acc) :: τ1) elt fun sv τ3 => sv = .val (f x) ∧ τ3 = (D, .lst acc) :: τ1) (q : Q (.val (.list (xs.map f))) τ1) (hS : ∀ D acc, D ∉ dom τ1 → S ((D, .lst acc) :: τ1) := by exact fun _ _ _ => trivial) :
    LcQ X ρ scope vs t elt [] Q ds S τ1 := by
  subst he
  refine ⟨fun i acc τ' => τ' = τ1 ∧ acc = (xs.take i).map f, ⟨rfl, rfl⟩, ⟨?_, ?_⟩, ?_⟩
  · rintro i acc τ' D ⟨rfl, rfl⟩ hD
    exact hS D _ hD
  · rintro i d acc τ' hd ⟨rfl, rfl⟩
    rw [List.getElem?_map] at hd
    cases hx : xs[i]? with
    | none => rw [hx] at hd; cases hd
    | some x =>
      rw [hx] at hd
      cases hd
      have hi : i < xs.length := (List.getElem?_eq_some_iff.mp hx).1
      refine ⟨by rw [List.length_map, List.length_take]; omega, fun D hD => ?_⟩
      obtain ⟨ρ2, e, hb⟩ := h x (List.mem_of_getElem? hx)
      refine ⟨ρ2, e, fun k τ2 => k = true ∧ τ2 = (D, .lst ((xs.take i).map f)) :: τ', fun s H C cl fp => df_nil ⟨rfl, rfl⟩, ?_, ?_⟩
      · rintro τ2 ⟨_, rfl⟩ s H C cl fp
        refine (hb D _ hD s H C cl fp).mono ?_
        rintro sv τ3 ⟨rfl, rfl⟩
        exact ⟨f x, τ', rfl, rfl, rfl, by rw [List.take_add_one, hx, List.map_append]; rfl⟩
      · rintro τ2 ⟨h, _⟩
        cases h
  · rintro acc τ' ⟨rfl, rfl⟩
    rw [List.length_map, List.take_length]
    exact q
/-- one test, nothing changes -/
theorem lcq_filter {α : Type} {t : Tg} {vs : List Nat} {c : Expr} {Q : MV → Store → Prop} {ds : List PyData} (xs : List α) (emb f : α → PyData) (pr : α → Bool) (he : ds = xs.map emb) {S : Store → Prop} {τ1 : Store} (hl : xs.length ≤ 1000000)
    (h : ∀ x ∈ xs, ∃ ρ2, bindD (wipeE ρ vs) t (emb x) = some ρ2 ∧ ∀ D acc, D ∉ dom τ1 → ∀ s H C cl fp, Dt (Blk X s H scope C cl fp) ρ2 ((D, .lst acc) :: τ1) c (fun k τ2 => k = pr x ∧ τ2 = (D, .lst acc) :: τ1) ∧
      (pr x = true → De (Blk X s H scope C cl fp) ρ2 ((D, .lst acc) :: τ1) elt fun sv τ3 => sv = .val (f x) ∧ τ3 = (D, .lst acc) :: τ1)) (q : Q (.val (.list ((xs.filter pr).map f))) τ1) (hS : ∀ D acc, D ∉ dom τ1 → S ((D, .lst acc) :: τ1) := by exact fun _ _ _ => trivial) :
    LcQ X ρ scope vs t elt [c] Q ds S τ1 := by
  subst he
  refine ⟨fun i acc τ' => τ' = τ1 ∧ acc = ((xs.take i).filter pr).map f, ⟨rfl, rfl⟩, ⟨?_, ?_⟩, ?_⟩
  · rintro i acc τ' D ⟨rfl, rfl⟩ hD
    exact hS D _ hD
  · rintro i d acc τ' hd ⟨rfl, rfl⟩
    rw [List.getElem?_map] at hd
    cases hx : xs[i]? with
    | none => rw [hx] at hd; cases hd
    | some x =>
      rw [hx] at hd
      cases hd
      have hi : i < xs.length := (List.getElem?_eq_some_iff.mp hx).1
      have hle : ((xs.take i).filter pr).length ≤ i := Nat.le_trans (List.length_filter_le _ _) (by rw [List.length_take]; omega)
      refine ⟨by rw [List.length_map]; omega, fun D hD => ?_⟩
      obtain ⟨ρ2, e, hb⟩ := h x (List.mem_of_getElem? hx)
      refine ⟨ρ2, e, fun k τ2 => k = pr x ∧ τ2 = (D, .lst (((xs.take i).filter pr).map f)) :: τ', fun s H C cl fp => df_one (hb D _ hD s H C cl fp).1, ?_, ?_⟩
      · rintro τ2 ⟨hk, rfl⟩ s H C cl fp
        refine ((hb D _ hD s H C cl fp).2 hk.symm).mono ?_
        rintro sv τ3 ⟨rfl, rfl⟩
        refine ⟨f x, τ', rfl, rfl, rfl, ?_⟩
        rw [List.take_add_one, hx]
        show _ = ((xs.take i ++ [x]).filter pr).map f
        rw [List.filter_append, List.map_append, show [x].filter pr = [x] from by rw [List.filter_cons, ← hk]; rfl]
        rfl
      · rintro τ2 ⟨hk, rfl⟩
        refine ⟨τ', rfl, rfl, ?_⟩
        rw [List.take_add_one, hx]
        show _ = ((xs.take i ++ [x]).filter pr).map f
        rw [List.filter_append, show [x].filter pr = [] from by rw [List.filter_cons, ← hk]; rfl, List.append_nil]
  · rintro acc τ' ⟨rfl, rfl⟩
    rw [List.length_map, List.take_length]
    exact q
end
end Dl

namespace Dl
open PySem PySem.Spec L2

/-! ### a def keeps its promise -/
def startE (N : List Str) (svs : List MV) : En := svs.map some ++ List.replicate (N.length - svs.length) none
theorem slOk_start {K : PySem.W.Frag} {A : List Addr} {H : Hp} {N : List Str} {vs : List V} {svs : List MV} (r : RvL K A H vs svs) : SlOk K A H (L2.start N vs) (startE N svs) := by
  have hl : vs.length = svs.length := Paired.length r
  refine ⟨by unfold L2.start startE; rw [List.length_append, List.length_append, List.length_map, List.length_map, List.length_replicate, List.length_replicate, hl], fun i sv e => ?_⟩
  unfold startE at e
  by_cases hi : i < svs.length
  · rw [List.getElem?_append_left (by rw [List.length_map]; exact hi), List.getElem?_map] at e
    have get : ∀ {vs : List V} {svs : List MV} {i : Nat} {sv : MV}, RvL K A H vs svs → svs[i]? = some sv → ∃ v, vs[i]? = some v ∧ Rv K A H v sv := by
      intro vs svs i sv r
      induction r generalizing i with
      | nil => intro e; simp at e
      | cons a b ih =>
        intro e
        cases i with
        | zero =>
          simp at e
          subst e
          exact ⟨_, rfl, a⟩
        | succ i =>
          obtain ⟨v, h1, h2⟩ := ih (by simpa using e)
          exact ⟨v, by simpa using h1, h2⟩
    cases h : svs[i]? with
    | none => rw [h] at e; cases e
    | some sv' =>
      rw [h] at e
      cases e
      obtain ⟨v, h1, h2⟩ := get r h
      refine ⟨v, ?_, h2⟩
      unfold L2.start
      rw [List.getElem?_append_left (by rw [List.length_map, hl]; exact hi), List.getElem?_map, h1]
      rfl
  · rw [List.getElem?_append_right (by rw [List.length_map]; omega), List.getElem?_replicate] at e
    split at e <;> cases e
section
variable {P : Program} {w : World} {K : PySem.W.Frag} {mg : Str → Option Value} {base : Heap}
/-- a def as the top has left it -/
structure HasDef (K : PySem.W.Frag) (mg : Str → Option Value) (x : Str) (st : Stmt) (ps : List Str) : Prop where
  ex : ∃ (f : Addr) (fd : FuncData), Fun K x x st f fd ∧ mg x = some (.ref f) ∧ Binds K fd ps []
abbrev BX (P : Program) (w : World) (K : PySem.W.Frag) (mg : Str → Option Value) (base : Heap) (N : List Str) (x : Str) (st : Stmt) (f : Addr) (cdv : Value) (A : Around) (outer : List Env) (s : Shared) (H : Hp) (E : XK) : Cx :=
  (cxOf CX0 P w K mg base N x (defScope st) f cdv A outer s H E).nox
/-- a def's body keeps the promise, wherever the def stands -/
def KnowsF (P : Program) (w : World) (K : PySem.W.Frag) (mg : Str → Option Value) (base : Heap) (k : Nat) (x : Str) (st : Stmt) (ps : List Str) (C : Ctr) : Prop := ∀ (f : Addr) (fd : FuncData), Fun K x x st f fd → FnOk P w K mg base CX0 k f fd ps (spC K C)
theorem knowsF_mk {x : Str} {st : Stmt} {N ps : List Str} {k : Nat} {C : Ctr} (S : FnScope N ps (defScope st)) (hl : ∀ svs τ Q, C svs τ Q → svs.length = ps.length)
    (body : ∀ f cdv A outer s H E, Room k (BX P w K mg base N x st f cdv A outer s H E).A → ∀ svs τ Q, C svs τ Q →
      Db (BX P w K mg base N x st f cdv A outer s H E) (startE N svs) τ (defBody st) { nx := fun _ τ' => Q (.val .none) τ', rt := Q }) : KnowsF P w K mg base (k + 1) x st ps C := fun f fd F =>
  F.ok S (fun vs H Q E ⟨τ, svs, QQ, o, r, c, p⟩ => by
    rw [Paired.length r]
    exact hl _ _ _ c) fun cdv A outer s H vs Q E hr ⟨τ, svs, QQ, o, r, c, p⟩ =>
    ⟨_, pss_wb, body f cdv A outer s H E hr svs τ QQ c _ H o (slOk_start r) _ ⟨fun σ' H' ρ' τ' q o' _ t => p _ H' _ τ' q o' Dn.non t, p, fun _ _ _ _ q => q.elim, fun _ _ _ _ q => q.elim⟩⟩
theorem knows_mk {x : Str} {st : Stmt} {N ps : List Str} {k : Nat} {C : Ctr} (F : HasDef K mg x st ps) (S : FnScope N ps (defScope st)) (hl : ∀ svs τ Q, C svs τ Q → svs.length = ps.length)
    (body : ∀ f cdv A outer s H E, Room k (BX P w K mg base N x st f cdv A outer s H E).A → ∀ svs τ Q, C svs τ Q →
      Db (BX P w K mg base N x st f cdv A outer s H E) (startE N svs) τ (defBody st) { nx := fun _ τ' => Q (.val .none) τ', rt := Q }) : Knows P w K mg base (k + 1) x C := by
  obtain ⟨f, fd, F, g, b⟩ := F.ex
  exact ⟨f, fd, ps, knowsF_mk S hl body f fd F, g, F.kp, b⟩
/-! ### the end -/
theorem hasDef_mk {h : Heap} {x : Str} {st : Stmt} {ps : List Str} {f : Addr} {oc : Value} {od an : Option Addr} {osl : Array (Option Value)} {kV doc pm cdv ct : Value} (X : K.In h) (G : h.Ns mainGlobals mg) (a : PySem.W.nsIn K mainGlobals x = some (some (.ref f)))
    (l : K.lookup f = some ⟨oc, od, .func (PySem.W.fnOf x x (defArgs st) (defBody st) (defScope st) .none kV doc pm an cdv ct), osl⟩) (c : PySem.W.codeIn K cdv x = true) (k : PySem.W.keepIn K (.ref f) = true)
    (bd : ∀ (kV doc pm : Value) (an : Option Addr) (cdv ct : Value) (us : List Value), us.length = ps.length → bindArgs (PySem.W.fnOf x x (defArgs st) (defBody st) (defScope st) .none kV doc pm an cdv ct) ⟨us, []⟩ = pure (ps.zip us)) : HasDef K mg x st ps :=
  ⟨f, _, fun_mk l c k, PySem.W.mg_of X G a, (fun_mk l c k).binds bd⟩
def cLaw : Ctr := fun svs τ Q => ∃ ns, svs = [.scr ns] ∧ ns.length ≤ 63 ∧ τ = [] ∧ ∀ τ', Q (.val (.bool true)) τ'
theorem law_sp {H : Hp} {a : Addr} {ns : List Int} (hl : ns.length ≤ 63) (hO : Only H) (hS : SqL K H a (ns.map V.int)) : spC K cLaw [.ref a] H (fun v _ => v = .bl true) fun _ _ _ => False := by
  refine ⟨[], [.scr ns], fun sv _ => sv = .val (.bool true), ⟨List.nodup_nil, fun p hp => by cases hp⟩, .cons ⟨a, rfl, ?_⟩ .nil, ⟨ns, rfl, hl, rfl, fun _ => rfl⟩, ?_⟩
  · rcases hS with (h | ⟨o, h⟩) | h
    · rcases hO a with z | ⟨o, xs, z⟩
      · rw [z] at h
        cases h
      · rw [z] at h
        cases h
    · exact .inl ⟨by simp, o, h⟩
    · exact .inr h
  · intro v H' sv τ' e _ r _
    subst e
    cases r
    rfl
end
theorem law_fin {P : Program} {w : World} {K : PySem.W.Frag} {mg : Str → Option Value} {h : Heap} {n : Nat} {st : Stmt} {fa f : Addr} {oc : Value} {od an : Option Addr} {osl : Array (Option Value)} {kV doc pm cdv ct : Value} (X : K.In h) (G : h.Ns mainGlobals mg) (hfa : mg "law" = some (.ref fa)) (a : PySem.W.nsIn K mainGlobals "law" = some (some (.ref f)))
    (l : K.lookup f = some ⟨oc, od, .func (PySem.W.fnOf "law" "law" (defArgs st) (defBody st) (defScope st) .none kV doc pm an cdv ct), osl⟩) (c : PySem.W.codeIn K cdv "law" = true) (k : PySem.W.keepIn K (.ref f) = true)
    (bd : ∀ (kV doc pm : Value) (an : Option Addr) (cdv ct : Value) (us : List Value), us.length = 1 → bindArgs (PySem.W.fnOf "law" "law" (defArgs st) (defBody st) (defScope st) .none kV doc pm an cdv ct) ⟨us, []⟩ = pure ((["_law_script"] : List Str).zip us))
    (ok : ∀ base, KnowsF P w K mg base n "law" st ["_law_script"] cLaw) :
    ∃ fd : FuncData, (∀ (s : Shared) (u : Value), BindsTo s fd ⟨[u], []⟩ [("_law_script", u)]) ∧ ∀ base : Heap, K.In base → base.Ns mainGlobals mg → FnOk P w K mg base CX0 n fa fd ["_law_script"] (spC K cLaw) := by
  have e := hfa.symm.trans (PySem.W.mg_of X G a)
  cases e
  exact ⟨_, fun s v => .of_eq (bd kV doc pm an cdv ct [v] rfl), fun base _ _ => ok base _ _ (fun_mk l c k)⟩
theorem walk_law {l : PySem.W.OpenLaw} {q : Program} {loose : List Str} {XP : (Str → Option Value) → Heap → Prop} {YP : World → Heap → Prop} {d : DefRec} {K : Params → PySem.W.Frag} {k : Nat} {st : Stmt} (hn : l.most = some 63) (hdf : d.params.defaults = []) (hr : Room k callerA)
    (hY : ∀ (w : World) (h : Heap), YP w h → (K w.params).In h)
    (F : ∀ (w : World) (mg : Str → Option Value) (fa : Addr) (h : Heap), (K w.params).In h → h.Ns mainGlobals mg → mg d.name = some (.ref fa) →
      ∃ fd : FuncData, (∀ (s : Shared) (u : Value), BindsTo s fd ⟨[u], []⟩ [("_law_script", u)]) ∧ ∀ base : Heap, (K w.params).In base → base.Ns mainGlobals mg → FnOk l.prog w (K w.params) mg base CX0 k fa fd ["_law_script"] (spC (K w.params) cLaw)) :
    PySem.W.WalkO q loose XP YP l.row.toRowW d [] (fun f vs => PySem.call f vs) :=
  L2.walk_of (n := 63) (k := k) (x := "_law_script") (CX := fun _ => CX0) (sp := fun w => spC (K w.params) cLaw) hn (by decide) hdf hr hY F (fun _ _ _ _ hl hO hS => law_sp hl hO hS) fun _ _ _ _ _ z => z
end Dl

namespace Dl
open PySem PySem.Spec L2

/-! ### plain data: no bools, no dicts, of some depth -/
def Pl : Nat → PyData → Prop
  | _, .none => True
  | _, .int _ => True
  | _, .str x => PyData.strOk x = true
  | 0, .list xs => xs = []
  | n + 1, .list xs => ∀ x ∈ xs, Pl n x
  | 0, .tuple xs => xs = []
  | n + 1, .tuple xs => ∀ x ∈ xs, Pl n x
  | _, .bool _ => False
  | _, .dict _ => False
theorem canLayAll0_of {xs : List PyData} (h : ∀ x ∈ xs, x.canLay0 = true) : PyData.canLayAll0 xs = true := by
  induction xs with
  | nil => rfl
  | cons x r ih =>
    rw [PyData.canLayAll0, h x List.mem_cons_self, ih fun y hy => h y (List.mem_cons_of_mem _ hy)]
    rfl
theorem depthAll_of {xs : List PyData} {n : Nat} (h : ∀ x ∈ xs, x.depth ≤ n) : PyData.depthAll xs ≤ n := by
  induction xs with
  | nil => exact Nat.zero_le _
  | cons x r ih =>
    rw [PyData.depthAll]
    exact Nat.max_le.mpr ⟨h x List.mem_cons_self, ih fun y hy => h y (List.mem_cons_of_mem _ hy)⟩
theorem Pl.lay : ∀ {n : Nat} {d : PyData}, Pl n d → d.canLay0 = true
  | _, .none, _ => rfl
  | _, .int _, _ => rfl
  | n, .str x, h => by
    cases n <;> exact h
  | 0, .list xs, h => by
    have h : xs = [] := h
    subst h
    rfl
  | n + 1, .list xs, h => by
    have h : ∀ x ∈ xs, Pl n x := h
    show PyData.canLayAll0 xs = true
    exact canLayAll0_of fun x hx => (h x hx).lay
  | 0, .tuple xs, h => by
    have h : xs = [] := h
    subst h
    rfl
  | n + 1, .tuple xs, h => by
    have h : ∀ x ∈ xs, Pl n x := h
    show PyData.canLayAll0 xs = true
    exact canLayAll0_of fun x hx => (h x hx).lay
  | n, .bool _, h => by cases n <;> exact h.elim
  | n, .dict _, h => by cases n <;> exact h.elim
theorem Pl.dep : ∀ {n : Nat} {d : PyData}, Pl n d → d.depth ≤ n + 1
  | _, .none, _ => Nat.zero_le _
  | _, .int _, _ => Nat.zero_le _
  | n, .str x, h => Nat.zero_le _
  | 0, .list xs, h => by
    have h : xs = [] := h
    subst h
    exact Nat.le_refl _
  | n + 1, .list xs, h => by
    have h : ∀ x ∈ xs, Pl n x := h
    show PyData.depthAll xs + 1 ≤ n + 1 + 1
    have := depthAll_of (n := n + 1) fun x hx => (h x hx).dep
    omega
  | 0, .tuple xs, h => by
    have h : xs = [] := h
    subst h
    exact Nat.le_refl _
  | n + 1, .tuple xs, h => by
    have h : ∀ x ∈ xs, Pl n x := h
    show PyData.depthAll xs + 1 ≤ n + 1 + 1
    have := depthAll_of (n := n + 1) fun x hx => (h x hx).dep
    omega
  | n, .bool _, h => by cases n <;> exact h.elim
  | n, .dict _, h => by cases n <;> exact h.elim
theorem Pl.shaped {n : Nat} {d : PyData} (h : Pl n d) (hn : n ≤ 60 := by decide) : SeqAt.shaped d = true := by
  unfold SeqAt.shaped
  rw [h.lay, Bool.true_and]
  have := h.dep
  exact decide_eq_true (by omega)
theorem eqvAll_iff {n : Nat} (ih : ∀ {d e : PyData}, Pl n d → PyData.eqv d e = true → d = e) : ∀ {xs ys : List PyData}, (∀ x ∈ xs, Pl n x) → PyData.eqvAll xs ys = true → xs = ys
  | [], [], _, _ => rfl
  | [], _ :: _, _, h => by simp [PyData.eqvAll] at h
  | _ :: _, [], _, h => by simp [PyData.eqvAll] at h
  | x :: xs, y :: ys, hp, h => by
    rw [PyData.eqvAll, Bool.and_eq_true] at h
    rw [ih (hp x List.mem_cons_self) h.1, eqvAll_iff ih (fun z hz => hp z (List.mem_cons_of_mem _ hz)) h.2]
theorem Pl.eqv_eq : ∀ {n m : Nat} {d e : PyData}, Pl n d → Pl m e → PyData.eqv d e = true → d = e
  | _, _, .none, e, _, _, h => by cases e <;> first | rfl | (simp [PyData.eqv] at h)
  | _, m, .int i, e, _, he, h => by
    cases e with
    | int j =>
      simp [PyData.eqv] at h
      rw [h]
    | bool b => cases m <;> exact he.elim
    | _ => simp [PyData.eqv] at h
  | _, _, .str x, e, _, _, h => by
    cases e with
    | str y =>
      simp [PyData.eqv] at h
      rw [h]
    | _ => simp [PyData.eqv] at h
  | n, m, .list xs, e, hd, he, h => by
    cases e with
    | list ys =>
      have h : PyData.eqvAll xs ys = true := by
        rw [PyData.eqv] at h
        exact h
      have key : ∀ {xs ys : List PyData}, (∀ x ∈ xs, Pl (n - 1) x) → (∀ y ∈ ys, Pl (m - 1) y) → (0 < n ∨ xs = []) → PyData.eqvAll xs ys = true → xs = ys := by
        intro xs
        induction xs with
        | nil =>
          intro ys _ _ _ h
          cases ys with
          | nil => rfl
          | cons _ _ => simp [PyData.eqvAll] at h
        | cons x xs ih =>
          intro ys h1 h2 h3 h
          cases ys with
          | nil => simp [PyData.eqvAll] at h
          | cons y ys =>
            have hn : 0 < n := h3.elim id fun e => by cases e
            rw [PyData.eqvAll, Bool.and_eq_true] at h
            have a := Pl.eqv_eq (n := n - 1) (m := m - 1) (h1 x List.mem_cons_self) (h2 y List.mem_cons_self) h.1
            have b := ih (fun z hz => h1 z (List.mem_cons_of_mem _ hz)) (fun z hz => h2 z (List.mem_cons_of_mem _ hz)) (.inl hn) h.2
            rw [a, b]
      congr 1
      refine key ?_ ?_ ?_ h
      · cases n with
        | zero =>
          have hd : xs = [] := hd
          subst hd
          intro x hx
          cases hx
        | succ n => exact hd
      · cases m with
        | zero =>
          have he : ys = [] := he
          subst he
          intro x hx
          cases hx
        | succ m => exact he
      · cases n with
        | zero => exact .inr hd
        | succ n => exact .inl (Nat.succ_pos _)
    | _ => simp [PyData.eqv] at h
  | n, m, .tuple xs, e, hd, he, h => by
    cases e with
    | tuple ys =>
      have h : PyData.eqvAll xs ys = true := by
        rw [PyData.eqv] at h
        exact h
      have key : ∀ {xs ys : List PyData}, (∀ x ∈ xs, Pl (n - 1) x) → (∀ y ∈ ys, Pl (m - 1) y) → (0 < n ∨ xs = []) → PyData.eqvAll xs ys = true → xs = ys := by
        intro xs
        induction xs with
        | nil =>
          intro ys _ _ _ h
          cases ys with
          | nil => rfl
          | cons _ _ => simp [PyData.eqvAll] at h
        | cons x xs ih =>
          intro ys h1 h2 h3 h
          cases ys with
          | nil => simp [PyData.eqvAll] at h
          | cons y ys =>
            have hn : 0 < n := h3.elim id fun e => by cases e
            rw [PyData.eqvAll, Bool.and_eq_true] at h
            have a := Pl.eqv_eq (n := n - 1) (m := m - 1) (h1 x List.mem_cons_self) (h2 y List.mem_cons_self) h.1
            have b := ih (fun z hz => h1 z (List.mem_cons_of_mem _ hz)) (fun z hz => h2 z (List.mem_cons_of_mem _ hz)) (.inl hn) h.2
            rw [a, b]
      congr 1
      refine key ?_ ?_ ?_ h
      · cases n with
        | zero =>
          have hd : xs = [] := hd
          subst hd
          intro x hx
          cases hx
        | succ n => exact hd
      · cases m with
        | zero =>
          have he : ys = [] := he
          subst he
          intro x hx
          cases hx
        | succ m => exact he
      · cases n with
        | zero => exact .inr hd
        | succ n => exact .inl (Nat.succ_pos _)
    | _ => simp [PyData.eqv] at h
  | n, _, .bool _, _, h, _, _ => by cases n <;> exact h.elim
  | n, _, .dict _, _, h, _, _ => by cases n <;> exact h.elim
termination_by n => n
theorem Pl.eqv_iff {n m : Nat} {d e : PyData} (h : Pl n d) (h' : Pl m e) : PyData.eqv d e = true ↔ d = e := ⟨h.eqv_eq h', fun q => by
  subst q
  exact SeqAt.eqv_refl d h.lay⟩
section
variable {K : PySem.W.Frag} {τ : Store} {Q : MV → Store → Prop} {neg : Bool}
/-- == of plain data -/
theorem eq_pl {n m : Nat} {x y : MV} {d e : PyData} (hx : datOf τ x = some d) (hy : datOf τ y = some e) (hd : Pl n d) (he : Pl m e) (q : ∀ b : Bool, (b = true ↔ d = e) → Q (.val (.bool (bneg neg b))) τ) (hn : n ≤ 60 := by decide) (hm : m ≤ 60 := by decide) : EqD K neg x y τ Q :=
  eq_dat hx hy (hd.shaped hn) (he.shaped hm) (q _ (hd.eqv_iff he))
theorem eq_int {i j : Int} (q : Q (.val (.bool (bneg neg (decide (i = j))))) τ) : EqD K neg (.val (.int i)) (.val (.int j)) τ Q :=
  eq_dat rfl rfl rfl rfl (by
    have e : PyData.eqv (.int i) (.int j) = decide (i = j) := by
      simp only [PyData.eqv]
      by_cases h : i = j <;> simp [h]
    rw [e]
    exact q)
theorem eq_bool {i j : Bool} (q : Q (.val (.bool (bneg neg (decide (i = j))))) τ) : EqD K neg (.val (.bool i)) (.val (.bool j)) τ Q :=
  eq_dat rfl rfl rfl rfl (by
    have e : PyData.eqv (.bool i) (.bool j) = decide (i = j) := by cases i <;> cases j <;> rfl
    rw [e]
    exact q)
theorem in_plT {n : Nat} {x y : MV} {d : PyData} {ds : List PyData} (hx : datOf τ x = some d) (hy : datOf τ y = some (.tuple ds)) (hd : Pl n d) (he : ∀ z ∈ ds, Pl n z) (q : ∀ b : Bool, (b = true ↔ d ∈ ds) → Q (.val (.bool (bneg neg b))) τ) (hn : n ≤ 50 := by decide) : InD K neg x y τ Q :=
  in_datT hx hy (hd.shaped (by omega)) (Pl.shaped (n := n + 1) (d := .tuple ds) he (by omega)) (q _ (by
    rw [List.any_eq_true]
    constructor
    · rintro ⟨z, hz, h⟩
      rw [← (he z hz).eqv_eq hd h]
      exact hz
    · intro h
      exact ⟨d, h, SeqAt.eqv_refl d hd.lay⟩))
theorem in_pl {n : Nat} {x y : MV} {d : PyData} {ds : List PyData} (hx : datOf τ x = some d) (hy : datOf τ y = some (.list ds)) (hd : Pl n d) (he : ∀ z ∈ ds, Pl n z) (q : ∀ b : Bool, (b = true ↔ d ∈ ds) → Q (.val (.bool (bneg neg b))) τ) (hn : n ≤ 50 := by decide) : InD K neg x y τ Q :=
  in_dat hx hy (hd.shaped (by omega)) (Pl.shaped (n := n + 1) (d := .list ds) he (by omega)) (q _ (by
    rw [List.any_eq_true]
    constructor
    · rintro ⟨z, hz, h⟩
      rw [← (he z hz).eqv_eq hd h]
      exact hz
    · intro h
      exact ⟨d, h, SeqAt.eqv_refl d hd.lay⟩))
end
end Dl

/-! t[::-1] of a tuple -/
namespace Dl
open PySem PySem.Spec PyProof.Rows HT
section
variable {prog : Program} {w : World} {A : Around} {E : Value → Shared → Prop} {s : Shared}
theorem rev_sliceApplied {sl : Addr} {vl vu vs : Value} {n : Nat} {Q : Int × Int × Nat → Shared → Prop} (hs : s.heap.IsSliceOf sl vl vu vs) (pl : IsPart vl none) (pu : IsPart vu none) (ps : IsPart vs (some (-1)))
    (h : Q ((n : Int) - 1, -1, n) s) : wpAny (model prog w) A (Builtin.Slice.sliceApplied (.ref sl) (pure (n : Int))) Q E s := by
  obtain ⟨os, hos, hcs, hds⟩ := id hs
  unfold Builtin.Slice.sliceApplied Builtin.Slice.sliceFields
  refine wpAny_bind (wpAny_bind (wpAny_field hos hds (x := vl) rfl (wpAny_bind (wpAny_field hos hds (x := vu) rfl (wpAny_bind (wpAny_field hos hds (x := vs) rfl (wpAny_pure ?_)))))))
  refine wpAny_bind (slicePart_ ps ?_)
  show wpAny (model prog w) A (if ((-1 : Int) == 0) = true then _ else _) Q E s
  rw [if_neg (by decide)]
  refine wpAny_bind (slicePart_ pl (wpAny_bind (slicePart_ pu (wpAny_bind (wpAny_pure ?_)))))
  show wpAny (model prog w) A (match Builtin.Slice.sliceAdjust none none (-1) (n : Int) with | (lo, hi) => pure (lo, (-1 : Int), Builtin.Slice.slicePlaces lo hi (-1))) Q E s
  have ea : Builtin.Slice.sliceAdjust none none (-1) (n : Int) = ((n : Int) - 1, -1) := by
    simp [Builtin.Slice.sliceAdjust]
  have ep : Builtin.Slice.slicePlaces ((n : Int) - 1) (-1) (-1) = n := by
    simp [Builtin.Slice.slicePlaces]
    split <;> omega
  rw [ea]
  show wpAny (model prog w) A (pure ((n : Int) - 1, (-1 : Int), Builtin.Slice.slicePlaces ((n : Int) - 1) (-1) (-1))) Q E s
  rw [ep]
  exact wpAny_pure h
theorem rev_pick (xs : Array Value) : ((List.range xs.size).filterMap fun (m : Nat) => xs[(((xs.size : Nat) : Int) - 1 + (m : Int) * (-1)).toNat]?).toArray = xs.toList.reverse.toArray := by
  congr 1
  have e : ∀ (l : List Nat), (∀ m ∈ l, m < xs.size) → l.filterMap (fun (m : Nat) => xs[(((xs.size : Nat) : Int) - 1 + (m : Int) * (-1)).toNat]?) = l.map fun m => xs[xs.size - 1 - m]?.getD .none := by
    intro l
    induction l with
    | nil => intro _; rfl
    | cons m r ih =>
      intro h
      have hm := h m List.mem_cons_self
      have e1 : (((xs.size : Nat) : Int) - 1 + (m : Int) * (-1)).toNat = xs.size - 1 - m := by omega
      have e2 : xs[xs.size - 1 - m]? = some xs[xs.size - 1 - m] := Array.getElem?_eq_getElem (by omega)
      rw [List.filterMap_cons, e1, e2, List.map_cons, ih fun z hz => h z (List.mem_cons_of_mem _ hz), e2]
      rfl
  rw [e _ fun m hm => List.mem_range.mp hm]
  apply List.ext_getElem
  · simp
  · intro i h1 h2
    simp at h1 h2 ⊢
    rw [Array.getElem?_eq_getElem (by omega)]
    rfl
theorem rev_getItem {t sl : Addr} {items : Array Value} {vl vu vs : Value} {Q : Value → Shared → Prop} (ht : IsTup s.heap t items) (hs : s.heap.IsSliceOf sl vl vu vs) (pl : IsPart vl none) (pu : IsPart vu none) (ps : IsPart vs (some (-1)))
    (h : Q (.ref s.heap.objs.size) { s with heap := s.heap.push { cls := .type "tuple", data := .seq items.toList.reverse.toArray } }) (hsz : items.size ≤ sizeLine) : wpAny (model prog w) A (getItem (.ref t) (.ref sl)) Q E s := by
  have fits : sizeOk (.seq items.toList.reverse.toArray) := by
    show items.toList.reverse.toArray.size ≤ sizeLine
    rw [List.size_toArray, List.length_reverse, Array.length_toList]
    exact hsz
  obtain ⟨os, hos, hcs, hds⟩ := id hs
  have hT : s.TypeIs (.ref sl) "slice" := ⟨os, hos, hcs⟩
  unfold getItem
  try with_reducible refine wpAny_holding ?_
  first | refine wpAny_bind (wpAny_pure ?_) | skip
  refine wpAny_bind (wpAny_sequenceKey ht.typeIs (by decide) (wpAny_bind (wpAny_callSpecial?_slot (name := Str.ofString "__getitem__") ht.typeIs PyProof.Rows.slot_tuple_getitem
    (wpAny_call_entry PyProof.Rows.slot_tuple_getitem ht.typeIs entry_tuple_getitem ?_ (args_tuple_getitem _ _)))))
  show wpAny _ A.in1 (Builtin.Tuple.tupleItemsOf (.ref t) >>= _) _ E s
  refine wpAny_bind (tupleItemsOf_ ht (wpAny_bind (wpAny_typeOf hT ?_)))
  rw [if_pos (by decide)]
  refine wpAny_bind (rev_sliceApplied hs pl pu ps ?_)
  have no : ¬ ((((items.size : Nat) : Int) - 1 == 0 && (-1 : Int) == 1 && items.size == items.size) = true) := by simp
  show wpAny _ A.in1 (if ((((items.size : Nat) : Int) - 1 == 0 && (-1 : Int) == 1 && items.size == items.size) = true) then _ else _) _ E s
  rw [if_neg no, rev_pick]
  first
    | exact wpAny_bind (m := Builtin.Tuple.tupleExact _) (wpAny_newObj_type (wpAny_pure ⟨_, rfl, wpAny_pure h⟩) fits)
    | exact wpAny_bind (m := Builtin.Tuple.tupleExact _) (wpAny_newObj_type (wpAny_bind (wpAny_pure (wpAny_pure ⟨_, rfl, wpAny_pure h⟩))) fits)
    | exact wpAny_bind (wpAny_bind (m := Builtin.Tuple.tupleExact _) (wpAny_newObj_type (wpAny_pure (wpAny_pure ⟨_, rfl, wpAny_pure h⟩)) fits))
    | exact wpAny_bind (wpAny_bind (m := Builtin.Tuple.tupleExact _) (wpAny_newObj_type (wpAny_pure ⟨_, rfl, wpAny_pure h⟩) fits))
end
end Dl
namespace Dl
open PySem PySem.Spec L2
section
variable {X : Cx} {ρ : En} {τ : Store} {Q : MV → Store → Prop} {a : Expr} {k : Nat} {p1 p2 p3 pos : Pos}
theorem slot_tupGet : PySem.Slot "tuple" "__getitem__" "tuple.__getitem__" := PyProof.Rows.slot_tuple_getitem
theorem de_revT (h : De X ρ τ a fun x τ1 => ∃ ds, x = .val (.tuple ds) ∧ Q (.val (.tuple ds.reverse)) τ1) : De X ρ τ (.Subscript a (.Slice none none (some (.UnaryOp .USub (.Constant (.int 1) k p1) p2)) p3) pos) Q := .mk fun σ H o l QQ p pins s I => by
  refine PyProof.Rows.Subscript_ (thn (h σ H o l (fun v H1 => ∃ a vs, v = .ref a ∧ SqT X.K H1 a vs ∧ ∀ q, H1 q = none → QQ (.ref q) (upd H1 q (.tup vs.reverse))) (fun v H1 x τ1 ⟨ds, ex, q⟩ o1 r1 t1 => ?_) pins s I) fun v s1 ⟨x, H1, I1, r1, q1⟩ => ?_)
  · subst ex
    cases r1 with
    | @tup b vs _ n1 l1 => exact ⟨b, vs, rfl, n1.sq, (p.step t1).tup o1 l1.reverse q⟩
  obtain ⟨b, xs, ex, hx, q⟩ := q1
  subst ex
  cases r1
  have hst : PO X (some (.UnaryOp .USub (.Constant (.int 1) k p1) p2)) (tPart (tUn (rU fun i => .int (-i)) (tC (.int 1)))) := po_some (pe_un un_neg pe_int)
  refine wpAny_Slice (thn (po_none.run pins s1 σ H1 (fun o H2 => o = none ∧ H2 = H1) I1 ⟨rfl, rfl⟩) fun vl s2 ⟨l2, H2, I2, pl, el, e2⟩ => ?_)
  subst el e2
  refine thn (po_none.run pins s2 σ H2 (fun o H3 => o = none ∧ H3 = H2) I2 ⟨rfl, rfl⟩) fun vu s3 ⟨u, H3, I3, pu, eu, e3⟩ => ?_
  subst eu e3
  refine thn (hst.run pins s3 σ H3 (fun o H4 => o = some (-1) ∧ H4 = H3) I3 ⟨1, rfl, -1, rfl, rfl, rfl⟩) fun vs s4 ⟨o4, H4, I4, ps, eo, e4⟩ => ?_
  subst eo e4
  have I5 : Inv X pins σ H4 { s4 with heap := s4.heap.push { cls := .type "slice", data := .fields #[vl, vu, vs] } } := I4.kept (t' := s4.toks) fun _ _ z => Heap.get?_push_of_some _ z
  obtain ⟨its, r, ht, hz⟩ := I5.tuple hx
  have hlen := r.length
  show wpAny (model X.prog X.w) X.A (PyProof.Rows.subscriptTail a (.Slice none none (some (.UnaryOp .USub (.Constant (.int 1) k p1) p2)) p3) (.ref b) (.ref s4.heap.objs.size)) (EP X pins σ QQ) X.xe { s4 with heap := s4.heap.push { cls := .type "slice", data := .fields #[vl, vu, vs] } }
  refine PyProof.Rows.tail_any (ops := [.ref b, .ref s4.heap.objs.size]) ht.typeIs (PyProof.Rows.slot_tuple_getitem.lookup) ?_ (by with_unfolding_all rfl)
  refine rev_getItem ht (Heap.IsSliceOf.new _ vl vu vs) pl pu ps ?_ (by rw [List.size_toArray]; omega)
  refine ⟨.ref _, _, I5.laid (t' := s4.toks) (o := .tup xs.reverse) (fun _ _ z => Heap.get?_push_of_some _ z) (Nat.le_refl _) ?_, rfl, q _ (I5.hok.fresh (Nat.le_refl _))⟩
  exact ⟨by rw [List.length_reverse]; exact hz, _, r.reverse, PyProof.Rows.IsTup.new _ _⟩
end
end Dl

namespace Dl
open PySem PySem.Spec L2
theorem setS_setS {a : Addr} {m m' : MO} : ∀ {τ : Store}, setS a m (setS a m' τ) = setS a m τ
  | [] => rfl
  | (b, x) :: r => by
    by_cases h : b = a
    · simp [setS, h]
    · simp [setS, h, setS_setS (τ := r)]
theorem lookup_setS {a : Addr} {m : MO} : ∀ {τ : Store}, a ∈ dom τ → (setS a m τ).lookup a = some m
  | [], h => by cases h
  | (b, x) :: r, h => by
    by_cases e : b = a
    · subst e
      simp [setS]
    · have h' : a ∈ dom r := by
        rcases List.mem_cons.mp h with h | h
        · exact absurd h.symm e
        · exact h
      have hb : (a == b) = false := beq_eq_false_iff_ne.mpr fun q => e q.symm
      simp [setS, e, List.lookup_cons, hb, lookup_setS h']
theorem dom_of_lookup {τ : Store} {a : Addr} {m : MO} (h : τ.lookup a = some m) : a ∈ dom τ := List.mem_map_of_mem (mem_of_lookup h)
theorem lookup_setS' {τ : Store} {a : Addr} {m m' : MO} (h : τ.lookup a = some m') : (setS a m τ).lookup a = some m := lookup_setS (dom_of_lookup h)
theorem setS_self {a : Addr} {m : MO} : ∀ {τ : Store}, τ.lookup a = some m → setS a m τ = τ
  | [], h => by cases h
  | (b, x) :: r, h => by
    by_cases e : b = a
    · subst e
      simp at h
      simp [setS, h]
    · have hb : (a == b) = false := beq_eq_false_iff_ne.mpr fun q => e q.symm
      rw [List.lookup_cons, hb] at h
      simp [setS, e, setS_self h]
theorem lookup_cons_ne {a b : Addr} {m : MO} {τ : Store} (h : a ≠ b) : ((b, m) :: τ : Store).lookup a = τ.lookup a := by
  rw [List.lookup_cons, show (a == b) = false from beq_eq_false_iff_ne.mpr h]
theorem lookup_push {a b : Addr} {m m' : MO} {τ : Store} (h : τ.lookup a = some m) (hb : b ∉ dom τ) : ((b, m') :: τ : Store).lookup a = some m := by
  rw [lookup_cons_ne fun e => hb (by rw [← e]; exact dom_of_lookup h)]
  exact h
theorem setS_push {a b : Addr} {m m' : MO} {τ : Store} (ha : a ∈ dom τ) (hb : b ∉ dom τ) : setS a m ((b, m') :: τ) = (b, m') :: setS a m τ := by
  have h : ¬ b = a := fun e => hb (by rw [e]; exact ha)
  simp [setS, h]
theorem datOf_hdl {τ : Store} {a : Addr} {ds : List PyData} (h : τ.lookup a = some (.lst ds)) : datOf τ (.hdl a) = some (.list ds) := by
  simp [datOf, h]
theorem ixN_ok {n : Nat} {i : Int} (h0 : 0 ≤ i) (h1 : i < n) : ixN n i = some i.toNat := by
  unfold ixN
  rw [if_pos h0, if_pos h1]
/-- a comprehension without tests, by an invariant over the turn, what is made, the store -/
theorem lcq_inv {X : Cx} {ρ : En} {scope : Scope} {vs : List Nat} {t : Tg} {elt : Expr} {Q : MV → Store → Prop} {ds : List PyData} {S : Store → Prop} {τ1 : Store} (I : Nat → List PyData → Store → Prop) (h0 : I 0 [] τ1) (hl : ds.length ≤ 900000) (hlen : ∀ i acc τ', I i acc τ' → acc.length ≤ i)
    (h : ∀ i d acc τ', ds[i]? = some d → i < ds.length → I i acc τ' → ∀ D, D ∉ dom τ' → ∃ ρ2, bindD (wipeE ρ vs) t d = some ρ2 ∧ ∀ s H C cl fp, De (Blk X s H scope C cl fp) ρ2 ((D, .lst acc) :: τ') elt fun sv τ3 => ∃ y τ4, sv = .val y ∧ τ3 = (D, .lst acc) :: τ4 ∧ I (i + 1) (acc ++ [y]) τ4)
    (hd : ∀ acc τ', I ds.length acc τ' → Q (.val (.list acc)) τ') (hS : ∀ D τ' acc, D ∉ dom τ' → S ((D, .lst acc) :: τ') := by exact fun _ _ _ _ => trivial) : LcQ X ρ scope vs t elt [] Q ds S τ1 := by
  refine ⟨I, h0, ⟨fun i acc τ' D _ hD => hS D τ' acc hD, fun i d acc τ' e hI => ?_⟩, hd⟩
  have hi := (List.getElem?_eq_some_iff.mp e).1
  refine ⟨by have := hlen i acc τ' hI; omega, fun D hD => ?_⟩
  obtain ⟨ρ2, e2, hb⟩ := h i d acc τ' e hi hI D hD
  refine ⟨ρ2, e2, fun k τ2 => k = true ∧ τ2 = (D, .lst acc) :: τ', fun _ _ _ _ _ => df_nil ⟨rfl, rfl⟩, ?_, ?_⟩
  · rintro τ2 ⟨_, rfl⟩
    exact hb
  · rintro τ2 ⟨h, _⟩
    cases h
/-- a statement behind which R holds, then the rest -/
theorem db_seq {X : Cx} {ρ : En} {τ : Store} {st : Stmt} {rest : List Stmt} {D : DE} (R : En → Store → Prop) (h1 : Ds X ρ τ st { D with nx := R }) (h2 : ∀ ρ' τ', R ρ' τ' → Db X ρ' τ' rest D) : Db X ρ τ (st :: rest) D :=
  db_cons (.mk fun σ H o l DD p => h1 σ H o l DD ⟨fun σ' H' ρ' τ' r => p.nx σ' H' ρ' τ' (h2 _ _ r), p.rt, p.bk, p.ct⟩)
/-- a statement that leaves all as it is, where it goes on -/
theorem db_same {X : Cx} {ρ : En} {τ : Store} {st : Stmt} {rest : List Stmt} {D : DE} (h1 : Ds X ρ τ st { D with nx := fun ρ' τ' => ρ' = ρ ∧ τ' = τ }) (h2 : Db X ρ τ rest D) : Db X ρ τ (st :: rest) D :=
  db_seq _ h1 fun _ _ ⟨a, b⟩ => by
    subst a b
    exact h2
section
variable {K : PySem.W.Frag} {τ : Store} {Q : MV → Store → Prop} {neg : Bool}
/-- data that are the same, compared -/
theorem eq_same {n : Nat} {x y : MV} {d e : PyData} (hx : datOf τ x = some d) (hy : datOf τ y = some e) (hd : Pl n d) (h : d = e) (q : Q (.val (.bool (bneg neg true))) τ) (hn : n ≤ 60 := by decide) : EqD K neg x y τ Q := by
  subst h
  exact eq_pl hx hy hd hd (fun b hb => by rw [hb.mpr rfl]; exact q) hn hn
end
end Dl

namespace Dl
open PySem PySem.Spec L2
section
variable {X : Cx} {ρ : En} {τ : Store} {pos p1 p2 p3 spos : Pos} {tg iter elt tg1 iter1 : Expr} {ifs ifs1 : List Expr} {scope : Scope} {own : List (Str × Nat)}
/-- two clauses, nothing changes: one item of the second -/
structure In2 (X : Cx) (ρ3 : En) (τ1 : Store) (scope : Scope) (elt : Expr) (ifs1 : List Expr) (D : Addr) (r : List PyData) : Prop where
  run : ∃ b : Bool, (b = false → r = []) ∧ ∀ acc, (∀ s H C cl fp, Df (Blk X s H scope C cl fp) ρ3 ((D, .lst acc) :: τ1) ifs1 fun k τ2 => k = b ∧ τ2 = (D, .lst acc) :: τ1) ∧
    (b = true → ∃ y, r = [y] ∧ ∀ s H C cl fp, De (Blk X s H scope C cl fp) ρ3 ((D, .lst acc) :: τ1) elt fun sv τ3 => sv = .val y ∧ τ3 = (D, .lst acc) :: τ1)
structure Out2 (X : Cx) (ρ2 : En) (τ1 : Store) (scope : Scope) (vs1 : List Nat) (t1 : Tg) (elt tg1 iter1 : Expr) (ifs ifs1 : List Expr) (D : Addr) (acc : List PyData) (r : List PyData) : Prop where
  run : ∃ b : Bool, (b = false → r = []) ∧ (∀ s H C cl fp, Df (Blk X s H scope C cl fp) ρ2 ((D, .lst acc) :: τ1) ifs fun k τ2 => k = b ∧ τ2 = (D, .lst acc) :: τ1) ∧
    (b = true → ∃ (es : List PyData) (g1 : List (List PyData)), g1.length = es.length ∧ r = g1.flatten ∧ (∀ s H C cl fp, Di (Blk X s H scope C cl fp) tg1 ρ2 ((D, .lst acc) :: τ1) iter1 fun es' S' τ2 => es' = es ∧ τ2 = (D, .lst acc) :: τ1 ∧ ∀ acc', S' ((D, .lst acc') :: τ1)) ∧
      ∀ (j : Nat) (e : PyData) (q : List PyData), es[j]? = some e → g1[j]? = some q → ∃ ρ3, bindD (wipeE ρ2 vs1) t1 e = some ρ3 ∧ In2 X ρ3 τ1 scope elt ifs1 D q)
def Lc2Q (X : Cx) (ρ : En) (scope : Scope) (vs vs1 : List Nat) (t t1 : Tg) (elt tg1 iter1 : Expr) (ifs ifs1 : List Expr) (Q : MV → Store → Prop) : List PyData → (Store → Prop) → Store → Prop := fun ds S τ1 =>
  ∃ g : List (List PyData), g.length = ds.length ∧ (∀ D acc, D ∉ dom τ1 → S ((D, .lst acc) :: τ1)) ∧ g.flatten.length ≤ 1000000 ∧
    (∀ (i : Nat) (d : PyData) (r : List PyData), ds[i]? = some d → g[i]? = some r → ∃ ρ2, bindD (wipeE ρ vs) t d = some ρ2 ∧ ∀ D acc, D ∉ dom τ1 → Out2 X ρ2 τ1 scope vs1 t1 elt tg1 iter1 ifs ifs1 D acc r) ∧ Q (.val (.list g.flatten)) τ1
def tiB (X : Cx) (scope : Scope) (tg1 iter1 : Expr) : TI := fun σ H R => ∀ s H0 C cl fp, Wi (Blk X s H0 scope C cl fp) tg1 iter1 σ H R
theorem flat_take {g : List (List PyData)} {i : Nat} {r : List PyData} (h : g[i]? = some r) : (g.take (i + 1)).flatten = (g.take i).flatten ++ r := by
  rw [List.take_add_one, h, List.flatten_append]
  simp
theorem flat_le {g : List (List PyData)} (i : Nat) : ((g.take i).flatten).length ≤ g.flatten.length := by
  have e : g.flatten = (g.take i).flatten ++ (g.drop i).flatten := by rw [← List.flatten_append, List.take_append_drop]
  rw [e, List.length_append]
  omega
theorem same_get {g : List (List PyData)} {ds : List PyData} (hl : g.length = ds.length) {i : Nat} (h : i < ds.length) : ∃ r, g[i]? = some r := ⟨g[i], List.getElem?_eq_getElem (by omega)⟩
theorem lc2_read {t t1 : Tg} {vs vs1 : List Nat} {Q : MV → Store → Prop} (hu : ∀ j ∈ t.slots, j ∈ vs) (hu1 : ∀ j ∈ t1.slots, j ∈ vs1) (h : Di X tg ρ τ iter (Lc2Q X ρ scope vs vs1 t t1 elt tg1 iter1 ifs ifs1 Q)) {σ : L2.St} {H : Hp} (o : StOk X.K H τ) (l : SlOk X.K (dom τ) H σ ρ) {QQ : VK} (p : Pst X.K τ H Q QQ) :
    tLc2 (Wi X tg iter) (tgR X.K t) (ttB X scope ifs) (tiB X scope tg1 iter1) (tgR X.K t1) (ttB X scope ifs1) (teB X scope elt) vs vs1 σ H QQ := by
  refine h σ H o l _ fun J H1 ds S τ1 ⟨g, hgl, hS, hlen, ht, hd⟩ o1 t1' wk => fun D hD => ?_
  have nD : D ∉ dom τ1 := o1.fresh hD
  have tp : Tr (dom τ1) H1 (dom ((D, MO.lst []) :: τ1)) (upd H1 D (.lst [])) := Tr.push hD
  refine ⟨fun i m H' => m = ds.length - i ∧ i ≤ ds.length ∧ StOk X.K H' ((D, .lst ((g.take i).flatten)) :: τ1) ∧ Tr (dom τ1) H1 (dom ((D, MO.lst ((g.take i).flatten)) :: τ1)) H', ⟨ds.length, rfl, Nat.zero_le _, o1.push hD ⟨[], upd_same, .nil⟩, tp⟩, ?_⟩
  rintro i m H' ⟨rfl, hi, o', t'⟩
  by_cases hlt : i < ds.length
  · refine .inr ⟨wk.go i H' _ hlt t' o' (hS _ _ nD), fun H2 => StOk X.K H2 ((D, .lst ((g.take (i + 1)).flatten)) :: τ1) ∧ Tr (dom τ1) H1 (dom ((D, MO.lst ((g.take (i + 1)).flatten)) :: τ1)) H2, fun H2 q => ⟨ds.length - (i + 1), by omega, rfl, hlt, q⟩, fun x H2 y => ?_⟩
    obtain ⟨d, hd', t2, o2, r2⟩ := wk.yld i H' _ x H2 hlt t' o' (hS _ _ nD) y
    obtain ⟨rr, hrr⟩ := same_get hgl hlt
    obtain ⟨ρ2, e2, hO⟩ := ht i d rr hd' hrr
    obtain ⟨b, hb0, hf, hb1⟩ := (hO D ((g.take i).flatten) nD).run
    have ef := flat_take hrr
    have l2 : SlOk X.K (dom ((D, MO.lst ((g.take i).flatten)) :: τ1)) H2 (wipe σ vs) (wipeE ρ vs) := (((l.tr t1').tr t').tr t2).wipe vs
    refine tgR_ok' hu l2 e2 r2 fun σ3 l3 w3 => ⟨by rw [w3, wipe_wipe σ vs vs fun _ h => h], ?_⟩
    intro s0 H0 C0 cl0 fp0
    refine hf s0 H0 C0 cl0 fp0 σ3 H2 o2 l3 _ fun k H3 τ3 q3 o3 t3 => ?_
    obtain ⟨rfl, rfl⟩ := q3
    cases k with
    | true =>
      refine iteT ?_
      obtain ⟨es, g1, hg1l, eg, hI, hE⟩ := hb1 rfl
      intro s1 H1' C1 cl1 fp1
      refine hI s1 H1' C1 cl1 fp1 σ3 H3 o3 (l3.tr t3) _ fun J1 H4 es' S' τ4 q4 o4 t4 wk1 => ?_
      obtain ⟨rfl, rfl, hS'⟩ := q4
      refine ⟨fun j m H' => m = es'.length - j ∧ j ≤ es'.length ∧ StOk X.K H' ((D, .lst ((g.take i).flatten ++ (g1.take j).flatten)) :: τ1) ∧ Tr (dom ((D, MO.lst ((g.take i).flatten)) :: τ1)) H4 (dom ((D, MO.lst ((g.take i).flatten)) :: τ1)) H', ⟨es'.length, rfl, Nat.zero_le _, by simpa using o4, Tr.refl⟩, ?_⟩
      rintro j m H5 ⟨rfl, hj, o5, t5⟩
      by_cases hjl : j < es'.length
      · refine .inr ⟨wk1.go j H5 ((D, .lst ((g.take i).flatten ++ (g1.take j).flatten)) :: τ1) hjl t5 o5 (hS' _), fun H6 => StOk X.K H6 ((D, .lst ((g.take i).flatten ++ (g1.take (j + 1)).flatten)) :: τ1) ∧ Tr (dom ((D, MO.lst ((g.take i).flatten)) :: τ1)) H4 (dom ((D, MO.lst ((g.take i).flatten)) :: τ1)) H6, fun H6 q => ⟨es'.length - (j + 1), by omega, rfl, hjl, q⟩, fun x1 H6 y1 => ?_⟩
        obtain ⟨e, he', t6, o6, r6⟩ := wk1.yld j H5 ((D, .lst ((g.take i).flatten ++ (g1.take j).flatten)) :: τ1) x1 H6 hjl t5 o5 (hS' _) y1
        obtain ⟨r1, hr1⟩ := same_get hg1l hjl
        obtain ⟨ρ3, e3, hin⟩ := hE j e r1 he' hr1
        obtain ⟨b1, hz0, hz⟩ := hin.run
        have ef1 := flat_take hr1
        obtain ⟨hf1, hy1⟩ := hz ((g.take i).flatten ++ (g1.take j).flatten)
        have l6 : SlOk X.K (dom ((D, MO.lst ((g.take i).flatten ++ (g1.take j).flatten)) :: τ1)) H6 (wipe σ3 vs1) (wipeE ρ2 vs1) := ((((l3.tr t3).tr t4).tr t5).tr t6).wipe vs1
        refine tgR_ok' hu1 l6 e3 r6 fun σ4 l7 w4 => ⟨by rw [w4, wipe_wipe σ3 vs1 vs1 fun _ h => h], ?_⟩
        intro s2 H2' C2 cl2 fp2
        refine hf1 s2 H2' C2 cl2 fp2 σ4 H6 o6 l7 _ fun k H7 τ7 q7 o7 t7 => ?_
        obtain ⟨rfl, rfl⟩ := q7
        cases k with
        | true =>
          refine iteT ?_
          obtain ⟨y, ey, hy⟩ := hy1 rfl
          intro s3 H3' C3 cl3 fp3
          refine hy s3 H3' C3 cl3 fp3 σ4 H7 o7 (l7.tr t7) _ fun v H8 sv τ8 q8 o8 r8 t8 => ?_
          obtain ⟨rfl, rfl⟩ := q8
          obtain ⟨us, h5, h6⟩ := o8.ok (D, .lst _) List.mem_cons_self
          have hl1 : ((g.take i).flatten ++ (g1.take j).flatten).length < 1000000 := by
            have h9 := flat_le (g := g) (i + 1)
            rw [ef, eg, List.length_append] at h9
            have h10 := flat_le (g := g1) (j + 1)
            rw [ef1, ey, List.length_append, List.length_singleton] at h10
            rw [List.length_append]
            omega
          have ow := o8.write (a := D) (o := .lst (us ++ [v])) (mo := .lst (((g.take i).flatten ++ (g1.take j).flatten) ++ [y])) List.mem_cons_self ⟨_, upd_same, (h6.append (.cons r8 .nil)).tr (Tr.write (τ := (D, MO.lst ((g.take i).flatten ++ (g1.take j).flatten)) :: τ1) (a := D) List.mem_cons_self)⟩
          have es1 : setS D (.lst (((g.take i).flatten ++ (g1.take j).flatten) ++ [y])) ((D, MO.lst ((g.take i).flatten ++ (g1.take j).flatten)) :: τ1) = (D, .lst (((g.take i).flatten ++ (g1.take j).flatten) ++ [y])) :: τ1 := if_pos rfl
          rw [es1] at ow
          have tw : Tr (dom ((D, MO.lst ((g.take i).flatten ++ (g1.take j).flatten)) :: τ1)) H8 (dom ((D, MO.lst ((g.take i).flatten ++ (g1.take j).flatten)) :: τ1)) (upd H8 D (.lst (us ++ [v]))) := Tr.write (τ := (D, MO.lst ((g.take i).flatten ++ (g1.take j).flatten)) :: τ1) (a := D) List.mem_cons_self
          refine ⟨us, h5, small_sz' (by rw [h6.length]; exact hl1), ?_, ?_⟩
          · rw [ef1, ey, ← List.append_assoc]
            exact ow
          · exact (((t5.trans t6).trans t7).trans t8).trans tw
        | false =>
          refine iteF ?_
          refine ⟨?_, (t5.trans t6).trans t7⟩
          rw [ef1, hz0 rfl, List.append_nil]
          exact o7
      · have e : j = es'.length := by omega
        subst e
        refine .inl ⟨wk1.stop _ H5 ((D, .lst ((g.take i).flatten ++ (g1.take es'.length).flatten)) :: τ1) (Nat.le_refl _) t5 o5 (hS' _), ?_, (((t'.trans t2).trans t3).trans t4).trans t5⟩
        rw [ef, eg]
        rw [← hg1l, List.take_length] at o5
        exact o5
    | false =>
      refine iteF ?_
      refine ⟨?_, (t'.trans t2).trans t3⟩
      rw [ef, hb0 rfl, List.append_nil]
      exact o3
  · have e : i = ds.length := by omega
    subst e
    refine .inl ⟨wk.stop _ H' _ (Nat.le_refl _) t' o' (hS _ _ nD), ?_⟩
    obtain ⟨us, h5, h6⟩ := o'.ok (D, .lst _) List.mem_cons_self
    rw [← hgl, List.take_length] at h6
    exact p _ H' (.val (.list (g.flatten))) τ1 hd o'.drop (Dn.lst ⟨nD, h5⟩ (h6.tr Tr.drop)) (t1'.trans (t'.trans Tr.drop))
theorem filt_flat {β : Type} {p : β → Bool} {f : β → PyData} : ∀ l : List β, (l.filter p).map f = (l.map fun y => if p y = true then [f y] else []).flatten
  | [] => rfl
  | y :: l => by
    rw [List.map_cons, List.flatten_cons, List.filter_cons, ← filt_flat l]
    by_cases hy : p y = true
    · rw [if_pos hy, if_pos hy, List.map_cons]
      rfl
    · rw [if_neg hy, if_neg hy]
      rfl
/-- the same over items of any type -/
theorem lc2q_of {α β : Type} {t t1 : Tg} {vs vs1 : List Nat} {Q : MV → Store → Prop} {ds : List PyData} (xs : List α) (emb : α → PyData) (he : ds = xs.map emb) (ys : α → List β) (emb1 : β → PyData) (pr : α → β → Bool) (f : α → β → PyData) {S : Store → Prop} {τ1 : Store}
    (hl : (xs.flatMap fun x => ((ys x).filter (pr x)).map (f x)).length ≤ 1000000)
    (h : ∀ x ∈ xs, ∃ ρ2, bindD (wipeE ρ vs) t (emb x) = some ρ2 ∧ ∀ D acc, D ∉ dom τ1 → (∀ s H C cl fp, Df (Blk X s H scope C cl fp) ρ2 ((D, .lst acc) :: τ1) ifs fun k τ2 => k = true ∧ τ2 = (D, .lst acc) :: τ1) ∧
      (∀ s H C cl fp, Di (Blk X s H scope C cl fp) tg1 ρ2 ((D, .lst acc) :: τ1) iter1 fun es' S' τ2 => es' = (ys x).map emb1 ∧ τ2 = (D, .lst acc) :: τ1 ∧ ∀ acc', S' ((D, .lst acc') :: τ1)) ∧
      ∀ y ∈ ys x, ∃ ρ3, bindD (wipeE ρ2 vs1) t1 (emb1 y) = some ρ3 ∧ ∀ acc, (∀ s H C cl fp, Df (Blk X s H scope C cl fp) ρ3 ((D, .lst acc) :: τ1) ifs1 fun k τ2 => k = pr x y ∧ τ2 = (D, .lst acc) :: τ1) ∧
        (pr x y = true → ∀ s H C cl fp, De (Blk X s H scope C cl fp) ρ3 ((D, .lst acc) :: τ1) elt fun sv τ3 => sv = .val (f x y) ∧ τ3 = (D, .lst acc) :: τ1))
    (q : Q (.val (.list (xs.flatMap fun x => ((ys x).filter (pr x)).map (f x)))) τ1) (hS : ∀ D acc, D ∉ dom τ1 → S ((D, .lst acc) :: τ1) := by exact fun _ _ _ => trivial) : Lc2Q X ρ scope vs vs1 t t1 elt tg1 iter1 ifs ifs1 Q ds S τ1 := by
  subst he
  have fl : (xs.map fun x => ((ys x).filter (pr x)).map (f x)).flatten = xs.flatMap fun x => ((ys x).filter (pr x)).map (f x) := by rw [List.flatMap_def]
  refine ⟨xs.map fun x => ((ys x).filter (pr x)).map (f x), by simp, hS, by rw [fl]; exact hl, fun i d r hd hr => ?_, by rw [fl]; exact q⟩
  rw [List.getElem?_map] at hd hr
  cases hx : xs[i]? with
  | none => rw [hx] at hd; cases hd
  | some x =>
    rw [hx] at hd hr
    cases hd
    cases hr
    obtain ⟨ρ2, e2, hh⟩ := h x (List.mem_of_getElem? hx)
    refine ⟨ρ2, e2, fun D acc hD => Out2.mk ⟨true, ⟨fun z => Bool.noConfusion z, (hh D acc hD).1, fun _ => ⟨(ys x).map emb1, (ys x).map fun y => if pr x y = true then [f x y] else [], by simp, ?_, (hh D acc hD).2.1, fun j e q he hq => ?_⟩⟩⟩⟩
    · exact filt_flat (ys x)
    · rw [List.getElem?_map] at he hq
      cases hy : (ys x)[j]? with
      | none => rw [hy] at he; cases he
      | some y =>
        rw [hy] at he hq
        cases he
        cases hq
        obtain ⟨ρ3, e3, h3⟩ := (hh D acc hD).2.2 y (List.mem_of_getElem? hy)
        refine ⟨ρ3, e3, In2.mk ⟨pr x y, ⟨fun z => if_neg (by rw [z]; simp), fun acc' => ⟨(h3 acc').1, fun z => ⟨f x y, if_pos z, (h3 acc').2 z⟩⟩⟩⟩⟩
theorem de_lc2 {t t1 : Tg} {vs1 : List Nat} {Q : MV → Store → Prop} (hc : X.calm = true) (hN : X.N.Nodup) (ok : BlkOk X.N X.env.scope scope own) (hu : ∀ j ∈ t.slots, j ∈ own.map (·.2)) (hu1 : ∀ j ∈ t1.slots, j ∈ vs1) (hv : ∀ i ∈ vs1, i ∈ own.map (·.2))
    (hg : ∀ s H C cl fp, PGx (Blk X s H scope C cl fp) tg t) (hg1 : ∀ s H C cl fp, PGx (Blk X s H scope C cl fp) tg1 t1) (h : Di X tg ρ τ iter (Lc2Q X ρ scope (own.map (·.2)) vs1 t t1 elt tg1 iter1 ifs ifs1 Q)) (hs : ∀ x, foldedSetIterable iter X.env x = pure x := by intro _; rfl) (hs1 : ∀ env x, foldedSetIterable iter1 env x = pure x := by intro _ _; rfl) :
    De X ρ τ (.ListComp elt [⟨tg, iter, ifs, 0⟩, ⟨tg1, iter1, ifs1, 0⟩] scope pos) Q := .mk fun σ H o l QQ p =>
  we_of (pe_lc2 (wi1 := tiB X scope tg1 iter1) (tt := ttB X scope ifs) (tt1 := ttB X scope ifs1) (te := teB X scope elt) (g := tgR X.K t) (g1 := tgR X.K t1) hc hN pi_wi ok hv hg (fun s H C cl fp => ⟨fun pins s' σ' H' Q' I hq => hq s H C cl fp pins s' I⟩) (fun s H C cl fp => ⟨fun pins s' σ' H' Q' I hq => hq s H C cl fp pins s' I⟩) hg1 (fun s H C cl fp => ⟨fun pins s' σ' H' Q' I hq => hq s H C cl fp pins s' I⟩) (fun s H C cl fp => ⟨fun pins s' σ' H' Q' I hq => hq s H C cl fp pins s' I⟩) hs hs1) (lc2_read hu hu1 h o l p)
theorem ds_setLc2 {t t1 : Tg} {vs1 : List Nat} {D : DE} (i : Nat) {y : Str} {py : Pos} (hc : X.calm = true) (hN : X.N.Nodup) (hy : X.N[i]? = some y) (hyl : X.env.scope.names.lookup y = some .local)
    (hsw : swapsWith (.ListComp elt [⟨tg, iter, ifs, 0⟩, ⟨tg1, iter1, ifs1, 0⟩] scope pos) (some (.Name y py)) spos.line X.env = pure true) (ok : BlkOk X.N X.env.scope scope own) (hu : ∀ j ∈ t.slots, j ∈ own.map (·.2)) (hu1 : ∀ j ∈ t1.slots, j ∈ vs1) (hv : ∀ i ∈ vs1, i ∈ own.map (·.2))
    (hg : ∀ s H C cl fp, PGx (Blk X s H scope C cl fp) tg t) (hg1 : ∀ s H C cl fp, PGx (Blk X s H scope C cl fp) tg1 t1) (h : Di X tg ρ τ iter (Lc2Q X ρ scope (own.map (·.2)) vs1 t t1 elt tg1 iter1 ifs ifs1 fun sv τ1 => D.nx (ρ.set i (some sv)) τ1)) (hs : ∀ x, foldedSetIterable iter X.env x = pure x := by intro _; rfl) (hs1 : ∀ env x, foldedSetIterable iter1 env x = pure x := by intro _ _; rfl) :
    Ds X ρ τ (.Assign [.Name y py] (.ListComp elt [⟨tg, iter, ifs, 0⟩, ⟨tg1, iter1, ifs1, 0⟩] scope pos) spos) D := .mk fun σ H o l DD p =>
  ws_of (ps_setLc2 (wi1 := tiB X scope tg1 iter1) (tt := ttB X scope ifs) (tt1 := ttB X scope ifs1) (te := teB X scope elt) (g := tgR X.K t) (g1 := tgR X.K t1) hc hN hy hyl hsw pi_wi ok hv hg (fun s H C cl fp => ⟨fun pins s' σ' H' Q' I hq => hq s H C cl fp pins s' I⟩) (fun s H C cl fp => ⟨fun pins s' σ' H' Q' I hq => hq s H C cl fp pins s' I⟩) hg1 (fun s H C cl fp => ⟨fun pins s' σ' H' Q' I hq => hq s H C cl fp pins s' I⟩) (fun s H C cl fp => ⟨fun pins s' σ' H' Q' I hq => hq s H C cl fp pins s' I⟩) hs hs1)
    (lc2_read hu hu1 h o l (QQ := fun v H1 => gName i v σ H1 DD.nx) fun v H1 sv τ1 q o1 r1 t1 => p.nx _ H1 _ τ1 q o1 ((l.tr t1).set r1 i) t1)
end
end Dl

/-! sorted of tuples of ints -/
namespace Dl
open PySem PySem.Spec L2 PyProof.Rows
def lexL : List Int → List Int → Bool
  | [], [] => false
  | [], _ :: _ => true
  | _ :: _, [] => false
  | x :: xs, y :: ys => if x = y then lexL xs ys else decide (x < y)
theorem lexL_asym : ∀ {x y : List Int}, lexL x y = true → lexL y x = false
  | [], [], h => rfl
  | [], _ :: _, h => rfl
  | _ :: _, [], h => by cases h
  | x :: xs, y :: ys, h => by
    unfold lexL at h ⊢
    by_cases e : x = y
    · rw [if_pos e] at h
      rw [if_pos e.symm]
      exact lexL_asym h
    · rw [if_neg e] at h
      rw [if_neg (fun z => e z.symm)]
      have := of_decide_eq_true h
      exact decide_eq_false (by omega)
theorem lexL_tr : ∀ {x y z : List Int}, lexL y x = false → lexL z y = false → lexL z x = false
  | [], _, [], _, _ => rfl
  | [], _, _ :: _, _, _ => rfl
  | _ :: _, [], _, h, _ => by cases h
  | x :: xs, y :: ys, [], _, h => by cases h
  | x :: xs, y :: ys, z :: zs, h1, h2 => by
    unfold lexL at h1 h2 ⊢
    by_cases e1 : y = x
    · rw [if_pos e1] at h1
      by_cases e2 : z = y
      · rw [if_pos e2] at h2
        rw [if_pos (e2.trans e1)]
        exact lexL_tr h1 h2
      · rw [if_neg e2] at h2
        have := of_decide_eq_false h2
        rw [if_neg (by omega)]
        exact decide_eq_false (by omega)
    · rw [if_neg e1] at h1
      have h1' := of_decide_eq_false h1
      by_cases e2 : z = y
      · rw [if_neg (by omega)]
        exact decide_eq_false (by omega)
      · rw [if_neg e2] at h2
        have := of_decide_eq_false h2
        rw [if_neg (by omega)]
        exact decide_eq_false (by omega)
/-- v is a tuple of these ints -/
def IsTI (h : Heap) (v : Value) (ks : List Int) : Prop := ∃ a o its n, v = .ref a ∧ h.get? a = some o ∧ o.cls = .type "tuple" ∧ o.data = .seq its n ∧ Paired (fun u i => ∃ t, u = Value.int i t) its.toList ks
theorem IsTI.keeps {h h' : Heap} {v : Value} {ks : List Int} (p : IsTI h v ks) (k : ∀ b o, h.get? b = some o → o.cls = .type "tuple" → h'.get? b = some o) : IsTI h' v ks := by
  obtain ⟨a, o, its, n, e, ho, hc, r⟩ := p
  exact ⟨a, o, its, n, e, k _ _ ho hc, hc, r⟩
theorem firsts_ti {h : Heap} : ∀ {vs : List Value}, (∀ v ∈ vs, ∃ ks, ks ≠ [] ∧ IsTI h v ks) → ∃ fs : List Value, PySem.W.KatTups h vs fs ∧ fs.length = vs.length ∧ ∀ f ∈ fs, ∃ x t, f = Value.int x t
  | [], _ => ⟨[], PySem.W.KatTups.nil, rfl, fun _ hm => by simp at hm⟩
  | v :: vs, hp => by
    obtain ⟨fs, h1, h2, h3⟩ := firsts_ti (vs := vs) fun v' hm => hp v' (List.mem_cons_of_mem _ hm)
    obtain ⟨ks, hk, a, o, its, n, e, ho, hc, hd, hr⟩ := hp v (List.mem_cons_self ..)
    subst e
    cases ks with
    | nil => exact absurd rfl hk
    | cons x ks =>
      obtain ⟨il⟩ := its
      cases hr with
      | cons r1 rr =>
        obtain ⟨t, rfl⟩ := r1
        refine ⟨.int x t :: fs, PySem.W.KatTups.cons ho hc hd rfl h1, by rw [List.length_cons, List.length_cons, h2], fun f hm => ?_⟩
        rcases List.mem_cons.mp hm with rfl | hm
        · exact ⟨x, t, rfl⟩
        · exact h3 f hm
section
variable {prog : Program} {w : World} {A : Around} {E : Value → Shared → Prop} {s : Shared}
theorem oneLt_both (c : Bool) {p q : Int} {t u : Tok} {Q : Bool → Shared → Prop} (h : Q (decide (p < q)) s) : wpAny (model prog w) A (oneLt' c (.int p t) (.int q u)) Q (fun _ _ => False) s := by
  cases c with
  | true => exact oneLt_int h
  | false => exact PySem.W.kat_one _ _ (PyProof.Rows.lt_int (Q := PySem.W.BoolBack Q) h)
theorem lex_go {Q : Bool → Shared → Prop} : ∀ {us vs : List Value} {ks js : List Int} (i : Nat), Paired (fun u i => ∃ t, u = Value.int i t) us ks → Paired (fun u i => ∃ t, u = Value.int i t) vs js → Q (lexL ks js) s →
    PySem.W.KatLex prog w A true (decide (ks.length < js.length)) Q (us.zip vs) i s
  | _, _, _, _, i, .nil, .nil, q => PySem.W.kat_nil q
  | _, _, _, _, i, .nil, .cons _ _, q => PySem.W.kat_nil (by rw [decide_eq_true (by simp)]; exact q)
  | _, _, _, _, i, .cons _ _, .nil, q => PySem.W.kat_nil q
  | _, _, x :: ks, y :: js, i, .cons ⟨t, e⟩ r, .cons ⟨u, e'⟩ r', q => by
    subst e e'
    refine PySem.W.kat_cons (SeqAt.EqAt.int_int x t y u prog w _ _ ?_)
    refine PySem.W.kat_go (fun e1 => ?_) (fun e1 => ?_)
    · have ex : x = y := by simpa using e1
      refine PySem.W.kat_yes ?_
      have e3 : decide ((x :: ks).length < (y :: js).length) = decide (ks.length < js.length) := by
        simp only [List.length_cons, Nat.add_lt_add_iff_right]
      rw [e3]
      refine lex_go (i + 1) r r' ?_
      unfold lexL at q
      rw [if_pos ex] at q
      exact q
    · have ex : ¬ x = y := by simpa using e1
      unfold lexL at q
      rw [if_neg ex] at q
      exact PySem.W.kat_no (oneLt_both _ q)
theorem ti_cmp {vs : List Value} {k : Value → List Int} (hp : ∀ v ∈ vs, IsTI s.heap v (k v)) : SrtO.Cmp prog w A s (tuples' true) (fun p => p.1 ∈ vs) (SrtO.lt2 fun v u => lexL (k v) (k u)) := by
  intro p q hm hm'
  obtain ⟨a, o, its, n, e, ho, hc, hd, hr⟩ := hp _ hm
  obtain ⟨a', o', its', n', e', ho', hc', hd', hr'⟩ := hp _ hm'
  show wpAny (model prog w) A (keyLt' (tuples' true) p.1 q.1) (fun r s' => s' = s ∧ r = lexL (k p.1) (k q.1)) (fun _ _ => False) s
  rw [e, e'] at *
  refine PySem.W.kat_lt ho hd ho' hd' ?_
  have e1 : decide (its.size < its'.size) = decide ((k (.ref a)).length < (k (.ref a')).length) := by
    rw [← Array.length_toList, ← Array.length_toList, Paired.length hr, Paired.length hr']
  rw [e1]
  exact lex_go 0 hr hr' ⟨rfl, rfl⟩
theorem ti_sortableO {a : Addr} {vs : List Value} {k : Value → List Int} (h0 : 0 < vs.length) (hp : ∀ v ∈ vs, k v ≠ [] ∧ IsTI s.heap v (k v)) (ha : ∀ o, s.heap.get? a = some o → o.cls ≠ .type "tuple") : SrtO.SortableO prog w A s a vs fun v u => lexL (k v) (k u) := by
  intro h' keep
  have hp' : ∀ v ∈ vs, IsTI h' v (k v) := fun v hm => (hp v hm).2.keeps fun b o e c => keep b o (fun z => by subst z; exact ha o e c) e
  obtain ⟨fs, h1, h2, h3⟩ := firsts_ti fun v hm => ⟨_, (hp v hm).1, hp' v hm⟩
  refine ⟨tuples' true, fun Q E hq => ?_, ti_cmp hp'⟩
  refine PySem.W.kat_kind (T := .type "int") h1 (by omega) (fun f hm => ?_) (by rfl) ?_
  · obtain ⟨x, t, rfl⟩ := h3 f hm
    exact PySem.W.Looks.now
  · have e : (Value.type "int" != Value.type "tuple") = true := by first | decide +kernel | rfl | decide
    rw [e]
    exact hq
theorem sorted_ti {l : Addr} {vs : List Value} {k : Value → List Int} {Q : Value → Shared → Prop} (hl : s.heap.IsList l vs.toArray) (hz : vs.length ≤ sizeLine) (hp : ∀ v ∈ vs, k v ≠ [] ∧ IsTI s.heap v (k v))
    (h : ∀ (h' : Heap) (d : Addr) (out : List Value), SrtO.Srtd (fun v u => lexL (k v) (k u)) out → SrtO.Stb (fun v u => lexL (k v) (k u)) out vs → (∀ b o, s.heap.get? b = some o → h'.get? b = some o) → s.heap.objs.size ≤ d → (∃ n, h'.get? d = some (seqObj "list" out.toArray n)) → Q (.ref d) { s with heap := h' }) :
    wpAny (model prog w) A (call (.builtin "sorted") [.ref l]) Q E s := by
  refine SrtO.sorted_ord (ltv := fun v u => lexL (k v) (k u)) ⟨fun _ _ => lexL_asym, fun _ _ _ => lexL_tr⟩ hl hz (fun h2 h₁ a ha kk => ?_) fun out hs hb => ?_
  · refine ti_sortableO (s := { s with heap := h₁ }) (by omega) (fun v hm => ⟨(hp v hm).1, (hp v hm).2.keeps fun b o e _ => (kk b o e).2⟩) fun o e => ?_
    have e' : some o = some (seqObj "list" vs.toArray 0) := e.symm.trans ha
    cases e'
    intro c
    exact absurd (Value.type.inj c) (by decide)
  · exact h _ _ out hs hb (fun b o e => sortedAll_old e) (Nat.le_succ _) (sortedAll_at s.heap vs out.toArray)
end
abbrev ltT (k : V → List Int) (x y : V) : Bool := lexL (k x) (k y)
theorem ltT_swo (k : V → List Int) : SrtO.Swo (ltT k) := ⟨fun _ _ => lexL_asym, fun _ _ _ => lexL_tr⟩
def rSortedT (K : PySem.W.Frag) : List V → Hp → VK → Prop := fun vs H Q => ∃ (a : Addr) (xs : List V) (k : V → List Int), vs = [V.ref a] ∧ SqL K H a xs ∧ (∀ x ∈ xs, ∃ t, x = V.ref t ∧ k x ≠ [] ∧ H t = some (.tup ((k x).map V.int))) ∧
  ∀ ys p, SrtO.Srtd (ltT k) ys → SrtO.Stb (ltT k) ys xs → H p = none → Q (.ref p) (upd H p (.lst ys))
theorem vals_ti : ∀ {ks : List Int} {us : List Value}, Vals (ks.map V.int) us → Paired (fun u i => ∃ t, u = Value.int i t) us ks
  | [], _, .nil => .nil
  | x :: ks, _, .cons r rr => by
    obtain ⟨t, rfl⟩ := r
    exact .cons ⟨t, rfl⟩ (vals_ti rr)
section
variable {X : Cx}
theorem cr_sortedT : CallR X (.builtin "sorted") (rSortedT X.K) := by
  intro pins s σ H vs us Q I r h
  obtain ⟨a, xs, k, rfl, hs, hx, q⟩ := h
  obtain ⟨its, rv, hl, hz⟩ := I.list hs
  obtain ⟨u, rfl, ru⟩ := vals1 r
  obtain rfl : u = Value.ref a := ru
  obtain ⟨e1, e2⟩ := refs_back rv fun x m => by
    obtain ⟨t, e, _⟩ := hx x m
    exact ⟨t, e⟩
  refine sorted_ti (k := fun u => k (backV u)) hl.isList (by rw [← rv.length]; exact hz) (fun v hv => ?_) fun h' d out h1 h2 kp hd hn => ?_
  · obtain ⟨t, rfl⟩ := e2 v hv
    have hm : V.ref t ∈ xs := by rw [e1]; exact List.mem_map.mpr ⟨_, hv, rfl⟩
    obtain ⟨t', e, hk, ht⟩ := hx _ hm
    cases e
    obtain ⟨_, its2, r2, o, ho, hc, n, hd⟩ := I.hok _ _ ht
    exact ⟨hk, t, o, its2.toArray, n, rfl, ho, hc, hd, vals_ti r2⟩
  · have h3 : ∀ u ∈ out, ∃ a, u = Value.ref a := fun u hu => e2 u (h2.perm.mem_iff.mp hu)
    obtain ⟨n, hn⟩ := hn
    have hb : SrtO.Stb (ltT k) (out.map backV) xs := by
      rw [e1]
      exact SrtO.Stb.map (ltT_swo k) backV h2
    refine ⟨.ref d, upd H d (.lst (out.map backV)), I.laid (t' := s.toks) kp hd ⟨?_, out, n, vals_back h3, hn⟩, rfl, q _ d (SrtO.srtd_map h1) hb (I.hok.fresh hd)⟩
    rw [hb.len]
    exact hz
end
/-- what a value of the heap is as ints -/
def kOf (H : Hp) : V → List Int
  | .ref t => match H t with
    | some (.tup us) => us.filterMap fun u => match u with
      | .int i => some i
      | _ => none
    | _ => []
  | _ => []
theorem dnl_ints {K : PySem.W.Frag} {N : List Addr} {H : Hp} : ∀ {ks : List Int} {us : List V}, DnL K N H us (ks.map .int) → us = ks.map V.int
  | [], _, .nil => rfl
  | x :: ks, _, .cons r rr => by
    cases r
    rw [dnl_ints rr]
    rfl
theorem kOf_int : ∀ (ks : List Int), (ks.map V.int).filterMap (fun u => match u with | .int i => some i | _ => none) = ks
  | [] => rfl
  | x :: ks => by
    rw [List.map_cons, List.filterMap_cons]
    exact congrArg (x :: ·) (kOf_int ks)
theorem kOf_tup {K : PySem.W.Frag} {N : List Addr} {H : Hp} {v : V} {ks : List Int} (h : Dn K N H v (.tuple (ks.map .int))) : ∃ t, v = .ref t ∧ kOf H v = ks ∧ H t = some (.tup (ks.map V.int)) := by
  cases h with
  | @tup a us _ n l =>
    have e := dnl_ints l
    subst e
    refine ⟨a, rfl, ?_, n.2⟩
    show (match H a with | some (HO.tup us) => us.filterMap (fun u => match u with | V.int i => some i | _ => none) | _ => []) = ks
    rw [n.2]
    exact kOf_int ks
theorem dnl_keys {K : PySem.W.Frag} {N : List Addr} {H : Hp} : ∀ {rows : List (List Int)} {us : List V}, DnL K N H us (rows.map fun r => .tuple (r.map .int)) → us.map (kOf H) = rows ∧ ∀ u ∈ us, ∃ t, u = V.ref t ∧ H t = some (.tup ((kOf H u).map V.int)) ∧ kOf H u ∈ rows
  | [], _, .nil => ⟨rfl, fun _ h => by cases h⟩
  | r :: rows, _, .cons h hs => by
    obtain ⟨t, rfl, e, ht⟩ := kOf_tup h
    obtain ⟨e1, e2⟩ := dnl_keys hs
    refine ⟨by rw [List.map_cons, e, e1], fun u hu => ?_⟩
    rcases List.mem_cons.mp hu with rfl | hu
    · exact ⟨t, rfl, by rw [e]; exact ht, by rw [e]; exact List.mem_cons_self⟩
    · obtain ⟨t', a, b, c⟩ := e2 u hu
      exact ⟨t', a, b, List.mem_cons_of_mem _ c⟩
section
variable {X : Cx} {ρ : En} {τ : Store} {Q : MV → Store → Prop} {pos p1 : Pos} {a : Expr}
/-- sorted(rows), rows ascending: the same rows -/
theorem de_sortedT (B : Bl X.mg) (hg : Gl X "sorted") (h : De X ρ τ a fun x τ1 => ∃ rows : List (List Int), datOf τ1 x = some (.list (rows.map fun r => .tuple (r.map .int))) ∧ (∀ r ∈ rows, r ≠ []) ∧ rows.Pairwise (fun r q => lexL q r = false) ∧ Q (.val (.list (rows.map fun r => .tuple (r.map .int)))) τ1)
    (hs : starEach [a] X.env = (false, eval a X.env) :: starEach [] X.env := by rfl) : De X ρ τ (.Call (.Name "sorted" p1) [a] [] pos) Q :=
  de_callB cr_sortedT hg B.h_sorted (by decide +kernel) (da_one (h.mono fun x τ1 ⟨rows, e, hne, hp, q⟩ => .mk fun H vs o r QQ p => by
    obtain ⟨v, rfl, r1⟩ := paired1 r
    obtain ⟨l, xs, rfl, hq, dl⟩ := r1.seqL o e
    obtain ⟨e1, e2⟩ := dnl_keys dl
    refine ⟨l, xs, kOf H, rfl, hq, fun x hx => ?_, fun ys p' h1 h2 hn => ?_⟩
    · obtain ⟨t, a1, a2, a3⟩ := e2 x hx
      exact ⟨t, a1, hne _ a3, a2⟩
    · have hx : SrtO.Srtd (ltT (kOf H)) xs := by
        rw [← e1] at hp
        exact List.pairwise_map.mp hp
      have ey : ys = xs := SrtO.stb_uniq (ltT_swo _) h1 hx h2
      subst ey
      exact p.lst o dl q p' hn) hs) hs rfl
end
end Dl

/-! data with bools, against the empty ones -/
namespace Dl
open PySem PySem.Spec L2
def Pb : Nat → PyData → Prop
  | _, .none => True
  | _, .int _ => True
  | _, .bool _ => True
  | _, .str x => PyData.strOk x = true
  | 0, .list xs => xs = []
  | n + 1, .list xs => ∀ x ∈ xs, Pb n x
  | 0, .tuple xs => xs = []
  | n + 1, .tuple xs => ∀ x ∈ xs, Pb n x
  | _, .dict _ => False
theorem Pb.lay : ∀ {n : Nat} {d : PyData}, Pb n d → d.canLay0 = true
  | _, .none, _ => rfl
  | _, .int _, _ => rfl
  | _, .bool _, _ => rfl
  | n, .str x, h => by
    cases n <;> exact h
  | 0, .list xs, h => by
    have h : xs = [] := h
    subst h
    rfl
  | n + 1, .list xs, h => by
    have h : ∀ x ∈ xs, Pb n x := h
    show PyData.canLayAll0 xs = true
    exact canLayAll0_of fun x hx => (h x hx).lay
  | 0, .tuple xs, h => by
    have h : xs = [] := h
    subst h
    rfl
  | n + 1, .tuple xs, h => by
    have h : ∀ x ∈ xs, Pb n x := h
    show PyData.canLayAll0 xs = true
    exact canLayAll0_of fun x hx => (h x hx).lay
  | n, .dict _, h => by cases n <;> exact h.elim
theorem Pb.dep : ∀ {n : Nat} {d : PyData}, Pb n d → d.depth ≤ n + 1
  | _, .none, _ => Nat.zero_le _
  | _, .int _, _ => Nat.zero_le _
  | _, .bool _, _ => Nat.zero_le _
  | n, .str x, h => Nat.zero_le _
  | 0, .list xs, h => by
    have h : xs = [] := h
    subst h
    exact Nat.le_refl _
  | n + 1, .list xs, h => by
    have h : ∀ x ∈ xs, Pb n x := h
    show PyData.depthAll xs + 1 ≤ n + 1 + 1
    have := depthAll_of (n := n + 1) fun x hx => (h x hx).dep
    omega
  | 0, .tuple xs, h => by
    have h : xs = [] := h
    subst h
    exact Nat.le_refl _
  | n + 1, .tuple xs, h => by
    have h : ∀ x ∈ xs, Pb n x := h
    show PyData.depthAll xs + 1 ≤ n + 1 + 1
    have := depthAll_of (n := n + 1) fun x hx => (h x hx).dep
    omega
  | n, .dict _, h => by cases n <;> exact h.elim
theorem Pb.shaped {n : Nat} {d : PyData} (h : Pb n d) (hn : n ≤ 60 := by decide) : SeqAt.shaped d = true := by
  unfold SeqAt.shaped
  rw [h.lay, Bool.true_and]
  have := h.dep
  exact decide_eq_true (by omega)
section
variable {K : PySem.W.Frag} {τ : Store} {Q : MV → Store → Prop} {neg : Bool}
theorem eq_nilL {n : Nat} {x y : MV} {ds : List PyData} (hx : datOf τ x = some (.list ds)) (hy : datOf τ y = some (.list [])) (hd : Pb n (.list ds)) (q : Q (.val (.bool (bneg neg ds.isEmpty))) τ) (hn : n ≤ 60 := by decide) : EqD K neg x y τ Q :=
  eq_dat hx hy (hd.shaped hn) rfl (by
    have e : PyData.eqv (.list ds) (.list []) = ds.isEmpty := by cases ds <;> simp [PyData.eqv, PyData.eqvAll]
    rw [e]
    exact q)
theorem eq_nilT {n : Nat} {x y : MV} {ds : List PyData} (hx : datOf τ x = some (.tuple ds)) (hy : datOf τ y = some (.tuple [])) (hd : Pb n (.tuple ds)) (q : Q (.val (.bool (bneg neg ds.isEmpty))) τ) (hn : n ≤ 60 := by decide) : EqD K neg x y τ Q :=
  eq_dat hx hy (hd.shaped hn) rfl (by
    have e : PyData.eqv (.tuple ds) (.tuple []) = ds.isEmpty := by cases ds <;> simp [PyData.eqv, PyData.eqvAll]
    rw [e]
    exact q)
end
theorem dnl_intmap {K : PySem.W.Frag} {N : List Addr} {H : Hp} : ∀ ns : List Int, DnL K N H (ns.map V.int) (ns.map .int)
  | [] => .nil
  | n :: ns => .cons (Dn.int n) (dnl_intmap ns)
section
variable {X : Cx} {ρ : En} {τ : Store} {Q : MV → Store → Prop} {pos p1 p2 p3 : Pos} {a : Expr} {kk : Nat}
theorem de_listRg (B : Bl X.mg) (hc : X.calm = true) (hg : Gl X "list") (hg2 : Gl X "range") (h : De X ρ τ a fun x τ1 => ∃ n, x = .val (.int n) ∧ n ≤ 1000000 ∧ -1000000 ≤ n ∧ Q (.val (.list (rangeD 0 n.toNat))) τ1)
    (na : starEach [a] X.env = (false, eval a X.env) :: starEach [] X.env := by rfl) (nb : starEach [.Call (.Name "range" p2) [a] [] p3] X.env = (false, eval (.Call (.Name "range" p2) [a] [] p3) X.env) :: starEach [] X.env := by rfl) :
    De X ρ τ (.Call (.Name "list" p1) [.Call (.Name "range" p2) [a] [] p3] [] pos) Q := .mk fun σ H o l QQ p =>
  we_of (pe_listRg hc hg B.h_list (prg_1 hg2 B.h_range pe_we na) nb) (h σ H o l _ fun v H1 x τ1 ⟨n, ex, h1, h2, q⟩ o1 r1 t1 => by
    subst ex
    cases r1
    refine ⟨n, rfl, ⟨by omega, by omega, by omega, by omega, by omega⟩, ?_⟩
    have e : rgV 0 n = ((List.range n.toNat).map fun i => (0 + (i : Nat) : Int)).map V.int := by
      unfold rgV
      rw [List.map_map, Int.sub_zero]
      rfl
    have e2 : rangeD 0 n.toNat = ((List.range n.toNat).map fun i => (0 + (i : Nat) : Int)).map .int := by
      unfold rangeD
      rw [List.map_map]
      rfl
    rw [e]
    rw [e2] at q
    exact (p.step t1).lst o1 (dnl_intmap _) q)
theorem de_sortedI (B : Bl X.mg) (hg : Gl X "sorted") (h : De X ρ τ a fun x τ1 => ∃ ns : List Int, datOf τ1 x = some (.list (ns.map .int)) ∧ ∀ ms : List Int, ms.Perm ns → ms.Pairwise (· ≤ ·) → Q (.val (.list (ms.map .int))) τ1)
    (hs : starEach [a] X.env = (false, eval a X.env) :: starEach [] X.env := by rfl) : De X ρ τ (.Call (.Name "sorted" p1) [a] [] pos) Q :=
  de_callB cr_sortedI hg B.h_sorted (by decide +kernel) (da_one (h.mono fun x τ1 ⟨ns, e, q⟩ => .mk fun H vs o r QQ p => by
    obtain ⟨v, rfl, r1⟩ := paired1 r
    obtain ⟨l, rfl, hq⟩ := r1.intsL o e
    refine ⟨l, ns, rfl, hq, fun ms p' h1 h2 hn => ?_⟩
    exact p.lst o (dnl_intmap ms) (q ms h1 h2) p' hn) hs) hs rfl
theorem pgx_tup4 {i j k m : Nat} {e1 e2 e3 e4 : Expr} (hc : X.calm = true) (h1 : PG X e1 (gName i)) (h2 : PG X e2 (gName j)) (h3 : PG X e3 (gName k)) (h4 : PG X e4 (gName m))
    (hs : (assignEach [e1, e2, e3, e4] X.env).map (·.2) = assign e1 X.env :: (assignEach [e2, e3, e4] X.env).map (·.2) := by rfl) (hs2 : (assignEach [e2, e3, e4] X.env).map (·.2) = assign e2 X.env :: (assignEach [e3, e4] X.env).map (·.2) := by rfl)
    (hs3 : (assignEach [e3, e4] X.env).map (·.2) = assign e3 X.env :: (assignEach [e4] X.env).map (·.2) := by rfl) (hs4 : (assignEach [e4] X.env).map (·.2) = assign e4 X.env :: (assignEach [] X.env).map (·.2) := by rfl)
    (hn : (assignEach [e1, e2, e3, e4] X.env).length = 4 := by rfl) (hst : (assignEach [e1, e2, e3, e4] X.env).findIdx? (·.1) = none := by rfl) : PGx X (.Tuple [e1, e2, e3, e4] kk pos) (.tup [i, j, k, m]) :=
  PG.weak (pg_tup hc (pgs_cons h1 (pgs_cons h2 (pgs_cons h3 (pgs_cons h4 pgs_nil hs4) hs3) hs2) hs) hn hst) fun v σ H Q ⟨a, xs, e, h, hl, q⟩ => by
    match xs, hl with
    | [x, y, z, w], _ => exact ⟨a, [x, y, z, w], e, h, rfl, x, [y, z, w], rfl, y, [z, w], rfl, z, [w], rfl, w, [], rfl, rfl, q⟩
end
theorem _root_.L2.Room.units65 {k : Nat} {A : Around} (r : Room k A) : A.units + 65 < cLine := by have := r.un; omega
theorem ds_cut {X : Cx} {ρ : En} {τ : Store} {st : Stmt} {D : DE} (R : En → Store → Prop) (h1 : Ds X ρ τ st { D with nx := R }) (h2 : ∀ ρ' τ', R ρ' τ' → D.nx ρ' τ') : Ds X ρ τ st D := .mk fun σ H o l DD p =>
  h1 σ H o l DD ⟨fun σ1 H1 ρ1 τ1 r o1 l1 t1 => p.nx σ1 H1 ρ1 τ1 (h2 _ _ r) o1 l1 t1, p.rt, p.bk, p.ct⟩
theorem cutD_take {ds : List PyData} {j : Nat} (h : j ≤ ds.length) : cutD ds none (some (j : Int)) = ds.take j := by
  unfold cutD
  rw [HT.sIx_none, HT.sIx_nat, List.drop_zero, Nat.sub_zero, Nat.min_eq_left h]
theorem cutD_drop {ds : List PyData} {j : Nat} (h : j ≤ ds.length) : cutD ds (some (j : Int)) none = ds.drop j := by
  unfold cutD
  rw [HT.sIx_none, HT.sIx_nat, Nat.min_eq_left h]
  exact List.take_of_length_le (by rw [List.length_drop]; exact Nat.le_refl _)
end Dl

/-! enumerate of a tuple -/
namespace Dl
open PySem PySem.Spec L2 PyProof.Rows
open AutoSeq1 (wpAny_loadPart')
theorem meets_enumT (l : Addr) (items : Array Value) (n : Nat) (dct : Option Addr) (sl : Array (Option Value)) :
    Meets (Builtin.«enumerate.__new__» ⟨[.type "enumerate", .ref l], []⟩) (fun _ R s => s.heap.get? l = some { cls := .type "tuple", dict := dct, data := .seq items n, slots := sl } ∧
      R (.ok (.ret (.ref (s.heap.push { cls := .type "tuple_iterator", data := .fields #[.ref l, .int 0 0] }).objs.size)))
        { s with heap := (s.heap.push { cls := .type "tuple_iterator", data := .fields #[.ref l, .int 0 0] }).push { cls := .type "enumerate", data := .fields #[.none, .bool false, .ref s.heap.objs.size, rawInt 0, .none, .none] } }) :=
  .of_wp fun prog w A R s h => by
    obtain ⟨hp, g, d, tk, os⟩ := s; obtain ⟨hl, h⟩ := h
    have hsub := sub_enumerate
    have hL : Heap.IsTuple (Shared.heap ⟨hp, g, d, tk, os⟩) l items := ⟨_, hl, rfl, n, rfl⟩
    wp_walk using wpAny_loadPart' hl
    refine wpAny_stack_any fun st => wpAny_pure ?_
    split
    · rename_i c _ _ _ _ _
      cases (c == Value.type "enumerate")
      · wp_walk using wpAny_loadPart' hl, wpAny_pyIter_tuple hL
        exact ⟨_, rfl, h⟩
      · wp_walk using wpAny_loadPart' hl, wpAny_pyIter_tuple hL
        exact ⟨_, rfl, h⟩
    · wp_walk using wpAny_loadPart' hl, wpAny_pyIter_tuple hL
      exact ⟨_, rfl, h⟩
section
variable {prog : Program} {w : World} {A : Around} {E : Value → Shared → Prop} {s : Shared}
theorem call_enumT {l : Addr} {items : Array Value} {Q : Value → Shared → Prop} (hL : s.heap.IsTuple l items)
    (h : ∀ h', IsEnum h' (s.heap.objs.size + 1) s.heap.objs.size 0 .none → h'.IsTupleIter s.heap.objs.size l 0 → h'.objs.size = s.heap.objs.size + 2 →
      (∀ b o, s.heap.get? b = some o → h'.get? b = some o) → Q (.ref (s.heap.objs.size + 1)) { s with heap := h' }) :
    wpAny (model prog w) A (call (.type "enumerate") [.ref l]) Q E s := by
  obtain ⟨⟨c, dct, dt, sl⟩, hl, hc, n, hd⟩ := hL
  replace hc : c = .type "tuple" := hc
  replace hd : dt = .seq items n := hd
  subst hc hd
  refine callType_new F.called_enumerate (by decide) (F.typeCall_enumerate_1 _) (F.newCall_enumerate_1 _) (fun obj => F.args_object_init_2 obj _) F.entry_enumerate_new
    (meets_enumT l items n dct sl) ⟨hl, ?_⟩
  have hz : (s.heap.push { cls := .type "tuple_iterator", data := .fields #[.ref l, .int 0 0] }).objs.size = s.heap.objs.size + 1 := Heap.size_push ..
  show _ ∧ _
  rw [hz]
  have he : IsEnum ((s.heap.push { cls := .type "tuple_iterator", data := .fields #[.ref l, .int 0 0] }).push
      { cls := .type "enumerate", data := .fields #[.none, .bool false, .ref s.heap.objs.size, rawInt 0, .none, .none] }) (s.heap.objs.size + 1) s.heap.objs.size 0 .none := by
    have := Heap.get?_push_size (s.heap.push { cls := .type "tuple_iterator", data := .fields #[.ref l, .int 0 0] })
      (o := { cls := .type "enumerate", data := .fields #[.none, .bool false, .ref s.heap.objs.size, rawInt 0, .none, .none] }) rfl
    rw [hz] at this; exact this
  refine ⟨⟨_, he, rfl⟩, h _ he ⟨_, Heap.get?_push_of_some _ (Heap.get?_push_size _ rfl), rfl, rfl⟩ (by rw [Heap.size_push, hz]) fun b o x => Heap.get?_push_of_some _ (Heap.get?_push_of_some _ x)⟩
theorem enumT_end {e it l : Addr} {i : Int} {j : Nat} {items : Array Value} {old : Value} {Q : Option Value → Shared → Prop} (hh : A.handled = none) (hE : IsEnum s.heap e it i old) (hI : s.heap.IsTupleIter it l j) (hT : s.heap.IsTuple l items) (hx : items[j]? = none)
    (hQ : ∀ h', Heap.ExtBut it s.heap h' → Q none { s with heap := h' }) : wpAny (model prog w) A (pyNext (.ref e)) Q E s := by
  have ty : s.TypeIs (.ref e) "enumerate" := ⟨_, hE, rfl⟩
  unfold pyNext
  refine wpAny_bind (wpAny_attempt (wpAny_callSpecial?_slot (name := Str.ofString "__next__") ty F.slot_enumerate_next (wpAny_call_entry F.slot_enumerate_next ty F.entry_enumerate_next ?_ (F.args_enumerate_next_1 _))))
  show wpAny _ _ (field (.ref e) 2 >>= _) _ _ s
  refine wpAny_bind (wpAny_field hE rfl (x := .ref it) rfl ?_)
  refine wpAny_bind (wpAny_nextOf_tuple_end hh hI hT hx fun h1 x eb ⟨o, ho, hc⟩ => ?_)
  exact wpAny_bind (wpAny_isInstance (T := "StopIteration") (b := true) ⟨o, ho, hc⟩ isSubtype_stop (wpAny_pure (hQ _ eb)))
end
end Dl
namespace L2
open PySem PySem.Spec PyProof.Rows
/-- the tuple at a, each item in a new pair -/
def ItenT (K : PySem.W.Frag) (a : Addr) : It :=
  ⟨fun i H => ∃ (xs : List V) (x : V), SqT K H a xs ∧ xs[i]? = some x, fun i H v H' => ∃ T x, v = .ref T ∧ H T = none ∧ H' = upd H T (.tup [.int (i : Nat), x]) ∧ ∀ xs, SqT K H a xs → xs[i]? = some x, fun i H => ∃ xs : List V, SqT K H a xs ∧ xs.length ≤ i⟩
theorem turn_enumT {P : Program} {w : World} {K : PySem.W.Frag} {elts : List Expr} {kk : Nat} {tpos : Pos} (a e it : Addr) :
    Turn P w K (.Tuple elts kk tpos) (ItenT K a) [e, it] e (fun i h => (∃ old, IsEnum h e it ((i : Nat) : Int) old) ∧ h.IsTupleIter it a i ∧ e ≠ it) where
  mem := by simp
  obj := fun i h st b hb => by
    obtain ⟨⟨old, he⟩, ⟨o, ho, hc, hd⟩, _⟩ := st
    have e' : b = e ∨ b = it := by simpa using hb
    rcases e' with z | z
    · rw [z]; exact ⟨_, he, fun v q => nomatch q⟩
    · rw [z]; exact ⟨o, ho, fun v q => by rw [hd] at q; cases q⟩
  keep := fun i h h' st k => let ⟨⟨old, he⟩, hi, hne⟩ := st; ⟨⟨old, k e (by simp) _ he⟩, hi.at fun o q => k it (by simp) o q, hne⟩
  item := by
    intro X hP hw hK hc i pins s σ H E I hf st hg
    subst hP hw hK
    obtain ⟨⟨old, he⟩, hit, hne⟩ := st
    obtain ⟨xs, x, hq, hx⟩ := hg
    obtain ⟨its, rv, p, hz⟩ := I.tuple hq
    obtain ⟨u, hu, ru⟩ := rv.get hx
    have p' : s.heap.IsTuple a its.toArray := p
    have hel : e < s.heap.objs.size := Heap.lt_size he
    have hil : it < s.heap.objs.size := by obtain ⟨_, q, _⟩ := hit; exact Heap.lt_size q
    have hai : a ≠ it := fun z => by
      obtain ⟨o, ho, hcl, _⟩ := p'
      obtain ⟨o2, ho2, hc2, _⟩ := hit
      rw [z, ho2] at ho
      cases ho
      rw [hc2] at hcl
      exact absurd (Value.type.inj hcl) (by decide)
    have hea : e ≠ a := fun z => by
      obtain ⟨o, ho, hcl, _⟩ := p'
      rw [← z, he] at ho
      cases ho
      exact absurd (Value.type.inj hcl) (by decide)
    have hlt : i < its.toArray.size := by
      have := (List.getElem?_eq_some_iff.mp hu).1
      simpa using this
    refine wpAny_pyNext_enum_itemD (Draws.tuple (A := X.A.in1) (I.ok.hd hc) it a hai its.toArray) he ⟨hit, p'⟩ hlt hne (by simp [hne, hea]) fun x' h' tk hx' ho hst' hT hsz hk => ?_
    have ex : x' = u := by
      have h1 : its.toArray[i]? = some u := by simpa using hu
      rw [h1] at hx'
      exact (Option.some.inj hx').symm
    subst ex
    refine ⟨_, rfl, wpAny_letOwnedTupleGo_enum (s := { s with heap := h', toks := tk + 1 }) ho fun h'' he' sb => ?_⟩
    have hT2 : h''.get? s.heap.objs.size = some { cls := .type "tuple", data := .seq #[.int i tk, x'] } := (sb.2 _ (Nat.ne_of_gt hel)).trans hT
    have new : ObjOk X.prog X.w (upd H s.heap.objs.size (.tup [.int (i : Nat), x])) h'' s.heap.objs.size (.tup [.int (i : Nat), x]) :=
      ⟨by show 2 ≤ sizeLine; decide, [.int i tk, x'], .cons ⟨_, rfl⟩ (.cons ru .nil), ⟨_, hT2, rfl, _, rfl⟩⟩
    have I1 : Inv X pins σ (upd H s.heap.objs.size (.tup [.int (i : Nat), x])) { s with heap := h'', toks := tk + 1 } :=
      I.turnedNew (ch := [e, it]) (fun b ob hb q => (sb.2 b (fun z => hb (by simp [z]))).trans (hk b ob (fun z => hb (by simp [z])) (fun z => hb (by simp [z])) q)) hf (Nat.le_refl _) new
    refine ⟨.ref s.heap.objs.size, _, I1, rfl, ⟨_, x, rfl, I.hok.fresh (Nat.le_refl _), rfl, fun ys hy => by rw [I.tuple_inj hy hq]; exact hx⟩, ⟨⟨x', ?_⟩, hst'.1.at fun o q => (sb.2 it (Ne.symm hne)).trans q, hne⟩, fun b hb => ?_⟩
    · have e1 : ((i + 1 : Nat) : Int) = (i : Int) + 1 := by omega
      rw [e1]; exact he'
    · have hb' : b < s.heap.objs.size := by
        have e' : b = e ∨ b = it := by simpa using hb
        rcases e' with z | z
        · rw [z]; exact hel
        · rw [z]; exact hil
      rw [upd_ne (Nat.ne_of_lt hb')]
      exact (hf b hb).1
  done := by
    intro X hP hw hK hc i pins s σ H E I hf st hg
    subst hP hw hK
    obtain ⟨⟨old, he⟩, hit, hne⟩ := st
    obtain ⟨xs, hq, hx⟩ := hg
    obtain ⟨its, rv, p, hz⟩ := I.tuple hq
    obtain ⟨f0, f1, f2, f3, f4, f5⟩ := hf it (by simp)
    have hl := rv.length
    exact Dl.enumT_end (I.ok.hd hc) he hit (show s.heap.IsTuple a its.toArray from p) (by simp; omega) fun h' eb => ⟨rfl, I.turned (t' := s.toks) (fun b o hb q => eb b o hb q) f0 f1 f3 f4 f5⟩
  self := fun A i s Q E st h => let ⟨⟨_, he⟩, _⟩ := st; wpAny_pyIter_enum he h
def iEnumT (K : PySem.W.Frag) (ta : TA) : TI := fun σ H R => ta σ H fun vs H1 => ∃ a xs, vs = [.ref a] ∧ SqT K H1 a xs ∧ R (ItenT K a) H1
theorem pi_enumT {X : Cx} {e : Expr} {ta : TA} {p pos tpos : Pos} {elts : List Expr} {kk : Nat} (hg : Gl X "enumerate") (hm : X.mg "enumerate" = none) (ha : PA X [e] ta) (hs : starEach [e] X.env = [(false, eval e X.env)] := by rfl) :
    PI X (.Tuple elts kk tpos) (.Call (.Name "enumerate" p) [e] [] pos) (iEnumT X.K ta) := by
  refine ⟨fun pins s σ H R I h => ?_⟩
  refine Call_ (ld_blt I hg hm boot_enumerate (PyProof.Rows.callWith_type1 (thn (ha.run pos pins s σ H _ I h) fun us s1 ⟨vs, H1, I1, r1, q1⟩ => ?_) hs rfl))
  obtain ⟨a, xs, ex, hq, q⟩ := q1
  subst ex
  cases r1 with
  | cons r rr =>
    cases rr
    cases r
    obtain ⟨its, rv, p', hz⟩ := I1.tuple hq
    refine Dl.call_enumT (show s1.heap.IsTuple a its.toArray from p') fun h' he hit hsz hk => wpAny_pyIter_enum he ?_
    have I2 : Inv X pins σ H1 { s1 with heap := h' } := I1.kept (t' := s1.toks) hk
    refine ⟨s1.heap.objs.size + 1, [s1.heap.objs.size + 1, s1.heap.objs.size], _, _, H1, rfl, I2, turn_enumT a (s1.heap.objs.size + 1) s1.heap.objs.size, ⟨⟨.none, he⟩, hit, Nat.succ_ne_self _⟩, fun b hb => ?_, q⟩
    have e' : b = s1.heap.objs.size + 1 ∨ b = s1.heap.objs.size := by simpa using hb
    have hle : s1.heap.objs.size ≤ b := by
      rcases e' with z | z
      · rw [z]; exact Nat.le_add_right _ _
      · rw [z]; exact Nat.le_refl _
    exact I1.fpOk hle (I1.hok.fresh hle)
end L2
namespace Dl
open PySem PySem.Spec L2
def enumD (ds : List PyData) : List PyData := ds.zipIdx.map fun p => .tuple [.int (p.2 : Nat), p.1]
theorem enumD_length (ds : List PyData) : (enumD ds).length = ds.length := by unfold enumD; rw [List.length_map, List.length_zipIdx]
theorem enumD_get {ds : List PyData} {i : Nat} {d : PyData} (h : ds[i]? = some d) : (enumD ds)[i]? = some (.tuple [.int (i : Nat), d]) := by
  unfold enumD
  rw [List.getElem?_map, List.getElem?_zipIdx, h]
  simp
section
variable {K : PySem.W.Frag} {H1 : Hp} {τ1 : Store}
theorem walks_enumT {a : Addr} {vs : List V} {ds : List PyData} (n : NdT (dom τ1) H1 a vs) (l : DnL K (dom τ1) H1 vs ds) : Walks K (ItenT K a) H1 τ1 AnyS (enumD ds) where
  go := fun i H τ hi t o _ => by
    rw [enumD_length] at hi
    have hi' : i < vs.length := by rw [l.length]; exact hi
    exact ⟨vs, vs[i], (n.tr t).sq, List.getElem?_eq_getElem hi'⟩
  yld := fun i H τ x H' hi t o _ y => by
    obtain ⟨T, z, rfl, hT, rfl, y1⟩ := y
    obtain ⟨d, h1, h2⟩ := (l.tr t).get (y1 vs (n.tr t).sq)
    exact ⟨_, enumD_get h1, Tr.new hT, o.new hT, Dn.tup ⟨o.fresh hT, upd_same⟩ (.cons (Dn.int _) (.cons (h2.tr (Tr.new hT)) .nil))⟩
  stop := fun i H τ hi t o _ => by
    rw [enumD_length] at hi
    exact ⟨vs, (n.tr t).sq, by rw [l.length]; exact hi⟩
end
theorem di_enumT {X : Cx} {ρ : En} {τ : Store} {pos p1 tpos : Pos} {a : Expr} {elts : List Expr} {kk : Nat} {Q : List PyData → (Store → Prop) → Store → Prop} (B : Bl X.mg) (hg : Gl X "enumerate") (h : De X ρ τ a fun x τ1 => ∃ ds, x = .val (.tuple ds) ∧ Q (enumD ds) AnyS τ1)
    (hs : starEach [a] X.env = [(false, eval a X.env)] := by rfl) : Di X (.Tuple elts kk tpos) ρ τ (.Call (.Name "enumerate" p1) [a] [] pos) Q := .mk fun σ H o l R p =>
  wi_of (pi_enumT hg B.h_enumerate (pa_cons pe_we pa_nil hs) hs) (h σ H o l _ fun v H1 x τ1 ⟨ds, ex, q⟩ o1 r1 t1 => by
    subst ex
    cases r1 with
    | @tup a vs _ n1 l1 => exact ⟨a, vs, rfl, n1.sq, p _ H1 (enumD ds) AnyS τ1 q o1 t1 (walks_enumT n1 l1)⟩)
end Dl

/-! sum of a tuple of ints -/
namespace Dl
open PySem PySem.Spec L2 PyProof.Rows
section
variable {prog : Program} {w : World} {A : Around} {E : Value → Shared → Prop} {s : Shared} {l : Addr} {its : List Value} {ns : List Int} {Q : Value → Shared → Prop}
theorem sum_tupRaw (hh : A.handled = none) (hl : s.heap.IsTuple l its.toArray) (hi : IntsAre its ns)
    (h : ∀ h' tk t', (∀ b o, s.heap.get? b = some o → h'.get? b = some o) → Q (.int ns.sum t') { s with heap := h', toks := tk }) : wpAny (model prog w) A (call (.builtin "sum") [.ref l]) Q E s := by
  obtain ⟨xs, e⟩ := hi.allInts.items
  have hn : numsOf (intItems xs).toList = ns := by rw [← e]; exact hi.numsOf
  rw [nums_intItems] at hn
  rw [e] at hl
  have hlt : l < s.heap.objs.size := by obtain ⟨_, e1, _⟩ := hl; exact Heap.lt_size e1
  refine call_sum_walkG (wpAny_pyIter_tuple hl ?_)
  refine ⟨_, _, _, _, _, _, numAt xs, rfl, Walks.tuple (A := A.in1) hh _ l (Nat.ne_of_lt hlt) (intItems xs), ⟨⟨_, Heap.get?_push_size _ rfl, rfl, rfl⟩, hl.push _⟩, fun b hb => ?_, (fun _ _ => intItems_at), fun h' tk t' hk => ?_⟩
  · show b < (s.heap.push _).objs.size
    rw [Heap.size_push]
    simp only [List.mem_cons, List.not_mem_nil, or_false] at hb
    rcases hb with rfl | rfl
    · exact Nat.lt_succ_self _
    · exact Nat.lt_succ_of_lt hlt
  · have q := h h' tk t' fun b o eb => hk b o (fun hm => by
      rw [List.mem_singleton] at hm
      exact absurd (hm ▸ Heap.lt_size eb) (Nat.lt_irrefl _)) (Heap.get?_push_of_some _ eb)
    rw [preSum_eq, List.take_of_length_le (by simp [intItems]), hn]
    exact q
end
section
variable {X : Cx}
theorem cr_sumT (hc : X.calm = true) : CallR X (.builtin "sum") (fun vs H Q => ∃ (a : Addr) (ns : List Int), vs = [V.ref a] ∧ SqT X.K H a (ns.map V.int) ∧ Q (.int ns.sum) H) := by
  intro pins s σ H vs us Q I r h
  obtain ⟨a, ns, rfl, hs, q⟩ := h
  obtain ⟨its, rv, hl, _⟩ := I.tuple hs
  rw [Vals.ref1 r]
  exact sum_tupRaw (I.ok.hd hc) (show s.heap.IsTuple a its.toArray from hl) rv.ints fun h' tk t' hk => ⟨.int _, H, I.kept hk, ⟨_, rfl⟩, q⟩
end
section
variable {X : Cx} {ρ : En} {τ : Store} {Q : MV → Store → Prop} {pos p1 : Pos} {a : Expr}
theorem de_sumT (B : Bl X.mg) (hc : X.calm = true) (hg : Gl X "sum") (h : De X ρ τ a fun x τ1 => ∃ ns : List Int, x = .val (.tuple (ns.map .int)) ∧ Q (.val (.int ns.sum)) τ1)
    (hs : starEach [a] X.env = (false, eval a X.env) :: starEach [] X.env := by rfl) : De X ρ τ (.Call (.Name "sum" p1) [a] [] pos) Q :=
  de_callB (cr_sumT hc) hg B.h_sum (by decide +kernel) (da_one (h.mono fun x τ1 ⟨ns, ex, q⟩ => .mk fun H vs o r QQ p => by
    subst ex
    obtain ⟨v, rfl, r1⟩ := paired1 r
    obtain ⟨t, rfl, _, ht⟩ := kOf_tup (show Dn _ _ _ v (.tuple (ns.map .int)) from r1)
    exact ⟨t, ns, rfl, SqT.of ht, p _ H _ τ1 q o (Dn.int _) Tr.refl⟩) hs) hs rfl
end
theorem reads_ints {h : Heap} : ∀ {vs : List Value} {ns : List Int}, IntsAre vs ns → ReadsAll h vs (ns.map .int) []
  | _, _, .nil => .nil
  | _, _, .cons n t r => .cons (.int n t) (reads_ints r)
theorem depth_ints : ∀ ns : List Int, PyData.depthAll (ns.map .int) = 0
  | [] => rfl
  | n :: ns => by
    rw [List.map_cons, PyData.depthAll, depth_ints ns]
    rfl
theorem alike_ints (ns : List Int) : PySem.W.AlikeAll (ns.map .int) := ⟨fun x hx y hy => by
  obtain ⟨i, _, rfl⟩ := List.mem_map.mp hx
  obtain ⟨j, _, rfl⟩ := List.mem_map.mp hy
  rfl, fun x hx => by
  obtain ⟨i, _, rfl⟩ := List.mem_map.mp hx
  exact fun z => by cases z⟩
theorem foldl_min : ∀ (ns : List Int) (n : Int), IsMin (n :: ns) (ns.foldl min n)
  | [], n => ⟨List.mem_cons_self, fun y hy => by rw [List.mem_singleton.mp hy]; exact Int.le_refl _⟩
  | m :: ns, n => by
    obtain ⟨h1, h2⟩ := foldl_min ns (min n m)
    refine ⟨?_, fun y hy => ?_⟩
    · rcases List.mem_cons.mp h1 with e | e
      · rw [List.foldl_cons, e]
        by_cases h : n ≤ m
        · rw [Int.min_eq_left h]; exact List.mem_cons_self
        · rw [Int.min_eq_right (by omega)]; exact List.mem_cons_of_mem _ List.mem_cons_self
      · exact List.mem_cons_of_mem _ (List.mem_cons_of_mem _ e)
    · have h0 := h2 (min n m) List.mem_cons_self
      rcases List.mem_cons.mp hy with e | hy
      · rw [List.foldl_cons, e]; omega
      · rcases List.mem_cons.mp hy with e | hy
        · rw [List.foldl_cons, e]; omega
        · exact h2 y (List.mem_cons_of_mem _ hy)
section
variable {X : Cx}
theorem cr_minT (hc : X.calm = true) (hu : X.A.units + 1 < cLine) : CallR X (.builtin "min") (fun vs H Q => ∃ (a : Addr) (n : Int) (ns : List Int), vs = [V.ref a] ∧ SqT X.K H a ((n :: ns).map V.int) ∧ ∀ m, IsMin (n :: ns) m → Q (.int m) H) := by
  intro pins s σ H vs us Q I r h
  obtain ⟨a, n, ns, rfl, hs, q⟩ := h
  obtain ⟨its, rv, hl, _⟩ := I.tuple hs
  rw [Vals.ref1 r]
  refine PySem.W.min_tuple_data (x := .int n) (xs := ns.map .int) (I.ok.hd hc) (show s.heap.IsTuple a its.toArray from hl) (reads_ints (h := s.heap) (vs := its) rv.ints) (alike_ints (n :: ns)) (by rw [show PyData.depthAll (PyData.int n :: ns.map .int) = 0 from depth_ints (n :: ns)]; exact hu) fun i v h' tk bs _ hr hk => ?_
  rw [PySem.W.minD_ints] at hr
  cases hr
  exact ⟨.int _, H, I.kept hk, ⟨_, rfl⟩, q _ (foldl_min ns n)⟩
end
section
variable {X : Cx} {ρ : En} {τ : Store} {Q : MV → Store → Prop} {pos p1 : Pos} {a : Expr}
theorem de_minT (B : Bl X.mg) (hc : X.calm = true) (hu : X.A.units + 65 < cLine) (hg : Gl X "min") (h : De X ρ τ a fun x τ1 => ∃ ns : List Int, ns ≠ [] ∧ x = .val (.tuple (ns.map .int)) ∧ ∀ m, IsMin ns m → Q (.val (.int m)) τ1)
    (hs : starEach [a] X.env = (false, eval a X.env) :: starEach [] X.env := by rfl) : De X ρ τ (.Call (.Name "min" p1) [a] [] pos) Q :=
  de_callB (cr_minT hc (by omega)) hg B.h_min (by decide +kernel) (da_one (h.mono fun x τ1 ⟨ns, hne, ex, q⟩ => .mk fun H vs o r QQ p => by
    subst ex
    cases ns with
    | nil => exact absurd rfl hne
    | cons n ns =>
      obtain ⟨v, rfl, r1⟩ := paired1 r
      obtain ⟨t, rfl, _, ht⟩ := kOf_tup (show Dn _ _ _ v (.tuple ((n :: ns).map .int)) from r1)
      exact ⟨t, n, ns, rfl, SqT.of ht, fun m hm => p _ H _ τ1 (q m hm) o (Dn.int _) Tr.refl⟩) hs) hs rfl
end
end Dl

/-! max of a tuple of ints; min, max of a list of data; <, > of data -/
namespace Dl
open PySem PySem.Spec L2 PyProof.Rows
theorem foldl_max : ∀ (ns : List Int) (n : Int), IsMax (n :: ns) (ns.foldl max n)
  | [], n => ⟨List.mem_cons_self, fun y hy => by rw [List.mem_singleton.mp hy]; exact Int.le_refl _⟩
  | m :: ns, n => by
    obtain ⟨h1, h2⟩ := foldl_max ns (max n m)
    refine ⟨?_, fun y hy => ?_⟩
    · rcases List.mem_cons.mp h1 with e | e
      · rw [List.foldl_cons, e]
        by_cases h : m ≤ n
        · rw [Int.max_eq_left h]; exact List.mem_cons_self
        · rw [Int.max_eq_right (by omega)]; exact List.mem_cons_of_mem _ List.mem_cons_self
      · exact List.mem_cons_of_mem _ (List.mem_cons_of_mem _ e)
    · have h0 := h2 (max n m) List.mem_cons_self
      rcases List.mem_cons.mp hy with e | hy
      · rw [List.foldl_cons, e]; omega
      · rcases List.mem_cons.mp hy with e | hy
        · rw [List.foldl_cons, e]; omega
        · exact h2 y (List.mem_cons_of_mem _ hy)
section
variable {X : Cx}
theorem cr_maxT (hc : X.calm = true) (hu : X.A.units + 1 < cLine) : CallR X (.builtin "max") (fun vs H Q => ∃ (a : Addr) (n : Int) (ns : List Int), vs = [V.ref a] ∧ SqT X.K H a ((n :: ns).map V.int) ∧ ∀ m, IsMax (n :: ns) m → Q (.int m) H) := by
  intro pins s σ H vs us Q I r h
  obtain ⟨a, n, ns, rfl, hs, q⟩ := h
  obtain ⟨its, rv, hl, _⟩ := I.tuple hs
  rw [Vals.ref1 r]
  refine PySem.W.max_tuple_data (x := .int n) (xs := ns.map .int) (I.ok.hd hc) (show s.heap.IsTuple a its.toArray from hl) (reads_ints (h := s.heap) (vs := its) rv.ints) (alike_ints (n :: ns)) (by rw [show PyData.depthAll (PyData.int n :: ns.map .int) = 0 from depth_ints (n :: ns)]; exact hu) fun i v h' tk bs _ hr hk => ?_
  rw [PySem.W.maxD_ints] at hr
  cases hr
  exact ⟨.int _, H, I.kept hk, ⟨_, rfl⟩, q _ (foldl_max ns n)⟩
theorem vals_get {xs : List V} {its : List Value} (h : Vals xs its) : ∀ {i : Nat} {v : Value}, its[i]? = some v → ∃ x, xs[i]? = some x ∧ RelV x v := by
  induction h with
  | nil => intro i v e; simp at e
  | cons a b ih =>
    intro i v e
    cases i with
    | zero =>
      simp at e
      subst e
      exact ⟨_, rfl, a⟩
    | succ i =>
      obtain ⟨x, h1, h2⟩ := ih (by simpa using e)
      exact ⟨x, by simpa using h1, h2⟩
/-- of a list of data -/
def rBestD (K : PySem.W.Frag) (best : PyData → List PyData → PyData) : List V → Hp → VK → Prop := fun vs H Q => ∃ (a : Addr) (xs : List V) (d : PyData) (ds : List PyData), vs = [V.ref a] ∧ SqL K H a xs ∧ DpAll K H xs (d :: ds) ∧ PySem.W.AlikeAll (d :: ds) ∧ (∀ x ∈ d :: ds, x.canLay0 = true) ∧ PyData.depthAll (d :: ds) ≤ 60 ∧
  ∀ (i : Nat) (v : V) (e : PyData), xs[i]? = some v → (d :: ds)[i]? = some e → e = best d ds → Q v H
theorem dpAll_get {K : PySem.W.Frag} {H : Hp} : ∀ {vs : List V} {ds : List PyData} {i : Nat} {v : V}, DpAll K H vs ds → vs[i]? = some v → ∃ d, ds[i]? = some d ∧ Dp K H v d
  | _, _, _, _, .nil, e => by simp at e
  | _, _, 0, _, .cons a _, e => by
    simp at e
    subst e
    exact ⟨_, rfl, a⟩
  | _, _, i + 1, v, .cons _ b, e => by
    obtain ⟨d, h1, h2⟩ := dpAll_get (i := i) (v := v) b (by simpa using e)
    exact ⟨d, by simpa using h1, h2⟩
theorem cr_minD (hc : X.calm = true) (hu : X.A.units + 65 < cLine) : CallR X (.builtin "min") (rBestD X.K PySem.W.minD) := by
  intro pins s σ H vs us Q I r h
  obtain ⟨a, xs, d, ds, rfl, hs, hd, hal, hlay, hdep, q⟩ := h
  obtain ⟨its, rv, hl, _⟩ := I.list hs
  rw [Vals.ref1 r]
  obtain ⟨as, hr⟩ := Dp.readsAll I (d :: ds) xs its hd rv
  refine PySem.W.min_list_data (x := d) (xs := ds) (vs := its.toArray) (I.ok.hd hc) hl.isList hr hal (by omega) fun i v h' tk bs hv hrd hk => ?_
  have hv : its[i]? = some v := by simpa using hv
  obtain ⟨x, hx, hrel⟩ := vals_get rv hv
  obtain ⟨e, he, hdp⟩ := dpAll_get hd hx
  obtain ⟨as', hr'⟩ := Dp.reads I e x v hdp hrel
  have hu := (Reads.unique (PySem.W.reads_keeps hk hr') _ _ hrd).1
  exact ⟨x, H, I.kept hk, hrel, q i x e hx he hu⟩
theorem cr_maxD (hc : X.calm = true) (hu : X.A.units + 65 < cLine) : CallR X (.builtin "max") (rBestD X.K PySem.W.maxD) := by
  intro pins s σ H vs us Q I r h
  obtain ⟨a, xs, d, ds, rfl, hs, hd, hal, hlay, hdep, q⟩ := h
  obtain ⟨its, rv, hl, _⟩ := I.list hs
  rw [Vals.ref1 r]
  obtain ⟨as, hr⟩ := Dp.readsAll I (d :: ds) xs its hd rv
  refine PySem.W.max_list_data (x := d) (xs := ds) (vs := its.toArray) (I.ok.hd hc) hl.isList hr hal (by omega) fun i v h' tk bs hv hrd hk => ?_
  have hv : its[i]? = some v := by simpa using hv
  obtain ⟨x, hx, hrel⟩ := vals_get rv hv
  obtain ⟨e, he, hdp⟩ := dpAll_get hd hx
  obtain ⟨as', hr'⟩ := Dp.reads I e x v hdp hrel
  have hu := (Reads.unique (PySem.W.reads_keeps hk hr') _ _ hrd).1
  exact ⟨x, H, I.kept hk, hrel, q i x e hx he hu⟩
def rCmpD (K : PySem.W.Frag) (g : PyData → PyData → Bool) : R2 := fun x y H Q => ∃ d e, Dp K H x d ∧ Dp K H y e ∧ PySem.W.alike d e = true ∧ d ≠ .none ∧ d.depth ≤ 60 ∧ Q (.bl (g d e)) H
theorem op_ltD (hu : X.A.units + 64 < cLine) : OpR X (compareOp .Lt) (rCmpD X.K fun d e => PySem.W.dataLt d e) := by
  intro pins s σ H x y v u Q I rx ry h
  obtain ⟨d, e, hx, hy, ha, hn, hd, q⟩ := h
  obtain ⟨as, r1⟩ := Dp.reads I d x v hx rx
  obtain ⟨bs, r2⟩ := Dp.reads I e y u hy ry
  exact PySem.W.lt_data r1 r2 ha hn (by omega) ⟨.bl _, H, I, rfl, q⟩
theorem op_gtD (hu : X.A.units + 64 < cLine) : OpR X (compareOp .Gt) (rCmpD X.K fun d e => PySem.W.dataLt e d) := by
  intro pins s σ H x y v u Q I rx ry h
  obtain ⟨d, e, hx, hy, ha, hn, hd, q⟩ := h
  obtain ⟨as, r1⟩ := Dp.reads I d x v hx rx
  obtain ⟨bs, r2⟩ := Dp.reads I e y u hy ry
  exact PySem.W.gt_data r1 r2 ha hn (by omega) ⟨.bl _, H, I, rfl, q⟩
end
section
variable {X : Cx} {ρ : En} {τ : Store} {Q : MV → Store → Prop} {pos p1 : Pos} {a b : Expr}
theorem de_maxT (B : Bl X.mg) (hc : X.calm = true) (hu : X.A.units + 65 < cLine) (hg : Gl X "max") (h : De X ρ τ a fun x τ1 => ∃ ns : List Int, ns ≠ [] ∧ x = .val (.tuple (ns.map .int)) ∧ ∀ m, IsMax ns m → Q (.val (.int m)) τ1)
    (hs : starEach [a] X.env = (false, eval a X.env) :: starEach [] X.env := by rfl) : De X ρ τ (.Call (.Name "max" p1) [a] [] pos) Q :=
  de_callB (cr_maxT hc (by omega)) hg B.h_max (by decide +kernel) (da_one (h.mono fun x τ1 ⟨ns, hne, ex, q⟩ => .mk fun H vs o r QQ p => by
    subst ex
    cases ns with
    | nil => exact absurd rfl hne
    | cons n ns =>
      obtain ⟨v, rfl, r1⟩ := paired1 r
      obtain ⟨t, rfl, _, ht⟩ := kOf_tup (show Dn _ _ _ v (.tuple ((n :: ns).map .int)) from r1)
      exact ⟨t, n, ns, rfl, SqT.of ht, fun m hm => p _ H _ τ1 (q m hm) o (Dn.int _) Tr.refl⟩) hs) hs rfl
theorem depthAll_pl {n : Nat} {ds : List PyData} (h : ∀ x ∈ ds, Pl n x) : PyData.depthAll ds ≤ n + 1 := depthAll_of fun x hx => (h x hx).dep
theorem de_minD {n : Nat} (B : Bl X.mg) (hc : X.calm = true) (hu : X.A.units + 65 < cLine) (hg : Gl X "min") (h : De X ρ τ a fun x τ1 => ∃ d ds, datOf τ1 x = some (.list (d :: ds)) ∧ PySem.W.AlikeAll (d :: ds) ∧ (∀ x ∈ d :: ds, Pl n x) ∧ Q (.val (PySem.W.minD d ds)) τ1) (hn : n ≤ 50 := by decide)
    (hs : starEach [a] X.env = (false, eval a X.env) :: starEach [] X.env := by rfl) : De X ρ τ (.Call (.Name "min" p1) [a] [] pos) Q :=
  de_callB (cr_minD hc hu) hg B.h_min (by decide +kernel) (da_one (h.mono fun x τ1 ⟨d, ds, ex, hal, hpl, q⟩ => .mk fun H vs o r QQ p => by
    obtain ⟨v, rfl, r1⟩ := paired1 r
    obtain ⟨t, ws, rfl, h1, l1⟩ := r1.seqL o ex
    refine ⟨t, ws, d, ds, rfl, h1, l1.dp, hal, fun x hx => (hpl x hx).lay, Nat.le_trans (depthAll_pl hpl) (by omega), fun i v e hv he ee => ?_⟩
    obtain ⟨e', h2, h3⟩ := l1.get hv
    rw [he] at h2
    cases h2
    subst ee
    exact p _ H _ τ1 q o h3 Tr.refl) hs) hs rfl
/-- two data compared -/
abbrev DatD (n : Nat) (g : PyData → PyData → Bool) (x y : MV) (τ : Store) (Q : MV → Store → Prop) : Prop := ∃ d e, datOf τ x = some d ∧ datOf τ y = some e ∧ PySem.W.alike d e = true ∧ d ≠ .none ∧ Pl n d ∧ n ≤ 50 ∧ Q (.val (.bool (g d e))) τ
theorem opd_dat {K : PySem.W.Frag} {n : Nat} {g : PyData → PyData → Bool} {x y : MV} (h : DatD n g x y τ Q) : OpD K (rCmpD K g) x y τ Q := .mk fun H v u o r1 r2 QQ p => by
  obtain ⟨d, e, hx, hy, ha, hn, hp, h50, q⟩ := h
  exact ⟨d, e, r1.dp o hx, r2.dp o hy, ha, hn, Nat.le_trans hp.dep (by omega), p _ H _ τ q o (Dn.bl _) Tr.refl⟩
theorem de_ltD (n : Nat) (hu : X.A.units + 64 < cLine) (h : De X ρ τ a fun x τ1 => De X ρ τ1 b fun y τ2 => DatD n (fun d e => PySem.W.dataLt d e) x y τ2 Q) : De X ρ τ (.Compare a [.Lt] [b] pos) Q := de_cmp (op_ltD hu) (h.mono fun x τ1 h1 => h1.mono fun y τ2 h2 => opd_dat h2) (nomark b)
theorem de_gtD (n : Nat) (hu : X.A.units + 64 < cLine) (h : De X ρ τ a fun x τ1 => De X ρ τ1 b fun y τ2 => DatD n (fun d e => PySem.W.dataLt e d) x y τ2 Q) : De X ρ τ (.Compare a [.Gt] [b] pos) Q := de_cmp (op_gtD hu) (h.mono fun x τ1 h1 => h1.mono fun y τ2 h2 => opd_dat h2) (nomark b)
theorem dt_ltD {Q : Bool → Store → Prop} (n : Nat) (hu : X.A.units + 64 < cLine) (h : De X ρ τ a fun x τ1 => De X ρ τ1 b fun y τ2 => DatD n (fun d e => PySem.W.dataLt d e) x y τ2 (BoolQ Q)) : Dt X ρ τ (.Compare a [.Lt] [b] pos) Q := dt_cmp (op_ltD hu) (h.mono fun x τ1 h1 => h1.mono fun y τ2 h2 => opd_dat h2) (nomark b)
theorem dt_gtD {Q : Bool → Store → Prop} (n : Nat) (hu : X.A.units + 64 < cLine) (h : De X ρ τ a fun x τ1 => De X ρ τ1 b fun y τ2 => DatD n (fun d e => PySem.W.dataLt e d) x y τ2 (BoolQ Q)) : Dt X ρ τ (.Compare a [.Gt] [b] pos) Q := dt_cmp (op_gtD hu) (h.mono fun x τ1 h1 => h1.mono fun y τ2 h2 => opd_dat h2) (nomark b)
end
end Dl

/-! a, b = x, y with names that are cells; a, b, c = a list -/
namespace Dl
open PySem PySem.Spec L2
theorem SlOk.setAllM {K : PySem.W.Frag} {N : List Addr} {H : Hp} : ∀ {js : List Nat} {vs : List V} {svs : List MV} {σ : L2.St} {ρ : En}, SlOk K N H σ ρ → RvL K N H vs svs → SlOk K N H (Dl.setAll σ js vs) (Dl.setAll ρ js svs)
  | [], _, _, _, _, h, _ => h
  | _ :: _, _, _, _, _, h, .nil => h
  | j :: js, _, _, σ, ρ, h, .cons a b => SlOk.setAllM (js := js) (h.set a j) b
section
variable {X : Cx} {ρ : En} {τ : Store} {D : DE} {pos p1 p2 : Pos} {a tg : Expr} {es : List Expr}
theorem ds_asgM {js : List Nat} {x1} (hg : PGx X tg (.tup js)) (h : Da X ρ τ es fun svs τ1 => svs.length = js.length ∧ svs.length ≤ 1000000 ∧ D.nx (setAll ρ js svs) τ1)
    (hs : swapsWithSole [tg] (.Tuple es x1 p1) pos.line X.env = pure false := by rfl) (hw : swappedStores [tg] (.Tuple es x1 p1) X.env = pure none := by rfl)
    (h1 : (assignEach [tg] X.env).map (·.2) = [assign tg X.env] := by rfl) : Ds X ρ τ (.Assign [tg] (.Tuple es x1 p1) pos) D := .mk fun σ H o l DD p =>
  ws_of (ps_asg (pe_tup pa_wa) hg hs hw h1) (h σ H o l _ fun vs H1 svs τ1 ⟨hl, hz, q⟩ o1 r1 t1 => ⟨small_sz (by rw [Paired.length r1]; exact hz), fun a ha => by
    have t2 : Tr (dom τ1) H1 (dom τ1) (upd H1 a (.tup vs)) := Tr.new ha
    exact ⟨a, vs, rfl, SqT.of upd_same, by rw [Paired.length r1]; exact hl, p.nx _ _ _ τ1 q (o1.new ha) (((l.tr t1).tr t2).setAllM (r1.tr t2)) (t1.trans t2)⟩⟩)
/-- a target that takes a list apart -/
def tgL (K : PySem.W.Frag) (js : List Nat) : TG := fun v σ H Q => ∃ a xs, v = .ref a ∧ SqL K H a xs ∧ xs.length = js.length ∧ Q (setAll σ js xs) H
theorem pgl_3 {i j k : Nat} {e1 e2 e3 : Expr} {kk : Nat} (hc : X.calm = true) (h1 : PG X e1 (gName i)) (h2 : PG X e2 (gName j)) (h3 : PG X e3 (gName k))
    (hs : (assignEach [e1, e2, e3] X.env).map (·.2) = assign e1 X.env :: (assignEach [e2, e3] X.env).map (·.2) := by rfl) (hs2 : (assignEach [e2, e3] X.env).map (·.2) = assign e2 X.env :: (assignEach [e3] X.env).map (·.2) := by rfl)
    (hs3 : (assignEach [e3] X.env).map (·.2) = assign e3 X.env :: (assignEach [] X.env).map (·.2) := by rfl)
    (hn : (assignEach [e1, e2, e3] X.env).length = 3 := by rfl) (hst : (assignEach [e1, e2, e3] X.env).findIdx? (·.1) = none := by rfl) : PG X (.Tuple [e1, e2, e3] kk pos) (tgL X.K [i, j, k]) :=
  PG.weak (pg_lst hc (pgs_cons h1 (pgs_cons h2 (pgs_cons h3 pgs_nil hs3) hs2) hs) hn hst) fun v σ H Q ⟨a, xs, e, h, hl, q⟩ => by
    match xs, hl with
    | [x, y, z], _ => exact ⟨a, [x, y, z], e, h, rfl, x, [y, z], rfl, y, [z], rfl, z, [], rfl, rfl, q⟩
theorem ds_asgL {js : List Nat} (hg : PG X tg (tgL X.K js)) (h : De X ρ τ a fun sv τ1 => ∃ ds, datOf τ1 sv = some (.list ds) ∧ ds.length = js.length ∧ D.nx (setAll ρ js (ds.map .val)) τ1)
    (hs : swapsWithSole [tg] a pos.line X.env = pure false := by rfl) (hw : swappedStores [tg] a X.env = pure none := by rfl)
    (h1 : (assignEach [tg] X.env).map (·.2) = [assign tg X.env] := by rfl) : Ds X ρ τ (.Assign [tg] a pos) D := .mk fun σ H o l DD p =>
  ws_of (ps_asg pe_we hg hs hw h1) (h σ H o l _ fun v H1 sv τ1 ⟨ds, ex, hl, q⟩ o1 r1 t1 => by
    obtain ⟨a, vs, rfl, h2, l1⟩ := r1.seqL o1 ex
    exact ⟨a, vs, rfl, h2, by rw [l1.length]; exact hl, p.nx _ H1 _ τ1 q o1 ((l.tr t1).setAll l1) t1⟩)
variable {Q : MV → Store → Prop}
/-- int(x): an int, a bool -/
theorem de_int1 (B : Bl X.mg) (hg : Gl X "int") (h : De X ρ τ a fun x τ1 => (∃ i, x = .val (.int i) ∧ Q (.val (.int i)) τ1) ∨ ∃ k, x = .val (.bool k) ∧ Q (.val (.int (if k then 1 else 0))) τ1)
    (hs : starEach [a] X.env = (false, eval a X.env) :: starEach [] X.env := by rfl) : De X ρ τ (.Call (.Name "int" p1) [a] [] pos) Q :=
  de_callTy call_int1 hg B.h_int (by decide +kernel) (da_one (h.mono fun x τ1 h1 => .mk fun H vs o r QQ p => by
    obtain ⟨v, rfl, r1⟩ := paired1 r
    rcases h1 with ⟨i, ex, q⟩ | ⟨k, ex, q⟩
    · subst ex
      cases r1
      exact .inl ⟨i, rfl, p _ H _ τ1 q o (Dn.int _) Tr.refl⟩
    · subst ex
      cases r1
      exact .inr ⟨k, rfl, p _ H _ τ1 q o (Dn.int _) Tr.refl⟩) hs) hs rfl
end
theorem lst_tup {K : PySem.W.Frag} {τ : Store} {Q : MV → Store → Prop} {ds : List PyData} (q : Q (.val (.list ds)) τ) : LstD K (.val (.tuple ds)) τ Q := .mk fun H vs o r QQ p => by
  obtain ⟨v, rfl, r1⟩ := paired1 r
  obtain ⟨a, ws, rfl, h1, l1⟩ := r1.seqT o (rfl : datOf τ (.val (.tuple ds)) = some (.tuple ds))
  exact ⟨a, ws, rfl, .inr h1.sq, p.lst o l1 q⟩
/-! sorted(set(t)), t a short tuple of ints -/
section
variable {X : Cx}
def rSetI (K : PySem.W.Frag) (w : World) : List V → Hp → VK → Prop := fun vs H Q => ∃ (a : Addr) (ns : List Int), vs = [V.ref a] ∧ SqT K H a (ns.map V.int) ∧ ns.length ≤ 60 ∧
  ∀ (p : Addr) (S : Int → Bool) (n : Nat), H p = none → (∀ k, S k = true ↔ k ∈ ns) → n ≤ ns.length → Q (.ref p) (upd H p (SetO w p S n))
theorem cr_setT (hc : X.calm = true) : CallR X (.type "set") (rSetI X.K X.w) := by
  intro pins s σ H vs us Q I r h
  obtain ⟨a, ns, rfl, hs, hl, q⟩ := h
  obtain ⟨its, rv, pt, _⟩ := I.tuple hs
  rw [Vals.ref1 r]
  refine call_set_tupI ns (I.ok.hd hc) (show s.heap.IsTuple a its.toArray from pt) rv.ints (by unfold scanBound; omega) fun h' tk c R hcn k => ?_
  have hf : H s.heap.objs.size = none := I.hok.fresh (Nat.le_refl _)
  exact ⟨.ref s.heap.objs.size, _, I.laid (t' := tk) (fun b u e => k b u e) (Nat.le_refl _) (setO_new R), rfl, q _ _ c hf (fun j => decide_eq_true_iff) hcn⟩
end
section
variable {X : Cx} {ρ : En} {τ : Store} {Q : MV → Store → Prop} {pos p1 p2 p3 : Pos} {a : Expr}
theorem de_sortedSetT (B : Bl X.mg) (hc : X.calm = true) (hg : Gl X "sorted") (hg2 : Gl X "set") (h : De X ρ τ a fun x τ1 => ∃ ns : List Int, x = .val (.tuple (ns.map .int)) ∧ ns.length ≤ 60 ∧ ∀ ms : List Int, ms.Pairwise (· < ·) → (∀ k, k ∈ ms ↔ k ∈ ns) → Q (.val (.list (ms.map .int))) τ1)
    (hs : starEach [a] X.env = (false, eval a X.env) :: starEach [] X.env := by rfl) (hs2 : starEach [.Call (.Name "set" p2) [a] [] p3] X.env = (false, eval (.Call (.Name "set" p2) [a] [] p3) X.env) :: starEach [] X.env := by rfl) :
    De X ρ τ (.Call (.Name "sorted" p1) [.Call (.Name "set" p2) [a] [] p3] [] pos) Q := .mk fun σ H o l QQ p => by
  refine we_of (pe_callB (cr_sortedSet hc) hg B.h_sorted (by decide +kernel) (pa_cons (pe_callTy (cr_setT hc) hg2 B.h_set (by decide +kernel) (pa_cons pe_we pa_nil hs) (by decide) (by decide) hs rfl) pa_nil hs2) (by decide) (by decide) hs2 rfl) ?_
  refine h σ H o l _ fun v H1 x τ1 ⟨ns, ex, hl, q⟩ o1 r1 t1 => ?_
  subst ex
  obtain ⟨t, rfl, _, ht⟩ := kOf_tup (show Dn _ _ _ v (.tuple (ns.map .int)) from r1)
  refine ⟨t, ns, rfl, SqT.of ht, hl, fun pa S n hpa hS hn => ?_⟩
  refine ⟨pa, S, n, rfl, upd_same, by omega, fun ms pb hms hmem hlen hpb => ?_⟩
  have t2 : Tr (dom τ1) H1 (dom τ1) (upd H1 pa (SetO X.w pa S n)) := Tr.new hpa
  have o2 := o1.new (o := SetO X.w pa S n) hpa
  exact ((p.step t1).step t2).lst o2 (DnL.of_ints (ns := ms)) (q ms hms fun k => (hmem k).trans (hS k)) pb hpb
end
end Dl

/-! sorted of a list of data -/
namespace Dl
open PySem PySem.Spec L2 PyProof.Rows
theorem dlt_irr (d : PyData) : PySem.W.dataLt d d = false := PyProof.Rows.lex_irrefl (O := PyProof.Rows.itemOrd) _
theorem dlt_tr {a b c : PyData} (h : PySem.W.dataLt a b = true) (h' : PySem.W.dataLt b c = true) : PySem.W.dataLt a c = true := PyProof.Rows.lex_trans (O := PyProof.Rows.itemOrd) _ _ _ h h'
theorem dlt_neg {a b c : PyData} (h : PySem.W.dataLt a b = false) (h' : PySem.W.dataLt b c = false) : PySem.W.dataLt a c = false := by
  cases e : PySem.W.dataLt a c with
  | false => rfl
  | true =>
    rcases PyProof.Rows.lex_negTrans (O := PyProof.Rows.itemOrd) (PySem.W.keyToks a) (PySem.W.keyToks b) (PySem.W.keyToks c) e with z | z
    · rw [show PySem.W.dataLt a b = true from z] at h; cases h
    · rw [show PySem.W.dataLt b c = true from z] at h'; cases h'
theorem dlt_asym {a b : PyData} (h : PySem.W.dataLt a b = true) : PySem.W.dataLt b a = false := by
  cases e : PySem.W.dataLt b a with
  | false => rfl
  | true =>
    have := dlt_tr h e
    rw [dlt_irr] at this
    cases this
theorem dsort_asc (ds : List PyData) : (ds.mergeSort (PySem.W.dataLe false id)).Pairwise fun a b => PySem.W.dataLt b a = false := by
  have h := List.pairwise_mergeSort (le := PySem.W.dataLe false (id : PyData → PyData)) (fun a b c h1 h2 => ?_) (fun a b => ?_) ds
  · refine h.imp fun {a b} h => ?_
    rw [PySem.W.dataLe_eq] at h
    simpa using h
  · rw [PySem.W.dataLe_eq] at h1 h2 ⊢
    have h1 : PySem.W.dataLt b a = false := by simpa using h1
    have h2 : PySem.W.dataLt c b = false := by simpa using h2
    simpa using dlt_neg h2 h1
  · rw [PySem.W.dataLe_eq]
    show (!PySem.W.dataLt b a || !PySem.W.dataLt a b) = true
    cases e : PySem.W.dataLt b a with
    | false => rfl
    | true => rw [dlt_asym e]; rfl
theorem each_rel : ∀ {xs : List V} {ds : List PyData} {its : List Value}, Vals xs its → xs.length = ds.length → PySem.W.EachIs (fun v (p : V × PyData) => RelV p.1 v) its (xs.zip ds)
  | [], [], _, .nil, _ => .nil
  | x :: xs, d :: ds, _, .cons a b, h => .cons a (each_rel b (by simpa using h))
  | x :: xs, [], _, _, h => by simp at h
theorem each_vals : ∀ {out : List Value} {ps : List (V × PyData)}, PySem.W.EachIs (fun v (p : V × PyData) => RelV p.1 v) out ps → Vals (ps.map (·.1)) out
  | _, _, .nil => .nil
  | _, _, .cons a b => .cons a (each_vals b)
section
variable {X : Cx} {pins : List (Addr × Obj)} {σ : L2.St} {H : Hp} {s : Shared}
theorem each_reads (I : Inv X pins σ H s) : ∀ {xs : List V} {ds : List PyData} {its : List Value}, DpAll X.K H xs ds → Vals xs its → PySem.W.EachIs (fun v (p : V × PyData) => ∃ as, Reads s.heap v p.2 as) its (xs.zip ds)
  | [], _, _, .nil, .nil => .nil
  | x :: xs, _, _, .cons h hs, .cons a b => .cons (Dp.reads I _ _ _ h a) (each_reads I hs b)
end
theorem dpAll_len {K : PySem.W.Frag} {H : Hp} : ∀ {vs : List V} {ds : List PyData}, DpAll K H vs ds → vs.length = ds.length
  | _, _, .nil => rfl
  | _, _, .cons _ b => by rw [List.length_cons, List.length_cons, dpAll_len b]
def rSortedD (K : PySem.W.Frag) : List V → Hp → VK → Prop := fun vs H Q => ∃ (a : Addr) (xs : List V) (ds : List PyData), vs = [V.ref a] ∧ SqL K H a xs ∧ DpAll K H xs ds ∧ PySem.W.AllAlike ds ∧ PySem.W.Sortable ds ∧ (∀ d ∈ ds, d.depth ≤ 60) ∧
  ∀ (ps : List (V × PyData)) (p : Addr), ps.Perm (xs.zip ds) → ps.map (·.2) = ds.mergeSort (PySem.W.dataLe false id) → H p = none → Q (.ref p) (upd H p (.lst (ps.map (·.1))))
section
variable {X : Cx}
theorem cr_sortedD (hu : X.A.units + 64 < cLine) : CallR X (.builtin "sorted") (rSortedD X.K) := by
  intro pins s σ H vs us Q I r h
  obtain ⟨a, xs, ds, rfl, hs, hd, hal, hso, hdep, q⟩ := h
  obtain ⟨its, rv, hl, hz⟩ := I.list hs
  rw [Vals.ref1 r]
  have hlen := dpAll_len hd
  have hzl : (xs.zip ds).length = xs.length := by rw [List.length_zip]; omega
  have hsnd : (xs.zip ds).map (·.2) = ds := List.map_snd_zip (by omega)
  refine PySem.W.sorted_data (enc := fun p : V × PyData => p.2) (bs := xs.zip ds) hl.isList (each_rel rv hlen) (each_reads I hd rv) (by rw [hsnd]; exact hal) (by rw [hsnd]; exact hso) (by rw [hzl]; exact hz) (fun b hb => ?_) fun out ho he => ?_
  · have := hdep _ (List.of_mem_zip hb).2
    omega
  · have hv := each_vals he
    obtain ⟨n, hn⟩ := sortedAll_at s.heap its (List.toArray out)
    have hnew : H (s.heap.objs.size + 1) = none := I.hok.fresh (Nat.le_succ _)
    refine ⟨.ref (s.heap.objs.size + 1), _, I.laid (t' := s.toks) (o := .lst (((xs.zip ds).mergeSort (PySem.W.dataLe false fun p : V × PyData => p.2)).map (·.1))) (fun b o e => sortedAll_old e) (Nat.le_succ _) ⟨?_, out, n, hv, hn⟩, rfl, q _ _ (List.mergeSort_perm _ _) ?_ hnew⟩
    · rw [List.length_map, List.length_mergeSort, hzl]
      exact hz
    · have hm := List.map_mergeSort (r := PySem.W.dataLe false fun p : V × PyData => p.2) (s := PySem.W.dataLe false (id : PyData → PyData)) (f := fun p : V × PyData => p.2) (l := xs.zip ds) (fun a _ b _ => rfl)
      rw [hm, hsnd]
end
section
variable {X : Cx} {ρ : En} {τ : Store} {Q : MV → Store → Prop} {pos p1 : Pos} {a : Expr}
theorem dnl_pairs {K : PySem.W.Frag} {N : List Addr} {H : Hp} : ∀ {ps : List (V × PyData)}, (∀ p ∈ ps, Dn K N H p.1 p.2) → DnL K N H (ps.map (·.1)) (ps.map (·.2))
  | [], _ => .nil
  | p :: ps, h => .cons (h p List.mem_cons_self) (dnl_pairs fun q hq => h q (List.mem_cons_of_mem _ hq))
theorem dnl_zip {K : PySem.W.Frag} {N : List Addr} {H : Hp} : ∀ {vs : List V} {ds : List PyData}, DnL K N H vs ds → ∀ p ∈ vs.zip ds, Dn K N H p.1 p.2
  | _, _, .nil => fun p hp => by cases hp
  | _, _, .cons a b => fun p hp => by
    rw [List.zip_cons_cons] at hp
    rcases List.mem_cons.mp hp with rfl | hp
    · exact a
    · exact dnl_zip b p hp
theorem de_sortedD {n : Nat} (B : Bl X.mg) (hu : X.A.units + 64 < cLine) (hg : Gl X "sorted") (h : De X ρ τ a fun x τ1 => ∃ ds : List PyData, datOf τ1 x = some (.list ds) ∧ PySem.W.AllAlike ds ∧ PySem.W.Sortable ds ∧ (∀ d ∈ ds, Pl n d) ∧
    ∀ es : List PyData, es.Perm ds → es.Pairwise (fun a b => PySem.W.dataLt b a = false) → Q (.val (.list es)) τ1) (hn : n ≤ 50 := by decide)
    (hs : starEach [a] X.env = (false, eval a X.env) :: starEach [] X.env := by rfl) : De X ρ τ (.Call (.Name "sorted" p1) [a] [] pos) Q :=
  de_callB (cr_sortedD hu) hg B.h_sorted (by decide +kernel) (da_one (h.mono fun x τ1 ⟨ds, e, hal, hso, hpl, q⟩ => .mk fun H vs o r QQ p => by
    obtain ⟨v, rfl, r1⟩ := paired1 r
    obtain ⟨l, xs, rfl, hq, dl⟩ := r1.seqL o e
    refine ⟨l, xs, ds, rfl, hq, dl.dp, hal, hso, fun d hd => Nat.le_trans (hpl d hd).dep (by omega), fun ps pa hperm hmap hnew => ?_⟩
    have hdn := dnl_pairs (ps := ps) fun p hp => dnl_zip dl p (hperm.mem_iff.mp hp)
    refine p.lst o hdn (q (ps.map (·.2)) ?_ ?_) pa hnew
    · rw [hmap]
      exact List.mergeSort_perm _ _
    · rw [hmap]
      exact dsort_asc ds) hs) hs rfl
end
end Dl

/-! sorted(set(l)), l a short list of ints -/
namespace Dl
open PySem PySem.Spec L2 PyProof.Rows
section
variable {P : Program} {w : World} {A : Around} {E : Value → Shared → Prop} {s : Shared}
/-- what set() makes first -/
abbrev bareSet (w : World) : Obj := { cls := .type "set", dict := none, data := .set #[] 0 (.fresh 0 0 (!w.params.followText "set-order")) }
theorem set_filled {p l : Addr} {us : Array Value} {ns : List Int} {Q : PySem.Fin → Shared → Prop} (hA : A.handled = none) (hp : s.heap.get? p = some (bareSet w)) (hl : s.heap.IsList l us) (hi : IntsAre us.toList ns)
    (hb : ns.length + 1 < scanBound) (hpl : p ≠ l) (q : ∀ (g : Heap) (tk c : Nat), SetR w g p (fun j => decide (j ∈ ns)) c → c ≤ ns.length → (∀ b o, b ≠ p → s.heap.get? b = some o → g.get? b = some o) → Q (.done (.ret .none)) { s with heap := g, toks := tk }) :
    wpAny (model P w) A (Builtin.«set.__init__» ⟨[.ref p, .ref l], []⟩) Q (fun e t => E e t) s := by
  have b1 := F.sub_list_set
  have b2 := F.sub_list_frozenset
  have b3 : (Value.type "list" == Value.type "dict") = false := by decide
  unfold Builtin.«set.__init__» noKeywords Builtin.Frozenset.updateFrom
  generalize hz : pyIter = it
  obtain ⟨x, hx, hc, n, hd⟩ := id hl
  obtain ⟨xc, xd, xo, xs⟩ := x
  dsimp only at hc hd
  subst hc hd
  wp_walk
  subst hz
  refine wpAny_pyIter_list hl (wpAny_bind (wpAny_runValue ?_))
  have pI := Heap.lt_size hp
  have lI := Heap.lt_size hx
  have hn : us.size = ns.length := by rw [← Array.length_toList]; exact IntsAre.length hi
  refine set_update_ints (Walks.list (show A.in1.handled = none by simp [hA]) s.heap.objs.size l (Nat.ne_of_lt lI) us).toS p ?_ ns hn hb ?_ us.size 0 _ rfl (Nat.zero_le _)
    ⟨⟨_, Heap.get?_push_size _ rfl, rfl, rfl⟩, hl.push _⟩ ⟨0, Nat.le_refl 0, setR_new_at (Heap.get?_push_of_some _ hp)⟩ ?_
  · intro z
    rcases List.mem_cons.mp z with z | z
    · exact absurd z (Nat.ne_of_lt pI)
    · exact hpl (List.mem_singleton.mp z)
  · intro i v e
    obtain ⟨t, et⟩ := IntsAre.int_at hi i v ((Array.getElem?_toList ..).trans e)
    have hil : i < ns.length := hn ▸ (Array.getElem?_eq_some_iff.mp e).1
    exact ⟨ns[i], t, List.getElem?_eq_getElem hil, by rw [et, List.getD_eq_getElem?_getD, List.getElem?_eq_getElem hil]; rfl⟩
  · rintro ⟨g, gg, dd, tk, oo⟩ c m hc R
    obtain ⟨m1, m2, m3, m4, _⟩ := m
    cases m2
    cases m3
    cases m4
    refine wpAny_pure (wpAny_pure (q g tk c R (hn ▸ hc) fun b o hbp e => ?_))
    refine m1 b o (fun z => ?_) (Heap.get?_push_of_some _ e)
    rcases List.mem_cons.mp z with z | z
    · exact hbp z
    · exact Nat.ne_of_lt (Heap.lt_size e) (List.mem_singleton.mp z)
theorem set_of_list {l : Addr} {us : Array Value} {ns : List Int} {Q : Value → Shared → Prop} (hA : A.handled = none) (hl : s.heap.IsList l us) (hi : IntsAre us.toList ns) (hb : ns.length + 1 < scanBound)
    (q : ∀ (g : Heap) (tk c : Nat), SetR w g s.heap.objs.size (fun j => decide (j ∈ ns)) c → c ≤ ns.length → (∀ b o, s.heap.get? b = some o → g.get? b = some o) → Q (.ref s.heap.objs.size) { s with heap := g, toks := tk }) :
    wpAny (model P w) A (call (.type "set") [.ref l]) Q E s := by
  obtain ⟨mc, ml, hmro⟩ := F.called_set.mro
  have c1 := F.called_set.made
  have c2 := F.called_set.sub
  have c3 := F.called_set.notType
  have c4 := F.called_set.canCreate
  have c5 := F.typeCall_set_1 (.ref l)
  have hp : (s.heap.push (bareSet w)).get? s.heap.objs.size = some (bareSet w) := Heap.get?_push_size _ rfl
  have hT : Shared.TypeIs { s with heap := s.heap.push (bareSet w) } (.ref s.heap.objs.size) "set" := ⟨_, hp, rfl⟩
  refine wpAny_call (codeAny_of_tree (?_ : wpAny _ _ (callAny (.type "set") _) _ _ _))
  refine wpAny_pure ⟨Code.quiet_builtin _ (by decide +kernel), codeAny_builtin F.entry_type_call ?_⟩
  rw [Around.under_plain (weight_type_call_type "set" [.ref l] []) rfl]
  repeat any_goals (first | assumption | wp_step)
  refine codeAny_mono (code_set_led1 (.ref l) (E := E) (Q₁ := fun v t => v = .ref s.heap.objs.size ∧ t = { s with heap := s.heap.push (bareSet w) }) ⟨rfl, rfl⟩) fun r t hr => ?_
  rcases r with e | f
  · exact hr
  cases f with
  | ret v =>
    obtain ⟨rfl, rfl⟩ := hr
    have c6 := F.called_set.init.lookup
    have c7 := F.called_set.init.bind (.ref s.heap.objs.size)
    repeat any_goals (first | assumption | wp_step)
    refine codeAny_call_builtin F.called_set.init.plain F.entry_set_init (check_set_init_1 hT ?_)
    have li := Heap.lt_size hl.choose_spec.1
    refine set_filled (by simp [hA]) hp (hl.push _) hi hb (fun z => Nat.ne_of_lt li z.symm) fun g tk c R hc k => ?_
    repeat any_goals (first | assumption | wp_step)
    exact q g tk c R hc fun b o e => k b o (Nat.ne_of_lt (Heap.lt_size e)) (Heap.get?_push_of_some _ e)
  | _ => exact hr.elim
end
section
variable {X : Cx}
def rSetL (K : PySem.W.Frag) (w : World) : List V → Hp → VK → Prop := fun vs H Q => ∃ (a : Addr) (ns : List Int), vs = [V.ref a] ∧ SqL K H a (ns.map V.int) ∧ ns.length ≤ 60 ∧
  ∀ (p : Addr) (S : Int → Bool) (n : Nat), H p = none → (∀ k, S k = true ↔ k ∈ ns) → n ≤ ns.length → Q (.ref p) (upd H p (SetO w p S n))
theorem cr_setL (hc : X.calm = true) : CallR X (.type "set") (rSetL X.K X.w) := by
  intro pins s σ H vs us Q I r h
  obtain ⟨a, ns, rfl, hs, hl, q⟩ := h
  obtain ⟨its, rv, ll, _⟩ := I.list hs
  rw [Vals.ref1 r]
  refine set_of_list (I.ok.hd hc) ll.isList rv.ints (by unfold scanBound; omega) fun g tk c R hcn k => ?_
  have hf : H s.heap.objs.size = none := I.hok.fresh (Nat.le_refl _)
  exact ⟨.ref s.heap.objs.size, _, I.laid (t' := tk) (fun b u e => k b u e) (Nat.le_refl _) (setO_new R), rfl, q _ _ c hf (fun j => decide_eq_true_iff) hcn⟩
end
section
variable {X : Cx} {ρ : En} {τ : Store} {Q : MV → Store → Prop} {pos p1 p2 p3 : Pos} {a : Expr}
theorem de_sortedSetL (B : Bl X.mg) (hc : X.calm = true) (hg : Gl X "sorted") (hg2 : Gl X "set") (h : De X ρ τ a fun x τ1 => ∃ ns : List Int, datOf τ1 x = some (.list (ns.map .int)) ∧ ns.length ≤ 60 ∧ ∀ ms : List Int, ms.Pairwise (· < ·) → (∀ k, k ∈ ms ↔ k ∈ ns) → Q (.val (.list (ms.map .int))) τ1)
    (hs : starEach [a] X.env = (false, eval a X.env) :: starEach [] X.env := by rfl) (hs2 : starEach [.Call (.Name "set" p2) [a] [] p3] X.env = (false, eval (.Call (.Name "set" p2) [a] [] p3) X.env) :: starEach [] X.env := by rfl) :
    De X ρ τ (.Call (.Name "sorted" p1) [.Call (.Name "set" p2) [a] [] p3] [] pos) Q := .mk fun σ H o l QQ p => by
  refine we_of (pe_callB (cr_sortedSet hc) hg B.h_sorted (by decide +kernel) (pa_cons (pe_callTy (cr_setL hc) hg2 B.h_set (by decide +kernel) (pa_cons pe_we pa_nil hs) (by decide) (by decide) hs rfl) pa_nil hs2) (by decide) (by decide) hs2 rfl) ?_
  refine h σ H o l _ fun v H1 x τ1 ⟨ns, ex, hl, q⟩ o1 r1 t1 => ?_
  obtain ⟨t, vs, rfl, ht, dl⟩ := r1.seqL o1 ex
  rw [dnl_ints dl] at ht
  refine ⟨t, ns, rfl, ht, hl, fun pa S n hpa hS hn => ?_⟩
  refine ⟨pa, S, n, rfl, upd_same, by omega, fun ms pb hms hmem hlen hpb => ?_⟩
  have t2 : Tr (dom τ1) H1 (dom τ1) (upd H1 pa (SetO X.w pa S n)) := Tr.new hpa
  have o2 := o1.new (o := SetO X.w pa S n) hpa
  exact ((p.step t1).step t2).lst o2 (DnL.of_ints (ns := ms)) (q ms hms fun k => (hmem k).trans (hS k)) pb hpb
end
end Dl
namespace TW
open PySem PySem.Spec L2 Dl
def topS (i : Nat) : Stmt := PySem.Challenge.pw_tidewindows_k60_whole_watching.main.body.getD i (.Pass ⟨0, 0, 0, 0⟩)
local macro_rules | `(tactic| walk_at "le") => `(tactic| exact Nat.le_of_ble_eq_true rfl)
/-- the answer of a test that is known, or both ways -/
local macro_rules | `(tactic| walk_at "bq") => `(tactic| first
  | refine ⟨fun _ => ?_, fun h => Bool.noConfusion (show true = false from h)⟩
  | refine ⟨fun h => Bool.noConfusion (show false = true from h), fun _ => ?_⟩
  | refine ⟨fun _ => ?_, fun h => absurd (of_decide_eq_false h) (by first | assumption | omega)⟩
  | refine ⟨fun h => absurd (of_decide_eq_true h) (by first | assumption | omega), fun _ => ?_⟩
  | refine ⟨fun _ => ?_, fun h => absurd h (by first | (simp [bneg]; done) | (simp [bneg]; omega))⟩
  | refine ⟨fun h => absurd h (by first | (simp [bneg]; done) | (simp [bneg]; omega)), fun _ => ?_⟩)
local macro_rules | `(tactic| walk_at "sd") => `(tactic| first
  | decide | omega | exact ⟨by first | decide | omega, by first | decide | omega⟩ | exact ⟨by decide, by decide, by decide⟩)
local macro_rules | `(tactic| walk_at "call") => `(tactic| first
  | refine de_len ‹Bl _› rfl ?_
  | refine de_tuple ‹Bl _› rfl ?_
  | refine de_list ‹Bl _› rfl ?_
  | refine de_isi_int ‹Bl _› rfl rfl ?_
  | refine de_isi_bool ‹Bl _› rfl rfl ?_
  | refine de_isi_tuple ‹Bl _› rfl rfl ?_
  | refine de_isi_str ‹Bl _› rfl rfl ?_
  | refine de_min2 ‹Bl _› rfl rfl ?_
  | refine de_max2 ‹Bl _› rfl rfl ?_
  | refine de_minL ‹Bl _› rfl rfl ?_
  | refine de_maxL ‹Bl _› rfl rfl ?_
  | refine de_abs ‹Bl _› rfl ?_
  | refine de_all ‹Bl _› rfl rfl ?_
  | refine de_any ‹Bl _› rfl rfl ?_
  | refine de_call ‹Knows _ _ _ _ _ _ _ _› ‹Room _ _› rfl ?_)
local macro_rules | `(tactic| walk_at "de") => `(tactic| first
  | ((with_reducible show De _ _ _ (.Name _ _) _); walk_at "nm")
  | ((with_reducible show De _ _ _ (.Constant _ _ _) _); with_reducible first | refine de_int ?_ | refine de_bool ?_ | refine de_none ?_ | refine de_str ?_)
  | ((with_reducible show De _ _ _ (.BinOp _ _ _ _) _); with_reducible first | refine de_plus ?_ | refine de_sub ?_ | refine de_times ?_ | refine de_mod ?_ | refine de_fdiv ?_ | refine de_pow ?_)
  | ((with_reducible show De _ _ _ (.Compare _ [_] _ _) _); first
      | with_reducible refine de_lt ?_ | with_reducible refine de_le ?_ | with_reducible refine de_gt ?_ | with_reducible refine de_ge ?_
      | with_reducible refine de_is ?_ | with_reducible refine de_isnot ?_ | refine de_eq (Room.units ‹Room _ _›) ?_ | refine de_ne (Room.units ‹Room _ _›) ?_ | refine de_in (Room.units65 ‹Room _ _›) ?_ | refine de_notin (Room.units65 ‹Room _ _›) ?_)
  | ((with_reducible show De _ _ _ (.Compare _ _ _ _) _); refine de_chain_le ?_)
  | ((with_reducible show De _ _ _ (.BoolOp _ _ _) _); with_reducible first | refine de_one ?_ | refine de_and ?_ | refine de_or ?_)
  | ((with_reducible show De _ _ _ (.UnaryOp _ _ _) _); with_reducible first | refine de_not ?_ | refine de_neg ?_)
  | ((with_reducible show De _ _ _ (.Call (.Name _ _) _ _ _) _); walk_at "call")
  | ((with_reducible show De _ _ _ (.Subscript _ (.Slice _ _ none _) _) _); with_reducible refine de_slice ?_)
  | ((with_reducible show De _ _ _ (.Subscript _ (.Slice _ _ (some _) _) _) _); refine de_revT ?_)
  | ((with_reducible show De _ _ _ (.Subscript _ _ _) _); refine de_ix ?_)
  | ((with_reducible show De _ _ _ (.IfExp _ _ _ _) _); with_reducible refine de_ifexp ?_)
  | ((with_reducible show De _ _ _ (.Tuple _ _ _) _); with_reducible refine de_tup ?_)
  | ((with_reducible show De _ _ _ (.List _ _) _); with_reducible refine de_lst ?_))
local macro_rules | `(tactic| walk_at "dt") => `(tactic| first
  | ((with_reducible show Dt _ _ _ (.BoolOp _ _ _) _); with_reducible refine dt_bool ?_)
  | ((with_reducible show Dw _ _ _ _ _); with_reducible first | refine dw_and ?_ | refine dw_and1 ?_ | refine dw_or ?_ | refine dw_or1 ?_)
  | ((with_reducible show Dt _ _ _ (.UnaryOp _ _ _) _); with_reducible refine dt_not ?_)
  | ((with_reducible show Dt _ _ _ (.Compare _ [_] _ _) _); first
      | with_reducible refine dt_lt ?_ | with_reducible refine dt_le ?_ | with_reducible refine dt_gt ?_ | with_reducible refine dt_ge ?_
      | with_reducible refine dt_is ?_ | with_reducible refine dt_isnot ?_ | refine dt_eq (Room.units ‹Room _ _›) ?_ | refine dt_ne (Room.units ‹Room _ _›) ?_ | refine dt_in (Room.units65 ‹Room _ _›) ?_ | refine dt_notin (Room.units65 ‹Room _ _›) ?_)
  | ((with_reducible show Dt _ _ _ (.Compare _ _ _ _) _); refine dt_chain_le ?_)
  | refine dt_val ?_)
local macro_rules | `(tactic| walk_at "ds") => `(tactic| first
  | ((with_reducible show Ds _ _ _ (.Return (some _) _) _); with_reducible refine ds_ret ?_)
  | ((with_reducible show Ds _ _ _ (.Assign [.Name _ _] _ _) _); walk_at "st")
  | ((with_reducible show Ds _ _ _ (.If _ _ _ _) _); with_reducible refine ds_if ?_)
  | ((with_reducible show Ds _ _ _ (.Expr _ _) _); refine ds_expr ?_)
  | with_reducible refine ds_retN ?_
  | with_reducible refine ds_pass ?_)
local macro_rules | `(tactic| walk_at "db") => `(tactic| first | refine db_one ?_ | refine db_cons ?_ | refine db_nil ?_)
local macro_rules | `(tactic| walk_at "ex") => `(tactic| first
  | ((with_reducible show PlusD _ _ _ _ _); with_reducible refine plus_int ?_)
  | ((with_reducible show TimesD _ _ _ _ _); with_reducible refine times_int (by first | decide | omega) ?_)
  | ((with_reducible show EqD _ _ _ _ _ _); with_reducible refine eq_int ?_)
  | ((with_reducible show IsD _ _ _ _ _ _); with_reducible first | refine is_none ?_ | refine is_bool ?_)
  | ((with_reducible show LenD _ _ _ _); first | refine len_tup ?_ | refine len_lst rfl ?_)
  | ((with_reducible show TupD _ _ _ _); first | with_reducible refine tup_tup ?_ | refine tup_lst rfl ?_)
  | ((with_reducible show LstD _ _ _ _); refine lst_lst rfl ?_)
  | ((with_reducible show SlD _ _ _ _ _ _); first | refine sl_tup' ?_ | refine sl_lst rfl ?_)
  | ((with_reducible show IxD _ _ _ _ _); refine ix_tup' rfl ?_)
  | ((with_reducible show Do _ _ _ none _); refine (show _ from ?_)))
local macro_rules | `(tactic| walk_at "exq") => `(tactic| first
  | refine ⟨_, _, rfl, rfl, (And.left (b := True) ⟨by walk_at "sd", trivial⟩), ?_⟩
  | refine ⟨_, _, rfl, rfl, ?_⟩
  | refine ⟨_, rfl, (by exact Nat.le_of_ble_eq_true rfl), ?_⟩
  | refine ⟨_, rfl, ?_⟩)
/-- go on as far as it goes by itself -/
local macro_rules | `(tactic| walk_at "g1") => `(tactic| first
  | ((with_reducible show De _ _ _ _ _); walk_at "de")
  | ((with_reducible show Da _ _ _ _ _); first | with_reducible refine da_nil ?_ | refine da_cons ?_)
  | ((with_reducible show Do _ _ _ _ _); with_reducible first | refine do_none ?_ | refine do_some ?_)
  | ((with_reducible show Dt _ _ _ _ _); walk_at "dt")
  | ((with_reducible show Dw _ _ _ _ _); walk_at "dt")
  | ((with_reducible show Ds _ _ _ _ _); walk_at "ds")
  | ((with_reducible show Db _ _ _ _ _); walk_at "db")
  | ((with_reducible show (_ = true → _) ∧ (_ = false → _)); walk_at "bq")
  | ((with_reducible show Exists _); walk_at "exq")
  | walk_at "ex")
local macro_rules | `(tactic| walk_at "go") => `(tactic| repeat walk_at "g1")
/-- go on up to the next block -/
local macro_rules | `(tactic| walk_at "gb") => `(tactic| repeat ((fail_if_success (with_reducible show Db _ _ _ _ _)); walk_at "g1"))
/-- go on up to a call of min or max, or the next block -/
local macro_rules | `(tactic| walk_at "gm") => `(tactic| repeat ((fail_if_success (with_reducible show De _ _ _ (.Call (.Name "min" _) _ _ _) _)); (fail_if_success (with_reducible show De _ _ _ (.Call (.Name "max" _) _ _ _) _)); walk_at "g1"))

/-! ### channels as data -/
structure Chan where
  bars : List (List Int)
  legs : List Int
  waits : List Int
  deriving DecidableEq
def tI (xs : List Int) : PyData := .tuple (xs.map .int)
def chD (c : Chan) : PyData := .tuple [.tuple (c.bars.map tI), tI c.legs, tI c.waits]
structure ChOk (c : Chan) : Prop where
  b1 : 1 ≤ c.bars.length
  b3 : c.bars.length ≤ 3
  bl : ∀ b ∈ c.bars, 1 ≤ b.length ∧ b.length ≤ 8
  bv : ∀ b ∈ c.bars, ∀ x ∈ b, 0 ≤ x ∧ x ≤ 6
  ll : c.legs.length = c.bars.length - 1
  lv : ∀ x ∈ c.legs, 1 ≤ x ∧ x ≤ 9
  wl : c.waits.length = c.bars.length - 1
  wv : ∀ x ∈ c.waits, 0 ≤ x ∧ x ≤ 3
/-- tuples are short, some levels down -/
def Sm : Nat → PyData → Prop
  | n + 1, .tuple xs => xs.length ≤ 100000 ∧ ∀ x ∈ xs, Sm n x
  | 0, .tuple xs => xs.length ≤ 100000
  | _, _ => True
def isBetween : PyData → Int → Int → Bool
  | .int i, lo, hi => decide (lo ≤ i) && decide (i ≤ hi)
  | _, _, _ => false
def areBetween (d : PyData) (n lo hi : Int) : Bool := match d with
  | .tuple ds => decide ((ds.length : Int) = n) && ds.all (fun x => isBetween x lo hi)
  | _ => false
def isBar (d : PyData) : Bool := match d with
  | .tuple ds => decide (1 ≤ (ds.length : Int)) && decide ((ds.length : Int) ≤ 8) && areBetween d ds.length 0 6
  | _ => false
def isChannel (d : PyData) : Bool := match d with
  | .tuple [.tuple bs, legs, waits] => decide (1 ≤ (bs.length : Int)) && decide ((bs.length : Int) ≤ 3) && bs.all isBar && areBetween legs (bs.length - 1) 1 9 && areBetween waits (bs.length - 1) 0 3
  | _ => false
theorem areBetween_tI (xs : List Int) (n lo hi : Int) (hn : (xs.length : Int) = n) (h : ∀ x ∈ xs, lo ≤ x ∧ x ≤ hi) : areBetween (tI xs) n lo hi = true := by
  unfold tI areBetween
  simp only [List.length_map]
  rw [decide_eq_true hn, Bool.true_and, List.all_eq_true]
  intro d hd
  obtain ⟨x, hx, rfl⟩ := List.mem_map.mp hd
  have := h x hx
  simp [isBetween, this.1, this.2]
theorem isChannel_ok {c : Chan} (h : ChOk c) : isChannel (chD c) = true := by
  have e1 : areBetween (tI c.legs) ((c.bars.map tI).length - 1) 1 9 = true := areBetween_tI _ _ _ _ (by rw [List.length_map, h.ll]; have := h.b1; omega) h.lv
  have e2 : areBetween (tI c.waits) ((c.bars.map tI).length - 1) 0 3 = true := areBetween_tI _ _ _ _ (by rw [List.length_map, h.wl]; have := h.b1; omega) h.wv
  have e3 : (c.bars.map tI).all isBar = true := by
    rw [List.all_eq_true]
    intro d hd
    obtain ⟨b, hb, rfl⟩ := List.mem_map.mp hd
    have e := areBetween_tI b b.length 0 6 rfl (h.bv b hb)
    have hl := h.bl b hb
    have e' : areBetween (.tuple (b.map .int)) ((b.map PyData.int).length : Nat) 0 6 = true := by
      rw [List.length_map]
      exact e
    show (decide (1 ≤ ((b.map PyData.int).length : Int)) && decide (((b.map PyData.int).length : Int) ≤ 8) && areBetween (.tuple (b.map .int)) ((b.map PyData.int).length : Nat) 0 6) = true
    rw [e', List.length_map, decide_eq_true (by omega), decide_eq_true (by omega)]
    rfl
  show (decide (1 ≤ ((c.bars.map tI).length : Int)) && decide (((c.bars.map tI).length : Int) ≤ 3) && (c.bars.map tI).all isBar && areBetween (tI c.legs) ((c.bars.map tI).length - 1) 1 9 && areBetween (tI c.waits) ((c.bars.map tI).length - 1) 0 3) = true
  rw [e1, e2, e3, List.length_map, decide_eq_true (by have := h.b1; omega), decide_eq_true (by have := h.b3; omega)]
  rfl
theorem sm_tI {n : Nat} (xs : List Int) (h : xs.length ≤ 100000) : Sm n (tI xs) := by
  cases n with
  | zero => show (xs.map PyData.int).length ≤ 100000; rw [List.length_map]; exact h
  | succ n =>
    refine ⟨by rw [List.length_map]; exact h, fun x hx => ?_⟩
    obtain ⟨y, _, rfl⟩ := List.mem_map.mp hx
    cases n <;> trivial
theorem sm_chD {c : Chan} (h : ChOk c) : Sm 3 (chD c) := by
  refine ⟨Nat.le_of_ble_eq_true rfl, fun x hx => ?_⟩
  simp only [List.mem_cons, List.not_mem_nil, or_false] at hx
  have := h.b3
  rcases hx with rfl | rfl | rfl
  · refine ⟨by rw [List.length_map]; omega, fun y hy => ?_⟩
    obtain ⟨b, hb, rfl⟩ := List.mem_map.mp hy
    exact sm_tI b (by have := h.bl b hb; omega)
  · exact sm_tI _ (by have := h.ll; omega)
  · exact sm_tI _ (by have := h.wl; omega)
/-! what the defs give -/
def periodOf (c : Chan) : Nat := c.bars.foldl (fun a b => Nat.lcm a b.length) 1
def barAt (c : Chan) (j : Nat) : List Int := c.bars.getD j []
def depthOf (c : Chan) (j : Nat) (h : Int) : Int := (barAt c j).getD (h % ((barAt c j).length : Int)).toNat 0
def backOf (c : Chan) : Chan := ⟨c.bars.reverse, c.legs.reverse, c.waits.reverse⟩
def shiftBar (hours : Int) (b : List Int) : List Int := (List.range b.length).map fun (h : Nat) => b.getD (((h : Int) - hours) % (b.length : Int)).toNat 0
def shifted (c : Chan) (hours : Int) : Chan := ⟨c.bars.map (shiftBar hours), c.legs, c.waits⟩
theorem ChOk.back {c : Chan} (h : ChOk c) : ChOk (backOf c) := ⟨by simpa [backOf] using h.b1, by simpa [backOf] using h.b3, by simpa [backOf] using h.bl, by simpa [backOf] using h.bv, by simpa [backOf] using h.ll, by simpa [backOf] using h.lv, by simpa [backOf] using h.wl, by simpa [backOf] using h.wv⟩
theorem getD_mem {xs : List Int} {i : Nat} (h : i < xs.length) : xs.getD i 0 ∈ xs := by
  rw [List.getD_eq_getElem?_getD, List.getElem?_eq_getElem h]
  exact List.getElem_mem h
theorem mod_lt_len {b : List Int} (h : 1 ≤ b.length) (x : Int) : (x % (b.length : Int)).toNat < b.length := by
  have := Int.emod_nonneg x (show (b.length : Int) ≠ 0 by omega)
  have := Int.emod_lt_of_pos x (show (0 : Int) < b.length by omega)
  omega
theorem ChOk.shift {c : Chan} (h : ChOk c) (hours : Int) : ChOk (shifted c hours) := by
  refine ⟨by simpa [shifted] using h.b1, by simpa [shifted] using h.b3, ?_, ?_, by simpa [shifted] using h.ll, h.lv, by simpa [shifted] using h.wl, h.wv⟩
  · intro b hb
    obtain ⟨b', hb', rfl⟩ := List.mem_map.mp hb
    simpa [shiftBar] using h.bl b' hb'
  · intro b hb x hx
    obtain ⟨b', hb', rfl⟩ := List.mem_map.mp hb
    obtain ⟨i, hi, rfl⟩ := List.mem_map.mp hx
    exact h.bv b' hb' _ (getD_mem (mod_lt_len (h.bl b' hb').1 _))
theorem barAt_mem {c : Chan} {j : Nat} (hj : j < c.bars.length) : barAt c j ∈ c.bars := by
  unfold barAt
  rw [List.getD_eq_getElem?_getD, List.getElem?_eq_getElem hj]
  exact List.getElem_mem hj
theorem atI_bar {c : Chan} {j : Nat} (hj : j < c.bars.length) : atI (c.bars.map tI) (j : Int) = some (tI (barAt c j)) := by
  refine atI_nat ?_
  rw [List.getElem?_map, List.getElem?_eq_getElem hj]
  unfold barAt
  rw [List.getD_eq_getElem?_getD, List.getElem?_eq_getElem hj]
  rfl
theorem atI_int {xs : List Int} {i : Int} (h0 : 0 ≤ i) (h1 : i < xs.length) : atI (xs.map PyData.int) i = some (.int (xs.getD i.toNat 0)) := by
  have e : i = (i.toNat : Int) := by omega
  rw [e]
  refine atI_nat ?_
  rw [List.getElem?_map, List.getElem?_eq_getElem (by omega), List.getD_eq_getElem?_getD, List.getElem?_eq_getElem (by omega)]
  rfl

/-! ### the defs of channels.py -/
section
variable {P : Program} {w : World} {K : PySem.W.Frag} {mg : Str → Option Value} {base : Heap}
def cBetween : Ctr := fun svs τ Q => ∃ d lo hi, svs = [.val d, .val (.int lo), .val (.int hi)] ∧ Q (.val (.bool (isBetween d lo hi))) τ
abbrev s_is_between : Stmt := topS 7
theorem sc_is_between : FnScope ["value", "low", "high"] ["value", "low", "high"] (defScope s_is_between) := ⟨rfl, rfl, rfl, by decide +kernel, rfl, by decide +kernel, by decide +kernel⟩
local macro_rules | `(tactic| walk_at "nm") => `(tactic| first
  | with_reducible refine de_name (x := "value") 0 (by with_unfolding_all rfl) (by with_unfolding_all first | exact Or.inl rfl | exact Or.inr (Or.inl rfl) | exact Or.inr (Or.inr rfl)) (by with_unfolding_all rfl) ?_ (by with_unfolding_all decide) (by with_unfolding_all decide)
  | with_reducible refine de_name (x := "low") 1 (by with_unfolding_all rfl) (by with_unfolding_all first | exact Or.inl rfl | exact Or.inr (Or.inl rfl) | exact Or.inr (Or.inr rfl)) (by with_unfolding_all rfl) ?_ (by with_unfolding_all decide) (by with_unfolding_all decide)
  | with_reducible refine de_name (x := "high") 2 (by with_unfolding_all rfl) (by with_unfolding_all first | exact Or.inl rfl | exact Or.inr (Or.inl rfl) | exact Or.inr (Or.inr rfl)) (by with_unfolding_all rfl) ?_ (by with_unfolding_all decide) (by with_unfolding_all decide))
local macro_rules | `(tactic| walk_at "st") => `(tactic| first
  | with_reducible refine ds_set (x := "value") 0 (by with_unfolding_all exact sc_is_between.nd) (by with_unfolding_all rfl) (by with_unfolding_all first | exact Or.inl rfl | exact Or.inr rfl) ?_ (by with_unfolding_all rfl) (by with_unfolding_all first | exact .inl rfl | exact .inr rfl)
  | with_reducible refine ds_set (x := "low") 1 (by with_unfolding_all exact sc_is_between.nd) (by with_unfolding_all rfl) (by with_unfolding_all first | exact Or.inl rfl | exact Or.inr rfl) ?_ (by with_unfolding_all rfl) (by with_unfolding_all first | exact .inl rfl | exact .inr rfl)
  | with_reducible refine ds_set (x := "high") 2 (by with_unfolding_all exact sc_is_between.nd) (by with_unfolding_all rfl) (by with_unfolding_all first | exact Or.inl rfl | exact Or.inr rfl) ?_ (by with_unfolding_all rfl) (by with_unfolding_all first | exact .inl rfl | exact .inr rfl))



theorem kn_is_between (D : HasDef K mg "is_between" s_is_between ["value", "low", "high"]) (B : Bl mg) : Knows P w K mg base 1 "is_between" cBetween := by
  refine knows_mk D sc_is_between (fun _ _ _ ⟨_, _, _, e, _⟩ => by rw [e]; rfl) (fun f cdv A outer s H E hr svs τ Q hC => ?_)
  obtain ⟨d, lo, hi, rfl, q⟩ := hC
  cases d
  case int i =>
    walk_at "go"
    refine ⟨fun h => ?_, fun h => ?_⟩
    · walk_at "go"
      simpa [isBetween, h] using q
    · simpa [isBetween, h] using q
  all_goals (walk_at "go"; exact q)
def cAre : Ctr := fun svs τ Q => ∃ d n lo hi, svs = [.val d, .val (.int n), .val (.int lo), .val (.int hi)] ∧ Sm 0 d ∧ Q (.val (.bool (areBetween d n lo hi))) τ
abbrev s_are_between : Stmt := topS 8
theorem sc_are_between : FnScope ["value", "size", "low", "high", "one"] ["value", "size", "low", "high"] (defScope s_are_between) := ⟨rfl, rfl, rfl, by decide +kernel, rfl, by decide +kernel, by decide +kernel⟩
local macro_rules | `(tactic| walk_at "nm") => `(tactic| first
  | with_reducible refine de_name (x := "value") 0 (by with_unfolding_all rfl) (by with_unfolding_all first | exact Or.inl rfl | exact Or.inr (Or.inl rfl) | exact Or.inr (Or.inr rfl)) (by with_unfolding_all rfl) ?_ (by with_unfolding_all decide) (by with_unfolding_all decide)
  | with_reducible refine de_name (x := "size") 1 (by with_unfolding_all rfl) (by with_unfolding_all first | exact Or.inl rfl | exact Or.inr (Or.inl rfl) | exact Or.inr (Or.inr rfl)) (by with_unfolding_all rfl) ?_ (by with_unfolding_all decide) (by with_unfolding_all decide)
  | with_reducible refine de_name (x := "low") 2 (by with_unfolding_all rfl) (by with_unfolding_all first | exact Or.inl rfl | exact Or.inr (Or.inl rfl) | exact Or.inr (Or.inr rfl)) (by with_unfolding_all rfl) ?_ (by with_unfolding_all decide) (by with_unfolding_all decide)
  | with_reducible refine de_name (x := "high") 3 (by with_unfolding_all rfl) (by with_unfolding_all first | exact Or.inl rfl | exact Or.inr (Or.inl rfl) | exact Or.inr (Or.inr rfl)) (by with_unfolding_all rfl) ?_ (by with_unfolding_all decide) (by with_unfolding_all decide)
  | with_reducible refine de_name (x := "one") 4 (by with_unfolding_all rfl) (by with_unfolding_all first | exact Or.inl rfl | exact Or.inr (Or.inl rfl) | exact Or.inr (Or.inr rfl)) (by with_unfolding_all rfl) ?_ (by with_unfolding_all decide) (by with_unfolding_all decide))
local macro_rules | `(tactic| walk_at "st") => `(tactic| first
  | with_reducible refine ds_set (x := "value") 0 (by with_unfolding_all exact sc_are_between.nd) (by with_unfolding_all rfl) (by with_unfolding_all first | exact Or.inl rfl | exact Or.inr rfl) ?_ (by with_unfolding_all rfl) (by with_unfolding_all first | exact .inl rfl | exact .inr rfl)
  | with_reducible refine ds_set (x := "size") 1 (by with_unfolding_all exact sc_are_between.nd) (by with_unfolding_all rfl) (by with_unfolding_all first | exact Or.inl rfl | exact Or.inr rfl) ?_ (by with_unfolding_all rfl) (by with_unfolding_all first | exact .inl rfl | exact .inr rfl)
  | with_reducible refine ds_set (x := "low") 2 (by with_unfolding_all exact sc_are_between.nd) (by with_unfolding_all rfl) (by with_unfolding_all first | exact Or.inl rfl | exact Or.inr rfl) ?_ (by with_unfolding_all rfl) (by with_unfolding_all first | exact .inl rfl | exact .inr rfl)
  | with_reducible refine ds_set (x := "high") 3 (by with_unfolding_all exact sc_are_between.nd) (by with_unfolding_all rfl) (by with_unfolding_all first | exact Or.inl rfl | exact Or.inr rfl) ?_ (by with_unfolding_all rfl) (by with_unfolding_all first | exact .inl rfl | exact .inr rfl)
  | with_reducible refine ds_set (x := "one") 4 (by with_unfolding_all exact sc_are_between.nd) (by with_unfolding_all rfl) (by with_unfolding_all first | exact Or.inl rfl | exact Or.inr rfl) ?_ (by with_unfolding_all rfl) (by with_unfolding_all first | exact .inl rfl | exact .inr rfl))

local macro_rules | `(tactic| walk_at "lc one") => `(tactic| refine de_lc (t := .name 4) (own := [("one", 4)]) rfl sc_are_between.nd (by first | exact blkOk_by (N := ["value", "size", "low", "high", "one"]) (sc := defScope s_are_between) (by decide +kernel) | exact blkOk_by (N := ["value", "size", "low", "high", "one"]) (sc := relS _ (defScope s_are_between)) (by decide +kernel)) (by decide) (fun _ _ _ _ _ => pgx_name sc_are_between.nd rfl (by first | exact Or.inl rfl | exact Or.inr rfl)) ?_)

theorem kn_are_between (D : HasDef K mg "are_between" s_are_between ["value", "size", "low", "high"]) (B : Bl mg) (k1 : Knows P w K mg base 1 "is_between" cBetween) : Knows P w K mg base 2 "are_between" cAre := by
  refine knows_mk D sc_are_between (fun _ _ _ ⟨_, _, _, _, e, _⟩ => by rw [e]; rfl) (fun f cdv A outer s H E hr svs τ Q hC => ?_)
  obtain ⟨d, n, lo, hi, rfl, hs, q⟩ := hC
  cases d
  case tuple ds =>
    have hs : ds.length ≤ 100000 := hs
    walk_at "go"
    refine ⟨fun h => ?_, fun h => ?_⟩
    · walk_at "go"
      walk_at "lc one"
      refine di_tup ?_
      walk_at "go"
      refine lcq_map ds id (fun x => .bool (isBetween x lo hi)) (List.map_id ds).symm (by omega) (fun x hx => ⟨_, rfl, fun D acc hD s H C cl fp => ?_⟩) ?_
      · walk_at "go"
        exact ⟨_, _, _, rfl, rfl, rfl⟩
      · refine ⟨ds.map fun x => isBetween x lo hi, ?_, ?_⟩
        · show some _ = some _
          rw [List.map_map]
          rfl
        · have e : areBetween (.tuple ds) n lo hi = (ds.map fun x => isBetween x lo hi).all id := by
            unfold areBetween
            simp only
            have h' : decide ((ds.length : Int) = n) = true := h
            rw [h', List.all_map]
            rfl
          rw [← e]
          exact q
    · have h' : decide ((ds.length : Int) = n) = false := h
      have e : areBetween (.tuple ds) n lo hi = false := by
        unfold areBetween
        simp only
        rw [h']
        rfl
      rw [e] at q
      exact q
  all_goals (walk_at "go"; exact q)

def cIsCh : Ctr := fun svs τ Q => ∃ d, svs = [.val d] ∧ Sm 3 d ∧ Q (.val (.bool (isChannel d))) τ
abbrev s_is_channel : Stmt := topS 9
theorem sc_is_channel : FnScope ["value", "bars", "legs", "waits", "bar"] ["value"] (defScope s_is_channel) := ⟨rfl, rfl, rfl, by decide +kernel, rfl, by decide +kernel, by decide +kernel⟩
local macro_rules | `(tactic| walk_at "nm") => `(tactic| first
  | with_reducible refine de_name (x := "value") 0 (by with_unfolding_all rfl) (by with_unfolding_all first | exact Or.inl rfl | exact Or.inr (Or.inl rfl) | exact Or.inr (Or.inr rfl)) (by with_unfolding_all rfl) ?_ (by with_unfolding_all decide) (by with_unfolding_all decide)
  | with_reducible refine de_name (x := "bars") 1 (by with_unfolding_all rfl) (by with_unfolding_all first | exact Or.inl rfl | exact Or.inr (Or.inl rfl) | exact Or.inr (Or.inr rfl)) (by with_unfolding_all rfl) ?_ (by with_unfolding_all decide) (by with_unfolding_all decide)
  | with_reducible refine de_name (x := "legs") 2 (by with_unfolding_all rfl) (by with_unfolding_all first | exact Or.inl rfl | exact Or.inr (Or.inl rfl) | exact Or.inr (Or.inr rfl)) (by with_unfolding_all rfl) ?_ (by with_unfolding_all decide) (by with_unfolding_all decide)
  | with_reducible refine de_name (x := "waits") 3 (by with_unfolding_all rfl) (by with_unfolding_all first | exact Or.inl rfl | exact Or.inr (Or.inl rfl) | exact Or.inr (Or.inr rfl)) (by with_unfolding_all rfl) ?_ (by with_unfolding_all decide) (by with_unfolding_all decide)
  | with_reducible refine de_name (x := "bar") 4 (by with_unfolding_all rfl) (by with_unfolding_all first | exact Or.inl rfl | exact Or.inr (Or.inl rfl) | exact Or.inr (Or.inr rfl)) (by with_unfolding_all rfl) ?_ (by with_unfolding_all decide) (by with_unfolding_all decide))
local macro_rules | `(tactic| walk_at "st") => `(tactic| first
  | with_reducible refine ds_set (x := "value") 0 (by with_unfolding_all exact sc_is_channel.nd) (by with_unfolding_all rfl) (by with_unfolding_all first | exact Or.inl rfl | exact Or.inr rfl) ?_ (by with_unfolding_all rfl) (by with_unfolding_all first | exact .inl rfl | exact .inr rfl)
  | with_reducible refine ds_set (x := "bars") 1 (by with_unfolding_all exact sc_is_channel.nd) (by with_unfolding_all rfl) (by with_unfolding_all first | exact Or.inl rfl | exact Or.inr rfl) ?_ (by with_unfolding_all rfl) (by with_unfolding_all first | exact .inl rfl | exact .inr rfl)
  | with_reducible refine ds_set (x := "legs") 2 (by with_unfolding_all exact sc_is_channel.nd) (by with_unfolding_all rfl) (by with_unfolding_all first | exact Or.inl rfl | exact Or.inr rfl) ?_ (by with_unfolding_all rfl) (by with_unfolding_all first | exact .inl rfl | exact .inr rfl)
  | with_reducible refine ds_set (x := "waits") 3 (by with_unfolding_all exact sc_is_channel.nd) (by with_unfolding_all rfl) (by with_unfolding_all first | exact Or.inl rfl | exact Or.inr rfl) ?_ (by with_unfolding_all rfl) (by with_unfolding_all first | exact .inl rfl | exact .inr rfl)
  | with_reducible refine ds_set (x := "bar") 4 (by with_unfolding_all exact sc_is_channel.nd) (by with_unfolding_all rfl) (by with_unfolding_all first | exact Or.inl rfl | exact Or.inr rfl) ?_ (by with_unfolding_all rfl) (by with_unfolding_all first | exact .inl rfl | exact .inr rfl))



theorem isChannel_no {ds : List PyData} (h : (ds.length : Int) ≠ 3) : isChannel (.tuple ds) = false := by
  unfold isChannel
  split
  · rename_i heq
    cases heq
    exact absurd rfl h
  · rfl
theorem isBar_no {d : PyData} (h : ∀ ds, d ≠ .tuple ds) : isBar d = false := by
  cases d <;> first | rfl | exact absurd rfl (h _)
theorem all_take {α : Type} {p : α → Bool} {xs : List α} {i : Nat} {x : α} (h : xs[i]? = some x) : (xs.take (i + 1)).all p = ((xs.take i).all p && p x) := by
  rw [List.take_add_one, h, List.all_append]
  simp
theorem all_false {α : Type} {p : α → Bool} {xs : List α} {i : Nat} {x : α} (h : xs[i]? = some x) (hp : p x = false) : xs.all p = false := by
  cases e : xs.all p with
  | false => rfl
  | true =>
    rw [List.all_eq_true] at e
    rw [e x (List.mem_of_getElem? h)] at hp
    cases hp
theorem kn_is_channel (D : HasDef K mg "is_channel" s_is_channel ["value"]) (B : Bl mg) (k2 : Knows P w K mg base 2 "are_between" cAre) : Knows P w K mg base 3 "is_channel" cIsCh := by
  refine knows_mk D sc_is_channel (fun _ _ _ ⟨_, e, _⟩ => by rw [e]; rfl) (fun f cdv A outer s H E hr svs τ Q hC => ?_)
  obtain ⟨d, rfl, hs, q⟩ := hC
  cases d
  case tuple ds =>
    walk_at "go"
    refine ⟨fun h => ?_, fun h => ?_⟩
    · have h' : (ds.length : Int) ≠ 3 := by simpa [bneg] using h
      rw [isChannel_no h'] at q
      walk_at "go"
      exact q
    · have h' : (ds.length : Int) = 3 := by simpa [bneg] using h
      match ds, h', hs, q with
      | [bars, legs, waits], _, hs, q =>
      walk_at "go"
      refine ds_asg (t := .tup [1, 2, 3]) (pgx_tup3 rfl (pg_name sc_is_channel.nd rfl (Or.inl rfl)) (pg_name sc_is_channel.nd rfl (Or.inl rfl)) (pg_name sc_is_channel.nd rfl (Or.inl rfl))) ?_
      walk_at "go"
      have hm : ∀ x ∈ [bars, legs, waits], Sm 2 x := hs.2
      have sb : Sm 2 bars := hm _ (by simp)
      have sl : Sm 2 legs := hm _ (by simp)
      have sw : Sm 2 waits := hm _ (by simp)
      have sl0 : Sm 0 legs := by cases legs <;> first | exact sl.1 | trivial
      have sw0 : Sm 0 waits := by cases waits <;> first | exact sw.1 | trivial
      cases bars with
      | tuple bs =>
        walk_at "go"
        have sb' : bs.length ≤ 100000 ∧ ∀ x ∈ bs, Sm 1 x := sb
        have out : ∀ {k : Bool}, isChannel (.tuple [.tuple bs, legs, waits]) = k → Q (.val (.bool k)) τ := fun e => by rw [← e]; exact q
        have eq : isChannel (.tuple [.tuple bs, legs, waits]) = (decide (1 ≤ (bs.length : Int)) && decide ((bs.length : Int) ≤ 3) && bs.all isBar && areBetween legs (bs.length - 1) 1 9 && areBetween waits (bs.length - 1) 0 3) := rfl
        refine ⟨fun h1 => ?_, fun h1 => ?_⟩
        · walk_at "go"
          refine ⟨fun h2 => ?_, fun h2 => ?_⟩
          · walk_at "go"
            refine out ?_
            rw [eq]
            have h2 : decide ((bs.length : Int) ≤ 3) = false := by simpa using h2
            rw [h2]
            simp
          · have h2 : decide ((bs.length : Int) ≤ 3) = true := by simpa using h2
            walk_at "go"
            refine ds_for (t := .name 4) rfl PassesOwn.never (pgx_name sc_is_channel.nd rfl (Or.inl rfl)) (di_tup ?_)
            walk_at "go"
            refine ⟨fun i ρ' τ' => τ' = τ ∧ (bs.take i).all isBar = true ∧ ∃ v, ρ' = [some (.val (.tuple [.tuple bs, legs, waits])), some (.val (.tuple bs)), some (.val legs), some (.val waits), v], ⟨rfl, rfl, none, rfl⟩, fun _ _ _ _ => trivial, ?_, ?_⟩
            · rintro i d ρ' τ' hd ⟨rfl, ha, v, rfl⟩
              refine ⟨_, rfl, ?_⟩
              have sd := sb'.2 d (List.mem_of_getElem? hd)
              have bad : isBar d = false → Q (.val (.bool false)) τ' := fun e => out (by rw [eq, all_false hd e]; simp)
              have good : isBar d = true → (bs.take (i + 1)).all isBar = true := fun e => by rw [all_take hd, ha, e]; rfl
              cases d with
              | tuple xs =>
                have eb : isBar (.tuple xs) = (decide (1 ≤ (xs.length : Int)) && decide ((xs.length : Int) ≤ 8) && areBetween (.tuple xs) xs.length 0 6) := rfl
                walk_at "go"
                refine ⟨fun h3 => ?_, fun h3 => ?_⟩
                · walk_at "go"
                  refine ⟨fun h4 => ?_, fun h4 => ?_⟩
                  · have h4 : decide ((xs.length : Int) ≤ 8) = false := by simpa using h4
                    walk_at "go"
                    exact bad (by rw [eb, h4]; simp)
                  · have h4 : decide ((xs.length : Int) ≤ 8) = true := by simpa using h4
                    walk_at "go"
                    refine ⟨_, _, _, _, rfl, sd.1, _, rfl, ?_⟩
                    refine ⟨fun h5 => ?_, fun h5 => ?_⟩
                    · have h5 : areBetween (.tuple xs) xs.length 0 6 = false := by simpa using h5
                      walk_at "go"
                      exact bad (by rw [eb, h5]; simp)
                    · have h5 : areBetween (.tuple xs) xs.length 0 6 = true := by simpa using h5
                      have h3' : decide (1 ≤ (xs.length : Int)) = true := h3
                      walk_at "go"
                      exact ⟨rfl, good (by rw [eb, h5, h4, h3']; rfl), _, rfl⟩
                · have h3' : decide (1 ≤ (xs.length : Int)) = false := h3
                  walk_at "go"
                  exact bad (by rw [eb, h3']; rfl)
              | _ => (walk_at "go"; exact bad rfl)
            · rintro ρ' τ' ⟨rfl, ha, v, rfl⟩
              rw [List.take_length] at ha
              have h1' : decide (1 ≤ (bs.length : Int)) = true := h1
              have eq2 : isChannel (.tuple [.tuple bs, legs, waits]) = (areBetween legs (bs.length - 1) 1 9 && areBetween waits (bs.length - 1) 0 3) := by
                rw [eq, ha, h2, h1']
                rfl
              walk_at "go"
              refine ⟨_, _, _, _, rfl, sl0, _, rfl, fun h3 => ?_, fun h3 => ?_⟩
              · walk_at "go"
                refine ⟨_, _, _, _, rfl, sw0, out ?_⟩
                rw [eq2, h3]
                rfl
              · refine out ?_
                rw [eq2, h3]
                rfl
        · walk_at "go"
          refine out ?_
          have h1' : decide (1 ≤ (bs.length : Int)) = false := h1
          rw [eq, h1']
          rfl
      | _ => (walk_at "go"; exact q)
  all_goals (walk_at "go"; exact q)
end

section
variable {P : Program} {w : World} {K : PySem.W.Frag} {mg : Str → Option Value} {base : Heap}
def cChk : Ctr := fun svs τ Q => ∃ c, svs = [.val (chD c)] ∧ ChOk c ∧ Q (.val .none) τ
abbrev s_check_channel : Stmt := topS 10
theorem sc_check_channel : FnScope ["value"] ["value"] (defScope s_check_channel) := ⟨rfl, rfl, rfl, by decide +kernel, rfl, by decide +kernel, by decide +kernel⟩
local macro_rules | `(tactic| walk_at "nm") => `(tactic| first
  | with_reducible refine de_name (x := "value") 0 (by with_unfolding_all rfl) (by with_unfolding_all first | exact Or.inl rfl | exact Or.inr (Or.inl rfl) | exact Or.inr (Or.inr rfl)) (by with_unfolding_all rfl) ?_ (by with_unfolding_all decide) (by with_unfolding_all decide))
local macro_rules | `(tactic| walk_at "st") => `(tactic| first
  | with_reducible refine ds_set (x := "value") 0 (by with_unfolding_all exact sc_check_channel.nd) (by with_unfolding_all rfl) (by with_unfolding_all first | exact Or.inl rfl | exact Or.inr rfl) ?_ (by with_unfolding_all rfl) (by with_unfolding_all first | exact .inl rfl | exact .inr rfl))



theorem kn_check_channel (D : HasDef K mg "check_channel" s_check_channel ["value"]) (k3 : Knows P w K mg base 3 "is_channel" cIsCh) : Knows P w K mg base 4 "check_channel" cChk := by
  refine knows_mk D sc_check_channel (fun _ _ _ ⟨_, e, _⟩ => by rw [e]; rfl) (fun f cdv A outer s H E hr svs τ Q hC => ?_)
  obtain ⟨c, rfl, hc, q⟩ := hC
  walk_at "go"
  refine ⟨_, rfl, sm_chD hc, true, by rw [isChannel_ok hc], ?_⟩
  walk_at "go"
  exact q
def cChkI (lo hi : Int) : Ctr := fun svs τ Q => ∃ i, svs = [.val (.int i)] ∧ lo ≤ i ∧ i ≤ hi ∧ Q (.val .none) τ
theorem between_ok {i lo hi : Int} (h1 : lo ≤ i) (h2 : i ≤ hi) : isBetween (.int i) lo hi = true := by simp [isBetween, h1, h2]
end

section
variable {P : Program} {w : World} {K : PySem.W.Frag} {mg : Str → Option Value} {base : Heap}
abbrev s_check_hour : Stmt := topS 12
theorem sc_check_hour : FnScope ["value"] ["value"] (defScope s_check_hour) := ⟨rfl, rfl, rfl, by decide +kernel, rfl, by decide +kernel, by decide +kernel⟩
local macro_rules | `(tactic| walk_at "nm") => `(tactic| first
  | with_reducible refine de_name (x := "value") 0 (by with_unfolding_all rfl) (by with_unfolding_all first | exact Or.inl rfl | exact Or.inr (Or.inl rfl) | exact Or.inr (Or.inr rfl)) (by with_unfolding_all rfl) ?_ (by with_unfolding_all decide) (by with_unfolding_all decide))
local macro_rules | `(tactic| walk_at "st") => `(tactic| first
  | with_reducible refine ds_set (x := "value") 0 (by with_unfolding_all exact sc_check_hour.nd) (by with_unfolding_all rfl) (by with_unfolding_all first | exact Or.inl rfl | exact Or.inr rfl) ?_ (by with_unfolding_all rfl) (by with_unfolding_all first | exact .inl rfl | exact .inr rfl))



theorem kn_check_hour (D : HasDef K mg "check_hour" s_check_hour ["value"]) (k1 : Knows P w K mg base 1 "is_between" cBetween) : Knows P w K mg base 2 "check_hour" (cChkI 0 999) := by
  refine knows_mk D sc_check_hour (fun _ _ _ ⟨_, e, _⟩ => by rw [e]; rfl) (fun f cdv A outer s H E hr svs τ Q hC => ?_)
  obtain ⟨i, rfl, h1, h2, q⟩ := hC
  walk_at "go"
  refine ⟨_, _, _, rfl, true, by rw [between_ok h1 h2], ?_⟩
  walk_at "go"
  exact q
end

section
variable {P : Program} {w : World} {K : PySem.W.Frag} {mg : Str → Option Value} {base : Heap}
abbrev s_check_draught : Stmt := topS 11
theorem sc_check_draught : FnScope ["value"] ["value"] (defScope s_check_draught) := ⟨rfl, rfl, rfl, by decide +kernel, rfl, by decide +kernel, by decide +kernel⟩
local macro_rules | `(tactic| walk_at "nm") => `(tactic| first
  | with_reducible refine de_name (x := "value") 0 (by with_unfolding_all rfl) (by with_unfolding_all first | exact Or.inl rfl | exact Or.inr (Or.inl rfl) | exact Or.inr (Or.inr rfl)) (by with_unfolding_all rfl) ?_ (by with_unfolding_all decide) (by with_unfolding_all decide))
local macro_rules | `(tactic| walk_at "st") => `(tactic| first
  | with_reducible refine ds_set (x := "value") 0 (by with_unfolding_all exact sc_check_draught.nd) (by with_unfolding_all rfl) (by with_unfolding_all first | exact Or.inl rfl | exact Or.inr rfl) ?_ (by with_unfolding_all rfl) (by with_unfolding_all first | exact .inl rfl | exact .inr rfl))



theorem kn_check_draught (D : HasDef K mg "check_draught" s_check_draught ["value"]) (k1 : Knows P w K mg base 1 "is_between" cBetween) : Knows P w K mg base 2 "check_draught" (cChkI 0 6) := by
  refine knows_mk D sc_check_draught (fun _ _ _ ⟨_, e, _⟩ => by rw [e]; rfl) (fun f cdv A outer s H E hr svs τ Q hC => ?_)
  obtain ⟨i, rfl, h1, h2, q⟩ := hC
  walk_at "go"
  refine ⟨_, _, _, rfl, true, by rw [between_ok h1 h2], ?_⟩
  walk_at "go"
  exact q
end

section
variable {P : Program} {w : World} {K : PySem.W.Frag} {mg : Str → Option Value} {base : Heap}
def cDiv : Ctr := fun svs τ Q => ∃ a b : Nat, svs = [.val (.int a), .val (.int b)] ∧ Q (.val (.int (Nat.gcd a b : Nat))) τ
abbrev s_divisor : Stmt := topS 13
theorem sc_divisor : FnScope ["one", "other"] ["one", "other"] (defScope s_divisor) := ⟨rfl, rfl, rfl, by decide +kernel, rfl, by decide +kernel, by decide +kernel⟩
local macro_rules | `(tactic| walk_at "nm") => `(tactic| first
  | with_reducible refine de_name (x := "one") 0 (by with_unfolding_all rfl) (by with_unfolding_all first | exact Or.inl rfl | exact Or.inr (Or.inl rfl) | exact Or.inr (Or.inr rfl)) (by with_unfolding_all rfl) ?_ (by with_unfolding_all decide) (by with_unfolding_all decide)
  | with_reducible refine de_name (x := "other") 1 (by with_unfolding_all rfl) (by with_unfolding_all first | exact Or.inl rfl | exact Or.inr (Or.inl rfl) | exact Or.inr (Or.inr rfl)) (by with_unfolding_all rfl) ?_ (by with_unfolding_all decide) (by with_unfolding_all decide))
local macro_rules | `(tactic| walk_at "st") => `(tactic| first
  | with_reducible refine ds_set (x := "one") 0 (by with_unfolding_all exact sc_divisor.nd) (by with_unfolding_all rfl) (by with_unfolding_all first | exact Or.inl rfl | exact Or.inr rfl) ?_ (by with_unfolding_all rfl) (by with_unfolding_all first | exact .inl rfl | exact .inr rfl)
  | with_reducible refine ds_set (x := "other") 1 (by with_unfolding_all exact sc_divisor.nd) (by with_unfolding_all rfl) (by with_unfolding_all first | exact Or.inl rfl | exact Or.inr rfl) ?_ (by with_unfolding_all rfl) (by with_unfolding_all first | exact .inl rfl | exact .inr rfl))



theorem kn_divisor (D : HasDef K mg "divisor" s_divisor ["one", "other"]) : Knows P w K mg base 1 "divisor" cDiv := by
  refine knows_mk D sc_divisor (fun _ _ _ ⟨_, _, e, _⟩ => by rw [e]; rfl) (fun f cdv A outer s H E hr svs τ Q hC => ?_)
  obtain ⟨a, b, rfl, q⟩ := hC
  refine db_cons (ds_while PassesOwn.never (fun m ρ' τ' => ∃ x y : Nat, m = y ∧ τ' = τ ∧ ρ' = [some (.val (.int x)), some (.val (.int y))] ∧ Nat.gcd x y = Nat.gcd a b) ⟨b, a, b, rfl, rfl, rfl, rfl⟩ ?_)
  rintro m ρ' τ' ⟨x, y, rfl, rfl, rfl, hg⟩
  walk_at "go"
  refine ⟨fun h => ?_, fun h => ?_⟩
  · have h' : m ≠ 0 := by
      intro e
      subst e
      simp [bneg] at h
    refine db_one (ds_par 0 1 rfl sc_divisor.nd rfl rfl (by decide) rfl rfl ?_ (by rfl))
    walk_at "go"
    refine ⟨x % m, Nat.mod_lt _ (by omega), m, x % m, rfl, rfl, ?_, ?_⟩
    · rw [Int.natCast_emod]
      rfl
    · rw [Nat.gcd_comm, ← hg, Nat.gcd_comm x m]
      exact (Nat.gcd_rec m x).symm ▸ rfl
  · have h' : m = 0 := by
      have : (m : Int) = 0 := by simpa [bneg] using h
      omega
    subst h'
    walk_at "go"
    rw [Nat.gcd_zero_right] at hg
    rw [← hg] at q
    exact q
end

theorem foldl_take {α β : Type} {f : β → α → β} {b : β} {xs : List α} {i : Nat} {x : α} (h : xs[i]? = some x) : (xs.take (i + 1)).foldl f b = f ((xs.take i).foldl f b) x := by
  rw [List.take_add_one, h, List.foldl_append]
  rfl
theorem map_get {α β : Type} {f : α → β} {xs : List α} {i : Nat} {y : β} (h : (xs.map f)[i]? = some y) : ∃ x, xs[i]? = some x ∧ y = f x := by
  rw [List.getElem?_map] at h
  cases e : xs[i]? with
  | none => rw [e] at h; cases h
  | some x =>
    rw [e] at h
    exact ⟨x, rfl, (Option.some.inj h).symm⟩
theorem lcm_div (a b : Nat) : ((a : Int) * (b : Int)) / ((Nat.gcd a b : Nat) : Int) = ((Nat.lcm a b : Nat) : Int) := by
  unfold Nat.lcm
  rw [← Int.natCast_mul, ← Int.natCast_ediv]
def cPer : Ctr := fun svs τ Q => ∃ c, svs = [.val (chD c)] ∧ ChOk c ∧ Q (.val (.int (periodOf c : Nat))) τ

section
variable {P : Program} {w : World} {K : PySem.W.Frag} {mg : Str → Option Value} {base : Heap}
abbrev s_period_of : Stmt := topS 14
theorem sc_period_of : FnScope ["channel", "found", "bar"] ["channel"] (defScope s_period_of) := ⟨rfl, rfl, rfl, by decide +kernel, rfl, by decide +kernel, by decide +kernel⟩
local macro_rules | `(tactic| walk_at "nm") => `(tactic| first
  | with_reducible refine de_name (x := "channel") 0 (by with_unfolding_all rfl) (by with_unfolding_all first | exact Or.inl rfl | exact Or.inr (Or.inl rfl) | exact Or.inr (Or.inr rfl)) (by with_unfolding_all rfl) ?_ (by with_unfolding_all decide) (by with_unfolding_all decide)
  | with_reducible refine de_name (x := "found") 1 (by with_unfolding_all rfl) (by with_unfolding_all first | exact Or.inl rfl | exact Or.inr (Or.inl rfl) | exact Or.inr (Or.inr rfl)) (by with_unfolding_all rfl) ?_ (by with_unfolding_all decide) (by with_unfolding_all decide)
  | with_reducible refine de_name (x := "bar") 2 (by with_unfolding_all rfl) (by with_unfolding_all first | exact Or.inl rfl | exact Or.inr (Or.inl rfl) | exact Or.inr (Or.inr rfl)) (by with_unfolding_all rfl) ?_ (by with_unfolding_all decide) (by with_unfolding_all decide))
local macro_rules | `(tactic| walk_at "st") => `(tactic| first
  | with_reducible refine ds_set (x := "channel") 0 (by with_unfolding_all exact sc_period_of.nd) (by with_unfolding_all rfl) (by with_unfolding_all first | exact Or.inl rfl | exact Or.inr rfl) ?_ (by with_unfolding_all rfl) (by with_unfolding_all first | exact .inl rfl | exact .inr rfl)
  | with_reducible refine ds_set (x := "found") 1 (by with_unfolding_all exact sc_period_of.nd) (by with_unfolding_all rfl) (by with_unfolding_all first | exact Or.inl rfl | exact Or.inr rfl) ?_ (by with_unfolding_all rfl) (by with_unfolding_all first | exact .inl rfl | exact .inr rfl)
  | with_reducible refine ds_set (x := "bar") 2 (by with_unfolding_all exact sc_period_of.nd) (by with_unfolding_all rfl) (by with_unfolding_all first | exact Or.inl rfl | exact Or.inr rfl) ?_ (by with_unfolding_all rfl) (by with_unfolding_all first | exact .inl rfl | exact .inr rfl))



theorem kn_period_of (D : HasDef K mg "period_of" s_period_of ["channel"]) (B : Bl mg) (k1 : Knows P w K mg base 1 "divisor" cDiv) : Knows P w K mg base 2 "period_of" cPer := by
  refine knows_mk D sc_period_of (fun _ _ _ ⟨_, e, _⟩ => by rw [e]; rfl) (fun f cdv A outer s H E hr svs τ Q hC => ?_)
  obtain ⟨c, rfl, hc, q⟩ := hC
  unfold chD
  walk_at "go"
  refine ds_for (t := .name 2) rfl PassesOwn.never (pgx_name sc_period_of.nd rfl (Or.inl rfl)) (di_tup ?_)
  walk_at "go"
  refine ⟨fun i ρ' τ' => τ' = τ ∧ ∃ v, ρ' = [some (.val (chD c)), some (.val (.int ((((c.bars.take i).foldl (fun a b => Nat.lcm a b.length) 1 : Nat) : Int)))), v], ⟨rfl, none, rfl⟩, fun _ _ _ _ => trivial, ?_, ?_⟩
  · rintro i d ρ' τ' hd ⟨rfl, v, rfl⟩
    obtain ⟨b, hb, rfl⟩ := map_get hd
    have hl := hc.bl b (List.mem_of_getElem? hb)
    refine ⟨_, rfl, ?_⟩
    unfold tI
    walk_at "go"
    refine times_int (.inr (by rw [List.length_map]; omega)) ?_
    walk_at "go"
    refine ⟨_, _, by rw [List.length_map], ?_⟩
    have gp : 0 < Nat.gcd ((c.bars.take i).foldl (fun a b => Nat.lcm a b.length) 1) b.length := Nat.gcd_pos_of_pos_right _ (by omega)
    have gl : Nat.gcd ((c.bars.take i).foldl (fun a b => Nat.lcm a b.length) 1) b.length ≤ b.length := Nat.gcd_le_right _ (by omega)
    refine ⟨_, _, rfl, rfl, ⟨by omega, by omega⟩, rfl, some (.val (tI b)), ?_⟩
    rw [List.length_map, lcm_div, foldl_take hb]
    rfl
  · rintro ρ' τ' ⟨rfl, v, rfl⟩
    walk_at "go"
    rw [List.length_map, List.take_length]
    exact q
end

section
variable {P : Program} {w : World} {K : PySem.W.Frag} {mg : Str → Option Value} {base : Heap}
def cDepth : Ctr := fun svs τ Q => ∃ c, ∃ j : Nat, ∃ h : Int, svs = [.val (chD c), .val (.int j), .val (.int h)] ∧ j < c.bars.length ∧ 1 ≤ (barAt c j).length ∧ Q (.val (.int (depthOf c j h))) τ
theorem ChOk.bar1 {c : Chan} (h : ChOk c) {j : Nat} (hj : j < c.bars.length) : 1 ≤ (barAt c j).length := (h.bl _ (barAt_mem hj)).1
abbrev s_depth_of : Stmt := topS 15
theorem sc_depth_of : FnScope ["channel", "bar", "hour", "depths"] ["channel", "bar", "hour"] (defScope s_depth_of) := ⟨rfl, rfl, rfl, by decide +kernel, rfl, by decide +kernel, by decide +kernel⟩
local macro_rules | `(tactic| walk_at "nm") => `(tactic| first
  | with_reducible refine de_name (x := "channel") 0 (by with_unfolding_all rfl) (by with_unfolding_all first | exact Or.inl rfl | exact Or.inr (Or.inl rfl) | exact Or.inr (Or.inr rfl)) (by with_unfolding_all rfl) ?_ (by with_unfolding_all decide) (by with_unfolding_all decide)
  | with_reducible refine de_name (x := "bar") 1 (by with_unfolding_all rfl) (by with_unfolding_all first | exact Or.inl rfl | exact Or.inr (Or.inl rfl) | exact Or.inr (Or.inr rfl)) (by with_unfolding_all rfl) ?_ (by with_unfolding_all decide) (by with_unfolding_all decide)
  | with_reducible refine de_name (x := "hour") 2 (by with_unfolding_all rfl) (by with_unfolding_all first | exact Or.inl rfl | exact Or.inr (Or.inl rfl) | exact Or.inr (Or.inr rfl)) (by with_unfolding_all rfl) ?_ (by with_unfolding_all decide) (by with_unfolding_all decide)
  | with_reducible refine de_name (x := "depths") 3 (by with_unfolding_all rfl) (by with_unfolding_all first | exact Or.inl rfl | exact Or.inr (Or.inl rfl) | exact Or.inr (Or.inr rfl)) (by with_unfolding_all rfl) ?_ (by with_unfolding_all decide) (by with_unfolding_all decide))
local macro_rules | `(tactic| walk_at "st") => `(tactic| first
  | with_reducible refine ds_set (x := "channel") 0 (by with_unfolding_all exact sc_depth_of.nd) (by with_unfolding_all rfl) (by with_unfolding_all first | exact Or.inl rfl | exact Or.inr rfl) ?_ (by with_unfolding_all rfl) (by with_unfolding_all first | exact .inl rfl | exact .inr rfl)
  | with_reducible refine ds_set (x := "bar") 1 (by with_unfolding_all exact sc_depth_of.nd) (by with_unfolding_all rfl) (by with_unfolding_all first | exact Or.inl rfl | exact Or.inr rfl) ?_ (by with_unfolding_all rfl) (by with_unfolding_all first | exact .inl rfl | exact .inr rfl)
  | with_reducible refine ds_set (x := "hour") 2 (by with_unfolding_all exact sc_depth_of.nd) (by with_unfolding_all rfl) (by with_unfolding_all first | exact Or.inl rfl | exact Or.inr rfl) ?_ (by with_unfolding_all rfl) (by with_unfolding_all first | exact .inl rfl | exact .inr rfl)
  | with_reducible refine ds_set (x := "depths") 3 (by with_unfolding_all exact sc_depth_of.nd) (by with_unfolding_all rfl) (by with_unfolding_all first | exact Or.inl rfl | exact Or.inr rfl) ?_ (by with_unfolding_all rfl) (by with_unfolding_all first | exact .inl rfl | exact .inr rfl))



theorem kn_depth_of (D : HasDef K mg "depth_of" s_depth_of ["channel", "bar", "hour"]) (B : Bl mg) : Knows P w K mg base 1 "depth_of" cDepth := by
  refine knows_mk D sc_depth_of (fun _ _ _ ⟨_, _, _, e, _⟩ => by rw [e]; rfl) (fun f cdv A outer s H E hr svs τ Q hC => ?_)
  obtain ⟨c, j, h, rfl, hj, hl, q⟩ := hC
  unfold chD
  walk_at "go"
  refine ix_tup' (atI_bar hj) ?_
  unfold tI
  walk_at "go"
  refine ⟨by rw [List.length_map]; omega, ?_⟩
  have h1 := Int.emod_nonneg h (show ((barAt c j).length : Int) ≠ 0 by omega)
  have h2 := Int.emod_lt_of_pos h (show (0 : Int) < (barAt c j).length by omega)
  rw [List.length_map]
  exact ix_tup' (atI_int h1 h2) q
end

section
variable {P : Program} {w : World} {K : PySem.W.Frag} {mg : Str → Option Value} {base : Heap}
def cShift : Ctr := fun svs τ Q => ∃ c, ∃ h : Int, svs = [.val (chD c), .val (.int h)] ∧ ChOk c ∧ Q (.val (chD (shifted c h))) τ
abbrev s_shifted : Stmt := topS 16
theorem sc_shifted : FnScope ["channel", "hours", "bars", "hour", "bar"] ["channel", "hours"] (defScope s_shifted) := ⟨rfl, rfl, rfl, by decide +kernel, rfl, by decide +kernel, by decide +kernel⟩
local macro_rules | `(tactic| walk_at "nm") => `(tactic| first
  | with_reducible refine de_name (x := "channel") 0 (by with_unfolding_all rfl) (by with_unfolding_all first | exact Or.inl rfl | exact Or.inr (Or.inl rfl) | exact Or.inr (Or.inr rfl)) (by with_unfolding_all rfl) ?_ (by with_unfolding_all decide) (by with_unfolding_all decide)
  | with_reducible refine de_name (x := "hours") 1 (by with_unfolding_all rfl) (by with_unfolding_all first | exact Or.inl rfl | exact Or.inr (Or.inl rfl) | exact Or.inr (Or.inr rfl)) (by with_unfolding_all rfl) ?_ (by with_unfolding_all decide) (by with_unfolding_all decide)
  | with_reducible refine de_name (x := "bars") 2 (by with_unfolding_all rfl) (by with_unfolding_all first | exact Or.inl rfl | exact Or.inr (Or.inl rfl) | exact Or.inr (Or.inr rfl)) (by with_unfolding_all rfl) ?_ (by with_unfolding_all decide) (by with_unfolding_all decide)
  | with_reducible refine de_name (x := "hour") 3 (by with_unfolding_all rfl) (by with_unfolding_all first | exact Or.inl rfl | exact Or.inr (Or.inl rfl) | exact Or.inr (Or.inr rfl)) (by with_unfolding_all rfl) ?_ (by with_unfolding_all decide) (by with_unfolding_all decide)
  | with_reducible refine de_name (x := "bar") 4 (by with_unfolding_all rfl) (by with_unfolding_all first | exact Or.inl rfl | exact Or.inr (Or.inl rfl) | exact Or.inr (Or.inr rfl)) (by with_unfolding_all rfl) ?_ (by with_unfolding_all decide) (by with_unfolding_all decide))
local macro_rules | `(tactic| walk_at "st") => `(tactic| first
  | with_reducible refine ds_set (x := "channel") 0 (by with_unfolding_all exact sc_shifted.nd) (by with_unfolding_all rfl) (by with_unfolding_all first | exact Or.inl rfl | exact Or.inr rfl) ?_ (by with_unfolding_all rfl) (by with_unfolding_all first | exact .inl rfl | exact .inr rfl)
  | with_reducible refine ds_set (x := "hours") 1 (by with_unfolding_all exact sc_shifted.nd) (by with_unfolding_all rfl) (by with_unfolding_all first | exact Or.inl rfl | exact Or.inr rfl) ?_ (by with_unfolding_all rfl) (by with_unfolding_all first | exact .inl rfl | exact .inr rfl)
  | with_reducible refine ds_set (x := "bars") 2 (by with_unfolding_all exact sc_shifted.nd) (by with_unfolding_all rfl) (by with_unfolding_all first | exact Or.inl rfl | exact Or.inr rfl) ?_ (by with_unfolding_all rfl) (by with_unfolding_all first | exact .inl rfl | exact .inr rfl)
  | with_reducible refine ds_set (x := "hour") 3 (by with_unfolding_all exact sc_shifted.nd) (by with_unfolding_all rfl) (by with_unfolding_all first | exact Or.inl rfl | exact Or.inr rfl) ?_ (by with_unfolding_all rfl) (by with_unfolding_all first | exact .inl rfl | exact .inr rfl)
  | with_reducible refine ds_set (x := "bar") 4 (by with_unfolding_all exact sc_shifted.nd) (by with_unfolding_all rfl) (by with_unfolding_all first | exact Or.inl rfl | exact Or.inr rfl) ?_ (by with_unfolding_all rfl) (by with_unfolding_all first | exact .inl rfl | exact .inr rfl))

local macro_rules | `(tactic| walk_at "lc bar") => `(tactic| refine de_lc (t := .name 4) (own := [("bar", 4)]) rfl sc_shifted.nd (by first | exact blkOk_by (N := ["channel", "hours", "bars", "hour", "bar"]) (sc := defScope s_shifted) (by decide +kernel) | exact blkOk_by (N := ["channel", "hours", "bars", "hour", "bar"]) (sc := relS _ (defScope s_shifted)) (by decide +kernel)) (by decide) (fun _ _ _ _ _ => pgx_name sc_shifted.nd rfl (by first | exact Or.inl rfl | exact Or.inr rfl)) ?_)
local macro_rules | `(tactic| walk_at "slc bar") => `(tactic| first
  | refine ds_setLc (t := .name 4) (own := [("bar", 4)]) 2 (y := "bars") rfl sc_shifted.nd rfl rfl (sw_true rfl rfl rfl (by decide +kernel)) (by first | exact blkOk_by (N := ["channel", "hours", "bars", "hour", "bar"]) (sc := defScope s_shifted) (by decide +kernel) | exact blkOk_by (N := ["channel", "hours", "bars", "hour", "bar"]) (sc := relS _ (defScope s_shifted)) (by decide +kernel)) (by decide) (fun _ _ _ _ _ => pgx_name sc_shifted.nd rfl (by first | exact Or.inl rfl | exact Or.inr rfl)) ?_)
local macro_rules | `(tactic| walk_at "lc hour") => `(tactic| refine de_lc (t := .name 3) (own := [("hour", 3)]) rfl sc_shifted.nd (by first | exact blkOk_by (N := ["channel", "hours", "bars", "hour", "bar"]) (sc := defScope s_shifted) (by decide +kernel) | exact blkOk_by (N := ["channel", "hours", "bars", "hour", "bar"]) (sc := relS _ (defScope s_shifted)) (by decide +kernel)) (by decide) (fun _ _ _ _ _ => pgx_name sc_shifted.nd rfl (by first | exact Or.inl rfl | exact Or.inr rfl)) ?_)

theorem kn_shifted (D : HasDef K mg "shifted" s_shifted ["channel", "hours"]) (B : Bl mg) : Knows P w K mg base 1 "shifted" cShift := by
  refine knows_mk D sc_shifted (fun _ _ _ ⟨_, _, e, _⟩ => by rw [e]; rfl) (fun f cdv A outer s H E hr svs τ Q hC => ?_)
  obtain ⟨c, h, rfl, hc, q⟩ := hC
  have ec : chD c = .tuple [.tuple (c.bars.map tI), tI c.legs, tI c.waits] := rfl
  rw [ec]
  refine db_cons ?_
  walk_at "slc bar"
  refine di_tup ?_
  walk_at "go"
  refine lcq_map c.bars tI (fun b => tI (shiftBar h b)) rfl (by have := hc.b3; omega) (fun b hb => ⟨_, rfl, fun D acc hD s H C cl fp => ?_⟩) ?_
  · have hl := hc.bl b hb
    walk_at "go"
    walk_at "lc hour"
    unfold tI
    refine di_range1 ‹Bl _› rfl ?_
    walk_at "go"
    rw [List.length_map]
    refine ⟨by omega, by omega, ?_⟩
    refine lcq_map (List.range b.length) (fun i => .int (0 + (i : Nat))) (fun i => .int (b.getD (((i : Int) - h) % (b.length : Int)).toNat 0)) (by rw [Int.toNat_natCast]; rfl) (by rw [List.length_range]; omega) (fun i hi => ⟨_, rfl, fun D acc hD s H C cl fp => ?_⟩) ?_
    · walk_at "go"
      rw [List.length_map]
      refine ⟨by omega, ?_⟩
      have h1 := Int.emod_nonneg ((0 : Int) + (i : Nat) - h) (show (b.length : Int) ≠ 0 by omega)
      have h2 := Int.emod_lt_of_pos ((0 : Int) + (i : Nat) - h) (show (0 : Int) < b.length by omega)
      refine ix_tup' (atI_int h1 h2) ⟨?_, rfl⟩
      rw [Int.zero_add]
    · walk_at "go"
      refine ⟨?_, rfl⟩
      unfold shiftBar
      rw [List.map_map]
      rfl
  · walk_at "go"
    have eq : chD (shifted c h) = .tuple [.tuple (c.bars.map fun b => tI (shiftBar h b)), tI c.legs, tI c.waits] := by
      simp [chD, shifted, List.map_map, Function.comp_def]
    rw [eq] at q
    exact q
end

section
variable {P : Program} {w : World} {K : PySem.W.Frag} {mg : Str → Option Value} {base : Heap}
def cLater : Ctr := fun svs τ Q => ∃ c, ∃ h : Int, svs = [.val (chD c), .val (.int h)] ∧ ChOk c ∧ 0 ≤ h ∧ h ≤ 999 ∧ Q (.val (chD (shifted c h))) τ
abbrev s_later : Stmt := topS 17
theorem sc_later : FnScope ["channel", "hours"] ["channel", "hours"] (defScope s_later) := ⟨rfl, rfl, rfl, by decide +kernel, rfl, by decide +kernel, by decide +kernel⟩
local macro_rules | `(tactic| walk_at "nm") => `(tactic| first
  | with_reducible refine de_name (x := "channel") 0 (by with_unfolding_all rfl) (by with_unfolding_all first | exact Or.inl rfl | exact Or.inr (Or.inl rfl) | exact Or.inr (Or.inr rfl)) (by with_unfolding_all rfl) ?_ (by with_unfolding_all decide) (by with_unfolding_all decide)
  | with_reducible refine de_name (x := "hours") 1 (by with_unfolding_all rfl) (by with_unfolding_all first | exact Or.inl rfl | exact Or.inr (Or.inl rfl) | exact Or.inr (Or.inr rfl)) (by with_unfolding_all rfl) ?_ (by with_unfolding_all decide) (by with_unfolding_all decide))
local macro_rules | `(tactic| walk_at "st") => `(tactic| first
  | with_reducible refine ds_set (x := "channel") 0 (by with_unfolding_all exact sc_later.nd) (by with_unfolding_all rfl) (by with_unfolding_all first | exact Or.inl rfl | exact Or.inr rfl) ?_ (by with_unfolding_all rfl) (by with_unfolding_all first | exact .inl rfl | exact .inr rfl)
  | with_reducible refine ds_set (x := "hours") 1 (by with_unfolding_all exact sc_later.nd) (by with_unfolding_all rfl) (by with_unfolding_all first | exact Or.inl rfl | exact Or.inr rfl) ?_ (by with_unfolding_all rfl) (by with_unfolding_all first | exact .inl rfl | exact .inr rfl))



theorem kn_later (D : HasDef K mg "later" s_later ["channel", "hours"]) (k1 : Knows P w K mg base 4 "check_channel" cChk) (k3 : Knows P w K mg base 2 "check_hour" (cChkI 0 999)) (k2 : Knows P w K mg base 1 "shifted" cShift) : Knows P w K mg base 5 "later" cLater := by
  refine knows_mk D sc_later (fun _ _ _ ⟨_, _, e, _⟩ => by rw [e]; rfl) (fun f cdv A outer s H E hr svs τ Q hC => ?_)
  obtain ⟨c, h, rfl, hc, h0, h1, q⟩ := hC
  walk_at "go"
  refine ⟨_, rfl, hc, ?_⟩
  walk_at "go"
  refine ⟨_, rfl, h0, h1, ?_⟩
  walk_at "go"
  exact ⟨_, _, rfl, hc, q⟩
end

/-! ### the law's draws -/
/-- the town: a count up to n, and L cells -/
def Tn (L : Nat) (n : Int) (ds : List PyData) : Prop := ∃ (c : Int) (cs : List Int), ds = (c :: cs).map .int ∧ cs.length = L ∧ 0 ≤ c ∧ c ≤ n
theorem Tn.mono {L : Nat} {n m : Int} {ds : List PyData} (h : Tn L n ds) (hm : n ≤ m) : Tn L m ds := by
  obtain ⟨c, cs, e, hl, h0, h1⟩ := h
  exact ⟨c, cs, e, hl, h0, by omega⟩
/-- the town stands in the store -/
def TnS (tw : Addr) (L : Nat) (n : Int) (τ : Store) : Prop := ∃ ds, τ.lookup tw = some (.lst ds) ∧ Tn L n ds
/-- a store that differs in the town alone -/
def Twn (tw : Addr) (L : Nat) (n : Int) (τ τ' : Store) : Prop := ∃ ds, τ' = setS tw (.lst ds) τ ∧ Tn L n ds
theorem TnS.mono {tw : Addr} {L : Nat} {n m : Int} {τ : Store} (h : TnS tw L n τ) (hm : n ≤ m) : TnS tw L m τ := by
  obtain ⟨ds, e, t⟩ := h
  exact ⟨ds, e, t.mono hm⟩
theorem Twn.tn {tw : Addr} {L : Nat} {n : Int} {τ τ' : Store} (h : Twn tw L n τ τ') (hd : tw ∈ dom τ) : TnS tw L n τ' := by
  obtain ⟨ds, e, t⟩ := h
  subst e
  exact ⟨ds, lookup_setS hd, t⟩
theorem TnS.dom {tw : Addr} {L : Nat} {n : Int} {τ : Store} (h : TnS tw L n τ) : tw ∈ Dl.dom τ := by
  obtain ⟨ds, e, _⟩ := h
  exact dom_of_lookup e
theorem Twn.refl {tw : Addr} {L : Nat} {n : Int} {τ : Store} (h : TnS tw L n τ) : Twn tw L n τ τ := by
  obtain ⟨ds, e, t⟩ := h
  exact ⟨ds, (setS_self e).symm, t⟩
theorem Twn.trans {tw : Addr} {L : Nat} {n m : Int} {τ τ1 τ2 : Store} (h : Twn tw L n τ τ1) (h' : Twn tw L m τ1 τ2) : Twn tw L m τ τ2 := by
  obtain ⟨ds, e, _⟩ := h
  obtain ⟨ds', e', t⟩ := h'
  subst e
  exact ⟨ds', by rw [e', setS_setS], t⟩
theorem Twn.mono {tw : Addr} {L : Nat} {n m : Int} {τ τ' : Store} (h : Twn tw L n τ τ') (hm : n ≤ m) : Twn tw L m τ τ' := by
  obtain ⟨ds, e, t⟩ := h
  exact ⟨ds, e, t.mono hm⟩
theorem Twn.dom {tw : Addr} {L : Nat} {n : Int} {τ τ' : Store} (h : Twn tw L n τ τ') : Dl.dom τ' = Dl.dom τ := by
  obtain ⟨ds, e, _⟩ := h
  subst e
  exact dom_setS _ _ _
/-- with one more object ahead -/
theorem TnS.push {tw D : Addr} {L : Nat} {n : Int} {τ : Store} {mo : MO} (h : TnS tw L n τ) (hD : D ∉ Dl.dom τ) : TnS tw L n ((D, mo) :: τ) := by
  obtain ⟨ds, e, t⟩ := h
  exact ⟨ds, lookup_push e hD, t⟩
theorem Twn.pop {tw D : Addr} {L : Nat} {n : Int} {τ τ' : Store} {mo : MO} (h : Twn tw L n ((D, mo) :: τ) τ') (ht : tw ∈ Dl.dom τ) (hD : D ∉ Dl.dom τ) : ∃ τ1, τ' = (D, mo) :: τ1 ∧ Twn tw L n τ τ1 := by
  obtain ⟨ds, e, t⟩ := h
  rw [setS_push ht hD] at e
  exact ⟨_, e, ds, rfl, t⟩
section
variable {P : Program} {w : World} {K : PySem.W.Frag} {mg : Str → Option Value} {base : Heap}
def cTown : Ctr := fun svs τ Q => ∃ ns, svs = [.scr ns] ∧ ns.length ≤ 1000 ∧ ∀ a, a ∉ dom τ → Q (.hdl a) ((a, .lst ((0 :: ns).map .int)) :: τ)
abbrev s__law_town : Stmt := topS 28
theorem sc__law_town : FnScope ["_law_script"] ["_law_script"] (defScope s__law_town) := ⟨rfl, rfl, rfl, by decide +kernel, rfl, by decide +kernel, by decide +kernel⟩
local macro_rules | `(tactic| walk_at "nm") => `(tactic| first
  | with_reducible refine de_name (x := "_law_script") 0 (by with_unfolding_all rfl) (by with_unfolding_all first | exact Or.inl rfl | exact Or.inr (Or.inl rfl) | exact Or.inr (Or.inr rfl)) (by with_unfolding_all rfl) ?_ (by with_unfolding_all decide) (by with_unfolding_all decide))
local macro_rules | `(tactic| walk_at "st") => `(tactic| first
  | with_reducible refine ds_set (x := "_law_script") 0 (by with_unfolding_all exact sc__law_town.nd) (by with_unfolding_all rfl) (by with_unfolding_all first | exact Or.inl rfl | exact Or.inr rfl) ?_ (by with_unfolding_all rfl) (by with_unfolding_all first | exact .inl rfl | exact .inr rfl))



theorem kn_law_town (D : HasDef K mg "_law_town" s__law_town ["_law_script"]) (B : Bl mg) : Knows P w K mg base 1 "_law_town" cTown := by
  refine knows_mk D sc__law_town (fun _ _ _ ⟨_, e, _⟩ => by rw [e]; rfl) (fun f cdv A outer s H E hr svs τ Q hC => ?_)
  obtain ⟨ns, rfl, hl, q⟩ := hC
  walk_at "go"
  exact plus_lstM rfl rfl (by simp; omega) q
def cDraw : Ctr := fun svs τ Q => ∃ ns tw lim n, svs = [.scr ns, .hdl tw, .val (.int lim)] ∧ ns.length ≤ 1000 ∧ 1 ≤ lim ∧ lim ≤ 100000 ∧ n ≤ 1000000 ∧ TnS tw ns.length n τ ∧
  ∀ k τ', 0 ≤ k → k < lim → Twn tw ns.length (n + 1) τ τ' → Q (.val (.int k)) τ'
theorem mod_rng {a m : Int} (h : 1 ≤ m) : 0 ≤ a % m ∧ a % m < m := ⟨Int.emod_nonneg _ (by omega), Int.emod_lt_of_pos _ (by omega)⟩
theorem Tn.at0 {c : Int} {cs : List Int} : atI ((c :: cs).map PyData.int) 0 = some (.int c) := by
  refine atI_nat (j := 0) ?_
  rfl
abbrev s__law_draw : Stmt := topS 29
theorem sc__law_draw : FnScope ["_law_script", "_law_town_here", "_law_limit", "_law_at", "_law_left", "_law_number"] ["_law_script", "_law_town_here", "_law_limit"] (defScope s__law_draw) := ⟨rfl, rfl, rfl, by decide +kernel, rfl, by decide +kernel, by decide +kernel⟩
local macro_rules | `(tactic| walk_at "nm") => `(tactic| first
  | with_reducible refine de_name (x := "_law_script") 0 (by with_unfolding_all rfl) (by with_unfolding_all first | exact Or.inl rfl | exact Or.inr (Or.inl rfl) | exact Or.inr (Or.inr rfl)) (by with_unfolding_all rfl) ?_ (by with_unfolding_all decide) (by with_unfolding_all decide)
  | with_reducible refine de_name (x := "_law_town_here") 1 (by with_unfolding_all rfl) (by with_unfolding_all first | exact Or.inl rfl | exact Or.inr (Or.inl rfl) | exact Or.inr (Or.inr rfl)) (by with_unfolding_all rfl) ?_ (by with_unfolding_all decide) (by with_unfolding_all decide)
  | with_reducible refine de_name (x := "_law_limit") 2 (by with_unfolding_all rfl) (by with_unfolding_all first | exact Or.inl rfl | exact Or.inr (Or.inl rfl) | exact Or.inr (Or.inr rfl)) (by with_unfolding_all rfl) ?_ (by with_unfolding_all decide) (by with_unfolding_all decide)
  | with_reducible refine de_name (x := "_law_at") 3 (by with_unfolding_all rfl) (by with_unfolding_all first | exact Or.inl rfl | exact Or.inr (Or.inl rfl) | exact Or.inr (Or.inr rfl)) (by with_unfolding_all rfl) ?_ (by with_unfolding_all decide) (by with_unfolding_all decide)
  | with_reducible refine de_name (x := "_law_left") 4 (by with_unfolding_all rfl) (by with_unfolding_all first | exact Or.inl rfl | exact Or.inr (Or.inl rfl) | exact Or.inr (Or.inr rfl)) (by with_unfolding_all rfl) ?_ (by with_unfolding_all decide) (by with_unfolding_all decide)
  | with_reducible refine de_name (x := "_law_number") 5 (by with_unfolding_all rfl) (by with_unfolding_all first | exact Or.inl rfl | exact Or.inr (Or.inl rfl) | exact Or.inr (Or.inr rfl)) (by with_unfolding_all rfl) ?_ (by with_unfolding_all decide) (by with_unfolding_all decide))
local macro_rules | `(tactic| walk_at "st") => `(tactic| first
  | with_reducible refine ds_set (x := "_law_script") 0 (by with_unfolding_all exact sc__law_draw.nd) (by with_unfolding_all rfl) (by with_unfolding_all first | exact Or.inl rfl | exact Or.inr rfl) ?_ (by with_unfolding_all rfl) (by with_unfolding_all first | exact .inl rfl | exact .inr rfl)
  | with_reducible refine ds_set (x := "_law_town_here") 1 (by with_unfolding_all exact sc__law_draw.nd) (by with_unfolding_all rfl) (by with_unfolding_all first | exact Or.inl rfl | exact Or.inr rfl) ?_ (by with_unfolding_all rfl) (by with_unfolding_all first | exact .inl rfl | exact .inr rfl)
  | with_reducible refine ds_set (x := "_law_limit") 2 (by with_unfolding_all exact sc__law_draw.nd) (by with_unfolding_all rfl) (by with_unfolding_all first | exact Or.inl rfl | exact Or.inr rfl) ?_ (by with_unfolding_all rfl) (by with_unfolding_all first | exact .inl rfl | exact .inr rfl)
  | with_reducible refine ds_set (x := "_law_at") 3 (by with_unfolding_all exact sc__law_draw.nd) (by with_unfolding_all rfl) (by with_unfolding_all first | exact Or.inl rfl | exact Or.inr rfl) ?_ (by with_unfolding_all rfl) (by with_unfolding_all first | exact .inl rfl | exact .inr rfl)
  | with_reducible refine ds_set (x := "_law_left") 4 (by with_unfolding_all exact sc__law_draw.nd) (by with_unfolding_all rfl) (by with_unfolding_all first | exact Or.inl rfl | exact Or.inr rfl) ?_ (by with_unfolding_all rfl) (by with_unfolding_all first | exact .inl rfl | exact .inr rfl)
  | with_reducible refine ds_set (x := "_law_number") 5 (by with_unfolding_all exact sc__law_draw.nd) (by with_unfolding_all rfl) (by with_unfolding_all first | exact Or.inl rfl | exact Or.inr rfl) ?_ (by with_unfolding_all rfl) (by with_unfolding_all first | exact .inl rfl | exact .inr rfl))



theorem kn_law_draw (D : HasDef K mg "_law_draw" s__law_draw ["_law_script", "_law_town_here", "_law_limit"]) (B : Bl mg) : Knows P w K mg base 1 "_law_draw" cDraw := by
  refine knows_mk D sc__law_draw (fun _ _ _ ⟨_, _, _, _, e, _⟩ => by rw [e]; rfl) (fun f cdv A outer s H E hr svs τ Q hC => ?_)
  obtain ⟨ns, tw, lim, n, rfl, hns, hl1, hl2, hn, ⟨ds, ht, c, cs, rfl, hcs, hc0, hc1⟩, q⟩ := hC
  refine db_cons (ds_setix ?_)
  walk_at "go"
  refine ix_lst (datOf_hdl ht) Tn.at0 ?_
  walk_at "go"
  refine ⟨_, tw, _, _, 0, rfl, rfl, rfl, ht, ixN_ok (by omega) (by rw [List.length_map, List.length_cons]; omega), ?_⟩
  have ht1 : (setS tw (.lst ((((c + 1) :: cs : List Int)).map PyData.int)) τ).lookup tw = some (.lst (((c + 1) :: cs).map PyData.int)) := lookup_setS' ht
  have e1 : Twn tw ns.length (n + 1) τ (setS tw (.lst ((((c + 1) :: cs : List Int)).map PyData.int)) τ) := ⟨_, rfl, c + 1, cs, rfl, hcs, by omega, by omega⟩
  show Db _ _ (setS tw (.lst ((((c + 1) :: cs : List Int)).map PyData.int)) τ) _ _
  generalize (setS tw (.lst ((((c + 1) :: cs : List Int)).map PyData.int)) τ) = τ1 at ht1 e1 ⊢
  walk_at "go"
  refine eq_pl (n := 1) (m := 1) rfl rfl (by rintro x hx; obtain ⟨y, _, rfl⟩ := List.mem_map.mp hx; trivial) (by rintro x hx; cases hx) (fun b hb => ?_)
  refine ⟨_, rfl, fun h => ?_, fun h => ?_⟩
  · walk_at "go"
    refine ix_lst (datOf_hdl ht1) Tn.at0 ?_
    walk_at "go"
    refine ix_lst (datOf_hdl ht1) Tn.at0 ?_
    walk_at "go"
    refine q _ _ ?_ ?_ e1
    · exact (mod_rng hl1).1
    · exact (mod_rng hl1).2
  · have hne : ns ≠ [] := by
      intro e
      subst e
      have h' : b = false := h
      rw [h'] at hb
      exact absurd (hb.mpr rfl) (by decide)
    have hpos : 1 ≤ ns.length := by
      cases ns with
      | nil => exact absurd rfl hne
      | cons a r => simp
    walk_at "go"
    refine ix_lst (datOf_hdl ht1) Tn.at0 ?_
    walk_at "go"
    refine ⟨by rw [List.length_map]; omega, ?_⟩
    rw [List.length_map]
    have hm := mod_rng (a := c + 1) (m := (ns.length : Int)) (by omega)
    walk_at "go"
    refine ix_lst (datOf_hdl ht1) (atI_int (by omega) (by rw [List.length_cons]; omega)) ?_
    walk_at "go"
    refine ix_lst (x := .scr ns) rfl (atI_int hm.1 hm.2) ?_
    walk_at "go"
    refine ⟨fun h1 => ?_, fun h1 => ?_⟩
    · walk_at "go"
      refine ⟨fun h2 => ?_, fun h2 => ?_⟩
      · walk_at "go"
        refine ds_setix ?_
        walk_at "go"
        refine ⟨_, tw, _, _, _, rfl, rfl, rfl, ht1, ixN_ok (by omega) (by rw [List.length_map, List.length_cons]; omega), ?_⟩
        walk_at "go"
        refine q _ _ (mod_rng hl1).1 (mod_rng hl1).2 (e1.trans ⟨_, rfl, c + 1, cs.set ((c + 1) % (ns.length : Int)).toNat (((c + 1) :: cs).getD (1 + (c + 1) % (ns.length : Int)).toNat 0 / lim), ?_, by rw [List.length_set]; exact hcs, by omega, by omega⟩)
        rw [show (1 + (c + 1) % (ns.length : Int)).toNat = ((c + 1) % (ns.length : Int)).toNat + 1 by omega]
        show (PyData.int (c + 1) :: (cs.map PyData.int).set _ _) = PyData.int (c + 1) :: _
        rw [List.map_set]
      · walk_at "go"
        refine ix_lst (x := .scr _) rfl (atI_int hm.1 hm.2) ?_
        walk_at "go"
        refine ix_lst (datOf_hdl ht1) Tn.at0 ?_
        walk_at "go"
        exact q _ _ (mod_rng hl1).1 (mod_rng hl1).2 e1
    · walk_at "go"
      refine ix_lst (x := .scr _) rfl (atI_int hm.1 hm.2) ?_
      walk_at "go"
      refine ix_lst (datOf_hdl ht1) Tn.at0 ?_
      walk_at "go"
      exact q _ _ (mod_rng hl1).1 (mod_rng hl1).2 e1
end

section
variable {P : Program} {w : World} {K : PySem.W.Frag} {mg : Str → Option Value} {base : Heap}
def cPick : Ctr := fun svs τ Q => ∃ ns tw cs n, svs = [.scr ns, .hdl tw, .val (.list cs)] ∧ ns.length ≤ 1000 ∧ 1 ≤ cs.length ∧ cs.length ≤ 100000 ∧ n ≤ 1000000 ∧ TnS tw ns.length n τ ∧
  ∀ d τ', d ∈ cs → Twn tw ns.length (n + 1) τ τ' → Q (.val d) τ'
theorem atI_mem {ds : List PyData} {k : Int} (h0 : 0 ≤ k) (h1 : k < ds.length) : ∃ d, d ∈ ds ∧ atI ds k = some d := by
  have hk : k.toNat < ds.length := by omega
  refine ⟨ds[k.toNat], List.getElem_mem hk, ?_⟩
  unfold atI
  rw [ixN_ok h0 h1]
  exact List.getElem?_eq_getElem hk
abbrev s__law_pick : Stmt := topS 30
theorem sc__law_pick : FnScope ["_law_script", "_law_town_here", "_law_choices"] ["_law_script", "_law_town_here", "_law_choices"] (defScope s__law_pick) := ⟨rfl, rfl, rfl, by decide +kernel, rfl, by decide +kernel, by decide +kernel⟩
local macro_rules | `(tactic| walk_at "nm") => `(tactic| first
  | with_reducible refine de_name (x := "_law_script") 0 (by with_unfolding_all rfl) (by with_unfolding_all first | exact Or.inl rfl | exact Or.inr (Or.inl rfl) | exact Or.inr (Or.inr rfl)) (by with_unfolding_all rfl) ?_ (by with_unfolding_all decide) (by with_unfolding_all decide)
  | with_reducible refine de_name (x := "_law_town_here") 1 (by with_unfolding_all rfl) (by with_unfolding_all first | exact Or.inl rfl | exact Or.inr (Or.inl rfl) | exact Or.inr (Or.inr rfl)) (by with_unfolding_all rfl) ?_ (by with_unfolding_all decide) (by with_unfolding_all decide)
  | with_reducible refine de_name (x := "_law_choices") 2 (by with_unfolding_all rfl) (by with_unfolding_all first | exact Or.inl rfl | exact Or.inr (Or.inl rfl) | exact Or.inr (Or.inr rfl)) (by with_unfolding_all rfl) ?_ (by with_unfolding_all decide) (by with_unfolding_all decide))
local macro_rules | `(tactic| walk_at "st") => `(tactic| first
  | with_reducible refine ds_set (x := "_law_script") 0 (by with_unfolding_all exact sc__law_pick.nd) (by with_unfolding_all rfl) (by with_unfolding_all first | exact Or.inl rfl | exact Or.inr rfl) ?_ (by with_unfolding_all rfl) (by with_unfolding_all first | exact .inl rfl | exact .inr rfl)
  | with_reducible refine ds_set (x := "_law_town_here") 1 (by with_unfolding_all exact sc__law_pick.nd) (by with_unfolding_all rfl) (by with_unfolding_all first | exact Or.inl rfl | exact Or.inr rfl) ?_ (by with_unfolding_all rfl) (by with_unfolding_all first | exact .inl rfl | exact .inr rfl)
  | with_reducible refine ds_set (x := "_law_choices") 2 (by with_unfolding_all exact sc__law_pick.nd) (by with_unfolding_all rfl) (by with_unfolding_all first | exact Or.inl rfl | exact Or.inr rfl) ?_ (by with_unfolding_all rfl) (by with_unfolding_all first | exact .inl rfl | exact .inr rfl))



theorem kn_law_pick (D : HasDef K mg "_law_pick" s__law_pick ["_law_script", "_law_town_here", "_law_choices"]) (B : Bl mg) (k1 : Knows P w K mg base 1 "_law_draw" cDraw) : Knows P w K mg base 2 "_law_pick" cPick := by
  refine knows_mk D sc__law_pick (fun _ _ _ ⟨_, _, _, _, e, _⟩ => by rw [e]; rfl) (fun f cdv A outer s H E hr svs τ Q hC => ?_)
  obtain ⟨ns, tw, cs, n, rfl, hns, hl1, hl2, hn, ht, q⟩ := hC
  walk_at "go"
  refine ⟨_, _, _, n, rfl, hns, by omega, by omega, hn, ht, fun k τ' h0 h1 e => ?_⟩
  obtain ⟨d, hd, ea⟩ := atI_mem h0 h1
  exact ix_lst rfl ea (q d τ' hd e)
def cBarL : Ctr := fun svs τ Q => ∃ ns tw, ∃ m : Nat, ∃ n, svs = [.scr ns, .hdl tw, .val (.int m)] ∧ ns.length ≤ 1000 ∧ 1 ≤ m ∧ m ≤ 8 ∧ n ≤ 999900 ∧ TnS tw ns.length n τ ∧
  ∀ b τ', 1 ≤ b.length → b.length ≤ m → (∀ x ∈ b, 0 ≤ x ∧ x ≤ 6) → Twn tw ns.length (n + 10) τ τ' → Q (.val (tI b)) τ'
abbrev s__law_bar : Stmt := topS 31
theorem sc__law_bar : FnScope ["_law_script", "_law_town_here", "_law_most", "_law_size", "_law_k", "_law_low", "_law_high", "_law_at"] ["_law_script", "_law_town_here", "_law_most"] (defScope s__law_bar) := ⟨rfl, rfl, rfl, by decide +kernel, rfl, by decide +kernel, by decide +kernel⟩
local macro_rules | `(tactic| walk_at "nm") => `(tactic| first
  | with_reducible refine de_name (x := "_law_script") 0 (by with_unfolding_all rfl) (by with_unfolding_all first | exact Or.inl rfl | exact Or.inr (Or.inl rfl) | exact Or.inr (Or.inr rfl)) (by with_unfolding_all rfl) ?_ (by with_unfolding_all decide) (by with_unfolding_all decide)
  | with_reducible refine de_name (x := "_law_town_here") 1 (by with_unfolding_all rfl) (by with_unfolding_all first | exact Or.inl rfl | exact Or.inr (Or.inl rfl) | exact Or.inr (Or.inr rfl)) (by with_unfolding_all rfl) ?_ (by with_unfolding_all decide) (by with_unfolding_all decide)
  | with_reducible refine de_name (x := "_law_most") 2 (by with_unfolding_all rfl) (by with_unfolding_all first | exact Or.inl rfl | exact Or.inr (Or.inl rfl) | exact Or.inr (Or.inr rfl)) (by with_unfolding_all rfl) ?_ (by with_unfolding_all decide) (by with_unfolding_all decide)
  | with_reducible refine de_name (x := "_law_size") 3 (by with_unfolding_all rfl) (by with_unfolding_all first | exact Or.inl rfl | exact Or.inr (Or.inl rfl) | exact Or.inr (Or.inr rfl)) (by with_unfolding_all rfl) ?_ (by with_unfolding_all decide) (by with_unfolding_all decide)
  | with_reducible refine de_name (x := "_law_k") 4 (by with_unfolding_all rfl) (by with_unfolding_all first | exact Or.inl rfl | exact Or.inr (Or.inl rfl) | exact Or.inr (Or.inr rfl)) (by with_unfolding_all rfl) ?_ (by with_unfolding_all decide) (by with_unfolding_all decide)
  | with_reducible refine de_name (x := "_law_low") 5 (by with_unfolding_all rfl) (by with_unfolding_all first | exact Or.inl rfl | exact Or.inr (Or.inl rfl) | exact Or.inr (Or.inr rfl)) (by with_unfolding_all rfl) ?_ (by with_unfolding_all decide) (by with_unfolding_all decide)
  | with_reducible refine de_name (x := "_law_high") 6 (by with_unfolding_all rfl) (by with_unfolding_all first | exact Or.inl rfl | exact Or.inr (Or.inl rfl) | exact Or.inr (Or.inr rfl)) (by with_unfolding_all rfl) ?_ (by with_unfolding_all decide) (by with_unfolding_all decide)
  | with_reducible refine de_name (x := "_law_at") 7 (by with_unfolding_all rfl) (by with_unfolding_all first | exact Or.inl rfl | exact Or.inr (Or.inl rfl) | exact Or.inr (Or.inr rfl)) (by with_unfolding_all rfl) ?_ (by with_unfolding_all decide) (by with_unfolding_all decide))
local macro_rules | `(tactic| walk_at "st") => `(tactic| first
  | with_reducible refine ds_set (x := "_law_script") 0 (by with_unfolding_all exact sc__law_bar.nd) (by with_unfolding_all rfl) (by with_unfolding_all first | exact Or.inl rfl | exact Or.inr rfl) ?_ (by with_unfolding_all rfl) (by with_unfolding_all first | exact .inl rfl | exact .inr rfl)
  | with_reducible refine ds_set (x := "_law_town_here") 1 (by with_unfolding_all exact sc__law_bar.nd) (by with_unfolding_all rfl) (by with_unfolding_all first | exact Or.inl rfl | exact Or.inr rfl) ?_ (by with_unfolding_all rfl) (by with_unfolding_all first | exact .inl rfl | exact .inr rfl)
  | with_reducible refine ds_set (x := "_law_most") 2 (by with_unfolding_all exact sc__law_bar.nd) (by with_unfolding_all rfl) (by with_unfolding_all first | exact Or.inl rfl | exact Or.inr rfl) ?_ (by with_unfolding_all rfl) (by with_unfolding_all first | exact .inl rfl | exact .inr rfl)
  | with_reducible refine ds_set (x := "_law_size") 3 (by with_unfolding_all exact sc__law_bar.nd) (by with_unfolding_all rfl) (by with_unfolding_all first | exact Or.inl rfl | exact Or.inr rfl) ?_ (by with_unfolding_all rfl) (by with_unfolding_all first | exact .inl rfl | exact .inr rfl)
  | with_reducible refine ds_set (x := "_law_k") 4 (by with_unfolding_all exact sc__law_bar.nd) (by with_unfolding_all rfl) (by with_unfolding_all first | exact Or.inl rfl | exact Or.inr rfl) ?_ (by with_unfolding_all rfl) (by with_unfolding_all first | exact .inl rfl | exact .inr rfl)
  | with_reducible refine ds_set (x := "_law_low") 5 (by with_unfolding_all exact sc__law_bar.nd) (by with_unfolding_all rfl) (by with_unfolding_all first | exact Or.inl rfl | exact Or.inr rfl) ?_ (by with_unfolding_all rfl) (by with_unfolding_all first | exact .inl rfl | exact .inr rfl)
  | with_reducible refine ds_set (x := "_law_high") 6 (by with_unfolding_all exact sc__law_bar.nd) (by with_unfolding_all rfl) (by with_unfolding_all first | exact Or.inl rfl | exact Or.inr rfl) ?_ (by with_unfolding_all rfl) (by with_unfolding_all first | exact .inl rfl | exact .inr rfl)
  | with_reducible refine ds_set (x := "_law_at") 7 (by with_unfolding_all exact sc__law_bar.nd) (by with_unfolding_all rfl) (by with_unfolding_all first | exact Or.inl rfl | exact Or.inr rfl) ?_ (by with_unfolding_all rfl) (by with_unfolding_all first | exact .inl rfl | exact .inr rfl))

local macro_rules | `(tactic| walk_at "lc _law_k") => `(tactic| refine de_lc (t := .name 4) (own := [("_law_k", 4)]) rfl sc__law_bar.nd (by first | exact blkOk_by (N := ["_law_script", "_law_town_here", "_law_most", "_law_size", "_law_k", "_law_low", "_law_high", "_law_at"]) (sc := defScope s__law_bar) (by decide +kernel) | exact blkOk_by (N := ["_law_script", "_law_town_here", "_law_most", "_law_size", "_law_k", "_law_low", "_law_high", "_law_at"]) (sc := relS _ (defScope s__law_bar)) (by decide +kernel)) (by decide) (fun _ _ _ _ _ => pgx_name sc__law_bar.nd rfl (by first | exact Or.inl rfl | exact Or.inr rfl)) ?_)

theorem kn_law_bar (D : HasDef K mg "_law_bar" s__law_bar ["_law_script", "_law_town_here", "_law_most"]) (B : Bl mg) (k1 : Knows P w K mg base 1 "_law_draw" cDraw) : Knows P w K mg base 2 "_law_bar" cBarL := by
  refine knows_mk D sc__law_bar (fun _ _ _ ⟨_, _, _, _, e, _⟩ => by rw [e]; rfl) (fun f cdv A outer s H E hr svs τ Q hC => ?_)
  obtain ⟨ns, tw, m, n, rfl, hns, hm1, hm2, hn, ht, q⟩ := hC
  walk_at "go"
  refine ⟨_, _, _, n, rfl, hns, by omega, by omega, by omega, ht, fun z τ1 z0 z1 e1 => ?_⟩
  have ht1 := e1.tn ht.dom
  walk_at "go"
  refine ⟨_, _, _, n + 1, rfl, hns, by omega, by omega, by omega, ht1, fun k2 τ2 a0 a1 e2 => ?_⟩
  have e2 := e1.trans e2
  have ht2 := e2.tn ht.dom
  walk_at "go"
  obtain ⟨z, rfl⟩ : ∃ j : Nat, z = (j : Int) := ⟨z.toNat, by omega⟩
  refine ⟨fun h => ?_, fun h => ?_⟩
  · walk_at "go"
    walk_at "lc _law_k"
    refine di_range1 ‹Bl _› rfl ?_
    walk_at "go"
    refine ⟨by omega, by omega, lcq_inv (fun i acc τ' => Twn tw ns.length (n + 2 + i) τ τ' ∧ ∃ b : List Int, acc = b.map .int ∧ b.length = i ∧ ∀ x ∈ b, 0 ≤ x ∧ x ≤ 6) ⟨e2.mono (by omega), [], rfl, rfl, by simp⟩ (by rw [rangeD_length]; omega) ?_ ?_ ?_⟩
    · rintro i acc τ' ⟨_, b, rfl, hb, _⟩
      rw [List.length_map, hb]
      exact Nat.le_refl _
    · rintro i d acc τ' hd hil ⟨e', b, rfl, hb, hv⟩ D hD
      rw [rangeD_length] at hil
      refine ⟨_, rfl, fun s H C cl fp => ?_⟩
      walk_at "go"
      have hdm : tw ∈ dom τ' := by rw [e'.dom]; exact ht.dom
      refine ⟨_, _, _, n + 2 + i, rfl, hns, by omega, by omega, by omega, (e'.tn ht.dom).push hD, fun k τ3 k0 k1 e3 => ?_⟩
      obtain ⟨τ4, rfl, e4⟩ := e3.pop hdm hD
      refine ⟨_, _, rfl, rfl, (e'.trans e4).mono (by omega), b ++ [k], by rw [List.map_append]; rfl, by rw [List.length_append, hb]; rfl, fun x hx => ?_⟩
      rcases List.mem_append.mp hx with hx | hx
      · exact hv x hx
      · have : x = k := by simpa using hx
        omega
    · rintro acc τ' ⟨e', b, rfl, hb, hv⟩
      rw [rangeD_length] at hb
      walk_at "go"
      exact q b τ' (by omega) (by omega) hv (e'.mono (by rw [rangeD_length]; omega))
  · walk_at "go"
    refine ds_asg (t := .tup [5, 6]) (pgx_tup2 rfl (pg_name sc__law_bar.nd rfl (Or.inr rfl)) (pg_name sc__law_bar.nd rfl (Or.inr rfl))) ?_
    walk_at "go"
    refine ⟨_, _, _, n + 2, rfl, hns, by omega, by omega, by omega, ht2.mono (by omega), fun lo τ3 lo0 lo1 e3 => ?_⟩
    have e3 := e2.trans e3
    have ht3 := e3.tn ht.dom
    walk_at "go"
    refine ⟨_, _, _, n + 3, rfl, hns, by omega, by omega, by omega, ht3.mono (by omega), fun hi τ4 hi0 hi1 e4 => ?_⟩
    have e4 := e3.trans e4
    have ht4 := e4.tn ht.dom
    walk_at "go"
    refine ⟨_, _, _, n + 4, rfl, hns, by omega, by omega, by omega, ht4.mono (by omega), fun at' τ5 at0 at1 e5 => ?_⟩
    have e5 := e4.trans e5
    walk_at "go"
    walk_at "lc _law_k"
    refine di_range1 ‹Bl _› rfl ?_
    walk_at "go"
    refine ⟨by omega, by omega, lcq_map (List.range (1 + (z : Int)).toNat) (fun i => .int (0 + (i : Nat))) (fun i => .int (max lo (3 + hi - 2 * min ((0 + (i : Nat) - at') % (1 + (z : Int))) ((at' - (0 + (i : Nat))) % (1 + (z : Int)))))) rfl (by rw [List.length_range]; omega) (fun i hi' => ⟨_, rfl, fun D acc hD s H C cl fp => ?_⟩) ?_⟩
    · walk_at "go"
      exact ⟨rfl, rfl⟩
    · walk_at "go"
      have e : (List.range (1 + (z : Int)).toNat).map (fun (i : Nat) => PyData.int (max lo (3 + hi - 2 * min ((0 + (i : Nat) - at') % (1 + (z : Int))) ((at' - (0 + (i : Nat))) % (1 + (z : Int)))))) = ((List.range (1 + (z : Int)).toNat).map fun (i : Nat) => max lo (3 + hi - 2 * min ((0 + (i : Nat) - at') % (1 + (z : Int))) ((at' - (0 + (i : Nat))) % (1 + (z : Int))))).map .int := by
        rw [List.map_map]
        rfl
      rw [e]
      refine q _ _ (by rw [List.length_map, List.length_range]; omega) (by rw [List.length_map, List.length_range]; omega) (fun x hx => ?_) (e5.mono (by omega))
      obtain ⟨i, _, rfl⟩ := List.mem_map.mp hx
      have a := (mod_rng (a := (0 + (i : Nat) - at')) (m := 1 + (z : Int)) (by omega)).1
      have b := (mod_rng (a := (at' - (0 + (i : Nat)))) (m := 1 + (z : Int)) (by omega)).1
      omega
def cChanL : Ctr := fun svs τ Q => ∃ ns tw, ∃ nb m : Nat, ∃ n, svs = [.scr ns, .hdl tw, .val (.int nb), .val (.int m)] ∧ ns.length ≤ 1000 ∧ 1 ≤ nb ∧ nb ≤ 3 ∧ 1 ≤ m ∧ m ≤ 8 ∧ n ≤ 999000 ∧ TnS tw ns.length n τ ∧
  ∀ c τ', ChOk c → c.bars.length ≤ nb → (∀ b ∈ c.bars, b.length ≤ m) → Twn tw ns.length (n + 50) τ τ' → Q (.val (chD c)) τ'
theorem map_append_one {α β : Type} {f : α → β} {xs : List α} {x : α} : xs.map f ++ [f x] = (xs ++ [x]).map f := by rw [List.map_append]; rfl
theorem all_append_one {α : Type} {p : α → Prop} {xs : List α} {x : α} (h : ∀ y ∈ xs, p y) (hx : p x) : ∀ y ∈ xs ++ [x], p y := fun y hy => by
  rcases List.mem_append.mp hy with hy | hy
  · exact h y hy
  · have : y = x := by simpa using hy
    rw [this]
    exact hx
abbrev s__law_channel : Stmt := topS 32
theorem sc__law_channel : FnScope ["_law_script", "_law_town_here", "_law_bars", "_law_most", "_law_size", "_law_some", "_law_k", "_law_legs"] ["_law_script", "_law_town_here", "_law_bars", "_law_most"] (defScope s__law_channel) := ⟨rfl, rfl, rfl, by decide +kernel, rfl, by decide +kernel, by decide +kernel⟩
local macro_rules | `(tactic| walk_at "nm") => `(tactic| first
  | with_reducible refine de_name (x := "_law_script") 0 (by with_unfolding_all rfl) (by with_unfolding_all first | exact Or.inl rfl | exact Or.inr (Or.inl rfl) | exact Or.inr (Or.inr rfl)) (by with_unfolding_all rfl) ?_ (by with_unfolding_all decide) (by with_unfolding_all decide)
  | with_reducible refine de_name (x := "_law_town_here") 1 (by with_unfolding_all rfl) (by with_unfolding_all first | exact Or.inl rfl | exact Or.inr (Or.inl rfl) | exact Or.inr (Or.inr rfl)) (by with_unfolding_all rfl) ?_ (by with_unfolding_all decide) (by with_unfolding_all decide)
  | with_reducible refine de_name (x := "_law_bars") 2 (by with_unfolding_all rfl) (by with_unfolding_all first | exact Or.inl rfl | exact Or.inr (Or.inl rfl) | exact Or.inr (Or.inr rfl)) (by with_unfolding_all rfl) ?_ (by with_unfolding_all decide) (by with_unfolding_all decide)
  | with_reducible refine de_name (x := "_law_most") 3 (by with_unfolding_all rfl) (by with_unfolding_all first | exact Or.inl rfl | exact Or.inr (Or.inl rfl) | exact Or.inr (Or.inr rfl)) (by with_unfolding_all rfl) ?_ (by with_unfolding_all decide) (by with_unfolding_all decide)
  | with_reducible refine de_name (x := "_law_size") 4 (by with_unfolding_all rfl) (by with_unfolding_all first | exact Or.inl rfl | exact Or.inr (Or.inl rfl) | exact Or.inr (Or.inr rfl)) (by with_unfolding_all rfl) ?_ (by with_unfolding_all decide) (by with_unfolding_all decide)
  | with_reducible refine de_name (x := "_law_some") 5 (by with_unfolding_all rfl) (by with_unfolding_all first | exact Or.inl rfl | exact Or.inr (Or.inl rfl) | exact Or.inr (Or.inr rfl)) (by with_unfolding_all rfl) ?_ (by with_unfolding_all decide) (by with_unfolding_all decide)
  | with_reducible refine de_name (x := "_law_k") 6 (by with_unfolding_all rfl) (by with_unfolding_all first | exact Or.inl rfl | exact Or.inr (Or.inl rfl) | exact Or.inr (Or.inr rfl)) (by with_unfolding_all rfl) ?_ (by with_unfolding_all decide) (by with_unfolding_all decide)
  | with_reducible refine de_name (x := "_law_legs") 7 (by with_unfolding_all rfl) (by with_unfolding_all first | exact Or.inl rfl | exact Or.inr (Or.inl rfl) | exact Or.inr (Or.inr rfl)) (by with_unfolding_all rfl) ?_ (by with_unfolding_all decide) (by with_unfolding_all decide))
local macro_rules | `(tactic| walk_at "st") => `(tactic| first
  | with_reducible refine ds_set (x := "_law_script") 0 (by with_unfolding_all exact sc__law_channel.nd) (by with_unfolding_all rfl) (by with_unfolding_all first | exact Or.inl rfl | exact Or.inr rfl) ?_ (by with_unfolding_all rfl) (by with_unfolding_all first | exact .inl rfl | exact .inr rfl)
  | with_reducible refine ds_set (x := "_law_town_here") 1 (by with_unfolding_all exact sc__law_channel.nd) (by with_unfolding_all rfl) (by with_unfolding_all first | exact Or.inl rfl | exact Or.inr rfl) ?_ (by with_unfolding_all rfl) (by with_unfolding_all first | exact .inl rfl | exact .inr rfl)
  | with_reducible refine ds_set (x := "_law_bars") 2 (by with_unfolding_all exact sc__law_channel.nd) (by with_unfolding_all rfl) (by with_unfolding_all first | exact Or.inl rfl | exact Or.inr rfl) ?_ (by with_unfolding_all rfl) (by with_unfolding_all first | exact .inl rfl | exact .inr rfl)
  | with_reducible refine ds_set (x := "_law_most") 3 (by with_unfolding_all exact sc__law_channel.nd) (by with_unfolding_all rfl) (by with_unfolding_all first | exact Or.inl rfl | exact Or.inr rfl) ?_ (by with_unfolding_all rfl) (by with_unfolding_all first | exact .inl rfl | exact .inr rfl)
  | with_reducible refine ds_set (x := "_law_size") 4 (by with_unfolding_all exact sc__law_channel.nd) (by with_unfolding_all rfl) (by with_unfolding_all first | exact Or.inl rfl | exact Or.inr rfl) ?_ (by with_unfolding_all rfl) (by with_unfolding_all first | exact .inl rfl | exact .inr rfl)
  | with_reducible refine ds_set (x := "_law_some") 5 (by with_unfolding_all exact sc__law_channel.nd) (by with_unfolding_all rfl) (by with_unfolding_all first | exact Or.inl rfl | exact Or.inr rfl) ?_ (by with_unfolding_all rfl) (by with_unfolding_all first | exact .inl rfl | exact .inr rfl)
  | with_reducible refine ds_set (x := "_law_k") 6 (by with_unfolding_all exact sc__law_channel.nd) (by with_unfolding_all rfl) (by with_unfolding_all first | exact Or.inl rfl | exact Or.inr rfl) ?_ (by with_unfolding_all rfl) (by with_unfolding_all first | exact .inl rfl | exact .inr rfl)
  | with_reducible refine ds_set (x := "_law_legs") 7 (by with_unfolding_all exact sc__law_channel.nd) (by with_unfolding_all rfl) (by with_unfolding_all first | exact Or.inl rfl | exact Or.inr rfl) ?_ (by with_unfolding_all rfl) (by with_unfolding_all first | exact .inl rfl | exact .inr rfl))

local macro_rules | `(tactic| walk_at "lc _law_k") => `(tactic| refine de_lc (t := .name 6) (own := [("_law_k", 6)]) rfl sc__law_channel.nd (by first | exact blkOk_by (N := ["_law_script", "_law_town_here", "_law_bars", "_law_most", "_law_size", "_law_some", "_law_k", "_law_legs"]) (sc := defScope s__law_channel) (by decide +kernel) | exact blkOk_by (N := ["_law_script", "_law_town_here", "_law_bars", "_law_most", "_law_size", "_law_some", "_law_k", "_law_legs"]) (sc := relS _ (defScope s__law_channel)) (by decide +kernel)) (by decide) (fun _ _ _ _ _ => pgx_name sc__law_channel.nd rfl (by first | exact Or.inl rfl | exact Or.inr rfl)) ?_)

theorem kn_law_channel (D : HasDef K mg "_law_channel" s__law_channel ["_law_script", "_law_town_here", "_law_bars", "_law_most"]) (B : Bl mg) (k1 : Knows P w K mg base 1 "_law_draw" cDraw) (k2 : Knows P w K mg base 2 "_law_pick" cPick) (k3 : Knows P w K mg base 2 "_law_bar" cBarL) : Knows P w K mg base 3 "_law_channel" cChanL := by
  refine knows_mk D sc__law_channel (fun _ _ _ ⟨_, _, _, _, _, e, _⟩ => by rw [e]; rfl) (fun f cdv A outer s H E hr svs τ Q hC => ?_)
  obtain ⟨ns, tw, nb, m, n, rfl, hns, hb1, hb2, hm1, hm2, hn, ht, q⟩ := hC
  walk_at "go"
  refine ⟨_, _, _, n, rfl, hns, by omega, by omega, by omega, ht, fun z τ1 z0 z1 e1 => ?_⟩
  have ht1 := e1.tn ht.dom
  obtain ⟨z, rfl⟩ : ∃ j : Nat, z = (j : Int) := ⟨z.toNat, by omega⟩
  walk_at "go"
  walk_at "lc _law_k"
  refine di_range1 ‹Bl _› rfl ?_
  walk_at "go"
  refine ⟨by omega, by omega, lcq_inv (fun i acc τ' => Twn tw ns.length (n + 1 + 10 * i) τ τ' ∧ ∃ b : List (List Int), acc = b.map tI ∧ b.length = i ∧ ∀ x ∈ b, (1 ≤ x.length ∧ x.length ≤ m) ∧ ∀ y ∈ x, 0 ≤ y ∧ y ≤ 6) ⟨e1.mono (by omega), [], rfl, rfl, by simp⟩ (by rw [rangeD_length]; omega) ?_ ?_ ?_⟩
  · rintro i acc τ' ⟨_, b, rfl, hb, _⟩
    rw [List.length_map, hb]
    exact Nat.le_refl _
  · rintro i d acc τ' hd hil ⟨e', b, rfl, hb, hv⟩ D hD
    rw [rangeD_length] at hil
    refine ⟨_, rfl, fun s H C cl fp => ?_⟩
    walk_at "go"
    have hdm : tw ∈ dom τ' := by rw [e'.dom]; exact ht.dom
    refine ⟨_, _, m, n + 1 + 10 * i, rfl, hns, hm1, hm2, by omega, (e'.tn ht.dom).push hD, fun b' τ3 l0 l1 lv e3 => ?_⟩
    obtain ⟨τ4, rfl, e4⟩ := e3.pop hdm hD
    exact ⟨_, _, rfl, rfl, (e'.trans e4).mono (by omega), b ++ [b'], map_append_one, by rw [List.length_append, hb]; rfl, all_append_one hv ⟨⟨l0, l1⟩, lv⟩⟩
  rintro acc τ2 ⟨e2, bars, rfl, hbl, hbv⟩
  rw [rangeD_length] at hbl e2
  have ht2 := e2.tn ht.dom
  walk_at "go"
  walk_at "lc _law_k"
  refine di_range1 ‹Bl _› rfl ?_
  walk_at "go"
  refine ⟨by omega, by omega, lcq_inv (fun i acc τ' => Twn tw ns.length (n + 31 + 2 * i) τ τ' ∧ ∃ b : List Int, acc = b.map .int ∧ b.length = i ∧ ∀ x ∈ b, 1 ≤ x ∧ x ≤ 9) ⟨e2.mono (by omega), [], rfl, rfl, by simp⟩ (by rw [rangeD_length]; omega) ?_ ?_ ?_⟩
  · rintro i acc τ' ⟨_, b, rfl, hb, _⟩
    rw [List.length_map, hb]
    exact Nat.le_refl _
  · rintro i d acc τ' hd hil ⟨e', b, rfl, hb, hv⟩ D hD
    rw [rangeD_length] at hil
    refine ⟨_, rfl, fun s H C cl fp => ?_⟩
    walk_at "go"
    have hdm : tw ∈ dom τ' := by rw [e'.dom]; exact ht.dom
    refine ⟨_, _, _, n + 31 + 2 * i, rfl, hns, by decide, by decide, by omega, (e'.tn ht.dom).push hD, fun d τ3 hd e3 => ?_⟩
    obtain ⟨τ4, rfl, e4⟩ := e3.pop hdm hD
    obtain ⟨lim, rfl, hlim⟩ : ∃ lim : Int, d = .int lim ∧ 1 ≤ lim ∧ lim ≤ 9 := by
      simp only [List.mem_cons, List.not_mem_nil, or_false] at hd
      rcases hd with rfl | rfl
      · exact ⟨2, rfl, by decide, by decide⟩
      · exact ⟨9, rfl, by decide, by decide⟩
    have hD4 : D ∉ dom τ4 := by rw [e4.dom]; exact hD
    have e5 := e'.trans e4
    walk_at "go"
    refine ⟨_, _, _, n + 31 + 2 * i + 1, rfl, hns, by omega, by omega, by omega, (e5.tn ht.dom).push hD4, fun k τ5 k0 k1 e6 => ?_⟩
    obtain ⟨τ6, rfl, e7⟩ := e6.pop (by rw [e5.dom]; exact ht.dom) hD4
    walk_at "go"
    exact ⟨(e5.trans e7).mono (by omega), b ++ [1 + k], map_append_one, by rw [List.length_append, hb]; rfl, all_append_one hv (by omega)⟩
  rintro acc τ3 ⟨e3, legs, rfl, hll, hlv⟩
  rw [rangeD_length] at hll e3
  walk_at "go"
  walk_at "lc _law_k"
  refine di_range1 ‹Bl _› rfl ?_
  walk_at "go"
  refine ⟨by omega, by omega, lcq_inv (fun i acc τ' => Twn tw ns.length (n + 40 + i) τ τ' ∧ ∃ b : List Int, acc = b.map .int ∧ b.length = i ∧ ∀ x ∈ b, 0 ≤ x ∧ x ≤ 3) ⟨e3.mono (by omega), [], rfl, rfl, by simp⟩ (by rw [rangeD_length]; omega) ?_ ?_ ?_⟩
  · rintro i acc τ' ⟨_, b, rfl, hb, _⟩
    rw [List.length_map, hb]
    exact Nat.le_refl _
  · rintro i d acc τ' hd hil ⟨e', b, rfl, hb, hv⟩ D hD
    rw [rangeD_length] at hil
    refine ⟨_, rfl, fun s H C cl fp => ?_⟩
    walk_at "go"
    have hdm : tw ∈ dom τ' := by rw [e'.dom]; exact ht.dom
    refine ⟨_, _, _, n + 40 + i, rfl, hns, by omega, by omega, by omega, (e'.tn ht.dom).push hD, fun k τ3 k0 k1 e3 => ?_⟩
    obtain ⟨τ4, rfl, e4⟩ := e3.pop hdm hD
    exact ⟨_, _, rfl, rfl, (e'.trans e4).mono (by omega), b ++ [k], map_append_one, by rw [List.length_append, hb]; rfl, all_append_one hv (by omega)⟩
  rintro acc τ4 ⟨e4, waits, rfl, hwl, hwv⟩
  rw [rangeD_length] at hwl e4
  walk_at "go"
  refine q ⟨bars, legs, waits⟩ τ4 ⟨?_, ?_, ?_, ?_, ?_, ?_, ?_, ?_⟩ ?_ ?_ (e4.mono (by omega))
  · show 1 ≤ bars.length
    omega
  · show bars.length ≤ 3
    omega
  · intro b hb
    have := (hbv b hb).1
    omega
  · intro b hb
    exact (hbv b hb).2
  · show legs.length = bars.length - 1
    omega
  · exact hlv
  · show waits.length = bars.length - 1
    omega
  · exact hwv
  · show bars.length ≤ nb
    omega
  · intro b hb
    exact (hbv b hb).1.2
end

/-! ### the period -/
theorem foldl_lcm_dvd : ∀ (bs : List (List Int)) (a : Nat), a ∣ bs.foldl (fun a b => Nat.lcm a b.length) a ∧ ∀ b ∈ bs, b.length ∣ bs.foldl (fun a b => Nat.lcm a b.length) a
  | [], a => ⟨Nat.dvd_refl _, by simp⟩
  | x :: r, a => by
    obtain ⟨h1, h2⟩ := foldl_lcm_dvd r (Nat.lcm a x.length)
    refine ⟨Nat.dvd_trans (Nat.dvd_lcm_left _ _) h1, fun b hb => ?_⟩
    rcases List.mem_cons.mp hb with rfl | hb
    · exact Nat.dvd_trans (Nat.dvd_lcm_right _ _) h1
    · exact h2 b hb
theorem foldl_lcm_min {n : Nat} : ∀ (bs : List (List Int)) (a : Nat), a ∣ n → (∀ b ∈ bs, b.length ∣ n) → bs.foldl (fun a b => Nat.lcm a b.length) a ∣ n
  | [], a, h, _ => h
  | x :: r, a, h, hb => foldl_lcm_min r _ (Nat.lcm_dvd h (hb x List.mem_cons_self)) fun b hm => hb b (List.mem_cons_of_mem _ hm)
theorem period_dvd {c : Chan} {b : List Int} (hb : b ∈ c.bars) : b.length ∣ periodOf c := (foldl_lcm_dvd c.bars 1).2 b hb
theorem period_min {c : Chan} {n : Nat} (h : ∀ b ∈ c.bars, b.length ∣ n) : periodOf c ∣ n := foldl_lcm_min c.bars 1 (Nat.one_dvd _) h
theorem foldl_lcm_bound : ∀ (bs : List (List Int)) (a : Nat), 0 < a → (∀ b ∈ bs, 1 ≤ b.length ∧ b.length ≤ 8) → 0 < bs.foldl (fun a b => Nat.lcm a b.length) a ∧ bs.foldl (fun a b => Nat.lcm a b.length) a ≤ a * 8 ^ bs.length
  | [], a, h, _ => ⟨h, by simp⟩
  | x :: r, a, h, hb => by
    have hx := hb x List.mem_cons_self
    have hp : 0 < Nat.lcm a x.length := Nat.lcm_pos h (by omega)
    obtain ⟨h1, h2⟩ := foldl_lcm_bound r (Nat.lcm a x.length) hp fun b hm => hb b (List.mem_cons_of_mem _ hm)
    refine ⟨h1, Nat.le_trans h2 ?_⟩
    have h3 : Nat.lcm a x.length ≤ a * 8 := by
      have : Nat.lcm a x.length ≤ a * x.length := Nat.div_le_self _ _
      exact Nat.le_trans this (Nat.mul_le_mul_left _ hx.2)
    rw [List.length_cons, Nat.pow_succ, Nat.mul_comm (8 ^ r.length) 8, ← Nat.mul_assoc]
    exact Nat.mul_le_mul_right _ h3
theorem period_pos {c : Chan} (h : ChOk c) : 0 < periodOf c := (foldl_lcm_bound c.bars 1 (by decide) h.bl).1
theorem period_le {c : Chan} (h : ChOk c) : periodOf c ≤ 512 := by
  have h1 := (foldl_lcm_bound c.bars 1 (by decide) h.bl).2
  have h2 : 1 * 8 ^ c.bars.length ≤ 1 * 8 ^ 3 := Nat.mul_le_mul_left _ (Nat.pow_le_pow_right (by decide) h.b3)
  exact Nat.le_trans h1 h2
theorem period_back (c : Chan) : periodOf (backOf c) = periodOf c := by
  apply Nat.dvd_antisymm
  · exact period_min fun b hb => period_dvd (by simpa [backOf] using hb)
  · exact period_min fun b hb => period_dvd (by simpa [backOf] using hb)
theorem pl_tI {n : Nat} (xs : List Int) : Pl (n + 1) (tI xs) := fun x hx => by
  obtain ⟨y, _, rfl⟩ := List.mem_map.mp hx
  cases n <;> trivial
theorem pl_chD {n : Nat} (c : Chan) : Pl (n + 3) (chD c) := fun x hx => by
  simp only [List.mem_cons, List.not_mem_nil, or_false] at hx
  rcases hx with rfl | rfl | rfl
  · intro y hy
    obtain ⟨b, _, rfl⟩ := List.mem_map.mp hy
    exact pl_tI b
  · exact pl_tI _
  · exact pl_tI _
theorem map_inj_of {α β : Type} {f : α → β} (hf : ∀ a b, f a = f b → a = b) : ∀ {xs ys : List α}, xs.map f = ys.map f → xs = ys
  | [], [], _ => rfl
  | [], _ :: _, h => by cases h
  | _ :: _, [], h => by cases h
  | x :: xs, y :: ys, h => by
    rw [List.map_cons, List.map_cons] at h
    injection h with h1 h2
    rw [hf _ _ h1, map_inj_of hf h2]
theorem tI_inj {xs ys : List Int} (h : tI xs = tI ys) : xs = ys := by
  unfold tI at h
  injection h with h
  exact map_inj_of (fun a b h => by injection h) h
theorem chD_inj {c d : Chan} (h : chD c = chD d) : c = d := by
  unfold chD at h
  injection h with h
  injection h with h1 h2
  injection h2 with h2 h3
  injection h3 with h3 _
  injection h1 with h1
  have e1 := map_inj_of (fun _ _ h => tI_inj h) h1
  have e2 := tI_inj h2
  have e3 := tI_inj h3
  cases c
  cases d
  simp only at e1 e2 e3
  subst e1 e2 e3
  rfl

/-! ### channels later, turned round -/
theorem back_back (c : Chan) : backOf (backOf c) = c := by
  cases c
  simp [backOf]
theorem shiftBar_get {b : List Int} (hb : 1 ≤ b.length) (h x : Int) : (shiftBar h b).getD (x % ((shiftBar h b).length : Int)).toNat 0 = b.getD ((x - h) % (b.length : Int)).toNat 0 := by
  have hl : (shiftBar h b).length = b.length := by simp [shiftBar]
  rw [hl]
  have h1 := Int.emod_nonneg x (show (b.length : Int) ≠ 0 by omega)
  have h2 := Int.emod_lt_of_pos x (show (0 : Int) < b.length by omega)
  have e : (shiftBar h b).getD (x % (b.length : Int)).toNat 0 = b.getD ((((x % (b.length : Int)).toNat : Int) - h) % (b.length : Int)).toNat 0 := by
    rw [List.getD_eq_getElem?_getD]
    unfold shiftBar
    rw [List.getElem?_map, List.getElem?_range (by omega)]
    rfl
  rw [e, Int.toNat_of_nonneg h1, Int.emod_sub_emod]
theorem shiftBar_shiftBar {b : List Int} (hb : 1 ≤ b.length) (g h : Int) : shiftBar h (shiftBar g b) = shiftBar (g + h) b := by
  have hl : (shiftBar g b).length = b.length := by simp [shiftBar]
  apply List.ext_getElem
  · simp [shiftBar]
  · intro i h1 h2
    have hi : i < b.length := by simpa [shiftBar] using h2
    have e1 : (shiftBar h (shiftBar g b))[i] = (shiftBar g b).getD (((i : Int) - h) % ((shiftBar g b).length : Int)).toNat 0 := by
      simp [shiftBar]
    have e2 : (shiftBar (g + h) b)[i] = b.getD (((i : Int) - (g + h)) % (b.length : Int)).toNat 0 := by
      simp [shiftBar]
    rw [e1, e2, shiftBar_get hb]
    congr 3
    omega
theorem shiftBar_period {b : List Int} {n : Int} (hb : 1 ≤ b.length) (hd : (b.length : Int) ∣ n) : shiftBar n b = b := by
  apply List.ext_getElem
  · simp [shiftBar]
  · intro i h1 h2
    have e1 : (shiftBar n b)[i] = b.getD (((i : Int) - n) % (b.length : Int)).toNat 0 := by simp [shiftBar]
    rw [e1]
    obtain ⟨k, rfl⟩ := hd
    have e : ((i : Int) - (b.length : Int) * k) % (b.length : Int) = i := by
      rw [Int.sub_mul_emod_self_left]
      exact Int.emod_eq_of_lt (by omega) (by omega)
    rw [e, Int.toNat_natCast, List.getD_eq_getElem?_getD, List.getElem?_eq_getElem h2]
    rfl
theorem shifted_shifted {c : Chan} (hc : ChOk c) (g h : Int) : shifted (shifted c g) h = shifted c (g + h) := by
  unfold shifted
  simp only [List.map_map]
  congr 1
  apply List.map_congr_left
  intro b hb
  exact shiftBar_shiftBar (hc.bl b hb).1 g h
theorem shifted_period {c : Chan} (hc : ChOk c) {n : Int} (hd : (periodOf c : Int) ∣ n) : shifted c n = c := by
  have e : c.bars.map (shiftBar n) = c.bars := by
    have : c.bars.map (shiftBar n) = c.bars.map id := by
      apply List.map_congr_left
      intro b hb
      exact shiftBar_period (hc.bl b hb).1 (Int.dvd_trans (Int.natCast_dvd_natCast.mpr (period_dvd hb)) hd)
    rw [this, List.map_id]
  cases c
  simp only [shifted] at *
  rw [e]
theorem barAt_shift {c : Chan} {j : Nat} (hj : j < c.bars.length) (h : Int) : barAt (shifted c h) j = shiftBar h (barAt c j) := by
  unfold barAt shifted
  simp only [List.getD_eq_getElem?_getD, List.getElem?_map, List.getElem?_eq_getElem hj]
  rfl
theorem depth_shift {c : Chan} (hc : ChOk c) {j : Nat} (hj : j < c.bars.length) (g h : Int) : depthOf (shifted c g) j (h + g) = depthOf c j h := by
  unfold depthOf
  rw [barAt_shift hj, shiftBar_get (hc.bar1 hj)]
  congr 3
  omega
theorem depth_period {c : Chan} {j : Nat} (hj : j < c.bars.length) {n : Int} (hd : (periodOf c : Int) ∣ n) (h : Int) : depthOf c j (h + n) = depthOf c j h := by
  unfold depthOf
  obtain ⟨k, rfl⟩ := Int.dvd_trans (Int.natCast_dvd_natCast.mpr (period_dvd (barAt_mem hj))) hd
  rw [Int.add_mul_emod_self_left]
theorem barAt_back {c : Chan} {j : Nat} (hj : j < c.bars.length) : barAt (backOf c) (c.bars.length - 1 - j) = barAt c j := by
  unfold barAt backOf
  simp only [List.getD_eq_getElem?_getD]
  rw [List.getElem?_reverse (by omega), show c.bars.length - 1 - (c.bars.length - 1 - j) = j by omega]
theorem depth_back {c : Chan} {j : Nat} (hj : j < c.bars.length) (h : Int) : depthOf (backOf c) (c.bars.length - 1 - j) h = depthOf c j h := by
  unfold depthOf
  rw [barAt_back hj]

section
variable {P : Program} {w : World} {K : PySem.W.Frag} {mg : Str → Option Value} {base : Heap}
abbrev s__law_period : Stmt := topS 33
theorem sc__law_period : FnScope ["_law_channel_here", "_law_found", "_law_bar_here"] ["_law_channel_here"] (defScope s__law_period) := ⟨rfl, rfl, rfl, by decide +kernel, rfl, by decide +kernel, by decide +kernel⟩
local macro_rules | `(tactic| walk_at "nm") => `(tactic| first
  | with_reducible refine de_name (x := "_law_channel_here") 0 (by with_unfolding_all rfl) (by with_unfolding_all first | exact Or.inl rfl | exact Or.inr (Or.inl rfl) | exact Or.inr (Or.inr rfl)) (by with_unfolding_all rfl) ?_ (by with_unfolding_all decide) (by with_unfolding_all decide)
  | with_reducible refine de_name (x := "_law_found") 1 (by with_unfolding_all rfl) (by with_unfolding_all first | exact Or.inl rfl | exact Or.inr (Or.inl rfl) | exact Or.inr (Or.inr rfl)) (by with_unfolding_all rfl) ?_ (by with_unfolding_all decide) (by with_unfolding_all decide)
  | with_reducible refine de_name (x := "_law_bar_here") 2 (by with_unfolding_all rfl) (by with_unfolding_all first | exact Or.inl rfl | exact Or.inr (Or.inl rfl) | exact Or.inr (Or.inr rfl)) (by with_unfolding_all rfl) ?_ (by with_unfolding_all decide) (by with_unfolding_all decide))
local macro_rules | `(tactic| walk_at "st") => `(tactic| first
  | with_reducible refine ds_set (x := "_law_channel_here") 0 (by with_unfolding_all exact sc__law_period.nd) (by with_unfolding_all rfl) (by with_unfolding_all first | exact Or.inl rfl | exact Or.inr rfl) ?_ (by with_unfolding_all rfl) (by with_unfolding_all first | exact .inl rfl | exact .inr rfl)
  | with_reducible refine ds_set (x := "_law_found") 1 (by with_unfolding_all exact sc__law_period.nd) (by with_unfolding_all rfl) (by with_unfolding_all first | exact Or.inl rfl | exact Or.inr rfl) ?_ (by with_unfolding_all rfl) (by with_unfolding_all first | exact .inl rfl | exact .inr rfl)
  | with_reducible refine ds_set (x := "_law_bar_here") 2 (by with_unfolding_all exact sc__law_period.nd) (by with_unfolding_all rfl) (by with_unfolding_all first | exact Or.inl rfl | exact Or.inr rfl) ?_ (by with_unfolding_all rfl) (by with_unfolding_all first | exact .inl rfl | exact .inr rfl))

local macro_rules | `(tactic| walk_at "lc _law_bar_here") => `(tactic| refine de_lc (t := .name 2) (own := [("_law_bar_here", 2)]) rfl sc__law_period.nd (by first | exact blkOk_by (N := ["_law_channel_here", "_law_found", "_law_bar_here"]) (sc := defScope s__law_period) (by decide +kernel) | exact blkOk_by (N := ["_law_channel_here", "_law_found", "_law_bar_here"]) (sc := relS _ (defScope s__law_period)) (by decide +kernel)) (by decide) (fun _ _ _ _ _ => pgx_name sc__law_period.nd rfl (by first | exact Or.inl rfl | exact Or.inr rfl)) ?_)

theorem kn_law_period (D : HasDef K mg "_law_period" s__law_period ["_law_channel_here"]) (B : Bl mg) : Knows P w K mg base 1 "_law_period" cPer := by
  refine knows_mk D sc__law_period (fun _ _ _ ⟨_, e, _⟩ => by rw [e]; rfl) (fun f cdv A outer s H E hr svs τ Q hC => ?_)
  obtain ⟨c, rfl, hc, q⟩ := hC
  have hp := period_pos hc
  have hp2 := period_le hc
  walk_at "go"
  refine ds_while PassesOwn.never (fun m ρ' τ' => ∃ n : Nat, m = periodOf c - n ∧ 1 ≤ n ∧ n ≤ periodOf c ∧ τ' = τ ∧ ρ' = [some (.val (chD c)), some (.val (.int n)), none]) ⟨_, 1, rfl, by omega, by omega, rfl, rfl⟩ ?_
  rintro m ρ' τ' ⟨n, rfl, h1, h2, rfl, rfl⟩
  have ec : chD c = .tuple [.tuple (c.bars.map tI), tI c.legs, tI c.waits] := rfl
  rw [ec]
  walk_at "go"
  walk_at "lc _law_bar_here"
  refine di_tup ?_
  walk_at "go"
  refine lcq_filter c.bars tI tI (fun b => !decide (((n : Int) % (b.length : Int)) = 0)) rfl (by have := hc.b3; omega) (fun b hb => ⟨_, rfl, fun D acc hD s H C cl fp => ?_⟩) ?_
  · have hl := hc.bl b hb
    unfold tI
    refine ⟨?_, fun _ => ?_⟩
    · walk_at "go"
      refine ⟨by rw [List.length_map]; omega, ?_⟩
      rw [List.length_map]
      walk_at "go"
      exact ⟨rfl, rfl⟩
    · walk_at "go"
      exact ⟨rfl, rfl⟩
  walk_at "go"
  refine eq_pl (n := 2) (m := 2) rfl rfl (by rintro x hx; obtain ⟨b, _, rfl⟩ := List.mem_map.mp hx; exact pl_tI b) (by rintro x hx; cases hx) (fun b hb => ?_)
  refine ⟨_, rfl, fun h => ?_, fun h => ?_⟩
  · have hb' : b = false := by simpa [bneg] using h
    have hlt : n < periodOf c := by
      refine Nat.lt_of_le_of_ne h2 fun e => ?_
      have : b = true := hb.mpr (by
        congr 1
        rw [List.map_eq_nil_iff, List.filter_eq_nil_iff]
        intro x hx
        have hd := period_dvd hx
        have : ((n : Int) % (x.length : Int)) = 0 := by
          rw [e]
          exact Int.emod_eq_zero_of_dvd (Int.natCast_dvd_natCast.mpr hd)
        simp [this])
      rw [hb'] at this
      cases this
    walk_at "go"
    exact ⟨periodOf c - (n + 1), by omega, n + 1, rfl, by omega, by omega, rfl, rfl⟩
  · have hb' : b = true := by simpa [bneg] using h
    have e := hb.mp hb'
    injection e with e
    rw [List.map_eq_nil_iff, List.filter_eq_nil_iff] at e
    have hd : periodOf c ∣ n := period_min fun x hx => by
      have := e x hx
      have h0 : ((n : Int) % (x.length : Int)) = 0 := by simpa using this
      exact Int.natCast_dvd_natCast.mp (Int.dvd_of_emod_eq_zero h0)
    have hn : n = periodOf c := Nat.le_antisymm h2 (Nat.le_of_dvd (by omega) hd)
    walk_at "go"
    rw [← hn] at q
    exact q
end

/-! ### passages -/
def lastI (r : List Int) : Int := r.getD (r.length - 1) 0
def legAt (c : Chan) (j : Nat) : Int := c.legs.getD j 0
def waitAt (c : Chan) (j : Nat) : Int := c.waits.getD j 0
def extR (c : Chan) (j : Nat) (row : List Int) : List (List Int) := (List.range ((waitAt c j).toNat + 1)).map fun m => row ++ [lastI row + legAt c j + (m : Nat)]
def okR (c : Chan) (d : Int) (j : Nat) (row : List Int) : Bool := decide (d ≤ depthOf c j (lastI row))
def rowsTo (c : Chan) (d h : Int) : Nat → List (List Int)
  | 0 => if d ≤ depthOf c 0 h then [[h]] else []
  | k + 1 => ((rowsTo c d h k).flatMap (extR c k)).filter (okR c d (k + 1))
def allFrom (c : Chan) (d h : Int) : List (List Int) := rowsTo c d h (c.bars.length - 1)
def rowsD (rows : List (List Int)) : PyData := .list (rows.map tI)
theorem ext_len {c : Chan} (hc : ChOk c) {j : Nat} (hj : j + 1 < c.bars.length) (row : List Int) : (extR c j row).length ≤ 4 := by
  unfold extR
  rw [List.length_map, List.length_range]
  have h := hc.wv _ (getD_mem (xs := c.waits) (i := j) (by have := hc.wl; omega))
  unfold waitAt
  omega
theorem flatMap_len {α β : Type} {f : α → List β} {n : Nat} : ∀ {xs : List α}, (∀ x ∈ xs, (f x).length ≤ n) → (xs.flatMap f).length ≤ n * xs.length
  | [], _ => Nat.zero_le _
  | x :: xs, h => by
    rw [List.flatMap_cons, List.length_append, List.length_cons]
    have h1 := h x List.mem_cons_self
    have h2 := flatMap_len (xs := xs) fun y hy => h y (List.mem_cons_of_mem _ hy)
    rw [Nat.mul_add]
    omega
theorem rows_len {c : Chan} (hc : ChOk c) (d h : Int) : ∀ k, k < c.bars.length → (rowsTo c d h k).length ≤ 4 ^ k
  | 0, _ => by
    unfold rowsTo
    split <;> simp
  | k + 1, hk => by
    unfold rowsTo
    refine Nat.le_trans (List.length_filter_le _ _) (Nat.le_trans (flatMap_len fun r _ => ext_len hc hk r) ?_)
    have := rows_len hc d h k (by omega)
    rw [Nat.pow_succ]
    omega
theorem rows_len16 {c : Chan} (hc : ChOk c) (d h : Int) {k : Nat} (hk : k < c.bars.length) : (rowsTo c d h k).length ≤ 16 := by
  have h3 := hc.b3
  refine Nat.le_trans (rows_len hc d h k hk) ?_
  have : k = 0 ∨ k = 1 ∨ k = 2 := by omega
  rcases this with rfl | rfl | rfl <;> decide
theorem ext_eq {c : Chan} {i : Nat} (xs : List (List Int)) : (xs.flatMap fun x => ((List.range ((waitAt c i).toNat + 1)).filter fun _ => true).map fun (m : Nat) => tI (x ++ [lastI x + legAt c i + (m : Nat)])) = (xs.flatMap (extR c i)).map tI := by
  rw [List.map_flatMap]
  refine congrArg (fun g => xs.flatMap g) (funext fun x => ?_)
  unfold extR
  rw [List.map_map, List.filter_eq_self.mpr (fun _ _ => rfl)]
  rfl
theorem row_shape {c : Chan} {d h : Int} : ∀ {k : Nat} {r : List Int}, r ∈ rowsTo c d h k → r.length = k + 1
  | 0, r, hr => by
    unfold rowsTo at hr
    split at hr
    · rw [List.mem_singleton.mp hr]; rfl
    · cases hr
  | k + 1, r, hr => by
    unfold rowsTo at hr
    obtain ⟨q, hq, hm⟩ := List.mem_flatMap.mp (List.mem_filter.mp hr).1
    obtain ⟨m, _, rfl⟩ := List.mem_map.mp hm
    rw [List.length_append, row_shape hq]
    rfl
theorem atI_last {r : List Int} (h : r ≠ []) : atI (r.map PyData.int) (-1) = some (.int (lastI r)) := by
  unfold atI lastI
  have hl : 0 < r.length := List.length_pos_iff.mpr h
  have e : ixN (r.map PyData.int).length (-1) = some (r.length - 1) := by
    unfold ixN
    rw [List.length_map]
    simp
    omega
  first
    | (rw [e]; simp [hl]; done)
    | (simp only [e]; show (r.map PyData.int)[r.length - 1]? = _; rw [List.getElem?_map, List.getElem?_eq_getElem (by omega), List.getD_eq_getElem?_getD, List.getElem?_eq_getElem (by omega)]; rfl)
section
variable {P : Program} {w : World} {K : PySem.W.Frag} {mg : Str → Option Value} {base : Heap}
def cAllFrom : Ctr := fun svs τ Q => ∃ c d h, svs = [.val (chD c), .val (.int d), .val (.int h)] ∧ ChOk c ∧ Q (.val (rowsD (allFrom c d h))) τ
abbrev s_all_from : Stmt := topS 19
theorem sc_all_from : FnScope ["channel", "draught", "hour", "found", "bar", "leg", "wait", "row", "more"] ["channel", "draught", "hour"] (defScope s_all_from) := ⟨rfl, rfl, rfl, by decide +kernel, rfl, by decide +kernel, by decide +kernel⟩
local macro_rules | `(tactic| walk_at "nm") => `(tactic| first
  | with_reducible refine de_name (x := "channel") 0 (by with_unfolding_all rfl) (by with_unfolding_all first | exact Or.inl rfl | exact Or.inr (Or.inl rfl) | exact Or.inr (Or.inr rfl)) (by with_unfolding_all rfl) ?_ (by with_unfolding_all decide) (by with_unfolding_all decide)
  | with_reducible refine de_name (x := "draught") 1 (by with_unfolding_all rfl) (by with_unfolding_all first | exact Or.inl rfl | exact Or.inr (Or.inl rfl) | exact Or.inr (Or.inr rfl)) (by with_unfolding_all rfl) ?_ (by with_unfolding_all decide) (by with_unfolding_all decide)
  | with_reducible refine de_name (x := "hour") 2 (by with_unfolding_all rfl) (by with_unfolding_all first | exact Or.inl rfl | exact Or.inr (Or.inl rfl) | exact Or.inr (Or.inr rfl)) (by with_unfolding_all rfl) ?_ (by with_unfolding_all decide) (by with_unfolding_all decide)
  | with_reducible refine de_name (x := "found") 3 (by with_unfolding_all rfl) (by with_unfolding_all first | exact Or.inl rfl | exact Or.inr (Or.inl rfl) | exact Or.inr (Or.inr rfl)) (by with_unfolding_all rfl) ?_ (by with_unfolding_all decide) (by with_unfolding_all decide)
  | with_reducible refine de_name (x := "bar") 4 (by with_unfolding_all rfl) (by with_unfolding_all first | exact Or.inl rfl | exact Or.inr (Or.inl rfl) | exact Or.inr (Or.inr rfl)) (by with_unfolding_all rfl) ?_ (by with_unfolding_all decide) (by with_unfolding_all decide)
  | with_reducible refine de_name (x := "leg") 5 (by with_unfolding_all rfl) (by with_unfolding_all first | exact Or.inl rfl | exact Or.inr (Or.inl rfl) | exact Or.inr (Or.inr rfl)) (by with_unfolding_all rfl) ?_ (by with_unfolding_all decide) (by with_unfolding_all decide)
  | with_reducible refine de_name (x := "wait") 6 (by with_unfolding_all rfl) (by with_unfolding_all first | exact Or.inl rfl | exact Or.inr (Or.inl rfl) | exact Or.inr (Or.inr rfl)) (by with_unfolding_all rfl) ?_ (by with_unfolding_all decide) (by with_unfolding_all decide)
  | with_reducible refine de_name (x := "row") 7 (by with_unfolding_all rfl) (by with_unfolding_all first | exact Or.inl rfl | exact Or.inr (Or.inl rfl) | exact Or.inr (Or.inr rfl)) (by with_unfolding_all rfl) ?_ (by with_unfolding_all decide) (by with_unfolding_all decide)
  | with_reducible refine de_name (x := "more") 8 (by with_unfolding_all rfl) (by with_unfolding_all first | exact Or.inl rfl | exact Or.inr (Or.inl rfl) | exact Or.inr (Or.inr rfl)) (by with_unfolding_all rfl) ?_ (by with_unfolding_all decide) (by with_unfolding_all decide))
local macro_rules | `(tactic| walk_at "st") => `(tactic| first
  | with_reducible refine ds_set (x := "channel") 0 (by with_unfolding_all exact sc_all_from.nd) (by with_unfolding_all rfl) (by with_unfolding_all first | exact Or.inl rfl | exact Or.inr rfl) ?_ (by with_unfolding_all rfl) (by with_unfolding_all first | exact .inl rfl | exact .inr rfl)
  | with_reducible refine ds_set (x := "draught") 1 (by with_unfolding_all exact sc_all_from.nd) (by with_unfolding_all rfl) (by with_unfolding_all first | exact Or.inl rfl | exact Or.inr rfl) ?_ (by with_unfolding_all rfl) (by with_unfolding_all first | exact .inl rfl | exact .inr rfl)
  | with_reducible refine ds_set (x := "hour") 2 (by with_unfolding_all exact sc_all_from.nd) (by with_unfolding_all rfl) (by with_unfolding_all first | exact Or.inl rfl | exact Or.inr rfl) ?_ (by with_unfolding_all rfl) (by with_unfolding_all first | exact .inl rfl | exact .inr rfl)
  | with_reducible refine ds_set (x := "found") 3 (by with_unfolding_all exact sc_all_from.nd) (by with_unfolding_all rfl) (by with_unfolding_all first | exact Or.inl rfl | exact Or.inr rfl) ?_ (by with_unfolding_all rfl) (by with_unfolding_all first | exact .inl rfl | exact .inr rfl)
  | with_reducible refine ds_set (x := "bar") 4 (by with_unfolding_all exact sc_all_from.nd) (by with_unfolding_all rfl) (by with_unfolding_all first | exact Or.inl rfl | exact Or.inr rfl) ?_ (by with_unfolding_all rfl) (by with_unfolding_all first | exact .inl rfl | exact .inr rfl)
  | with_reducible refine ds_set (x := "leg") 5 (by with_unfolding_all exact sc_all_from.nd) (by with_unfolding_all rfl) (by with_unfolding_all first | exact Or.inl rfl | exact Or.inr rfl) ?_ (by with_unfolding_all rfl) (by with_unfolding_all first | exact .inl rfl | exact .inr rfl)
  | with_reducible refine ds_set (x := "wait") 6 (by with_unfolding_all exact sc_all_from.nd) (by with_unfolding_all rfl) (by with_unfolding_all first | exact Or.inl rfl | exact Or.inr rfl) ?_ (by with_unfolding_all rfl) (by with_unfolding_all first | exact .inl rfl | exact .inr rfl)
  | with_reducible refine ds_set (x := "row") 7 (by with_unfolding_all exact sc_all_from.nd) (by with_unfolding_all rfl) (by with_unfolding_all first | exact Or.inl rfl | exact Or.inr rfl) ?_ (by with_unfolding_all rfl) (by with_unfolding_all first | exact .inl rfl | exact .inr rfl)
  | with_reducible refine ds_set (x := "more") 8 (by with_unfolding_all exact sc_all_from.nd) (by with_unfolding_all rfl) (by with_unfolding_all first | exact Or.inl rfl | exact Or.inr rfl) ?_ (by with_unfolding_all rfl) (by with_unfolding_all first | exact .inl rfl | exact .inr rfl))

local macro_rules | `(tactic| walk_at "lc row / more") => `(tactic| refine de_lc2 (t := .name 7) (t1 := .name 8) (own := [("row", 7), ("more", 8)]) (vs1 := [8]) rfl sc_all_from.nd (by first | exact blkOk_by (N := ["channel", "draught", "hour", "found", "bar", "leg", "wait", "row", "more"]) (sc := defScope s_all_from) (by decide +kernel) | exact blkOk_by (N := ["channel", "draught", "hour", "found", "bar", "leg", "wait", "row", "more"]) (sc := relS _ (defScope s_all_from)) (by decide +kernel)) (by decide) (by decide) (by decide) (fun _ _ _ _ _ => pgx_name sc_all_from.nd rfl (by first | exact Or.inl rfl | exact Or.inr rfl)) (fun _ _ _ _ _ => pgx_name sc_all_from.nd rfl (by first | exact Or.inl rfl | exact Or.inr rfl)) ?_)
local macro_rules | `(tactic| walk_at "slc row / more") => `(tactic| first
  | refine ds_setLc2 (t := .name 7) (t1 := .name 8) (own := [("row", 7), ("more", 8)]) (vs1 := [8]) 3 (y := "found") rfl sc_all_from.nd rfl rfl (sw_true rfl rfl rfl (by decide +kernel)) (by first | exact blkOk_by (N := ["channel", "draught", "hour", "found", "bar", "leg", "wait", "row", "more"]) (sc := defScope s_all_from) (by decide +kernel) | exact blkOk_by (N := ["channel", "draught", "hour", "found", "bar", "leg", "wait", "row", "more"]) (sc := relS _ (defScope s_all_from)) (by decide +kernel)) (by decide) (by decide) (by decide) (fun _ _ _ _ _ => pgx_name sc_all_from.nd rfl (by first | exact Or.inl rfl | exact Or.inr rfl)) (fun _ _ _ _ _ => pgx_name sc_all_from.nd rfl (by first | exact Or.inl rfl | exact Or.inr rfl)) ?_)
local macro_rules | `(tactic| walk_at "lc row") => `(tactic| refine de_lc (t := .name 7) (own := [("row", 7)]) rfl sc_all_from.nd (by first | exact blkOk_by (N := ["channel", "draught", "hour", "found", "bar", "leg", "wait", "row", "more"]) (sc := defScope s_all_from) (by decide +kernel) | exact blkOk_by (N := ["channel", "draught", "hour", "found", "bar", "leg", "wait", "row", "more"]) (sc := relS _ (defScope s_all_from)) (by decide +kernel)) (by decide) (fun _ _ _ _ _ => pgx_name sc_all_from.nd rfl (by first | exact Or.inl rfl | exact Or.inr rfl)) ?_)
local macro_rules | `(tactic| walk_at "slc row") => `(tactic| first
  | refine ds_setLc (t := .name 7) (own := [("row", 7)]) 3 (y := "found") rfl sc_all_from.nd rfl rfl (sw_true rfl rfl rfl (by decide +kernel)) (by first | exact blkOk_by (N := ["channel", "draught", "hour", "found", "bar", "leg", "wait", "row", "more"]) (sc := defScope s_all_from) (by decide +kernel) | exact blkOk_by (N := ["channel", "draught", "hour", "found", "bar", "leg", "wait", "row", "more"]) (sc := relS _ (defScope s_all_from)) (by decide +kernel)) (by decide) (fun _ _ _ _ _ => pgx_name sc_all_from.nd rfl (by first | exact Or.inl rfl | exact Or.inr rfl)) ?_)

theorem kn_all_from (D : HasDef K mg "all_from" s_all_from ["channel", "draught", "hour"]) (B : Bl mg) (k1 : Knows P w K mg base 1 "depth_of" cDepth) : Knows P w K mg base 2 "all_from" cAllFrom := by
  refine knows_mk D sc_all_from (fun _ _ _ ⟨_, _, _, e, _⟩ => by rw [e]; rfl) (fun f cdv A outer s H E hr svs τ Q hC => ?_)
  obtain ⟨c, d, h, rfl, hc, q⟩ := hC
  have hb1 := hc.b1
  have hb3 := hc.b3
  refine db_seq (fun ρ' τ' => τ' = τ ∧ ρ' = [some (.val (chD c)), some (.val (.int d)), some (.val (.int h)), some (.val (rowsD (rowsTo c d h 0))), none, none, none, none, none]) ?_ ?_
  · walk_at "go"
    refine ⟨c, 0, h, rfl, by omega, hc.bar1 (by omega), ?_⟩
    walk_at "go"
    refine ⟨fun g => ?_, fun g => ?_⟩
    · walk_at "go"
      refine ⟨rfl, ?_⟩
      unfold rowsTo
      rw [if_pos (of_decide_eq_true g)]
      rfl
    · walk_at "go"
      refine ⟨rfl, ?_⟩
      unfold rowsTo
      rw [if_neg (of_decide_eq_false g)]
      rfl
  rintro ρ' τ' ⟨rfl, rfl⟩
  walk_at "go"
  refine ds_for (t := .name 4) rfl PassesOwn.never (pgx_name sc_all_from.nd rfl (by first | exact Or.inl rfl | exact Or.inr rfl)) (di_range2 ‹Bl _› rfl ?_)
  walk_at "go"
  refine ⟨⟨by omega, by rw [List.length_map]; omega⟩, fun i ρ' τ2 => τ2 = τ' ∧ ∃ v1 v2 v3 v4 v5, ρ' = [some (.val (chD c)), some (.val (.int d)), some (.val (.int h)), some (.val (rowsD (rowsTo c d h i))), v1, v2, v3, v4, v5], ⟨rfl, none, none, none, none, none, rfl⟩, fun _ _ _ _ => trivial, ?_, ?_⟩
  · rintro i dd ρ' τ2 hd ⟨rfl, v1, v2, v3, v4, v5, rfl⟩
    have hi : i < c.bars.length - 1 := by
      have := (List.getElem?_eq_some_iff.mp hd).1
      rw [rangeD_length, List.length_map] at this
      omega
    rw [rangeD_get (by rw [List.length_map]; omega)] at hd
    cases hd
    have hll := hc.ll
    have hwl := hc.wl
    have hw := hc.wv _ (getD_mem (xs := c.waits) (i := i) (by omega))
    refine ⟨_, rfl, ?_⟩
    walk_at "go"
    refine ds_asg (t := .tup [5, 6]) (pgx_tup2 rfl (pg_name sc_all_from.nd rfl (by first | exact Or.inl rfl | exact Or.inr rfl)) (pg_name sc_all_from.nd rfl (by first | exact Or.inl rfl | exact Or.inr rfl))) ?_
    unfold chD tI
    walk_at "go"
    refine ix_tup' (atI_int (by omega) (by omega)) ?_
    walk_at "go"
    refine ix_tup' (atI_int (by omega) (by omega)) ?_
    have e1 : ((1 : Int) + (i : Nat) - 1).toNat = i := by omega
    rw [e1]
    walk_at "go"
    have ew : (waitAt c i) = c.waits.getD i 0 := rfl
    rw [← ew] at hw ⊢
    have hlen := rows_len16 hc d h (k := i) (by omega)
    walk_at "slc row / more"
    refine di_lst ?_
    walk_at "go"
    refine lc2q_of (rowsTo c d h i) tI rfl (fun _ => List.range ((waitAt c i).toNat + 1)) (fun m => .int (0 + (m : Nat))) (fun _ _ => true) (fun row m => tI (row ++ [lastI row + legAt c i + (m : Nat)])) ?_ ?_ ?_
    · rw [ext_eq]
      rw [List.length_map]
      have := flatMap_len (f := extR c i) (xs := rowsTo c d h i) (n := 4) fun r _ => ext_len hc (by omega) r
      omega
    · intro row hrow
      have hrl := row_shape hrow
      have hne : row ≠ [] := by intro z; rw [z] at hrl; simp at hrl
      refine ⟨_, rfl, fun D acc hD => ⟨fun s H C cl fp => df_nil ⟨rfl, rfl⟩, fun s H C cl fp => ?_, fun m hm => ⟨_, rfl, fun acc => ⟨fun s H C cl fp => df_nil ⟨rfl, rfl⟩, fun _ s H C cl fp => ?_⟩⟩⟩⟩
      · refine di_range1 ‹Bl _› rfl ?_
        walk_at "go"
        refine ⟨by omega, by omega, ?_, rfl, fun _ => trivial⟩
        unfold rangeD
        rw [show (waitAt c i + 1).toNat = (waitAt c i).toNat + 1 from by omega]
      · walk_at "go"
        unfold tI
        refine ix_tup' (atI_last hne) ?_
        walk_at "go"
        refine plus_tup (by simp; omega) ?_
        refine ⟨?_, rfl⟩
        rw [List.map_append]
        show _ = MV.val (PyData.tuple (_ ++ [PyData.int (lastI row + legAt c i + (m : Nat))]))
        rw [Int.zero_add]
        rfl
    · rw [ext_eq]
      show Db _ [some (.val (chD c)), some (.val (.int d)), some (.val (.int h)), some (.val (rowsD ((rowsTo c d h i).flatMap (extR c i)))), _, _, _, _, _] τ2 _ _
      refine db_one ?_
      walk_at "slc row"
      refine di_lst ?_
      walk_at "go"
      refine lcq_filter ((rowsTo c d h i).flatMap (extR c i)) tI tI (okR c d (i + 1)) rfl ?_ ?_ ?_
      · have := flatMap_len (f := extR c i) (xs := rowsTo c d h i) (n := 4) fun r _ => ext_len hc (by omega) r
        omega
      · intro row hrow
        have hne : row ≠ [] := by
          obtain ⟨q, _, hm⟩ := List.mem_flatMap.mp hrow
          obtain ⟨m, _, rfl⟩ := List.mem_map.mp hm
          simp
        refine ⟨_, rfl, fun D acc hD s H C cl fp => ⟨?_, fun _ => ?_⟩⟩
        · walk_at "go"
          unfold tI
          refine ix_tup' (atI_last hne) ?_
          walk_at "go"
          refine ⟨c, i + 1, lastI row, ?_, by omega, hc.bar1 (by omega), ?_⟩
          · have e : (1 : Int) + (i : Nat) = ((i + 1 : Nat) : Int) := by omega
            rw [e]
          · walk_at "go"
            exact ⟨rfl, rfl⟩
        · walk_at "go"
          exact ⟨rfl, rfl⟩
      · exact ⟨rfl, _, _, _, _, _, rfl⟩
  · rintro ρ' τ2 ⟨rfl, v1, v2, v3, v4, v5, rfl⟩
    walk_at "go"
    rw [rangeD_length, List.length_map]
    have e : ((c.bars.length : Int) - 1).toNat = c.bars.length - 1 := by omega
    rw [e]
    exact q
end

def isOut (c : Chan) (d h : Int) : Bool := !(allFrom c d h).isEmpty
theorem pl_rows (n : Nat) (rows : List (List Int)) : Pl (n + 2) (rowsD rows) := fun x hx => by
  obtain ⟨r, _, rfl⟩ := List.mem_map.mp hx
  exact pl_tI r
def hoursOf (c : Chan) (d : Int) : List Int := ((List.range (periodOf c)).filter fun h => isOut c d (h : Nat)).map fun h => ((h : Nat) : Int)
theorem hours_len {c : Chan} (hc : ChOk c) (d : Int) : (hoursOf c d).length ≤ 512 := by
  unfold hoursOf
  rw [List.length_map]
  refine Nat.le_trans (List.length_filter_le _ _) ?_
  rw [List.length_range]
  exact period_le hc
def cHoursF : Ctr := fun svs τ Q => ∃ c, ∃ d : Int, svs = [.val (chD c), .val (.int d)] ∧ ChOk c ∧ Q (.val (.list ((hoursOf c d).map .int))) τ
def optD : Option Int → PyData
  | none => .none
  | some i => .int i
def soonOf (c : Chan) (d h : Int) : Option Int := ((allFrom c d h).map lastI).min?
theorem isMin_min? {ns : List Int} {m : Int} (h : IsMin ns m) : ns.min? = some m := List.min?_eq_some_iff.mpr h

/-! ### rows ascend -/
theorem lexL_app_lt : ∀ {r q x y : List Int}, r.length = q.length → lexL r q = true → lexL (r ++ x) (q ++ y) = true
  | [], [], _, _, _, h => by cases h
  | [], _ :: _, _, _, h, _ => by cases h
  | _ :: _, [], _, _, h, _ => by cases h
  | a :: r, b :: q, x, y, hl, h => by
    show lexL (a :: (r ++ x)) (b :: (q ++ y)) = true
    unfold lexL at h ⊢
    by_cases e : a = b
    · rw [if_pos e] at h ⊢
      exact lexL_app_lt (by simpa using hl) h
    · rw [if_neg e] at h ⊢
      exact h
theorem lexL_app_same : ∀ {r x y : List Int}, lexL (r ++ x) (r ++ y) = lexL x y
  | [], _, _ => rfl
  | a :: r, x, y => by
    show lexL (a :: (r ++ x)) (a :: (r ++ y)) = _
    rw [lexL, if_pos rfl]
    exact lexL_app_same
def Asc (rows : List (List Int)) : Prop := rows.Pairwise fun r q => lexL r q = true
theorem asc_ext (c : Chan) (i : Nat) (r : List Int) : Asc (extR c i r) := by
  unfold extR Asc
  rw [List.pairwise_map]
  refine List.pairwise_lt_range.imp fun {a b} h => ?_
  rw [lexL_app_same]
  unfold lexL
  rw [if_neg (by omega)]
  exact decide_eq_true (by omega)
theorem asc_rows (c : Chan) (d h : Int) : ∀ k, Asc (rowsTo c d h k)
  | 0 => by
    unfold rowsTo Asc
    split
    · exact List.pairwise_singleton _ _
    · exact List.Pairwise.nil
  | k + 1 => by
    unfold rowsTo
    refine List.Pairwise.filter _ ?_
    rw [List.pairwise_flatMap]
    refine ⟨fun r _ => asc_ext c k r, ?_⟩
    have ih := asc_rows c d h k
    refine List.Pairwise.imp_of_mem (fun {r q} hr hq hrq x hx y hy => ?_) ih
    obtain ⟨m, _, rfl⟩ := List.mem_map.mp hx
    obtain ⟨m', _, rfl⟩ := List.mem_map.mp hy
    exact lexL_app_lt (by rw [row_shape hr, row_shape hq]) hrq
theorem asc_all {c : Chan} {d h : Int} : (allFrom c d h).Pairwise fun r q => lexL q r = false := (asc_rows c d h _).imp fun h => lexL_asym h
def extTo (c : Chan) (j : Nat) (row : List Int) (n : Nat) : List (List Int) := (List.range n).map fun m => row ++ [lastI row + legAt c j + (m : Nat)]
theorem extTo_succ {c : Chan} {j n : Nat} {row : List Int} : extTo c j row (n + 1) = extTo c j row n ++ [row ++ [lastI row + legAt c j + (n : Nat)]] := by
  unfold extTo
  rw [List.range_succ, List.map_append]
  rfl
theorem atI_lastLen {r : List Int} (h : r ≠ []) : atI (r.map PyData.int) (((r.map PyData.int).length : Int) - 1) = some (.int (lastI r)) := by
  have hl : 0 < r.length := List.length_pos_iff.mpr h
  rw [List.length_map]
  rw [atI_int (by omega) (by omega)]
  unfold lastI
  rw [show ((r.length : Int) - 1).toNat = r.length - 1 from by omega]
theorem lastI_snoc (r : List Int) (x : Int) : lastI (r ++ [x]) = x := by
  unfold lastI
  rw [List.length_append, List.length_singleton, Nat.add_sub_cancel, List.getD_eq_getElem?_getD, List.getElem?_append_right (Nat.le_refl _), Nat.sub_self]
  rfl
theorem lookup_here {l : Addr} {m : MO} {τ : Store} : ((l, m) :: τ : Store).lookup l = some m := by simp [List.lookup]
theorem setS_here {l : Addr} {m m' : MO} {τ : Store} : setS l m ((l, m') :: τ) = (l, m) :: τ := if_pos rfl
theorem flat_snoc {xs : List (List Int)} {f : List Int → List (List Int)} {i : Nat} {x : List Int} (h : xs[i]? = some x) : (xs.take (i + 1)).flatMap f = (xs.take i).flatMap f ++ f x := by
  rw [List.take_add_one, h, List.flatMap_append]
  simp

section
variable {P : Program} {w : World} {K : PySem.W.Frag} {mg : Str → Option Value} {base : Heap}
abbrev s__law_all : Stmt := topS 34
theorem sc__law_all : FnScope ["_law_channel_here", "_law_draught", "_law_hour", "_law_bars", "_law_legs", "_law_waits", "_law_rows", "_law_k", "_law_longer", "_law_row", "_law_more", "_law_at"] ["_law_channel_here", "_law_draught", "_law_hour"] (defScope s__law_all) := ⟨rfl, rfl, rfl, by decide +kernel, rfl, by decide +kernel, by decide +kernel⟩
local macro_rules | `(tactic| walk_at "nm") => `(tactic| first
  | with_reducible refine de_name (x := "_law_channel_here") 0 (by with_unfolding_all rfl) (by with_unfolding_all first | exact Or.inl rfl | exact Or.inr (Or.inl rfl) | exact Or.inr (Or.inr rfl)) (by with_unfolding_all rfl) ?_ (by with_unfolding_all decide) (by with_unfolding_all decide)
  | with_reducible refine de_name (x := "_law_draught") 1 (by with_unfolding_all rfl) (by with_unfolding_all first | exact Or.inl rfl | exact Or.inr (Or.inl rfl) | exact Or.inr (Or.inr rfl)) (by with_unfolding_all rfl) ?_ (by with_unfolding_all decide) (by with_unfolding_all decide)
  | with_reducible refine de_name (x := "_law_hour") 2 (by with_unfolding_all rfl) (by with_unfolding_all first | exact Or.inl rfl | exact Or.inr (Or.inl rfl) | exact Or.inr (Or.inr rfl)) (by with_unfolding_all rfl) ?_ (by with_unfolding_all decide) (by with_unfolding_all decide)
  | with_reducible refine de_name (x := "_law_bars") 3 (by with_unfolding_all rfl) (by with_unfolding_all first | exact Or.inl rfl | exact Or.inr (Or.inl rfl) | exact Or.inr (Or.inr rfl)) (by with_unfolding_all rfl) ?_ (by with_unfolding_all decide) (by with_unfolding_all decide)
  | with_reducible refine de_name (x := "_law_legs") 4 (by with_unfolding_all rfl) (by with_unfolding_all first | exact Or.inl rfl | exact Or.inr (Or.inl rfl) | exact Or.inr (Or.inr rfl)) (by with_unfolding_all rfl) ?_ (by with_unfolding_all decide) (by with_unfolding_all decide)
  | with_reducible refine de_name (x := "_law_waits") 5 (by with_unfolding_all rfl) (by with_unfolding_all first | exact Or.inl rfl | exact Or.inr (Or.inl rfl) | exact Or.inr (Or.inr rfl)) (by with_unfolding_all rfl) ?_ (by with_unfolding_all decide) (by with_unfolding_all decide)
  | with_reducible refine de_name (x := "_law_rows") 6 (by with_unfolding_all rfl) (by with_unfolding_all first | exact Or.inl rfl | exact Or.inr (Or.inl rfl) | exact Or.inr (Or.inr rfl)) (by with_unfolding_all rfl) ?_ (by with_unfolding_all decide) (by with_unfolding_all decide)
  | with_reducible refine de_name (x := "_law_k") 7 (by with_unfolding_all rfl) (by with_unfolding_all first | exact Or.inl rfl | exact Or.inr (Or.inl rfl) | exact Or.inr (Or.inr rfl)) (by with_unfolding_all rfl) ?_ (by with_unfolding_all decide) (by with_unfolding_all decide)
  | with_reducible refine de_name (x := "_law_longer") 8 (by with_unfolding_all rfl) (by with_unfolding_all first | exact Or.inl rfl | exact Or.inr (Or.inl rfl) | exact Or.inr (Or.inr rfl)) (by with_unfolding_all rfl) ?_ (by with_unfolding_all decide) (by with_unfolding_all decide)
  | with_reducible refine de_name (x := "_law_row") 9 (by with_unfolding_all rfl) (by with_unfolding_all first | exact Or.inl rfl | exact Or.inr (Or.inl rfl) | exact Or.inr (Or.inr rfl)) (by with_unfolding_all rfl) ?_ (by with_unfolding_all decide) (by with_unfolding_all decide)
  | with_reducible refine de_name (x := "_law_more") 10 (by with_unfolding_all rfl) (by with_unfolding_all first | exact Or.inl rfl | exact Or.inr (Or.inl rfl) | exact Or.inr (Or.inr rfl)) (by with_unfolding_all rfl) ?_ (by with_unfolding_all decide) (by with_unfolding_all decide)
  | with_reducible refine de_name (x := "_law_at") 11 (by with_unfolding_all rfl) (by with_unfolding_all first | exact Or.inl rfl | exact Or.inr (Or.inl rfl) | exact Or.inr (Or.inr rfl)) (by with_unfolding_all rfl) ?_ (by with_unfolding_all decide) (by with_unfolding_all decide))
local macro_rules | `(tactic| walk_at "st") => `(tactic| first
  | with_reducible refine ds_set (x := "_law_channel_here") 0 (by with_unfolding_all exact sc__law_all.nd) (by with_unfolding_all rfl) (by with_unfolding_all first | exact Or.inl rfl | exact Or.inr rfl) ?_ (by with_unfolding_all rfl) (by with_unfolding_all first | exact .inl rfl | exact .inr rfl)
  | with_reducible refine ds_set (x := "_law_draught") 1 (by with_unfolding_all exact sc__law_all.nd) (by with_unfolding_all rfl) (by with_unfolding_all first | exact Or.inl rfl | exact Or.inr rfl) ?_ (by with_unfolding_all rfl) (by with_unfolding_all first | exact .inl rfl | exact .inr rfl)
  | with_reducible refine ds_set (x := "_law_hour") 2 (by with_unfolding_all exact sc__law_all.nd) (by with_unfolding_all rfl) (by with_unfolding_all first | exact Or.inl rfl | exact Or.inr rfl) ?_ (by with_unfolding_all rfl) (by with_unfolding_all first | exact .inl rfl | exact .inr rfl)
  | with_reducible refine ds_set (x := "_law_bars") 3 (by with_unfolding_all exact sc__law_all.nd) (by with_unfolding_all rfl) (by with_unfolding_all first | exact Or.inl rfl | exact Or.inr rfl) ?_ (by with_unfolding_all rfl) (by with_unfolding_all first | exact .inl rfl | exact .inr rfl)
  | with_reducible refine ds_set (x := "_law_legs") 4 (by with_unfolding_all exact sc__law_all.nd) (by with_unfolding_all rfl) (by with_unfolding_all first | exact Or.inl rfl | exact Or.inr rfl) ?_ (by with_unfolding_all rfl) (by with_unfolding_all first | exact .inl rfl | exact .inr rfl)
  | with_reducible refine ds_set (x := "_law_waits") 5 (by with_unfolding_all exact sc__law_all.nd) (by with_unfolding_all rfl) (by with_unfolding_all first | exact Or.inl rfl | exact Or.inr rfl) ?_ (by with_unfolding_all rfl) (by with_unfolding_all first | exact .inl rfl | exact .inr rfl)
  | with_reducible refine ds_set (x := "_law_rows") 6 (by with_unfolding_all exact sc__law_all.nd) (by with_unfolding_all rfl) (by with_unfolding_all first | exact Or.inl rfl | exact Or.inr rfl) ?_ (by with_unfolding_all rfl) (by with_unfolding_all first | exact .inl rfl | exact .inr rfl)
  | with_reducible refine ds_set (x := "_law_k") 7 (by with_unfolding_all exact sc__law_all.nd) (by with_unfolding_all rfl) (by with_unfolding_all first | exact Or.inl rfl | exact Or.inr rfl) ?_ (by with_unfolding_all rfl) (by with_unfolding_all first | exact .inl rfl | exact .inr rfl)
  | with_reducible refine ds_set (x := "_law_longer") 8 (by with_unfolding_all exact sc__law_all.nd) (by with_unfolding_all rfl) (by with_unfolding_all first | exact Or.inl rfl | exact Or.inr rfl) ?_ (by with_unfolding_all rfl) (by with_unfolding_all first | exact .inl rfl | exact .inr rfl)
  | with_reducible refine ds_set (x := "_law_row") 9 (by with_unfolding_all exact sc__law_all.nd) (by with_unfolding_all rfl) (by with_unfolding_all first | exact Or.inl rfl | exact Or.inr rfl) ?_ (by with_unfolding_all rfl) (by with_unfolding_all first | exact .inl rfl | exact .inr rfl)
  | with_reducible refine ds_set (x := "_law_more") 10 (by with_unfolding_all exact sc__law_all.nd) (by with_unfolding_all rfl) (by with_unfolding_all first | exact Or.inl rfl | exact Or.inr rfl) ?_ (by with_unfolding_all rfl) (by with_unfolding_all first | exact .inl rfl | exact .inr rfl)
  | with_reducible refine ds_set (x := "_law_at") 11 (by with_unfolding_all exact sc__law_all.nd) (by with_unfolding_all rfl) (by with_unfolding_all first | exact Or.inl rfl | exact Or.inr rfl) ?_ (by with_unfolding_all rfl) (by with_unfolding_all first | exact .inl rfl | exact .inr rfl))



theorem kn_law_all (D : HasDef K mg "_law_all" s__law_all ["_law_channel_here", "_law_draught", "_law_hour"]) (B : Bl mg) : Knows P w K mg base 1 "_law_all" cAllFrom := by
  refine knows_mk D sc__law_all (fun _ _ _ ⟨_, _, _, e, _⟩ => by rw [e]; rfl) (fun f cdv A outer s H E hr svs τ Q hC => ?_)
  obtain ⟨c, d, h, rfl, hc, q⟩ := hC
  have hb1 := hc.b1
  have hb3 := hc.b3
  have ec : chD c = .tuple [.tuple (c.bars.map tI), tI c.legs, tI c.waits] := rfl
  refine db_cons (ds_asg (t := .tup [3, 4, 5]) (pgx_tup3 rfl (pg_name sc__law_all.nd rfl (Or.inl rfl)) (pg_name sc__law_all.nd rfl (Or.inl rfl)) (pg_name sc__law_all.nd rfl (Or.inl rfl))) ?_)
  walk_at "nm"
  refine ⟨_, rfl, _, rfl, ?_⟩
  refine db_seq (fun ρ' τ' => τ' = τ ∧ ρ' = [some (.val (chD c)), some (.val (.int d)), some (.val (.int h)), some (.val (.tuple (c.bars.map tI))), some (.val (tI c.legs)), some (.val (tI c.waits)), some (.val (rowsD (rowsTo c d h 0))), none, none, none, none, none]) ?_ ?_
  · have hlen := hc.bar1 (j := 0) (by omega)
    have hm0 := Int.emod_nonneg h (show ((barAt c 0).length : Int) ≠ 0 by omega)
    have hm1 := Int.emod_lt_of_pos h (show (0 : Int) < (barAt c 0).length by omega)
    walk_at "go"
    refine ix_tup' (atI_bar (j := 0) (by omega)) ?_
    walk_at "go"
    refine ix_tup' (atI_bar (j := 0) (by omega)) ?_
    unfold tI
    walk_at "go"
    refine ⟨by rw [List.length_map]; omega, ?_⟩
    rw [List.length_map]
    refine ix_tup' (atI_int hm0 hm1) ?_
    have ed : (barAt c 0).getD (h % ((barAt c 0).length : Int)).toNat 0 = depthOf c 0 h := rfl
    rw [ed]
    walk_at "go"
    refine ⟨fun g => ?_, fun g => ?_⟩
    · walk_at "go"
      refine ⟨rfl, ?_⟩
      unfold rowsTo
      rw [if_pos (of_decide_eq_true g)]
      rfl
    · walk_at "go"
      refine ⟨rfl, ?_⟩
      unfold rowsTo
      rw [if_neg (of_decide_eq_false g)]
      rfl
  rintro ρ' τ' ⟨rfl, rfl⟩
  walk_at "go"
  refine ds_for (t := .name 7) rfl PassesOwn.never (pgx_name sc__law_all.nd rfl (by first | exact Or.inl rfl | exact Or.inr rfl)) (di_range2 ‹Bl _› rfl ?_)
  walk_at "go"
  refine ⟨⟨by omega, by rw [List.length_map]; omega⟩, fun i ρ' τ2 => τ2 = τ' ∧ ∃ v1 v2 v3 v4 v5, ρ' = [some (.val (chD c)), some (.val (.int d)), some (.val (.int h)), some (.val (.tuple (c.bars.map tI))), some (.val (tI c.legs)), some (.val (tI c.waits)), some (.val (rowsD (rowsTo c d h i))), v1, v2, v3, v4, v5], ⟨rfl, none, none, none, none, none, rfl⟩, fun _ _ _ _ => trivial, ?_, ?_⟩
  · rintro i dd ρ' τ2 hd ⟨rfl, v1, v2, v3, v4, v5, rfl⟩
    have hi : i < c.bars.length - 1 := by
      have := (List.getElem?_eq_some_iff.mp hd).1
      rw [rangeD_length, List.length_map] at this
      omega
    rw [rangeD_get (by rw [List.length_map]; omega)] at hd
    cases hd
    have hll := hc.ll
    have hwl := hc.wl
    have hw := hc.wv _ (getD_mem (xs := c.waits) (i := i) (by omega))
    have ew : waitAt c i = c.waits.getD i 0 := rfl
    have el : legAt c i = c.legs.getD i 0 := rfl
    have e1 : ((1 : Int) + (i : Nat) - 1).toNat = i := by omega
    have e2 : (1 : Int) + (i : Nat) = ((i + 1 : Nat) : Int) := by omega
    have hrl := rows_len16 hc d h (k := i) (by omega)
    refine ⟨_, rfl, ?_⟩
    refine db_cons ?_
    walk_at "st"
    refine de_lstM ?_
    walk_at "go"
    intro l hl
    refine db_seq (fun ρ' τ' => ∃ v1 v2 v3, τ' = (l, .lst ((rowsTo c d h (i + 1)).map tI)) :: τ2 ∧ ρ' = [some (.val (chD c)), some (.val (.int d)), some (.val (.int h)), some (.val (.tuple (c.bars.map tI))), some (.val (tI c.legs)), some (.val (tI c.waits)), some (.val (rowsD (rowsTo c d h i))), some (.val (.int (1 + (i : Nat)))), some (.hdl l), v1, v2, v3]) ?_ ?_
    · refine ds_for (t := .name 9) rfl PassesOwn.never (pgx_name sc__law_all.nd rfl (by first | exact Or.inl rfl | exact Or.inr rfl)) (di_lst ?_)
      walk_at "go"
      refine ⟨fun a ρ' τ' => ∃ v1 v2 v3, τ' = (l, .lst (((((rowsTo c d h i).take a).flatMap (extR c i)).filter (okR c d (i + 1))).map tI)) :: τ2 ∧ ρ' = [some (.val (chD c)), some (.val (.int d)), some (.val (.int h)), some (.val (.tuple (c.bars.map tI))), some (.val (tI c.legs)), some (.val (tI c.waits)), some (.val (rowsD (rowsTo c d h i))), some (.val (.int (1 + (i : Nat)))), some (.hdl l), v1, v2, v3], ⟨_, _, _, rfl, rfl⟩, fun _ _ _ _ => trivial, ?_, ?_⟩
      · rintro a dd ρ' τ3 hd ⟨v1, v2, v3, rfl, rfl⟩
        obtain ⟨row, hrow, rfl⟩ := map_get hd
        have hne : row ≠ [] := by
          have := row_shape (List.mem_of_getElem? hrow)
          intro z; rw [z] at this; simp at this
        refine ⟨_, rfl, ?_⟩
        refine db_one ?_
        refine ds_for (t := .name 10) rfl PassesOwn.never (pgx_name sc__law_all.nd rfl (by first | exact Or.inl rfl | exact Or.inr rfl)) (di_range1 ‹Bl _› rfl ?_)
        unfold tI
        walk_at "go"
        refine ix_tup' (atI_int (by omega) (by omega)) ?_
        rw [e1, ← ew]
        rw [← ew] at hw
        walk_at "go"
        refine ⟨by omega, by omega, fun m ρ' τ' => ∃ v2 v3, τ' = (l, .lst (((((rowsTo c d h i).take a).flatMap (extR c i)).filter (okR c d (i + 1)) ++ (extTo c i row m).filter (okR c d (i + 1))).map tI)) :: τ2 ∧ ρ' = [some (.val (chD c)), some (.val (.int d)), some (.val (.int h)), some (.val (.tuple (c.bars.map tI))), some (.val (tI c.legs)), some (.val (tI c.waits)), some (.val (rowsD (rowsTo c d h i))), some (.val (.int (1 + (i : Nat)))), some (.hdl l), some (.val (tI row)), v2, v3], ⟨_, _, ?_, rfl⟩, fun _ _ _ _ => trivial, ?_, ?_⟩
        · show _ = (l, MO.lst (((((rowsTo c d h i).take a).flatMap (extR c i)).filter (okR c d (i + 1)) ++ []).map tI)) :: τ2
          rw [List.append_nil]
          rfl
        · rintro m dd ρ' τ4 hd ⟨v2, v3, rfl, rfl⟩
          have hm : m < (waitAt c i + 1).toNat := by
            have := (List.getElem?_eq_some_iff.mp hd).1
            rwa [rangeD_length] at this
          rw [rangeD_get hm] at hd
          cases hd
          refine ⟨_, rfl, ?_⟩
          have hlen := hc.bar1 (j := i + 1) (by omega)
          unfold tI
          walk_at "go"
          refine ix_tup' (atI_lastLen hne) ?_
          walk_at "go"
          refine ix_tup' (atI_int (by omega) (by omega)) ?_
          rw [e1, ← el]
          walk_at "go"
          rw [Int.zero_add]
          generalize hat : lastI row + legAt c i + (m : Nat) = at'
          have hm0 := Int.emod_nonneg at' (show ((barAt c (i + 1)).length : Int) ≠ 0 by omega)
          have hm1 := Int.emod_lt_of_pos at' (show (0 : Int) < (barAt c (i + 1)).length by omega)
          rw [e2]
          refine ix_tup' (atI_bar (by omega)) ?_
          walk_at "go"
          refine ix_tup' (atI_bar (by omega)) ?_
          unfold tI
          walk_at "go"
          refine ⟨by rw [List.length_map]; omega, ?_⟩
          rw [List.length_map]
          refine ix_tup' (atI_int hm0 hm1) ?_
          have ed : (barAt c (i + 1)).getD (at' % ((barAt c (i + 1)).length : Int)).toNat 0 = depthOf c (i + 1) at' := rfl
          rw [ed]
          have eok : okR c d (i + 1) (row ++ [at']) = decide (d ≤ depthOf c (i + 1) at') := by
            unfold okR
            rw [lastI_snoc]
          walk_at "go"
          have hlA : (((((rowsTo c d h i).take a).flatMap (extR c i)).filter (okR c d (i + 1)) ++ (extTo c i row m).filter (okR c d (i + 1))).map tI).length < 1000000 := by
            rw [List.length_map, List.length_append]
            have h1 := List.length_filter_le (okR c d (i + 1)) (((rowsTo c d h i).take a).flatMap (extR c i))
            have h2 := List.length_filter_le (okR c d (i + 1)) (extTo c i row m)
            have h3 := flatMap_len (f := extR c i) (xs := (rowsTo c d h i).take a) (n := 4) fun r _ => ext_len hc (by omega) r
            have h4 : ((rowsTo c d h i).take a).length ≤ (rowsTo c d h i).length := by rw [List.length_take]; omega
            have h5 : (extTo c i row m).length = m := by unfold extTo; rw [List.length_map, List.length_range]
            omega
          refine ⟨fun g => ?_, fun g => ?_⟩
          · walk_at "go"
            refine de_append ?_
            walk_at "go"
            refine ⟨l, _, rfl, lookup_here, ?_⟩
            walk_at "go"
            refine plus_tup (by simp; have := row_shape (List.mem_of_getElem? hrow); omega) ?_
            refine ⟨_, _, rfl, lookup_here, hlA, ?_⟩
            walk_at "go"
            refine ⟨_, _, ?_, rfl⟩
            rw [setS_here, extTo_succ, List.filter_append, ← List.append_assoc, List.map_append (l₂ := List.filter _ [_]), hat, List.filter_cons, if_pos (by rw [eok]; exact g)]
            show _ = (l, MO.lst (_ ++ [PyData.tuple ((row ++ [at']).map PyData.int)])) :: τ2
            rw [List.map_append (l₁ := row), List.map_append]
            rfl
          · walk_at "go"
            refine ⟨_, _, ?_, rfl⟩
            rw [extTo_succ, List.filter_append, hat, List.filter_cons, if_neg (by rw [eok]; exact fun z => absurd (of_decide_eq_true z) (of_decide_eq_false g)), List.filter_nil, List.append_nil]
        · rintro ρ' τ4 ⟨v2, v3, rfl, rfl⟩
          refine ⟨_, v2, v3, ?_, rfl⟩
          rw [rangeD_length, flat_snoc hrow, List.filter_append, show (waitAt c i + 1).toNat = (waitAt c i).toNat + 1 from by omega]
          rfl
      · rintro ρ' τ3 ⟨v1, v2, v3, rfl, rfl⟩
        refine ⟨v1, v2, v3, ?_, rfl⟩
        rw [List.length_map, List.take_length]
        rfl
    · rintro ρ' τ3 ⟨v1, v2, v3, rfl, rfl⟩
      refine db_freeze 8 rfl ?_
      walk_at "go"
      exact ⟨rfl, _, _, _, _, _, rfl⟩
  · rintro ρ' τ2 ⟨rfl, v1, v2, v3, v4, v5, rfl⟩
    walk_at "go"
    refine de_sortedT ‹Bl _› rfl ?_
    walk_at "go"
    have e : (rangeD 1 (((c.bars.map tI).length : Int) - 1).toNat).length = c.bars.length - 1 := by
      rw [rangeD_length, List.length_map]
      omega
    rw [e]
    refine ⟨fun r hr => ?_, asc_all, q⟩
    have := row_shape hr
    intro z; rw [z] at this; simp at this
end

section
variable {P : Program} {w : World} {K : PySem.W.Frag} {mg : Str → Option Value} {base : Heap}
abbrev s__law_out : Stmt := topS 35
theorem sc__law_out : FnScope ["_law_channel_here", "_law_draught", "_law_hour"] ["_law_channel_here", "_law_draught"] (defScope s__law_out) := ⟨rfl, rfl, rfl, by decide +kernel, rfl, by decide +kernel, by decide +kernel⟩
local macro_rules | `(tactic| walk_at "nm") => `(tactic| first
  | with_reducible refine de_name (x := "_law_channel_here") 0 (by with_unfolding_all rfl) (by with_unfolding_all first | exact Or.inl rfl | exact Or.inr (Or.inl rfl) | exact Or.inr (Or.inr rfl)) (by with_unfolding_all rfl) ?_ (by with_unfolding_all decide) (by with_unfolding_all decide)
  | with_reducible refine de_name (x := "_law_draught") 1 (by with_unfolding_all rfl) (by with_unfolding_all first | exact Or.inl rfl | exact Or.inr (Or.inl rfl) | exact Or.inr (Or.inr rfl)) (by with_unfolding_all rfl) ?_ (by with_unfolding_all decide) (by with_unfolding_all decide)
  | with_reducible refine de_name (x := "_law_hour") 2 (by with_unfolding_all rfl) (by with_unfolding_all first | exact Or.inl rfl | exact Or.inr (Or.inl rfl) | exact Or.inr (Or.inr rfl)) (by with_unfolding_all rfl) ?_ (by with_unfolding_all decide) (by with_unfolding_all decide))
local macro_rules | `(tactic| walk_at "st") => `(tactic| first
  | with_reducible refine ds_set (x := "_law_channel_here") 0 (by with_unfolding_all exact sc__law_out.nd) (by with_unfolding_all rfl) (by with_unfolding_all first | exact Or.inl rfl | exact Or.inr rfl) ?_ (by with_unfolding_all rfl) (by with_unfolding_all first | exact .inl rfl | exact .inr rfl)
  | with_reducible refine ds_set (x := "_law_draught") 1 (by with_unfolding_all exact sc__law_out.nd) (by with_unfolding_all rfl) (by with_unfolding_all first | exact Or.inl rfl | exact Or.inr rfl) ?_ (by with_unfolding_all rfl) (by with_unfolding_all first | exact .inl rfl | exact .inr rfl)
  | with_reducible refine ds_set (x := "_law_hour") 2 (by with_unfolding_all exact sc__law_out.nd) (by with_unfolding_all rfl) (by with_unfolding_all first | exact Or.inl rfl | exact Or.inr rfl) ?_ (by with_unfolding_all rfl) (by with_unfolding_all first | exact .inl rfl | exact .inr rfl))

local macro_rules | `(tactic| walk_at "lc _law_hour") => `(tactic| refine de_lc (t := .name 2) (own := [("_law_hour", 2)]) rfl sc__law_out.nd (by first | exact blkOk_by (N := ["_law_channel_here", "_law_draught", "_law_hour"]) (sc := defScope s__law_out) (by decide +kernel) | exact blkOk_by (N := ["_law_channel_here", "_law_draught", "_law_hour"]) (sc := relS _ (defScope s__law_out)) (by decide +kernel)) (by decide) (fun _ _ _ _ _ => pgx_name sc__law_out.nd rfl (by first | exact Or.inl rfl | exact Or.inr rfl)) ?_)

theorem kn_law_out (D : HasDef K mg "_law_out" s__law_out ["_law_channel_here", "_law_draught"]) (B : Bl mg) (k1 : Knows P w K mg base 1 "_law_period" cPer) (k2 : Knows P w K mg base 1 "_law_all" cAllFrom) : Knows P w K mg base 2 "_law_out" cHoursF := by
  refine knows_mk D sc__law_out (fun _ _ _ ⟨_, _, e, _⟩ => by rw [e]; rfl) (fun f cdv A outer s H E hr svs τ Q hC => ?_)
  obtain ⟨c, d, rfl, hc, q⟩ := hC
  have hp2 := period_le hc
  walk_at "go"
  walk_at "lc _law_hour"
  refine di_range1 ‹Bl _› rfl ?_
  walk_at "go"
  refine ⟨c, rfl, hc, _, rfl, by omega, by omega, ?_⟩
  refine lcq_filter (List.range (periodOf c)) (fun m => .int (0 + (m : Nat))) (fun m => .int ((m : Nat) : Int)) (fun h => isOut c d (h : Nat)) rfl (by rw [List.length_range]; omega) (fun m hm => ⟨_, rfl, fun D acc hD s H C cl fp => ⟨?_, fun _ => ?_⟩⟩) ?_
  · walk_at "go"
    refine ⟨c, d, _, rfl, hc, ?_⟩
    rw [Int.zero_add]
    walk_at "go"
    refine eq_pl (n := 2) (m := 2) rfl rfl (pl_rows 0 _) (fun x hx => by cases hx) (fun b hb => ?_)
    refine ⟨_, rfl, ?_, rfl⟩
    show bneg true b = isOut c d _
    unfold isOut
    have hb2 : (b = true ↔ allFrom c d (m : Nat) = []) := by
      rw [hb]
      unfold rowsD
      constructor
      · intro e
        injection e with e
        exact List.map_eq_nil_iff.mp e
      · intro e
        rw [e]
        rfl
    cases b with
    | true => rw [hb2.mp rfl]; rfl
    | false =>
      have : allFrom c d (m : Nat) ≠ [] := fun z => by have := hb2.mpr z; cases this
      cases hA : allFrom c d (m : Nat) with
      | nil => exact absurd hA this
      | cons _ _ => rfl
  · walk_at "go"
    rw [Int.zero_add]
    exact ⟨rfl, rfl⟩
  · unfold hoursOf at q
    rw [List.map_map] at q
    exact q
end

/-! ### rows and hours come again -/
theorem map_snoc_add (r : List Int) (t x : Int) : (r ++ [x]).map (· + t) = r.map (· + t) ++ [x + t] := by rw [List.map_append]; rfl
theorem lastI_map {r : List Int} (h : r ≠ []) (t : Int) : lastI (r.map (· + t)) = lastI r + t := by
  have hl : 0 < r.length := List.length_pos_iff.mpr h
  unfold lastI
  rw [List.length_map, List.getD_eq_getElem?_getD, List.getD_eq_getElem?_getD, List.getElem?_map, List.getElem?_eq_getElem (by omega)]
  rfl
theorem extR_add {c : Chan} {i : Nat} {r : List Int} (h : r ≠ []) (t : Int) : extR c i (r.map (· + t)) = (extR c i r).map (fun q => q.map (· + t)) := by
  unfold extR
  rw [List.map_map, lastI_map h]
  refine congrArg (fun g => (List.range ((waitAt c i).toNat + 1)).map g) (funext fun m => ?_)
  show _ = (r ++ [lastI r + legAt c i + (m : Nat)]).map (· + t)
  rw [map_snoc_add]
  have e : lastI r + t + legAt c i + (m : Nat) = lastI r + legAt c i + (m : Nat) + t := by omega
  rw [e]
theorem rowsTo_add {c e : Chan} {t : Int} (hl : e.legs = c.legs) (hw : e.waits = c.waits) (d h : Int) : ∀ k, (∀ j, j ≤ k → ∀ x, depthOf e j (x + t) = depthOf c j x) → rowsTo e d (h + t) k = (rowsTo c d h k).map (fun r => r.map (· + t))
  | 0, hd => by
    unfold rowsTo
    rw [hd 0 (Nat.le_refl _)]
    split <;> rfl
  | k + 1, hd => by
    unfold rowsTo
    rw [rowsTo_add hl hw d h k fun j hj => hd j (by omega)]
    have ex : extR e k = extR c k := by
      funext r
      unfold extR waitAt legAt
      rw [hl, hw]
    rw [ex]
    have e1 : ((rowsTo c d h k).map (fun r => r.map (· + t))).flatMap (extR c k) = ((rowsTo c d h k).flatMap (extR c k)).map (fun r => r.map (· + t)) := by
      have : ∀ rows : List (List Int), (∀ r ∈ rows, r ≠ []) → (rows.map (fun r => r.map (· + t))).flatMap (extR c k) = (rows.flatMap (extR c k)).map (fun r => r.map (· + t)) := by
        intro rows
        induction rows with
        | nil => intro _; rfl
        | cons r rows ih =>
          intro hr
          rw [List.map_cons, List.flatMap_cons, List.flatMap_cons, List.map_append, ih fun q hq => hr q (List.mem_cons_of_mem _ hq), extR_add (hr r List.mem_cons_self)]
      exact this _ fun r hr z => by have := row_shape hr; rw [z] at this; simp at this
    rw [e1, List.filter_map]
    refine congrArg _ (List.filter_congr fun r hr => ?_)
    obtain ⟨q, hq, hm⟩ := List.mem_flatMap.mp hr
    obtain ⟨m, _, rfl⟩ := List.mem_map.mp hm
    show okR e d (k + 1) ((q ++ [lastI q + legAt c k + (m : Nat)]).map (· + t)) = okR c d (k + 1) (q ++ [lastI q + legAt c k + (m : Nat)])
    unfold okR
    rw [lastI_map (by simp), hd (k + 1) (Nat.le_refl _)]
theorem allFrom_period {c : Chan} (hc : ChOk c) {n : Int} (hd : (periodOf c : Int) ∣ n) (d h : Int) : allFrom c d (h + n) = (allFrom c d h).map (fun r => r.map (· + n)) :=
  rowsTo_add rfl rfl d h _ fun j hj x => depth_period (by have := hc.b1; omega) hd x
theorem isOut_period {c : Chan} (hc : ChOk c) {n : Int} (hd : (periodOf c : Int) ∣ n) (d h : Int) : isOut c d (h + n) = isOut c d h := by
  unfold isOut
  rw [allFrom_period hc hd]
  cases allFrom c d h <;> rfl
theorem isOut_mod {c : Chan} (hc : ChOk c) (d h : Int) : isOut c d (h % (periodOf c : Int)) = isOut c d h := by
  have e : h = h % (periodOf c : Int) + (periodOf c : Int) * (h / (periodOf c : Int)) := (Int.emod_add_mul_ediv h _).symm
  conv => rhs; rw [e]
  exact (isOut_period hc (Int.dvd_mul_right _ _) _ _).symm
theorem mem_hours {c : Chan} {d x : Int} : x ∈ hoursOf c d ↔ 0 ≤ x ∧ x < periodOf c ∧ isOut c d x = true := by
  unfold hoursOf
  rw [List.mem_map]
  constructor
  · rintro ⟨h, hh, rfl⟩
    obtain ⟨h1, h2⟩ := List.mem_filter.mp hh
    have := List.mem_range.mp h1
    exact ⟨by omega, by omega, h2⟩
  · rintro ⟨h0, h1, h2⟩
    refine ⟨x.toNat, List.mem_filter.mpr ⟨List.mem_range.mpr (by omega), ?_⟩, by omega⟩
    rw [show ((x.toNat : Nat) : Int) = x from by omega]
    exact h2
theorem mod_mem_hours {c : Chan} (hc : ChOk c) {d : Int} (x : Int) : x % (periodOf c : Int) ∈ hoursOf c d ↔ isOut c d x = true := by
  have hp := period_pos hc
  rw [mem_hours, isOut_mod hc]
  exact ⟨fun h => h.2.2, fun h => ⟨Int.emod_nonneg _ (by omega), Int.emod_lt_of_pos _ (by omega), h⟩⟩
theorem period840 {c : Chan} (hc : ChOk c) : periodOf c ∣ 840 := period_min fun b hb => by
  have h := hc.bl b hb
  have : b.length = 1 ∨ b.length = 2 ∨ b.length = 3 ∨ b.length = 4 ∨ b.length = 5 ∨ b.length = 6 ∨ b.length = 7 ∨ b.length = 8 := by omega
  rcases this with e | e | e | e | e | e | e | e <;> rw [e] <;> decide
theorem lcm840 {c e : Chan} (hc : ChOk c) (he : ChOk e) : Nat.lcm (periodOf c) (periodOf e) ≤ 840 := Nat.le_of_dvd (by decide) (Nat.lcm_dvd (period840 hc) (period840 he))

/-! ### small things -/
theorem mem_int (x : Int) (xs : List Int) : PyData.int x ∈ xs.map PyData.int ↔ x ∈ xs := by
  rw [List.mem_map]
  constructor
  · rintro ⟨y, hy, e⟩
    cases e
    exact hy
  · exact fun h => ⟨x, h, rfl⟩
theorem eq_boolS {K : PySem.W.Frag} {τ : Store} {Q : MV → Store → Prop} {neg : Bool} {a b : Bool} (h : a = b) (q : Q (.val (.bool (bneg neg true))) τ) : EqD K neg (.val (.bool a)) (.val (.bool b)) τ Q := by
  subst h
  refine eq_bool ?_
  rw [decide_eq_true rfl]
  exact q
theorem eq_q {Q : MV → Store → Prop} {τ : Store} {d d' : PyData} (h : d = d') (q : Q (.val d') τ) : Q (.val d) τ := by rw [h]; exact q
theorem cutD_drop1 {ds : List PyData} {j : Nat} (h : j + 1 ≤ ds.length) : cutD ds (some ((j : Int) + 1)) none = ds.drop (j + 1) := cutD_drop h
theorem pl_optD (o : Option Int) : Pl 0 (optD o) := by cases o <;> trivial
theorem optD_inj {a b : Option Int} (h : optD a = optD b) : a = b := by
  cases a <;> cases b <;> first | rfl | (cases h; done) | (injection h with h; subst h; rfl)
theorem isNone_optD (o : Option Int) : isNone (optD o) = o.isNone := by cases o <;> rfl
theorem all_len16 {c : Chan} (hc : ChOk c) (d h : Int) : (allFrom c d h).length ≤ 16 := rows_len16 hc d h (by have := hc.b1; omega)
theorem pl_rowsT (n : Nat) (rows : List (List Int)) : Pl (n + 2) (.tuple (rows.map tI)) := fun x hx => by
  obtain ⟨r, _, rfl⟩ := List.mem_map.mp hx
  exact pl_tI r
theorem pb_ints (n : Nat) (xs : List Int) : Pb (n + 1) (.list (xs.map .int)) := fun x hx => by
  obtain ⟨i, _, rfl⟩ := List.mem_map.mp hx
  cases n <;> trivial
theorem pb_intsT (n : Nat) (xs : List Int) : Pb (n + 1) (tI xs) := fun x hx => by
  obtain ⟨i, _, rfl⟩ := List.mem_map.mp hx
  cases n <;> trivial
theorem pb_rows (rows : List (List Int)) : Pb 2 (.list (rows.map tI)) := fun x hx => by
  obtain ⟨r, _, rfl⟩ := List.mem_map.mp hx
  exact pb_intsT 0 r
theorem pb_rowsT (rows : List (List Int)) : Pb 2 (.tuple (rows.map tI)) := fun x hx => by
  obtain ⟨r, _, rfl⟩ := List.mem_map.mp hx
  exact pb_intsT 0 r
theorem hours_asc (c : Chan) (d : Int) : (hoursOf c d).Pairwise (· < ·) := by
  unfold hoursOf
  rw [List.pairwise_map]
  refine (List.Pairwise.filter _ List.pairwise_lt_range).imp fun h => ?_
  omega
theorem asc_eq : ∀ {xs ys : List Int}, xs.Pairwise (· < ·) → ys.Pairwise (· < ·) → (∀ x, x ∈ xs ↔ x ∈ ys) → xs = ys
  | [], [], _, _, _ => rfl
  | [], y :: ys, _, _, h => by have := (h y).mpr List.mem_cons_self; cases this
  | x :: xs, [], _, _, h => by have := (h x).mp List.mem_cons_self; cases this
  | x :: xs, y :: ys, hx, hy, h => by
    obtain ⟨a1, a2⟩ := List.pairwise_cons.mp hx
    obtain ⟨b1, b2⟩ := List.pairwise_cons.mp hy
    have e : x = y := by
      have h1 := (h x).mp List.mem_cons_self
      have h2 := (h y).mpr List.mem_cons_self
      rcases List.mem_cons.mp h1 with e | h1
      · exact e
      · rcases List.mem_cons.mp h2 with e | h2
        · exact e.symm
        · have := b1 x h1
          have := a1 y h2
          omega
    subst e
    rw [asc_eq a2 b2 fun z => ?_]
    constructor
    · intro hz
      have h1 := (h z).mp (List.mem_cons_of_mem _ hz)
      rcases List.mem_cons.mp h1 with e | h1
      · subst e
        have := a1 z hz
        omega
      · exact h1
    · intro hz
      have h1 := (h z).mpr (List.mem_cons_of_mem _ hz)
      rcases List.mem_cons.mp h1 with e | h1
      · subst e
        have := b1 z hz
        omega
      · exact h1
/-- hours are told by what is out -/
theorem hours_eq {c e : Chan} {d d' : Int} (hp : periodOf e = periodOf c) (h : ∀ x, isOut e d' x = isOut c d x) : hoursOf e d' = hoursOf c d := by
  unfold hoursOf
  rw [hp]
  congr 1
  exact List.filter_congr fun x _ => h _
theorem out_of_hours {c e : Chan} (hc : ChOk c) (he : ChOk e) {d d' : Int} (hp : periodOf e = periodOf c) (h : hoursOf e d' = hoursOf c d) (x : Int) : isOut e d' x = isOut c d x := by
  apply Bool.eq_iff_iff.mpr
  rw [← mod_mem_hours he, ← mod_mem_hours hc, h, hp]
theorem hours_nil {c : Chan} (hc : ChOk c) {d : Int} : hoursOf c d = [] ↔ ∀ x, isOut c d x = false := by
  constructor
  · intro h x
    cases hx : isOut c d x with
    | false => rfl
    | true =>
      have := (mod_mem_hours hc x).mpr hx
      rw [h] at this
      cases this
  · intro h
    rw [List.eq_nil_iff_forall_not_mem]
    intro x hx
    have := (mem_hours.mp hx).2.2
    rw [h x] at this
    cases this
theorem period_of_lens {c e : Chan} (h : e.bars.map List.length = c.bars.map List.length) : periodOf e = periodOf c := by
  have g : ∀ b : List (List Int), b.foldl (fun a b => Nat.lcm a b.length) 1 = (b.map List.length).foldl Nat.lcm 1 := fun b => by rw [List.foldl_map]
  unfold periodOf
  rw [g, g, h]

section
variable {P : Program} {w : World} {K : PySem.W.Frag} {mg : Str → Option Value} {base : Heap}
def cIsOut : Ctr := fun svs τ Q => ∃ c, ∃ d h : Int, svs = [.val (chD c), .val (.int d), .val (.int h)] ∧ ChOk c ∧ Q (.val (.bool (isOut c d h))) τ
abbrev s_is_out : Stmt := topS 21
theorem sc_is_out : FnScope ["channel", "draught", "hour"] ["channel", "draught", "hour"] (defScope s_is_out) := ⟨rfl, rfl, rfl, by decide +kernel, rfl, by decide +kernel, by decide +kernel⟩
local macro_rules | `(tactic| walk_at "nm") => `(tactic| first
  | with_reducible refine de_name (x := "channel") 0 (by with_unfolding_all rfl) (by with_unfolding_all first | exact Or.inl rfl | exact Or.inr (Or.inl rfl) | exact Or.inr (Or.inr rfl)) (by with_unfolding_all rfl) ?_ (by with_unfolding_all decide) (by with_unfolding_all decide)
  | with_reducible refine de_name (x := "draught") 1 (by with_unfolding_all rfl) (by with_unfolding_all first | exact Or.inl rfl | exact Or.inr (Or.inl rfl) | exact Or.inr (Or.inr rfl)) (by with_unfolding_all rfl) ?_ (by with_unfolding_all decide) (by with_unfolding_all decide)
  | with_reducible refine de_name (x := "hour") 2 (by with_unfolding_all rfl) (by with_unfolding_all first | exact Or.inl rfl | exact Or.inr (Or.inl rfl) | exact Or.inr (Or.inr rfl)) (by with_unfolding_all rfl) ?_ (by with_unfolding_all decide) (by with_unfolding_all decide))
local macro_rules | `(tactic| walk_at "st") => `(tactic| first
  | with_reducible refine ds_set (x := "channel") 0 (by with_unfolding_all exact sc_is_out.nd) (by with_unfolding_all rfl) (by with_unfolding_all first | exact Or.inl rfl | exact Or.inr rfl) ?_ (by with_unfolding_all rfl) (by with_unfolding_all first | exact .inl rfl | exact .inr rfl)
  | with_reducible refine ds_set (x := "draught") 1 (by with_unfolding_all exact sc_is_out.nd) (by with_unfolding_all rfl) (by with_unfolding_all first | exact Or.inl rfl | exact Or.inr rfl) ?_ (by with_unfolding_all rfl) (by with_unfolding_all first | exact .inl rfl | exact .inr rfl)
  | with_reducible refine ds_set (x := "hour") 2 (by with_unfolding_all exact sc_is_out.nd) (by with_unfolding_all rfl) (by with_unfolding_all first | exact Or.inl rfl | exact Or.inr rfl) ?_ (by with_unfolding_all rfl) (by with_unfolding_all first | exact .inl rfl | exact .inr rfl))



theorem kn_is_out (D : HasDef K mg "is_out" s_is_out ["channel", "draught", "hour"]) (B : Bl mg) (k2 : Knows P w K mg base 2 "all_from" cAllFrom) : Knows P w K mg base 3 "is_out" cIsOut := by
  refine knows_mk D sc_is_out (fun _ _ _ ⟨_, _, _, e, _⟩ => by rw [e]; rfl) (fun f cdv A outer s H E hr svs τ Q hC => ?_)
  obtain ⟨c, d, h, rfl, hc, q⟩ := hC
  walk_at "go"
  refine ⟨c, d, h, rfl, hc, ?_⟩
  walk_at "go"
  refine eq_pl (n := 2) (m := 2) rfl rfl (pl_rows 0 _) (fun x hx => by cases hx) (fun b hb => ?_)
  have e : bneg true b = isOut c d h := by
    unfold isOut
    have hb2 : (b = true ↔ allFrom c d h = []) := by
      rw [hb]
      unfold rowsD
      constructor
      · intro e
        injection e with e
        exact List.map_eq_nil_iff.mp e
      · intro e
        rw [e]
        rfl
    cases b with
    | true => rw [hb2.mp rfl]; rfl
    | false =>
      have : allFrom c d h ≠ [] := fun z => by have := hb2.mpr z; cases this
      cases hA : allFrom c d h with
      | nil => exact absurd hA this
      | cons _ _ => rfl
  rw [e]
  exact q
end

/-! ### a channel later -/
theorem len_shift (c : Chan) (s : Int) : (shifted c s).bars.length = c.bars.length := by simp [shifted]
theorem all_shift {c : Chan} (hc : ChOk c) (s d h : Int) : allFrom (shifted c s) d (h + s) = (allFrom c d h).map (fun r => r.map (· + s)) := by
  unfold allFrom
  rw [len_shift]
  refine rowsTo_add (c := c) (e := shifted c s) (t := s) rfl rfl d h (c.bars.length - 1) fun j hj x => ?_
  have := hc.b1
  exact depth_shift hc (by omega) s x
theorem out_shift {c : Chan} (hc : ChOk c) (s d x : Int) : isOut (shifted c s) d (x + s) = isOut c d x := by
  unfold isOut
  rw [all_shift hc]
  cases allFrom c d x <;> rfl
theorem out_shift' {c : Chan} (hc : ChOk c) (s d x : Int) : isOut (shifted c s) d x = isOut c d (x - s) := by
  have := out_shift hc s d (x - s)
  rwa [Int.sub_add_cancel] at this
theorem period_shift (c : Chan) (s : Int) : periodOf (shifted c s) = periodOf c := by
  refine period_of_lens ?_
  show (c.bars.map (shiftBar s)).map List.length = c.bars.map List.length
  rw [List.map_map]
  refine List.map_congr_left fun b _ => ?_
  simp [shiftBar]

/-! ### hours seen -/
def pairSD (p : Int × Bool) : PyData := .tuple [.int p.1, .bool p.2]
def seenD (ps : List (Int × Bool)) : PyData := .tuple (ps.map pairSD)
def agrees (c : Chan) (d : Int) (ps : List (Int × Bool)) : Bool := ps.all fun p => decide (isOut c d p.1 = p.2)
structure SeenOk (ps : List (Int × Bool)) : Prop where
  len : ps.length ≤ 12
  low : ∀ p ∈ ps, 0 ≤ p.1 ∧ p.1 ≤ 999
  asc : (ps.map (·.1)).Pairwise (· < ·)
section
variable {P : Program} {w : World} {K : PySem.W.Frag} {mg : Str → Option Value} {base : Heap}
def cSeen : Ctr := fun svs τ Q => ∃ ps, svs = [.val (seenD ps)] ∧ SeenOk ps ∧ Q (.val .none) τ
def cAgree : Ctr := fun svs τ Q => ∃ c, ∃ d : Int, ∃ ps, svs = [.val (chD c), .val (.int d), .val (seenD ps)] ∧ ChOk c ∧ ps.length ≤ 12 ∧ Q (.val (.bool (agrees c d ps))) τ
abbrev s_does_agree : Stmt := topS 24
theorem sc_does_agree : FnScope ["channel", "draught", "seen", "hour", "came"] ["channel", "draught", "seen"] (defScope s_does_agree) := ⟨rfl, rfl, rfl, by decide +kernel, rfl, by decide +kernel, by decide +kernel⟩
local macro_rules | `(tactic| walk_at "nm") => `(tactic| first
  | with_reducible refine de_name (x := "channel") 0 (by with_unfolding_all rfl) (by with_unfolding_all first | exact Or.inl rfl | exact Or.inr (Or.inl rfl) | exact Or.inr (Or.inr rfl)) (by with_unfolding_all rfl) ?_ (by with_unfolding_all decide) (by with_unfolding_all decide)
  | with_reducible refine de_name (x := "draught") 1 (by with_unfolding_all rfl) (by with_unfolding_all first | exact Or.inl rfl | exact Or.inr (Or.inl rfl) | exact Or.inr (Or.inr rfl)) (by with_unfolding_all rfl) ?_ (by with_unfolding_all decide) (by with_unfolding_all decide)
  | with_reducible refine de_name (x := "seen") 2 (by with_unfolding_all rfl) (by with_unfolding_all first | exact Or.inl rfl | exact Or.inr (Or.inl rfl) | exact Or.inr (Or.inr rfl)) (by with_unfolding_all rfl) ?_ (by with_unfolding_all decide) (by with_unfolding_all decide)
  | with_reducible refine de_name (x := "hour") 3 (by with_unfolding_all rfl) (by with_unfolding_all first | exact Or.inl rfl | exact Or.inr (Or.inl rfl) | exact Or.inr (Or.inr rfl)) (by with_unfolding_all rfl) ?_ (by with_unfolding_all decide) (by with_unfolding_all decide)
  | with_reducible refine de_name (x := "came") 4 (by with_unfolding_all rfl) (by with_unfolding_all first | exact Or.inl rfl | exact Or.inr (Or.inl rfl) | exact Or.inr (Or.inr rfl)) (by with_unfolding_all rfl) ?_ (by with_unfolding_all decide) (by with_unfolding_all decide))
local macro_rules | `(tactic| walk_at "st") => `(tactic| first
  | with_reducible refine ds_set (x := "channel") 0 (by with_unfolding_all exact sc_does_agree.nd) (by with_unfolding_all rfl) (by with_unfolding_all first | exact Or.inl rfl | exact Or.inr rfl) ?_ (by with_unfolding_all rfl) (by with_unfolding_all first | exact .inl rfl | exact .inr rfl)
  | with_reducible refine ds_set (x := "draught") 1 (by with_unfolding_all exact sc_does_agree.nd) (by with_unfolding_all rfl) (by with_unfolding_all first | exact Or.inl rfl | exact Or.inr rfl) ?_ (by with_unfolding_all rfl) (by with_unfolding_all first | exact .inl rfl | exact .inr rfl)
  | with_reducible refine ds_set (x := "seen") 2 (by with_unfolding_all exact sc_does_agree.nd) (by with_unfolding_all rfl) (by with_unfolding_all first | exact Or.inl rfl | exact Or.inr rfl) ?_ (by with_unfolding_all rfl) (by with_unfolding_all first | exact .inl rfl | exact .inr rfl)
  | with_reducible refine ds_set (x := "hour") 3 (by with_unfolding_all exact sc_does_agree.nd) (by with_unfolding_all rfl) (by with_unfolding_all first | exact Or.inl rfl | exact Or.inr rfl) ?_ (by with_unfolding_all rfl) (by with_unfolding_all first | exact .inl rfl | exact .inr rfl)
  | with_reducible refine ds_set (x := "came") 4 (by with_unfolding_all exact sc_does_agree.nd) (by with_unfolding_all rfl) (by with_unfolding_all first | exact Or.inl rfl | exact Or.inr rfl) ?_ (by with_unfolding_all rfl) (by with_unfolding_all first | exact .inl rfl | exact .inr rfl))

local macro_rules | `(tactic| walk_at "lc hour came") => `(tactic| refine de_lc (t := .tup [3, 4]) (own := [("hour", 3), ("came", 4)]) rfl sc_does_agree.nd (by first | exact blkOk_by (N := ["channel", "draught", "seen", "hour", "came"]) (sc := defScope s_does_agree) (by decide +kernel) | exact blkOk_by (N := ["channel", "draught", "seen", "hour", "came"]) (sc := relS _ (defScope s_does_agree)) (by decide +kernel)) (by decide) (fun _ _ _ _ _ => pgx_tup2 rfl (pg_name sc_does_agree.nd rfl (by first | exact Or.inl rfl | exact Or.inr rfl)) (pg_name sc_does_agree.nd rfl (by first | exact Or.inl rfl | exact Or.inr rfl))) ?_)

theorem kn_does_agree (D : HasDef K mg "does_agree" s_does_agree ["channel", "draught", "seen"]) (B : Bl mg) (k1 : Knows P w K mg base 3 "is_out" cIsOut) : Knows P w K mg base 4 "does_agree" cAgree := by
  refine knows_mk D sc_does_agree (fun _ _ _ ⟨_, _, _, e, _⟩ => by rw [e]; rfl) (fun f cdv A outer s H E hr svs τ Q hC => ?_)
  obtain ⟨c, d, ps, rfl, hc, hl, q⟩ := hC
  have eS : seenD ps = .tuple (ps.map pairSD) := rfl
  rw [eS]
  walk_at "go"
  walk_at "lc hour came"
  refine di_tup ?_
  walk_at "go"
  refine lcq_map ps pairSD (fun p => .bool (decide (isOut c d p.1 = p.2))) rfl (by omega) (fun p hp => ⟨_, rfl, fun D acc hD s H C cl fp => ?_⟩) ?_
  · walk_at "go"
    refine ⟨c, d, p.1, rfl, hc, ?_⟩
    walk_at "go"
    refine eq_bool ?_
    exact ⟨rfl, rfl⟩
  refine ⟨ps.map fun p => decide (isOut c d p.1 = p.2), by rw [List.map_map]; rfl, ?_⟩
  have e : (ps.map fun p => decide (isOut c d p.1 = p.2)).all id = agrees c d ps := by
    rw [List.all_map]
    rfl
  rw [e]
  exact q
end

section
variable {P : Program} {w : World} {K : PySem.W.Frag} {mg : Str → Option Value} {base : Heap}
theorem pairS_at {ps : List (Int × Bool)} {k : Nat} {p : Int × Bool} (h : ps[k]? = some p) : atI (ps.map pairSD) ((k : Nat) : Int) = some (pairSD p) := by
  have hk := (List.getElem?_eq_some_iff.mp h).1
  unfold atI
  rw [ixN_ok (by omega) (by rw [List.length_map]; omega)]
  show (ps.map pairSD)[((k : Nat) : Int).toNat]? = _
  rw [Int.toNat_natCast, List.getElem?_map, h]
  rfl
abbrev s_check_seen : Stmt := topS 23
theorem sc_check_seen : FnScope ["value", "pair", "k"] ["value"] (defScope s_check_seen) := ⟨rfl, rfl, rfl, by decide +kernel, rfl, by decide +kernel, by decide +kernel⟩
local macro_rules | `(tactic| walk_at "nm") => `(tactic| first
  | with_reducible refine de_name (x := "value") 0 (by with_unfolding_all rfl) (by with_unfolding_all first | exact Or.inl rfl | exact Or.inr (Or.inl rfl) | exact Or.inr (Or.inr rfl)) (by with_unfolding_all rfl) ?_ (by with_unfolding_all decide) (by with_unfolding_all decide)
  | with_reducible refine de_name (x := "pair") 1 (by with_unfolding_all rfl) (by with_unfolding_all first | exact Or.inl rfl | exact Or.inr (Or.inl rfl) | exact Or.inr (Or.inr rfl)) (by with_unfolding_all rfl) ?_ (by with_unfolding_all decide) (by with_unfolding_all decide)
  | with_reducible refine de_name (x := "k") 2 (by with_unfolding_all rfl) (by with_unfolding_all first | exact Or.inl rfl | exact Or.inr (Or.inl rfl) | exact Or.inr (Or.inr rfl)) (by with_unfolding_all rfl) ?_ (by with_unfolding_all decide) (by with_unfolding_all decide))
local macro_rules | `(tactic| walk_at "st") => `(tactic| first
  | with_reducible refine ds_set (x := "value") 0 (by with_unfolding_all exact sc_check_seen.nd) (by with_unfolding_all rfl) (by with_unfolding_all first | exact Or.inl rfl | exact Or.inr rfl) ?_ (by with_unfolding_all rfl) (by with_unfolding_all first | exact .inl rfl | exact .inr rfl)
  | with_reducible refine ds_set (x := "pair") 1 (by with_unfolding_all exact sc_check_seen.nd) (by with_unfolding_all rfl) (by with_unfolding_all first | exact Or.inl rfl | exact Or.inr rfl) ?_ (by with_unfolding_all rfl) (by with_unfolding_all first | exact .inl rfl | exact .inr rfl)
  | with_reducible refine ds_set (x := "k") 2 (by with_unfolding_all exact sc_check_seen.nd) (by with_unfolding_all rfl) (by with_unfolding_all first | exact Or.inl rfl | exact Or.inr rfl) ?_ (by with_unfolding_all rfl) (by with_unfolding_all first | exact .inl rfl | exact .inr rfl))

local macro_rules | `(tactic| walk_at "lc k") => `(tactic| refine de_lc (t := .name 2) (own := [("k", 2)]) rfl sc_check_seen.nd (by first | exact blkOk_by (N := ["value", "pair", "k"]) (sc := defScope s_check_seen) (by decide +kernel) | exact blkOk_by (N := ["value", "pair", "k"]) (sc := relS _ (defScope s_check_seen)) (by decide +kernel)) (by decide) (fun _ _ _ _ _ => pgx_name sc_check_seen.nd rfl (by first | exact Or.inl rfl | exact Or.inr rfl)) ?_)

theorem kn_check_seen (D : HasDef K mg "check_seen" s_check_seen ["value"]) (B : Bl mg) (k1 : Knows P w K mg base 1 "is_between" cBetween) : Knows P w K mg base 2 "check_seen" cSeen := by
  refine knows_mk D sc_check_seen (fun _ _ _ ⟨_, e, _⟩ => by rw [e]; rfl) (fun f cdv A outer s H E hr svs τ Q hC => ?_)
  obtain ⟨ps, rfl, hs, q⟩ := hC
  have hl := hs.len
  have eS : seenD ps = .tuple (ps.map pairSD) := rfl
  rw [eS]
  have hlm : (ps.map pairSD).length ≤ 12 := by rw [List.length_map]; exact hl
  refine db_seq (fun ρ' τ' => τ' = τ ∧ ρ' = [some (.val (.tuple (ps.map pairSD))), none, none]) ?_ ?_
  · walk_at "go"
    exact ⟨rfl, rfl⟩
  rintro ρ' τ' ⟨rfl, rfl⟩
  refine db_seq (fun ρ' τ => τ = τ' ∧ ∃ v1, ρ' = [some (.val (.tuple (ps.map pairSD))), v1, none]) ?_ ?_
  · refine ds_for (t := .name 1) rfl PassesOwn.never (pgx_name sc_check_seen.nd rfl (by first | exact Or.inl rfl | exact Or.inr rfl)) (di_tup ?_)
    walk_at "go"
    refine ⟨fun i ρ' τ => τ = τ' ∧ ∃ v1, ρ' = [some (.val (.tuple (ps.map pairSD))), v1, none], ⟨rfl, none, rfl⟩, fun _ _ _ _ => trivial, ?_, ?_⟩
    · rintro i dd ρ' τ hd ⟨rfl, v1, rfl⟩
      obtain ⟨p, hp, rfl⟩ := map_get hd
      have hpl := hs.low p (List.mem_of_getElem? hp)
      refine ⟨_, rfl, ?_⟩
      have eP : pairSD p = .tuple [.int p.1, .bool p.2] := rfl
      rw [eP]
      walk_at "go"
      refine ⟨_, _, _, rfl, true, by rw [between_ok hpl.1 hpl.2], ?_⟩
      walk_at "go"
      exact ⟨rfl, _, rfl⟩
    · rintro ρ' τ ⟨rfl, v1, rfl⟩
      exact ⟨rfl, _, rfl⟩
  rintro ρ' τ ⟨rfl, v1, rfl⟩
  walk_at "go"
  walk_at "lc k"
  refine di_range1 ‹Bl _› rfl ?_
  walk_at "go"
  rw [List.length_map]
  refine ⟨by omega, by omega, ?_⟩
  refine lcq_map (List.range (ps.length - 1)) (fun k => .int (0 + (k : Nat))) (fun _ => .bool true) ?_ (by rw [List.length_range]; omega) (fun k hk => ⟨_, rfl, fun D acc hD s H C cl fp => ?_⟩) ?_
  · rw [show ((ps.length : Int) - 1).toNat = ps.length - 1 from by omega]
    rfl
  · have hk := List.mem_range.mp hk
    obtain ⟨p, hp⟩ : ∃ p, ps[k]? = some p := ⟨_, List.getElem?_eq_getElem (by omega)⟩
    obtain ⟨p', hp'⟩ : ∃ p, ps[k + 1]? = some p := ⟨_, List.getElem?_eq_getElem (by omega)⟩
    have hlt : p.1 < p'.1 := by
      have := List.pairwise_iff_getElem.mp hs.asc k (k + 1) (by rw [List.length_map]; omega) (by rw [List.length_map]; omega) (by omega)
      rw [List.getElem_map, List.getElem_map] at this
      rw [(List.getElem?_eq_some_iff.mp hp).2, (List.getElem?_eq_some_iff.mp hp').2] at this
      exact this
    rw [Int.zero_add]
    walk_at "go"
    refine ix_tup' (pairS_at hp) ?_
    unfold pairSD
    walk_at "go"
    refine ix_tup' (pairS_at hp') ?_
    unfold pairSD
    walk_at "go"
    exact ⟨congrArg (fun b => MV.val (PyData.bool b)) (decide_eq_true hlt), rfl⟩
  refine ⟨(List.range (ps.length - 1)).map fun _ => true, by rw [List.map_map]; rfl, ?_⟩
  rw [show ((List.range (ps.length - 1)).map fun _ => true).all id = true from List.all_eq_true.mpr fun x hx => by obtain ⟨_, _, rfl⟩ := List.mem_map.mp hx; rfl]
  walk_at "go"
  exact q
end

def duesL (c : Chan) (ps : List (Int × Bool)) : List Int := ((List.range 7).filter fun d => agrees c (d : Nat) ps).map fun d => ((d : Nat) : Int)
def fitsTo (c : Chan) (d : Int) (ps : List (Int × Bool)) (n : Nat) : List Int := ((List.range n).filter fun h => agrees (shifted c (h : Nat)) d ps).map fun h => ((h : Nat) : Int)
def fitsL (c : Chan) (d : Int) (ps : List (Int × Bool)) : List Int := fitsTo c d ps (periodOf c)
theorem fitsTo_yes {c : Chan} {d : Int} {ps : List (Int × Bool)} {i : Nat} (h : agrees (shifted c (i : Nat)) d ps = true) : fitsTo c d ps (i + 1) = fitsTo c d ps i ++ [((i : Nat) : Int)] := by
  unfold fitsTo
  rw [List.range_succ, List.filter_append, List.filter_cons_of_pos (p := fun h : Nat => agrees (shifted c (h : Nat)) d ps) h, List.filter_nil, List.map_append]
  rfl
theorem fitsTo_no {c : Chan} {d : Int} {ps : List (Int × Bool)} {i : Nat} (h : agrees (shifted c (i : Nat)) d ps = false) : fitsTo c d ps (i + 1) = fitsTo c d ps i := by
  unfold fitsTo
  rw [List.range_succ, List.filter_append, List.filter_cons_of_neg (p := fun h : Nat => agrees (shifted c (h : Nat)) d ps) (by rw [h]; exact Bool.false_ne_true), List.filter_nil, List.append_nil]
theorem fitsTo_len (c : Chan) (d : Int) (ps : List (Int × Bool)) (n : Nat) : (fitsTo c d ps n).length ≤ n := by
  have := List.length_filter_le (fun h => agrees (shifted c (h : Nat)) d ps) (List.range n)
  unfold fitsTo
  rw [List.length_map]
  rwa [List.length_range] at this
section
variable {P : Program} {w : World} {K : PySem.W.Frag} {mg : Str → Option Value} {base : Heap}
def cDues : Ctr := fun svs τ Q => ∃ c ps, svs = [.val (chD c), .val (seenD ps)] ∧ ChOk c ∧ SeenOk ps ∧ Q (.val (tI (duesL c ps))) τ
def cFits : Ctr := fun svs τ Q => ∃ c, ∃ d : Int, ∃ ps, svs = [.val (chD c), .val (.int d), .val (seenD ps)] ∧ ChOk c ∧ 0 ≤ d ∧ d ≤ 6 ∧ SeenOk ps ∧ Q (.val (tI (fitsL c d ps))) τ
abbrev s_draughts_for : Stmt := topS 25
theorem sc_draughts_for : FnScope ["channel", "seen", "draught"] ["channel", "seen"] (defScope s_draughts_for) := ⟨rfl, rfl, rfl, by decide +kernel, rfl, by decide +kernel, by decide +kernel⟩
local macro_rules | `(tactic| walk_at "nm") => `(tactic| first
  | with_reducible refine de_name (x := "channel") 0 (by with_unfolding_all rfl) (by with_unfolding_all first | exact Or.inl rfl | exact Or.inr (Or.inl rfl) | exact Or.inr (Or.inr rfl)) (by with_unfolding_all rfl) ?_ (by with_unfolding_all decide) (by with_unfolding_all decide)
  | with_reducible refine de_name (x := "seen") 1 (by with_unfolding_all rfl) (by with_unfolding_all first | exact Or.inl rfl | exact Or.inr (Or.inl rfl) | exact Or.inr (Or.inr rfl)) (by with_unfolding_all rfl) ?_ (by with_unfolding_all decide) (by with_unfolding_all decide)
  | with_reducible refine de_name (x := "draught") 2 (by with_unfolding_all rfl) (by with_unfolding_all first | exact Or.inl rfl | exact Or.inr (Or.inl rfl) | exact Or.inr (Or.inr rfl)) (by with_unfolding_all rfl) ?_ (by with_unfolding_all decide) (by with_unfolding_all decide))
local macro_rules | `(tactic| walk_at "st") => `(tactic| first
  | with_reducible refine ds_set (x := "channel") 0 (by with_unfolding_all exact sc_draughts_for.nd) (by with_unfolding_all rfl) (by with_unfolding_all first | exact Or.inl rfl | exact Or.inr rfl) ?_ (by with_unfolding_all rfl) (by with_unfolding_all first | exact .inl rfl | exact .inr rfl)
  | with_reducible refine ds_set (x := "seen") 1 (by with_unfolding_all exact sc_draughts_for.nd) (by with_unfolding_all rfl) (by with_unfolding_all first | exact Or.inl rfl | exact Or.inr rfl) ?_ (by with_unfolding_all rfl) (by with_unfolding_all first | exact .inl rfl | exact .inr rfl)
  | with_reducible refine ds_set (x := "draught") 2 (by with_unfolding_all exact sc_draughts_for.nd) (by with_unfolding_all rfl) (by with_unfolding_all first | exact Or.inl rfl | exact Or.inr rfl) ?_ (by with_unfolding_all rfl) (by with_unfolding_all first | exact .inl rfl | exact .inr rfl))

local macro_rules | `(tactic| walk_at "lc draught") => `(tactic| refine de_lc (t := .name 2) (own := [("draught", 2)]) rfl sc_draughts_for.nd (by first | exact blkOk_by (N := ["channel", "seen", "draught"]) (sc := defScope s_draughts_for) (by decide +kernel) | exact blkOk_by (N := ["channel", "seen", "draught"]) (sc := relS _ (defScope s_draughts_for)) (by decide +kernel)) (by decide) (fun _ _ _ _ _ => pgx_name sc_draughts_for.nd rfl (by first | exact Or.inl rfl | exact Or.inr rfl)) ?_)

theorem kn_draughts_for (D : HasDef K mg "draughts_for" s_draughts_for ["channel", "seen"]) (B : Bl mg) (k1 : Knows P w K mg base 4 "check_channel" cChk) (k2 : Knows P w K mg base 2 "check_seen" cSeen) (k3 : Knows P w K mg base 4 "does_agree" cAgree) : Knows P w K mg base 5 "draughts_for" cDues := by
  refine knows_mk D sc_draughts_for (fun _ _ _ ⟨_, _, e, _⟩ => by rw [e]; rfl) (fun f cdv A outer s H E hr svs τ Q hC => ?_)
  obtain ⟨c, ps, rfl, hc, hs, q⟩ := hC
  walk_at "go"
  refine ⟨c, rfl, hc, ?_⟩
  walk_at "go"
  refine ⟨ps, rfl, hs, ?_⟩
  walk_at "go"
  walk_at "lc draught"
  refine di_range1 ‹Bl _› rfl ?_
  walk_at "go"
  refine ⟨by decide, by decide, ?_⟩
  refine lcq_filter (List.range 7) (fun d => .int (0 + (d : Nat))) (fun d => .int ((d : Nat) : Int)) (fun d => agrees c (d : Nat) ps) rfl (by rw [List.length_range]; decide) (fun d hd => ⟨_, rfl, fun D acc hD s H C cl fp => ⟨?_, fun _ => ?_⟩⟩) ?_
  · walk_at "go"
    rw [Int.zero_add]
    exact ⟨c, _, ps, rfl, hc, hs.len, _, rfl, rfl, rfl⟩
  · walk_at "go"
    rw [Int.zero_add]
    exact ⟨rfl, rfl⟩
  refine tup_lst rfl ?_
  have e : tI (duesL c ps) = .tuple (((List.range 7).filter fun d => agrees c (d : Nat) ps).map fun (d : Nat) => PyData.int (d : Nat)) := by
    unfold tI duesL
    rw [List.map_map]
    rfl
  rw [e] at q
  exact q
abbrev s_hours_for : Stmt := topS 26
theorem sc_hours_for : FnScope ["channel", "draught", "seen", "found", "hours"] ["channel", "draught", "seen"] (defScope s_hours_for) := ⟨rfl, rfl, rfl, by decide +kernel, rfl, by decide +kernel, by decide +kernel⟩
local macro_rules | `(tactic| walk_at "nm") => `(tactic| first
  | with_reducible refine de_name (x := "channel") 0 (by with_unfolding_all rfl) (by with_unfolding_all first | exact Or.inl rfl | exact Or.inr (Or.inl rfl) | exact Or.inr (Or.inr rfl)) (by with_unfolding_all rfl) ?_ (by with_unfolding_all decide) (by with_unfolding_all decide)
  | with_reducible refine de_name (x := "draught") 1 (by with_unfolding_all rfl) (by with_unfolding_all first | exact Or.inl rfl | exact Or.inr (Or.inl rfl) | exact Or.inr (Or.inr rfl)) (by with_unfolding_all rfl) ?_ (by with_unfolding_all decide) (by with_unfolding_all decide)
  | with_reducible refine de_name (x := "seen") 2 (by with_unfolding_all rfl) (by with_unfolding_all first | exact Or.inl rfl | exact Or.inr (Or.inl rfl) | exact Or.inr (Or.inr rfl)) (by with_unfolding_all rfl) ?_ (by with_unfolding_all decide) (by with_unfolding_all decide)
  | with_reducible refine de_name (x := "found") 3 (by with_unfolding_all rfl) (by with_unfolding_all first | exact Or.inl rfl | exact Or.inr (Or.inl rfl) | exact Or.inr (Or.inr rfl)) (by with_unfolding_all rfl) ?_ (by with_unfolding_all decide) (by with_unfolding_all decide)
  | with_reducible refine de_name (x := "hours") 4 (by with_unfolding_all rfl) (by with_unfolding_all first | exact Or.inl rfl | exact Or.inr (Or.inl rfl) | exact Or.inr (Or.inr rfl)) (by with_unfolding_all rfl) ?_ (by with_unfolding_all decide) (by with_unfolding_all decide))
local macro_rules | `(tactic| walk_at "st") => `(tactic| first
  | with_reducible refine ds_set (x := "channel") 0 (by with_unfolding_all exact sc_hours_for.nd) (by with_unfolding_all rfl) (by with_unfolding_all first | exact Or.inl rfl | exact Or.inr rfl) ?_ (by with_unfolding_all rfl) (by with_unfolding_all first | exact .inl rfl | exact .inr rfl)
  | with_reducible refine ds_set (x := "draught") 1 (by with_unfolding_all exact sc_hours_for.nd) (by with_unfolding_all rfl) (by with_unfolding_all first | exact Or.inl rfl | exact Or.inr rfl) ?_ (by with_unfolding_all rfl) (by with_unfolding_all first | exact .inl rfl | exact .inr rfl)
  | with_reducible refine ds_set (x := "seen") 2 (by with_unfolding_all exact sc_hours_for.nd) (by with_unfolding_all rfl) (by with_unfolding_all first | exact Or.inl rfl | exact Or.inr rfl) ?_ (by with_unfolding_all rfl) (by with_unfolding_all first | exact .inl rfl | exact .inr rfl)
  | with_reducible refine ds_set (x := "found") 3 (by with_unfolding_all exact sc_hours_for.nd) (by with_unfolding_all rfl) (by with_unfolding_all first | exact Or.inl rfl | exact Or.inr rfl) ?_ (by with_unfolding_all rfl) (by with_unfolding_all first | exact .inl rfl | exact .inr rfl)
  | with_reducible refine ds_set (x := "hours") 4 (by with_unfolding_all exact sc_hours_for.nd) (by with_unfolding_all rfl) (by with_unfolding_all first | exact Or.inl rfl | exact Or.inr rfl) ?_ (by with_unfolding_all rfl) (by with_unfolding_all first | exact .inl rfl | exact .inr rfl))



theorem kn_hours_for (D : HasDef K mg "hours_for" s_hours_for ["channel", "draught", "seen"]) (B : Bl mg) (k1 : Knows P w K mg base 4 "check_channel" cChk) (k4 : Knows P w K mg base 2 "check_draught" (cChkI 0 6)) (k2 : Knows P w K mg base 2 "check_seen" cSeen) (k3 : Knows P w K mg base 4 "does_agree" cAgree) (k5 : Knows P w K mg base 2 "period_of" cPer) (k6 : Knows P w K mg base 1 "shifted" cShift) : Knows P w K mg base 5 "hours_for" cFits := by
  refine knows_mk D sc_hours_for (fun _ _ _ ⟨_, _, _, e, _⟩ => by rw [e]; rfl) (fun f cdv A outer s H E hr svs τ Q hC => ?_)
  obtain ⟨c, d, ps, rfl, hc, d0, d1, hs, q⟩ := hC
  have hp2 := period_le hc
  walk_at "go"
  refine ⟨c, rfl, hc, ?_⟩
  walk_at "go"
  refine ⟨d, rfl, d0, d1, ?_⟩
  walk_at "go"
  refine ⟨ps, rfl, hs, ?_⟩
  walk_at "gb"
  walk_at "db"
  walk_at "st"
  refine de_lstM ?_
  walk_at "go"
  intro l hnl
  refine db_seq (fun ρ' τ' => ∃ v4, τ' = (l, .lst ((fitsL c d ps).map .int)) :: τ ∧ ρ' = [some (.val (chD c)), some (.val (.int d)), some (.val (seenD ps)), some (.hdl l), v4]) ?_ ?_
  · refine ds_for (t := .name 4) rfl PassesOwn.never (pgx_name sc_hours_for.nd rfl (by first | exact Or.inl rfl | exact Or.inr rfl)) (di_range1 ‹Bl _› rfl ?_)
    walk_at "go"
    refine ⟨c, rfl, hc, _, rfl, by omega, by omega, ?_⟩
    refine ⟨fun i ρ' τ' => ∃ v4, τ' = (l, .lst ((fitsTo c d ps i).map .int)) :: τ ∧ ρ' = [some (.val (chD c)), some (.val (.int d)), some (.val (seenD ps)), some (.hdl l), v4], ⟨none, rfl, rfl⟩, fun _ _ _ _ => trivial, ?_, ?_⟩
    · rintro i dd ρ' τ' hd ⟨v4, rfl, rfl⟩
      have hi : i < periodOf c := by
        have := (List.getElem?_eq_some_iff.mp hd).1
        rw [rangeD_length] at this
        omega
      change (rangeD 0 (periodOf c))[i]? = _ at hd
      rw [rangeD_get hi, Int.zero_add] at hd
      cases hd
      refine ⟨_, rfl, ?_⟩
      walk_at "go"
      refine ⟨c, _, rfl, hc, ?_⟩
      walk_at "go"
      refine ⟨shifted c (i : Nat), d, ps, rfl, hc.shift _, hs.len, ?_⟩
      have hlen := fitsTo_len c d ps i
      refine ⟨_, rfl, fun g => ?_, fun g => ?_⟩
      · have hy := fitsTo_yes g
        refine db_one (ds_expr (de_append ?_))
        walk_at "go"
        refine ⟨l, _, rfl, lookup_here, ?_⟩
        walk_at "go"
        refine ⟨_, _, rfl, lookup_here, by rw [List.length_map]; omega, ?_⟩
        refine ⟨_, ?_, rfl⟩
        rw [setS_here, hy, List.map_append]
        rfl
      · have hy := fitsTo_no g
        walk_at "go"
        refine ⟨_, ?_, rfl⟩
        rw [hy]
    · rintro ρ' τ' ⟨v4, rfl, rfl⟩
      rw [rangeD_length]
      exact ⟨_, rfl, rfl⟩
  rintro ρ' τ' ⟨v4, rfl, rfl⟩
  refine db_freeze 3 rfl ?_
  walk_at "go"
  exact q
end

/-! ### what is seen of a ship in a later channel -/
theorem nodup_len : ∀ {ms ns : List Int}, ms.Pairwise (· < ·) → (∀ k ∈ ms, k ∈ ns) → ms.length ≤ ns.length
  | [], _, _, _ => Nat.zero_le _
  | x :: ms, ns, h, hs => by
    obtain ⟨h1, h2⟩ := List.pairwise_cons.mp h
    have hx := hs x List.mem_cons_self
    have := nodup_len (ns := ns.erase x) h2 fun k hk => (List.mem_erase_of_ne (fun z => by have := h1 k hk; omega)).mpr (hs k (List.mem_cons_of_mem _ hk))
    rw [List.length_erase_of_mem hx] at this
    have hp : 0 < ns.length := List.length_pos_of_mem hx
    rw [List.length_cons]
    omega
def movedL (c : Chan) (d s : Int) (hs : List Int) : List (Int × Bool) := hs.map fun h => (h, isOut c d (h - s))
theorem seen_of {ps : List (Int × Bool)} {hs : List Int} (e : ps.map (·.1) = hs) (ha : hs.Pairwise (· < ·)) (hl : hs.length ≤ 12) (hv : ∀ h ∈ hs, 0 ≤ h ∧ h ≤ 999) : SeenOk ps where
  len := by have := congrArg List.length e; rw [List.length_map] at this; omega
  low := fun p hp => hv _ (by rw [← e]; exact List.mem_map.mpr ⟨p, hp, rfl⟩)
  asc := by rw [e]; exact ha
theorem moved_fst (c : Chan) (d s : Int) (hs : List Int) : (movedL c d s hs).map (·.1) = hs := by
  unfold movedL
  rw [List.map_map]
  exact List.map_id _
theorem agrees_moved {c : Chan} (hc : ChOk c) (d s : Int) (hs : List Int) : agrees (shifted c s) d (movedL c d s hs) = true := by
  unfold agrees movedL
  rw [List.all_eq_true]
  intro p hp
  obtain ⟨h, _, rfl⟩ := List.mem_map.mp hp
  exact decide_eq_true (out_shift' hc s d h)
theorem mem_dues {c : Chan} {ps : List (Int × Bool)} {d : Int} : d ∈ duesL c ps ↔ 0 ≤ d ∧ d < 7 ∧ agrees c d ps = true := by
  unfold duesL
  rw [List.mem_map]
  constructor
  · rintro ⟨n, hn, rfl⟩
    obtain ⟨h1, h2⟩ := List.mem_filter.mp hn
    have := List.mem_range.mp h1
    exact ⟨by omega, by omega, h2⟩
  · rintro ⟨h0, h1, h2⟩
    refine ⟨d.toNat, List.mem_filter.mpr ⟨List.mem_range.mpr (by omega), ?_⟩, by omega⟩
    rw [show ((d.toNat : Nat) : Int) = d from by omega]
    exact h2
theorem mem_fits {c : Chan} {ps : List (Int × Bool)} {d s : Int} : s ∈ fitsL c d ps ↔ 0 ≤ s ∧ s < periodOf c ∧ agrees (shifted c s) d ps = true := by
  unfold fitsL fitsTo
  rw [List.mem_map]
  constructor
  · rintro ⟨n, hn, rfl⟩
    obtain ⟨h1, h2⟩ := List.mem_filter.mp hn
    have := List.mem_range.mp h1
    exact ⟨by omega, by omega, h2⟩
  · rintro ⟨h0, h1, h2⟩
    refine ⟨s.toNat, List.mem_filter.mpr ⟨List.mem_range.mpr (by omega), ?_⟩, by omega⟩
    rw [show ((s.toNat : Nat) : Int) = s from by omega]
    exact h2
theorem agrees_nil (c : Chan) (d : Int) : agrees c d [] = true := rfl
theorem dues_nil (c : Chan) : duesL c [] = [0, 1, 2, 3, 4, 5, 6] := rfl
theorem fits_nil (c : Chan) (d : Int) : fitsL c d [] = (List.range (periodOf c)).map fun h => ((h : Nat) : Int) := by
  unfold fitsL fitsTo
  rw [List.filter_eq_self.mpr fun h _ => agrees_nil _ _]
theorem seenOk_nil : SeenOk [] := ⟨by decide, fun p hp => (by cases hp), List.Pairwise.nil⟩
theorem agrees_filter {c : Chan} {d : Int} {ps : List (Int × Bool)} : (ps.filter fun p => !decide (isOut c d p.1 = p.2)).isEmpty = agrees c d ps := by
  unfold agrees
  apply Bool.eq_iff_iff.mpr
  rw [List.isEmpty_iff, List.filter_eq_nil_iff, List.all_eq_true]
  exact ⟨fun h p hp => by have := h p hp; simpa using this, fun h p hp => by have := h p hp; simpa using this⟩
def duesTo (c : Chan) (ps : List (Int × Bool)) (n : Nat) : List Int := ((List.range n).filter fun d => agrees c (d : Nat) ps).map fun d => ((d : Nat) : Int)
theorem duesTo_yes {c : Chan} {ps : List (Int × Bool)} {i : Nat} (h : agrees c (i : Nat) ps = true) : duesTo c ps (i + 1) = duesTo c ps i ++ [((i : Nat) : Int)] := by
  unfold duesTo
  rw [List.range_succ, List.filter_append, List.filter_cons_of_pos (p := fun h : Nat => agrees c (h : Nat) ps) h, List.filter_nil, List.map_append]
  rfl
theorem duesTo_no {c : Chan} {ps : List (Int × Bool)} {i : Nat} (h : agrees c (i : Nat) ps = false) : duesTo c ps (i + 1) = duesTo c ps i := by
  unfold duesTo
  rw [List.range_succ, List.filter_append, List.filter_cons_of_neg (p := fun h : Nat => agrees c (h : Nat) ps) (by rw [h]; exact Bool.false_ne_true), List.filter_nil, List.append_nil]
theorem duesTo_len (c : Chan) (ps : List (Int × Bool)) (n : Nat) : (duesTo c ps n).length ≤ n := by
  have := List.length_filter_le (fun h => agrees c (h : Nat) ps) (List.range n)
  unfold duesTo
  rw [List.length_map]
  rwa [List.length_range] at this

section
variable {P : Program} {w : World} {K : PySem.W.Frag} {mg : Str → Option Value} {base : Heap}
abbrev k60E (ns : List Int) (tw : Addr) (c : Chan) (d s : Int) (hs : List Int) (v8 v9 v10 v11 v12 v13 v14 v15 v17 v18 : Option MV) : En := [some (.scr ns), some (.hdl tw), some (.val (chD c)), some (.val (.int (periodOf c : Nat))), some (.val (.int d)), some (.val (.int s)), some (.val (.list (hs.map .int))), none, v8, v9, v10, v11, v12, v13, v14, v15, none, v17, v18]
abbrev s_law : Stmt := topS 36
theorem sc_law : FnScope ["_law_script", "_law_town_here", "_law_channel_here", "_law_whole", "_law_draught", "_law_shift", "_law_hours", "_law_k", "_law_true_ones", "_law_seen", "_law_moved_on", "_law_hour", "_law_odd", "_law_due", "_law_one", "_law_some", "_law_pair", "_law_fits", "_law_number"] ["_law_script"] (defScope s_law) := ⟨rfl, rfl, rfl, by decide +kernel, rfl, by decide +kernel, by decide +kernel⟩
local macro_rules | `(tactic| walk_at "nm") => `(tactic| first
  | with_reducible refine de_name (x := "_law_script") 0 (by with_unfolding_all rfl) (by with_unfolding_all first | exact Or.inl rfl | exact Or.inr (Or.inl rfl) | exact Or.inr (Or.inr rfl)) (by with_unfolding_all rfl) ?_ (by with_unfolding_all decide) (by with_unfolding_all decide)
  | with_reducible refine de_name (x := "_law_town_here") 1 (by with_unfolding_all rfl) (by with_unfolding_all first | exact Or.inl rfl | exact Or.inr (Or.inl rfl) | exact Or.inr (Or.inr rfl)) (by with_unfolding_all rfl) ?_ (by with_unfolding_all decide) (by with_unfolding_all decide)
  | with_reducible refine de_name (x := "_law_channel_here") 2 (by with_unfolding_all rfl) (by with_unfolding_all first | exact Or.inl rfl | exact Or.inr (Or.inl rfl) | exact Or.inr (Or.inr rfl)) (by with_unfolding_all rfl) ?_ (by with_unfolding_all decide) (by with_unfolding_all decide)
  | with_reducible refine de_name (x := "_law_whole") 3 (by with_unfolding_all rfl) (by with_unfolding_all first | exact Or.inl rfl | exact Or.inr (Or.inl rfl) | exact Or.inr (Or.inr rfl)) (by with_unfolding_all rfl) ?_ (by with_unfolding_all decide) (by with_unfolding_all decide)
  | with_reducible refine de_name (x := "_law_draught") 4 (by with_unfolding_all rfl) (by with_unfolding_all first | exact Or.inl rfl | exact Or.inr (Or.inl rfl) | exact Or.inr (Or.inr rfl)) (by with_unfolding_all rfl) ?_ (by with_unfolding_all decide) (by with_unfolding_all decide)
  | with_reducible refine de_name (x := "_law_shift") 5 (by with_unfolding_all rfl) (by with_unfolding_all first | exact Or.inl rfl | exact Or.inr (Or.inl rfl) | exact Or.inr (Or.inr rfl)) (by with_unfolding_all rfl) ?_ (by with_unfolding_all decide) (by with_unfolding_all decide)
  | with_reducible refine de_name (x := "_law_hours") 6 (by with_unfolding_all rfl) (by with_unfolding_all first | exact Or.inl rfl | exact Or.inr (Or.inl rfl) | exact Or.inr (Or.inr rfl)) (by with_unfolding_all rfl) ?_ (by with_unfolding_all decide) (by with_unfolding_all decide)
  | with_reducible refine de_name (x := "_law_k") 7 (by with_unfolding_all rfl) (by with_unfolding_all first | exact Or.inl rfl | exact Or.inr (Or.inl rfl) | exact Or.inr (Or.inr rfl)) (by with_unfolding_all rfl) ?_ (by with_unfolding_all decide) (by with_unfolding_all decide)
  | with_reducible refine de_name (x := "_law_true_ones") 8 (by with_unfolding_all rfl) (by with_unfolding_all first | exact Or.inl rfl | exact Or.inr (Or.inl rfl) | exact Or.inr (Or.inr rfl)) (by with_unfolding_all rfl) ?_ (by with_unfolding_all decide) (by with_unfolding_all decide)
  | with_reducible refine de_name (x := "_law_seen") 9 (by with_unfolding_all rfl) (by with_unfolding_all first | exact Or.inl rfl | exact Or.inr (Or.inl rfl) | exact Or.inr (Or.inr rfl)) (by with_unfolding_all rfl) ?_ (by with_unfolding_all decide) (by with_unfolding_all decide)
  | with_reducible refine de_name (x := "_law_moved_on") 10 (by with_unfolding_all rfl) (by with_unfolding_all first | exact Or.inl rfl | exact Or.inr (Or.inl rfl) | exact Or.inr (Or.inr rfl)) (by with_unfolding_all rfl) ?_ (by with_unfolding_all decide) (by with_unfolding_all decide)
  | with_reducible refine de_name (x := "_law_hour") 11 (by with_unfolding_all rfl) (by with_unfolding_all first | exact Or.inl rfl | exact Or.inr (Or.inl rfl) | exact Or.inr (Or.inr rfl)) (by with_unfolding_all rfl) ?_ (by with_unfolding_all decide) (by with_unfolding_all decide)
  | with_reducible refine de_name (x := "_law_odd") 12 (by with_unfolding_all rfl) (by with_unfolding_all first | exact Or.inl rfl | exact Or.inr (Or.inl rfl) | exact Or.inr (Or.inr rfl)) (by with_unfolding_all rfl) ?_ (by with_unfolding_all decide) (by with_unfolding_all decide)
  | with_reducible refine de_name (x := "_law_due") 13 (by with_unfolding_all rfl) (by with_unfolding_all first | exact Or.inl rfl | exact Or.inr (Or.inl rfl) | exact Or.inr (Or.inr rfl)) (by with_unfolding_all rfl) ?_ (by with_unfolding_all decide) (by with_unfolding_all decide)
  | with_reducible refine de_name (x := "_law_one") 14 (by with_unfolding_all rfl) (by with_unfolding_all first | exact Or.inl rfl | exact Or.inr (Or.inl rfl) | exact Or.inr (Or.inr rfl)) (by with_unfolding_all rfl) ?_ (by with_unfolding_all decide) (by with_unfolding_all decide)
  | with_reducible refine de_name (x := "_law_some") 15 (by with_unfolding_all rfl) (by with_unfolding_all first | exact Or.inl rfl | exact Or.inr (Or.inl rfl) | exact Or.inr (Or.inr rfl)) (by with_unfolding_all rfl) ?_ (by with_unfolding_all decide) (by with_unfolding_all decide)
  | with_reducible refine de_name (x := "_law_pair") 16 (by with_unfolding_all rfl) (by with_unfolding_all first | exact Or.inl rfl | exact Or.inr (Or.inl rfl) | exact Or.inr (Or.inr rfl)) (by with_unfolding_all rfl) ?_ (by with_unfolding_all decide) (by with_unfolding_all decide)
  | with_reducible refine de_name (x := "_law_fits") 17 (by with_unfolding_all rfl) (by with_unfolding_all first | exact Or.inl rfl | exact Or.inr (Or.inl rfl) | exact Or.inr (Or.inr rfl)) (by with_unfolding_all rfl) ?_ (by with_unfolding_all decide) (by with_unfolding_all decide)
  | with_reducible refine de_name (x := "_law_number") 18 (by with_unfolding_all rfl) (by with_unfolding_all first | exact Or.inl rfl | exact Or.inr (Or.inl rfl) | exact Or.inr (Or.inr rfl)) (by with_unfolding_all rfl) ?_ (by with_unfolding_all decide) (by with_unfolding_all decide))
local macro_rules | `(tactic| walk_at "st") => `(tactic| first
  | with_reducible refine ds_set (x := "_law_script") 0 (by with_unfolding_all exact sc_law.nd) (by with_unfolding_all rfl) (by with_unfolding_all first | exact Or.inl rfl | exact Or.inr rfl) ?_ (by with_unfolding_all rfl) (by with_unfolding_all first | exact .inl rfl | exact .inr rfl)
  | with_reducible refine ds_set (x := "_law_town_here") 1 (by with_unfolding_all exact sc_law.nd) (by with_unfolding_all rfl) (by with_unfolding_all first | exact Or.inl rfl | exact Or.inr rfl) ?_ (by with_unfolding_all rfl) (by with_unfolding_all first | exact .inl rfl | exact .inr rfl)
  | with_reducible refine ds_set (x := "_law_channel_here") 2 (by with_unfolding_all exact sc_law.nd) (by with_unfolding_all rfl) (by with_unfolding_all first | exact Or.inl rfl | exact Or.inr rfl) ?_ (by with_unfolding_all rfl) (by with_unfolding_all first | exact .inl rfl | exact .inr rfl)
  | with_reducible refine ds_set (x := "_law_whole") 3 (by with_unfolding_all exact sc_law.nd) (by with_unfolding_all rfl) (by with_unfolding_all first | exact Or.inl rfl | exact Or.inr rfl) ?_ (by with_unfolding_all rfl) (by with_unfolding_all first | exact .inl rfl | exact .inr rfl)
  | with_reducible refine ds_set (x := "_law_draught") 4 (by with_unfolding_all exact sc_law.nd) (by with_unfolding_all rfl) (by with_unfolding_all first | exact Or.inl rfl | exact Or.inr rfl) ?_ (by with_unfolding_all rfl) (by with_unfolding_all first | exact .inl rfl | exact .inr rfl)
  | with_reducible refine ds_set (x := "_law_shift") 5 (by with_unfolding_all exact sc_law.nd) (by with_unfolding_all rfl) (by with_unfolding_all first | exact Or.inl rfl | exact Or.inr rfl) ?_ (by with_unfolding_all rfl) (by with_unfolding_all first | exact .inl rfl | exact .inr rfl)
  | with_reducible refine ds_set (x := "_law_hours") 6 (by with_unfolding_all exact sc_law.nd) (by with_unfolding_all rfl) (by with_unfolding_all first | exact Or.inl rfl | exact Or.inr rfl) ?_ (by with_unfolding_all rfl) (by with_unfolding_all first | exact .inl rfl | exact .inr rfl)
  | with_reducible refine ds_set (x := "_law_k") 7 (by with_unfolding_all exact sc_law.nd) (by with_unfolding_all rfl) (by with_unfolding_all first | exact Or.inl rfl | exact Or.inr rfl) ?_ (by with_unfolding_all rfl) (by with_unfolding_all first | exact .inl rfl | exact .inr rfl)
  | with_reducible refine ds_set (x := "_law_true_ones") 8 (by with_unfolding_all exact sc_law.nd) (by with_unfolding_all rfl) (by with_unfolding_all first | exact Or.inl rfl | exact Or.inr rfl) ?_ (by with_unfolding_all rfl) (by with_unfolding_all first | exact .inl rfl | exact .inr rfl)
  | with_reducible refine ds_set (x := "_law_seen") 9 (by with_unfolding_all exact sc_law.nd) (by with_unfolding_all rfl) (by with_unfolding_all first | exact Or.inl rfl | exact Or.inr rfl) ?_ (by with_unfolding_all rfl) (by with_unfolding_all first | exact .inl rfl | exact .inr rfl)
  | with_reducible refine ds_set (x := "_law_moved_on") 10 (by with_unfolding_all exact sc_law.nd) (by with_unfolding_all rfl) (by with_unfolding_all first | exact Or.inl rfl | exact Or.inr rfl) ?_ (by with_unfolding_all rfl) (by with_unfolding_all first | exact .inl rfl | exact .inr rfl)
  | with_reducible refine ds_set (x := "_law_hour") 11 (by with_unfolding_all exact sc_law.nd) (by with_unfolding_all rfl) (by with_unfolding_all first | exact Or.inl rfl | exact Or.inr rfl) ?_ (by with_unfolding_all rfl) (by with_unfolding_all first | exact .inl rfl | exact .inr rfl)
  | with_reducible refine ds_set (x := "_law_odd") 12 (by with_unfolding_all exact sc_law.nd) (by with_unfolding_all rfl) (by with_unfolding_all first | exact Or.inl rfl | exact Or.inr rfl) ?_ (by with_unfolding_all rfl) (by with_unfolding_all first | exact .inl rfl | exact .inr rfl)
  | with_reducible refine ds_set (x := "_law_due") 13 (by with_unfolding_all exact sc_law.nd) (by with_unfolding_all rfl) (by with_unfolding_all first | exact Or.inl rfl | exact Or.inr rfl) ?_ (by with_unfolding_all rfl) (by with_unfolding_all first | exact .inl rfl | exact .inr rfl)
  | with_reducible refine ds_set (x := "_law_one") 14 (by with_unfolding_all exact sc_law.nd) (by with_unfolding_all rfl) (by with_unfolding_all first | exact Or.inl rfl | exact Or.inr rfl) ?_ (by with_unfolding_all rfl) (by with_unfolding_all first | exact .inl rfl | exact .inr rfl)
  | with_reducible refine ds_set (x := "_law_some") 15 (by with_unfolding_all exact sc_law.nd) (by with_unfolding_all rfl) (by with_unfolding_all first | exact Or.inl rfl | exact Or.inr rfl) ?_ (by with_unfolding_all rfl) (by with_unfolding_all first | exact .inl rfl | exact .inr rfl)
  | with_reducible refine ds_set (x := "_law_pair") 16 (by with_unfolding_all exact sc_law.nd) (by with_unfolding_all rfl) (by with_unfolding_all first | exact Or.inl rfl | exact Or.inr rfl) ?_ (by with_unfolding_all rfl) (by with_unfolding_all first | exact .inl rfl | exact .inr rfl)
  | with_reducible refine ds_set (x := "_law_fits") 17 (by with_unfolding_all exact sc_law.nd) (by with_unfolding_all rfl) (by with_unfolding_all first | exact Or.inl rfl | exact Or.inr rfl) ?_ (by with_unfolding_all rfl) (by with_unfolding_all first | exact .inl rfl | exact .inr rfl)
  | with_reducible refine ds_set (x := "_law_number") 18 (by with_unfolding_all exact sc_law.nd) (by with_unfolding_all rfl) (by with_unfolding_all first | exact Or.inl rfl | exact Or.inr rfl) ?_ (by with_unfolding_all rfl) (by with_unfolding_all first | exact .inl rfl | exact .inr rfl))

local macro_rules | `(tactic| walk_at "lc _law_k") => `(tactic| refine de_lc (t := .name 7) (own := [("_law_k", 7)]) rfl sc_law.nd (by first | exact blkOk_by (N := ["_law_script", "_law_town_here", "_law_channel_here", "_law_whole", "_law_draught", "_law_shift", "_law_hours", "_law_k", "_law_true_ones", "_law_seen", "_law_moved_on", "_law_hour", "_law_odd", "_law_due", "_law_one", "_law_some", "_law_pair", "_law_fits", "_law_number"]) (sc := defScope s_law) (by decide +kernel) | exact blkOk_by (N := ["_law_script", "_law_town_here", "_law_channel_here", "_law_whole", "_law_draught", "_law_shift", "_law_hours", "_law_k", "_law_true_ones", "_law_seen", "_law_moved_on", "_law_hour", "_law_odd", "_law_due", "_law_one", "_law_some", "_law_pair", "_law_fits", "_law_number"]) (sc := relS _ (defScope s_law)) (by decide +kernel)) (by decide) (fun _ _ _ _ _ => pgx_name sc_law.nd rfl (by first | exact Or.inl rfl | exact Or.inr rfl)) ?_)
local macro_rules | `(tactic| walk_at "lc _law_pair") => `(tactic| refine de_lc (t := .name 16) (own := [("_law_pair", 16)]) rfl sc_law.nd (by first | exact blkOk_by (N := ["_law_script", "_law_town_here", "_law_channel_here", "_law_whole", "_law_draught", "_law_shift", "_law_hours", "_law_k", "_law_true_ones", "_law_seen", "_law_moved_on", "_law_hour", "_law_odd", "_law_due", "_law_one", "_law_some", "_law_pair", "_law_fits", "_law_number"]) (sc := defScope s_law) (by decide +kernel) | exact blkOk_by (N := ["_law_script", "_law_town_here", "_law_channel_here", "_law_whole", "_law_draught", "_law_shift", "_law_hours", "_law_k", "_law_true_ones", "_law_seen", "_law_moved_on", "_law_hour", "_law_odd", "_law_due", "_law_one", "_law_some", "_law_pair", "_law_fits", "_law_number"]) (sc := relS _ (defScope s_law)) (by decide +kernel)) (by decide) (fun _ _ _ _ _ => pgx_name sc_law.nd rfl (by first | exact Or.inl rfl | exact Or.inr rfl)) ?_)

theorem ok_law (B : Bl mg) (a1 : Knows P w K mg base 1 "_law_town" cTown) (a2 : Knows P w K mg base 1 "_law_draw" cDraw) (a4 : Knows P w K mg base 3 "_law_channel" cChanL) (a5 : Knows P w K mg base 1 "_law_period" cPer) (a7 : Knows P w K mg base 2 "_law_out" cHoursF) (b1 : Knows P w K mg base 5 "later" cLater) (b2 : Knows P w K mg base 5 "draughts_for" cDues) (b3 : Knows P w K mg base 5 "hours_for" cFits) : KnowsF P w K mg base 6 "law" s_law ["_law_script"] cLaw := by
  refine knowsF_mk sc_law (fun _ _ _ ⟨_, e, _⟩ => by rw [e]; rfl) (fun fa cdv A outer sh H E hr svs τ Q hC => ?_)
  obtain ⟨ns, rfl, hns, rfl, q⟩ := hC
  walk_at "go"
  refine ⟨ns, rfl, by omega, fun tw _ => ?_⟩
  have ht : TnS tw ns.length 0 [(tw, .lst ((0 :: ns).map .int))] := ⟨_, by simp, 0, ns, rfl, rfl, by omega, by omega⟩
  generalize [(tw, MO.lst ((0 :: ns).map .int))] = τ at ht ⊢
  walk_at "go"
  refine ⟨ns, tw, 3, 5, 0, rfl, by omega, by decide, by decide, by decide, by decide, by decide, ht, fun c τ1 hc _ hb5 e1 => ?_⟩
  have ht1 := e1.tn ht.dom
  clear e1 ht τ
  have hp := period_pos hc
  have hp2 := period_le hc
  have hb1 := hc.b1
  have hb3 := hc.b3
  walk_at "db"
  refine ds_asg (t := .tup [3, 4]) (pgx_tup2 rfl (pg_name sc_law.nd rfl (by first | exact Or.inl rfl | exact Or.inr rfl)) (pg_name sc_law.nd rfl (by first | exact Or.inl rfl | exact Or.inr rfl))) ?_
  walk_at "go"
  refine ⟨c, rfl, hc, ?_⟩
  walk_at "go"
  refine ⟨ns, tw, _, _, rfl, by omega, by omega, by omega, by omega, ht1, fun d τ2 d0 d1 e2 => ?_⟩
  have ht2 := e2.tn ht1.dom
  clear e2 ht1
  walk_at "go"
  refine ⟨ns, tw, _, _, rfl, by omega, by omega, by omega, by omega, ht2, fun s τ3 s0 s1 e3 => ?_⟩
  have ht3 := e3.tn ht2.dom
  clear e3 ht2
  walk_at "gb"
  refine db_seq (fun ρ' τ' => ∃ hs : List Int, hs.Pairwise (· < ·) ∧ hs.length ≤ 6 ∧ (∀ h ∈ hs, 0 ≤ h ∧ h ≤ 999) ∧ TnS tw ns.length 2000 τ' ∧ ρ' = k60E ns tw c d s hs none none none none none none none none none none) ?_ ?_
  · walk_at "st"
    refine de_sortedSetL ‹Bl _› rfl rfl rfl ?_
    walk_at "lc _law_k"
    refine di_range1 ‹Bl _› rfl ?_
    walk_at "go"
    refine ⟨ns, tw, _, _, rfl, by omega, by omega, by omega, by omega, ht3, fun n τ4 n0 n1 e4 => ?_⟩
    have ht4 := e4.tn ht3.dom
    refine ⟨_, rfl, by omega, by omega, lcq_inv (fun i acc τ1 => Twn tw ns.length (1000 + i) τ4 τ1 ∧ ∃ b : List Int, acc = b.map .int ∧ b.length = i ∧ ∀ x ∈ b, 0 ≤ x ∧ x ≤ 999) ⟨(Twn.refl ht4).mono (by omega), [], rfl, rfl, by simp⟩ (by rw [rangeD_length]; omega) ?_ ?_ ?_⟩
    · rintro i acc τ1 ⟨_, b, rfl, hb, _⟩
      rw [List.length_map, hb]
      exact Nat.le_refl _
    · rintro i dd acc τ1 hd hil ⟨e', b, rfl, hb, hv⟩ D hD
      rw [rangeD_length] at hil
      refine ⟨_, rfl, fun s H C cl fp => ?_⟩
      walk_at "go"
      have hdm : tw ∈ dom τ1 := by rw [e'.dom]; exact ht4.dom
      refine ⟨_, _, _, 1000 + i, rfl, by omega, by omega, by omega, by omega, (e'.tn ht4.dom).push hD, fun k τ4 k0 k1 e3 => ?_⟩
      obtain ⟨τ5, rfl, e4⟩ := e3.pop hdm hD
      exact ⟨_, _, rfl, rfl, (e'.trans e4).mono (by omega), b ++ [k], map_append_one, by rw [List.length_append, hb]; rfl, all_append_one hv (by omega)⟩
    rintro acc τ5 ⟨e5, g, rfl, hgl, hgv⟩
    rw [rangeD_length] at hgl e5
    refine ⟨g, rfl, by omega, fun ms hms hmem => ?_⟩
    have hml := nodup_len hms fun k hk => (hmem k).mp hk
    exact ⟨ms, hms, by omega, fun h hh => hgv _ ((hmem h).mp hh), (e5.mono (by omega)).tn ht4.dom, rfl⟩
  rintro ρ' τ5 ⟨hs, hsa, hsl, hsv, ht5, rfl⟩
  clear ht3
  have hlH := hours_len hc d
  refine db_seq (fun ρ' τ' => τ' = τ5 ∧ ρ' = k60E ns tw c d s hs (some (.val (.list ((hoursOf c d).map .int)))) none none none none none none none none none) ?_ ?_
  · unfold k60E
    walk_at "go"
    exact ⟨c, _, rfl, hc, rfl, rfl⟩
  rintro ρ' τ' ⟨rfl, rfl⟩
  refine db_seq (fun ρ' τ2 => ∃ l1 l2 : Addr, l1 ∉ dom τ' ∧ l2 ∉ dom ((l1, MO.lst []) :: τ') ∧ τ2 = (l2, .lst []) :: (l1, .lst []) :: τ' ∧ ρ' = k60E ns tw c d s hs (some (.val (.list ((hoursOf c d).map .int)))) (some (.hdl l1)) (some (.hdl l2)) none none none none none none none) ?_ ?_
  · unfold k60E
    refine ds_par 9 10 rfl sc_law.nd rfl rfl (by decide) rfl rfl ?_ (by first | rfl | kernel_rfl)
    refine de_lstM ?_
    walk_at "go"
    intro l1 h1
    refine de_lstM ?_
    walk_at "go"
    intro l2 h2
    exact ⟨l1, l2, h1, h2, rfl, rfl⟩
  rintro ρ' τ2 ⟨l1, l2, h1, h2, rfl, rfl⟩
  have hwm : ∀ x : Int, decide (x % (periodOf c : Nat) ∈ hoursOf c d) = isOut c d x := fun x => by
    apply Bool.eq_iff_iff.mpr
    rw [decide_eq_true_iff]
    exact mod_mem_hours hc x
  refine db_seq (fun ρ' τ2 => ∃ (τ1 : Store) (A : List (Int × Bool)) (v11 v12 : Option MV), dom τ1 = dom τ' ∧ A.map (·.1) = hs ∧ τ2 = (l2, .lst ((movedL c d s hs).map pairSD)) :: (l1, .lst (A.map pairSD)) :: τ1 ∧ ρ' = k60E ns tw c d s hs (some (.val (.list ((hoursOf c d).map .int)))) (some (.hdl l1)) (some (.hdl l2)) v11 v12 none none none none none) ?_ ?_
  · unfold k60E
    refine ds_for (t := .name 11) rfl PassesOwn.never (pgx_name sc_law.nd rfl (by first | exact Or.inl rfl | exact Or.inr rfl)) (di_lst ?_)
    walk_at "go"
    refine ⟨fun i ρ' τ2 => ∃ (τ1 : Store) (A : List (Int × Bool)) (v11 v12 : Option MV), TnS tw ns.length (2000 + (i : Nat)) τ1 ∧ dom τ1 = dom τ' ∧ A.map (·.1) = hs.take i ∧ τ2 = (l2, .lst ((movedL c d s (hs.take i)).map pairSD)) :: (l1, .lst (A.map pairSD)) :: τ1 ∧ ρ' = k60E ns tw c d s hs (some (.val (.list ((hoursOf c d).map .int)))) (some (.hdl l1)) (some (.hdl l2)) v11 v12 none none none none none, ⟨τ', [], none, none, (by simpa using ht5), rfl, rfl, rfl, rfl⟩, fun _ _ _ _ => trivial, ?_, ?_⟩
    · rintro i dd ρ' τ2 hd ⟨τ1, A, v11, v12, ht1, hdm, hA, rfl, rfl⟩
      obtain ⟨h, hh, rfl⟩ := map_get hd
      have hi := (List.getElem?_eq_some_iff.mp hh).1
      have hAl : A.length = i := by
        have := congrArg List.length hA
        rw [List.length_map, List.length_take] at this
        omega
      have hMl : (movedL c d s (hs.take i)).length = i := by
        unfold movedL
        rw [List.length_map, List.length_take]
        omega
      refine ⟨_, rfl, ?_⟩
      have n1 : l1 ∉ dom τ1 := by rw [hdm]; exact h1
      have n2 : l2 ∉ dom ((l1, MO.lst (A.map pairSD)) :: τ1) := by
        show l2 ∉ l1 :: dom τ1
        rw [hdm]
        exact h2
      refine db_seq (fun ρ' τ3 => ∃ (τ2 : Store) (o : Bool), TnS tw ns.length (2000 + ((i + 1 : Nat) : Int)) τ2 ∧ dom τ2 = dom τ' ∧ τ3 = (l2, .lst ((movedL c d s (hs.take i)).map pairSD)) :: (l1, .lst (A.map pairSD)) :: τ2 ∧ ρ' = k60E ns tw c d s hs (some (.val (.list ((hoursOf c d).map .int)))) (some (.hdl l1)) (some (.hdl l2)) (some (.val (.int h))) (some (.val (.bool o))) none none none none none) ?_ ?_
      · unfold k60E
        walk_at "go"
        refine ⟨ns, tw, _, _, rfl, by omega, by omega, by omega, by omega, (ht1.push n1).push n2, fun k τ4 k0 k1 e4 => ?_⟩
        obtain ⟨τ5, rfl, e5⟩ := e4.pop (List.mem_cons_of_mem _ ht1.dom) n2
        obtain ⟨τ6, rfl, e6⟩ := e5.pop ht1.dom n1
        walk_at "go"
        exact ⟨τ6, _, (e6.mono (by omega)).tn ht1.dom, by rw [e6.dom, hdm], rfl, rfl⟩
      rintro ρ' τ3 ⟨τ2, o, ht2, hd2, rfl, rfl⟩
      clear n1 n2 ht1 hdm
      have n1 : l1 ∉ dom τ2 := by rw [hd2]; exact h1
      have n2 : ∀ B, l2 ∉ dom ((l1, MO.lst B) :: τ2) := fun B => by
        show l2 ∉ l1 :: dom τ2
        rw [hd2]
        exact h2
      refine db_seq (fun ρ' τ3 => ∃ x : Bool, τ3 = (l2, .lst ((movedL c d s (hs.take i)).map pairSD)) :: (l1, .lst ((A ++ [(h, x)]).map pairSD)) :: τ2 ∧ ρ' = k60E ns tw c d s hs (some (.val (.list ((hoursOf c d).map .int)))) (some (.hdl l1)) (some (.hdl l2)) (some (.val (.int h))) (some (.val (.bool o))) none none none none none) ?_ ?_
      · unfold k60E
        refine ds_expr (de_append ?_)
        walk_at "go"
        refine ⟨l1, _, rfl, lookup_push lookup_here (n2 _), ?_⟩
        walk_at "go"
        refine in_intL rfl ?_
        walk_at "go"
        refine eq_bool ?_
        walk_at "go"
        refine ⟨_, _, rfl, lookup_push lookup_here (n2 _), by rw [List.length_map]; omega, bneg true (decide (decide (h % (periodOf c : Nat) ∈ hoursOf c d) = o)), ?_, rfl⟩
        rw [setS_push List.mem_cons_self (n2 _), setS_here, List.map_append]
        rfl
      rintro ρ' τ3 ⟨x, rfl, rfl⟩
      unfold k60E
      refine db_one (ds_expr (de_append ?_))
      walk_at "go"
      refine ⟨l2, _, rfl, lookup_here, ?_⟩
      walk_at "go"
      refine in_intL rfl ?_
      walk_at "go"
      refine ⟨_, _, rfl, lookup_here, by rw [List.length_map]; omega, ?_⟩
      refine ⟨τ2, A ++ [(h, x)], _, _, ht2, hd2, ?_, ?_, rfl⟩
      · rw [List.map_append, hA, List.take_add_one, hh]
        rfl
      · have em : movedL c d s (hs.take (i + 1)) = movedL c d s (hs.take i) ++ [(h, isOut c d (h - s))] := by
          unfold movedL
          rw [List.take_add_one, hh, List.map_append]
          rfl
        rw [setS_here, em, ← hwm]
        simp only [List.map_append]
        rfl
    · rintro ρ' τ2 ⟨τ1, A, v11, v12, ht1, hdm, hA, rfl, rfl⟩
      rw [List.length_map, List.take_length] at hA
      rw [List.length_map, List.take_length]
      exact ⟨τ1, A, _, _, hdm, hA, rfl, rfl⟩
  rintro ρ' τ2 ⟨τ1, A, v11, v12, hdm, hA, rfl, rfl⟩
  unfold k60E
  refine db_freeze 10 rfl ?_
  refine db_freeze 9 rfl ?_
  have hS : SeenOk A := seen_of hA hsa (by omega) hsv
  have hM : SeenOk (movedL c d s hs) := seen_of (moved_fst c d s hs) hsa (by omega) hsv
  have hcs := hc.shift s
  have hAl := hS.len
  have hpl : ∀ (B : List (Int × Bool)), ∀ x ∈ B.map pairSD, Pb 1 x := fun B x hx => by
    obtain ⟨p, _, rfl⟩ := List.mem_map.mp hx
    intro y hy
    simp only [List.mem_cons, List.not_mem_nil, or_false] at hy
    rcases hy with rfl | rfl <;> trivial
  show Db _ (k60E ns tw c d s hs (some (.val (.list ((hoursOf c d).map .int)))) (some (.val (.list (A.map pairSD)))) (some (.val (.list ((movedL c d s hs).map pairSD)))) v11 v12 none none none none none) _ _ _
  refine db_seq (fun ρ' τ2 => ∃ l, l ∉ dom τ1 ∧ τ2 = (l, .lst ((duesTo c A 0).map .int)) :: τ1 ∧ ρ' = k60E ns tw c d s hs (some (.val (.list ((hoursOf c d).map .int)))) (some (.val (.list (A.map pairSD)))) (some (.val (.list ((movedL c d s hs).map pairSD)))) v11 v12 (some (.hdl l)) none none none none) ?_ ?_
  · unfold k60E
    walk_at "st"
    refine de_lstM ?_
    walk_at "go"
    intro l hl
    exact ⟨l, hl, rfl, rfl⟩
  rintro ρ' τ2 ⟨l, hl, rfl, rfl⟩
  refine db_seq (fun ρ' τ2 => ∃ v14 v15, τ2 = (l, .lst ((duesL c A).map .int)) :: τ1 ∧ ρ' = k60E ns tw c d s hs (some (.val (.list ((hoursOf c d).map .int)))) (some (.val (.list (A.map pairSD)))) (some (.val (.list ((movedL c d s hs).map pairSD)))) v11 v12 (some (.hdl l)) v14 v15 none none) ?_ ?_
  · unfold k60E
    refine ds_for (t := .name 14) rfl PassesOwn.never (pgx_name sc_law.nd rfl (by first | exact Or.inl rfl | exact Or.inr rfl)) (di_range1 ‹Bl _› rfl ?_)
    walk_at "go"
    refine ⟨by decide, by decide, fun i ρ' τ2 => ∃ v14 v15, τ2 = (l, .lst ((duesTo c A i).map .int)) :: τ1 ∧ ρ' = k60E ns tw c d s hs (some (.val (.list ((hoursOf c d).map .int)))) (some (.val (.list (A.map pairSD)))) (some (.val (.list ((movedL c d s hs).map pairSD)))) v11 v12 (some (.hdl l)) v14 v15 none none, ⟨none, none, rfl, rfl⟩, fun _ _ _ _ => trivial, ?_, ?_⟩
    · rintro i dd ρ' τ2 hd ⟨v14, v15, rfl, rfl⟩
      have hi : i < 7 := by
        have := (List.getElem?_eq_some_iff.mp hd).1
        rw [rangeD_length] at this
        exact this
      change (rangeD 0 7)[i]? = _ at hd
      rw [rangeD_get hi, Int.zero_add] at hd
      cases hd
      refine ⟨_, rfl, ?_⟩
      have hdl := duesTo_len c A i
      have hl2 := hours_len hc (i : Nat)
      unfold k60E
      walk_at "go"
      refine ⟨c, _, rfl, hc, ?_⟩
      walk_at "go"
      walk_at "lc _law_pair"
      refine di_lst ?_
      walk_at "go"
      refine lcq_filter A pairSD pairSD (fun p => !decide (isOut c (i : Nat) p.1 = p.2)) rfl (by omega) (fun p hp => ⟨_, rfl, fun D acc hD s H C cl fp => ⟨?_, fun _ => ?_⟩⟩) ?_
      · unfold pairSD
        walk_at "go"
        refine in_intL rfl ?_
        walk_at "go"
        refine eq_bool ?_
        refine ⟨_, rfl, ?_, rfl⟩
        rw [show decide (p.1 % (periodOf c : Nat) ∈ hoursOf c (i : Nat)) = isOut c (i : Nat) p.1 from Bool.eq_iff_iff.mpr (by rw [decide_eq_true_iff]; exact mod_mem_hours hc p.1)]
        rfl
      · walk_at "go"
        exact ⟨rfl, rfl⟩
      walk_at "go"
      refine eq_nilL (n := 2) rfl rfl (hpl _) ?_
      rw [List.isEmpty_map, agrees_filter]
      refine ⟨_, rfl, fun g => ?_, fun g => ?_⟩
      · have g : agrees c (i : Nat) A = true := by simpa [bneg] using g
        have hy := duesTo_yes g
        refine db_one (ds_expr (de_append ?_))
        walk_at "go"
        refine ⟨l, _, rfl, lookup_here, ?_⟩
        walk_at "go"
        refine ⟨_, _, rfl, lookup_here, by rw [List.length_map]; omega, ?_⟩
        refine ⟨_, _, ?_, rfl⟩
        rw [setS_here, hy, List.map_append]
        rfl
      · have g : agrees c (i : Nat) A = false := by simpa [bneg] using g
        have hy := duesTo_no g
        walk_at "go"
        refine ⟨_, _, ?_, rfl⟩
        rw [hy]
    · rintro ρ' τ2 ⟨v14, v15, rfl, rfl⟩
      exact ⟨_, _, rfl, rfl⟩
  rintro ρ' τ2 ⟨v14, v15, rfl, rfl⟩
  unfold k60E
  refine db_freeze 13 rfl ?_
  show Db _ (k60E ns tw c d s hs (some (.val (.list ((hoursOf c d).map .int)))) (some (.val (.list (A.map pairSD)))) (some (.val (.list ((movedL c d s hs).map pairSD)))) v11 v12 (some (.val (.list ((duesL c A).map .int)))) v14 v15 none none) _ _ _
  clear hl l
  refine db_seq (fun ρ' τ2 => τ2 = τ1 ∧ ρ' = k60E ns tw c d s hs (some (.val (.list ((hoursOf c d).map .int)))) (some (.val (.list (A.map pairSD)))) (some (.val (.list ((movedL c d s hs).map pairSD)))) v11 v12 (some (.val (.list ((duesL c A).map .int)))) v14 v15 none none) ?_ ?_
  · unfold k60E
    walk_at "go"
    refine ⟨c, A, rfl, hc, hS, ?_⟩
    walk_at "go"
    refine eq_same (n := 1) rfl rfl (pl_tI _) rfl ?_
    walk_at "go"
    exact ⟨rfl, rfl⟩
  rintro ρ' τ2 ⟨rfl, rfl⟩
  refine db_seq (fun ρ' τ1 => ∃ l, l ∉ dom τ2 ∧ τ1 = (l, .lst ((fitsTo c d A 0).map .int)) :: τ2 ∧ ρ' = k60E ns tw c d s hs (some (.val (.list ((hoursOf c d).map .int)))) (some (.val (.list (A.map pairSD)))) (some (.val (.list ((movedL c d s hs).map pairSD)))) v11 v12 (some (.val (.list ((duesL c A).map .int)))) v14 v15 (some (.hdl l)) none) ?_ ?_
  · unfold k60E
    walk_at "st"
    refine de_lstM ?_
    walk_at "go"
    intro l hl
    exact ⟨l, hl, rfl, rfl⟩
  rintro ρ' τ1 ⟨l, hl, rfl, rfl⟩
  refine db_seq (fun ρ' τ1 => ∃ v18, τ1 = (l, .lst ((fitsL c d A).map .int)) :: τ2 ∧ ρ' = k60E ns tw c d s hs (some (.val (.list ((hoursOf c d).map .int)))) (some (.val (.list (A.map pairSD)))) (some (.val (.list ((movedL c d s hs).map pairSD)))) v11 v12 (some (.val (.list ((duesL c A).map .int)))) v14 v15 (some (.hdl l)) v18) ?_ ?_
  · unfold k60E
    refine ds_for (t := .name 18) rfl PassesOwn.never (pgx_name sc_law.nd rfl (by first | exact Or.inl rfl | exact Or.inr rfl)) (di_range1 ‹Bl _› rfl ?_)
    walk_at "go"
    refine ⟨by omega, by omega, fun i ρ' τ1 => ∃ v18, τ1 = (l, .lst ((fitsTo c d A i).map .int)) :: τ2 ∧ ρ' = k60E ns tw c d s hs (some (.val (.list ((hoursOf c d).map .int)))) (some (.val (.list (A.map pairSD)))) (some (.val (.list ((movedL c d s hs).map pairSD)))) v11 v12 (some (.val (.list ((duesL c A).map .int)))) v14 v15 (some (.hdl l)) v18, ⟨none, rfl, rfl⟩, fun _ _ _ _ => trivial, ?_, ?_⟩
    · rintro i dd ρ' τ1 hd ⟨v18, rfl, rfl⟩
      have hi : i < periodOf c := by
        have := (List.getElem?_eq_some_iff.mp hd).1
        rw [rangeD_length] at this
        omega
      change (rangeD 0 (periodOf c))[i]? = _ at hd
      rw [rangeD_get hi, Int.zero_add] at hd
      cases hd
      refine ⟨_, rfl, ?_⟩
      have hdl := fitsTo_len c d A i
      unfold k60E
      walk_at "go"
      walk_at "lc _law_pair"
      refine di_lst ?_
      walk_at "go"
      refine lcq_filter A pairSD pairSD (fun p => !decide (isOut (shifted c (i : Nat)) d p.1 = p.2)) rfl (by omega) (fun p hp => ⟨_, rfl, fun D acc hD s H C cl fp => ⟨?_, fun _ => ?_⟩⟩) ?_
      · unfold pairSD
        walk_at "go"
        refine in_intL rfl ?_
        walk_at "go"
        refine eq_bool ?_
        refine ⟨_, rfl, ?_, rfl⟩
        rw [hwm, ← out_shift' hc]
        rfl
      · walk_at "go"
        exact ⟨rfl, rfl⟩
      walk_at "go"
      refine eq_nilL (n := 2) rfl rfl (hpl _) ?_
      rw [List.isEmpty_map, agrees_filter]
      refine ⟨_, rfl, fun g => ?_, fun g => ?_⟩
      · have g : agrees (shifted c (i : Nat)) d A = true := by simpa [bneg] using g
        have hy := fitsTo_yes g
        refine db_one (ds_expr (de_append ?_))
        walk_at "go"
        refine ⟨l, _, rfl, lookup_here, ?_⟩
        walk_at "go"
        refine ⟨_, _, rfl, lookup_here, by rw [List.length_map]; omega, ?_⟩
        refine ⟨_, ?_, rfl⟩
        rw [setS_here, hy, List.map_append]
        rfl
      · have g : agrees (shifted c (i : Nat)) d A = false := by simpa [bneg] using g
        have hy := fitsTo_no g
        walk_at "go"
        refine ⟨_, ?_, rfl⟩
        rw [hy]
    · rintro ρ' τ1 ⟨v18, rfl, rfl⟩
      rw [rangeD_length]
      exact ⟨_, rfl, rfl⟩
  rintro ρ' τ1 ⟨v18, rfl, rfl⟩
  unfold k60E
  refine db_freeze 17 rfl ?_
  show Db _ (k60E ns tw c d s hs (some (.val (.list ((hoursOf c d).map .int)))) (some (.val (.list (A.map pairSD)))) (some (.val (.list ((movedL c d s hs).map pairSD)))) v11 v12 (some (.val (.list ((duesL c A).map .int)))) v14 v15 (some (.val (.list ((fitsL c d A).map .int)))) v18) _ _ _
  unfold k60E
  walk_at "go"
  refine ⟨c, d, A, rfl, hc, d0, by omega, hS, ?_⟩
  walk_at "go"
  refine eq_same (n := 1) rfl rfl (pl_tI _) rfl ?_
  walk_at "go"
  refine ⟨c, d, movedL c d s hs, rfl, hc, d0, by omega, hM, ?_⟩
  refine in_intT ?_
  rw [decide_eq_true (mem_fits.mpr ⟨s0, s1, agrees_moved hc d s hs⟩)]
  walk_at "go"
  refine ⟨c, s, rfl, hc, s0, by omega, ?_⟩
  walk_at "go"
  refine ⟨shifted c s, movedL c d s hs, rfl, hcs, hM, ?_⟩
  refine in_intT ?_
  rw [decide_eq_true (mem_dues.mpr ⟨d0, by omega, agrees_moved hc d s hs⟩)]
  walk_at "go"
  refine ⟨c, [], rfl, hc, seenOk_nil, ?_⟩
  rw [dues_nil]
  walk_at "go"
  refine eq_same (n := 1) rfl rfl (pl_tI _) rfl ?_
  walk_at "go"
  refine ⟨c, d, [], rfl, hc, d0, by omega, seenOk_nil, ?_⟩
  have eF : tI (fitsL c d []) = .tuple (rangeD 0 (periodOf c)) := by
    rw [fits_nil]
    unfold tI rangeD
    rw [List.map_map]
    refine congrArg PyData.tuple (List.map_congr_left fun k _ => ?_)
    show PyData.int _ = PyData.int _
    rw [Int.zero_add]
  have hPl : Pl 1 (tI (fitsL c d [])) := pl_tI _
  rw [eF] at hPl
  rw [eF]
  refine de_tuple ‹Bl _› rfl ?_
  refine de_listRg ‹Bl _› rfl rfl rfl ?_
  walk_at "go"
  refine ⟨by omega, by omega, ?_⟩
  refine tup_lst rfl ?_
  refine eq_same (n := 1) rfl rfl hPl rfl ?_
  exact q _
end
theorem chain {P : Program} {w : World} {K : PySem.W.Frag} {mg : Str → Option Value} (B : Bl mg) (d_is_between : HasDef K mg "is_between" s_is_between ["value", "low", "high"]) (d_are_between : HasDef K mg "are_between" s_are_between ["value", "size", "low", "high"]) (d_is_channel : HasDef K mg "is_channel" s_is_channel ["value"]) (d_check_channel : HasDef K mg "check_channel" s_check_channel ["value"]) (d_check_hour : HasDef K mg "check_hour" s_check_hour ["value"]) (d_check_draught : HasDef K mg "check_draught" s_check_draught ["value"]) (d_divisor : HasDef K mg "divisor" s_divisor ["one", "other"]) (d_period_of : HasDef K mg "period_of" s_period_of ["channel"]) (d_depth_of : HasDef K mg "depth_of" s_depth_of ["channel", "bar", "hour"]) (d_shifted : HasDef K mg "shifted" s_shifted ["channel", "hours"]) (d_later : HasDef K mg "later" s_later ["channel", "hours"]) (d__law_town : HasDef K mg "_law_town" s__law_town ["_law_script"]) (d__law_draw : HasDef K mg "_law_draw" s__law_draw ["_law_script", "_law_town_here", "_law_limit"]) (d__law_pick : HasDef K mg "_law_pick" s__law_pick ["_law_script", "_law_town_here", "_law_choices"]) (d__law_bar : HasDef K mg "_law_bar" s__law_bar ["_law_script", "_law_town_here", "_law_most"]) (d__law_channel : HasDef K mg "_law_channel" s__law_channel ["_law_script", "_law_town_here", "_law_bars", "_law_most"]) (d__law_period : HasDef K mg "_law_period" s__law_period ["_law_channel_here"]) (d_all_from : HasDef K mg "all_from" s_all_from ["channel", "draught", "hour"]) (d__law_all : HasDef K mg "_law_all" s__law_all ["_law_channel_here", "_law_draught", "_law_hour"]) (d__law_out : HasDef K mg "_law_out" s__law_out ["_law_channel_here", "_law_draught"]) (d_is_out : HasDef K mg "is_out" s_is_out ["channel", "draught", "hour"]) (d_does_agree : HasDef K mg "does_agree" s_does_agree ["channel", "draught", "seen"]) (d_check_seen : HasDef K mg "check_seen" s_check_seen ["value"]) (d_draughts_for : HasDef K mg "draughts_for" s_draughts_for ["channel", "seen"]) (d_hours_for : HasDef K mg "hours_for" s_hours_for ["channel", "draught", "seen"]) : ∀ base, KnowsF P w K mg base 6 "law" s_law ["_law_script"] cLaw := by
    intro base
    have n_kn_is_between := kn_is_between (P := P) (w := w) (base := base) d_is_between B
    have n_kn_are_between := kn_are_between (P := P) (w := w) (base := base) d_are_between B n_kn_is_between
    have n_kn_is_channel := kn_is_channel (P := P) (w := w) (base := base) d_is_channel B n_kn_are_between
    have n_kn_check_channel := kn_check_channel (P := P) (w := w) (base := base) d_check_channel n_kn_is_channel
    have n_kn_check_hour := kn_check_hour (P := P) (w := w) (base := base) d_check_hour n_kn_is_between
    have n_kn_check_draught := kn_check_draught (P := P) (w := w) (base := base) d_check_draught n_kn_is_between
    have n_kn_divisor := kn_divisor (P := P) (w := w) (base := base) d_divisor
    have n_kn_period_of := kn_period_of (P := P) (w := w) (base := base) d_period_of B n_kn_divisor
    have n_kn_depth_of := kn_depth_of (P := P) (w := w) (base := base) d_depth_of B
    have n_kn_shifted := kn_shifted (P := P) (w := w) (base := base) d_shifted B
    have n_kn_later := kn_later (P := P) (w := w) (base := base) d_later n_kn_check_channel n_kn_check_hour n_kn_shifted
    have n_kn_law_town := kn_law_town (P := P) (w := w) (base := base) d__law_town B
    have n_kn_law_draw := kn_law_draw (P := P) (w := w) (base := base) d__law_draw B
    have n_kn_law_pick := kn_law_pick (P := P) (w := w) (base := base) d__law_pick B n_kn_law_draw
    have n_kn_law_bar := kn_law_bar (P := P) (w := w) (base := base) d__law_bar B n_kn_law_draw
    have n_kn_law_channel := kn_law_channel (P := P) (w := w) (base := base) d__law_channel B n_kn_law_draw n_kn_law_pick n_kn_law_bar
    have n_kn_law_period := kn_law_period (P := P) (w := w) (base := base) d__law_period B
    have n_kn_all_from := kn_all_from (P := P) (w := w) (base := base) d_all_from B n_kn_depth_of
    have n_kn_law_all := kn_law_all (P := P) (w := w) (base := base) d__law_all B
    have n_kn_law_out := kn_law_out (P := P) (w := w) (base := base) d__law_out B n_kn_law_period n_kn_law_all
    have n_kn_is_out := kn_is_out (P := P) (w := w) (base := base) d_is_out B n_kn_all_from
    have n_kn_does_agree := kn_does_agree (P := P) (w := w) (base := base) d_does_agree B n_kn_is_out
    have n_kn_check_seen := kn_check_seen (P := P) (w := w) (base := base) d_check_seen B n_kn_is_between
    have n_kn_draughts_for := kn_draughts_for (P := P) (w := w) (base := base) d_draughts_for B n_kn_check_channel n_kn_check_seen n_kn_does_agree
    have n_kn_hours_for := kn_hours_for (P := P) (w := w) (base := base) d_hours_for B n_kn_check_channel n_kn_check_draught n_kn_check_seen n_kn_does_agree n_kn_period_of n_kn_shifted
    exact ok_law (P := P) (w := w) (base := base) B n_kn_law_town n_kn_law_draw n_kn_law_channel n_kn_law_period n_kn_law_out n_kn_later n_kn_draughts_for n_kn_hours_for
end TW
open PySem PySem.W PyProof.Rows
set_option maxRecDepth 100000 in
set_option maxHeartbeats 0 in
theorem PySem.Challenge.cw_tidewindows_k60_whole_watching_holds : PySem.Challenge.rw_tidewindows_k60_whole_watching.Holds := by
  w_on; o_law; k_head; (case hw => w_witness2)
  k_fill
  refine Dl.walk_law (st := TW.s_law) (l := PySem.Challenge.rw_tidewindows_k60_whole_watching) (k := 6) rfl rfl ⟨rfl, by decide, by decide⟩ (fun w h Y => PySem.W.kIn_of Y) ?F
  case F =>
    intro w mg fa h KX G hmg
    have B : Dl.Bl mg := ⟨PySem.W.mg_none_of KX G (by k_is), PySem.W.mg_none_of KX G (by k_is), PySem.W.mg_none_of KX G (by k_is), PySem.W.mg_none_of KX G (by k_is), PySem.W.mg_none_of KX G (by k_is), PySem.W.mg_none_of KX G (by k_is), PySem.W.mg_none_of KX G (by k_is), PySem.W.mg_none_of KX G (by k_is), PySem.W.mg_none_of KX G (by k_is), PySem.W.mg_none_of KX G (by k_is), PySem.W.mg_none_of KX G (by k_is), PySem.W.mg_none_of KX G (by k_is), PySem.W.mg_none_of KX G (by k_is), PySem.W.mg_none_of KX G (by k_is), PySem.W.mg_none_of KX G (by k_is), PySem.W.mg_none_of KX G (by k_is), PySem.W.mg_none_of KX G (by k_is), PySem.W.mg_none_of KX G (by k_is), PySem.W.mg_none_of KX G (by k_is)⟩
    refine' Dl.law_fin (st := TW.s_law) KX G hmg ?a ?l ?c ?k (fun _ _ _ _ _ _ us hl => match us, hl with | [_], _ => rfl) (TW.chain B ?d_is_between ?d_are_between ?d_is_channel ?d_check_channel ?d_check_hour ?d_check_draught ?d_divisor ?d_period_of ?d_depth_of ?d_shifted ?d_later ?d__law_town ?d__law_draw ?d__law_pick ?d__law_bar ?d__law_channel ?d__law_period ?d_all_from ?d__law_all ?d__law_out ?d_is_out ?d_does_agree ?d_check_seen ?d_draughts_for ?d_hours_for)
    (case a => k_is); (case l => k_is); (case c => k_is); (case k => k_is)
    (case d_is_between =>
      refine' Dl.hasDef_mk KX G ?a ?l ?c ?k (fun _ _ _ _ _ _ us hl => match us, hl with | [_, _, _], _ => rfl)
      (case a => k_is); (case l => k_is); (case c => k_is); (case k => k_is))
    (case d_are_between =>
      refine' Dl.hasDef_mk KX G ?a ?l ?c ?k (fun _ _ _ _ _ _ us hl => match us, hl with | [_, _, _, _], _ => rfl)
      (case a => k_is); (case l => k_is); (case c => k_is); (case k => k_is))
    (case d_is_channel =>
      refine' Dl.hasDef_mk KX G ?a ?l ?c ?k (fun _ _ _ _ _ _ us hl => match us, hl with | [_], _ => rfl)
      (case a => k_is); (case l => k_is); (case c => k_is); (case k => k_is))
    (case d_check_channel =>
      refine' Dl.hasDef_mk KX G ?a ?l ?c ?k (fun _ _ _ _ _ _ us hl => match us, hl with | [_], _ => rfl)
      (case a => k_is); (case l => k_is); (case c => k_is); (case k => k_is))
    (case d_check_hour =>
      refine' Dl.hasDef_mk KX G ?a ?l ?c ?k (fun _ _ _ _ _ _ us hl => match us, hl with | [_], _ => rfl)
      (case a => k_is); (case l => k_is); (case c => k_is); (case k => k_is))
    (case d_check_draught =>
      refine' Dl.hasDef_mk KX G ?a ?l ?c ?k (fun _ _ _ _ _ _ us hl => match us, hl with | [_], _ => rfl)
      (case a => k_is); (case l => k_is); (case c => k_is); (case k => k_is))
    (case d_divisor =>
      refine' Dl.hasDef_mk KX G ?a ?l ?c ?k (fun _ _ _ _ _ _ us hl => match us, hl with | [_, _], _ => rfl)
      (case a => k_is); (case l => k_is); (case c => k_is); (case k => k_is))
    (case d_period_of =>
      refine' Dl.hasDef_mk KX G ?a ?l ?c ?k (fun _ _ _ _ _ _ us hl => match us, hl with | [_], _ => rfl)
      (case a => k_is); (case l => k_is); (case c => k_is); (case k => k_is))
    (case d_depth_of =>
      refine' Dl.hasDef_mk KX G ?a ?l ?c ?k (fun _ _ _ _ _ _ us hl => match us, hl with | [_, _, _], _ => rfl)
      (case a => k_is); (case l => k_is); (case c => k_is); (case k => k_is))
    (case d_shifted =>
      refine' Dl.hasDef_mk KX G ?a ?l ?c ?k (fun _ _ _ _ _ _ us hl => match us, hl with | [_, _], _ => rfl)
      (case a => k_is); (case l => k_is); (case c => k_is); (case k => k_is))
    (case d_later =>
      refine' Dl.hasDef_mk KX G ?a ?l ?c ?k (fun _ _ _ _ _ _ us hl => match us, hl with | [_, _], _ => rfl)
      (case a => k_is); (case l => k_is); (case c => k_is); (case k => k_is))
    (case d__law_town =>
      refine' Dl.hasDef_mk KX G ?a ?l ?c ?k (fun _ _ _ _ _ _ us hl => match us, hl with | [_], _ => rfl)
      (case a => k_is); (case l => k_is); (case c => k_is); (case k => k_is))
    (case d__law_draw =>
      refine' Dl.hasDef_mk KX G ?a ?l ?c ?k (fun _ _ _ _ _ _ us hl => match us, hl with | [_, _, _], _ => rfl)
      (case a => k_is); (case l => k_is); (case c => k_is); (case k => k_is))
    (case d__law_pick =>
      refine' Dl.hasDef_mk KX G ?a ?l ?c ?k (fun _ _ _ _ _ _ us hl => match us, hl with | [_, _, _], _ => rfl)
      (case a => k_is); (case l => k_is); (case c => k_is); (case k => k_is))
    (case d__law_bar =>
      refine' Dl.hasDef_mk KX G ?a ?l ?c ?k (fun _ _ _ _ _ _ us hl => match us, hl with | [_, _, _], _ => rfl)
      (case a => k_is); (case l => k_is); (case c => k_is); (case k => k_is))
    (case d__law_channel =>
      refine' Dl.hasDef_mk KX G ?a ?l ?c ?k (fun _ _ _ _ _ _ us hl => match us, hl with | [_, _, _, _], _ => rfl)
      (case a => k_is); (case l => k_is); (case c => k_is); (case k => k_is))
    (case d__law_period =>
      refine' Dl.hasDef_mk KX G ?a ?l ?c ?k (fun _ _ _ _ _ _ us hl => match us, hl with | [_], _ => rfl)
      (case a => k_is); (case l => k_is); (case c => k_is); (case k => k_is))
    (case d_all_from =>
      refine' Dl.hasDef_mk KX G ?a ?l ?c ?k (fun _ _ _ _ _ _ us hl => match us, hl with | [_, _, _], _ => rfl)
      (case a => k_is); (case l => k_is); (case c => k_is); (case k => k_is))
    (case d__law_all =>
      refine' Dl.hasDef_mk KX G ?a ?l ?c ?k (fun _ _ _ _ _ _ us hl => match us, hl with | [_, _, _], _ => rfl)
      (case a => k_is); (case l => k_is); (case c => k_is); (case k => k_is))
    (case d__law_out =>
      refine' Dl.hasDef_mk KX G ?a ?l ?c ?k (fun _ _ _ _ _ _ us hl => match us, hl with | [_, _], _ => rfl)
      (case a => k_is); (case l => k_is); (case c => k_is); (case k => k_is))
    (case d_is_out =>
      refine' Dl.hasDef_mk KX G ?a ?l ?c ?k (fun _ _ _ _ _ _ us hl => match us, hl with | [_, _, _], _ => rfl)
      (case a => k_is); (case l => k_is); (case c => k_is); (case k => k_is))
    (case d_does_agree =>
      refine' Dl.hasDef_mk KX G ?a ?l ?c ?k (fun _ _ _ _ _ _ us hl => match us, hl with | [_, _, _], _ => rfl)
      (case a => k_is); (case l => k_is); (case c => k_is); (case k => k_is))
    (case d_check_seen =>
      refine' Dl.hasDef_mk KX G ?a ?l ?c ?k (fun _ _ _ _ _ _ us hl => match us, hl with | [_], _ => rfl)
      (case a => k_is); (case l => k_is); (case c => k_is); (case k => k_is))
    (case d_draughts_for =>
      refine' Dl.hasDef_mk KX G ?a ?l ?c ?k (fun _ _ _ _ _ _ us hl => match us, hl with | [_, _], _ => rfl)
      (case a => k_is); (case l => k_is); (case c => k_is); (case k => k_is))
    (case d_hours_for =>
      refine' Dl.hasDef_mk KX G ?a ?l ?c ?k (fun _ _ _ _ _ _ us hl => match us, hl with | [_, _, _], _ => rfl)
      (case a => k_is); (case l => k_is); (case c => k_is); (case k => k_is))
