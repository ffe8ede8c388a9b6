import PyProof.Rows.All
import Wide.All
import OpenK.AllK
import Wide.FinOn
import HandS.ForMost
import HandS.TupAny
import HandS.TupMul
import HandS.Style
import HandS.Zip
import HandS.IsInst
import HandS.Deep
import HandS.Conv
import HandS.Exc
import HandS.SortRule
import HandS.SortInts
import KE.GoesMore
import KE.GoesEnum
import KE.DataMinMax
import PyProof.Rows.SumAny
import KE.DataCmp
import PyProof.Claim2Refuses
import HandS.TryOnly
import HandS.SetFor
import HandS.Strs
import KE.SortData
import PyProof.Rows.SetFrom
import HandS.ExcIs
import HandS.ExcOwn
import HandS.ExcValue
import HandS.WordsExc
import HandS.Text
import HandS.FStr
import HandS.SlotsOwn
import OpenK.KOps
import KE.KFmtOwn
import PyProof.InstNe
import HandS.Star
import PyProof.StrOps2
import HandS.ReplaceLit
import HandS.ReplaceDef
import PyProof.ToksMono
import HandS.Iter
import PyProof.ListRange
import PyProof.StrWalks
import PyProof.EnumMake
import PyProof.StrOps
import PySem.Challenge.RW_tidewindows_k72_whole_texts
set_option Elab.async false
set_option linter.all false
set_option maxRecDepth 100000
set_option maxHeartbeats 4000000
/-! Dl: a judgement without heaps over the hand layer. Values as data (PyData); a store of the objects that change. -/
namespace Dl
open PySem PySem.Spec L2

/-! ### data in the heap -/
def KLst (K : PySem.W.Frag) (a : Addr) (xs : List V) : Prop :=
  ∃ (o : Obj) (its : Array Value) (n : Nat), K.lookup a = some o ∧ o.cls = .type "list" ∧ o.dict = none ∧ o.data = .seq its n ∧ its.size ≤ sizeLine ∧ Vals xs its.toList
/-- N: the addresses of what may change -/
def NdL (N : List Addr) (H : Hp) (a : Addr) (xs : List V) : Prop := a ∉ N ∧ H a = some (.lst xs)
def NdT (N : List Addr) (H : Hp) (a : Addr) (xs : List V) : Prop := a ∉ N ∧ H a = some (.tup xs)
mutual
inductive Dn (K : PySem.W.Frag) (N : List Addr) (H : Hp) : V → PyData → Prop
  | non : Dn K N H .non .none
  | bl (b : Bool) : Dn K N H (.bl b) (.bool b)
  | int (i : Int) : Dn K N H (.int i) (.int i)
  | str (x : Str) : Dn K N H (.str x) (.str x)
  | lst {a : Addr} {xs : List V} {ds : List PyData} : NdL N H a xs → DnL K N H xs ds → Dn K N H (.ref a) (.list ds)
  | tup {a : Addr} {xs : List V} {ds : List PyData} : NdT N H a xs → DnL K N H xs ds → Dn K N H (.ref a) (.tuple ds)
inductive DnL (K : PySem.W.Frag) (N : List Addr) (H : Hp) : List V → List PyData → Prop
  | nil : DnL K N H [] []
  | cons {v : V} {vs : List V} {d : PyData} {ds : List PyData} : Dn K N H v d → DnL K N H vs ds → DnL K N H (v :: vs) (d :: ds)
end
/-- from one heap to a later one: what is known and may not change stays -/
def Tr (N : List Addr) (H : Hp) (N' : List Addr) (H' : Hp) : Prop := ∀ a o, a ∉ N → H a = some o → H' a = some o ∧ a ∉ N'
theorem Tr.refl {N : List Addr} {H : Hp} : Tr N H N H := fun _ _ n h => ⟨h, n⟩
theorem Tr.trans {N N1 N2 : List Addr} {H H1 H2 : Hp} (a : Tr N H N1 H1) (b : Tr N1 H1 N2 H2) : Tr N H N2 H2 := fun x o n h => by
  obtain ⟨h1, n1⟩ := a x o n h
  exact b x o n1 h1
theorem Tr.new {N : List Addr} {H : Hp} {p : Addr} {o : HO} (h : H p = none) : Tr N H N (upd H p o) := fun a u n e => ⟨by
  rw [upd_ne (ne_of_none e h)]
  exact e, n⟩
section
variable {K : PySem.W.Frag} {N N' : List Addr} {H H' : Hp}
theorem NdL.tr {a : Addr} {xs : List V} (t : Tr N H N' H') (h : NdL N H a xs) : NdL N' H' a xs := by
  obtain ⟨h1, n1⟩ := t a _ h.1 h.2
  exact ⟨n1, h1⟩
theorem NdT.tr {a : Addr} {xs : List V} (t : Tr N H N' H') (h : NdT N H a xs) : NdT N' H' a xs := by
  obtain ⟨h1, n1⟩ := t a _ h.1 h.2
  exact ⟨n1, h1⟩
mutual
theorem Dn.tr (t : Tr N H N' H') : ∀ {v : V} {d : PyData}, Dn K N H v d → Dn K N' H' v d
  | _, _, .non => .non
  | _, _, .bl b => .bl b
  | _, _, .int i => .int i
  | _, _, .str x => .str x
  | _, _, .lst n l => .lst (n.tr t) (DnL.tr t l)
  | _, _, .tup n l => .tup (n.tr t) (DnL.tr t l)
theorem DnL.tr (t : Tr N H N' H') : ∀ {vs : List V} {ds : List PyData}, DnL K N H vs ds → DnL K N' H' vs ds
  | _, _, .nil => .nil
  | _, _, .cons a b => .cons (Dn.tr t a) (DnL.tr t b)
end
theorem NdL.sq {a : Addr} {xs : List V} (h : NdL N H a xs) : SqL K H a xs := SqL.of h.2
theorem NdT.sq {a : Addr} {xs : List V} (h : NdT N H a xs) : SqT K H a xs := SqT.of h.2
mutual
theorem Dn.dp : ∀ {v : V} {d : PyData}, Dn K N H v d → Dp K H v d
  | _, _, .non => .non
  | _, _, .bl b => .bl b
  | _, _, .int i => .int i
  | _, _, .str x => .str x
  | _, _, .lst n l => .lst n.sq (DnL.dp l)
  | _, _, .tup n l => .tup n.sq (DnL.dp l)
theorem DnL.dp : ∀ {vs : List V} {ds : List PyData}, DnL K N H vs ds → DpAll K H vs ds
  | _, _, .nil => .nil
  | _, _, .cons a b => .cons (Dn.dp a) (DnL.dp b)
end
theorem DnL.length : ∀ {vs : List V} {ds : List PyData}, DnL K N H vs ds → vs.length = ds.length
  | _, _, .nil => rfl
  | _, _, .cons _ b => by rw [List.length_cons, List.length_cons, DnL.length b]
theorem DnL.get : ∀ {vs : List V} {ds : List PyData} {i : Nat} {v : V}, DnL K N H vs ds → vs[i]? = some v → ∃ d, ds[i]? = some d ∧ Dn K N H v d
  | _, _, _, _, .nil, e => by simp at e
  | _, _, 0, _, .cons a _, e => by
    simp at e
    subst e
    exact ⟨_, rfl, a⟩
  | _, _, i + 1, v, .cons _ b, e => by
    obtain ⟨d, h1, h2⟩ := DnL.get (i := i) (v := v) b (by simpa using e)
    exact ⟨d, by simpa using h1, h2⟩
theorem DnL.getD : ∀ {vs : List V} {ds : List PyData} {i : Nat} {d : PyData}, DnL K N H vs ds → ds[i]? = some d → ∃ v, vs[i]? = some v ∧ Dn K N H v d
  | _, _, _, _, .nil, e => by simp at e
  | _, _, 0, _, .cons a _, e => by
    simp at e
    subst e
    exact ⟨_, rfl, a⟩
  | _, _, i + 1, d, .cons _ b, e => by
    obtain ⟨v, h1, h2⟩ := DnL.getD (i := i) (d := d) b (by simpa using e)
    exact ⟨v, by simpa using h1, h2⟩
theorem DnL.append : ∀ {vs ws : List V} {ds es : List PyData}, DnL K N H vs ds → DnL K N H ws es → DnL K N H (vs ++ ws) (ds ++ es)
  | _, _, _, _, .nil, b => b
  | _, _, _, _, .cons a c, b => .cons a (DnL.append c b)
theorem DnL.take : ∀ {vs : List V} {ds : List PyData} (n : Nat), DnL K N H vs ds → DnL K N H (vs.take n) (ds.take n)
  | _, _, 0, _ => .nil
  | _, _, _ + 1, .nil => .nil
  | _, _, n + 1, .cons a b => .cons a (DnL.take n b)
theorem DnL.drop : ∀ {vs : List V} {ds : List PyData} (n : Nat), DnL K N H vs ds → DnL K N H (vs.drop n) (ds.drop n)
  | _, _, 0, a => a
  | _, _, _ + 1, .nil => .nil
  | _, _, n + 1, .cons _ b => DnL.drop n b
theorem DnL.reverse : ∀ {vs : List V} {ds : List PyData}, DnL K N H vs ds → DnL K N H vs.reverse ds.reverse
  | _, _, .nil => .nil
  | _, _, .cons a b => by
    rw [List.reverse_cons, List.reverse_cons]
    exact (DnL.reverse b).append (.cons a .nil)
theorem DnL.set : ∀ {vs : List V} {ds : List PyData} {v : V} {d : PyData} (i : Nat), DnL K N H vs ds → Dn K N H v d → DnL K N H (vs.set i v) (ds.set i d)
  | _, _, _, _, _, .nil, _ => .nil
  | _, _, _, _, 0, .cons _ b, h => .cons h b
  | _, _, _, _, i + 1, .cons a b, h => .cons a (DnL.set i b h)
theorem DnL.dropLast : ∀ {vs : List V} {ds : List PyData}, DnL K N H vs ds → DnL K N H vs.dropLast ds.dropLast
  | _, _, .nil => .nil
  | _, _, .cons a .nil => .nil
  | _, _, .cons a (.cons b c) => .cons a (DnL.dropLast (.cons b c))
theorem DnL.ints : ∀ {vs : List V} {ns : List Int}, DnL K N H vs (ns.map PyData.int) → vs = ns.map V.int
  | [], [], _ => rfl
  | _ :: _, [], h => nomatch h
  | [], _ :: _, h => nomatch h
  | v :: vs, n :: ns, h => by
    cases h with
    | cons a b =>
      cases a
      rw [DnL.ints b]
      all_goals rfl
theorem DnL.of_ints : ∀ {ns : List Int}, DnL K N H (ns.map V.int) (ns.map PyData.int)
  | [] => .nil
  | n :: ns => .cons (.int n) DnL.of_ints
theorem DnL.bools : ∀ {vs : List V} {bs : List Bool}, DnL K N H vs (bs.map PyData.bool) → vs = bs.map V.bl
  | [], [], _ => rfl
  | _ :: _, [], h => nomatch h
  | [], _ :: _, h => nomatch h
  | v :: vs, n :: ns, h => by
    cases h with
    | cons a b =>
      cases a
      rw [DnL.bools b]
      all_goals rfl
theorem DnL.texts : ∀ {vs : List V} {bs : List Str}, DnL K N H vs (bs.map PyData.str) → vs = bs.map V.str
  | [], [], _ => rfl
  | _ :: _, [], h => nomatch h
  | [], _ :: _, h => nomatch h
  | v :: vs, n :: ns, h => by
    cases h with
    | cons a b =>
      cases a
      rw [DnL.texts b]
      all_goals rfl
end

/-! ### the store: what may change -/
/-- a value: data, or the address of something that changes -/
inductive MV where
  | val (d : PyData) | hdl (a : Addr)
  /-- the script -/
  | scr (ns : List Int)
  /-- a tuple that holds objects, too -/
  | tup (xs : List (PyData ⊕ Addr))
/-- an exception that was caught, its class cls, at a -/
def excO (cls : Value) (a : Addr) : HO := .ext fun h => ∃ oe : Obj, h.get? a = some oe ∧ Zc cls none oe ∧ ∃ vs, oe.data = .fields vs
inductive MO where
  | lst (ds : List PyData) | ins (C dx : Addr) (fs : List (Str × MV))
  /-- an exception, caught -/
  | exc (cls : Value)
abbrev Store := List (Addr × MO)
abbrev dom (τ : Store) : List Addr := τ.map (·.1)
def ScrOk (K : PySem.W.Frag) (N : List Addr) (H : Hp) (a : Addr) (ns : List Int) : Prop := (a ∉ N ∧ ∃ o, H a = some (.frz o (.lst (ns.map V.int)))) ∨ KLst K a (ns.map V.int)
/-- data, or an object of the store -/
def Rx (K : PySem.W.Frag) (N : List Addr) (H : Hp) (v : V) : PyData ⊕ Addr → Prop
  | .inl d => Dn K N H v d
  | .inr a => v = .ref a
def Rv (K : PySem.W.Frag) (N : List Addr) (H : Hp) (v : V) : MV → Prop
  | .val d => Dn K N H v d
  | .hdl a => v = .ref a
  | .scr ns => ∃ a, v = .ref a ∧ ScrOk K N H a ns
  | .tup xs => ∃ a vs, v = .ref a ∧ NdT N H a vs ∧ Paired (Rx K N H) vs xs
abbrev RvL (K : PySem.W.Frag) (N : List Addr) (H : Hp) : List V → List MV → Prop := Paired (Rv K N H)
def MOk (K : PySem.W.Frag) (N : List Addr) (H : Hp) (a : Addr) : MO → Prop
  | .lst ds => ∃ vs, H a = some (.lst vs) ∧ DnL K N H vs ds
  | .ins C dx fs => ∃ vs, H a = some (.ins C dx vs) ∧ Paired (fun (p : Str × V) (q : Str × MV) => p.1 = q.1 ∧ Rv K N H p.2 q.2) vs fs
  | .exc cls => H a = some (excO cls a)
structure StOk (K : PySem.W.Frag) (H : Hp) (τ : Store) : Prop where
  nd : (dom τ).Nodup
  ok : ∀ p ∈ τ, MOk K (dom τ) H p.1 p.2
abbrev En := List (Option MV)
structure SlOk (K : PySem.W.Frag) (N : List Addr) (H : Hp) (σ : St) (ρ : En) : Prop where
  len : σ.length = ρ.length
  ok : ∀ (i : Nat) (sv : MV), ρ[i]? = some (some sv) → ∃ v, σ[i]? = some (some v) ∧ Rv K N H v sv
section
variable {K : PySem.W.Frag} {N N' : List Addr} {H H' : Hp}
theorem Rv.tr (t : Tr N H N' H') {v : V} {sv : MV} (h : Rv K N H v sv) : Rv K N' H' v sv := by
  cases sv with
  | val d => exact Dn.tr t h
  | hdl a => exact h
  | tup xs =>
    obtain ⟨a, vs, e, n, r⟩ := h
    refine ⟨a, vs, e, n.tr t, Paired.mapP r fun v x q => ?_⟩
    cases x with
    | inl d => exact Dn.tr t q
    | inr a => exact q
  | scr ns =>
    obtain ⟨a, e, h⟩ := h
    refine ⟨a, e, ?_⟩
    rcases h with ⟨n, o, h⟩ | h
    · obtain ⟨h1, n1⟩ := t a _ n h
      exact .inl ⟨n1, o, h1⟩
    · exact .inr h
theorem ScrOk.sq {a : Addr} {ns : List Int} (h : ScrOk K N H a ns) : SqL K H a (ns.map V.int) := by
  rcases h with ⟨_, o, h⟩ | h
  · exact .inl (.inr ⟨o, h⟩)
  · exact .inr h
theorem RvL.tr (t : Tr N H N' H') {vs : List V} {svs : List MV} (h : RvL K N H vs svs) : RvL K N' H' vs svs := Paired.mapP h fun _ _ q => Rv.tr t q
theorem SlOk.tr (t : Tr N H N' H') {σ : St} {ρ : En} (h : SlOk K N H σ ρ) : SlOk K N' H' σ ρ := ⟨h.len, fun i sv e => by
  obtain ⟨v, h1, h2⟩ := h.ok i sv e
  exact ⟨v, h1, h2.tr t⟩⟩
theorem SlOk.set {σ : St} {ρ : En} {v : V} {sv : MV} (h : SlOk K N H σ ρ) (r : Rv K N H v sv) (i : Nat) : SlOk K N H (σ.set i (some v)) (ρ.set i (some sv)) := by
  refine ⟨by rw [List.length_set, List.length_set, h.len], fun j sv' e => ?_⟩
  by_cases hj : i = j
  · subst hj
    by_cases hl : i < ρ.length
    · rw [List.getElem?_set_self hl] at e
      cases e
      exact ⟨v, List.getElem?_set_self (by rw [h.len]; exact hl), r⟩
    · rw [List.getElem?_eq_none (by rw [List.length_set]; omega)] at e
      cases e
  · rw [List.getElem?_set_ne hj] at e
    obtain ⟨v', h1, h2⟩ := h.ok j sv' e
    exact ⟨v', by rw [List.getElem?_set_ne hj]; exact h1, h2⟩
theorem SlOk.set_none {σ : St} {ρ : En} (h : SlOk K N H σ ρ) (i : Nat) : SlOk K N H (σ.set i none) (ρ.set i none) := by
  refine ⟨by rw [List.length_set, List.length_set, h.len], fun j sv' e => ?_⟩
  by_cases hj : i = j
  · subst hj
    by_cases hl : i < ρ.length
    · rw [List.getElem?_set_self hl] at e
      cases e
    · rw [List.getElem?_eq_none (by rw [List.length_set]; omega)] at e
      cases e
  · rw [List.getElem?_set_ne hj] at e
    obtain ⟨v', h1, h2⟩ := h.ok j sv' e
    exact ⟨v', by rw [List.getElem?_set_ne hj]; exact h1, h2⟩
def wipeE (ρ : En) : List Nat → En
  | [] => ρ
  | v :: vs => (wipeE ρ vs).set v none
theorem SlOk.wipe {σ : St} {ρ : En} (h : SlOk K N H σ ρ) : ∀ vs : List Nat, SlOk K N H (L2.wipe σ vs) (wipeE ρ vs)
  | [] => h
  | _ :: vs => (SlOk.wipe h vs).set_none _
theorem MOk.ex {a : Addr} {mo : MO} (h : MOk K N H a mo) : ∃ o, H a = some o := by
  cases mo with
  | lst ds =>
    obtain ⟨vs, h, _⟩ := h
    exact ⟨_, h⟩
  | ins C dx fs =>
    obtain ⟨vs, h, _⟩ := h
    exact ⟨_, h⟩
  | exc cls => exact ⟨_, h⟩
theorem StOk.ex {τ : Store} (h : StOk K H τ) {a : Addr} (ha : a ∈ dom τ) : ∃ o, H a = some o := by
  obtain ⟨p, hp, rfl⟩ := List.mem_map.mp ha
  exact (h.ok p hp).ex
theorem StOk.fresh {τ : Store} (h : StOk K H τ) {a : Addr} (ha : H a = none) : a ∉ dom τ := fun q => by
  obtain ⟨o, e⟩ := h.ex q
  rw [ha] at e
  cases e
theorem mem_of_lookup {τ : Store} {a : Addr} {mo : MO} : τ.lookup a = some mo → (a, mo) ∈ τ := by
  induction τ with
  | nil => intro h; simp at h
  | cons p r ih =>
    intro h
    obtain ⟨b, m⟩ := p
    rw [List.lookup_cons] at h
    by_cases e : a = b
    · subst e
      simp at h
      subst h
      exact List.mem_cons_self
    · rw [show (a == b) = false from beq_eq_false_iff_ne.mpr e] at h
      exact List.mem_cons_of_mem _ (ih h)
theorem StOk.get {τ : Store} (h : StOk K H τ) {a : Addr} {mo : MO} (e : τ.lookup a = some mo) : MOk K (dom τ) H a mo := h.ok _ (mem_of_lookup e)
theorem MOk.tr' {a : Addr} {mo : MO} (h : MOk K N H a mo) (ha : H' a = H a) (t : Tr N H N' H') : MOk K N' H' a mo := by
  cases mo with
  | lst ds =>
    obtain ⟨vs, h1, h2⟩ := h
    exact ⟨vs, by rw [ha]; exact h1, h2.tr t⟩
  | ins C dx fs =>
    obtain ⟨vs, h1, h2⟩ := h
    exact ⟨vs, by rw [ha]; exact h1, Paired.mapP h2 fun _ _ q => ⟨q.1, q.2.tr t⟩⟩
  | exc cls => exact ha.trans h
/-- a new object that is data: the store stays -/
theorem StOk.new {τ : Store} (h : StOk K H τ) {p : Addr} {o : HO} (hp : H p = none) : StOk K (upd H p o) τ := by
  refine ⟨h.nd, fun q hq => (h.ok q hq).tr' (upd_ne fun e => ?_) (Tr.new hp)⟩
  obtain ⟨u, hu⟩ := (h.ok q hq).ex
  rw [e, hp] at hu
  cases hu
/-- replace -/
def setS (a : Addr) (mo : MO) : Store → Store
  | [] => []
  | (b, m) :: r => if b = a then (b, mo) :: r else (b, m) :: setS a mo r
theorem dom_setS (a : Addr) (mo : MO) : ∀ τ : Store, dom (setS a mo τ) = dom τ
  | [] => rfl
  | (b, m) :: r => by
    unfold setS
    split
    · rfl
    · show b :: dom (setS a mo r) = b :: dom r
      rw [dom_setS a mo r]
theorem mem_setS {a : Addr} {mo : MO} : ∀ {τ : Store} {p : Addr × MO}, (dom τ).Nodup → p ∈ setS a mo τ → (p = (a, mo)) ∨ (p ∈ τ ∧ p.1 ≠ a)
  | [], p, _, h => by cases h
  | (b, m) :: r, p, nd, h => by
    unfold setS at h
    have hb : b ∉ dom r := (List.nodup_cons.mp nd).1
    split at h
    · rename_i e
      subst e
      rcases List.mem_cons.mp h with h | h
      · exact .inl h
      · refine .inr ⟨List.mem_cons_of_mem _ h, fun e => hb ?_⟩
        rw [← e]
        exact List.mem_map_of_mem h
    · rename_i e
      rcases List.mem_cons.mp h with h | h
      · subst h
        exact .inr ⟨List.mem_cons_self, e⟩
      · rcases mem_setS (List.nodup_cons.mp nd).2 h with q | ⟨q, q2⟩
        · exact .inl q
        · exact .inr ⟨List.mem_cons_of_mem _ q, q2⟩
theorem Tr.write {τ : Store} {a : Addr} {o : HO} (ha : a ∈ dom τ) : Tr (dom τ) H (dom τ) (upd H a o) := fun b u n e => ⟨by
  rw [upd_ne fun q => n (by rw [q]; exact ha)]
  exact e, n⟩
theorem StOk.write {τ : Store} (h : StOk K H τ) {a : Addr} {o : HO} {mo : MO} (ha : a ∈ dom τ) (new : MOk K (dom τ) (upd H a o) a mo) : StOk K (upd H a o) (setS a mo τ) := by
  refine ⟨by rw [dom_setS]; exact h.nd, fun q hq => ?_⟩
  rw [dom_setS]
  rcases mem_setS h.nd hq with rfl | ⟨h1, h2⟩
  · exact new
  · exact (h.ok q h1).tr' (upd_ne h2) (Tr.write ha)
/-- a new object goes onto the store -/
theorem Tr.push {τ : Store} {p : Addr} {o : HO} {mo : MO} (hp : H p = none) : Tr (dom τ) H (dom ((p, mo) :: τ)) (upd H p o) := fun a u n e => by
  have na : a ≠ p := ne_of_none e hp
  refine ⟨by rw [upd_ne na]; exact e, fun q => ?_⟩
  rcases List.mem_cons.mp q with q | q
  · exact na q
  · exact n q
theorem StOk.push {τ : Store} (h : StOk K H τ) {p : Addr} {o : HO} {mo : MO} (hp : H p = none) (new : MOk K (dom ((p, mo) :: τ)) (upd H p o) p mo) : StOk K (upd H p o) ((p, mo) :: τ) := by
  refine ⟨List.nodup_cons.mpr ⟨h.fresh hp, h.nd⟩, fun q hq => ?_⟩
  rcases List.mem_cons.mp hq with rfl | hq
  · exact new
  · refine (h.ok q hq).tr' (upd_ne fun e => ?_) (Tr.push hp)
    obtain ⟨u, hu⟩ := (h.ok q hq).ex
    rw [e, hp] at hu
    cases hu
/-- an object leaves the store: from now on it is data -/
theorem Tr.drop {τ : Store} {p : Addr × MO} : Tr (dom (p :: τ)) H (dom τ) H := fun _ _ n e => ⟨e, fun q => n (List.mem_cons_of_mem _ q)⟩
theorem StOk.drop {τ : Store} {p : Addr × MO} (h : StOk K H (p :: τ)) : StOk K H τ :=
  ⟨(List.nodup_cons.mp h.nd).2, fun q hq => (h.ok q (List.mem_cons_of_mem _ hq)).tr' rfl Tr.drop⟩
end

/-! ### readings that say all: what the machine does -/
section
variable (X : Cx)
def We (e : Expr) : TE := fun σ H Q => ∀ (pins : List (Addr × Obj)) (s : Shared), Inv X pins σ H s → wpAny (model X.prog X.w) X.A (eval e X.env) (EP X pins σ Q) X.xe s
def Wt (e : Expr) : TT := fun σ H Q => ∀ (pins : List (Addr × Obj)) (s : Shared), Inv X pins σ H s → wpAny (model X.prog X.w) X.A (isTrue e X.env (eval e X.env)) (TP X pins σ Q) X.xe s
def Ww (e : Expr) : TT := fun σ H Q => ∀ (wh : Sem Value) (pins : List (Addr × Obj)) (s : Shared), Inv X pins σ H s → wpAny (model X.prog X.w) X.A (isTrue e X.env wh) (TP X pins σ Q) X.xe s
def Wa (es : List Expr) : TA := fun σ H Q => ∀ (pos : Pos) (pins : List (Addr × Obj)) (s : Shared), Inv X pins σ H s → wpAny (model X.prog X.w) X.A (spliced (backTo pos (starEach es X.env))) (AP X pins σ Q) X.xe s
def Ws (st : Stmt) : TS := fun D σ H => ∀ (pins : List (Addr × Obj)) (s : Shared), Inv X pins σ H s → wpAny (model X.prog X.w) X.A (exec st X.env) (SP X pins D) X.xe s
def Wb (st : List Stmt) : TS := fun D σ H => ∀ (pins : List (Addr × Obj)) (s : Shared), Inv X pins σ H s → wpAny (model X.prog X.w) X.A (execs st X.env) (SP X pins D) X.xe s
def Wi (tg iter : Expr) : TI := fun σ H R => ∀ (pins : List (Addr × Obj)) (s : Shared), Inv X pins σ H s →
    wpAny (model X.prog X.w) X.A (eval iter X.env) (fun v s1 => wpAny (model X.prog X.w) X.A (pyIter v) (PIE X pins σ tg R) X.xe s1) X.xe s
def Wf (ifs : List Expr) : TT := fun σ H Q => ∀ (pins : List (Addr × Obj)) (s : Shared), Inv X pins σ H s →
    wpAny (model X.prog X.w) X.A (forIn ifs true fun c r => if r = true then do let ok ← isTrue c X.env (eval c X.env); pure (ForInStep.yield ok) else pure (ForInStep.yield r)) (TP X pins σ Q) X.xe s
end
section
variable {X : Cx} {σ : St} {H : Hp}
theorem pe_we {e : Expr} : PE X e (We X e) := ⟨fun pins s _ _ _ I h => h pins s I⟩
theorem we_of {e : Expr} {t : TE} {Q : VK} (h : PE X e t) (q : t σ H Q) : We X e σ H Q := fun pins s I => h.run pins s σ H Q I q
theorem pt_wt {e : Expr} : PT X e (Wt X e) := ⟨fun pins s _ _ _ I h => h pins s I⟩
theorem wt_of {e : Expr} {t : TT} {Q : Bool → Hp → Prop} (h : PT X e t) (q : t σ H Q) : Wt X e σ H Q := fun pins s I => h.run pins s σ H Q I q
theorem pw_ww {e : Expr} : PW X e (Ww X e) := ⟨fun wh pins s _ _ _ I h => h wh pins s I⟩
theorem ww_of {e : Expr} {t : TT} {Q : Bool → Hp → Prop} (h : PW X e t) (q : t σ H Q) : Ww X e σ H Q := fun wh pins s I => h.run wh pins s σ H Q I q
theorem pa_wa {es : List Expr} : PA X es (Wa X es) := ⟨fun pos pins s _ _ _ I h => h pos pins s I⟩
theorem wa_of {es : List Expr} {t : TA} {Q : List V → Hp → Prop} (h : PA X es t) (q : t σ H Q) : Wa X es σ H Q := fun pos pins s I => h.run pos pins s σ H Q I q
theorem ps_ws {st : Stmt} : PS X st (Ws X st) := ⟨fun pins s _ _ _ I h => h pins s I⟩
theorem ws_of {st : Stmt} {t : TS} {D : Ends} (h : PS X st t) (q : t D σ H) : Ws X st D σ H := fun pins s I => h.run pins s σ H D I q
theorem pss_wb {st : List Stmt} : PSs X st (Wb X st) := ⟨fun pins s _ _ _ I h => h pins s I⟩
theorem wb_of {st : List Stmt} {t : TS} {D : Ends} (h : PSs X st t) (q : t D σ H) : Wb X st D σ H := fun pins s I => h.run pins s σ H D I q
theorem pi_wi {tg iter : Expr} : PI X tg iter (Wi X tg iter) := ⟨fun pins s _ _ _ I h => h pins s I⟩
theorem wi_of {tg iter : Expr} {t : TI} {R : It → Hp → Prop} (h : PI X tg iter t) (q : t σ H R) : Wi X tg iter σ H R := fun pins s I => h.run pins s σ H R I q
theorem pts_wf {ifs : List Expr} : PTs X ifs (Wf X ifs) := ⟨fun pins s _ _ _ I h => h pins s I⟩
theorem wf_of {ifs : List Expr} {t : TT} {Q : Bool → Hp → Prop} (h : PTs X ifs t) (q : t σ H Q) : Wf X ifs σ H Q := fun pins s I => h.run pins s σ H Q I q
end

/-! ### what is wanted behind: over data and store -/
/-- behind a value -/
def Pst (K : PySem.W.Frag) (τ : Store) (H : Hp) (Q : MV → Store → Prop) (QQ : VK) : Prop :=
  ∀ v H' sv τ', Q sv τ' → StOk K H' τ' → Rv K (dom τ') H' v sv → Tr (dom τ) H (dom τ') H' → QQ v H'
def PstB (K : PySem.W.Frag) (τ : Store) (H : Hp) (Q : Bool → Store → Prop) (QQ : Bool → Hp → Prop) : Prop :=
  ∀ b H' τ', Q b τ' → StOk K H' τ' → Tr (dom τ) H (dom τ') H' → QQ b H'
def PstA (K : PySem.W.Frag) (τ : Store) (H : Hp) (Q : List MV → Store → Prop) (QQ : List V → Hp → Prop) : Prop :=
  ∀ vs H' svs τ', Q svs τ' → StOk K H' τ' → RvL K (dom τ') H' vs svs → Tr (dom τ) H (dom τ') H' → QQ vs H'
structure DE where
  nx : En → Store → Prop
  rt : MV → Store → Prop
  bk : En → Store → Prop := fun _ _ => False
  ct : En → Store → Prop := fun _ _ => False
def PstN (K : PySem.W.Frag) (τ : Store) (H : Hp) (Q : En → Store → Prop) (QQ : St → Hp → Prop) : Prop :=
  ∀ σ' H' ρ' τ', Q ρ' τ' → StOk K H' τ' → SlOk K (dom τ') H' σ' ρ' → Tr (dom τ) H (dom τ') H' → QQ σ' H'
structure PstD (K : PySem.W.Frag) (τ : Store) (H : Hp) (D : DE) (DD : Ends) : Prop where
  nx : PstN K τ H D.nx DD.nx
  rt : Pst K τ H D.rt DD.rt
  bk : PstN K τ H D.bk DD.bk
  ct : PstN K τ H D.ct DD.ct
section
variable {K : PySem.W.Frag} {τ τ1 : Store} {H H1 : Hp}
theorem Pst.step {Q : MV → Store → Prop} {QQ : VK} (h : Pst K τ H Q QQ) (t : Tr (dom τ) H (dom τ1) H1) : Pst K τ1 H1 Q QQ := fun v H' sv τ' q o r t' => h v H' sv τ' q o r (t.trans t')
theorem PstB.step {Q : Bool → Store → Prop} {QQ : Bool → Hp → Prop} (h : PstB K τ H Q QQ) (t : Tr (dom τ) H (dom τ1) H1) : PstB K τ1 H1 Q QQ := fun b H' τ' q o t' => h b H' τ' q o (t.trans t')
theorem PstA.step {Q : List MV → Store → Prop} {QQ : List V → Hp → Prop} (h : PstA K τ H Q QQ) (t : Tr (dom τ) H (dom τ1) H1) : PstA K τ1 H1 Q QQ := fun v H' sv τ' q o r t' => h v H' sv τ' q o r (t.trans t')
theorem PstN.step {Q : En → Store → Prop} {QQ : St → Hp → Prop} (h : PstN K τ H Q QQ) (t : Tr (dom τ) H (dom τ1) H1) : PstN K τ1 H1 Q QQ := fun v H' sv τ' q o r t' => h v H' sv τ' q o r (t.trans t')
theorem PstD.step {D : DE} {DD : Ends} (h : PstD K τ H D DD) (t : Tr (dom τ) H (dom τ1) H1) : PstD K τ1 H1 D DD := ⟨h.nx.step t, h.rt.step t, h.bk.step t, h.ct.step t⟩
end

/-! ### the judgements -/
section
variable (X : Cx) (ρ : En) (τ : Store)
structure De (e : Expr) (Q : MV → Store → Prop) : Prop where
  run : ∀ (σ : St) (H : Hp), StOk X.K H τ → SlOk X.K (dom τ) H σ ρ → ∀ QQ : VK, Pst X.K τ H Q QQ → We X e σ H QQ
structure Dt (e : Expr) (Q : Bool → Store → Prop) : Prop where
  run : ∀ (σ : St) (H : Hp), StOk X.K H τ → SlOk X.K (dom τ) H σ ρ → ∀ QQ : Bool → Hp → Prop, PstB X.K τ H Q QQ → Wt X e σ H QQ
structure Dw (e : Expr) (Q : Bool → Store → Prop) : Prop where
  run : ∀ (σ : St) (H : Hp), StOk X.K H τ → SlOk X.K (dom τ) H σ ρ → ∀ QQ : Bool → Hp → Prop, PstB X.K τ H Q QQ → Ww X e σ H QQ
structure Df (ifs : List Expr) (Q : Bool → Store → Prop) : Prop where
  run : ∀ (σ : St) (H : Hp), StOk X.K H τ → SlOk X.K (dom τ) H σ ρ → ∀ QQ : Bool → Hp → Prop, PstB X.K τ H Q QQ → Wf X ifs σ H QQ
structure Da (es : List Expr) (Q : List MV → Store → Prop) : Prop where
  run : ∀ (σ : St) (H : Hp), StOk X.K H τ → SlOk X.K (dom τ) H σ ρ → ∀ QQ : List V → Hp → Prop, PstA X.K τ H Q QQ → Wa X es σ H QQ
structure Ds (st : Stmt) (D : DE) : Prop where
  run : ∀ (σ : St) (H : Hp), StOk X.K H τ → SlOk X.K (dom τ) H σ ρ → ∀ DD : Ends, PstD X.K τ H D DD → Ws X st DD σ H
structure Db (st : List Stmt) (D : DE) : Prop where
  run : ∀ (σ : St) (H : Hp), StOk X.K H τ → SlOk X.K (dom τ) H σ ρ → ∀ DD : Ends, PstD X.K τ H D DD → Wb X st DD σ H
end
/-- an operation on two values, a call on values -/
structure OpD (K : PySem.W.Frag) (r : R2) (x y : MV) (τ : Store) (Q : MV → Store → Prop) : Prop where
  run : ∀ (H : Hp) (v u : V), StOk K H τ → Rv K (dom τ) H v x → Rv K (dom τ) H u y → ∀ QQ : VK, Pst K τ H Q QQ → r v u H QQ
structure CaD (K : PySem.W.Frag) (r : List V → Hp → VK → Prop) (xs : List MV) (τ : Store) (Q : MV → Store → Prop) : Prop where
  run : ∀ (H : Hp) (vs : List V), StOk K H τ → RvL K (dom τ) H vs xs → ∀ QQ : VK, Pst K τ H Q QQ → r vs H QQ
instance {X : Cx} {ρ : En} {τ : Store} {e : Expr} {Q : MV → Store → Prop} : CoeFun (De X ρ τ e Q) fun _ => ∀ (σ : St) (H : Hp), StOk X.K H τ → SlOk X.K (dom τ) H σ ρ → ∀ QQ : VK, Pst X.K τ H Q QQ → We X e σ H QQ := ⟨fun h => h.run⟩
instance {X : Cx} {ρ : En} {τ : Store} {e : Expr} {Q : Bool → Store → Prop} : CoeFun (Dt X ρ τ e Q) fun _ => ∀ (σ : St) (H : Hp), StOk X.K H τ → SlOk X.K (dom τ) H σ ρ → ∀ QQ : Bool → Hp → Prop, PstB X.K τ H Q QQ → Wt X e σ H QQ := ⟨fun h => h.run⟩
instance {X : Cx} {ρ : En} {τ : Store} {e : Expr} {Q : Bool → Store → Prop} : CoeFun (Dw X ρ τ e Q) fun _ => ∀ (σ : St) (H : Hp), StOk X.K H τ → SlOk X.K (dom τ) H σ ρ → ∀ QQ : Bool → Hp → Prop, PstB X.K τ H Q QQ → Ww X e σ H QQ := ⟨fun h => h.run⟩
instance {X : Cx} {ρ : En} {τ : Store} {ifs : List Expr} {Q : Bool → Store → Prop} : CoeFun (Df X ρ τ ifs Q) fun _ => ∀ (σ : St) (H : Hp), StOk X.K H τ → SlOk X.K (dom τ) H σ ρ → ∀ QQ : Bool → Hp → Prop, PstB X.K τ H Q QQ → Wf X ifs σ H QQ := ⟨fun h => h.run⟩
instance {X : Cx} {ρ : En} {τ : Store} {es : List Expr} {Q : List MV → Store → Prop} : CoeFun (Da X ρ τ es Q) fun _ => ∀ (σ : St) (H : Hp), StOk X.K H τ → SlOk X.K (dom τ) H σ ρ → ∀ QQ : List V → Hp → Prop, PstA X.K τ H Q QQ → Wa X es σ H QQ := ⟨fun h => h.run⟩
instance {X : Cx} {ρ : En} {τ : Store} {st : Stmt} {D : DE} : CoeFun (Ds X ρ τ st D) fun _ => ∀ (σ : St) (H : Hp), StOk X.K H τ → SlOk X.K (dom τ) H σ ρ → ∀ DD : Ends, PstD X.K τ H D DD → Ws X st DD σ H := ⟨fun h => h.run⟩
instance {X : Cx} {ρ : En} {τ : Store} {st : List Stmt} {D : DE} : CoeFun (Db X ρ τ st D) fun _ => ∀ (σ : St) (H : Hp), StOk X.K H τ → SlOk X.K (dom τ) H σ ρ → ∀ DD : Ends, PstD X.K τ H D DD → Wb X st DD σ H := ⟨fun h => h.run⟩
instance {K : PySem.W.Frag} {r : R2} {x y : MV} {τ : Store} {Q : MV → Store → Prop} : CoeFun (OpD K r x y τ Q) fun _ => ∀ (H : Hp) (v u : V), StOk K H τ → Rv K (dom τ) H v x → Rv K (dom τ) H u y → ∀ QQ : VK, Pst K τ H Q QQ → r v u H QQ := ⟨fun h => h.run⟩
instance {K : PySem.W.Frag} {r : List V → Hp → VK → Prop} {xs : List MV} {τ : Store} {Q : MV → Store → Prop} : CoeFun (CaD K r xs τ Q) fun _ => ∀ (H : Hp) (vs : List V), StOk K H τ → RvL K (dom τ) H vs xs → ∀ QQ : VK, Pst K τ H Q QQ → r vs H QQ := ⟨fun h => h.run⟩
section
variable {X : Cx} {ρ : En} {τ : Store}
theorem De.mono {e : Expr} {Q Q' : MV → Store → Prop} (h : De X ρ τ e Q) (q : ∀ sv τ', Q sv τ' → Q' sv τ') : De X ρ τ e Q' := .mk fun σ H o l QQ p => h σ H o l QQ fun v H' sv τ' h1 => p v H' sv τ' (q _ _ h1)
theorem Dt.mono {e : Expr} {Q Q' : Bool → Store → Prop} (h : Dt X ρ τ e Q) (q : ∀ b τ', Q b τ' → Q' b τ') : Dt X ρ τ e Q' := .mk fun σ H o l QQ p => h σ H o l QQ fun v H' τ' h1 => p v H' τ' (q _ _ h1)
theorem Df.mono {e : List Expr} {Q Q' : Bool → Store → Prop} (h : Df X ρ τ e Q) (q : ∀ b τ', Q b τ' → Q' b τ') : Df X ρ τ e Q' := .mk fun σ H o l QQ p => h σ H o l QQ fun v H' τ' h1 => p v H' τ' (q _ _ h1)
theorem Da.mono {e : List Expr} {Q Q' : List MV → Store → Prop} (h : Da X ρ τ e Q) (q : ∀ b τ', Q b τ' → Q' b τ') : Da X ρ τ e Q' := .mk fun σ H o l QQ p => h σ H o l QQ fun v H' sv τ' h1 => p v H' sv τ' (q _ _ h1)
end

/-! ### names and constants -/
section
variable {X : Cx} {ρ : En} {τ : Store} {Q : MV → Store → Prop} {pos : Pos}
theorem de_name {x : Str} (i : Nat) {sv : MV} (hN : X.N[i]? = some x) (hv : Vis X.env.scope x) (e : ρ[i]? = some (some sv)) (q : Q sv τ) (hd : (x == ("__debug__" : Str)) = false := by decide) (hcd : (x == ("__classdict__" : Str)) = false := by decide) : De X ρ τ (.Name x pos) Q := .mk fun σ H o l QQ p => by
  obtain ⟨v, h1, h2⟩ := l.ok i sv e
  exact we_of (pe_var hN hv hd hcd) ⟨v, h1, p v H sv τ q o h2 Tr.refl⟩
theorem de_int {i : Int} {j} (q : Q (.val (.int i)) τ) : De X ρ τ (.Constant (.int i) j pos) Q := .mk fun σ H o l QQ p => we_of pe_int (p _ H _ τ q o (Dn.int i) Tr.refl)
theorem de_bool {b : Bool} {j} (q : Q (.val (.bool b)) τ) : De X ρ τ (.Constant (.bool b) j pos) Q := .mk fun σ H o l QQ p => we_of pe_bl (p _ H _ τ q o (Dn.bl b) Tr.refl)
theorem de_none {j} (q : Q (.val .none) τ) : De X ρ τ (.Constant .none j pos) Q := .mk fun σ H o l QQ p => we_of pe_non (p _ H _ τ q o Dn.non Tr.refl)
theorem de_str {x : Str} {j} (q : Q (.val (.str x)) τ) : De X ρ τ (.Constant (.str x) j pos) Q := .mk fun σ H o l QQ p => we_of pe_str (p _ H _ τ q o (Dn.str x) Tr.refl)
/-! ### operators -/
variable {a b c : Expr}
theorem de_op {op : Operator} {r : R2} (ho : OpR X (binaryOp op) r) (h : De X ρ τ a fun x τ1 => De X ρ τ1 b fun y τ2 => OpD X.K r x y τ2 Q) : De X ρ τ (.BinOp a op b pos) Q := .mk fun σ H o l QQ p => by
  refine we_of (pe_op ho pe_we pe_we) (h σ H o l _ fun v H1 x τ1 h1 o1 r1 t1 => ?_)
  exact h1 σ H1 o1 (l.tr t1) _ fun u H2 y τ2 h2 o2 r2 t2 => h2 H2 v u o2 (r1.tr t2) r2 QQ ((p.step t1).step t2)
theorem de_cmp {op : CmpOp} {r : R2} (ho : OpR X (compareOp op) r) (h : De X ρ τ a fun x τ1 => De X ρ τ1 b fun y τ2 => OpD X.K r x y τ2 Q) (hm : behindInMarks op b = false := by rfl) : De X ρ τ (.Compare a [op] [b] pos) Q := .mk fun σ H o l QQ p => by
  refine we_of (pe_cmpR ho pe_we pe_we hm) (h σ H o l _ fun v H1 x τ1 h1 o1 r1 t1 => ?_)
  exact h1 σ H1 o1 (l.tr t1) _ fun u H2 y τ2 h2 o2 r2 t2 => h2 H2 v u o2 (r1.tr t2) r2 QQ ((p.step t1).step t2)
theorem de_chain {op op' : CmpOp} {r r' : R2} (ho : OpR X (compareOp op) r) (ho' : OpR X (compareOp op') r')
    (h : De X ρ τ a fun x τ1 => De X ρ τ1 b fun y τ2 => OpD X.K r x y τ2 fun z τ3 => ∃ k, z = .val (.bool k) ∧ if k = true then De X ρ τ3 c fun u τ4 => OpD X.K r' y u τ4 Q else Q (.val (.bool false)) τ3)
    (hm : lastMarks [op, op'] [b, c] = false := by with_unfolding_all rfl) : De X ρ τ (.Compare a [op, op'] [b, c] pos) Q := .mk fun σ H o l QQ p => by
  refine we_of (pe_chain ho ho' pe_we pe_we pe_we hm) (h σ H o l _ fun v H1 x τ1 h1 o1 r1 t1 => ?_)
  refine h1 σ H1 o1 (l.tr t1) _ fun u H2 y τ2 h2 o2 r2 t2 => ?_
  refine h2 H2 v u o2 (r1.tr t2) r2 _ fun z H3 sz τ3 h3 o3 r3 t3 => ?_
  obtain ⟨k, rfl, h3⟩ := h3
  cases r3
  refine ⟨k, rfl, ?_⟩
  cases k with
  | true =>
    rw [if_pos rfl] at h3 ⊢
    exact h3 σ H3 o3 (((l.tr t1).tr t2).tr t3) _ fun w H4 x4 τ4 h4 o4 r4 t4 => h4 H4 u w o4 ((r2.tr t3).tr t4) r4 QQ ((((p.step t1).step t2).step t3).step t4)
  | false =>
    rw [if_neg Bool.false_ne_true] at h3 ⊢
    exact p _ H3 _ τ3 h3 o3 (Dn.bl false) ((t1.trans t2).trans t3)
end
end Dl

namespace Dl
open PySem PySem.Spec L2

/-! ### what a value bears as data -/
def datOf (τ : Store) : MV → Option PyData
  | .val d => some d
  | .scr ns => some (.list (ns.map .int))
  | .tup _ => none
  | .hdl a => match τ.lookup a with
    | some (.lst ds) => some (.list ds)
    | _ => none
section
variable {K : PySem.W.Frag} {H : Hp} {τ : Store} {v : V} {sv : MV}
theorem hdl_dat {a : Addr} {d : PyData} (e : datOf τ (.hdl a) = some d) : ∃ ds, τ.lookup a = some (.lst ds) ∧ d = .list ds := by
  unfold datOf at e
  simp only at e
  cases h : τ.lookup a with
  | none => rw [h] at e; cases e
  | some mo =>
    rw [h] at e
    cases mo with
    | lst ds => exact ⟨ds, rfl, (Option.some.inj e).symm⟩
    | ins C dx fs => cases e
    | exc cls => cases e
theorem Rv.dp {d : PyData} (o : StOk K H τ) (r : Rv K (dom τ) H v sv) (e : datOf τ sv = some d) : Dp K H v d := by
  cases sv with
  | val d' =>
    cases e
    exact Dn.dp r
  | tup xs => cases e
  | scr ns =>
    cases e
    obtain ⟨a, rfl, h⟩ := r
    exact .lst h.sq (DnL.dp (DnL.of_ints (N := dom τ)))
  | hdl a =>
    obtain ⟨ds, h1, rfl⟩ := hdl_dat e
    obtain ⟨vs, h2, h3⟩ := o.get h1
    cases r
    exact .lst (SqL.of h2) h3.dp
theorem Rv.seqL {ds : List PyData} (o : StOk K H τ) (r : Rv K (dom τ) H v sv) (e : datOf τ sv = some (.list ds)) : ∃ a vs, v = .ref a ∧ SqL K H a vs ∧ DnL K (dom τ) H vs ds := by
  cases sv with
  | val d' =>
    cases e
    cases r with
    | lst n l => exact ⟨_, _, rfl, n.sq, l⟩
  | tup xs => cases e
  | scr ns =>
    cases e
    obtain ⟨a, rfl, h⟩ := r
    exact ⟨a, _, rfl, h.sq, DnL.of_ints⟩
  | hdl a =>
    obtain ⟨ds', h1, e2⟩ := hdl_dat e
    cases e2
    obtain ⟨vs, h2, h3⟩ := o.get h1
    cases r
    exact ⟨a, vs, rfl, SqL.of h2, h3⟩
theorem Rv.seqT {ds : List PyData} (o : StOk K H τ) (r : Rv K (dom τ) H v sv) (e : datOf τ sv = some (.tuple ds)) : ∃ a vs, v = .ref a ∧ NdT (dom τ) H a vs ∧ DnL K (dom τ) H vs ds := by
  cases sv with
  | val d' =>
    cases e
    cases r with
    | tup n l => exact ⟨_, _, rfl, n, l⟩
  | scr ns => cases e
  | tup xs => cases e
  | hdl a =>
    obtain ⟨ds', h1, e2⟩ := hdl_dat e
    cases e2
/-- a list that is tracked as it stands -/
def lstOf (τ : Store) : MV → Option (List PyData)
  | .val (.list ds) => some ds
  | .hdl a => match τ.lookup a with
    | some (.lst ds) => some ds
    | _ => none
  | _ => none
theorem Rv.lstS {ds : List PyData} (o : StOk K H τ) (r : Rv K (dom τ) H v sv) (e : lstOf τ sv = some ds) : ∃ a vs, v = .ref a ∧ H a = some (.lst vs) ∧ DnL K (dom τ) H vs ds := by
  cases sv with
  | val d' =>
    cases d' with
    | list es =>
      cases e
      cases r with
      | lst n l => exact ⟨_, _, rfl, n.2, l⟩
    | _ => cases e
  | scr ns => cases e
  | tup xs => cases e
  | hdl a =>
    unfold lstOf at e
    simp only at e
    cases h : τ.lookup a with
    | none => rw [h] at e; cases e
    | some mo =>
      rw [h] at e
      cases mo with
      | lst es =>
        cases e
        obtain ⟨vs, h2, h3⟩ := o.get h
        cases r
        exact ⟨a, vs, rfl, h2, h3⟩
      | ins C dx fs => cases e
      | exc cls => cases e
/-- a new object laid -/
theorem Pst.tup {Q : MV → Store → Prop} {QQ : VK} {vs : List V} {ds : List PyData} (p : Pst K τ H Q QQ) (o : StOk K H τ) (l : DnL K (dom τ) H vs ds) (q : Q (.val (.tuple ds)) τ) : ∀ a, H a = none → QQ (.ref a) (upd H a (.tup vs)) := fun a ha =>
  p _ _ _ τ q (o.new ha) (Dn.tup ⟨o.fresh ha, upd_same⟩ (l.tr (Tr.new ha))) (Tr.new ha)
theorem Pst.lst {Q : MV → Store → Prop} {QQ : VK} {vs : List V} {ds : List PyData} (p : Pst K τ H Q QQ) (o : StOk K H τ) (l : DnL K (dom τ) H vs ds) (q : Q (.val (.list ds)) τ) : ∀ a, H a = none → QQ (.ref a) (upd H a (.lst vs)) := fun a ha =>
  p _ _ _ τ q (o.new ha) (Dn.lst ⟨o.fresh ha, upd_same⟩ (l.tr (Tr.new ha))) (Tr.new ha)
theorem Pst.lstM {Q : MV → Store → Prop} {QQ : VK} {vs : List V} {ds : List PyData} (p : Pst K τ H Q QQ) (o : StOk K H τ) (l : DnL K (dom τ) H vs ds) (q : ∀ a, a ∉ dom τ → Q (.hdl a) ((a, .lst ds) :: τ)) : ∀ a, H a = none → QQ (.ref a) (upd H a (.lst vs)) := fun a ha =>
  p _ _ (.hdl a) _ (q a (o.fresh ha)) (o.push ha ⟨vs, upd_same, l.tr (Tr.push ha)⟩) rfl (Tr.push ha)
end
theorem small_sz {n : Nat} (h : n ≤ 1000000) : n ≤ sizeLine := Nat.le_trans h (by decide)
theorem small_sz' {n : Nat} (h : n < 1000000) : n < sizeLine := Nat.lt_of_lt_of_le h (by decide)

/-! ### + -/
abbrev rAddS : R2 := fun x y H Q => ∃ i j, x = .str i ∧ y = .str j ∧ i.length + j.length ≤ sizeLine ∧ Q (.str (i ++ j)) H
abbrev rAddI : R2 := rI0 fun i j => .int (i + j)
def rPlus (K : PySem.W.Frag) : R2 := fun x y H Q => rAddI x y H Q ∨ (rCat x y H Q ∨ (rCatA K x y H Q ∨ rAddS x y H Q))
def PlusD (K : PySem.W.Frag) (x y : MV) (τ : Store) (Q : MV → Store → Prop) : Prop := OpD K (rPlus K) x y τ Q
section
variable {K : PySem.W.Frag} {τ : Store} {Q : MV → Store → Prop}
theorem plus_int {i j : Int} (q : Q (.val (.int (i + j))) τ) : PlusD K (.val (.int i)) (.val (.int j)) τ Q := .mk fun H v u o r1 r2 QQ p => by
  cases r1
  cases r2
  exact .inl ⟨i, j, rfl, rfl, p _ H _ τ q o (Dn.int _) Tr.refl⟩
theorem plus_str {i j : Str} (hl : i.length + j.length ≤ 1000000) (q : Q (.val (.str (i ++ j))) τ) : PlusD K (.val (.str i)) (.val (.str j)) τ Q := .mk fun H v u o r1 r2 QQ p => by
  cases r1
  cases r2
  exact .inr (.inr (.inr ⟨i, j, rfl, rfl, small_sz hl, p _ H _ τ q o (Dn.str _) Tr.refl⟩))
theorem plus_lst {x y : MV} {ds es : List PyData} (hx : lstOf τ x = some ds) (hy : lstOf τ y = some es) (hl : ds.length + es.length ≤ 1000000) (q : Q (.val (.list (ds ++ es))) τ) : PlusD K x y τ Q := .mk fun H v u o r1 r2 QQ p => by
  obtain ⟨a, vs, rfl, h1, l1⟩ := r1.lstS o hx
  obtain ⟨b, ws, rfl, h2, l2⟩ := r2.lstS o hy
  refine .inr (.inl ⟨a, b, vs, ws, rfl, rfl, h1, h2, small_sz (by rw [l1.length, l2.length]; exact hl), p.lst o (l1.append l2) q⟩)
/-- a new list that will change -/
theorem plus_lstM {x y : MV} {ds es : List PyData} (hx : lstOf τ x = some ds) (hy : lstOf τ y = some es) (hl : ds.length + es.length ≤ 1000000) (q : ∀ a, a ∉ dom τ → Q (.hdl a) ((a, .lst (ds ++ es)) :: τ)) : PlusD K x y τ Q := .mk fun H v u o r1 r2 QQ p => by
  obtain ⟨a, vs, rfl, h1, l1⟩ := r1.lstS o hx
  obtain ⟨b, ws, rfl, h2, l2⟩ := r2.lstS o hy
  refine .inr (.inl ⟨a, b, vs, ws, rfl, rfl, h1, h2, small_sz (by rw [l1.length, l2.length]; exact hl), p.lstM o (l1.append l2) q⟩)
theorem plus_tup {ds es : List PyData} (hl : ds.length + es.length ≤ 1000000) (q : Q (.val (.tuple (ds ++ es))) τ) : PlusD K (.val (.tuple ds)) (.val (.tuple es)) τ Q := .mk fun H v u o r1 r2 QQ p => by
  cases r1 with
  | @tup a vs _ n1 l1 =>
  cases r2 with
  | @tup b ws _ n2 l2 =>
  refine .inr (.inr (.inl ⟨a, b, vs, ws, rfl, rfl, n1.sq, n2.sq, small_sz (by rw [l1.length, l2.length]; exact hl), fun e => ?_, fun ne e => ?_, fun _ _ => p.tup o (l1.append l2) q⟩))
  · subst e
    cases l1
    exact p _ H _ τ q o (Dn.tup n2 l2) Tr.refl
  · subst e
    cases l2
    rw [List.append_nil] at q
    exact p _ H _ τ q o (Dn.tup n1 l1) Tr.refl
end

/-! ### builtins' names are what they are -/
structure Bl (mg : Str → Option Value) : Prop where
  h_isinstance : mg "isinstance" = none
  h_len : mg "len" = none
  h_all : mg "all" = none
  h_any : mg "any" = none
  h_tuple : mg "tuple" = none
  h_list : mg "list" = none
  h_range : mg "range" = none
  h_min : mg "min" = none
  h_max : mg "max" = none
  h_sum : mg "sum" = none
  h_abs : mg "abs" = none
  h_sorted : mg "sorted" = none
  h_str : mg "str" = none
  h_int : mg "int" = none
  h_bool : mg "bool" = none
  h_enumerate : mg "enumerate" = none
  h_zip : mg "zip" = none
  h_ValueError : mg "ValueError" = none
  h_set : mg "set" = none

section
variable {X : Cx} {ρ : En} {τ : Store} {Q : MV → Store → Prop} {pos p1 : Pos} {a b c : Expr} {es : List Expr}
theorem de_plus (h : De X ρ τ a fun x τ1 => De X ρ τ1 b fun y τ2 => PlusD X.K x y τ2 Q) : De X ρ τ (.BinOp a .Add b pos) Q :=
  de_op (op_add.or (op_cat.or (op_catA.or op_add_str))) h
theorem de_sub (h : De X ρ τ a fun x τ1 => De X ρ τ1 b fun y τ2 => ∃ i j, x = .val (.int i) ∧ y = .val (.int j) ∧ Q (.val (.int (i - j))) τ2) : De X ρ τ (.BinOp a .Sub b pos) Q :=
  de_op op_sub (h.mono fun x τ1 h1 => h1.mono fun y τ2 ⟨i, j, ex, ey, q⟩ => .mk fun H v u o r1 r2 QQ p => by
    subst ex ey
    cases r1
    cases r2
    exact ⟨i, j, rfl, rfl, p _ H _ τ2 q o (Dn.int _) Tr.refl⟩)
theorem de_mod (h : De X ρ τ a fun x τ1 => De X ρ τ1 b fun y τ2 => ∃ i j, x = .val (.int i) ∧ y = .val (.int j) ∧ 0 < j ∧ Q (.val (.int (i % j))) τ2) : De X ρ τ (.BinOp a .Mod b pos) Q :=
  de_op op_mod (h.mono fun x τ1 h1 => h1.mono fun y τ2 ⟨i, j, ex, ey, hj, q⟩ => .mk fun H v u o r1 r2 QQ p => by
    subst ex ey
    cases r1
    cases r2
    exact ⟨i, j, rfl, rfl, hj, p _ H _ τ2 q o (Dn.int _) Tr.refl⟩)
theorem de_fdiv (h : De X ρ τ a fun x τ1 => De X ρ τ1 b fun y τ2 => ∃ i j, x = .val (.int i) ∧ y = .val (.int j) ∧ (0 < j ∧ j < 1073741824) ∧ Q (.val (.int (i / j))) τ2) : De X ρ τ (.BinOp a .FloorDiv b pos) Q :=
  de_op op_fdiv (h.mono fun x τ1 h1 => h1.mono fun y τ2 ⟨i, j, ex, ey, hj, q⟩ => .mk fun H v u o r1 r2 QQ p => by
    subst ex ey
    cases r1
    cases r2
    exact ⟨i, j, rfl, rfl, hj, p _ H _ τ2 q o (Dn.int _) Tr.refl⟩)
theorem de_pow (h : De X ρ τ a fun x τ1 => De X ρ τ1 b fun y τ2 => ∃ i j, x = .val (.int i) ∧ y = .val (.int j) ∧ (0 ≤ j ∧ j ≤ 1000000 ∧ i.natAbs < 2 ^ 64) ∧ Q (.val (.int (i ^ j.toNat))) τ2) : De X ρ τ (.BinOp a .Pow b pos) Q :=
  de_op op_pow (h.mono fun x τ1 h1 => h1.mono fun y τ2 ⟨i, j, ex, ey, hj, q⟩ => .mk fun H v u o r1 r2 QQ p => by
    subst ex ey
    cases r1
    cases r2
    exact ⟨i, j, rfl, rfl, hj, p _ H _ τ2 q o (Dn.int _) Tr.refl⟩)
/-! t * 1, t * 0 -/
theorem tuple_mul_one (l : Addr) (items : Array Value) (n : Nat) (dd : Option Addr) (sl : Array (Option Value)) (u : Tok) :
    Meets (Builtin.«tuple.__mul__» ⟨[.ref l, .int 1 u], []⟩) (fun _ R s => s.heap.get? l = some { cls := .type "tuple", dict := dd, data := .seq items n, slots := sl } ∧ R (.ok (.ret (Value.ref l))) s) :=
  .of_wp fun prog w A R s h => by
    obtain ⟨hp, g, d, tk, os⟩ := s
    obtain ⟨hl, h⟩ := h
    have f1 := AutoSeq1.idx_int
    wp_walk using wpAny_loadPart' hl
    exact ⟨_, rfl, h⟩
theorem tuple_mul_zero (l : Addr) (items : Array Value) (n : Nat) (dd : Option Addr) (sl : Array (Option Value)) (u : Tok) (c1 : items.isEmpty = false) :
    Meets (Builtin.«tuple.__mul__» ⟨[.ref l, .int 0 u], []⟩) (fun _ R s => s.heap.get? l = some { cls := .type "tuple", dict := dd, data := .seq items n, slots := sl } ∧
      R (.ok (.ret (Value.ref s.heap.objs.size))) { s with heap := s.heap.push { cls := Value.type "tuple", data := Data.seq #[] }, toks := s.toks }) :=
  .of_wp fun prog w A R s h => by
    obtain ⟨hp, g, d, tk, os⟩ := s
    obtain ⟨hl, h⟩ := h
    have f1 := AutoSeq1.idx_int
    have c2 : (items.isEmpty || (0 : Int) == 1) = false := by rw [c1]; rfl
    wp_walk using wpAny_loadPart' hl
    exact ⟨_, rfl, h⟩
def rRepT1 (K : PySem.W.Frag) : R2 := fun x y H Q => ∃ l xs, x = .ref l ∧ y = .int 1 ∧ SqT K H l xs ∧ Q (.ref l) H
def rRepT0 (K : PySem.W.Frag) : R2 := fun x y H Q => ∃ l xs, x = .ref l ∧ y = .int 0 ∧ SqT K H l xs ∧ xs ≠ [] ∧ ∀ p, H p = none → Q (.ref p) (upd H p (.tup []))
theorem op_repT1 {X : Cx} : OpR X (binaryOp .Mult) (rRepT1 X.K) := by
  intro pins s σ H x y v u Q I rx ry h
  obtain ⟨l, xs, rfl, rfl, hT, q⟩ := h
  cases rx
  obtain ⟨t, rfl⟩ := ry
  obtain ⟨its, r, ⟨⟨cls, dd, data, sl⟩, ho, hc, n, hd⟩, hs⟩ := I.tuple hT
  simp only at hc hd
  subst hc hd
  refine wpAny_binaryOp_repeat_ref (T := "tuple") (U := "int") (by decide) ⟨_, ho, rfl⟩ (fun s' => typeIs_int s' 1 t) noFill_tuple_mul F.fills_int_mul F.slot_int_rmul repeat_tuple F.slot_int_index.lookup
    (call_meets F.slot_int_rmul (typeIs_int s 1 t) F.entry_int_rmul (F.args_int_rmul_2 _ _) (int_rmul_tuple 1 t l its.toArray n dd sl)
      ⟨ho, rfl, ⟨_, ho, rfl⟩, call_meets F.slot_tuple_mul ⟨_, ho, rfl⟩ F.entry_tuple_mul (F.args_tuple_mul_2 _ _) (tuple_mul_one l its.toArray n dd sl t) ⟨ho, ?_⟩⟩)
  exact ⟨.ref l, H, I, rfl, q⟩
theorem op_repT0 {X : Cx} : OpR X (binaryOp .Mult) (rRepT0 X.K) := by
  intro pins s σ H x y v u Q I rx ry h
  obtain ⟨l, xs, rfl, rfl, hT, hne, q⟩ := h
  cases rx
  obtain ⟨t, rfl⟩ := ry
  obtain ⟨its, r, ⟨⟨cls, dd, data, sl⟩, ho, hc, n, hd⟩, hs⟩ := I.tuple hT
  simp only at hc hd
  subst hc hd
  have hi : its.toArray.isEmpty = false := by
    cases its with
    | nil =>
      cases r
      exact absurd rfl hne
    | cons a b => rfl
  refine wpAny_binaryOp_repeat_ref (T := "tuple") (U := "int") (by decide) ⟨_, ho, rfl⟩ (fun s' => typeIs_int s' 0 t) noFill_tuple_mul F.fills_int_mul F.slot_int_rmul repeat_tuple F.slot_int_index.lookup
    (call_meets F.slot_int_rmul (typeIs_int s 0 t) F.entry_int_rmul (F.args_int_rmul_2 _ _) (int_rmul_tuple 0 t l its.toArray n dd sl)
      ⟨ho, rfl, ⟨_, ho, rfl⟩, call_meets F.slot_tuple_mul ⟨_, ho, rfl⟩ F.entry_tuple_mul (F.args_tuple_mul_2 _ _) (tuple_mul_zero l its.toArray n dd sl t hi) ⟨ho, ?_⟩⟩)
  refine ⟨.ref s.heap.objs.size, _, I.laid (t' := s.toks) (o := .tup []) (fun b ob q => Heap.get?_push_of_some _ q) (Nat.le_refl _) ?_, rfl, q _ (I.hok.fresh (Nat.le_refl _))⟩
  exact ⟨Nat.zero_le _, [], .nil, PyProof.Rows.IsTup.new _ _⟩
/-- * : ints, or a tuple and an int, or a list and an int -/
def rTimes (K : PySem.W.Frag) : R2 := fun x y H Q => rI CMul (fun i j => .int (i * j)) x y H Q ∨ (rRepT K x y H Q ∨ (rRepT1 K x y H Q ∨ (rRepT0 K x y H Q ∨ rRep x y H Q)))
def TimesD (K : PySem.W.Frag) (x y : MV) (τ : Store) (Q : MV → Store → Prop) : Prop := OpD K (rTimes K) x y τ Q
theorem times_int {K : PySem.W.Frag} {i j : Int} (hc : (-(2 ^ 64) < i ∧ i < 2 ^ 64) ∨ (-(2 ^ 64) < j ∧ j < 2 ^ 64)) (q : Q (.val (.int (i * j))) τ) : TimesD K (.val (.int i)) (.val (.int j)) τ Q := .mk fun H v u o r1 r2 QQ p => by
  cases r1
  cases r2
  exact .inl ⟨i, j, rfl, rfl, hc, p _ H _ τ q o (Dn.int _) Tr.refl⟩
theorem DnL.rep {K : PySem.W.Frag} {N : List Addr} {H : Hp} {vs : List V} {ds : List PyData} (h : DnL K N H vs ds) : ∀ k : Nat, DnL K N H (List.replicate k vs).flatten (List.replicate k ds).flatten
  | 0 => .nil
  | k + 1 => by
    rw [List.replicate_succ, List.replicate_succ, List.flatten_cons, List.flatten_cons]
    exact h.append (DnL.rep h k)
theorem times_tup {K : PySem.W.Frag} {ds : List PyData} {k : Int} (h0 : ds ≠ []) (h1 : 2 ≤ k) (h2 : k ≤ 1000) (hl : ds.length ≤ 1000) (q : Q (.val (.tuple (List.replicate k.toNat ds).flatten)) τ) : TimesD K (.val (.tuple ds)) (.val (.int k)) τ Q := .mk fun H v u o r1 r2 QQ p => by
  cases r1 with
  | @tup a vs _ n1 l1 =>
  cases r2
  refine .inr (.inl ⟨a, k, vs, rfl, rfl, n1.sq, fun e => h0 ?_, h1, h2, by rw [l1.length]; exact hl, p.tup o (l1.rep _) q⟩)
  subst e
  cases l1
  rfl
/-- any count from 0 on -/
theorem times_tup' {K : PySem.W.Frag} {ds : List PyData} {k : Int} (h0 : ds ≠ []) (h1 : 0 ≤ k) (h2 : k ≤ 1000) (hl : ds.length ≤ 1000) (q : Q (.val (.tuple (List.replicate k.toNat ds).flatten)) τ) : TimesD K (.val (.tuple ds)) (.val (.int k)) τ Q := by
  by_cases e1 : k = 1
  · subst e1
    refine .mk fun H v u o r1 r2 QQ p => ?_
    have q : Q (.val (.tuple (ds ++ []))) τ := q
    rw [List.append_nil] at q
    cases r1 with
    | @tup a vs _ n1 l1 =>
    cases r2
    exact .inr (.inr (.inl ⟨a, vs, rfl, rfl, n1.sq, p _ H _ τ q o (Dn.tup n1 l1) Tr.refl⟩))
  · by_cases e0 : k = 0
    · subst e0
      refine .mk fun H v u o r1 r2 QQ p => ?_
      cases r1 with
      | @tup a vs _ n1 l1 =>
      cases r2
      refine .inr (.inr (.inr (.inl ⟨a, vs, rfl, rfl, n1.sq, fun e => h0 ?_, p.tup o .nil q⟩)))
      subst e
      cases l1
      rfl
    · exact times_tup h0 (by omega) h2 hl q
theorem times_lst {K : PySem.W.Frag} {x : MV} {ds : List PyData} {k : Int} (hx : lstOf τ x = some ds) (h1 : -1000 ≤ k) (h2 : k ≤ 1000) (hl : ds.length ≤ 1000) (q : Q (.val (.list (List.replicate k.toNat ds).flatten)) τ) : TimesD K x (.val (.int k)) τ Q := .mk fun H v u o r1 r2 QQ p => by
  obtain ⟨a, vs, rfl, e1, l1⟩ := r1.lstS o hx
  cases r2
  refine .inr (.inr (.inr (.inr ⟨a, k, vs, rfl, rfl, e1, by omega, by omega, small_sz ?_, p.lst o (l1.rep _) q⟩)))
  rw [l1.length]
  exact Nat.le_trans (Nat.mul_le_mul hl (show k.toNat ≤ 1000 by omega)) (by decide)
theorem de_times (h : De X ρ τ a fun x τ1 => De X ρ τ1 b fun y τ2 => TimesD X.K x y τ2 Q) : De X ρ τ (.BinOp a .Mult b pos) Q := de_op (op_mul.or (op_repT.or (op_repT1.or (op_repT0.or op_rep)))) h
theorem de_neg (h : De X ρ τ a fun x τ1 => ∃ i, x = .val (.int i) ∧ Q (.val (.int (-i))) τ1) : De X ρ τ (.UnaryOp .USub a pos) Q := .mk fun σ H o l QQ p =>
  we_of (pe_un un_neg pe_we) (h σ H o l _ fun v H1 x τ1 ⟨i, ex, q⟩ o1 r1 t1 => by
    subst ex
    cases r1
    exact ⟨i, rfl, p _ H1 _ τ1 q o1 (Dn.int _) t1⟩)

/-! ### comparisons -/
abbrev BoolQ (Q : Bool → Store → Prop) : MV → Store → Prop := fun z τ => ∃ k, z = .val (.bool k) ∧ Q k τ
theorem dt_cmp {op : CmpOp} {r : R2} {Q : Bool → Store → Prop} (ho : OpR X (compareOp op) r) (h : De X ρ τ a fun x τ1 => De X ρ τ1 b fun y τ2 => OpD X.K r x y τ2 (BoolQ Q)) (hm : behindInMarks op b = false := by rfl) : Dt X ρ τ (.Compare a [op] [b] pos) Q := .mk fun σ H o l QQ p => by
  refine wt_of (pt_cmpR ho pe_we pe_we hm) (h σ H o l _ fun v H1 x τ1 h1 o1 r1 t1 => ?_)
  refine h1 σ H1 o1 (l.tr t1) _ fun u H2 y τ2 h2 o2 r2 t2 => h2 H2 v u o2 (r1.tr t2) r2 _ fun z H3 sz τ3 h3 o3 r3 t3 => ?_
  obtain ⟨k, rfl, h3⟩ := h3
  cases r3
  exact ⟨k, rfl, p k H3 τ3 h3 o3 ((t1.trans t2).trans t3)⟩
theorem dt_chain {op op' : CmpOp} {r r' : R2} {Q : Bool → Store → Prop} (ho : OpR X (compareOp op) r) (ho' : OpR X (compareOp op') r')
    (h : De X ρ τ a fun x τ1 => De X ρ τ1 b fun y τ2 => OpD X.K r x y τ2 fun z τ3 => ∃ k, z = .val (.bool k) ∧ if k = true then De X ρ τ3 c fun u τ4 => OpD X.K r' y u τ4 (BoolQ Q) else Q false τ3)
    (hm : lastMarks [op, op'] [b, c] = false := by with_unfolding_all rfl) : Dt X ρ τ (.Compare a [op, op'] [b, c] pos) Q := .mk fun σ H o l QQ p => by
  refine wt_of (pt_chain ho ho' pe_we pe_we pe_we hm) (h σ H o l _ fun v H1 x τ1 h1 o1 r1 t1 => ?_)
  refine h1 σ H1 o1 (l.tr t1) _ fun u H2 y τ2 h2 o2 r2 t2 => ?_
  refine h2 H2 v u o2 (r1.tr t2) r2 _ fun z H3 sz τ3 h3 o3 r3 t3 => ?_
  obtain ⟨k, rfl, h3⟩ := h3
  cases r3
  refine ⟨k, rfl, ?_⟩
  cases k with
  | true =>
    rw [if_pos rfl] at h3 ⊢
    refine h3 σ H3 o3 (((l.tr t1).tr t2).tr t3) _ fun w H4 x4 τ4 h4 o4 r4 t4 => h4 H4 u w o4 ((r2.tr t3).tr t4) r4 _ fun z' H5 sz' τ5 h5 o5 r5 t5 => ?_
    obtain ⟨k', rfl, h5⟩ := h5
    cases r5
    exact ⟨k', rfl, p k' H5 τ5 h5 o5 ((((t1.trans t2).trans t3).trans t4).trans t5)⟩
  | false =>
    rw [if_neg Bool.false_ne_true] at h3 ⊢
    exact ⟨false, rfl, p false H3 τ3 h3 o3 ((t1.trans t2).trans t3)⟩
/-- two ints compared -/
abbrev IntD (g : Int → Int → Bool) (x y : MV) (τ : Store) (Q : MV → Store → Prop) : Prop := ∃ i j, x = .val (.int i) ∧ y = .val (.int j) ∧ Q (.val (.bool (g i j))) τ
theorem opd_int {K : PySem.W.Frag} {g : Int → Int → Bool} {x y : MV} (h : IntD g x y τ Q) : OpD K (rI0 fun i j => .bl (g i j)) x y τ Q := .mk fun H v u o r1 r2 QQ p => by
  obtain ⟨i, j, rfl, rfl, q⟩ := h
  cases r1
  cases r2
  exact ⟨i, j, rfl, rfl, p _ H _ τ q o (Dn.bl _) Tr.refl⟩
abbrev gLt (i j : Int) : Bool := decide (i < j)
abbrev gLe (i j : Int) : Bool := decide (i ≤ j)
abbrev gGt (i j : Int) : Bool := decide (j < i)
abbrev gGe (i j : Int) : Bool := decide (j ≤ i)
theorem de_lt (h : De X ρ τ a fun x τ1 => De X ρ τ1 b fun y τ2 => IntD gLt x y τ2 Q) : De X ρ τ (.Compare a [.Lt] [b] pos) Q := de_cmp op_lt (h.mono fun x τ1 h1 => h1.mono fun y τ2 h2 => opd_int h2) (nomark b)
theorem de_le (h : De X ρ τ a fun x τ1 => De X ρ τ1 b fun y τ2 => IntD gLe x y τ2 Q) : De X ρ τ (.Compare a [.LtE] [b] pos) Q := de_cmp op_le (h.mono fun x τ1 h1 => h1.mono fun y τ2 h2 => opd_int h2) (nomark b)
theorem de_gt (h : De X ρ τ a fun x τ1 => De X ρ τ1 b fun y τ2 => IntD gGt x y τ2 Q) : De X ρ τ (.Compare a [.Gt] [b] pos) Q := de_cmp op_gt (h.mono fun x τ1 h1 => h1.mono fun y τ2 h2 => opd_int h2) (nomark b)
theorem de_ge (h : De X ρ τ a fun x τ1 => De X ρ τ1 b fun y τ2 => IntD gGe x y τ2 Q) : De X ρ τ (.Compare a [.GtE] [b] pos) Q := de_cmp op_ge (h.mono fun x τ1 h1 => h1.mono fun y τ2 h2 => opd_int h2) (nomark b)
section
variable {Q : Bool → Store → Prop}
theorem dt_lt (h : De X ρ τ a fun x τ1 => De X ρ τ1 b fun y τ2 => IntD gLt x y τ2 (BoolQ Q)) : Dt X ρ τ (.Compare a [.Lt] [b] pos) Q := dt_cmp op_lt (h.mono fun x τ1 h1 => h1.mono fun y τ2 h2 => opd_int h2) (nomark b)
theorem dt_le (h : De X ρ τ a fun x τ1 => De X ρ τ1 b fun y τ2 => IntD gLe x y τ2 (BoolQ Q)) : Dt X ρ τ (.Compare a [.LtE] [b] pos) Q := dt_cmp op_le (h.mono fun x τ1 h1 => h1.mono fun y τ2 h2 => opd_int h2) (nomark b)
theorem dt_gt (h : De X ρ τ a fun x τ1 => De X ρ τ1 b fun y τ2 => IntD gGt x y τ2 (BoolQ Q)) : Dt X ρ τ (.Compare a [.Gt] [b] pos) Q := dt_cmp op_gt (h.mono fun x τ1 h1 => h1.mono fun y τ2 h2 => opd_int h2) (nomark b)
theorem dt_ge (h : De X ρ τ a fun x τ1 => De X ρ τ1 b fun y τ2 => IntD gGe x y τ2 (BoolQ Q)) : Dt X ρ τ (.Compare a [.GtE] [b] pos) Q := dt_cmp op_ge (h.mono fun x τ1 h1 => h1.mono fun y τ2 h2 => opd_int h2) (nomark b)
theorem dt_chain_le (h : De X ρ τ a fun x τ1 => De X ρ τ1 b fun y τ2 => IntD gLe x y τ2 fun z τ3 => ∃ k, z = .val (.bool k) ∧ (k = true → De X ρ τ3 c fun u τ4 => IntD gLe y u τ4 (BoolQ Q)) ∧ (k = false → Q false τ3))
    (hm : lastMarks [.LtE, .LtE] [b, c] = false := by with_unfolding_all rfl) : Dt X ρ τ (.Compare a [.LtE, .LtE] [b, c] pos) Q :=
  dt_chain op_le op_le (h.mono fun x τ1 h1 => h1.mono fun y τ2 ⟨i, j, ex, ey, k, ek, h3, h3'⟩ => opd_int ⟨i, j, ex, ey, k, ek, by
    split
    · rename_i hk
      exact (h3 hk).mono fun u τ4 h4 => opd_int h4
    · rename_i hk
      exact h3' (by simpa using hk)⟩) hm
end
theorem de_chain_le (h : De X ρ τ a fun x τ1 => De X ρ τ1 b fun y τ2 => IntD gLe x y τ2 fun z τ3 => ∃ k, z = .val (.bool k) ∧ (k = true → De X ρ τ3 c fun u τ4 => IntD gLe y u τ4 Q) ∧ (k = false → Q (.val (.bool false)) τ3))
    (hm : lastMarks [.LtE, .LtE] [b, c] = false := by with_unfolding_all rfl) : De X ρ τ (.Compare a [.LtE, .LtE] [b, c] pos) Q :=
  de_chain op_le op_le (h.mono fun x τ1 h1 => h1.mono fun y τ2 ⟨i, j, ex, ey, k, ek, h3, h3'⟩ => opd_int ⟨i, j, ex, ey, k, ek, by
    split
    · rename_i hk
      exact (h3 hk).mono fun u τ4 h4 => opd_int h4
    · rename_i hk
      exact h3' (by simpa using hk)⟩) hm
/-- ==, != of data -/
def EqD (K : PySem.W.Frag) (neg : Bool) (x y : MV) (τ : Store) (Q : MV → Store → Prop) : Prop := OpD K (if neg then rNeD K else rEqD K) x y τ Q
def bneg (neg b : Bool) : Bool := if neg then !b else b
theorem eq_dat {K : PySem.W.Frag} {neg : Bool} {x y : MV} {d e : PyData} (hx : datOf τ x = some d) (hy : datOf τ y = some e) (sd : SeqAt.shaped d = true) (se : SeqAt.shaped e = true) (q : Q (.val (.bool (bneg neg (PyData.eqv d e)))) τ) : EqD K neg x y τ Q := .mk fun H v u o r1 r2 QQ p => by
  cases neg with
  | true => exact ⟨d, e, r1.dp o hx, r2.dp o hy, sd, se, p _ H _ τ q o (Dn.bl _) Tr.refl⟩
  | false => exact ⟨d, e, r1.dp o hx, r2.dp o hy, sd, se, p _ H _ τ q o (Dn.bl _) Tr.refl⟩
theorem de_eq (hu : X.A.units + 64 < cLine) (h : De X ρ τ a fun x τ1 => De X ρ τ1 b fun y τ2 => EqD X.K false x y τ2 Q) : De X ρ τ (.Compare a [.Eq] [b] pos) Q := de_cmp (op_eqD hu) h (nomark b)
theorem de_ne (hu : X.A.units + 64 < cLine) (h : De X ρ τ a fun x τ1 => De X ρ τ1 b fun y τ2 => EqD X.K true x y τ2 Q) : De X ρ τ (.Compare a [.NotEq] [b] pos) Q := de_cmp (op_neD hu) h (nomark b)
theorem dt_eq {Q : Bool → Store → Prop} (hu : X.A.units + 64 < cLine) (h : De X ρ τ a fun x τ1 => De X ρ τ1 b fun y τ2 => EqD X.K false x y τ2 (BoolQ Q)) : Dt X ρ τ (.Compare a [.Eq] [b] pos) Q := dt_cmp (op_eqD hu) h (nomark b)
theorem dt_ne {Q : Bool → Store → Prop} (hu : X.A.units + 64 < cLine) (h : De X ρ τ a fun x τ1 => De X ρ τ1 b fun y τ2 => EqD X.K true x y τ2 (BoolQ Q)) : Dt X ρ τ (.Compare a [.NotEq] [b] pos) Q := dt_cmp (op_neD hu) h (nomark b)
/-- is, is not: None, bools -/
def isR (neg : Bool) : R2 := fun x y H Q => (y = .non ∧ Q (.bl (bneg neg (decide (x = .non)))) H) ∨ ∃ a b : Bool, x = .bl a ∧ y = .bl b ∧ Q (.bl (bneg neg (decide (a = b)))) H
def IsD (K : PySem.W.Frag) (neg : Bool) (x y : MV) (τ : Store) (Q : MV → Store → Prop) : Prop := OpD K (isR neg) x y τ Q
def isNone : PyData → Bool
  | .none => true
  | _ => false
theorem is_none {K : PySem.W.Frag} {neg : Bool} {d : PyData} (q : Q (.val (.bool (bneg neg (isNone d)))) τ) : IsD K neg (.val d) (.val .none) τ Q := .mk fun H v u o r1 r2 QQ p => by
  cases r2
  refine .inl ⟨rfl, ?_⟩
  have e : decide (v = V.non) = isNone d := by
    cases r1 <;> rfl
  rw [e]
  exact p _ H _ τ q o (Dn.bl _) Tr.refl
theorem is_bool {K : PySem.W.Frag} {neg : Bool} {a b : Bool} (q : Q (.val (.bool (bneg neg (decide (a = b))))) τ) : IsD K neg (.val (.bool a)) (.val (.bool b)) τ Q := .mk fun H v u o r1 r2 QQ p => by
  cases r1
  cases r2
  exact .inr ⟨a, b, rfl, rfl, p _ H _ τ q o (Dn.bl _) Tr.refl⟩
theorem op_isR : OpR X (compareOp .Is) (isR false) := fun pins s σ H x y v u Q I rx ry h => h.elim (fun h => op_isN pins s σ H x y v u Q I rx ry h) fun h => op_isBl pins s σ H x y v u Q I rx ry h
theorem op_notR : OpR X (compareOp .IsNot) (isR true) := fun pins s σ H x y v u Q I rx ry h => h.elim (fun h => op_notN pins s σ H x y v u Q I rx ry h) fun h => op_notBl pins s σ H x y v u Q I rx ry h
theorem de_is (h : De X ρ τ a fun x τ1 => De X ρ τ1 b fun y τ2 => IsD X.K false x y τ2 Q) : De X ρ τ (.Compare a [.Is] [b] pos) Q := de_cmp op_isR h (nomark b)
theorem de_isnot (h : De X ρ τ a fun x τ1 => De X ρ τ1 b fun y τ2 => IsD X.K true x y τ2 Q) : De X ρ τ (.Compare a [.IsNot] [b] pos) Q := de_cmp op_notR h (nomark b)
theorem dt_is {Q : Bool → Store → Prop} (h : De X ρ τ a fun x τ1 => De X ρ τ1 b fun y τ2 => IsD X.K false x y τ2 (BoolQ Q)) : Dt X ρ τ (.Compare a [.Is] [b] pos) Q := dt_cmp op_isR h (nomark b)
theorem dt_isnot {Q : Bool → Store → Prop} (h : De X ρ τ a fun x τ1 => De X ρ τ1 b fun y τ2 => IsD X.K true x y τ2 (BoolQ Q)) : Dt X ρ τ (.Compare a [.IsNot] [b] pos) Q := dt_cmp op_notR h (nomark b)
/-- in, not in a list of data, in a list or a tuple of flat things -/
def rInDT (K : PySem.W.Frag) (neg : Bool) : R2 := fun x y H Q => ∃ d ds, Dp K H x d ∧ Dp K H y (.tuple ds) ∧ SeqAt.shaped d = true ∧ SeqAt.shaped (.tuple ds) = true ∧ Q (.bl (if neg then !ds.any (fun z => PyData.eqv z d) else ds.any fun z => PyData.eqv z d)) H
theorem op_inDT {X : Cx} (hu : X.A.units + 65 < cLine) : OpR X (compareOp .In) (rInDT X.K false) := by
  intro pins s σ H x y v u Q I rx ry h
  obtain ⟨d, ds, hd, he, sd, se, q⟩ := h
  obtain ⟨as, r1⟩ := Dp.reads I d x v hd rx
  obtain ⟨bs, r2⟩ := Dp.reads I (.tuple ds) y u he ry
  exact SeqAt.in_tuple_reads r2 r1 (SeqAt.canLay_of_shaped se) (SeqAt.canLay_of_shaped sd) (PyProof.Rows.room_in_shaped sd hu) ⟨.bl _, H, I, rfl, q⟩
theorem op_notInDT {X : Cx} (hu : X.A.units + 65 < cLine) : OpR X (compareOp .NotIn) (rInDT X.K true) := by
  intro pins s σ H x y v u Q I rx ry h
  obtain ⟨d, ds, hd, he, sd, se, q⟩ := h
  obtain ⟨as, r1⟩ := Dp.reads I d x v hd rx
  obtain ⟨bs, r2⟩ := Dp.reads I (.tuple ds) y u he ry
  exact SeqAt.notIn_tuple_reads r2 r1 (SeqAt.canLay_of_shaped se) (SeqAt.canLay_of_shaped sd) (PyProof.Rows.room_in_shaped sd hu) ⟨.bl _, H, I, rfl, q⟩
def rInA (K : PySem.W.Frag) : R2 := fun x y H Q => rInD K x y H Q ∨ (rIn K false x y H Q ∨ rInDT K false x y H Q)
def rNotInA (K : PySem.W.Frag) : R2 := fun x y H Q => rNotInD K x y H Q ∨ (rIn K true x y H Q ∨ rInDT K true x y H Q)
def InD (K : PySem.W.Frag) (neg : Bool) (x y : MV) (τ : Store) (Q : MV → Store → Prop) : Prop := OpD K (if neg then rNotInA K else rInA K) x y τ Q
theorem in_dat {K : PySem.W.Frag} {neg : Bool} {x y : MV} {d : PyData} {ds : List PyData} (hx : datOf τ x = some d) (hy : datOf τ y = some (.list ds)) (sd : SeqAt.shaped d = true) (se : SeqAt.shaped (.list ds) = true) (q : Q (.val (.bool (bneg neg (ds.any fun z => PyData.eqv z d)))) τ) : InD K neg x y τ Q := .mk fun H v u o r1 r2 QQ p => by
  cases neg with
  | true => exact .inl ⟨d, ds, r1.dp o hx, r2.dp o hy, sd, se, p _ H _ τ q o (Dn.bl _) Tr.refl⟩
  | false => exact .inl ⟨d, ds, r1.dp o hx, r2.dp o hy, sd, se, p _ H _ τ q o (Dn.bl _) Tr.refl⟩
theorem inV_int {i : Int} {ns : List Int} : inV (.int i) (ns.map V.int) = decide (i ∈ ns) := by
  unfold inV
  induction ns with
  | nil => rfl
  | cons n ns ih =>
    rw [List.map_cons, List.any_cons, ih]
    by_cases e : n = i
    · subst e
      simp [eqV]
    · have : ¬ i = n := fun z => e z.symm
      simp [eqV, e, this]
theorem flat_ints (ns : List Int) : (ns.map V.int).all flatV = true := by
  rw [List.all_eq_true]
  intro x hx
  obtain ⟨i, _, rfl⟩ := List.mem_map.mp hx
  rfl
/-- an int in a tuple of ints -/
theorem in_intT {K : PySem.W.Frag} {neg : Bool} {i : Int} {ns : List Int} (q : Q (.val (.bool (bneg neg (decide (i ∈ ns))))) τ) : InD K neg (.val (.int i)) (.val (.tuple (ns.map .int))) τ Q := .mk fun H v u o r1 r2 QQ p => by
  cases r1
  obtain ⟨a, vs, rfl, h1, l1⟩ := r2.seqT o (rfl : datOf τ (.val (.tuple (ns.map .int))) = some (.tuple (ns.map .int)))
  have e := l1.ints
  subst e
  cases neg with
  | true => exact .inr <| .inl ⟨a, _, rfl, .inr h1.sq, rfl, flat_ints ns, by
    show QQ (.bl (!inV (.int i) (ns.map V.int))) H
    rw [inV_int]
    exact p _ H _ τ q o (Dn.bl _) Tr.refl⟩
  | false => exact .inr <| .inl ⟨a, _, rfl, .inr h1.sq, rfl, flat_ints ns, by
    show QQ (.bl (inV (.int i) (ns.map V.int))) H
    rw [inV_int]
    exact p _ H _ τ q o (Dn.bl _) Tr.refl⟩
theorem in_datT {K : PySem.W.Frag} {neg : Bool} {x y : MV} {d : PyData} {ds : List PyData} (hx : datOf τ x = some d) (hy : datOf τ y = some (.tuple ds)) (sd : SeqAt.shaped d = true) (se : SeqAt.shaped (.tuple ds) = true) (q : Q (.val (.bool (bneg neg (ds.any fun z => PyData.eqv z d)))) τ) : InD K neg x y τ Q := .mk fun H v u o r1 r2 QQ p => by
  cases neg with
  | true => exact .inr <| .inr ⟨d, ds, r1.dp o hx, r2.dp o hy, sd, se, p _ H _ τ q o (Dn.bl _) Tr.refl⟩
  | false => exact .inr <| .inr ⟨d, ds, r1.dp o hx, r2.dp o hy, sd, se, p _ H _ τ q o (Dn.bl _) Tr.refl⟩
/-- an int in a list of ints -/
theorem in_intL {K : PySem.W.Frag} {neg : Bool} {i : Int} {y : MV} {ns : List Int} (hy : datOf τ y = some (.list (ns.map .int))) (q : Q (.val (.bool (bneg neg (decide (i ∈ ns))))) τ) : InD K neg (.val (.int i)) y τ Q := .mk fun H v u o r1 r2 QQ p => by
  cases r1
  obtain ⟨a, vs, rfl, h1, l1⟩ := r2.seqL o hy
  have e := l1.ints
  subst e
  cases neg with
  | true => exact .inr <| .inl ⟨a, _, rfl, .inl h1, rfl, flat_ints ns, by
    show QQ (.bl (!inV (.int i) (ns.map V.int))) H
    rw [inV_int]
    exact p _ H _ τ q o (Dn.bl _) Tr.refl⟩
  | false => exact .inr <| .inl ⟨a, _, rfl, .inl h1, rfl, flat_ints ns, by
    show QQ (.bl (inV (.int i) (ns.map V.int))) H
    rw [inV_int]
    exact p _ H _ τ q o (Dn.bl _) Tr.refl⟩
theorem de_in (hu : X.A.units + 65 < cLine) (h : De X ρ τ a fun x τ1 => De X ρ τ1 b fun y τ2 => InD X.K false x y τ2 Q) (hm : behindInMarks .In b = false := by rfl) : De X ρ τ (.Compare a [.In] [b] pos) Q := de_cmp ((op_inD hu).or (op_in_seq.or (op_inDT hu))) h hm
theorem de_notin (hu : X.A.units + 65 < cLine) (h : De X ρ τ a fun x τ1 => De X ρ τ1 b fun y τ2 => InD X.K true x y τ2 Q) (hm : behindInMarks .NotIn b = false := by rfl) : De X ρ τ (.Compare a [.NotIn] [b] pos) Q := de_cmp ((op_notInD hu).or (op_notIn_seq.or (op_notInDT hu))) h hm
theorem dt_in {Q : Bool → Store → Prop} (hu : X.A.units + 65 < cLine) (h : De X ρ τ a fun x τ1 => De X ρ τ1 b fun y τ2 => InD X.K false x y τ2 (BoolQ Q)) (hm : behindInMarks .In b = false := by rfl) : Dt X ρ τ (.Compare a [.In] [b] pos) Q := dt_cmp ((op_inD hu).or (op_in_seq.or (op_inDT hu))) h hm
theorem dt_notin {Q : Bool → Store → Prop} (hu : X.A.units + 65 < cLine) (h : De X ρ τ a fun x τ1 => De X ρ τ1 b fun y τ2 => InD X.K true x y τ2 (BoolQ Q)) (hm : behindInMarks .NotIn b = false := by rfl) : Dt X ρ τ (.Compare a [.NotIn] [b] pos) Q := dt_cmp ((op_notInD hu).or (op_notIn_seq.or (op_notInDT hu))) h hm
/-! ### and, or, not, if -/
theorem dt_val {Q : Bool → Store → Prop} (h : De X ρ τ a (BoolQ Q)) (he : ∀ whole, isTrue a X.env whole = (do let v ← whole; standAt a.pos; holding [v] (truthy v)) := by intro _; rfl) : Dt X ρ τ a Q := .mk fun σ H o l QQ p =>
  wt_of (pt_val pe_we he) (h σ H o l _ fun v H1 x τ1 ⟨k, ex, q⟩ o1 r1 t1 => by
    subst ex
    cases r1
    exact ⟨k, rfl, p k H1 τ1 q o1 t1⟩)
theorem dt_not {Q : Bool → Store → Prop} (h : Dt X ρ τ a fun k τ1 => Q (!k) τ1) : Dt X ρ τ (.UnaryOp .Not a pos) Q := .mk fun σ H o l QQ p =>
  wt_of (pt_not pt_wt) (h σ H o l _ fun k H1 τ1 q o1 t1 => p (!k) H1 τ1 q o1 t1)
theorem dt_bool {Q : Bool → Store → Prop} {op es} (h : Dw X ρ τ (.BoolOp op es pos) Q) : Dt X ρ τ (.BoolOp op es pos) Q := .mk fun σ H o l QQ p => wt_of pw_ww.pt (h σ H o l QQ p)
theorem dw_and1 {Q : Bool → Store → Prop} (h : Dt X ρ τ a Q) : Dw X ρ τ (.BoolOp .And [a] pos) Q := .mk fun σ H o l QQ p => ww_of (pw_and1 pt_wt) (h σ H o l QQ p)
theorem dw_or1 {Q : Bool → Store → Prop} (h : Dt X ρ τ a Q) : Dw X ρ τ (.BoolOp .Or [a] pos) Q := .mk fun σ H o l QQ p => ww_of (pw_or1 pt_wt) (h σ H o l QQ p)
theorem dw_and {Q : Bool → Store → Prop} (h : Dt X ρ τ a fun k τ1 => (k = true → Dw X ρ τ1 (.BoolOp .And (b :: es) pos) Q) ∧ (k = false → Q false τ1)) : Dw X ρ τ (.BoolOp .And (a :: b :: es) pos) Q := .mk fun σ H o l QQ p =>
  ww_of (pw_and pt_wt pw_ww) (h σ H o l _ fun k H1 τ1 ⟨q1, q2⟩ o1 t1 => by
    cases k with
    | true => exact iteT (q1 rfl σ H1 o1 (l.tr t1) QQ (p.step t1))
    | false => exact iteF (p false H1 τ1 (q2 rfl) o1 t1))
theorem dw_or {Q : Bool → Store → Prop} (h : Dt X ρ τ a fun k τ1 => (k = true → Q true τ1) ∧ (k = false → Dw X ρ τ1 (.BoolOp .Or (b :: es) pos) Q)) : Dw X ρ τ (.BoolOp .Or (a :: b :: es) pos) Q := .mk fun σ H o l QQ p =>
  ww_of (pw_or pt_wt pw_ww) (h σ H o l _ fun k H1 τ1 ⟨q1, q2⟩ o1 t1 => by
    cases k with
    | true => exact iteT (p true H1 τ1 (q1 rfl) o1 t1)
    | false => exact iteF (q2 rfl σ H1 o1 (l.tr t1) QQ (p.step t1)))
theorem de_one {op} (h : De X ρ τ a Q) : De X ρ τ (.BoolOp op [a] pos) Q := .mk fun σ H o l QQ p => we_of (pe_one pe_we) (h σ H o l QQ p)
theorem de_and (h : De X ρ τ a (BoolQ fun k τ1 => (k = true → De X ρ τ1 (.BoolOp .And (b :: es) pos) Q) ∧ (k = false → Q (.val (.bool false)) τ1))) : De X ρ τ (.BoolOp .And (a :: b :: es) pos) Q := .mk fun σ H o l QQ p =>
  we_of (pe_and pe_we pe_we) (h σ H o l _ fun v H1 x τ1 ⟨k, ex, q1, q2⟩ o1 r1 t1 => by
    subst ex
    cases r1
    refine ⟨k, rfl, ?_⟩
    cases k with
    | true => exact iteT (q1 rfl σ H1 o1 (l.tr t1) QQ (p.step t1))
    | false => exact iteF (p _ H1 _ τ1 (q2 rfl) o1 (Dn.bl _) t1))
theorem de_or (h : De X ρ τ a (BoolQ fun k τ1 => (k = true → Q (.val (.bool true)) τ1) ∧ (k = false → De X ρ τ1 (.BoolOp .Or (b :: es) pos) Q))) : De X ρ τ (.BoolOp .Or (a :: b :: es) pos) Q := .mk fun σ H o l QQ p =>
  we_of (pe_or pe_we pe_we) (h σ H o l _ fun v H1 x τ1 ⟨k, ex, q1, q2⟩ o1 r1 t1 => by
    subst ex
    cases r1
    refine ⟨k, rfl, ?_⟩
    cases k with
    | true => exact iteT (p _ H1 _ τ1 (q1 rfl) o1 (Dn.bl _) t1)
    | false => exact iteF (q2 rfl σ H1 o1 (l.tr t1) QQ (p.step t1)))
theorem de_not (h : De X ρ τ a (BoolQ fun k τ1 => Q (.val (.bool (!k))) τ1)) : De X ρ τ (.UnaryOp .Not a pos) Q := .mk fun σ H o l QQ p =>
  we_of (pe_not pe_we) (h σ H o l _ fun v H1 x τ1 ⟨k, ex, q⟩ o1 r1 t1 => by
    subst ex
    cases r1
    exact ⟨k, rfl, p _ H1 _ τ1 q o1 (Dn.bl _) t1⟩)
theorem de_ifexp (h : Dt X ρ τ a fun k τ1 => (k = true → De X ρ τ1 b Q) ∧ (k = false → De X ρ τ1 c Q)) : De X ρ τ (.IfExp a b c pos) Q := .mk fun σ H o l QQ p =>
  we_of (pe_ifExp pt_wt pe_we pe_we) (h σ H o l _ fun k H1 τ1 ⟨q1, q2⟩ o1 t1 => by
    cases k with
    | true => exact iteT (q1 rfl σ H1 o1 (l.tr t1) QQ (p.step t1))
    | false => exact iteF (q2 rfl σ H1 o1 (l.tr t1) QQ (p.step t1)))
/-! ### argument lists, displays -/
theorem da_nil {Q : List MV → Store → Prop} (q : Q [] τ) : Da X ρ τ [] Q := .mk fun σ H o l QQ p => wa_of pa_nil (p [] H [] τ q o .nil Tr.refl)
theorem da_cons {Q : List MV → Store → Prop} (h : De X ρ τ a fun x τ1 => Da X ρ τ1 es fun xs τ2 => Q (x :: xs) τ2) (hs : starEach (a :: es) X.env = (false, eval a X.env) :: starEach es X.env := by rfl) : Da X ρ τ (a :: es) Q := .mk fun σ H o l QQ p =>
  wa_of (pa_cons pe_we pa_wa hs) (h σ H o l _ fun v H1 x τ1 h1 o1 r1 t1 => h1 σ H1 o1 (l.tr t1) _ fun vs H2 xs τ2 q o2 r2 t2 => p _ H2 _ τ2 q o2 (.cons (r1.tr t2) r2) (t1.trans t2))
/-- all data -/
def vals : List MV → Option (List PyData)
  | [] => some []
  | .val d :: r => (vals r).map (d :: ·)
  | _ :: _ => none
theorem RvL.vals {K : PySem.W.Frag} {N : List Addr} {H : Hp} : ∀ {vs : List V} {svs : List MV} {ds : List PyData}, RvL K N H vs svs → Dl.vals svs = some ds → DnL K N H vs ds
  | _, _, _, .nil, e => by
    cases e
    exact .nil
  | _, .val d :: r, ds, .cons a b, e => by
    unfold Dl.vals at e
    cases h : Dl.vals r with
    | none => rw [h] at e; cases e
    | some es =>
      rw [h] at e
      cases e
      exact .cons a (RvL.vals b h)
  | _, .hdl _ :: _, _, _, e => by cases e
  | _, .scr _ :: _, _, _, e => by cases e
theorem de_tup {x1} (h : Da X ρ τ es fun xs τ1 => ∃ ds, vals xs = some ds ∧ ds.length ≤ 1000000 ∧ Q (.val (.tuple ds)) τ1) : De X ρ τ (.Tuple es x1 pos) Q := .mk fun σ H o l QQ p =>
  we_of (pe_tup pa_wa) (h σ H o l _ fun vs H1 xs τ1 ⟨ds, e, hl, q⟩ o1 r1 t1 => ⟨small_sz (by rw [(r1.vals e).length]; exact hl), (p.step t1).tup o1 (r1.vals e) q⟩)
theorem de_lst (h : Da X ρ τ es fun xs τ1 => ∃ ds, vals xs = some ds ∧ ds.length ≤ 1000000 ∧ Q (.val (.list ds)) τ1) : De X ρ τ (.List es pos) Q := .mk fun σ H o l QQ p =>
  we_of (pe_lst pa_wa) (h σ H o l _ fun vs H1 xs τ1 ⟨ds, e, hl, q⟩ o1 r1 t1 => ⟨small_sz (by rw [(r1.vals e).length]; exact hl), (p.step t1).lst o1 (r1.vals e) q⟩)
/-- a new list that will change -/
theorem de_lstM (h : Da X ρ τ es fun xs τ1 => ∃ ds, vals xs = some ds ∧ ds.length ≤ 1000000 ∧ ∀ l, l ∉ dom τ1 → Q (.hdl l) ((l, .lst ds) :: τ1)) : De X ρ τ (.List es pos) Q := .mk fun σ H o l QQ p =>
  we_of (pe_lst pa_wa) (h σ H o l _ fun vs H1 xs τ1 ⟨ds, e, hl, q⟩ o1 r1 t1 => ⟨small_sz (by rw [(r1.vals e).length]; exact hl), (p.step t1).lstM o1 (r1.vals e) q⟩)
end
end Dl

namespace Dl
open PySem PySem.Spec L2

/-! ### subscripts -/
section
variable {X : Cx} {ρ : En} {τ : Store} {Q : MV → Store → Prop} {pos p1 p2 p3 : Pos} {a b c : Expr} {es : List Expr}
def IxD (K : PySem.W.Frag) (x y : MV) (τ : Store) (Q : MV → Store → Prop) : Prop := OpD K (rIx K) x y τ Q
theorem atI_dn {K : PySem.W.Frag} {N : List Addr} {H : Hp} {vs : List V} {ds : List PyData} {i : Int} {d : PyData} (l : DnL K N H vs ds) (e : atI ds i = some d) : ∃ v, atI vs i = some v ∧ Dn K N H v d := by
  unfold atI at e ⊢
  rw [← l.length] at e
  cases h : ixN vs.length i with
  | none => rw [h] at e; cases e
  | some j =>
    rw [h] at e
    exact l.getD e
theorem ix_lst {K : PySem.W.Frag} {x : MV} {ds : List PyData} {i : Int} {d : PyData} (hx : datOf τ x = some (.list ds)) (e : atI ds i = some d) (q : Q (.val d) τ) : IxD K x (.val (.int i)) τ Q := .mk fun H v u o r1 r2 QQ p => by
  obtain ⟨a, vs, rfl, h1, l1⟩ := r1.seqL o hx
  cases r2
  obtain ⟨w, h2, h3⟩ := atI_dn l1 e
  exact .inl ⟨a, vs, i, w, rfl, rfl, h1, h2, p _ H _ τ q o h3 Tr.refl⟩
theorem ix_tup' {K : PySem.W.Frag} {ds : List PyData} {i : Int} {d : PyData} (e : atI ds i = some d) (q : Q (.val d) τ) : IxD K (.val (.tuple ds)) (.val (.int i)) τ Q := .mk fun H v u o r1 r2 QQ p => by
  obtain ⟨a, vs, rfl, h1, l1⟩ := r1.seqT o (rfl : datOf τ (.val (.tuple ds)) = some (.tuple ds))
  cases r2
  obtain ⟨w, h2, h3⟩ := atI_dn l1 e
  exact .inr (.inl ⟨a, vs, i, w, rfl, rfl, h1.sq, h2, p _ H _ τ q o h3 Tr.refl⟩)
theorem ix_str' {K : PySem.W.Frag} {z : Str} {i : Int} {ch : Nat} (hz : z.length ≤ 1000000) (e : atI z.cps.toList i = some ch) (q : Q (.val (.str ⟨#[ch]⟩)) τ) : IxD K (.val (.str z)) (.val (.int i)) τ Q := .mk fun H v u o r1 r2 QQ p => by
  cases r1
  cases r2
  exact .inr (.inr ⟨z, i, ch, rfl, rfl, small_sz hz, e, p _ H _ τ q o (Dn.str _) Tr.refl⟩)
theorem de_ix (h : De X ρ τ a fun x τ1 => De X ρ τ1 b fun y τ2 => IxD X.K x y τ2 Q) (hs : PlainIx b := by exact fun _ _ => rfl) : De X ρ τ (.Subscript a b pos) Q := .mk fun σ H o l QQ p => by
  refine we_of (pe_ix ix_seq pe_we pe_we hs) (h σ H o l _ fun v H1 x τ1 h1 o1 r1 t1 => ?_)
  exact h1 σ H1 o1 (l.tr t1) _ fun u H2 y τ2 h2 o2 r2 t2 => OpD.run h2 H2 v u o2 (r1.tr t2) r2 QQ ((p.step t1).step t2)
/-! slices -/
def cutD (ds : List PyData) (lo hi : Option Int) : List PyData := (ds.drop (HT.sIx ds.length 0 lo)).take (HT.sIx ds.length ds.length hi - HT.sIx ds.length 0 lo)
def Do (X : Cx) (ρ : En) (τ : Store) (e : Option Expr) (Q : Option Int → Store → Prop) : Prop := match e with
  | none => Q none τ
  | some e => De X ρ τ e fun x τ1 => ∃ i, x = .val (.int i) ∧ Q (some i) τ1
def Wo (X : Cx) (e : Option Expr) : TO := match e with
  | none => tNoPart
  | some e => tPart (We X e)
theorem po_wo {e : Option Expr} : PO X e (Wo X e) := by
  cases e with
  | none => exact po_none
  | some e => exact po_some pe_we
theorem wo_of {e : Option Expr} {σ : L2.St} {H : Hp} {Q : Option Int → Store → Prop} (h : Do X ρ τ e Q) (o : StOk X.K H τ) (l : SlOk X.K (dom τ) H σ ρ) {QQ : Option Int → Hp → Prop}
    (p : ∀ i H' τ', Q i τ' → StOk X.K H' τ' → Tr (dom τ) H (dom τ') H' → QQ i H') : Wo X e σ H QQ := by
  cases e with
  | none => exact p none H τ h o Tr.refl
  | some e =>
    refine De.run (show De X ρ τ e _ from h) σ H o l _ fun v H1 x τ1 ⟨i, ex, q⟩ o1 r1 t1 => ?_
    subst ex
    cases r1
    exact ⟨i, rfl, p (some i) H1 τ1 q o1 t1⟩
theorem do_none {Q : Option Int → Store → Prop} (q : Q none τ) : Do X ρ τ none Q := q
theorem do_some {Q : Option Int → Store → Prop} {e : Expr} (h : De X ρ τ e fun x τ1 => ∃ i, x = .val (.int i) ∧ Q (some i) τ1) : Do X ρ τ (some e) Q := h
def rSl (K : PySem.W.Frag) : V → Option Int → Option Int → Hp → VK → Prop := fun x lo hi H Q => rSlL K x lo hi H Q ∨ (rSlA K x lo hi H Q ∨ (∃ z, x = .str z ∧ z.length ≤ sizeLine ∧ Q (.str (cutS z lo hi)) H))
structure SlD (K : PySem.W.Frag) (x : MV) (lo hi : Option Int) (τ : Store) (Q : MV → Store → Prop) : Prop where
  run : ∀ (H : Hp) (v : V), StOk K H τ → Rv K (dom τ) H v x → ∀ QQ : VK, Pst K τ H Q QQ → rSl K v lo hi H QQ
instance {K : PySem.W.Frag} {x : MV} {lo hi : Option Int} {τ : Store} {Q : MV → Store → Prop} : CoeFun (SlD K x lo hi τ Q) fun _ => ∀ (H : Hp) (v : V), StOk K H τ → Rv K (dom τ) H v x → ∀ QQ : VK, Pst K τ H Q QQ → rSl K v lo hi H QQ := ⟨fun h => h.run⟩
theorem sl_all : SlR X (rSl X.K) := SlR.or sl_list (SlR.or sl_tupA sl_str)
theorem DnL.cut {K : PySem.W.Frag} {N : List Addr} {H : Hp} {vs : List V} {ds : List PyData} (l : DnL K N H vs ds) (lo hi : Option Int) : DnL K N H (cutV vs lo hi) (cutD ds lo hi) := by
  unfold cutV cutD
  rw [l.length]
  exact (l.drop _).take _
theorem sl_lst {K : PySem.W.Frag} {x : MV} {ds : List PyData} {lo hi : Option Int} (hx : datOf τ x = some (.list ds)) (q : Q (.val (.list (cutD ds lo hi))) τ) : SlD K x lo hi τ Q := .mk fun H v o r1 QQ p => by
  obtain ⟨a, vs, rfl, h1, l1⟩ := r1.seqL o hx
  exact .inl ⟨a, vs, rfl, h1, p.lst o (l1.cut lo hi) q⟩
theorem cutD_whole {ds : List PyData} {lo hi : Option Int} (hw : HT.sIx ds.length 0 lo = 0 ∧ HT.sIx ds.length ds.length hi = ds.length) : cutD ds lo hi = ds := by
  unfold cutD
  rw [hw.1, hw.2, List.drop_zero, Nat.sub_zero, List.take_length]
theorem sl_tup' {K : PySem.W.Frag} {ds : List PyData} {lo hi : Option Int} (q : Q (.val (.tuple (cutD ds lo hi))) τ) : SlD K (.val (.tuple ds)) lo hi τ Q := .mk fun H v o r1 QQ p => by
  obtain ⟨a, vs, rfl, h1, l1⟩ := r1.seqT o (rfl : datOf τ (.val (.tuple ds)) = some (.tuple ds))
  refine .inr (.inl ⟨a, vs, rfl, h1.sq, fun hw => ?_, fun hw => p.tup o (l1.cut lo hi) q⟩)
  rw [l1.length] at hw
  rw [cutD_whole hw] at q
  exact p _ H _ τ q o (Dn.tup h1 l1) Tr.refl
theorem sl_str' {K : PySem.W.Frag} {z : Str} {lo hi : Option Int} (hz : z.length ≤ 1000000) (q : Q (.val (.str (cutS z lo hi))) τ) : SlD K (.val (.str z)) lo hi τ Q := .mk fun H v o r1 QQ p => by
  cases r1
  exact .inr (.inr ⟨z, rfl, small_sz hz, p _ H _ τ q o (Dn.str _) Tr.refl⟩)
theorem de_slice {lo hi : Option Expr} (h : De X ρ τ a fun x τ1 => Do X ρ τ1 lo fun i τ2 => Do X ρ τ2 hi fun j τ3 => SlD X.K x i j τ3 Q) : De X ρ τ (.Subscript a (.Slice lo hi none p2) pos) Q := .mk fun σ H o l QQ p => by
  refine we_of (pe_slice sl_all pe_we po_wo po_wo) (h σ H o l _ fun v H1 x τ1 h1 o1 r1 t1 => ?_)
  refine wo_of h1 o1 (l.tr t1) fun i H2 τ2 h2 o2 t2 => wo_of h2 o2 ((l.tr t1).tr t2) fun j H3 τ3 h3 o3 t3 => ?_
  exact h3 H3 v o3 ((r1.tr t2).tr t3) QQ (((p.step t1).step t2).step t3)

/-! ### calls of builtins -/
theorem de_callB {r : List V → Hp → VK → Prop} {id : String} {x : Str} (hc : CallR X (.builtin id) r) (hg : Gl X x) (hm : X.mg x = none) (hv : bootBuiltins x = some (.builtin id)) (h : Da X ρ τ (a :: es) fun xs τ1 => CaD X.K r xs τ1 Q)
    (he : starEach (a :: es) X.env = (false, eval a X.env) :: starEach es X.env := by rfl) (hpl : (backTo pos (starEach es X.env)).any (·.1) = false := by rfl) (hn : x ≠ "__name__" := by decide) (hdb : (x == ("__debug__" : Str)) = false := by decide) :
    De X ρ τ (.Call (.Name x p1) (a :: es) [] pos) Q := .mk fun σ H o l QQ p =>
  we_of (pe_callB hc hg hm hv pa_wa hn hdb he hpl) (h σ H o l _ fun vs H1 xs τ1 h1 o1 r1 t1 => h1 H1 vs o1 r1 QQ (p.step t1))
theorem de_callTy {r : List V → Hp → VK → Prop} {T : String} {x : Str} (hc : CallR X (.type T) r) (hg : Gl X x) (hm : X.mg x = none) (hv : bootBuiltins x = some (.type T)) (h : Da X ρ τ (a :: es) fun xs τ1 => CaD X.K r xs τ1 Q)
    (he : starEach (a :: es) X.env = (false, eval a X.env) :: starEach es X.env := by rfl) (hpl : (backTo pos (starEach es X.env)).any (·.1) = false := by rfl) (hn : x ≠ "__name__" := by decide) (hdb : (x == ("__debug__" : Str)) = false := by decide) :
    De X ρ τ (.Call (.Name x p1) (a :: es) [] pos) Q := .mk fun σ H o l QQ p =>
  we_of (pe_callTy hc hg hm hv pa_wa hn hdb he hpl) (h σ H o l _ fun vs H1 xs τ1 h1 o1 r1 t1 => h1 H1 vs o1 r1 QQ (p.step t1))
theorem paired1 {α β : Type} {R : α → β → Prop} {vs : List α} {x : β} (h : Paired R vs [x]) : ∃ v, vs = [v] ∧ R v x := by
  cases h with
  | cons a b =>
    cases b
    exact ⟨_, rfl, a⟩
theorem paired2 {α β : Type} {R : α → β → Prop} {vs : List α} {x y : β} (h : Paired R vs [x, y]) : ∃ v u, vs = [v, u] ∧ R v x ∧ R u y := by
  cases h with
  | cons a b =>
    cases b with
    | cons c d =>
      cases d
      exact ⟨_, _, rfl, a, c⟩
/-! len -/
def LenD (K : PySem.W.Frag) (x : MV) (τ : Store) (Q : MV → Store → Prop) : Prop := CaD K (fun xs H Q => ∃ x n, xs = [x] ∧ LenV K x H n ∧ Q (.int n) H) [x] τ Q
theorem da_one {Q : List MV → Store → Prop} (h : De X ρ τ a fun x τ1 => Q [x] τ1) (hs : starEach [a] X.env = (false, eval a X.env) :: starEach [] X.env := by rfl) : Da X ρ τ [a] Q := da_cons (h.mono fun x τ1 h1 => da_nil h1) hs
theorem da_two {Q : List MV → Store → Prop} (h : De X ρ τ a fun x τ1 => De X ρ τ1 b fun y τ2 => Q [x, y] τ2) (hs : starEach [a, b] X.env = (false, eval a X.env) :: starEach [b] X.env := by rfl) (hs2 : starEach [b] X.env = (false, eval b X.env) :: starEach [] X.env := by rfl) : Da X ρ τ [a, b] Q :=
  da_cons (h.mono fun x τ1 h1 => da_one h1 hs2) hs
theorem de_len (B : Bl X.mg) (hg : Gl X "len") (h : De X ρ τ a fun x τ1 => LenD X.K x τ1 Q)
    (hs : starEach [a] X.env = (false, eval a X.env) :: starEach [] X.env := by rfl) : De X ρ τ (.Call (.Name "len" p1) [a] [] pos) Q := de_callB call_len hg B.h_len PySem.boot_len (da_one h hs) hs rfl
theorem len_lst {K : PySem.W.Frag} {x : MV} {ds : List PyData} (hx : datOf τ x = some (.list ds)) (q : Q (.val (.int ds.length)) τ) : LenD K x τ Q := .mk fun H vs o r QQ p => by
  obtain ⟨v, rfl, r1⟩ := paired1 r
  obtain ⟨a, ws, rfl, h1, l1⟩ := r1.seqL o hx
  exact ⟨_, ds.length, rfl, .inl ⟨ws, h1, l1.length.symm⟩, p _ H _ τ q o (Dn.int _) Tr.refl⟩
theorem len_tup {K : PySem.W.Frag} {ds : List PyData} (q : Q (.val (.int ds.length)) τ) : LenD K (.val (.tuple ds)) τ Q := .mk fun H vs o r QQ p => by
  obtain ⟨v, rfl, r1⟩ := paired1 r
  obtain ⟨a, ws, rfl, h1, l1⟩ := r1.seqT o (rfl : datOf τ (.val (.tuple ds)) = some (.tuple ds))
  exact ⟨_, ds.length, rfl, .inr ⟨ws, h1.sq, l1.length.symm⟩, p _ H _ τ q o (Dn.int _) Tr.refl⟩
theorem len_str {K : PySem.W.Frag} {z : Str} (hz : z.length ≤ 1000000) (q : Q (.val (.int z.length)) τ) : LenD K (.val (.str z)) τ Q := .mk fun H vs o r QQ p => by
  obtain ⟨v, rfl, r1⟩ := paired1 r
  cases r1
  exact ⟨_, z.length, rfl, ⟨small_sz hz, rfl⟩, p _ H _ τ q o (Dn.int _) Tr.refl⟩
/-! tuple, list -/
def TupD (K : PySem.W.Frag) (x : MV) (τ : Store) (Q : MV → Store → Prop) : Prop := CaD K (fun xs H Q => ∃ p ys, xs = [.ref p] ∧ ((SqL K H p ys ∧ ∀ l, H l = none → Q (.ref l) (upd H l (.tup ys))) ∨ (SqT K H p ys ∧ Q (.ref p) H))) [x] τ Q
theorem de_tuple (B : Bl X.mg) (hg : Gl X "tuple") (h : De X ρ τ a fun x τ1 => TupD X.K x τ1 Q)
    (hs : starEach [a] X.env = (false, eval a X.env) :: starEach [] X.env := by rfl) : De X ρ τ (.Call (.Name "tuple" p1) [a] [] pos) Q := de_callTy call_tuple_of hg B.h_tuple (by decide +kernel) (da_one h hs) hs rfl
theorem tup_lst {K : PySem.W.Frag} {x : MV} {ds : List PyData} (hx : datOf τ x = some (.list ds)) (q : Q (.val (.tuple ds)) τ) : TupD K x τ Q := .mk fun H vs o r QQ p => by
  obtain ⟨v, rfl, r1⟩ := paired1 r
  obtain ⟨a, ws, rfl, h1, l1⟩ := r1.seqL o hx
  exact ⟨a, ws, rfl, .inl ⟨h1, p.tup o l1 q⟩⟩
theorem tup_tup {K : PySem.W.Frag} {ds : List PyData} (q : Q (.val (.tuple ds)) τ) : TupD K (.val (.tuple ds)) τ Q := .mk fun H vs o r QQ p => by
  obtain ⟨v, rfl, r1⟩ := paired1 r
  obtain ⟨a, ws, rfl, h1, l1⟩ := r1.seqT o (rfl : datOf τ (.val (.tuple ds)) = some (.tuple ds))
  exact ⟨a, ws, rfl, .inr ⟨h1.sq, p _ H _ τ q o (Dn.tup h1 l1) Tr.refl⟩⟩
def LstD (K : PySem.W.Frag) (x : MV) (τ : Store) (Q : MV → Store → Prop) : Prop := CaD K (fun xs H Q => ∃ p ys, xs = [.ref p] ∧ (SqL K H p ys ∨ SqT K H p ys) ∧ ∀ l, H l = none → Q (.ref l) (upd H l (.lst ys))) [x] τ Q
theorem de_list (B : Bl X.mg) (hg : Gl X "list") (h : De X ρ τ a fun x τ1 => LstD X.K x τ1 Q)
    (hs : starEach [a] X.env = (false, eval a X.env) :: starEach [] X.env := by rfl) : De X ρ τ (.Call (.Name "list" p1) [a] [] pos) Q := de_callTy call_list_of hg B.h_list (by decide +kernel) (da_one h hs) hs rfl
theorem lst_lst {K : PySem.W.Frag} {x : MV} {ds : List PyData} (hx : datOf τ x = some (.list ds)) (q : Q (.val (.list ds)) τ) : LstD K x τ Q := .mk fun H vs o r QQ p => by
  obtain ⟨v, rfl, r1⟩ := paired1 r
  obtain ⟨a, ws, rfl, h1, l1⟩ := r1.seqL o hx
  exact ⟨a, ws, rfl, .inl h1, p.lst o l1 q⟩
/-! two ints: min, max; abs -/
abbrev MinD (K : PySem.W.Frag) (x y : MV) (τ : Store) (Q : MV → Store → Prop) : Prop := ∃ i j, x = .val (.int i) ∧ y = .val (.int j) ∧ Q (.val (.int (min i j))) τ
abbrev MaxD (K : PySem.W.Frag) (x y : MV) (τ : Store) (Q : MV → Store → Prop) : Prop := ∃ i j, x = .val (.int i) ∧ y = .val (.int j) ∧ Q (.val (.int (max i j))) τ
theorem de_min2 (B : Bl X.mg) (hc : X.calm = true) (hg : Gl X "min") (h : De X ρ τ a fun x τ1 => De X ρ τ1 b fun y τ2 => MinD X.K x y τ2 Q)
    (hs : starEach [a, b] X.env = (false, eval a X.env) :: starEach [b] X.env := by rfl) (hs2 : starEach [b] X.env = (false, eval b X.env) :: starEach [] X.env := by rfl) (hpl : (backTo pos (starEach [b] X.env)).any (·.1) = false := by rfl) : De X ρ τ (.Call (.Name "min" p1) [a, b] [] pos) Q :=
  de_callB (call_min2 hc) hg B.h_min (by decide +kernel) (da_two (h.mono fun x τ1 h1 => h1.mono fun y τ2 ⟨i, j, ex, ey, q⟩ => .mk fun H vs o r QQ p => by
    subst ex ey
    obtain ⟨v, u, rfl, r1, r2⟩ := paired2 r
    cases r1
    cases r2
    refine ⟨i, j, rfl, p _ H _ τ2 q o ?_ Tr.refl⟩
    have e : (if j < i then j else i) = min i j := by omega
    rw [e]
    exact Dn.int _) hs hs2) hs hpl
theorem de_max2 (B : Bl X.mg) (hc : X.calm = true) (hg : Gl X "max") (h : De X ρ τ a fun x τ1 => De X ρ τ1 b fun y τ2 => MaxD X.K x y τ2 Q)
    (hs : starEach [a, b] X.env = (false, eval a X.env) :: starEach [b] X.env := by rfl) (hs2 : starEach [b] X.env = (false, eval b X.env) :: starEach [] X.env := by rfl) (hpl : (backTo pos (starEach [b] X.env)).any (·.1) = false := by rfl) : De X ρ τ (.Call (.Name "max" p1) [a, b] [] pos) Q :=
  de_callB (call_max2 hc) hg B.h_max (by decide +kernel) (da_two (h.mono fun x τ1 h1 => h1.mono fun y τ2 ⟨i, j, ex, ey, q⟩ => .mk fun H vs o r QQ p => by
    subst ex ey
    obtain ⟨v, u, rfl, r1, r2⟩ := paired2 r
    cases r1
    cases r2
    refine ⟨i, j, rfl, p _ H _ τ2 q o ?_ Tr.refl⟩
    have e : (if j > i then j else i) = max i j := by omega
    rw [e]
    exact Dn.int _) hs hs2) hs hpl
theorem de_abs (B : Bl X.mg) (hg : Gl X "abs") (h : De X ρ τ a fun x τ1 => ∃ i, x = .val (.int i) ∧ Q (.val (.int (if i < 0 then -i else i))) τ1)
    (hs : starEach [a] X.env = (false, eval a X.env) :: starEach [] X.env := by rfl) : De X ρ τ (.Call (.Name "abs" p1) [a] [] pos) Q :=
  de_callB call_abs hg B.h_abs (by decide +kernel) (da_one (h.mono fun x τ1 ⟨i, ex, q⟩ => .mk fun H vs o r QQ p => by
    subst ex
    obtain ⟨v, rfl, r1⟩ := paired1 r
    cases r1
    exact ⟨i, rfl, p _ H _ τ1 q o (Dn.int _) Tr.refl⟩) hs) hs rfl
/-! lists of ints, of bools -/
theorem Rv.intsL {K : PySem.W.Frag} {H : Hp} {v : V} {x : MV} {ns : List Int} (o : StOk K H τ) (r : Rv K (dom τ) H v x) (e : datOf τ x = some (.list (ns.map .int))) : ∃ a, v = .ref a ∧ SqL K H a (ns.map V.int) := by
  obtain ⟨a, vs, rfl, h1, l1⟩ := r.seqL o e
  rw [l1.ints] at h1
  exact ⟨a, rfl, h1⟩
theorem Rv.boolsL {K : PySem.W.Frag} {H : Hp} {v : V} {x : MV} {bs : List Bool} (o : StOk K H τ) (r : Rv K (dom τ) H v x) (e : datOf τ x = some (.list (bs.map .bool))) : ∃ a, v = .ref a ∧ SqL K H a (bs.map V.bl) := by
  obtain ⟨a, vs, rfl, h1, l1⟩ := r.seqL o e
  rw [l1.bools] at h1
  exact ⟨a, rfl, h1⟩
theorem de_sum (B : Bl X.mg) (hc : X.calm = true) (hg : Gl X "sum") (h : De X ρ τ a fun x τ1 => ∃ ns : List Int, datOf τ1 x = some (.list (ns.map .int)) ∧ Q (.val (.int ns.sum)) τ1)
    (hs : starEach [a] X.env = (false, eval a X.env) :: starEach [] X.env := by rfl) : De X ρ τ (.Call (.Name "sum" p1) [a] [] pos) Q :=
  de_callB (cr_sum hc) hg B.h_sum (by decide +kernel) (da_one (h.mono fun x τ1 ⟨ns, ex, q⟩ => .mk fun H vs o r QQ p => by
    obtain ⟨v, rfl, r1⟩ := paired1 r
    obtain ⟨a, rfl, h1⟩ := r1.intsL o ex
    exact ⟨a, ns, rfl, h1, p _ H _ τ1 q o (Dn.int _) Tr.refl⟩) hs) hs rfl
def IsMax (ns : List Int) (m : Int) : Prop := m ∈ ns ∧ ∀ y ∈ ns, y ≤ m
def IsMin (ns : List Int) (m : Int) : Prop := m ∈ ns ∧ ∀ y ∈ ns, m ≤ y
theorem de_maxL (B : Bl X.mg) (hc : X.calm = true) (hg : Gl X "max") (h : De X ρ τ a fun x τ1 => ∃ ns : List Int, datOf τ1 x = some (.list (ns.map .int)) ∧ 0 < ns.length ∧ ∀ m, IsMax ns m → Q (.val (.int m)) τ1)
    (hs : starEach [a] X.env = (false, eval a X.env) :: starEach [] X.env := by rfl) : De X ρ τ (.Call (.Name "max" p1) [a] [] pos) Q :=
  de_callB (cr_max hc) hg B.h_max (by decide +kernel) (da_one (h.mono fun x τ1 ⟨ns, ex, hl, q⟩ => .mk fun H vs o r QQ p => by
    obtain ⟨v, rfl, r1⟩ := paired1 r
    obtain ⟨a, rfl, h1⟩ := r1.intsL o ex
    exact ⟨a, ns, rfl, h1, hl, fun m h2 h3 => p _ H _ τ1 (q m ⟨h2, h3⟩) o (Dn.int _) Tr.refl⟩) hs) hs rfl
theorem de_minL (B : Bl X.mg) (hc : X.calm = true) (hg : Gl X "min") (h : De X ρ τ a fun x τ1 => ∃ ns : List Int, datOf τ1 x = some (.list (ns.map .int)) ∧ 0 < ns.length ∧ ∀ m, IsMin ns m → Q (.val (.int m)) τ1)
    (hs : starEach [a] X.env = (false, eval a X.env) :: starEach [] X.env := by rfl) : De X ρ τ (.Call (.Name "min" p1) [a] [] pos) Q :=
  de_callB (cr_min hc) hg B.h_min (by decide +kernel) (da_one (h.mono fun x τ1 ⟨ns, ex, hl, q⟩ => .mk fun H vs o r QQ p => by
    obtain ⟨v, rfl, r1⟩ := paired1 r
    obtain ⟨a, rfl, h1⟩ := r1.intsL o ex
    exact ⟨a, ns, rfl, h1, hl, fun m h2 h3 => p _ H _ τ1 (q m ⟨h2, h3⟩) o (Dn.int _) Tr.refl⟩) hs) hs rfl
theorem de_all (B : Bl X.mg) (hc : X.calm = true) (hg : Gl X "all") (h : De X ρ τ a fun x τ1 => ∃ bs : List Bool, datOf τ1 x = some (.list (bs.map .bool)) ∧ Q (.val (.bool (bs.all id))) τ1)
    (hs : starEach [a] X.env = (false, eval a X.env) :: starEach [] X.env := by rfl) : De X ρ τ (.Call (.Name "all" p1) [a] [] pos) Q :=
  de_callB (cr_all hc) hg B.h_all (by decide +kernel) (da_one (h.mono fun x τ1 ⟨ns, ex, q⟩ => .mk fun H vs o r QQ p => by
    obtain ⟨v, rfl, r1⟩ := paired1 r
    obtain ⟨a, rfl, h1⟩ := r1.boolsL o ex
    exact ⟨a, ns, rfl, h1, p _ H _ τ1 q o (Dn.bl _) Tr.refl⟩) hs) hs rfl
theorem de_any (B : Bl X.mg) (hc : X.calm = true) (hg : Gl X "any") (h : De X ρ τ a fun x τ1 => ∃ bs : List Bool, datOf τ1 x = some (.list (bs.map .bool)) ∧ Q (.val (.bool (bs.any id))) τ1)
    (hs : starEach [a] X.env = (false, eval a X.env) :: starEach [] X.env := by rfl) : De X ρ τ (.Call (.Name "any" p1) [a] [] pos) Q :=
  de_callB (cr_any hc) hg B.h_any (by decide +kernel) (da_one (h.mono fun x τ1 ⟨ns, ex, q⟩ => .mk fun H vs o r QQ p => by
    obtain ⟨v, rfl, r1⟩ := paired1 r
    obtain ⟨a, rfl, h1⟩ := r1.boolsL o ex
    exact ⟨a, ns, rfl, h1, p _ H _ τ1 q o (Dn.bl _) Tr.refl⟩) hs) hs rfl
/-! isinstance(x, T), T a built-in type's name -/
inductive BT where
  | int | bool | str | tuple | list
def BT.nm : BT → String
  | .int => "int"
  | .bool => "bool"
  | .str => "str"
  | .tuple => "tuple"
  | .list => "list"
def tyName : PyData → String
  | .none => "NoneType"
  | .bool _ => "bool"
  | .int _ => "int"
  | .str _ => "str"
  | .list _ => "list"
  | .tuple _ => "tuple"
  | .dict _ => "dict"
theorem Dn.ty {K : PySem.W.Frag} {N : List Addr} {H : Hp} {v : V} {d : PyData} (h : Dn K N H v d) : TyX K H v (.type (tyName d)) := by
  cases h with
  | non => exact .base .non
  | bl b => exact .base (.bl b)
  | int i => exact .base (.int i)
  | str x => exact .base (.str x)
  | lst n l => exact .base (.lst n.2)
  | tup n l => exact .base (.tup n.2)
def isTy : BT → PyData → Bool
  | .int, .int _ => true
  | .int, .bool _ => true
  | .bool, .bool _ => true
  | .str, .str _ => true
  | .tuple, .tuple _ => true
  | .list, .list _ => true
  | _, _ => false
theorem kit_isTy {K : PySem.W.Frag} {T : BT} : ∀ {d : PyData} {N : List Addr} {H : Hp} {v : V}, Dn K N H v d → PySem.W.kitOne K (.type (tyName d)) (.type T.nm) = some (isTy T d) := by
  intro d N H v h
  cases T
  all_goals
    cases h <;> (refine kit_ty ?_; dsimp only [tyName, BT.nm, isTy]; decide +kernel)
theorem de_isi {T : Str} (TT : BT) (B : Bl X.mg) (hg : Gl X "isinstance") (hgT : Gl X T) (hmT : X.mg T = none) (hvT : bootBuiltins T = some (.type TT.nm))
    (h : De X ρ τ a fun x τ1 => ∃ d, x = .val d ∧ Q (.val (.bool (isTy TT d))) τ1)
    (hn : T ≠ "__name__" := by decide) (hd : (T == ("__debug__" : Str)) = false := by decide)
    (hs : starEach [a, .Name T p2] X.env = (false, eval a X.env) :: starEach [.Name T p2] X.env := by rfl) (hs2 : starEach [.Name T p2] X.env = (false, eval (.Name T p2) X.env) :: starEach [] X.env := by rfl) (hpl : (backTo pos (starEach [.Name T p2] X.env)).any (·.1) = false := by rfl) :
    De X ρ τ (.Call (.Name "isinstance" p1) [a, .Name T p2] [] pos) Q := .mk fun σ H o l QQ p => by
  refine we_of (pe_callB call_isi hg B.h_isinstance (by decide +kernel) (pa_cons pe_we (pa_cons (pe_bltn (v := .ty TT.nm) hgT hmT hvT rfl hn hd) pa_nil hs2) hs) (by decide) (by decide) hs hpl) ?_
  refine h σ H o l _ fun v H1 x τ1 ⟨d, ex, q⟩ o1 r1 t1 => ?_
  subst ex
  exact ⟨v, .ty TT.nm, .type (tyName d), .type TT.nm, isTy TT d, rfl, .ty TT.nm, Dn.ty r1, kit_isTy r1, p _ H1 _ τ1 q o1 (Dn.bl _) t1⟩

theorem de_isi_int (B : Bl X.mg) (hg : Gl X "isinstance") (hgT : Gl X "int") (h : De X ρ τ a fun x τ1 => ∃ d, x = .val d ∧ Q (.val (.bool (isTy .int d))) τ1)
    (hs : starEach [a, .Name "int" p2] X.env = (false, eval a X.env) :: starEach [.Name "int" p2] X.env := by rfl) (hs2 : starEach [.Name "int" p2] X.env = (false, eval (.Name "int" p2) X.env) :: starEach [] X.env := by rfl) (hpl : (backTo pos (starEach [.Name "int" p2] X.env)).any (·.1) = false := by rfl) :
    De X ρ τ (.Call (.Name "isinstance" p1) [a, .Name "int" p2] [] pos) Q := de_isi .int B hg hgT B.h_int (by decide +kernel) h (by decide) (by decide) hs hs2 hpl
theorem de_isi_bool (B : Bl X.mg) (hg : Gl X "isinstance") (hgT : Gl X "bool") (h : De X ρ τ a fun x τ1 => ∃ d, x = .val d ∧ Q (.val (.bool (isTy .bool d))) τ1)
    (hs : starEach [a, .Name "bool" p2] X.env = (false, eval a X.env) :: starEach [.Name "bool" p2] X.env := by rfl) (hs2 : starEach [.Name "bool" p2] X.env = (false, eval (.Name "bool" p2) X.env) :: starEach [] X.env := by rfl) (hpl : (backTo pos (starEach [.Name "bool" p2] X.env)).any (·.1) = false := by rfl) :
    De X ρ τ (.Call (.Name "isinstance" p1) [a, .Name "bool" p2] [] pos) Q := de_isi .bool B hg hgT B.h_bool (by decide +kernel) h (by decide) (by decide) hs hs2 hpl
theorem de_isi_tuple (B : Bl X.mg) (hg : Gl X "isinstance") (hgT : Gl X "tuple") (h : De X ρ τ a fun x τ1 => ∃ d, x = .val d ∧ Q (.val (.bool (isTy .tuple d))) τ1)
    (hs : starEach [a, .Name "tuple" p2] X.env = (false, eval a X.env) :: starEach [.Name "tuple" p2] X.env := by rfl) (hs2 : starEach [.Name "tuple" p2] X.env = (false, eval (.Name "tuple" p2) X.env) :: starEach [] X.env := by rfl) (hpl : (backTo pos (starEach [.Name "tuple" p2] X.env)).any (·.1) = false := by rfl) :
    De X ρ τ (.Call (.Name "isinstance" p1) [a, .Name "tuple" p2] [] pos) Q := de_isi .tuple B hg hgT B.h_tuple (by decide +kernel) h (by decide) (by decide) hs hs2 hpl
theorem de_isi_str (B : Bl X.mg) (hg : Gl X "isinstance") (hgT : Gl X "str") (h : De X ρ τ a fun x τ1 => ∃ d, x = .val d ∧ Q (.val (.bool (isTy .str d))) τ1)
    (hs : starEach [a, .Name "str" p2] X.env = (false, eval a X.env) :: starEach [.Name "str" p2] X.env := by rfl) (hs2 : starEach [.Name "str" p2] X.env = (false, eval (.Name "str" p2) X.env) :: starEach [] X.env := by rfl) (hpl : (backTo pos (starEach [.Name "str" p2] X.env)).any (·.1) = false := by rfl) :
    De X ρ τ (.Call (.Name "isinstance" p1) [a, .Name "str" p2] [] pos) Q := de_isi .str B hg hgT B.h_str (by decide +kernel) h (by decide) (by decide) hs hs2 hpl

/-! ### a def of the text that keeps a promise -/
/-- a promise over data and store: arguments, store, what is wanted -/
abbrev Ctr := List MV → Store → (MV → Store → Prop) → Prop
def spC (K : PySem.W.Frag) (C : Ctr) : Sp := fun vs H Q _ => ∃ τ svs QQ, StOk K H τ ∧ RvL K (dom τ) H vs svs ∧ C svs τ QQ ∧ Pst K τ H QQ Q
structure Knows (P : Program) (w : World) (K : PySem.W.Frag) (mg : Str → Option Value) (base : Heap) (k : Nat) (x : Str) (C : Ctr) : Prop where
  ex : ∃ (f : Addr) (fd : FuncData) (ps : List Str), FnOk P w K mg base CX0 k f fd ps (spC K C) ∧ mg x = some (.ref f) ∧ PySem.W.keepIn K (.ref f) = true ∧ Binds K fd ps []
theorem Knows.imp {P : Program} {w : World} {K : PySem.W.Frag} {mg : Str → Option Value} {base : Heap} {k : Nat} {x : Str} {C C' : Ctr} (h : Knows P w K mg base k x C) (i : ∀ svs τ Q, C' svs τ Q → C svs τ Q) : Knows P w K mg base k x C' := by
  obtain ⟨f, fd, ps, F, g, kp, b⟩ := h.ex
  exact ⟨f, fd, ps, F.imp fun vs H Q E ⟨τ, svs, QQ, o, r, c, p⟩ => ⟨τ, svs, QQ, o, r, i _ _ _ c, p⟩, g, kp, b⟩
theorem Knows.mono {P : Program} {w : World} {K : PySem.W.Frag} {mg : Str → Option Value} {base : Heap} {j k : Nat} {x : Str} {C : Ctr} (h : Knows P w K mg base j x C) (hk : j ≤ k) : Knows P w K mg base k x C := by
  obtain ⟨f, fd, ps, F, g, kp, b⟩ := h.ex
  exact ⟨f, fd, ps, F.mono hk, g, kp, b⟩
theorem de_call {k j : Nat} {x : Str} {C : Ctr} (F : Knows X.prog X.w X.K X.mg X.base k x C) (hr : Room j X.A) (hg : Gl X x) (h : Da X ρ τ (a :: es) fun xs τ1 => C xs τ1 Q) (hk : k ≤ j := by decide)
    (hdb : (x == ("__debug__" : Str)) = false := by decide) (he : starEach (a :: es) X.env = (false, eval a X.env) :: starEach es X.env := by rfl) (hpl : (backTo pos (starEach es X.env)).any (·.1) = false := by rfl) :
    De X ρ τ (.Call (.Name x p1) (a :: es) [] pos) Q := .mk fun σ H o l QQ p => by
  obtain ⟨f, fd, ps, F, g, kp, b⟩ := F.ex
  refine we_of (pe_call F (hr.mono hk) hg g kp b .nil pass0 pa_wa hdb he hpl) (h σ H o l _ fun vs H1 xs τ1 h1 o1 r1 t1 => ?_)
  rw [List.append_nil]
  exact ⟨τ1, xs, Q, o1, r1, h1, p.step t1⟩
end
end Dl

namespace Dl
open PySem PySem.Spec L2

/-! ### what is walked: items as data. S: what the store must keep while it is walked -/
structure Walks (K : PySem.W.Frag) (J : It) (H1 : Hp) (τ1 : Store) (S : Store → Prop) (ds : List PyData) : Prop where
  go : ∀ (i : Nat) (H : Hp) (τ : Store), i < ds.length → Tr (dom τ1) H1 (dom τ) H → StOk K H τ → S τ → J.go i H
  yld : ∀ (i : Nat) (H : Hp) (τ : Store) (x : V) (H' : Hp), i < ds.length → Tr (dom τ1) H1 (dom τ) H → StOk K H τ → S τ → J.yld i H x H' → ∃ d, ds[i]? = some d ∧ Tr (dom τ) H (dom τ) H' ∧ StOk K H' τ ∧ Dn K (dom τ) H' x d
  stop : ∀ (i : Nat) (H : Hp) (τ : Store), ds.length ≤ i → Tr (dom τ1) H1 (dom τ) H → StOk K H τ → S τ → J.stop i H
abbrev AnyS : Store → Prop := fun _ => True
section
variable {K : PySem.W.Frag} {H1 : Hp} {τ1 : Store}
theorem walks_tup {a : Addr} {vs : List V} {ds : List PyData} (n : NdT (dom τ1) H1 a vs) (l : DnL K (dom τ1) H1 vs ds) : Walks K (Itt K a) H1 τ1 AnyS ds where
  go := fun i H τ hi t o _ => by
    have n' := n.tr t
    have hi' : i < vs.length := by rw [l.length]; exact hi
    exact ⟨vs, vs[i], n'.sq, List.getElem?_eq_getElem hi'⟩
  yld := fun i H τ x H' hi t o _ y => by
    obtain ⟨rfl, y⟩ := y
    have hx := y vs (n.tr t).sq
    obtain ⟨d, h1, h2⟩ := (l.tr t).get hx
    exact ⟨d, h1, Tr.refl, o, h2⟩
  stop := fun i H τ hi t o _ => ⟨vs, (n.tr t).sq, by rw [l.length]; exact hi⟩
theorem walks_lst {a : Addr} {vs : List V} {ds : List PyData} (n : NdL (dom τ1) H1 a vs) (l : DnL K (dom τ1) H1 vs ds) : Walks K (Itl K a) H1 τ1 AnyS ds where
  go := fun i H τ hi t o _ => by
    have n' := n.tr t
    have hi' : i < vs.length := by rw [l.length]; exact hi
    exact ⟨vs, vs[i], n'.sq, List.getElem?_eq_getElem hi'⟩
  yld := fun i H τ x H' hi t o _ y => by
    obtain ⟨rfl, y⟩ := y
    have hx := y vs (n.tr t).sq
    obtain ⟨d, h1, h2⟩ := (l.tr t).get hx
    exact ⟨d, h1, Tr.refl, o, h2⟩
  stop := fun i H τ hi t o _ => ⟨vs, (n.tr t).sq, by rw [l.length]; exact hi⟩
/-- a list of the store, walked while it stands -/
theorem walks_hdl {a : Addr} {ds : List PyData} : Walks K (Itl K a) H1 τ1 (fun τ => τ.lookup a = some (.lst ds)) ds where
  go := fun i H τ hi t o e => by
    obtain ⟨vs, h1, l⟩ := o.get e
    have hi' : i < vs.length := by rw [l.length]; exact hi
    exact ⟨vs, vs[i], SqL.of h1, List.getElem?_eq_getElem hi'⟩
  yld := fun i H τ x H' hi t o e y => by
    obtain ⟨vs, h1, l⟩ := o.get e
    obtain ⟨rfl, y⟩ := y
    obtain ⟨d, h2, h3⟩ := l.get (y vs (SqL.of h1))
    exact ⟨d, h2, Tr.refl, o, h3⟩
  stop := fun i H τ hi t o e => by
    obtain ⟨vs, h1, l⟩ := o.get e
    exact ⟨vs, SqL.of h1, by rw [l.length]; exact hi⟩
def rangeD (lo : Int) (n : Nat) : List PyData := (List.range n).map fun i => .int (lo + (i : Nat))
theorem rangeD_length (lo : Int) (n : Nat) : (rangeD lo n).length = n := by unfold rangeD; rw [List.length_map, List.length_range]
theorem rangeD_get {lo : Int} {n i : Nat} (h : i < n) : (rangeD lo n)[i]? = some (.int (lo + (i : Nat))) := by
  unfold rangeD
  rw [List.getElem?_map, List.getElem?_range h]
  rfl
theorem walks_range {lo : Int} {n : Nat} : Walks K (Itr lo n) H1 τ1 AnyS (rangeD lo n) where
  go := fun i H τ hi t o _ => by
    rw [rangeD_length] at hi
    exact hi
  yld := fun i H τ x H' hi t o _ y => by
    rw [rangeD_length] at hi
    obtain ⟨rfl, rfl⟩ := y
    exact ⟨_, rangeD_get hi, Tr.refl, o, Dn.int _⟩
  stop := fun i H τ hi t o _ => by
    rw [rangeD_length] at hi
    exact hi
def zipD (ds es : List PyData) : List PyData := (ds.zip es).map fun p => .tuple [p.1, p.2]
theorem zipD_length (ds es : List PyData) : (zipD ds es).length = min ds.length es.length := by unfold zipD; rw [List.length_map, List.length_zip]
theorem zipD_get {ds es : List PyData} {i : Nat} {d e : PyData} (h : ds[i]? = some d) (h' : es[i]? = some e) : (zipD ds es)[i]? = some (.tuple [d, e]) := by
  unfold zipD
  rw [List.getElem?_map, (List.getElem?_zip_eq_some (z := (d, e))).mpr ⟨h, h'⟩]
  rfl
theorem walks_zipT {a b : Addr} {vs us : List V} {ds es : List PyData} (n : NdT (dom τ1) H1 a vs) (l : DnL K (dom τ1) H1 vs ds) (n' : NdT (dom τ1) H1 b us) (l' : DnL K (dom τ1) H1 us es) : Walks K (RZ.ItzT K a b) H1 τ1 AnyS (zipD ds es) where
  go := fun i H τ hi t o _ => by
    rw [zipD_length] at hi
    have h1 : i < vs.length := by rw [l.length]; omega
    have h2 : i < us.length := by rw [l'.length]; omega
    exact ⟨vs, us, vs[i], us[i], (n.tr t).sq, (n'.tr t).sq, List.getElem?_eq_getElem h1, List.getElem?_eq_getElem h2⟩
  yld := fun i H τ x H' hi t o _ y => by
    obtain ⟨T, x1, x2, rfl, hT, rfl, y1, y2⟩ := y
    obtain ⟨d, h1, h2⟩ := (l.tr t).get (y1 vs (n.tr t).sq)
    obtain ⟨e, h3, h4⟩ := (l'.tr t).get (y2 us (n'.tr t).sq)
    exact ⟨_, zipD_get h1 h3, Tr.new hT, o.new hT, Dn.tup ⟨o.fresh hT, upd_same⟩ (.cons (h2.tr (Tr.new hT)) (.cons (h4.tr (Tr.new hT)) .nil))⟩
  stop := fun i H τ hi t o _ => by
    rw [zipD_length] at hi
    have := l.length
    have := l'.length
    exact ⟨vs, us, (n.tr t).sq, (n'.tr t).sq, by omega⟩
theorem walks_zipL {a b : Addr} {vs us : List V} {ds es : List PyData} (n : NdL (dom τ1) H1 a vs) (l : DnL K (dom τ1) H1 vs ds) (n' : NdL (dom τ1) H1 b us) (l' : DnL K (dom τ1) H1 us es) : Walks K (Itz K a b) H1 τ1 AnyS (zipD ds es) where
  go := fun i H τ hi t o _ => by
    rw [zipD_length] at hi
    have h1 : i < vs.length := by rw [l.length]; omega
    have h2 : i < us.length := by rw [l'.length]; omega
    exact ⟨vs, us, vs[i], us[i], (n.tr t).sq, (n'.tr t).sq, List.getElem?_eq_getElem h1, List.getElem?_eq_getElem h2⟩
  yld := fun i H τ x H' hi t o _ y => by
    obtain ⟨T, x1, x2, rfl, hT, rfl, y1, y2⟩ := y
    obtain ⟨d, h1, h2⟩ := (l.tr t).get (y1 vs (n.tr t).sq)
    obtain ⟨e, h3, h4⟩ := (l'.tr t).get (y2 us (n'.tr t).sq)
    exact ⟨_, zipD_get h1 h3, Tr.new hT, o.new hT, Dn.tup ⟨o.fresh hT, upd_same⟩ (.cons (h2.tr (Tr.new hT)) (.cons (h4.tr (Tr.new hT)) .nil))⟩
  stop := fun i H τ hi t o _ => by
    rw [zipD_length] at hi
    have := l.length
    have := l'.length
    exact ⟨vs, us, (n.tr t).sq, (n'.tr t).sq, by omega⟩
end
/-- an expression that is walked -/
structure Di (X : Cx) (tg : Expr) (ρ : En) (τ : Store) (iter : Expr) (Q : List PyData → (Store → Prop) → Store → Prop) : Prop where
  run : ∀ (σ : L2.St) (H : Hp), StOk X.K H τ → SlOk X.K (dom τ) H σ ρ → ∀ R : It → Hp → Prop, (∀ J H1 ds S τ1, Q ds S τ1 → StOk X.K H1 τ1 → Tr (dom τ) H (dom τ1) H1 → Walks X.K J H1 τ1 S ds → R J H1) → Wi X tg iter σ H R
instance {X : Cx} {tg : Expr} {ρ : En} {τ : Store} {iter : Expr} {Q : List PyData → (Store → Prop) → Store → Prop} : CoeFun (Di X tg ρ τ iter Q) fun _ => ∀ (σ : L2.St) (H : Hp), StOk X.K H τ → SlOk X.K (dom τ) H σ ρ → ∀ R : It → Hp → Prop, (∀ J H1 ds S τ1, Q ds S τ1 → StOk X.K H1 τ1 → Tr (dom τ) H (dom τ1) H1 → Walks X.K J H1 τ1 S ds → R J H1) → Wi X tg iter σ H R := ⟨fun h => h.run⟩
section
variable {X : Cx} {tg : Expr} {ρ : En} {τ : Store} {Q : List PyData → (Store → Prop) → Store → Prop} {pos p1 : Pos} {a b : Expr}
theorem di_tup (h : De X ρ τ a fun x τ1 => ∃ ds, x = .val (.tuple ds) ∧ Q ds AnyS τ1) : Di X tg ρ τ a Q := .mk fun σ H o l R p =>
  wi_of (pi_tup pe_we) (h σ H o l _ fun v H1 x τ1 ⟨ds, ex, q⟩ o1 r1 t1 => by
    subst ex
    cases r1 with
    | @tup a vs _ n1 l1 => exact ⟨a, rfl, ⟨vs, n1.sq⟩, p _ H1 ds AnyS τ1 q o1 t1 (walks_tup n1 l1)⟩)
theorem di_lst (h : De X ρ τ a fun x τ1 => ∃ ds, x = .val (.list ds) ∧ Q ds AnyS τ1) : Di X tg ρ τ a Q := .mk fun σ H o l R p =>
  wi_of (pi_list pe_we) (h σ H o l _ fun v H1 x τ1 ⟨ds, ex, q⟩ o1 r1 t1 => by
    subst ex
    cases r1 with
    | @lst a vs _ n1 l1 => exact ⟨a, rfl, ⟨vs, n1.sq⟩, p _ H1 ds AnyS τ1 q o1 t1 (walks_lst n1 l1)⟩)
theorem di_hdl (h : De X ρ τ a fun x τ1 => ∃ l ds, x = .hdl l ∧ τ1.lookup l = some (.lst ds) ∧ Q ds (fun τ => τ.lookup l = some (.lst ds)) τ1) : Di X tg ρ τ a Q := .mk fun σ H o l R p =>
  wi_of (pi_list pe_we) (h σ H o l _ fun v H1 x τ1 ⟨l', ds, ex, e, q⟩ o1 r1 t1 => by
    subst ex
    cases r1
    obtain ⟨vs, h1, _⟩ := o1.get e
    exact ⟨l', rfl, ⟨vs, SqL.of h1⟩, p _ H1 ds _ τ1 q o1 t1 walks_hdl⟩)
theorem di_range1 (B : Bl X.mg) (hg : Gl X "range") (h : De X ρ τ a fun x τ1 => ∃ n, x = .val (.int n) ∧ n ≤ 1000000 ∧ -1000000 ≤ n ∧ Q (rangeD 0 n.toNat) AnyS τ1)
    (hs : starEach [a] X.env = [(false, eval a X.env)] := by rfl) : Di X tg ρ τ (.Call (.Name "range" p1) [a] [] pos) Q := .mk fun σ H o l R p =>
  wi_of (pi_range1 hg B.h_range (pa_cons pe_we pa_nil hs) hs) (h σ H o l _ fun v H1 x τ1 ⟨n, ex, h1, h2, q⟩ o1 r1 t1 => by
    subst ex
    cases r1
    exact ⟨n, rfl, by omega, by omega, p _ H1 _ AnyS τ1 q o1 t1 walks_range⟩)
theorem di_range2 (B : Bl X.mg) (hg : Gl X "range") (h : De X ρ τ a fun x τ1 => De X ρ τ1 b fun y τ2 => ∃ m n, x = .val (.int m) ∧ y = .val (.int n) ∧ (-1000000 ≤ m ∧ m ≤ 1000000) ∧ (-1000000 ≤ n ∧ n ≤ 1000000) ∧ Q (rangeD m (n - m).toNat) AnyS τ2)
    (hs : starEach [a, b] X.env = [(false, eval a X.env), (false, eval b X.env)] := by rfl) (hs2 : starEach [b] X.env = [(false, eval b X.env)] := by rfl) : Di X tg ρ τ (.Call (.Name "range" p1) [a, b] [] pos) Q := .mk fun σ H o l R p => by
  have hs' : starEach [a, b] X.env = (false, eval a X.env) :: starEach [b] X.env := by rw [hs, hs2]
  refine wi_of (pi_range2 hg B.h_range (pa_cons pe_we (pa_cons pe_we pa_nil hs2) hs') hs hs2) (h σ H o l _ fun v H1 x τ1 h1 o1 r1 t1 => ?_)
  refine h1 σ H1 o1 (l.tr t1) _ fun u H2 y τ2 ⟨m, n, ex, ey, hm, hn, q⟩ o2 r2 t2 => ?_
  subst ex ey
  cases r1
  cases r2
  exact ⟨m, n, rfl, by omega, p _ H2 _ AnyS τ2 q o2 (t1.trans t2) walks_range⟩
theorem di_zip {elts : List Expr} {kk : Nat} {tpos : Pos} {Q : List PyData → (Store → Prop) → Store → Prop} (B : Bl X.mg) (hg : Gl X "zip") (h : De X ρ τ a fun x τ1 => De X ρ τ1 b fun y τ2 => ∃ ds es, ((x = .val (.tuple ds) ∧ y = .val (.tuple es)) ∨ (x = .val (.list ds) ∧ y = .val (.list es))) ∧ Q (zipD ds es) AnyS τ2)
    (hs : starEach [a, b] X.env = (false, eval a X.env) :: starEach [b] X.env := by rfl) (hs2 : starEach [b] X.env = (false, eval b X.env) :: starEach [] X.env := by rfl) (hpl : (backTo pos (starEach [b] X.env)).any (·.1) = false := by rfl) : Di X (.Tuple elts kk tpos) ρ τ (.Call (.Name "zip" p1) [a, b] [] pos) Q := .mk fun σ H o l R p => by
  refine wi_of (RZ.pi_zipA hg B.h_zip (pa_cons pe_we (pa_cons pe_we pa_nil hs2) hs) hs hpl) (h σ H o l _ fun v H1 x τ1 h1 o1 r1 t1 => ?_)
  refine h1 σ H1 o1 (l.tr t1) _ fun u H2 y τ2 ⟨ds, es, hxy, q⟩ o2 r2 t2 => ?_
  have r1' := r1.tr t2
  rcases hxy with ⟨ex, ey⟩ | ⟨ex, ey⟩
  · subst ex ey
    cases r1' with
    | @tup a vs _ n1 l1 =>
    cases r2 with
    | @tup b us _ n2 l2 =>
    exact ⟨a, b, vs, us, rfl, .inr ⟨n1.sq, n2.sq, p _ H2 _ AnyS τ2 q o2 (t1.trans t2) (walks_zipT n1 l1 n2 l2)⟩⟩
  · subst ex ey
    cases r1' with
    | @lst a vs _ n1 l1 =>
    cases r2 with
    | @lst b us _ n2 l2 =>
    exact ⟨a, b, vs, us, rfl, .inl ⟨n1.sq, n2.sq, p _ H2 _ AnyS τ2 q o2 (t1.trans t2) (walks_zipL n1 l1 n2 l2)⟩⟩
end

/-! ### targets: a name, a tuple of names -/
inductive Tg where
  | name (j : Nat) | tup (js : List Nat)
def setAll {α : Type} (σ : List (Option α)) : List Nat → List α → List (Option α)
  | j :: js, v :: vs => setAll (σ.set j (some v)) js vs
  | _, _ => σ
def tgR (K : PySem.W.Frag) : Tg → TG
  | .name j => gName j
  | .tup js => fun v σ H Q => ∃ a xs, v = .ref a ∧ SqT K H a xs ∧ xs.length = js.length ∧ Q (setAll σ js xs) H
/-- the slots behind a store of d -/
def bindD (ρ : En) : Tg → PyData → Option En
  | .name j, d => some (ρ.set j (some (.val d)))
  | .tup js, .tuple ds => if ds.length = js.length then some (setAll ρ js (ds.map .val)) else none
  | .tup _, _ => none
theorem bindD_tup {ρ ρ2 : En} {js : List Nat} {ds : List PyData} (e : bindD ρ (.tup js) (.tuple ds) = some ρ2) : ds.length = js.length ∧ setAll ρ js (ds.map .val) = ρ2 := by
  have e' : (if ds.length = js.length then some (setAll ρ js (ds.map MV.val)) else none) = some ρ2 := e
  by_cases hl : ds.length = js.length
  · rw [if_pos hl] at e'
    exact ⟨hl, Option.some.inj e'⟩
  · rw [if_neg hl] at e'
    cases e'
theorem SlOk.setAll {K : PySem.W.Frag} {N : List Addr} {H : Hp} : ∀ {js : List Nat} {vs : List V} {ds : List PyData} {σ : L2.St} {ρ : En}, SlOk K N H σ ρ → DnL K N H vs ds → SlOk K N H (Dl.setAll σ js vs) (Dl.setAll ρ js (ds.map .val))
  | [], _, _, _, _, h, _ => h
  | _ :: _, _, _, _, _, h, .nil => h
  | j :: js, _, _, σ, ρ, h, .cons (v := v) (d := d) a b => SlOk.setAll (js := js) (h.set (sv := .val d) a j) b
theorem tgR_ok {K : PySem.W.Frag} {N : List Addr} {H : Hp} {t : Tg} {d : PyData} {v : V} {σ : L2.St} {ρ ρ2 : En} (h : SlOk K N H σ ρ) (e : bindD ρ t d = some ρ2) (r : Dn K N H v d) {Q : L2.St → Hp → Prop} (q : ∀ σ2, SlOk K N H σ2 ρ2 → Q σ2 H) : tgR K t v σ H Q := by
  cases t with
  | name j =>
    cases e
    exact q _ (h.set (sv := .val d) r j)
  | tup js =>
    cases d with
    | tuple ds =>
      obtain ⟨hl, rfl⟩ := bindD_tup e
      cases r with
      | @tup a vs _ n1 l1 => exact ⟨a, vs, rfl, n1.sq, by rw [l1.length]; exact hl, q _ (h.setAll l1)⟩
    | _ => cases e
/-- the target as it stands in the text -/
def PGx (X : Cx) (tg : Expr) (t : Tg) : Prop := PG X tg (tgR X.K t)
section
variable {X : Cx} {pos p1 p2 p3 : Pos} {kk : Nat}
theorem PG.weak {tg : Expr} {g g' : TG} (h : PG X tg g) (i : ∀ v σ H Q, g' v σ H Q → g v σ H Q) : PG X tg g' := ⟨fun pins s σ H v u Q I r q => h.run pins s σ H v u Q I r (i _ _ _ _ q)⟩
theorem pgx_name {j : Nat} {x : Str} (hN : X.N.Nodup) (hi : X.N[j]? = some x) (hx : Loc X.env.scope x) (hf : X.fn x = true ∨ X.env.scope.names.lookup x = some .local := by first | exact .inl rfl | exact .inr rfl) : PGx X (.Name x pos) (.name j) := pg_name hN hi hx hf
theorem pgx_tup2 {i j : Nat} {e1 e2 : Expr} (hc : X.calm = true) (h1 : PG X e1 (gName i)) (h2 : PG X e2 (gName j))
    (hs : (assignEach [e1, e2] X.env).map (·.2) = assign e1 X.env :: (assignEach [e2] X.env).map (·.2) := by rfl) (hs2 : (assignEach [e2] X.env).map (·.2) = assign e2 X.env :: (assignEach [] X.env).map (·.2) := by rfl)
    (hn : (assignEach [e1, e2] X.env).length = 2 := by rfl) (hst : (assignEach [e1, e2] X.env).findIdx? (·.1) = none := by rfl) : PGx X (.Tuple [e1, e2] kk pos) (.tup [i, j]) :=
  PG.weak (pg_tup hc (pgs_cons h1 (pgs_cons h2 pgs_nil hs2) hs) hn hst) fun v σ H Q ⟨a, xs, e, h, hl, q⟩ => by
    match xs, hl with
    | [x, y], _ => exact ⟨a, [x, y], e, h, rfl, x, [y], rfl, y, [], rfl, rfl, q⟩
theorem pgx_tup3 {i j k : Nat} {e1 e2 e3 : Expr} (hc : X.calm = true) (h1 : PG X e1 (gName i)) (h2 : PG X e2 (gName j)) (h3 : PG X e3 (gName k))
    (hs : (assignEach [e1, e2, e3] X.env).map (·.2) = assign e1 X.env :: (assignEach [e2, e3] X.env).map (·.2) := by rfl) (hs2 : (assignEach [e2, e3] X.env).map (·.2) = assign e2 X.env :: (assignEach [e3] X.env).map (·.2) := by rfl)
    (hs3 : (assignEach [e3] X.env).map (·.2) = assign e3 X.env :: (assignEach [] X.env).map (·.2) := by rfl)
    (hn : (assignEach [e1, e2, e3] X.env).length = 3 := by rfl) (hst : (assignEach [e1, e2, e3] X.env).findIdx? (·.1) = none := by rfl) : PGx X (.Tuple [e1, e2, e3] kk pos) (.tup [i, j, k]) :=
  PG.weak (pg_tup hc (pgs_cons h1 (pgs_cons h2 (pgs_cons h3 pgs_nil hs3) hs2) hs) hn hst) fun v σ H Q ⟨a, xs, e, h, hl, q⟩ => by
    match xs, hl with
    | [x, y, z], _ => exact ⟨a, [x, y, z], e, h, rfl, x, [y, z], rfl, y, [z], rfl, z, [], rfl, rfl, q⟩
end
/-- slots of a target -/
def Tg.slots : Tg → List Nat
  | .name j => [j]
  | .tup js => js
theorem wipe_set {σ : L2.St} {o : Option V} : ∀ {vs : List Nat} {j : Nat}, j ∈ vs → wipe (σ.set j o) vs = wipe σ vs
  | v :: vs, j, h => by
    unfold wipe
    by_cases e : j = v
    · subst e
      by_cases hm : j ∈ vs
      · rw [wipe_set hm]
      · have c : ∀ vs : List Nat, j ∉ vs → wipe (σ.set j o) vs = (wipe σ vs).set j o := by
          intro vs
          induction vs with
          | nil => intro _; rfl
          | cons u us ih =>
            intro hn
            simp only [List.mem_cons, not_or] at hn
            show (wipe (σ.set j o) us).set u none = ((wipe σ us).set u none).set j o
            rw [ih hn.2, List.set_comm _ _ hn.1]
        rw [c vs hm, List.set_set]
    · have hm : j ∈ vs := by
        rcases List.mem_cons.mp h with h | h
        · exact absurd h e
        · exact h
      rw [wipe_set hm]
theorem wipe_wipe (σ : L2.St) : ∀ (vs us : List Nat), (∀ v ∈ vs, v ∈ us) → wipe (wipe σ vs) us = wipe σ us
  | [], _, _ => rfl
  | v :: vs, us, h => by
    show wipe ((wipe σ vs).set v none) us = wipe σ us
    rw [wipe_set (h v List.mem_cons_self), wipe_wipe σ vs us fun u hu => h u (List.mem_cons_of_mem _ hu)]
theorem wipe_setAll {us : List Nat} : ∀ {js : List Nat} {vs : List V} {σ : L2.St}, (∀ j ∈ js, j ∈ us) → wipe (setAll σ js vs) us = wipe σ us
  | [], _, _, _ => rfl
  | _ :: _, [], _, _ => rfl
  | j :: js, v :: vs, σ, h => by
    show wipe (setAll (σ.set j (some v)) js vs) us = wipe σ us
    rw [wipe_setAll fun i hi => h i (List.mem_cons_of_mem _ hi), wipe_set (h j List.mem_cons_self)]
theorem tgR_ok' {K : PySem.W.Frag} {N : List Addr} {H : Hp} {t : Tg} {d : PyData} {v : V} {σ : L2.St} {ρ ρ2 : En} {us : List Nat} (hu : ∀ j ∈ t.slots, j ∈ us) (h : SlOk K N H σ ρ) (e : bindD ρ t d = some ρ2) (r : Dn K N H v d) {Q : L2.St → Hp → Prop} (q : ∀ σ2, SlOk K N H σ2 ρ2 → wipe σ2 us = wipe σ us → Q σ2 H) : tgR K t v σ H Q := by
  cases t with
  | name j =>
    cases e
    exact q _ (h.set (sv := .val d) r j) (wipe_set (hu j (by simp [Tg.slots])))
  | tup js =>
    cases d with
    | tuple ds =>
      obtain ⟨hl, rfl⟩ := bindD_tup e
      cases r with
      | @tup a vs _ n1 l1 => exact ⟨a, vs, rfl, n1.sq, by rw [l1.length]; exact hl, q _ (h.setAll l1) (wipe_setAll hu)⟩
    | _ => cases e
end Dl

namespace Dl
open PySem PySem.Spec L2

section
variable {X : Cx} {ρ : En} {τ : Store} {D : DE} {pos p1 p2 p3 spos : Pos} {a b c tg iter elt : Expr} {body els rest : List Stmt} {st : Stmt} {es ifs : List Expr}
/-! ### blocks -/
theorem db_nil (q : D.nx ρ τ) : Db X ρ τ [] D := .mk fun σ H o l DD p => wb_of pss_nil (p.nx σ H ρ τ q o l Tr.refl)
theorem db_cons (h : Ds X ρ τ st { D with nx := fun ρ1 τ1 => Db X ρ1 τ1 rest D }) : Db X ρ τ (st :: rest) D := .mk fun σ H o l DD p =>
  wb_of (pss_cons ps_ws pss_wb) (h σ H o l { DD with nx := Wb X rest DD } ⟨fun σ1 H1 ρ1 τ1 h1 o1 l1 t1 => h1 σ1 H1 o1 l1 DD (p.step t1), p.rt, p.bk, p.ct⟩)
theorem db_one (h : Ds X ρ τ st D) : Db X ρ τ [st] D := .mk fun σ H o l DD p => wb_of (pss_one ps_ws) (h σ H o l DD p)
theorem Db.mono {D' : DE} (h : Db X ρ τ body D) (n : ∀ ρ' τ', D.nx ρ' τ' → D'.nx ρ' τ') (r : ∀ sv τ', D.rt sv τ' → D'.rt sv τ') (k : ∀ ρ' τ', D.bk ρ' τ' → D'.bk ρ' τ') (g : ∀ ρ' τ', D.ct ρ' τ' → D'.ct ρ' τ') : Db X ρ τ body D' := .mk fun σ H o l DD p =>
  h σ H o l DD ⟨fun σ' H' ρ' τ' q => p.nx σ' H' ρ' τ' (n _ _ q), fun v H' sv τ' q => p.rt v H' sv τ' (r _ _ q), fun σ' H' ρ' τ' q => p.bk σ' H' ρ' τ' (k _ _ q), fun σ' H' ρ' τ' q => p.ct σ' H' ρ' τ' (g _ _ q)⟩
/-- an object leaves the store -/
theorem db_drop {q : Addr × MO} (h : Db X ρ τ body D) : Db X ρ (q :: τ) body D := .mk fun σ H o l DD p => h σ H o.drop (l.tr Tr.drop) DD (p.step Tr.drop)
theorem de_drop {Q : MV → Store → Prop} {q : Addr × MO} (h : De X ρ τ a Q) : De X ρ (q :: τ) a Q := .mk fun σ H o l QQ p => h σ H o.drop (l.tr Tr.drop) QQ (p.step Tr.drop)
/-- a list of the store, the first one, becomes data -/
theorem db_freeze {l : Addr} {ds : List PyData} (i : Nat) (e : ρ[i]? = some (some (.hdl l))) (h : Db X (ρ.set i (some (.val (.list ds)))) τ body D) : Db X ρ ((l, .lst ds) :: τ) body D := .mk fun σ H o s DD p => by
  have o' := o.drop
  have s' := s.tr (Tr.drop (p := (l, .lst ds)) (τ := τ) (H := H))
  refine h σ H o' ?_ DD (p.step Tr.drop)
  obtain ⟨vs, h1, h2⟩ := o.ok (l, .lst ds) List.mem_cons_self
  obtain ⟨v, hv, rv⟩ := s.ok i _ e
  cases rv
  have nl : l ∉ dom τ := (List.nodup_cons.mp o.nd).1
  have dn : Dn X.K (dom τ) H (.ref l) (.list ds) := .lst ⟨nl, h1⟩ (h2.tr Tr.drop)
  have z := s'.set (sv := .val (.list ds)) dn i
  have es : σ.set i (some (V.ref l)) = σ := by
    apply List.ext_getElem?
    intro j
    by_cases hj : i = j
    · subst hj
      rw [List.getElem?_set_self (List.getElem?_eq_some_iff.mp hv).1, hv]
    · rw [List.getElem?_set_ne hj]
  rw [es] at z
  exact z
/-! ### small statements -/
theorem ds_pass (q : D.nx ρ τ) : Ds X ρ τ (.Pass pos) D := .mk fun σ H o l DD p => ws_of ps_pass (p.nx σ H ρ τ q o l Tr.refl)
theorem ds_break (q : D.bk ρ τ) : Ds X ρ τ (.Break pos) D := .mk fun σ H o l DD p => ws_of ps_break (p.bk σ H ρ τ q o l Tr.refl)
theorem ds_continue (q : D.ct ρ τ) : Ds X ρ τ (.Continue pos) D := .mk fun σ H o l DD p => ws_of ps_continue (p.ct σ H ρ τ q o l Tr.refl)
theorem ds_ret (h : De X ρ τ a D.rt) : Ds X ρ τ (.Return (some a) pos) D := .mk fun σ H o l DD p => ws_of (ps_ret pe_we) (h σ H o l DD.rt p.rt)
theorem ds_retN (q : D.rt (.val .none) τ) : Ds X ρ τ (.Return none pos) D := .mk fun σ H o l DD p => ws_of ps_retN (p.rt .non H _ τ q o Dn.non Tr.refl)
theorem ds_expr (h : De X ρ τ a fun _ τ1 => D.nx ρ τ1) (hs : swapsWith a none pos.line X.env = pure false := by rfl) : Ds X ρ τ (.Expr a pos) D := .mk fun σ H o l DD p =>
  ws_of (ps_expr pe_we hs) (h σ H o l _ fun v H1 x τ1 q o1 r1 t1 => p.nx σ H1 ρ τ1 q o1 (l.tr t1) t1)
theorem ds_if (h : Dt X ρ τ c fun k τ1 => (k = true → Db X ρ τ1 body D) ∧ (k = false → Db X ρ τ1 els D)) : Ds X ρ τ (.If c body els pos) D := .mk fun σ H o l DD p =>
  ws_of (ps_if pt_wt pss_wb pss_wb) (h σ H o l _ fun k H1 τ1 ⟨q1, q2⟩ o1 t1 => by
    cases k with
    | true => exact iteT (q1 rfl σ H1 o1 (l.tr t1) DD (p.step t1))
    | false => exact iteF (q2 rfl σ H1 o1 (l.tr t1) DD (p.step t1)))
theorem ds_set (i : Nat) {x : Str} {pos' : Pos} (hN : X.N.Nodup) (hi : X.N[i]? = some x) (hx : Loc X.env.scope x) (h : De X ρ τ a fun sv τ1 => D.nx (ρ.set i (some sv)) τ1)
    (hs : swapsWith a (some (.Name x pos')) pos.line X.env = pure false := by rfl) (hf : X.fn x = true ∨ X.env.scope.names.lookup x = some .local := by first | exact .inl rfl | exact .inr rfl) : Ds X ρ τ (.Assign [.Name x pos'] a pos) D := .mk fun σ H o l DD p =>
  ws_of (ps_set hN hi hx pe_we hs hf) (h σ H o l _ fun v H1 sv τ1 q o1 r1 t1 => p.nx _ H1 _ τ1 q o1 ((l.tr t1).set r1 i) t1)
/-- a, b, .. = a tuple -/
theorem ds_asg {t : Tg} (hg : PGx X tg t) (h : De X ρ τ a fun sv τ1 => ∃ d, sv = .val d ∧ ∃ ρ2, bindD ρ t d = some ρ2 ∧ D.nx ρ2 τ1)
    (hs : swapsWithSole [tg] a pos.line X.env = pure false := by rfl) (hw : swappedStores [tg] a X.env = pure none := by rfl)
    (h1 : (assignEach [tg] X.env).map (·.2) = [assign tg X.env] := by rfl) : Ds X ρ τ (.Assign [tg] a pos) D := .mk fun σ H o l DD p =>
  ws_of (ps_asg pe_we hg hs hw h1) (h σ H o l _ fun v H1 sv τ1 ⟨d, ex, ρ2, e, q⟩ o1 r1 t1 => by
    subst ex
    exact tgR_ok (l.tr t1) e r1 fun σ2 l2 => p.nx σ2 H1 ρ2 τ1 q o1 l2 t1)
/-- a, b = x, y: two local names -/
theorem ds_par (i j : Nat) {x y : Str} {px py pt : Pos} {kt k2 pt2} (hc : X.calm = true) (hN : X.N.Nodup) (hi : X.N[i]? = some x) (hj : X.N[j]? = some y) (hij : i ≠ j)
    (hx : X.env.scope.names.lookup x = some .local) (hy : X.env.scope.names.lookup y = some .local)
    (h : De X ρ τ a fun sv τ1 => De X ρ τ1 b fun su τ2 => D.nx ((ρ.set i (some sv)).set j (some su)) τ2)
    (hw : swappedStores [.Tuple [.Name x px, .Name y py] kt pt] (.Tuple [a, b] k2 pt2) X.env = pure (some [x, y]))
    (hs : swapsWithSole [.Tuple [.Name x px, .Name y py] kt pt] (.Tuple [a, b] k2 pt2) pos.line X.env = pure false := by rfl)
    (he : starEach [a, b] X.env = (false, eval a X.env) :: starEach [b] X.env := by rfl) (he2 : starEach [b] X.env = (false, eval b X.env) :: starEach [] X.env := by rfl) :
    Ds X ρ τ (.Assign [.Tuple [.Name x px, .Name y py] kt pt] (.Tuple [a, b] k2 pt2) pos) D := .mk fun σ H o l DD p =>
  ws_of (ps_par hc hN hi hj hij hx hy (pa_cons pe_we (pa_cons pe_we pa_nil he2) he) hw hs) (h σ H o l _ fun v H1 sv τ1 h1 o1 r1 t1 => h1 σ H1 o1 (l.tr t1) _ fun u H2 su τ2 q o2 r2 t2 =>
    ⟨v, u, rfl, p.nx _ H2 _ τ2 q o2 ((((l.tr t1).tr t2).set (r1.tr t2) i).set r2 j) (t1.trans t2)⟩)
/-- xs[i] = e, xs a list of the store -/
theorem ds_setix (h : De X ρ τ c fun sv τ1 => De X ρ τ1 a fun x τ2 => De X ρ τ2 b fun y τ3 => ∃ d l ds j n, sv = .val d ∧ x = .hdl l ∧ y = .val (.int n) ∧ τ3.lookup l = some (.lst ds) ∧ ixN ds.length n = some j ∧ D.nx ρ (setS l (.lst (ds.set j d)) τ3))
    (hsub : ∀ v, assign (.Subscript a b p1) X.env v = (do
      let ov ← holding [v] (eval a X.env)
      let iv ← holding [v, ov] (eval b X.env)
      standAt p1
      holding [v, ov, iv] (setItem ov iv v)
      release [v, ov, iv] []) := by intro _; rfl)
    (hs : swapsWithSole [.Subscript a b p1] c pos.line X.env = pure false := by rfl) (hw : swappedStores [.Subscript a b p1] c X.env = pure none := by rfl)
    (h1 : (assignEach [.Subscript a b p1] X.env).map (·.2) = [assign (.Subscript a b p1) X.env] := by rfl) : Ds X ρ τ (.Assign [.Subscript a b p1] c pos) D := .mk fun σ H o l DD p => by
  refine ws_of (ps_asg pe_we (pg_sub pe_we pe_we set_list hsub) hs hw h1) (h σ H o l _ fun v H1 sv τ1 h1 o1 r1 t1 => ?_)
  refine h1 σ H1 o1 (l.tr t1) _ fun v2 H2 x τ2 h2 o2 r2 t2 => h2 σ H2 o2 ((l.tr t1).tr t2) _ fun v3 H3 y τ3 ⟨d, l', ds, j, n, e1, e2, e3, e4, e5, q⟩ o3 r3 t3 => ?_
  subst e1 e2 e3
  cases r2
  cases r3
  obtain ⟨vs, h4, h5⟩ := o3.get e4
  have hm : l' ∈ dom τ3 := List.mem_map_of_mem (mem_of_lookup e4)
  have dn : Dn X.K (dom τ3) H3 v d := (r1.tr t2).tr t3
  refine ⟨l', vs, n, j, rfl, rfl, h4, by rw [h5.length]; exact e5, ?_⟩
  have tw : Tr (dom τ3) H3 (dom τ3) (upd H3 l' (.lst (vs.set j v))) := Tr.write hm
  have tw' : Tr (dom τ3) H3 (dom (setS l' (.lst (ds.set j d)) τ3)) (upd H3 l' (.lst (vs.set j v))) := by
    rw [dom_setS]
    exact tw
  exact p.nx σ _ ρ _ q (o3.write hm ⟨_, upd_same, (h5.set j dn).tr tw⟩) ((((l.tr t1).tr t2).tr t3).tr tw') (((t1.trans t2).trans t3).trans tw')
/-! ### methods of built-in types -/
structure MeD (K : PySem.W.Frag) (r : V → List V → Hp → VK → Prop) (x : MV) (xs : List MV) (τ : Store) (Q : MV → Store → Prop) : Prop where
  run : ∀ (H : Hp) (v : V) (vs : List V), StOk K H τ → Rv K (dom τ) H v x → RvL K (dom τ) H vs xs → ∀ QQ : VK, Pst K τ H Q QQ → r v vs H QQ
instance {K : PySem.W.Frag} {r : V → List V → Hp → VK → Prop} {x : MV} {xs : List MV} {τ : Store} {Q : MV → Store → Prop} : CoeFun (MeD K r x xs τ Q) fun _ => ∀ (H : Hp) (v : V) (vs : List V), StOk K H τ → Rv K (dom τ) H v x → RvL K (dom τ) H vs xs → ∀ QQ : VK, Pst K τ H Q QQ → r v vs H QQ := ⟨fun h => h.run⟩
def TyM (T : String) (x : MV) (τ : Store) : Prop := (T = "list" ∧ ∃ ds, datOf τ x = some (.list ds)) ∨ (T = "str" ∧ ∃ z, x = .val (.str z))
theorem TyM.ty {K : PySem.W.Frag} {H : Hp} {v : V} {T : String} {x : MV} (h : TyM T x τ) (o : StOk K H τ) (r : Rv K (dom τ) H v x) : tyV K T v H := by
  rcases h with ⟨rfl, ds, e⟩ | ⟨rfl, z, rfl⟩
  · obtain ⟨a, vs, rfl, h1, _⟩ := r.seqL o e
    exact .inl ⟨rfl, vs, h1⟩
  · cases r
    rfl
variable {Q : MV → Store → Prop}
theorem de_bm {T id : String} {name : Str} {r : V → List V → Hp → VK → Prop} {apos cpos : Pos} (pa : PlainAttrs T) (slot : Slot T name id) (hty : typeOf (.builtin id) = pure (.type "method_descriptor")) (hm : MtR X id r)
    (h : De X ρ τ a fun x τ1 => TyM T x τ1 ∧ Da X ρ τ1 (b :: es) fun xs τ2 => MeD X.K r x xs τ2 Q)
    (hbase : attributeBase a name X.env (eval a X.env) = eval a X.env := by rfl)
    (hfew : ((backTo cpos (starEach (b :: es) X.env)).all (fun x => !x.1) && (backToKw cpos (keywordEach [] X.env)).all (fun x => x.1.isSome)
      && decide ((b :: es).length + ([] : List Keyword).length + (if ([] : List Keyword).isEmpty then 0 else 1) < 30)) = true := by rfl)
    (hline : (apos.endLine == cpos.line) = true := by rfl) (hs : starEach (b :: es) X.env = (false, eval b X.env) :: starEach es X.env := by rfl) (hplain : (backTo cpos (starEach es X.env)).any (·.1) = false := by rfl) :
    De X ρ τ (.Call (.Attribute a name apos) (b :: es) [] cpos) Q := .mk fun σ H o l QQ p =>
  we_of (pe_bm pa slot hty hm pe_we pa_wa hbase hfew hline hs hplain) (h σ H o l _ fun v H1 x τ1 ⟨ty, h1⟩ o1 r1 t1 => ⟨ty.ty o1 r1, h1 σ H1 o1 (l.tr t1) _ fun vs H2 xs τ2 h2 o2 r2 t2 => h2 H2 v vs o2 (r1.tr t2) r2 QQ ((p.step t1).step t2)⟩)
theorem de_bm0 {T id : String} {name : Str} {r : V → List V → Hp → VK → Prop} {apos cpos : Pos} (pa : PlainAttrs T) (slot : Slot T name id) (hty : typeOf (.builtin id) = pure (.type "method_descriptor")) (hm : MtR X id r)
    (h : De X ρ τ a fun x τ1 => TyM T x τ1 ∧ MeD X.K r x [] τ1 Q)
    (hbase : attributeBase a name X.env (eval a X.env) = eval a X.env := by rfl) (hline : (apos.endLine == cpos.line) = true := by rfl) :
    De X ρ τ (.Call (.Attribute a name apos) [] [] cpos) Q := .mk fun σ H o l QQ p =>
  we_of (pe_bm0 pa slot hty hm pe_we hbase hline) (h σ H o l _ fun v H1 x τ1 ⟨ty, h1⟩ o1 r1 t1 => ⟨ty.ty o1 r1, h1 H1 v [] o1 r1 .nil QQ (p.step t1)⟩)
/-- a list of the store is written -/
theorem Pst.write {K : PySem.W.Frag} {H : Hp} {QQ : VK} {l : Addr} {ds es : List PyData} {vs : List V} {v : V} {sv : MV} (p : Pst K τ H Q QQ) (o : StOk K H τ) (e : τ.lookup l = some (.lst ds)) (dn : DnL K (dom τ) H vs es)
    (rv : ∀ N H', Tr (dom τ) H N H' → Rv K N H' v sv) (q : Q sv (setS l (.lst es) τ)) : QQ v (upd H l (.lst vs)) := by
  have hm : l ∈ dom τ := List.mem_map_of_mem (mem_of_lookup e)
  have tw : Tr (dom τ) H (dom τ) (upd H l (.lst vs)) := Tr.write hm
  have tw' : Tr (dom τ) H (dom (setS l (.lst es) τ)) (upd H l (.lst vs)) := by
    rw [dom_setS]
    exact tw
  exact p _ _ sv _ q (o.write hm ⟨_, upd_same, dn.tr tw⟩) (rv _ _ tw') tw'
/-- xs.append(e) -/
theorem de_append {apos cpos : Pos} (h : De X ρ τ a fun x τ1 => ∃ l ds', x = .hdl l ∧ τ1.lookup l = some (.lst ds') ∧ De X ρ τ1 b fun sv τ2 => ∃ d ds, sv = .val d ∧ τ2.lookup l = some (.lst ds) ∧ ds.length < 1000000 ∧ Q (.val .none) (setS l (.lst (ds ++ [d])) τ2))
    (hbase : attributeBase a "append" X.env (eval a X.env) = eval a X.env := by rfl)
    (hfew : ((backTo cpos (starEach [b] X.env)).all (fun x => !x.1) && (backToKw cpos (keywordEach [] X.env)).all (fun x => x.1.isSome)
      && decide ([b].length + ([] : List Keyword).length + (if ([] : List Keyword).isEmpty then 0 else 1) < 30)) = true := by rfl)
    (hline : (apos.endLine == cpos.line) = true := by rfl) (hs : starEach [b] X.env = (false, eval b X.env) :: starEach [] X.env := by rfl) (hplain : (backTo cpos (starEach [] X.env)).any (·.1) = false := by rfl) :
    De X ρ τ (.Call (.Attribute a "append" apos) [b] [] cpos) Q := .mk fun σ H o l QQ p =>
  de_bm PySem.F.plainAttrs_list PySem.F.slot_list_append PySem.F.type_list_append mt_append (h.mono fun x τ1 ⟨l, ds', ex, e, h1⟩ => by
    subst ex
    refine ⟨.inl ⟨rfl, ds', by simp only [datOf, e]⟩, da_one (h1.mono fun sv τ2 ⟨d, ds, ev, e2, hl, q⟩ => ?_) hs⟩
    subst ev
    refine .mk fun H v vs o rv rl QQ p => ?_
    cases rv
    obtain ⟨u, rfl, ru⟩ := paired1 rl
    obtain ⟨ws, h2, h3⟩ := o.get e2
    exact ⟨l, ws, u, rfl, rfl, h2, small_sz' (by rw [h3.length]; exact hl), p.write (sv := .val .none) o e2 (h3.append (.cons ru .nil)) (fun _ _ _ => Dn.non) q⟩) hbase hfew hline hs hplain σ H o l QQ p
/-- xs.extend(ys) -/
theorem de_extend {apos cpos : Pos} (h : De X ρ τ a fun x τ1 => ∃ l ds', x = .hdl l ∧ τ1.lookup l = some (.lst ds') ∧ De X ρ τ1 b fun sv τ2 => ∃ ds es, lstOf τ2 sv = some es ∧ τ2.lookup l = some (.lst ds) ∧ ds.length + es.length ≤ 1000000 ∧ Q (.val .none) (setS l (.lst (ds ++ es)) τ2))
    (hbase : attributeBase a "extend" X.env (eval a X.env) = eval a X.env := by rfl)
    (hfew : ((backTo cpos (starEach [b] X.env)).all (fun x => !x.1) && (backToKw cpos (keywordEach [] X.env)).all (fun x => x.1.isSome)
      && decide ([b].length + ([] : List Keyword).length + (if ([] : List Keyword).isEmpty then 0 else 1) < 30)) = true := by rfl)
    (hline : (apos.endLine == cpos.line) = true := by rfl) (hs : starEach [b] X.env = (false, eval b X.env) :: starEach [] X.env := by rfl) (hplain : (backTo cpos (starEach [] X.env)).any (·.1) = false := by rfl) :
    De X ρ τ (.Call (.Attribute a "extend" apos) [b] [] cpos) Q := .mk fun σ H o l QQ p =>
  de_bm PySem.F.plainAttrs_list PySem.F.slot_list_extend PySem.F.type_list_extend mt_extend (h.mono fun x τ1 ⟨l, ds', ex, e, h1⟩ => by
    subst ex
    refine ⟨.inl ⟨rfl, ds', by simp only [datOf, e]⟩, da_one (h1.mono fun sv τ2 ⟨ds, es, ev, e2, hl, q⟩ => ?_) hs⟩
    refine .mk fun H v vs o rv rl QQ p => ?_
    cases rv
    obtain ⟨u, rfl, ru⟩ := paired1 rl
    obtain ⟨ws, h2, h3⟩ := o.get e2
    obtain ⟨b', us, rfl, h4, h5⟩ := ru.lstS o ev
    exact ⟨l, b', ws, us, rfl, rfl, h2, h4, small_sz (by rw [h3.length, h5.length]; exact hl), p.write (sv := .val .none) o e2 (h3.append h5) (fun _ _ _ => Dn.non) q⟩) hbase hfew hline hs hplain σ H o l QQ p

/-! ### for -/
theorem ds_for {t : Tg} (hc : X.calm = true) (hp : PassesOwn (model X.prog X.w) X.A X.env X.xe) (hg : PGx X tg t)
    (h : Di X tg ρ τ iter fun ds S τ1 => ∃ I : Nat → En → Store → Prop, I 0 ρ τ1 ∧ (∀ i ρ' τ', I i ρ' τ' → S τ') ∧
      (∀ i d ρ' τ', ds[i]? = some d → I i ρ' τ' → ∃ ρ2, bindD ρ' t d = some ρ2 ∧ Db X ρ2 τ' body { D with nx := I (i + 1), ct := I (i + 1), bk := D.nx }) ∧
      (∀ ρ' τ', I ds.length ρ' τ' → D.nx ρ' τ'))
    (hs : ∀ x, foldedSetIterable iter X.env x = pure x := by intro _; rfl) : Ds X ρ τ (.For tg iter body [] pos) D := .mk fun σ H o l DD p => by
  refine ws_of (ps_for hp hc pi_wi hg pss_wb hs) (h σ H o l _ fun J H1 ds S τ1 ⟨I, h0, hS, hst, hd⟩ o1 t1 wk => ?_)
  refine ⟨fun i m σ' H' => m = ds.length - i ∧ i ≤ ds.length ∧ ∃ ρ' τ', I i ρ' τ' ∧ StOk X.K H' τ' ∧ SlOk X.K (dom τ') H' σ' ρ' ∧ Tr (dom τ1) H1 (dom τ') H', ⟨ds.length, rfl, Nat.zero_le _, ρ, τ1, h0, o1, l.tr t1, Tr.refl⟩, ?_⟩
  rintro i m σ' H' ⟨rfl, hi, ρ', τ', hI, o', l', t'⟩
  by_cases hlt : i < ds.length
  · refine .inr ⟨wk.go i H' τ' hlt t' o' (hS _ _ _ hI), fun σ2 H2 => ∃ ρ2 τ2, I (i + 1) ρ2 τ2 ∧ StOk X.K H2 τ2 ∧ SlOk X.K (dom τ2) H2 σ2 ρ2 ∧ Tr (dom τ1) H1 (dom τ2) H2, fun σ2 H2 q => ⟨ds.length - (i + 1), by omega, rfl, hlt, q⟩, fun x H2 y => ?_⟩
    obtain ⟨d, hd', t2, o2, r2⟩ := wk.yld i H' τ' x H2 hlt t' o' (hS _ _ _ hI) y
    obtain ⟨ρ2, e2, hb⟩ := hst i d ρ' τ' hd' hI
    refine tgR_ok (l'.tr t2) e2 r2 fun σ3 l3 => hb σ3 H2 o2 l3 _ ⟨fun σ4 H4 ρ4 τ4 q o4 l4 t4 => ⟨ρ4, τ4, q, o4, l4, (t'.trans t2).trans t4⟩, ?_, ?_, fun σ4 H4 ρ4 τ4 q o4 l4 t4 => ⟨ρ4, τ4, q, o4, l4, (t'.trans t2).trans t4⟩⟩
    · exact p.rt.step ((t1.trans t').trans t2)
    · exact p.nx.step ((t1.trans t').trans t2)
  · have e : i = ds.length := by omega
    subst e
    exact .inl ⟨wk.stop _ H' τ' (Nat.le_refl _) t' o' (hS _ _ _ hI), p.nx σ' H' ρ' τ' (hd _ _ hI) o' l' (t1.trans t')⟩
/-! ### while -/
theorem ds_while (hp : PassesOwn (model X.prog X.w) X.A X.env X.xe) (I : Nat → En → Store → Prop) (h0 : ∃ m, I m ρ τ)
    (h : ∀ m ρ' τ', I m ρ' τ' → Dt X ρ' τ' c fun k τ1 => (k = true → Db X ρ' τ1 body { D with nx := fun ρ2 τ2 => ∃ m', m' < m ∧ I m' ρ2 τ2, ct := fun ρ2 τ2 => ∃ m', m' < m ∧ I m' ρ2 τ2, bk := D.nx }) ∧ (k = false → D.nx ρ' τ1)) :
    Ds X ρ τ (.While c body [] pos) D := .mk fun σ H o l DD p => by
  refine ws_of (ps_while hp pt_wt pss_wb) ⟨fun m σ' H' => ∃ ρ' τ', I m ρ' τ' ∧ StOk X.K H' τ' ∧ SlOk X.K (dom τ') H' σ' ρ' ∧ Tr (dom τ) H (dom τ') H', ?_, ?_⟩
  · obtain ⟨m, hm⟩ := h0
    exact ⟨m, ρ, τ, hm, o, l, Tr.refl⟩
  · rintro m σ' H' ⟨ρ', τ', hI, o', l', t'⟩
    refine h m ρ' τ' hI σ' H' o' l' _ fun k H1 τ1 ⟨q1, q2⟩ o1 t1 => ?_
    cases k with
    | true =>
      refine iteT ⟨fun σ2 H2 => ∃ m', m' < m ∧ ∃ ρ2 τ2, I m' ρ2 τ2 ∧ StOk X.K H2 τ2 ∧ SlOk X.K (dom τ2) H2 σ2 ρ2 ∧ Tr (dom τ) H (dom τ2) H2, fun σ2 H2 q => q, ?_⟩
      refine q1 rfl σ' H1 o1 (l'.tr t1) _ ⟨fun σ4 H4 ρ4 τ4 ⟨m', hm, q⟩ o4 l4 t4 => ⟨m', hm, ρ4, τ4, q, o4, l4, (t'.trans t1).trans t4⟩, ?_, ?_, fun σ4 H4 ρ4 τ4 ⟨m', hm, q⟩ o4 l4 t4 => ⟨m', hm, ρ4, τ4, q, o4, l4, (t'.trans t1).trans t4⟩⟩
      · exact p.rt.step (t'.trans t1)
      · exact p.nx.step (t'.trans t1)
    | false => exact iteF (p.nx σ' H1 ρ' τ1 (q2 rfl) o1 (l'.tr t1) (t'.trans t1))
end

/-! ### comprehensions -/
abbrev Blk (X : Cx) (s : Shared) (H : Hp) (scope : Scope) (C : Addr) (cl : List (Str × Addr)) (fp : List Addr) : Cx := X.blk s H scope (compEnvC scope cl C X.env) fp
section
variable {X : Cx} {ρ : En} {τ : Store} {pos p1 p2 p3 spos : Pos} {tg iter elt tg1 iter1 : Expr} {ifs ifs1 : List Expr} {scope : Scope} {own : List (Str × Nat)}
theorem df_nil {Q : Bool → Store → Prop} (q : Q true τ) : Df X ρ τ [] Q := .mk fun σ H o l QQ p => wf_of pts_nil (p true H τ q o Tr.refl)
theorem df_one {c : Expr} {Q : Bool → Store → Prop} (h : Dt X ρ τ c Q) : Df X ρ τ [c] Q := .mk fun σ H o l QQ p => wf_of (pts_one pt_wt) (h σ H o l QQ p)
/-- one turn: the items' loop by an invariant over the turn, what is made so far, the store -/
structure Turns (X : Cx) (ρ : En) (scope : Scope) (vs : List Nat) (t : Tg) (elt : Expr) (ifs : List Expr) (ds : List PyData) (S : Store → Prop) (I : Nat → List PyData → Store → Prop) : Prop where
  keep : ∀ i acc τ' D, I i acc τ' → D ∉ dom τ' → S ((D, .lst acc) :: τ')
  turn : ∀ i d acc τ', ds[i]? = some d → I i acc τ' → acc.length < 1000000 ∧ ∀ D, D ∉ dom τ' → ∃ ρ2, bindD (wipeE ρ vs) t d = some ρ2 ∧ ∃ T : Bool → Store → Prop,
    (∀ s H C cl fp, Df (Blk X s H scope C cl fp) ρ2 ((D, .lst acc) :: τ') ifs T) ∧
    (∀ τ2, T true τ2 → ∀ s H C cl fp, De (Blk X s H scope C cl fp) ρ2 τ2 elt fun sv τ3 => ∃ y τ4, sv = .val y ∧ τ3 = (D, .lst acc) :: τ4 ∧ I (i + 1) (acc ++ [y]) τ4) ∧
    (∀ τ2, T false τ2 → ∃ τ4, τ2 = (D, .lst acc) :: τ4 ∧ I (i + 1) acc τ4)
/-- what a comprehension hands on, over what is walked -/
def LcQ (X : Cx) (ρ : En) (scope : Scope) (vs : List Nat) (t : Tg) (elt : Expr) (ifs : List Expr) (Q : MV → Store → Prop) : List PyData → (Store → Prop) → Store → Prop := fun ds S τ1 =>
  ∃ I : Nat → List PyData → Store → Prop, I 0 [] τ1 ∧ Turns X ρ scope vs t elt ifs ds S I ∧ ∀ acc τ', I ds.length acc τ' → Q (.val (.list acc)) τ'
def ttB (X : Cx) (scope : Scope) (ifs : List Expr) : TT := fun σ H Q => ∀ s H0 C cl fp, Wf (Blk X s H0 scope C cl fp) ifs σ H Q
def teB (X : Cx) (scope : Scope) (elt : Expr) : TE := fun σ H Q => ∀ s H0 C cl fp, We (Blk X s H0 scope C cl fp) elt σ H Q
theorem lc_read {t : Tg} {vs : List Nat} {Q : MV → Store → Prop} (hu : ∀ j ∈ t.slots, j ∈ vs) (h : Di X tg ρ τ iter (LcQ X ρ scope vs t elt ifs Q)) {σ : L2.St} {H : Hp} (o : StOk X.K H τ) (l : SlOk X.K (dom τ) H σ ρ) {QQ : VK} (p : Pst X.K τ H Q QQ) :
    tLc (Wi X tg iter) (tgR X.K t) (ttB X scope ifs) (teB X scope elt) vs σ H QQ := by
  refine h σ H o l _ fun J H1 ds S τ1 ⟨I, h0, ht, hd⟩ o1 t1 wk => fun D hD => ?_
  have t1' : Tr (dom τ1) H1 (dom ((D, MO.lst []) :: τ1)) (upd H1 D (.lst [])) := Tr.push hD
  refine ⟨fun i m H' => m = ds.length - i ∧ i ≤ ds.length ∧ ∃ acc τ', I i acc τ' ∧ StOk X.K H' ((D, .lst acc) :: τ') ∧ Tr (dom τ1) H1 (dom ((D, MO.lst acc) :: τ')) H', ⟨ds.length, rfl, Nat.zero_le _, [], τ1, h0, o1.push hD ⟨[], upd_same, .nil⟩, t1'⟩, ?_⟩
  rintro i m H' ⟨rfl, hi, acc, τ', hI, o', t'⟩
  have nD : D ∉ dom τ' := (List.nodup_cons.mp o'.nd).1
  by_cases hlt : i < ds.length
  · refine .inr ⟨wk.go i H' _ hlt t' o' (ht.keep _ _ _ _ hI nD), fun H2 => ∃ acc τ', I (i + 1) acc τ' ∧ StOk X.K H2 ((D, .lst acc) :: τ') ∧ Tr (dom τ1) H1 (dom ((D, MO.lst acc) :: τ')) H2, fun H2 q => ⟨ds.length - (i + 1), by omega, rfl, hlt, q⟩, fun x H2 y => ?_⟩
    obtain ⟨d, hd', t2, o2, r2⟩ := wk.yld i H' _ x H2 hlt t' o' (ht.keep _ _ _ _ hI nD) y
    obtain ⟨hl, ht2⟩ := ht.turn i d acc τ' hd' hI
    obtain ⟨ρ2, e2, T, hf, he, hn⟩ := ht2 D nD
    have l2 : SlOk X.K (dom ((D, MO.lst acc) :: τ')) H2 (wipe σ vs) (wipeE ρ vs) := (((l.tr t1).tr t').tr t2).wipe vs
    refine tgR_ok' hu l2 e2 r2 fun σ3 l3 w3 => ⟨by rw [w3, wipe_wipe σ vs vs fun _ h => h], ?_⟩
    intro s0 H0 C0 cl0 fp0
    refine hf s0 H0 C0 cl0 fp0 σ3 H2 o2 l3 _ fun k H3 τ3 q3 o3 t3 => ?_
    cases k with
    | true =>
      refine iteT ?_
      intro s1 H1' C1 cl1 fp1
      refine he τ3 q3 s1 H1' C1 cl1 fp1 σ3 H3 o3 (l3.tr t3) _ fun v H4 sv τ4 ⟨y', τ5, e5, e6, q5⟩ o4 r4 t4 => ?_
      subst e5 e6
      obtain ⟨us, h5, h6⟩ := o4.ok (D, .lst acc) List.mem_cons_self
      have nD5 : D ∉ dom τ5 := (List.nodup_cons.mp o4.nd).1
      have tw : Tr (dom ((D, MO.lst acc) :: τ5)) H4 (dom ((D, MO.lst (acc ++ [y'])) :: τ5)) (upd H4 D (.lst (us ++ [v]))) := Tr.write (τ := (D, MO.lst acc) :: τ5) (a := D) List.mem_cons_self
      have ow := o4.write (a := D) (o := .lst (us ++ [v])) (mo := .lst (acc ++ [y'])) List.mem_cons_self ⟨_, upd_same, (h6.append (.cons r4 .nil)).tr (Tr.write (τ := (D, MO.lst acc) :: τ5) (a := D) List.mem_cons_self)⟩
      have es : setS D (.lst (acc ++ [y'])) ((D, MO.lst acc) :: τ5) = (D, .lst (acc ++ [y'])) :: τ5 := if_pos rfl
      rw [es] at ow
      exact ⟨us, h5, small_sz' (by rw [h6.length]; exact hl), acc ++ [y'], τ5, q5, ow, (((t'.trans t2).trans t3).trans t4).trans tw⟩
    | false =>
      refine iteF ?_
      obtain ⟨τ5, e5, q5⟩ := hn τ3 q3
      subst e5
      exact ⟨acc, τ5, q5, o3, (t'.trans t2).trans t3⟩
  · have e : i = ds.length := by omega
    subst e
    refine .inl ⟨wk.stop _ H' _ (Nat.le_refl _) t' o' (ht.keep _ _ _ _ hI nD), ?_⟩
    obtain ⟨us, h5, h6⟩ := o'.ok (D, .lst acc) List.mem_cons_self
    exact p _ H' (.val (.list acc)) τ' (hd _ _ hI) o'.drop (Dn.lst ⟨nD, h5⟩ (h6.tr Tr.drop)) (t1.trans (t'.trans Tr.drop))
theorem de_lc {t : Tg} {Q : MV → Store → Prop} (hc : X.calm = true) (hN : X.N.Nodup) (ok : BlkOk X.N X.env.scope scope own) (hu : ∀ j ∈ t.slots, j ∈ own.map (·.2))
    (hg : ∀ s H C cl fp, PGx (Blk X s H scope C cl fp) tg t) (h : Di X tg ρ τ iter (LcQ X ρ scope (own.map (·.2)) t elt ifs Q)) (hs : ∀ x, foldedSetIterable iter X.env x = pure x := by intro _; rfl) :
    De X ρ τ (.ListComp elt [⟨tg, iter, ifs, 0⟩] scope pos) Q := .mk fun σ H o l QQ p =>
  we_of (pe_lc (tt := ttB X scope ifs) (te := teB X scope elt) (g := tgR X.K t) hc hN pi_wi ok hg (fun s H C cl fp => ⟨fun pins s' σ' H' Q' I hq => hq s H C cl fp pins s' I⟩) (fun s H C cl fp => ⟨fun pins s' σ' H' Q' I hq => hq s H C cl fp pins s' I⟩) hs) (lc_read hu h o l p)
/-- name = [..] -/
theorem ds_setLc {t : Tg} {D : DE} (i : Nat) {y : Str} {py : Pos} (hc : X.calm = true) (hN : X.N.Nodup) (hy : X.N[i]? = some y) (hyl : X.env.scope.names.lookup y = some .local)
    (hsw : swapsWith (.ListComp elt [⟨tg, iter, ifs, 0⟩] scope pos) (some (.Name y py)) spos.line X.env = pure true) (ok : BlkOk X.N X.env.scope scope own) (hu : ∀ j ∈ t.slots, j ∈ own.map (·.2))
    (hg : ∀ s H C cl fp, PGx (Blk X s H scope C cl fp) tg t) (h : Di X tg ρ τ iter (LcQ X ρ scope (own.map (·.2)) t elt ifs fun sv τ1 => D.nx (ρ.set i (some sv)) τ1)) (hs : ∀ x, foldedSetIterable iter X.env x = pure x := by intro _; rfl) :
    Ds X ρ τ (.Assign [.Name y py] (.ListComp elt [⟨tg, iter, ifs, 0⟩] scope pos) spos) D := .mk fun σ H o l DD p =>
  ws_of (ps_setLc (tt := ttB X scope ifs) (te := teB X scope elt) (g := tgR X.K t) hc hN hy hyl hsw pi_wi ok hg (fun s H C cl fp => ⟨fun pins s' σ' H' Q' I hq => hq s H C cl fp pins s' I⟩) (fun s H C cl fp => ⟨fun pins s' σ' H' Q' I hq => hq s H C cl fp pins s' I⟩) hs)
    (lc_read hu h o l (QQ := fun v H1 => gName i v σ H1 DD.nx) fun v H1 sv τ1 q o1 r1 t1 => p.nx _ H1 _ τ1 q o1 ((l.tr t1).set r1 i) t1)
/-- no test, nothing changes: a map -/
theorem lcq_map {α : Type} {t : Tg} {vs : List Nat} {Q : MV → Store → Prop} {ds : List PyData} (xs : List α) (emb f : α → PyData) (he : ds = xs.map emb) {S : Store → Prop} {τ1 : Store} (hl : xs.length ≤ 1000000)
    (h : ∀ x ∈ xs, ∃ ρ2, bindD (wipeE ρ vs) t (emb x) = some ρ2 ∧ ∀ D acc, D ∉ dom τ1 → ∀ s H C cl fp, De (Blk X s H scope C cl fp) ρ2 ((D, .lst acc) :: τ1) elt fun sv τ3 => sv = .val (f x) ∧ τ3 = (D, .lst acc) :: τ1) (q : Q (.val (.list (xs.map f))) τ1) (hS : ∀ D acc, D ∉ dom τ1 → S ((D, .lst acc) :: τ1) := by exact fun _ _ _ => trivial) :
    LcQ X ρ scope vs t elt [] Q ds S τ1 := by
  subst he
  refine ⟨fun i acc τ' => τ' = τ1 ∧ acc = (xs.take i).map f, ⟨rfl, rfl⟩, ⟨?_, ?_⟩, ?_⟩
  · rintro i acc τ' D ⟨rfl, rfl⟩ hD
    exact hS D _ hD
  · rintro i d acc τ' hd ⟨rfl, rfl⟩
    rw [List.getElem?_map] at hd
    cases hx : xs[i]? with
    | none => rw [hx] at hd; cases hd
    | some x =>
      rw [hx] at hd
      cases hd
      have hi : i < xs.length := (List.getElem?_eq_some_iff.mp hx).1
      refine ⟨by rw [List.length_map, List.length_take]; omega, fun D hD => ?_⟩
      obtain ⟨ρ2, e, hb⟩ := h x (List.mem_of_getElem? hx)
      refine ⟨ρ2, e, fun k τ2 => k = true ∧ τ2 = (D, .lst ((xs.take i).map f)) :: τ', fun s H C cl fp => df_nil ⟨rfl, rfl⟩, ?_, ?_⟩
      · rintro τ2 ⟨_, rfl⟩ s H C cl fp
        refine (hb D _ hD s H C cl fp).mono ?_
        rintro sv τ3 ⟨rfl, rfl⟩
        exact ⟨f x, τ', rfl, rfl, rfl, by rw [List.take_add_one, hx, List.map_append]; rfl⟩
      · rintro τ2 ⟨h, _⟩
        cases h
  · rintro acc τ' ⟨rfl, rfl⟩
    rw [List.length_map, List.take_length]
    exact q
/-- one test, nothing changes -/
theorem lcq_filter {α : Type} {t : Tg} {vs : List Nat} {c : Expr} {Q : MV → Store → Prop} {ds : List PyData} (xs : List α) (emb f : α → PyData) (pr : α → Bool) (he : ds = xs.map emb) {S : Store → Prop} {τ1 : Store} (hl : xs.length ≤ 1000000)
    (h : ∀ x ∈ xs, ∃ ρ2, bindD (wipeE ρ vs) t (emb x) = some ρ2 ∧ ∀ D acc, D ∉ dom τ1 → ∀ s H C cl fp, Dt (Blk X s H scope C cl fp) ρ2 ((D, .lst acc) :: τ1) c (fun k τ2 => k = pr x ∧ τ2 = (D, .lst acc) :: τ1) ∧
      (pr x = true → De (Blk X s H scope C cl fp) ρ2 ((D, .lst acc) :: τ1) elt fun sv τ3 => sv = .val (f x) ∧ τ3 = (D, .lst acc) :: τ1)) (q : Q (.val (.list ((xs.filter pr).map f))) τ1) (hS : ∀ D acc, D ∉ dom τ1 → S ((D, .lst acc) :: τ1) := by exact fun _ _ _ => trivial) :
    LcQ X ρ scope vs t elt [c] Q ds S τ1 := by
  subst he
  refine ⟨fun i acc τ' => τ' = τ1 ∧ acc = ((xs.take i).filter pr).map f, ⟨rfl, rfl⟩, ⟨?_, ?_⟩, ?_⟩
  · rintro i acc τ' D ⟨rfl, rfl⟩ hD
    exact hS D _ hD
  · rintro i d acc τ' hd ⟨rfl, rfl⟩
    rw [List.getElem?_map] at hd
    cases hx : xs[i]? with
    | none => rw [hx] at hd; cases hd
    | some x =>
      rw [hx] at hd
      cases hd
      have hi : i < xs.length := (List.getElem?_eq_some_iff.mp hx).1
      have hle : ((xs.take i).filter pr).length ≤ i := Nat.le_trans (List.length_filter_le _ _) (by rw [List.length_take]; omega)
      refine ⟨by rw [List.length_map]; omega, fun D hD => ?_⟩
      obtain ⟨ρ2, e, hb⟩ := h x (List.mem_of_getElem? hx)
      refine ⟨ρ2, e, fun k τ2 => k = pr x ∧ τ2 = (D, .lst (((xs.take i).filter pr).map f)) :: τ', fun s H C cl fp => df_one (hb D _ hD s H C cl fp).1, ?_, ?_⟩
      · rintro τ2 ⟨hk, rfl⟩ s H C cl fp
        refine ((hb D _ hD s H C cl fp).2 hk.symm).mono ?_
        rintro sv τ3 ⟨rfl, rfl⟩
        refine ⟨f x, τ', rfl, rfl, rfl, ?_⟩
        rw [List.take_add_one, hx]
        show _ = ((xs.take i ++ [x]).filter pr).map f
        rw [List.filter_append, List.map_append, show [x].filter pr = [x] from by rw [List.filter_cons, ← hk]; rfl]
        rfl
      · rintro τ2 ⟨hk, rfl⟩
        refine ⟨τ', rfl, rfl, ?_⟩
        rw [List.take_add_one, hx]
        show _ = ((xs.take i ++ [x]).filter pr).map f
        rw [List.filter_append, show [x].filter pr = [] from by rw [List.filter_cons, ← hk]; rfl, List.append_nil]
  · rintro acc τ' ⟨rfl, rfl⟩
    rw [List.length_map, List.take_length]
    exact q
end
end Dl

namespace Dl
open PySem PySem.Spec L2

/-! ### a def keeps its promise -/
def startE (N : List Str) (svs : List MV) : En := svs.map some ++ List.replicate (N.length - svs.length) none
theorem slOk_start {K : PySem.W.Frag} {A : List Addr} {H : Hp} {N : List Str} {vs : List V} {svs : List MV} (r : RvL K A H vs svs) : SlOk K A H (L2.start N vs) (startE N svs) := by
  have hl : vs.length = svs.length := Paired.length r
  refine ⟨by unfold L2.start startE; rw [List.length_append, List.length_append, List.length_map, List.length_map, List.length_replicate, List.length_replicate, hl], fun i sv e => ?_⟩
  unfold startE at e
  by_cases hi : i < svs.length
  · rw [List.getElem?_append_left (by rw [List.length_map]; exact hi), List.getElem?_map] at e
    have get : ∀ {vs : List V} {svs : List MV} {i : Nat} {sv : MV}, RvL K A H vs svs → svs[i]? = some sv → ∃ v, vs[i]? = some v ∧ Rv K A H v sv := by
      intro vs svs i sv r
      induction r generalizing i with
      | nil => intro e; simp at e
      | cons a b ih =>
        intro e
        cases i with
        | zero =>
          simp at e
          subst e
          exact ⟨_, rfl, a⟩
        | succ i =>
          obtain ⟨v, h1, h2⟩ := ih (by simpa using e)
          exact ⟨v, by simpa using h1, h2⟩
    cases h : svs[i]? with
    | none => rw [h] at e; cases e
    | some sv' =>
      rw [h] at e
      cases e
      obtain ⟨v, h1, h2⟩ := get r h
      refine ⟨v, ?_, h2⟩
      unfold L2.start
      rw [List.getElem?_append_left (by rw [List.length_map, hl]; exact hi), List.getElem?_map, h1]
      rfl
  · rw [List.getElem?_append_right (by rw [List.length_map]; omega), List.getElem?_replicate] at e
    split at e <;> cases e
section
variable {P : Program} {w : World} {K : PySem.W.Frag} {mg : Str → Option Value} {base : Heap}
/-- a def as the top has left it -/
structure HasDef (K : PySem.W.Frag) (mg : Str → Option Value) (x : Str) (st : Stmt) (ps : List Str) : Prop where
  ex : ∃ (f : Addr) (fd : FuncData), Fun K x x st f fd ∧ mg x = some (.ref f) ∧ Binds K fd ps []
abbrev BX (P : Program) (w : World) (K : PySem.W.Frag) (mg : Str → Option Value) (base : Heap) (N : List Str) (x : Str) (st : Stmt) (f : Addr) (cdv : Value) (A : Around) (outer : List Env) (s : Shared) (H : Hp) (E : XK) : Cx :=
  (cxOf CX0 P w K mg base N x (defScope st) f cdv A outer s H E).nox
/-- a def's body keeps the promise, wherever the def stands -/
def KnowsF (P : Program) (w : World) (K : PySem.W.Frag) (mg : Str → Option Value) (base : Heap) (k : Nat) (x : Str) (st : Stmt) (ps : List Str) (C : Ctr) : Prop := ∀ (f : Addr) (fd : FuncData), Fun K x x st f fd → FnOk P w K mg base CX0 k f fd ps (spC K C)
theorem knowsF_mk {x : Str} {st : Stmt} {N ps : List Str} {k : Nat} {C : Ctr} (S : FnScope N ps (defScope st)) (hl : ∀ svs τ Q, C svs τ Q → svs.length = ps.length)
    (body : ∀ f cdv A outer s H E, Room k (BX P w K mg base N x st f cdv A outer s H E).A → ∀ svs τ Q, C svs τ Q →
      Db (BX P w K mg base N x st f cdv A outer s H E) (startE N svs) τ (defBody st) { nx := fun _ τ' => Q (.val .none) τ', rt := Q }) : KnowsF P w K mg base (k + 1) x st ps C := fun f fd F =>
  F.ok S (fun vs H Q E ⟨τ, svs, QQ, o, r, c, p⟩ => by
    rw [Paired.length r]
    exact hl _ _ _ c) fun cdv A outer s H vs Q E hr ⟨τ, svs, QQ, o, r, c, p⟩ =>
    ⟨_, pss_wb, body f cdv A outer s H E hr svs τ QQ c _ H o (slOk_start r) _ ⟨fun σ' H' ρ' τ' q o' _ t => p _ H' _ τ' q o' Dn.non t, p, fun _ _ _ _ q => q.elim, fun _ _ _ _ q => q.elim⟩⟩
theorem knows_mk {x : Str} {st : Stmt} {N ps : List Str} {k : Nat} {C : Ctr} (F : HasDef K mg x st ps) (S : FnScope N ps (defScope st)) (hl : ∀ svs τ Q, C svs τ Q → svs.length = ps.length)
    (body : ∀ f cdv A outer s H E, Room k (BX P w K mg base N x st f cdv A outer s H E).A → ∀ svs τ Q, C svs τ Q →
      Db (BX P w K mg base N x st f cdv A outer s H E) (startE N svs) τ (defBody st) { nx := fun _ τ' => Q (.val .none) τ', rt := Q }) : Knows P w K mg base (k + 1) x C := by
  obtain ⟨f, fd, F, g, b⟩ := F.ex
  exact ⟨f, fd, ps, knowsF_mk S hl body f fd F, g, F.kp, b⟩
/-! ### the end -/
theorem hasDef_mk {h : Heap} {x : Str} {st : Stmt} {ps : List Str} {f : Addr} {oc : Value} {od an : Option Addr} {osl : Array (Option Value)} {kV doc pm cdv ct : Value} (X : K.In h) (G : h.Ns mainGlobals mg) (a : PySem.W.nsIn K mainGlobals x = some (some (.ref f)))
    (l : K.lookup f = some ⟨oc, od, .func (PySem.W.fnOf x x (defArgs st) (defBody st) (defScope st) .none kV doc pm an cdv ct), osl⟩) (c : PySem.W.codeIn K cdv x = true) (k : PySem.W.keepIn K (.ref f) = true)
    (bd : ∀ (kV doc pm : Value) (an : Option Addr) (cdv ct : Value) (us : List Value), us.length = ps.length → bindArgs (PySem.W.fnOf x x (defArgs st) (defBody st) (defScope st) .none kV doc pm an cdv ct) ⟨us, []⟩ = pure (ps.zip us)) : HasDef K mg x st ps :=
  ⟨f, _, fun_mk l c k, PySem.W.mg_of X G a, (fun_mk l c k).binds bd⟩
def cLaw : Ctr := fun svs τ Q => ∃ ns, svs = [.scr ns] ∧ ns.length ≤ 63 ∧ τ = [] ∧ ∀ τ', Q (.val (.bool true)) τ'
theorem law_sp {H : Hp} {a : Addr} {ns : List Int} (hl : ns.length ≤ 63) (hO : Only H) (hS : SqL K H a (ns.map V.int)) : spC K cLaw [.ref a] H (fun v _ => v = .bl true) fun _ _ _ => False := by
  refine ⟨[], [.scr ns], fun sv _ => sv = .val (.bool true), ⟨List.nodup_nil, fun p hp => by cases hp⟩, .cons ⟨a, rfl, ?_⟩ .nil, ⟨ns, rfl, hl, rfl, fun _ => rfl⟩, ?_⟩
  · rcases hS with (h | ⟨o, h⟩) | h
    · rcases hO a with z | ⟨o, xs, z⟩
      · rw [z] at h
        cases h
      · rw [z] at h
        cases h
    · exact .inl ⟨by simp, o, h⟩
    · exact .inr h
  · intro v H' sv τ' e _ r _
    subst e
    cases r
    rfl
end
theorem law_fin {P : Program} {w : World} {K : PySem.W.Frag} {mg : Str → Option Value} {h : Heap} {n : Nat} {st : Stmt} {fa f : Addr} {oc : Value} {od an : Option Addr} {osl : Array (Option Value)} {kV doc pm cdv ct : Value} (X : K.In h) (G : h.Ns mainGlobals mg) (hfa : mg "law" = some (.ref fa)) (a : PySem.W.nsIn K mainGlobals "law" = some (some (.ref f)))
    (l : K.lookup f = some ⟨oc, od, .func (PySem.W.fnOf "law" "law" (defArgs st) (defBody st) (defScope st) .none kV doc pm an cdv ct), osl⟩) (c : PySem.W.codeIn K cdv "law" = true) (k : PySem.W.keepIn K (.ref f) = true)
    (bd : ∀ (kV doc pm : Value) (an : Option Addr) (cdv ct : Value) (us : List Value), us.length = 1 → bindArgs (PySem.W.fnOf "law" "law" (defArgs st) (defBody st) (defScope st) .none kV doc pm an cdv ct) ⟨us, []⟩ = pure ((["_law_script"] : List Str).zip us))
    (ok : ∀ base, KnowsF P w K mg base n "law" st ["_law_script"] cLaw) :
    ∃ fd : FuncData, (∀ (s : Shared) (u : Value), BindsTo s fd ⟨[u], []⟩ [("_law_script", u)]) ∧ ∀ base : Heap, K.In base → base.Ns mainGlobals mg → FnOk P w K mg base CX0 n fa fd ["_law_script"] (spC K cLaw) := by
  have e := hfa.symm.trans (PySem.W.mg_of X G a)
  cases e
  exact ⟨_, fun s v => .of_eq (bd kV doc pm an cdv ct [v] rfl), fun base _ _ => ok base _ _ (fun_mk l c k)⟩
theorem walk_law {l : PySem.W.OpenLaw} {q : Program} {loose : List Str} {XP : (Str → Option Value) → Heap → Prop} {YP : World → Heap → Prop} {d : DefRec} {K : Params → PySem.W.Frag} {k : Nat} {st : Stmt} (hn : l.most = some 63) (hdf : d.params.defaults = []) (hr : Room k callerA)
    (hY : ∀ (w : World) (h : Heap), YP w h → (K w.params).In h)
    (F : ∀ (w : World) (mg : Str → Option Value) (fa : Addr) (h : Heap), (K w.params).In h → h.Ns mainGlobals mg → mg d.name = some (.ref fa) →
      ∃ fd : FuncData, (∀ (s : Shared) (u : Value), BindsTo s fd ⟨[u], []⟩ [("_law_script", u)]) ∧ ∀ base : Heap, (K w.params).In base → base.Ns mainGlobals mg → FnOk l.prog w (K w.params) mg base CX0 k fa fd ["_law_script"] (spC (K w.params) cLaw)) :
    PySem.W.WalkO q loose XP YP l.row.toRowW d [] (fun f vs => PySem.call f vs) :=
  L2.walk_of (n := 63) (k := k) (x := "_law_script") (CX := fun _ => CX0) (sp := fun w => spC (K w.params) cLaw) hn (by decide) hdf hr hY F (fun _ _ _ _ hl hO hS => law_sp hl hO hS) fun _ _ _ _ _ z => z
end Dl

namespace Dl
open PySem PySem.Spec L2

/-! ### plain data: no bools, no dicts, of some depth -/
def Pl : Nat → PyData → Prop
  | _, .none => True
  | _, .int _ => True
  | _, .str x => PyData.strOk x = true
  | 0, .list xs => xs = []
  | n + 1, .list xs => ∀ x ∈ xs, Pl n x
  | 0, .tuple xs => xs = []
  | n + 1, .tuple xs => ∀ x ∈ xs, Pl n x
  | _, .bool _ => False
  | _, .dict _ => False
theorem canLayAll0_of {xs : List PyData} (h : ∀ x ∈ xs, x.canLay0 = true) : PyData.canLayAll0 xs = true := by
  induction xs with
  | nil => rfl
  | cons x r ih =>
    rw [PyData.canLayAll0, h x List.mem_cons_self, ih fun y hy => h y (List.mem_cons_of_mem _ hy)]
    rfl
theorem depthAll_of {xs : List PyData} {n : Nat} (h : ∀ x ∈ xs, x.depth ≤ n) : PyData.depthAll xs ≤ n := by
  induction xs with
  | nil => exact Nat.zero_le _
  | cons x r ih =>
    rw [PyData.depthAll]
    exact Nat.max_le.mpr ⟨h x List.mem_cons_self, ih fun y hy => h y (List.mem_cons_of_mem _ hy)⟩
theorem Pl.lay : ∀ {n : Nat} {d : PyData}, Pl n d → d.canLay0 = true
  | _, .none, _ => rfl
  | _, .int _, _ => rfl
  | n, .str x, h => by
    cases n <;> exact h
  | 0, .list xs, h => by
    have h : xs = [] := h
    subst h
    rfl
  | n + 1, .list xs, h => by
    have h : ∀ x ∈ xs, Pl n x := h
    show PyData.canLayAll0 xs = true
    exact canLayAll0_of fun x hx => (h x hx).lay
  | 0, .tuple xs, h => by
    have h : xs = [] := h
    subst h
    rfl
  | n + 1, .tuple xs, h => by
    have h : ∀ x ∈ xs, Pl n x := h
    show PyData.canLayAll0 xs = true
    exact canLayAll0_of fun x hx => (h x hx).lay
  | n, .bool _, h => by cases n <;> exact h.elim
  | n, .dict _, h => by cases n <;> exact h.elim
theorem Pl.dep : ∀ {n : Nat} {d : PyData}, Pl n d → d.depth ≤ n + 1
  | _, .none, _ => Nat.zero_le _
  | _, .int _, _ => Nat.zero_le _
  | n, .str x, h => Nat.zero_le _
  | 0, .list xs, h => by
    have h : xs = [] := h
    subst h
    exact Nat.le_refl _
  | n + 1, .list xs, h => by
    have h : ∀ x ∈ xs, Pl n x := h
    show PyData.depthAll xs + 1 ≤ n + 1 + 1
    have := depthAll_of (n := n + 1) fun x hx => (h x hx).dep
    omega
  | 0, .tuple xs, h => by
    have h : xs = [] := h
    subst h
    exact Nat.le_refl _
  | n + 1, .tuple xs, h => by
    have h : ∀ x ∈ xs, Pl n x := h
    show PyData.depthAll xs + 1 ≤ n + 1 + 1
    have := depthAll_of (n := n + 1) fun x hx => (h x hx).dep
    omega
  | n, .bool _, h => by cases n <;> exact h.elim
  | n, .dict _, h => by cases n <;> exact h.elim
theorem Pl.shaped {n : Nat} {d : PyData} (h : Pl n d) (hn : n ≤ 60 := by decide) : SeqAt.shaped d = true := by
  unfold SeqAt.shaped
  rw [h.lay, Bool.true_and]
  have := h.dep
  exact decide_eq_true (by omega)
theorem eqvAll_iff {n : Nat} (ih : ∀ {d e : PyData}, Pl n d → PyData.eqv d e = true → d = e) : ∀ {xs ys : List PyData}, (∀ x ∈ xs, Pl n x) → PyData.eqvAll xs ys = true → xs = ys
  | [], [], _, _ => rfl
  | [], _ :: _, _, h => by simp [PyData.eqvAll] at h
  | _ :: _, [], _, h => by simp [PyData.eqvAll] at h
  | x :: xs, y :: ys, hp, h => by
    rw [PyData.eqvAll, Bool.and_eq_true] at h
    rw [ih (hp x List.mem_cons_self) h.1, eqvAll_iff ih (fun z hz => hp z (List.mem_cons_of_mem _ hz)) h.2]
theorem Pl.eqv_eq : ∀ {n m : Nat} {d e : PyData}, Pl n d → Pl m e → PyData.eqv d e = true → d = e
  | _, _, .none, e, _, _, h => by cases e <;> first | rfl | (simp [PyData.eqv] at h)
  | _, m, .int i, e, _, he, h => by
    cases e with
    | int j =>
      simp [PyData.eqv] at h
      rw [h]
    | bool b => cases m <;> exact he.elim
    | _ => simp [PyData.eqv] at h
  | _, _, .str x, e, _, _, h => by
    cases e with
    | str y =>
      simp [PyData.eqv] at h
      rw [h]
    | _ => simp [PyData.eqv] at h
  | n, m, .list xs, e, hd, he, h => by
    cases e with
    | list ys =>
      have h : PyData.eqvAll xs ys = true := by
        rw [PyData.eqv] at h
        exact h
      have key : ∀ {xs ys : List PyData}, (∀ x ∈ xs, Pl (n - 1) x) → (∀ y ∈ ys, Pl (m - 1) y) → (0 < n ∨ xs = []) → PyData.eqvAll xs ys = true → xs = ys := by
        intro xs
        induction xs with
        | nil =>
          intro ys _ _ _ h
          cases ys with
          | nil => rfl
          | cons _ _ => simp [PyData.eqvAll] at h
        | cons x xs ih =>
          intro ys h1 h2 h3 h
          cases ys with
          | nil => simp [PyData.eqvAll] at h
          | cons y ys =>
            have hn : 0 < n := h3.elim id fun e => by cases e
            rw [PyData.eqvAll, Bool.and_eq_true] at h
            have a := Pl.eqv_eq (n := n - 1) (m := m - 1) (h1 x List.mem_cons_self) (h2 y List.mem_cons_self) h.1
            have b := ih (fun z hz => h1 z (List.mem_cons_of_mem _ hz)) (fun z hz => h2 z (List.mem_cons_of_mem _ hz)) (.inl hn) h.2
            rw [a, b]
      congr 1
      refine key ?_ ?_ ?_ h
      · cases n with
        | zero =>
          have hd : xs = [] := hd
          subst hd
          intro x hx
          cases hx
        | succ n => exact hd
      · cases m with
        | zero =>
          have he : ys = [] := he
          subst he
          intro x hx
          cases hx
        | succ m => exact he
      · cases n with
        | zero => exact .inr hd
        | succ n => exact .inl (Nat.succ_pos _)
    | _ => simp [PyData.eqv] at h
  | n, m, .tuple xs, e, hd, he, h => by
    cases e with
    | tuple ys =>
      have h : PyData.eqvAll xs ys = true := by
        rw [PyData.eqv] at h
        exact h
      have key : ∀ {xs ys : List PyData}, (∀ x ∈ xs, Pl (n - 1) x) → (∀ y ∈ ys, Pl (m - 1) y) → (0 < n ∨ xs = []) → PyData.eqvAll xs ys = true → xs = ys := by
        intro xs
        induction xs with
        | nil =>
          intro ys _ _ _ h
          cases ys with
          | nil => rfl
          | cons _ _ => simp [PyData.eqvAll] at h
        | cons x xs ih =>
          intro ys h1 h2 h3 h
          cases ys with
          | nil => simp [PyData.eqvAll] at h
          | cons y ys =>
            have hn : 0 < n := h3.elim id fun e => by cases e
            rw [PyData.eqvAll, Bool.and_eq_true] at h
            have a := Pl.eqv_eq (n := n - 1) (m := m - 1) (h1 x List.mem_cons_self) (h2 y List.mem_cons_self) h.1
            have b := ih (fun z hz => h1 z (List.mem_cons_of_mem _ hz)) (fun z hz => h2 z (List.mem_cons_of_mem _ hz)) (.inl hn) h.2
            rw [a, b]
      congr 1
      refine key ?_ ?_ ?_ h
      · cases n with
        | zero =>
          have hd : xs = [] := hd
          subst hd
          intro x hx
          cases hx
        | succ n => exact hd
      · cases m with
        | zero =>
          have he : ys = [] := he
          subst he
          intro x hx
          cases hx
        | succ m => exact he
      · cases n with
        | zero => exact .inr hd
        | succ n => exact .inl (Nat.succ_pos _)
    | _ => simp [PyData.eqv] at h
  | n, _, .bool _, _, h, _, _ => by cases n <;> exact h.elim
  | n, _, .dict _, _, h, _, _ => by cases n <;> exact h.elim
termination_by n => n
theorem Pl.eqv_iff {n m : Nat} {d e : PyData} (h : Pl n d) (h' : Pl m e) : PyData.eqv d e = true ↔ d = e := ⟨h.eqv_eq h', fun q => by
  subst q
  exact SeqAt.eqv_refl d h.lay⟩
section
variable {K : PySem.W.Frag} {τ : Store} {Q : MV → Store → Prop} {neg : Bool}
/-- == of plain data -/
theorem eq_pl {n m : Nat} {x y : MV} {d e : PyData} (hx : datOf τ x = some d) (hy : datOf τ y = some e) (hd : Pl n d) (he : Pl m e) (q : ∀ b : Bool, (b = true ↔ d = e) → Q (.val (.bool (bneg neg b))) τ) (hn : n ≤ 60 := by decide) (hm : m ≤ 60 := by decide) : EqD K neg x y τ Q :=
  eq_dat hx hy (hd.shaped hn) (he.shaped hm) (q _ (hd.eqv_iff he))
theorem eq_int {i j : Int} (q : Q (.val (.bool (bneg neg (decide (i = j))))) τ) : EqD K neg (.val (.int i)) (.val (.int j)) τ Q :=
  eq_dat rfl rfl rfl rfl (by
    have e : PyData.eqv (.int i) (.int j) = decide (i = j) := by
      simp only [PyData.eqv]
      by_cases h : i = j <;> simp [h]
    rw [e]
    exact q)
theorem eq_bool {i j : Bool} (q : Q (.val (.bool (bneg neg (decide (i = j))))) τ) : EqD K neg (.val (.bool i)) (.val (.bool j)) τ Q :=
  eq_dat rfl rfl rfl rfl (by
    have e : PyData.eqv (.bool i) (.bool j) = decide (i = j) := by cases i <;> cases j <;> rfl
    rw [e]
    exact q)
theorem in_plT {n : Nat} {x y : MV} {d : PyData} {ds : List PyData} (hx : datOf τ x = some d) (hy : datOf τ y = some (.tuple ds)) (hd : Pl n d) (he : ∀ z ∈ ds, Pl n z) (q : ∀ b : Bool, (b = true ↔ d ∈ ds) → Q (.val (.bool (bneg neg b))) τ) (hn : n ≤ 50 := by decide) : InD K neg x y τ Q :=
  in_datT hx hy (hd.shaped (by omega)) (Pl.shaped (n := n + 1) (d := .tuple ds) he (by omega)) (q _ (by
    rw [List.any_eq_true]
    constructor
    · rintro ⟨z, hz, h⟩
      rw [← (he z hz).eqv_eq hd h]
      exact hz
    · intro h
      exact ⟨d, h, SeqAt.eqv_refl d hd.lay⟩))
theorem in_pl {n : Nat} {x y : MV} {d : PyData} {ds : List PyData} (hx : datOf τ x = some d) (hy : datOf τ y = some (.list ds)) (hd : Pl n d) (he : ∀ z ∈ ds, Pl n z) (q : ∀ b : Bool, (b = true ↔ d ∈ ds) → Q (.val (.bool (bneg neg b))) τ) (hn : n ≤ 50 := by decide) : InD K neg x y τ Q :=
  in_dat hx hy (hd.shaped (by omega)) (Pl.shaped (n := n + 1) (d := .list ds) he (by omega)) (q _ (by
    rw [List.any_eq_true]
    constructor
    · rintro ⟨z, hz, h⟩
      rw [← (he z hz).eqv_eq hd h]
      exact hz
    · intro h
      exact ⟨d, h, SeqAt.eqv_refl d hd.lay⟩))
end
end Dl

/-! t[::-1] of a tuple -/
namespace Dl
open PySem PySem.Spec PyProof.Rows HT
section
variable {prog : Program} {w : World} {A : Around} {E : Value → Shared → Prop} {s : Shared}
theorem rev_sliceApplied {sl : Addr} {vl vu vs : Value} {n : Nat} {Q : Int × Int × Nat → Shared → Prop} (hs : s.heap.IsSliceOf sl vl vu vs) (pl : IsPart vl none) (pu : IsPart vu none) (ps : IsPart vs (some (-1)))
    (h : Q ((n : Int) - 1, -1, n) s) : wpAny (model prog w) A (Builtin.Slice.sliceApplied (.ref sl) (pure (n : Int))) Q E s := by
  obtain ⟨os, hos, hcs, hds⟩ := id hs
  unfold Builtin.Slice.sliceApplied Builtin.Slice.sliceFields
  refine wpAny_bind (wpAny_bind (wpAny_field hos hds (x := vl) rfl (wpAny_bind (wpAny_field hos hds (x := vu) rfl (wpAny_bind (wpAny_field hos hds (x := vs) rfl (wpAny_pure ?_)))))))
  refine wpAny_bind (slicePart_ ps ?_)
  show wpAny (model prog w) A (if ((-1 : Int) == 0) = true then _ else _) Q E s
  rw [if_neg (by decide)]
  refine wpAny_bind (slicePart_ pl (wpAny_bind (slicePart_ pu (wpAny_bind (wpAny_pure ?_)))))
  show wpAny (model prog w) A (match Builtin.Slice.sliceAdjust none none (-1) (n : Int) with | (lo, hi) => pure (lo, (-1 : Int), Builtin.Slice.slicePlaces lo hi (-1))) Q E s
  have ea : Builtin.Slice.sliceAdjust none none (-1) (n : Int) = ((n : Int) - 1, -1) := by
    simp [Builtin.Slice.sliceAdjust]
  have ep : Builtin.Slice.slicePlaces ((n : Int) - 1) (-1) (-1) = n := by
    simp [Builtin.Slice.slicePlaces]
    split <;> omega
  rw [ea]
  show wpAny (model prog w) A (pure ((n : Int) - 1, (-1 : Int), Builtin.Slice.slicePlaces ((n : Int) - 1) (-1) (-1))) Q E s
  rw [ep]
  exact wpAny_pure h
theorem rev_pick (xs : Array Value) : ((List.range xs.size).filterMap fun (m : Nat) => xs[(((xs.size : Nat) : Int) - 1 + (m : Int) * (-1)).toNat]?).toArray = xs.toList.reverse.toArray := by
  congr 1
  have e : ∀ (l : List Nat), (∀ m ∈ l, m < xs.size) → l.filterMap (fun (m : Nat) => xs[(((xs.size : Nat) : Int) - 1 + (m : Int) * (-1)).toNat]?) = l.map fun m => xs[xs.size - 1 - m]?.getD .none := by
    intro l
    induction l with
    | nil => intro _; rfl
    | cons m r ih =>
      intro h
      have hm := h m List.mem_cons_self
      have e1 : (((xs.size : Nat) : Int) - 1 + (m : Int) * (-1)).toNat = xs.size - 1 - m := by omega
      have e2 : xs[xs.size - 1 - m]? = some xs[xs.size - 1 - m] := Array.getElem?_eq_getElem (by omega)
      rw [List.filterMap_cons, e1, e2, List.map_cons, ih fun z hz => h z (List.mem_cons_of_mem _ hz), e2]
      rfl
  rw [e _ fun m hm => List.mem_range.mp hm]
  apply List.ext_getElem
  · simp
  · intro i h1 h2
    simp at h1 h2 ⊢
    rw [Array.getElem?_eq_getElem (by omega)]
    rfl
theorem rev_getItem {t sl : Addr} {items : Array Value} {vl vu vs : Value} {Q : Value → Shared → Prop} (ht : IsTup s.heap t items) (hs : s.heap.IsSliceOf sl vl vu vs) (pl : IsPart vl none) (pu : IsPart vu none) (ps : IsPart vs (some (-1)))
    (h : Q (.ref s.heap.objs.size) { s with heap := s.heap.push { cls := .type "tuple", data := .seq items.toList.reverse.toArray } }) (hsz : items.size ≤ sizeLine) : wpAny (model prog w) A (getItem (.ref t) (.ref sl)) Q E s := by
  have fits : sizeOk (.seq items.toList.reverse.toArray) := by
    show items.toList.reverse.toArray.size ≤ sizeLine
    rw [List.size_toArray, List.length_reverse, Array.length_toList]
    exact hsz
  obtain ⟨os, hos, hcs, hds⟩ := id hs
  have hT : s.TypeIs (.ref sl) "slice" := ⟨os, hos, hcs⟩
  unfold getItem
  try with_reducible refine wpAny_holding ?_
  first | refine wpAny_bind (wpAny_pure ?_) | skip
  refine wpAny_bind (wpAny_sequenceKey ht.typeIs (by decide) (wpAny_bind (wpAny_callSpecial?_slot (name := Str.ofString "__getitem__") ht.typeIs PyProof.Rows.slot_tuple_getitem
    (wpAny_call_entry PyProof.Rows.slot_tuple_getitem ht.typeIs entry_tuple_getitem ?_ (args_tuple_getitem _ _)))))
  show wpAny _ A.in1 (Builtin.Tuple.tupleItemsOf (.ref t) >>= _) _ E s
  refine wpAny_bind (tupleItemsOf_ ht (wpAny_bind (wpAny_typeOf hT ?_)))
  rw [if_pos (by decide)]
  refine wpAny_bind (rev_sliceApplied hs pl pu ps ?_)
  have no : ¬ ((((items.size : Nat) : Int) - 1 == 0 && (-1 : Int) == 1 && items.size == items.size) = true) := by simp
  show wpAny _ A.in1 (if ((((items.size : Nat) : Int) - 1 == 0 && (-1 : Int) == 1 && items.size == items.size) = true) then _ else _) _ E s
  rw [if_neg no, rev_pick]
  first
    | exact wpAny_bind (m := Builtin.Tuple.tupleExact _) (wpAny_newObj_type (wpAny_pure ⟨_, rfl, wpAny_pure h⟩) fits)
    | exact wpAny_bind (m := Builtin.Tuple.tupleExact _) (wpAny_newObj_type (wpAny_bind (wpAny_pure (wpAny_pure ⟨_, rfl, wpAny_pure h⟩))) fits)
    | exact wpAny_bind (wpAny_bind (m := Builtin.Tuple.tupleExact _) (wpAny_newObj_type (wpAny_pure (wpAny_pure ⟨_, rfl, wpAny_pure h⟩)) fits))
    | exact wpAny_bind (wpAny_bind (m := Builtin.Tuple.tupleExact _) (wpAny_newObj_type (wpAny_pure ⟨_, rfl, wpAny_pure h⟩) fits))
end
end Dl
namespace Dl
open PySem PySem.Spec L2
section
variable {X : Cx} {ρ : En} {τ : Store} {Q : MV → Store → Prop} {a : Expr} {k : Nat} {p1 p2 p3 pos : Pos}
theorem slot_tupGet : PySem.Slot "tuple" "__getitem__" "tuple.__getitem__" := PyProof.Rows.slot_tuple_getitem
theorem de_revT (h : De X ρ τ a fun x τ1 => ∃ ds, x = .val (.tuple ds) ∧ Q (.val (.tuple ds.reverse)) τ1) : De X ρ τ (.Subscript a (.Slice none none (some (.UnaryOp .USub (.Constant (.int 1) k p1) p2)) p3) pos) Q := .mk fun σ H o l QQ p pins s I => by
  refine PyProof.Rows.Subscript_ (thn (h σ H o l (fun v H1 => ∃ a vs, v = .ref a ∧ SqT X.K H1 a vs ∧ ∀ q, H1 q = none → QQ (.ref q) (upd H1 q (.tup vs.reverse))) (fun v H1 x τ1 ⟨ds, ex, q⟩ o1 r1 t1 => ?_) pins s I) fun v s1 ⟨x, H1, I1, r1, q1⟩ => ?_)
  · subst ex
    cases r1 with
    | @tup b vs _ n1 l1 => exact ⟨b, vs, rfl, n1.sq, (p.step t1).tup o1 l1.reverse q⟩
  obtain ⟨b, xs, ex, hx, q⟩ := q1
  subst ex
  cases r1
  have hst : PO X (some (.UnaryOp .USub (.Constant (.int 1) k p1) p2)) (tPart (tUn (rU fun i => .int (-i)) (tC (.int 1)))) := po_some (pe_un un_neg pe_int)
  refine wpAny_Slice (thn (po_none.run pins s1 σ H1 (fun o H2 => o = none ∧ H2 = H1) I1 ⟨rfl, rfl⟩) fun vl s2 ⟨l2, H2, I2, pl, el, e2⟩ => ?_)
  subst el e2
  refine thn (po_none.run pins s2 σ H2 (fun o H3 => o = none ∧ H3 = H2) I2 ⟨rfl, rfl⟩) fun vu s3 ⟨u, H3, I3, pu, eu, e3⟩ => ?_
  subst eu e3
  refine thn (hst.run pins s3 σ H3 (fun o H4 => o = some (-1) ∧ H4 = H3) I3 ⟨1, rfl, -1, rfl, rfl, rfl⟩) fun vs s4 ⟨o4, H4, I4, ps, eo, e4⟩ => ?_
  subst eo e4
  have I5 : Inv X pins σ H4 { s4 with heap := s4.heap.push { cls := .type "slice", data := .fields #[vl, vu, vs] } } := I4.kept (t' := s4.toks) fun _ _ z => Heap.get?_push_of_some _ z
  obtain ⟨its, r, ht, hz⟩ := I5.tuple hx
  have hlen := r.length
  show wpAny (model X.prog X.w) X.A (PyProof.Rows.subscriptTail a (.Slice none none (some (.UnaryOp .USub (.Constant (.int 1) k p1) p2)) p3) (.ref b) (.ref s4.heap.objs.size)) (EP X pins σ QQ) X.xe { s4 with heap := s4.heap.push { cls := .type "slice", data := .fields #[vl, vu, vs] } }
  refine PyProof.Rows.tail_any (ops := [.ref b, .ref s4.heap.objs.size]) ht.typeIs (PyProof.Rows.slot_tuple_getitem.lookup) ?_ (by with_unfolding_all rfl)
  refine rev_getItem ht (Heap.IsSliceOf.new _ vl vu vs) pl pu ps ?_ (by rw [List.size_toArray]; omega)
  refine ⟨.ref _, _, I5.laid (t' := s4.toks) (o := .tup xs.reverse) (fun _ _ z => Heap.get?_push_of_some _ z) (Nat.le_refl _) ?_, rfl, q _ (I5.hok.fresh (Nat.le_refl _))⟩
  exact ⟨by rw [List.length_reverse]; exact hz, _, r.reverse, PyProof.Rows.IsTup.new _ _⟩
end
end Dl

namespace Dl
open PySem PySem.Spec L2
theorem setS_setS {a : Addr} {m m' : MO} : ∀ {τ : Store}, setS a m (setS a m' τ) = setS a m τ
  | [] => rfl
  | (b, x) :: r => by
    by_cases h : b = a
    · simp [setS, h]
    · simp [setS, h, setS_setS (τ := r)]
theorem lookup_setS {a : Addr} {m : MO} : ∀ {τ : Store}, a ∈ dom τ → (setS a m τ).lookup a = some m
  | [], h => by cases h
  | (b, x) :: r, h => by
    by_cases e : b = a
    · subst e
      simp [setS]
    · have h' : a ∈ dom r := by
        rcases List.mem_cons.mp h with h | h
        · exact absurd h.symm e
        · exact h
      have hb : (a == b) = false := beq_eq_false_iff_ne.mpr fun q => e q.symm
      simp [setS, e, List.lookup_cons, hb, lookup_setS h']
theorem dom_of_lookup {τ : Store} {a : Addr} {m : MO} (h : τ.lookup a = some m) : a ∈ dom τ := List.mem_map_of_mem (mem_of_lookup h)
theorem lookup_setS' {τ : Store} {a : Addr} {m m' : MO} (h : τ.lookup a = some m') : (setS a m τ).lookup a = some m := lookup_setS (dom_of_lookup h)
theorem setS_self {a : Addr} {m : MO} : ∀ {τ : Store}, τ.lookup a = some m → setS a m τ = τ
  | [], h => by cases h
  | (b, x) :: r, h => by
    by_cases e : b = a
    · subst e
      simp at h
      simp [setS, h]
    · have hb : (a == b) = false := beq_eq_false_iff_ne.mpr fun q => e q.symm
      rw [List.lookup_cons, hb] at h
      simp [setS, e, setS_self h]
theorem lookup_cons_ne {a b : Addr} {m : MO} {τ : Store} (h : a ≠ b) : ((b, m) :: τ : Store).lookup a = τ.lookup a := by
  rw [List.lookup_cons, show (a == b) = false from beq_eq_false_iff_ne.mpr h]
theorem lookup_push {a b : Addr} {m m' : MO} {τ : Store} (h : τ.lookup a = some m) (hb : b ∉ dom τ) : ((b, m') :: τ : Store).lookup a = some m := by
  rw [lookup_cons_ne fun e => hb (by rw [← e]; exact dom_of_lookup h)]
  exact h
theorem setS_push {a b : Addr} {m m' : MO} {τ : Store} (ha : a ∈ dom τ) (hb : b ∉ dom τ) : setS a m ((b, m') :: τ) = (b, m') :: setS a m τ := by
  have h : ¬ b = a := fun e => hb (by rw [e]; exact ha)
  simp [setS, h]
theorem datOf_hdl {τ : Store} {a : Addr} {ds : List PyData} (h : τ.lookup a = some (.lst ds)) : datOf τ (.hdl a) = some (.list ds) := by
  simp [datOf, h]
theorem ixN_ok {n : Nat} {i : Int} (h0 : 0 ≤ i) (h1 : i < n) : ixN n i = some i.toNat := by
  unfold ixN
  rw [if_pos h0, if_pos h1]
/-- a comprehension without tests, by an invariant over the turn, what is made, the store -/
theorem lcq_inv {X : Cx} {ρ : En} {scope : Scope} {vs : List Nat} {t : Tg} {elt : Expr} {Q : MV → Store → Prop} {ds : List PyData} {S : Store → Prop} {τ1 : Store} (I : Nat → List PyData → Store → Prop) (h0 : I 0 [] τ1) (hl : ds.length ≤ 900000) (hlen : ∀ i acc τ', I i acc τ' → acc.length ≤ i)
    (h : ∀ i d acc τ', ds[i]? = some d → i < ds.length → I i acc τ' → ∀ D, D ∉ dom τ' → ∃ ρ2, bindD (wipeE ρ vs) t d = some ρ2 ∧ ∀ s H C cl fp, De (Blk X s H scope C cl fp) ρ2 ((D, .lst acc) :: τ') elt fun sv τ3 => ∃ y τ4, sv = .val y ∧ τ3 = (D, .lst acc) :: τ4 ∧ I (i + 1) (acc ++ [y]) τ4)
    (hd : ∀ acc τ', I ds.length acc τ' → Q (.val (.list acc)) τ') (hS : ∀ D τ' acc, D ∉ dom τ' → S ((D, .lst acc) :: τ') := by exact fun _ _ _ _ => trivial) : LcQ X ρ scope vs t elt [] Q ds S τ1 := by
  refine ⟨I, h0, ⟨fun i acc τ' D _ hD => hS D τ' acc hD, fun i d acc τ' e hI => ?_⟩, hd⟩
  have hi := (List.getElem?_eq_some_iff.mp e).1
  refine ⟨by have := hlen i acc τ' hI; omega, fun D hD => ?_⟩
  obtain ⟨ρ2, e2, hb⟩ := h i d acc τ' e hi hI D hD
  refine ⟨ρ2, e2, fun k τ2 => k = true ∧ τ2 = (D, .lst acc) :: τ', fun _ _ _ _ _ => df_nil ⟨rfl, rfl⟩, ?_, ?_⟩
  · rintro τ2 ⟨_, rfl⟩
    exact hb
  · rintro τ2 ⟨h, _⟩
    cases h
/-- a statement behind which R holds, then the rest -/
theorem db_seq {X : Cx} {ρ : En} {τ : Store} {st : Stmt} {rest : List Stmt} {D : DE} (R : En → Store → Prop) (h1 : Ds X ρ τ st { D with nx := R }) (h2 : ∀ ρ' τ', R ρ' τ' → Db X ρ' τ' rest D) : Db X ρ τ (st :: rest) D :=
  db_cons (.mk fun σ H o l DD p => h1 σ H o l DD ⟨fun σ' H' ρ' τ' r => p.nx σ' H' ρ' τ' (h2 _ _ r), p.rt, p.bk, p.ct⟩)
/-- a statement that leaves all as it is, where it goes on -/
theorem db_same {X : Cx} {ρ : En} {τ : Store} {st : Stmt} {rest : List Stmt} {D : DE} (h1 : Ds X ρ τ st { D with nx := fun ρ' τ' => ρ' = ρ ∧ τ' = τ }) (h2 : Db X ρ τ rest D) : Db X ρ τ (st :: rest) D :=
  db_seq _ h1 fun _ _ ⟨a, b⟩ => by
    subst a b
    exact h2
section
variable {K : PySem.W.Frag} {τ : Store} {Q : MV → Store → Prop} {neg : Bool}
/-- data that are the same, compared -/
theorem eq_same {n : Nat} {x y : MV} {d e : PyData} (hx : datOf τ x = some d) (hy : datOf τ y = some e) (hd : Pl n d) (h : d = e) (q : Q (.val (.bool (bneg neg true))) τ) (hn : n ≤ 60 := by decide) : EqD K neg x y τ Q := by
  subst h
  exact eq_pl hx hy hd hd (fun b hb => by rw [hb.mpr rfl]; exact q) hn hn
end
end Dl

namespace Dl
open PySem PySem.Spec L2
section
variable {X : Cx} {ρ : En} {τ : Store} {pos p1 p2 p3 spos : Pos} {tg iter elt tg1 iter1 : Expr} {ifs ifs1 : List Expr} {scope : Scope} {own : List (Str × Nat)}
/-- two clauses, nothing changes: one item of the second -/
structure In2 (X : Cx) (ρ3 : En) (τ1 : Store) (scope : Scope) (elt : Expr) (ifs1 : List Expr) (D : Addr) (r : List PyData) : Prop where
  run : ∃ b : Bool, (b = false → r = []) ∧ ∀ acc, (∀ s H C cl fp, Df (Blk X s H scope C cl fp) ρ3 ((D, .lst acc) :: τ1) ifs1 fun k τ2 => k = b ∧ τ2 = (D, .lst acc) :: τ1) ∧
    (b = true → ∃ y, r = [y] ∧ ∀ s H C cl fp, De (Blk X s H scope C cl fp) ρ3 ((D, .lst acc) :: τ1) elt fun sv τ3 => sv = .val y ∧ τ3 = (D, .lst acc) :: τ1)
structure Out2 (X : Cx) (ρ2 : En) (τ1 : Store) (scope : Scope) (vs1 : List Nat) (t1 : Tg) (elt tg1 iter1 : Expr) (ifs ifs1 : List Expr) (D : Addr) (acc : List PyData) (r : List PyData) : Prop where
  run : ∃ b : Bool, (b = false → r = []) ∧ (∀ s H C cl fp, Df (Blk X s H scope C cl fp) ρ2 ((D, .lst acc) :: τ1) ifs fun k τ2 => k = b ∧ τ2 = (D, .lst acc) :: τ1) ∧
    (b = true → ∃ (es : List PyData) (g1 : List (List PyData)), g1.length = es.length ∧ r = g1.flatten ∧ (∀ s H C cl fp, Di (Blk X s H scope C cl fp) tg1 ρ2 ((D, .lst acc) :: τ1) iter1 fun es' S' τ2 => es' = es ∧ τ2 = (D, .lst acc) :: τ1 ∧ ∀ acc', S' ((D, .lst acc') :: τ1)) ∧
      ∀ (j : Nat) (e : PyData) (q : List PyData), es[j]? = some e → g1[j]? = some q → ∃ ρ3, bindD (wipeE ρ2 vs1) t1 e = some ρ3 ∧ In2 X ρ3 τ1 scope elt ifs1 D q)
def Lc2Q (X : Cx) (ρ : En) (scope : Scope) (vs vs1 : List Nat) (t t1 : Tg) (elt tg1 iter1 : Expr) (ifs ifs1 : List Expr) (Q : MV → Store → Prop) : List PyData → (Store → Prop) → Store → Prop := fun ds S τ1 =>
  ∃ g : List (List PyData), g.length = ds.length ∧ (∀ D acc, D ∉ dom τ1 → S ((D, .lst acc) :: τ1)) ∧ g.flatten.length ≤ 1000000 ∧
    (∀ (i : Nat) (d : PyData) (r : List PyData), ds[i]? = some d → g[i]? = some r → ∃ ρ2, bindD (wipeE ρ vs) t d = some ρ2 ∧ ∀ D acc, D ∉ dom τ1 → Out2 X ρ2 τ1 scope vs1 t1 elt tg1 iter1 ifs ifs1 D acc r) ∧ Q (.val (.list g.flatten)) τ1
def tiB (X : Cx) (scope : Scope) (tg1 iter1 : Expr) : TI := fun σ H R => ∀ s H0 C cl fp, Wi (Blk X s H0 scope C cl fp) tg1 iter1 σ H R
theorem flat_take {g : List (List PyData)} {i : Nat} {r : List PyData} (h : g[i]? = some r) : (g.take (i + 1)).flatten = (g.take i).flatten ++ r := by
  rw [List.take_add_one, h, List.flatten_append]
  simp
theorem flat_le {g : List (List PyData)} (i : Nat) : ((g.take i).flatten).length ≤ g.flatten.length := by
  have e : g.flatten = (g.take i).flatten ++ (g.drop i).flatten := by rw [← List.flatten_append, List.take_append_drop]
  rw [e, List.length_append]
  omega
theorem same_get {g : List (List PyData)} {ds : List PyData} (hl : g.length = ds.length) {i : Nat} (h : i < ds.length) : ∃ r, g[i]? = some r := ⟨g[i], List.getElem?_eq_getElem (by omega)⟩
theorem lc2_read {t t1 : Tg} {vs vs1 : List Nat} {Q : MV → Store → Prop} (hu : ∀ j ∈ t.slots, j ∈ vs) (hu1 : ∀ j ∈ t1.slots, j ∈ vs1) (h : Di X tg ρ τ iter (Lc2Q X ρ scope vs vs1 t t1 elt tg1 iter1 ifs ifs1 Q)) {σ : L2.St} {H : Hp} (o : StOk X.K H τ) (l : SlOk X.K (dom τ) H σ ρ) {QQ : VK} (p : Pst X.K τ H Q QQ) :
    tLc2 (Wi X tg iter) (tgR X.K t) (ttB X scope ifs) (tiB X scope tg1 iter1) (tgR X.K t1) (ttB X scope ifs1) (teB X scope elt) vs vs1 σ H QQ := by
  refine h σ H o l _ fun J H1 ds S τ1 ⟨g, hgl, hS, hlen, ht, hd⟩ o1 t1' wk => fun D hD => ?_
  have nD : D ∉ dom τ1 := o1.fresh hD
  have tp : Tr (dom τ1) H1 (dom ((D, MO.lst []) :: τ1)) (upd H1 D (.lst [])) := Tr.push hD
  refine ⟨fun i m H' => m = ds.length - i ∧ i ≤ ds.length ∧ StOk X.K H' ((D, .lst ((g.take i).flatten)) :: τ1) ∧ Tr (dom τ1) H1 (dom ((D, MO.lst ((g.take i).flatten)) :: τ1)) H', ⟨ds.length, rfl, Nat.zero_le _, o1.push hD ⟨[], upd_same, .nil⟩, tp⟩, ?_⟩
  rintro i m H' ⟨rfl, hi, o', t'⟩
  by_cases hlt : i < ds.length
  · refine .inr ⟨wk.go i H' _ hlt t' o' (hS _ _ nD), fun H2 => StOk X.K H2 ((D, .lst ((g.take (i + 1)).flatten)) :: τ1) ∧ Tr (dom τ1) H1 (dom ((D, MO.lst ((g.take (i + 1)).flatten)) :: τ1)) H2, fun H2 q => ⟨ds.length - (i + 1), by omega, rfl, hlt, q⟩, fun x H2 y => ?_⟩
    obtain ⟨d, hd', t2, o2, r2⟩ := wk.yld i H' _ x H2 hlt t' o' (hS _ _ nD) y
    obtain ⟨rr, hrr⟩ := same_get hgl hlt
    obtain ⟨ρ2, e2, hO⟩ := ht i d rr hd' hrr
    obtain ⟨b, hb0, hf, hb1⟩ := (hO D ((g.take i).flatten) nD).run
    have ef := flat_take hrr
    have l2 : SlOk X.K (dom ((D, MO.lst ((g.take i).flatten)) :: τ1)) H2 (wipe σ vs) (wipeE ρ vs) := (((l.tr t1').tr t').tr t2).wipe vs
    refine tgR_ok' hu l2 e2 r2 fun σ3 l3 w3 => ⟨by rw [w3, wipe_wipe σ vs vs fun _ h => h], ?_⟩
    intro s0 H0 C0 cl0 fp0
    refine hf s0 H0 C0 cl0 fp0 σ3 H2 o2 l3 _ fun k H3 τ3 q3 o3 t3 => ?_
    obtain ⟨rfl, rfl⟩ := q3
    cases k with
    | true =>
      refine iteT ?_
      obtain ⟨es, g1, hg1l, eg, hI, hE⟩ := hb1 rfl
      intro s1 H1' C1 cl1 fp1
      refine hI s1 H1' C1 cl1 fp1 σ3 H3 o3 (l3.tr t3) _ fun J1 H4 es' S' τ4 q4 o4 t4 wk1 => ?_
      obtain ⟨rfl, rfl, hS'⟩ := q4
      refine ⟨fun j m H' => m = es'.length - j ∧ j ≤ es'.length ∧ StOk X.K H' ((D, .lst ((g.take i).flatten ++ (g1.take j).flatten)) :: τ1) ∧ Tr (dom ((D, MO.lst ((g.take i).flatten)) :: τ1)) H4 (dom ((D, MO.lst ((g.take i).flatten)) :: τ1)) H', ⟨es'.length, rfl, Nat.zero_le _, by simpa using o4, Tr.refl⟩, ?_⟩
      rintro j m H5 ⟨rfl, hj, o5, t5⟩
      by_cases hjl : j < es'.length
      · refine .inr ⟨wk1.go j H5 ((D, .lst ((g.take i).flatten ++ (g1.take j).flatten)) :: τ1) hjl t5 o5 (hS' _), fun H6 => StOk X.K H6 ((D, .lst ((g.take i).flatten ++ (g1.take (j + 1)).flatten)) :: τ1) ∧ Tr (dom ((D, MO.lst ((g.take i).flatten)) :: τ1)) H4 (dom ((D, MO.lst ((g.take i).flatten)) :: τ1)) H6, fun H6 q => ⟨es'.length - (j + 1), by omega, rfl, hjl, q⟩, fun x1 H6 y1 => ?_⟩
        obtain ⟨e, he', t6, o6, r6⟩ := wk1.yld j H5 ((D, .lst ((g.take i).flatten ++ (g1.take j).flatten)) :: τ1) x1 H6 hjl t5 o5 (hS' _) y1
        obtain ⟨r1, hr1⟩ := same_get hg1l hjl
        obtain ⟨ρ3, e3, hin⟩ := hE j e r1 he' hr1
        obtain ⟨b1, hz0, hz⟩ := hin.run
        have ef1 := flat_take hr1
        obtain ⟨hf1, hy1⟩ := hz ((g.take i).flatten ++ (g1.take j).flatten)
        have l6 : SlOk X.K (dom ((D, MO.lst ((g.take i).flatten ++ (g1.take j).flatten)) :: τ1)) H6 (wipe σ3 vs1) (wipeE ρ2 vs1) := ((((l3.tr t3).tr t4).tr t5).tr t6).wipe vs1
        refine tgR_ok' hu1 l6 e3 r6 fun σ4 l7 w4 => ⟨by rw [w4, wipe_wipe σ3 vs1 vs1 fun _ h => h], ?_⟩
        intro s2 H2' C2 cl2 fp2
        refine hf1 s2 H2' C2 cl2 fp2 σ4 H6 o6 l7 _ fun k H7 τ7 q7 o7 t7 => ?_
        obtain ⟨rfl, rfl⟩ := q7
        cases k with
        | true =>
          refine iteT ?_
          obtain ⟨y, ey, hy⟩ := hy1 rfl
          intro s3 H3' C3 cl3 fp3
          refine hy s3 H3' C3 cl3 fp3 σ4 H7 o7 (l7.tr t7) _ fun v H8 sv τ8 q8 o8 r8 t8 => ?_
          obtain ⟨rfl, rfl⟩ := q8
          obtain ⟨us, h5, h6⟩ := o8.ok (D, .lst _) List.mem_cons_self
          have hl1 : ((g.take i).flatten ++ (g1.take j).flatten).length < 1000000 := by
            have h9 := flat_le (g := g) (i + 1)
            rw [ef, eg, List.length_append] at h9
            have h10 := flat_le (g := g1) (j + 1)
            rw [ef1, ey, List.length_append, List.length_singleton] at h10
            rw [List.length_append]
            omega
          have ow := o8.write (a := D) (o := .lst (us ++ [v])) (mo := .lst (((g.take i).flatten ++ (g1.take j).flatten) ++ [y])) List.mem_cons_self ⟨_, upd_same, (h6.append (.cons r8 .nil)).tr (Tr.write (τ := (D, MO.lst ((g.take i).flatten ++ (g1.take j).flatten)) :: τ1) (a := D) List.mem_cons_self)⟩
          have es1 : setS D (.lst (((g.take i).flatten ++ (g1.take j).flatten) ++ [y])) ((D, MO.lst ((g.take i).flatten ++ (g1.take j).flatten)) :: τ1) = (D, .lst (((g.take i).flatten ++ (g1.take j).flatten) ++ [y])) :: τ1 := if_pos rfl
          rw [es1] at ow
          have tw : Tr (dom ((D, MO.lst ((g.take i).flatten ++ (g1.take j).flatten)) :: τ1)) H8 (dom ((D, MO.lst ((g.take i).flatten ++ (g1.take j).flatten)) :: τ1)) (upd H8 D (.lst (us ++ [v]))) := Tr.write (τ := (D, MO.lst ((g.take i).flatten ++ (g1.take j).flatten)) :: τ1) (a := D) List.mem_cons_self
          refine ⟨us, h5, small_sz' (by rw [h6.length]; exact hl1), ?_, ?_⟩
          · rw [ef1, ey, ← List.append_assoc]
            exact ow
          · exact (((t5.trans t6).trans t7).trans t8).trans tw
        | false =>
          refine iteF ?_
          refine ⟨?_, (t5.trans t6).trans t7⟩
          rw [ef1, hz0 rfl, List.append_nil]
          exact o7
      · have e : j = es'.length := by omega
        subst e
        refine .inl ⟨wk1.stop _ H5 ((D, .lst ((g.take i).flatten ++ (g1.take es'.length).flatten)) :: τ1) (Nat.le_refl _) t5 o5 (hS' _), ?_, (((t'.trans t2).trans t3).trans t4).trans t5⟩
        rw [ef, eg]
        rw [← hg1l, List.take_length] at o5
        exact o5
    | false =>
      refine iteF ?_
      refine ⟨?_, (t'.trans t2).trans t3⟩
      rw [ef, hb0 rfl, List.append_nil]
      exact o3
  · have e : i = ds.length := by omega
    subst e
    refine .inl ⟨wk.stop _ H' _ (Nat.le_refl _) t' o' (hS _ _ nD), ?_⟩
    obtain ⟨us, h5, h6⟩ := o'.ok (D, .lst _) List.mem_cons_self
    rw [← hgl, List.take_length] at h6
    exact p _ H' (.val (.list (g.flatten))) τ1 hd o'.drop (Dn.lst ⟨nD, h5⟩ (h6.tr Tr.drop)) (t1'.trans (t'.trans Tr.drop))
theorem filt_flat {β : Type} {p : β → Bool} {f : β → PyData} : ∀ l : List β, (l.filter p).map f = (l.map fun y => if p y = true then [f y] else []).flatten
  | [] => rfl
  | y :: l => by
    rw [List.map_cons, List.flatten_cons, List.filter_cons, ← filt_flat l]
    by_cases hy : p y = true
    · rw [if_pos hy, if_pos hy, List.map_cons]
      rfl
    · rw [if_neg hy, if_neg hy]
      rfl
/-- the same over items of any type -/
theorem lc2q_of {α β : Type} {t t1 : Tg} {vs vs1 : List Nat} {Q : MV → Store → Prop} {ds : List PyData} (xs : List α) (emb : α → PyData) (he : ds = xs.map emb) (ys : α → List β) (emb1 : β → PyData) (pr : α → β → Bool) (f : α → β → PyData) {S : Store → Prop} {τ1 : Store}
    (hl : (xs.flatMap fun x => ((ys x).filter (pr x)).map (f x)).length ≤ 1000000)
    (h : ∀ x ∈ xs, ∃ ρ2, bindD (wipeE ρ vs) t (emb x) = some ρ2 ∧ ∀ D acc, D ∉ dom τ1 → (∀ s H C cl fp, Df (Blk X s H scope C cl fp) ρ2 ((D, .lst acc) :: τ1) ifs fun k τ2 => k = true ∧ τ2 = (D, .lst acc) :: τ1) ∧
      (∀ s H C cl fp, Di (Blk X s H scope C cl fp) tg1 ρ2 ((D, .lst acc) :: τ1) iter1 fun es' S' τ2 => es' = (ys x).map emb1 ∧ τ2 = (D, .lst acc) :: τ1 ∧ ∀ acc', S' ((D, .lst acc') :: τ1)) ∧
      ∀ y ∈ ys x, ∃ ρ3, bindD (wipeE ρ2 vs1) t1 (emb1 y) = some ρ3 ∧ ∀ acc, (∀ s H C cl fp, Df (Blk X s H scope C cl fp) ρ3 ((D, .lst acc) :: τ1) ifs1 fun k τ2 => k = pr x y ∧ τ2 = (D, .lst acc) :: τ1) ∧
        (pr x y = true → ∀ s H C cl fp, De (Blk X s H scope C cl fp) ρ3 ((D, .lst acc) :: τ1) elt fun sv τ3 => sv = .val (f x y) ∧ τ3 = (D, .lst acc) :: τ1))
    (q : Q (.val (.list (xs.flatMap fun x => ((ys x).filter (pr x)).map (f x)))) τ1) (hS : ∀ D acc, D ∉ dom τ1 → S ((D, .lst acc) :: τ1) := by exact fun _ _ _ => trivial) : Lc2Q X ρ scope vs vs1 t t1 elt tg1 iter1 ifs ifs1 Q ds S τ1 := by
  subst he
  have fl : (xs.map fun x => ((ys x).filter (pr x)).map (f x)).flatten = xs.flatMap fun x => ((ys x).filter (pr x)).map (f x) := by rw [List.flatMap_def]
  refine ⟨xs.map fun x => ((ys x).filter (pr x)).map (f x), by simp, hS, by rw [fl]; exact hl, fun i d r hd hr => ?_, by rw [fl]; exact q⟩
  rw [List.getElem?_map] at hd hr
  cases hx : xs[i]? with
  | none => rw [hx] at hd; cases hd
  | some x =>
    rw [hx] at hd hr
    cases hd
    cases hr
    obtain ⟨ρ2, e2, hh⟩ := h x (List.mem_of_getElem? hx)
    refine ⟨ρ2, e2, fun D acc hD => Out2.mk ⟨true, ⟨fun z => Bool.noConfusion z, (hh D acc hD).1, fun _ => ⟨(ys x).map emb1, (ys x).map fun y => if pr x y = true then [f x y] else [], by simp, ?_, (hh D acc hD).2.1, fun j e q he hq => ?_⟩⟩⟩⟩
    · exact filt_flat (ys x)
    · rw [List.getElem?_map] at he hq
      cases hy : (ys x)[j]? with
      | none => rw [hy] at he; cases he
      | some y =>
        rw [hy] at he hq
        cases he
        cases hq
        obtain ⟨ρ3, e3, h3⟩ := (hh D acc hD).2.2 y (List.mem_of_getElem? hy)
        refine ⟨ρ3, e3, In2.mk ⟨pr x y, ⟨fun z => if_neg (by rw [z]; simp), fun acc' => ⟨(h3 acc').1, fun z => ⟨f x y, if_pos z, (h3 acc').2 z⟩⟩⟩⟩⟩
theorem de_lc2 {t t1 : Tg} {vs1 : List Nat} {Q : MV → Store → Prop} (hc : X.calm = true) (hN : X.N.Nodup) (ok : BlkOk X.N X.env.scope scope own) (hu : ∀ j ∈ t.slots, j ∈ own.map (·.2)) (hu1 : ∀ j ∈ t1.slots, j ∈ vs1) (hv : ∀ i ∈ vs1, i ∈ own.map (·.2))
    (hg : ∀ s H C cl fp, PGx (Blk X s H scope C cl fp) tg t) (hg1 : ∀ s H C cl fp, PGx (Blk X s H scope C cl fp) tg1 t1) (h : Di X tg ρ τ iter (Lc2Q X ρ scope (own.map (·.2)) vs1 t t1 elt tg1 iter1 ifs ifs1 Q)) (hs : ∀ x, foldedSetIterable iter X.env x = pure x := by intro _; rfl) (hs1 : ∀ env x, foldedSetIterable iter1 env x = pure x := by intro _ _; rfl) :
    De X ρ τ (.ListComp elt [⟨tg, iter, ifs, 0⟩, ⟨tg1, iter1, ifs1, 0⟩] scope pos) Q := .mk fun σ H o l QQ p =>
  we_of (pe_lc2 (wi1 := tiB X scope tg1 iter1) (tt := ttB X scope ifs) (tt1 := ttB X scope ifs1) (te := teB X scope elt) (g := tgR X.K t) (g1 := tgR X.K t1) hc hN pi_wi ok hv hg (fun s H C cl fp => ⟨fun pins s' σ' H' Q' I hq => hq s H C cl fp pins s' I⟩) (fun s H C cl fp => ⟨fun pins s' σ' H' Q' I hq => hq s H C cl fp pins s' I⟩) hg1 (fun s H C cl fp => ⟨fun pins s' σ' H' Q' I hq => hq s H C cl fp pins s' I⟩) (fun s H C cl fp => ⟨fun pins s' σ' H' Q' I hq => hq s H C cl fp pins s' I⟩) hs hs1) (lc2_read hu hu1 h o l p)
theorem ds_setLc2 {t t1 : Tg} {vs1 : List Nat} {D : DE} (i : Nat) {y : Str} {py : Pos} (hc : X.calm = true) (hN : X.N.Nodup) (hy : X.N[i]? = some y) (hyl : X.env.scope.names.lookup y = some .local)
    (hsw : swapsWith (.ListComp elt [⟨tg, iter, ifs, 0⟩, ⟨tg1, iter1, ifs1, 0⟩] scope pos) (some (.Name y py)) spos.line X.env = pure true) (ok : BlkOk X.N X.env.scope scope own) (hu : ∀ j ∈ t.slots, j ∈ own.map (·.2)) (hu1 : ∀ j ∈ t1.slots, j ∈ vs1) (hv : ∀ i ∈ vs1, i ∈ own.map (·.2))
    (hg : ∀ s H C cl fp, PGx (Blk X s H scope C cl fp) tg t) (hg1 : ∀ s H C cl fp, PGx (Blk X s H scope C cl fp) tg1 t1) (h : Di X tg ρ τ iter (Lc2Q X ρ scope (own.map (·.2)) vs1 t t1 elt tg1 iter1 ifs ifs1 fun sv τ1 => D.nx (ρ.set i (some sv)) τ1)) (hs : ∀ x, foldedSetIterable iter X.env x = pure x := by intro _; rfl) (hs1 : ∀ env x, foldedSetIterable iter1 env x = pure x := by intro _ _; rfl) :
    Ds X ρ τ (.Assign [.Name y py] (.ListComp elt [⟨tg, iter, ifs, 0⟩, ⟨tg1, iter1, ifs1, 0⟩] scope pos) spos) D := .mk fun σ H o l DD p =>
  ws_of (ps_setLc2 (wi1 := tiB X scope tg1 iter1) (tt := ttB X scope ifs) (tt1 := ttB X scope ifs1) (te := teB X scope elt) (g := tgR X.K t) (g1 := tgR X.K t1) hc hN hy hyl hsw pi_wi ok hv hg (fun s H C cl fp => ⟨fun pins s' σ' H' Q' I hq => hq s H C cl fp pins s' I⟩) (fun s H C cl fp => ⟨fun pins s' σ' H' Q' I hq => hq s H C cl fp pins s' I⟩) hg1 (fun s H C cl fp => ⟨fun pins s' σ' H' Q' I hq => hq s H C cl fp pins s' I⟩) (fun s H C cl fp => ⟨fun pins s' σ' H' Q' I hq => hq s H C cl fp pins s' I⟩) hs hs1)
    (lc2_read hu hu1 h o l (QQ := fun v H1 => gName i v σ H1 DD.nx) fun v H1 sv τ1 q o1 r1 t1 => p.nx _ H1 _ τ1 q o1 ((l.tr t1).set r1 i) t1)
end
end Dl

/-! sorted of tuples of ints -/
namespace Dl
open PySem PySem.Spec L2 PyProof.Rows
def lexL : List Int → List Int → Bool
  | [], [] => false
  | [], _ :: _ => true
  | _ :: _, [] => false
  | x :: xs, y :: ys => if x = y then lexL xs ys else decide (x < y)
theorem lexL_asym : ∀ {x y : List Int}, lexL x y = true → lexL y x = false
  | [], [], h => rfl
  | [], _ :: _, h => rfl
  | _ :: _, [], h => by cases h
  | x :: xs, y :: ys, h => by
    unfold lexL at h ⊢
    by_cases e : x = y
    · rw [if_pos e] at h
      rw [if_pos e.symm]
      exact lexL_asym h
    · rw [if_neg e] at h
      rw [if_neg (fun z => e z.symm)]
      have := of_decide_eq_true h
      exact decide_eq_false (by omega)
theorem lexL_tr : ∀ {x y z : List Int}, lexL y x = false → lexL z y = false → lexL z x = false
  | [], _, [], _, _ => rfl
  | [], _, _ :: _, _, _ => rfl
  | _ :: _, [], _, h, _ => by cases h
  | x :: xs, y :: ys, [], _, h => by cases h
  | x :: xs, y :: ys, z :: zs, h1, h2 => by
    unfold lexL at h1 h2 ⊢
    by_cases e1 : y = x
    · rw [if_pos e1] at h1
      by_cases e2 : z = y
      · rw [if_pos e2] at h2
        rw [if_pos (e2.trans e1)]
        exact lexL_tr h1 h2
      · rw [if_neg e2] at h2
        have := of_decide_eq_false h2
        rw [if_neg (by omega)]
        exact decide_eq_false (by omega)
    · rw [if_neg e1] at h1
      have h1' := of_decide_eq_false h1
      by_cases e2 : z = y
      · rw [if_neg (by omega)]
        exact decide_eq_false (by omega)
      · rw [if_neg e2] at h2
        have := of_decide_eq_false h2
        rw [if_neg (by omega)]
        exact decide_eq_false (by omega)
/-- v is a tuple of these ints -/
def IsTI (h : Heap) (v : Value) (ks : List Int) : Prop := ∃ a o its n, v = .ref a ∧ h.get? a = some o ∧ o.cls = .type "tuple" ∧ o.data = .seq its n ∧ Paired (fun u i => ∃ t, u = Value.int i t) its.toList ks
theorem IsTI.keeps {h h' : Heap} {v : Value} {ks : List Int} (p : IsTI h v ks) (k : ∀ b o, h.get? b = some o → o.cls = .type "tuple" → h'.get? b = some o) : IsTI h' v ks := by
  obtain ⟨a, o, its, n, e, ho, hc, r⟩ := p
  exact ⟨a, o, its, n, e, k _ _ ho hc, hc, r⟩
theorem firsts_ti {h : Heap} : ∀ {vs : List Value}, (∀ v ∈ vs, ∃ ks, ks ≠ [] ∧ IsTI h v ks) → ∃ fs : List Value, PySem.W.KatTups h vs fs ∧ fs.length = vs.length ∧ ∀ f ∈ fs, ∃ x t, f = Value.int x t
  | [], _ => ⟨[], PySem.W.KatTups.nil, rfl, fun _ hm => by simp at hm⟩
  | v :: vs, hp => by
    obtain ⟨fs, h1, h2, h3⟩ := firsts_ti (vs := vs) fun v' hm => hp v' (List.mem_cons_of_mem _ hm)
    obtain ⟨ks, hk, a, o, its, n, e, ho, hc, hd, hr⟩ := hp v (List.mem_cons_self ..)
    subst e
    cases ks with
    | nil => exact absurd rfl hk
    | cons x ks =>
      obtain ⟨il⟩ := its
      cases hr with
      | cons r1 rr =>
        obtain ⟨t, rfl⟩ := r1
        refine ⟨.int x t :: fs, PySem.W.KatTups.cons ho hc hd rfl h1, by rw [List.length_cons, List.length_cons, h2], fun f hm => ?_⟩
        rcases List.mem_cons.mp hm with rfl | hm
        · exact ⟨x, t, rfl⟩
        · exact h3 f hm
section
variable {prog : Program} {w : World} {A : Around} {E : Value → Shared → Prop} {s : Shared}
theorem oneLt_both (c : Bool) {p q : Int} {t u : Tok} {Q : Bool → Shared → Prop} (h : Q (decide (p < q)) s) : wpAny (model prog w) A (oneLt' c (.int p t) (.int q u)) Q (fun _ _ => False) s := by
  cases c with
  | true => exact oneLt_int h
  | false => exact PySem.W.kat_one _ _ (PyProof.Rows.lt_int (Q := PySem.W.BoolBack Q) h)
theorem lex_go {Q : Bool → Shared → Prop} : ∀ {us vs : List Value} {ks js : List Int} (i : Nat), Paired (fun u i => ∃ t, u = Value.int i t) us ks → Paired (fun u i => ∃ t, u = Value.int i t) vs js → Q (lexL ks js) s →
    PySem.W.KatLex prog w A true (decide (ks.length < js.length)) Q (us.zip vs) i s
  | _, _, _, _, i, .nil, .nil, q => PySem.W.kat_nil q
  | _, _, _, _, i, .nil, .cons _ _, q => PySem.W.kat_nil (by rw [decide_eq_true (by simp)]; exact q)
  | _, _, _, _, i, .cons _ _, .nil, q => PySem.W.kat_nil q
  | _, _, x :: ks, y :: js, i, .cons ⟨t, e⟩ r, .cons ⟨u, e'⟩ r', q => by
    subst e e'
    refine PySem.W.kat_cons (SeqAt.EqAt.int_int x t y u prog w _ _ ?_)
    refine PySem.W.kat_go (fun e1 => ?_) (fun e1 => ?_)
    · have ex : x = y := by simpa using e1
      refine PySem.W.kat_yes ?_
      have e3 : decide ((x :: ks).length < (y :: js).length) = decide (ks.length < js.length) := by
        simp only [List.length_cons, Nat.add_lt_add_iff_right]
      rw [e3]
      refine lex_go (i + 1) r r' ?_
      unfold lexL at q
      rw [if_pos ex] at q
      exact q
    · have ex : ¬ x = y := by simpa using e1
      unfold lexL at q
      rw [if_neg ex] at q
      exact PySem.W.kat_no (oneLt_both _ q)
theorem ti_cmp {vs : List Value} {k : Value → List Int} (hp : ∀ v ∈ vs, IsTI s.heap v (k v)) : SrtO.Cmp prog w A s (tuples' true) (fun p => p.1 ∈ vs) (SrtO.lt2 fun v u => lexL (k v) (k u)) := by
  intro p q hm hm'
  obtain ⟨a, o, its, n, e, ho, hc, hd, hr⟩ := hp _ hm
  obtain ⟨a', o', its', n', e', ho', hc', hd', hr'⟩ := hp _ hm'
  show wpAny (model prog w) A (keyLt' (tuples' true) p.1 q.1) (fun r s' => s' = s ∧ r = lexL (k p.1) (k q.1)) (fun _ _ => False) s
  rw [e, e'] at *
  refine PySem.W.kat_lt ho hd ho' hd' ?_
  have e1 : decide (its.size < its'.size) = decide ((k (.ref a)).length < (k (.ref a')).length) := by
    rw [← Array.length_toList, ← Array.length_toList, Paired.length hr, Paired.length hr']
  rw [e1]
  exact lex_go 0 hr hr' ⟨rfl, rfl⟩
theorem ti_sortableO {a : Addr} {vs : List Value} {k : Value → List Int} (h0 : 0 < vs.length) (hp : ∀ v ∈ vs, k v ≠ [] ∧ IsTI s.heap v (k v)) (ha : ∀ o, s.heap.get? a = some o → o.cls ≠ .type "tuple") : SrtO.SortableO prog w A s a vs fun v u => lexL (k v) (k u) := by
  intro h' keep
  have hp' : ∀ v ∈ vs, IsTI h' v (k v) := fun v hm => (hp v hm).2.keeps fun b o e c => keep b o (fun z => by subst z; exact ha o e c) e
  obtain ⟨fs, h1, h2, h3⟩ := firsts_ti fun v hm => ⟨_, (hp v hm).1, hp' v hm⟩
  refine ⟨tuples' true, fun Q E hq => ?_, ti_cmp hp'⟩
  refine PySem.W.kat_kind (T := .type "int") h1 (by omega) (fun f hm => ?_) (by rfl) ?_
  · obtain ⟨x, t, rfl⟩ := h3 f hm
    exact PySem.W.Looks.now
  · have e : (Value.type "int" != Value.type "tuple") = true := by first | decide +kernel | rfl | decide
    rw [e]
    exact hq
theorem sorted_ti {l : Addr} {vs : List Value} {k : Value → List Int} {Q : Value → Shared → Prop} (hl : s.heap.IsList l vs.toArray) (hz : vs.length ≤ sizeLine) (hp : ∀ v ∈ vs, k v ≠ [] ∧ IsTI s.heap v (k v))
    (h : ∀ (h' : Heap) (d : Addr) (out : List Value), SrtO.Srtd (fun v u => lexL (k v) (k u)) out → SrtO.Stb (fun v u => lexL (k v) (k u)) out vs → (∀ b o, s.heap.get? b = some o → h'.get? b = some o) → s.heap.objs.size ≤ d → (∃ n, h'.get? d = some (seqObj "list" out.toArray n)) → Q (.ref d) { s with heap := h' }) :
    wpAny (model prog w) A (call (.builtin "sorted") [.ref l]) Q E s := by
  refine SrtO.sorted_ord (ltv := fun v u => lexL (k v) (k u)) ⟨fun _ _ => lexL_asym, fun _ _ _ => lexL_tr⟩ hl hz (fun h2 h₁ a ha kk => ?_) fun out hs hb => ?_
  · refine ti_sortableO (s := { s with heap := h₁ }) (by omega) (fun v hm => ⟨(hp v hm).1, (hp v hm).2.keeps fun b o e _ => (kk b o e).2⟩) fun o e => ?_
    have e' : some o = some (seqObj "list" vs.toArray 0) := e.symm.trans ha
    cases e'
    intro c
    exact absurd (Value.type.inj c) (by decide)
  · exact h _ _ out hs hb (fun b o e => sortedAll_old e) (Nat.le_succ _) (sortedAll_at s.heap vs out.toArray)
end
abbrev ltT (k : V → List Int) (x y : V) : Bool := lexL (k x) (k y)
theorem ltT_swo (k : V → List Int) : SrtO.Swo (ltT k) := ⟨fun _ _ => lexL_asym, fun _ _ _ => lexL_tr⟩
def rSortedT (K : PySem.W.Frag) : List V → Hp → VK → Prop := fun vs H Q => ∃ (a : Addr) (xs : List V) (k : V → List Int), vs = [V.ref a] ∧ SqL K H a xs ∧ (∀ x ∈ xs, ∃ t, x = V.ref t ∧ k x ≠ [] ∧ H t = some (.tup ((k x).map V.int))) ∧
  ∀ ys p, SrtO.Srtd (ltT k) ys → SrtO.Stb (ltT k) ys xs → H p = none → Q (.ref p) (upd H p (.lst ys))
theorem vals_ti : ∀ {ks : List Int} {us : List Value}, Vals (ks.map V.int) us → Paired (fun u i => ∃ t, u = Value.int i t) us ks
  | [], _, .nil => .nil
  | x :: ks, _, .cons r rr => by
    obtain ⟨t, rfl⟩ := r
    exact .cons ⟨t, rfl⟩ (vals_ti rr)
section
variable {X : Cx}
theorem cr_sortedT : CallR X (.builtin "sorted") (rSortedT X.K) := by
  intro pins s σ H vs us Q I r h
  obtain ⟨a, xs, k, rfl, hs, hx, q⟩ := h
  obtain ⟨its, rv, hl, hz⟩ := I.list hs
  obtain ⟨u, rfl, ru⟩ := vals1 r
  obtain rfl : u = Value.ref a := ru
  obtain ⟨e1, e2⟩ := refs_back rv fun x m => by
    obtain ⟨t, e, _⟩ := hx x m
    exact ⟨t, e⟩
  refine sorted_ti (k := fun u => k (backV u)) hl.isList (by rw [← rv.length]; exact hz) (fun v hv => ?_) fun h' d out h1 h2 kp hd hn => ?_
  · obtain ⟨t, rfl⟩ := e2 v hv
    have hm : V.ref t ∈ xs := by rw [e1]; exact List.mem_map.mpr ⟨_, hv, rfl⟩
    obtain ⟨t', e, hk, ht⟩ := hx _ hm
    cases e
    obtain ⟨_, its2, r2, o, ho, hc, n, hd⟩ := I.hok _ _ ht
    exact ⟨hk, t, o, its2.toArray, n, rfl, ho, hc, hd, vals_ti r2⟩
  · have h3 : ∀ u ∈ out, ∃ a, u = Value.ref a := fun u hu => e2 u (h2.perm.mem_iff.mp hu)
    obtain ⟨n, hn⟩ := hn
    have hb : SrtO.Stb (ltT k) (out.map backV) xs := by
      rw [e1]
      exact SrtO.Stb.map (ltT_swo k) backV h2
    refine ⟨.ref d, upd H d (.lst (out.map backV)), I.laid (t' := s.toks) kp hd ⟨?_, out, n, vals_back h3, hn⟩, rfl, q _ d (SrtO.srtd_map h1) hb (I.hok.fresh hd)⟩
    rw [hb.len]
    exact hz
end
/-- what a value of the heap is as ints -/
def kOf (H : Hp) : V → List Int
  | .ref t => match H t with
    | some (.tup us) => us.filterMap fun u => match u with
      | .int i => some i
      | _ => none
    | _ => []
  | _ => []
theorem dnl_ints {K : PySem.W.Frag} {N : List Addr} {H : Hp} : ∀ {ks : List Int} {us : List V}, DnL K N H us (ks.map .int) → us = ks.map V.int
  | [], _, .nil => rfl
  | x :: ks, _, .cons r rr => by
    cases r
    rw [dnl_ints rr]
    rfl
theorem kOf_int : ∀ (ks : List Int), (ks.map V.int).filterMap (fun u => match u with | .int i => some i | _ => none) = ks
  | [] => rfl
  | x :: ks => by
    rw [List.map_cons, List.filterMap_cons]
    exact congrArg (x :: ·) (kOf_int ks)
theorem kOf_tup {K : PySem.W.Frag} {N : List Addr} {H : Hp} {v : V} {ks : List Int} (h : Dn K N H v (.tuple (ks.map .int))) : ∃ t, v = .ref t ∧ kOf H v = ks ∧ H t = some (.tup (ks.map V.int)) := by
  cases h with
  | @tup a us _ n l =>
    have e := dnl_ints l
    subst e
    refine ⟨a, rfl, ?_, n.2⟩
    show (match H a with | some (HO.tup us) => us.filterMap (fun u => match u with | V.int i => some i | _ => none) | _ => []) = ks
    rw [n.2]
    exact kOf_int ks
theorem dnl_keys {K : PySem.W.Frag} {N : List Addr} {H : Hp} : ∀ {rows : List (List Int)} {us : List V}, DnL K N H us (rows.map fun r => .tuple (r.map .int)) → us.map (kOf H) = rows ∧ ∀ u ∈ us, ∃ t, u = V.ref t ∧ H t = some (.tup ((kOf H u).map V.int)) ∧ kOf H u ∈ rows
  | [], _, .nil => ⟨rfl, fun _ h => by cases h⟩
  | r :: rows, _, .cons h hs => by
    obtain ⟨t, rfl, e, ht⟩ := kOf_tup h
    obtain ⟨e1, e2⟩ := dnl_keys hs
    refine ⟨by rw [List.map_cons, e, e1], fun u hu => ?_⟩
    rcases List.mem_cons.mp hu with rfl | hu
    · exact ⟨t, rfl, by rw [e]; exact ht, by rw [e]; exact List.mem_cons_self⟩
    · obtain ⟨t', a, b, c⟩ := e2 u hu
      exact ⟨t', a, b, List.mem_cons_of_mem _ c⟩
section
variable {X : Cx} {ρ : En} {τ : Store} {Q : MV → Store → Prop} {pos p1 : Pos} {a : Expr}
/-- sorted(rows), rows ascending: the same rows -/
theorem de_sortedT (B : Bl X.mg) (hg : Gl X "sorted") (h : De X ρ τ a fun x τ1 => ∃ rows : List (List Int), datOf τ1 x = some (.list (rows.map fun r => .tuple (r.map .int))) ∧ (∀ r ∈ rows, r ≠ []) ∧ rows.Pairwise (fun r q => lexL q r = false) ∧ Q (.val (.list (rows.map fun r => .tuple (r.map .int)))) τ1)
    (hs : starEach [a] X.env = (false, eval a X.env) :: starEach [] X.env := by rfl) : De X ρ τ (.Call (.Name "sorted" p1) [a] [] pos) Q :=
  de_callB cr_sortedT hg B.h_sorted (by decide +kernel) (da_one (h.mono fun x τ1 ⟨rows, e, hne, hp, q⟩ => .mk fun H vs o r QQ p => by
    obtain ⟨v, rfl, r1⟩ := paired1 r
    obtain ⟨l, xs, rfl, hq, dl⟩ := r1.seqL o e
    obtain ⟨e1, e2⟩ := dnl_keys dl
    refine ⟨l, xs, kOf H, rfl, hq, fun x hx => ?_, fun ys p' h1 h2 hn => ?_⟩
    · obtain ⟨t, a1, a2, a3⟩ := e2 x hx
      exact ⟨t, a1, hne _ a3, a2⟩
    · have hx : SrtO.Srtd (ltT (kOf H)) xs := by
        rw [← e1] at hp
        exact List.pairwise_map.mp hp
      have ey : ys = xs := SrtO.stb_uniq (ltT_swo _) h1 hx h2
      subst ey
      exact p.lst o dl q p' hn) hs) hs rfl
end
end Dl

/-! data with bools, against the empty ones -/
namespace Dl
open PySem PySem.Spec L2
def Pb : Nat → PyData → Prop
  | _, .none => True
  | _, .int _ => True
  | _, .bool _ => True
  | _, .str x => PyData.strOk x = true
  | 0, .list xs => xs = []
  | n + 1, .list xs => ∀ x ∈ xs, Pb n x
  | 0, .tuple xs => xs = []
  | n + 1, .tuple xs => ∀ x ∈ xs, Pb n x
  | _, .dict _ => False
theorem Pb.lay : ∀ {n : Nat} {d : PyData}, Pb n d → d.canLay0 = true
  | _, .none, _ => rfl
  | _, .int _, _ => rfl
  | _, .bool _, _ => rfl
  | n, .str x, h => by
    cases n <;> exact h
  | 0, .list xs, h => by
    have h : xs = [] := h
    subst h
    rfl
  | n + 1, .list xs, h => by
    have h : ∀ x ∈ xs, Pb n x := h
    show PyData.canLayAll0 xs = true
    exact canLayAll0_of fun x hx => (h x hx).lay
  | 0, .tuple xs, h => by
    have h : xs = [] := h
    subst h
    rfl
  | n + 1, .tuple xs, h => by
    have h : ∀ x ∈ xs, Pb n x := h
    show PyData.canLayAll0 xs = true
    exact canLayAll0_of fun x hx => (h x hx).lay
  | n, .dict _, h => by cases n <;> exact h.elim
theorem Pb.dep : ∀ {n : Nat} {d : PyData}, Pb n d → d.depth ≤ n + 1
  | _, .none, _ => Nat.zero_le _
  | _, .int _, _ => Nat.zero_le _
  | _, .bool _, _ => Nat.zero_le _
  | n, .str x, h => Nat.zero_le _
  | 0, .list xs, h => by
    have h : xs = [] := h
    subst h
    exact Nat.le_refl _
  | n + 1, .list xs, h => by
    have h : ∀ x ∈ xs, Pb n x := h
    show PyData.depthAll xs + 1 ≤ n + 1 + 1
    have := depthAll_of (n := n + 1) fun x hx => (h x hx).dep
    omega
  | 0, .tuple xs, h => by
    have h : xs = [] := h
    subst h
    exact Nat.le_refl _
  | n + 1, .tuple xs, h => by
    have h : ∀ x ∈ xs, Pb n x := h
    show PyData.depthAll xs + 1 ≤ n + 1 + 1
    have := depthAll_of (n := n + 1) fun x hx => (h x hx).dep
    omega
  | n, .dict _, h => by cases n <;> exact h.elim
theorem Pb.shaped {n : Nat} {d : PyData} (h : Pb n d) (hn : n ≤ 60 := by decide) : SeqAt.shaped d = true := by
  unfold SeqAt.shaped
  rw [h.lay, Bool.true_and]
  have := h.dep
  exact decide_eq_true (by omega)
section
variable {K : PySem.W.Frag} {τ : Store} {Q : MV → Store → Prop} {neg : Bool}
theorem eq_nilL {n : Nat} {x y : MV} {ds : List PyData} (hx : datOf τ x = some (.list ds)) (hy : datOf τ y = some (.list [])) (hd : Pb n (.list ds)) (q : Q (.val (.bool (bneg neg ds.isEmpty))) τ) (hn : n ≤ 60 := by decide) : EqD K neg x y τ Q :=
  eq_dat hx hy (hd.shaped hn) rfl (by
    have e : PyData.eqv (.list ds) (.list []) = ds.isEmpty := by cases ds <;> simp [PyData.eqv, PyData.eqvAll]
    rw [e]
    exact q)
theorem eq_nilT {n : Nat} {x y : MV} {ds : List PyData} (hx : datOf τ x = some (.tuple ds)) (hy : datOf τ y = some (.tuple [])) (hd : Pb n (.tuple ds)) (q : Q (.val (.bool (bneg neg ds.isEmpty))) τ) (hn : n ≤ 60 := by decide) : EqD K neg x y τ Q :=
  eq_dat hx hy (hd.shaped hn) rfl (by
    have e : PyData.eqv (.tuple ds) (.tuple []) = ds.isEmpty := by cases ds <;> simp [PyData.eqv, PyData.eqvAll]
    rw [e]
    exact q)
end
theorem dnl_intmap {K : PySem.W.Frag} {N : List Addr} {H : Hp} : ∀ ns : List Int, DnL K N H (ns.map V.int) (ns.map .int)
  | [] => .nil
  | n :: ns => .cons (Dn.int n) (dnl_intmap ns)
section
variable {X : Cx} {ρ : En} {τ : Store} {Q : MV → Store → Prop} {pos p1 p2 p3 : Pos} {a : Expr} {kk : Nat}
theorem de_listRg (B : Bl X.mg) (hc : X.calm = true) (hg : Gl X "list") (hg2 : Gl X "range") (h : De X ρ τ a fun x τ1 => ∃ n, x = .val (.int n) ∧ n ≤ 1000000 ∧ -1000000 ≤ n ∧ Q (.val (.list (rangeD 0 n.toNat))) τ1)
    (na : starEach [a] X.env = (false, eval a X.env) :: starEach [] X.env := by rfl) (nb : starEach [.Call (.Name "range" p2) [a] [] p3] X.env = (false, eval (.Call (.Name "range" p2) [a] [] p3) X.env) :: starEach [] X.env := by rfl) :
    De X ρ τ (.Call (.Name "list" p1) [.Call (.Name "range" p2) [a] [] p3] [] pos) Q := .mk fun σ H o l QQ p =>
  we_of (pe_listRg hc hg B.h_list (prg_1 hg2 B.h_range pe_we na) nb) (h σ H o l _ fun v H1 x τ1 ⟨n, ex, h1, h2, q⟩ o1 r1 t1 => by
    subst ex
    cases r1
    refine ⟨n, rfl, ⟨by omega, by omega, by omega, by omega, by omega⟩, ?_⟩
    have e : rgV 0 n = ((List.range n.toNat).map fun i => (0 + (i : Nat) : Int)).map V.int := by
      unfold rgV
      rw [List.map_map, Int.sub_zero]
      rfl
    have e2 : rangeD 0 n.toNat = ((List.range n.toNat).map fun i => (0 + (i : Nat) : Int)).map .int := by
      unfold rangeD
      rw [List.map_map]
      rfl
    rw [e]
    rw [e2] at q
    exact (p.step t1).lst o1 (dnl_intmap _) q)
theorem de_sortedI (B : Bl X.mg) (hg : Gl X "sorted") (h : De X ρ τ a fun x τ1 => ∃ ns : List Int, datOf τ1 x = some (.list (ns.map .int)) ∧ ∀ ms : List Int, ms.Perm ns → ms.Pairwise (· ≤ ·) → Q (.val (.list (ms.map .int))) τ1)
    (hs : starEach [a] X.env = (false, eval a X.env) :: starEach [] X.env := by rfl) : De X ρ τ (.Call (.Name "sorted" p1) [a] [] pos) Q :=
  de_callB cr_sortedI hg B.h_sorted (by decide +kernel) (da_one (h.mono fun x τ1 ⟨ns, e, q⟩ => .mk fun H vs o r QQ p => by
    obtain ⟨v, rfl, r1⟩ := paired1 r
    obtain ⟨l, rfl, hq⟩ := r1.intsL o e
    refine ⟨l, ns, rfl, hq, fun ms p' h1 h2 hn => ?_⟩
    exact p.lst o (dnl_intmap ms) (q ms h1 h2) p' hn) hs) hs rfl
theorem pgx_tup4 {i j k m : Nat} {e1 e2 e3 e4 : Expr} (hc : X.calm = true) (h1 : PG X e1 (gName i)) (h2 : PG X e2 (gName j)) (h3 : PG X e3 (gName k)) (h4 : PG X e4 (gName m))
    (hs : (assignEach [e1, e2, e3, e4] X.env).map (·.2) = assign e1 X.env :: (assignEach [e2, e3, e4] X.env).map (·.2) := by rfl) (hs2 : (assignEach [e2, e3, e4] X.env).map (·.2) = assign e2 X.env :: (assignEach [e3, e4] X.env).map (·.2) := by rfl)
    (hs3 : (assignEach [e3, e4] X.env).map (·.2) = assign e3 X.env :: (assignEach [e4] X.env).map (·.2) := by rfl) (hs4 : (assignEach [e4] X.env).map (·.2) = assign e4 X.env :: (assignEach [] X.env).map (·.2) := by rfl)
    (hn : (assignEach [e1, e2, e3, e4] X.env).length = 4 := by rfl) (hst : (assignEach [e1, e2, e3, e4] X.env).findIdx? (·.1) = none := by rfl) : PGx X (.Tuple [e1, e2, e3, e4] kk pos) (.tup [i, j, k, m]) :=
  PG.weak (pg_tup hc (pgs_cons h1 (pgs_cons h2 (pgs_cons h3 (pgs_cons h4 pgs_nil hs4) hs3) hs2) hs) hn hst) fun v σ H Q ⟨a, xs, e, h, hl, q⟩ => by
    match xs, hl with
    | [x, y, z, w], _ => exact ⟨a, [x, y, z, w], e, h, rfl, x, [y, z, w], rfl, y, [z, w], rfl, z, [w], rfl, w, [], rfl, rfl, q⟩
end
theorem _root_.L2.Room.units65 {k : Nat} {A : Around} (r : Room k A) : A.units + 65 < cLine := by have := r.un; omega
theorem ds_cut {X : Cx} {ρ : En} {τ : Store} {st : Stmt} {D : DE} (R : En → Store → Prop) (h1 : Ds X ρ τ st { D with nx := R }) (h2 : ∀ ρ' τ', R ρ' τ' → D.nx ρ' τ') : Ds X ρ τ st D := .mk fun σ H o l DD p =>
  h1 σ H o l DD ⟨fun σ1 H1 ρ1 τ1 r o1 l1 t1 => p.nx σ1 H1 ρ1 τ1 (h2 _ _ r) o1 l1 t1, p.rt, p.bk, p.ct⟩
theorem cutD_take {ds : List PyData} {j : Nat} (h : j ≤ ds.length) : cutD ds none (some (j : Int)) = ds.take j := by
  unfold cutD
  rw [HT.sIx_none, HT.sIx_nat, List.drop_zero, Nat.sub_zero, Nat.min_eq_left h]
theorem cutD_drop {ds : List PyData} {j : Nat} (h : j ≤ ds.length) : cutD ds (some (j : Int)) none = ds.drop j := by
  unfold cutD
  rw [HT.sIx_none, HT.sIx_nat, Nat.min_eq_left h]
  exact List.take_of_length_le (by rw [List.length_drop]; exact Nat.le_refl _)
end Dl

/-! enumerate of a tuple -/
namespace Dl
open PySem PySem.Spec L2 PyProof.Rows
open AutoSeq1 (wpAny_loadPart')
theorem meets_enumT (l : Addr) (items : Array Value) (n : Nat) (dct : Option Addr) (sl : Array (Option Value)) :
    Meets (Builtin.«enumerate.__new__» ⟨[.type "enumerate", .ref l], []⟩) (fun _ R s => s.heap.get? l = some { cls := .type "tuple", dict := dct, data := .seq items n, slots := sl } ∧
      R (.ok (.ret (.ref (s.heap.push { cls := .type "tuple_iterator", data := .fields #[.ref l, .int 0 0] }).objs.size)))
        { s with heap := (s.heap.push { cls := .type "tuple_iterator", data := .fields #[.ref l, .int 0 0] }).push { cls := .type "enumerate", data := .fields #[.none, .bool false, .ref s.heap.objs.size, rawInt 0, .none, .none] } }) :=
  .of_wp fun prog w A R s h => by
    obtain ⟨hp, g, d, tk, os⟩ := s; obtain ⟨hl, h⟩ := h
    have hsub := sub_enumerate
    have hL : Heap.IsTuple (Shared.heap ⟨hp, g, d, tk, os⟩) l items := ⟨_, hl, rfl, n, rfl⟩
    wp_walk using wpAny_loadPart' hl
    refine wpAny_stack_any fun st => wpAny_pure ?_
    split
    · rename_i c _ _ _ _ _
      cases (c == Value.type "enumerate")
      · wp_walk using wpAny_loadPart' hl, wpAny_pyIter_tuple hL
        exact ⟨_, rfl, h⟩
      · wp_walk using wpAny_loadPart' hl, wpAny_pyIter_tuple hL
        exact ⟨_, rfl, h⟩
    · wp_walk using wpAny_loadPart' hl, wpAny_pyIter_tuple hL
      exact ⟨_, rfl, h⟩
section
variable {prog : Program} {w : World} {A : Around} {E : Value → Shared → Prop} {s : Shared}
theorem call_enumT {l : Addr} {items : Array Value} {Q : Value → Shared → Prop} (hL : s.heap.IsTuple l items)
    (h : ∀ h', IsEnum h' (s.heap.objs.size + 1) s.heap.objs.size 0 .none → h'.IsTupleIter s.heap.objs.size l 0 → h'.objs.size = s.heap.objs.size + 2 →
      (∀ b o, s.heap.get? b = some o → h'.get? b = some o) → Q (.ref (s.heap.objs.size + 1)) { s with heap := h' }) :
    wpAny (model prog w) A (call (.type "enumerate") [.ref l]) Q E s := by
  obtain ⟨⟨c, dct, dt, sl⟩, hl, hc, n, hd⟩ := hL
  replace hc : c = .type "tuple" := hc
  replace hd : dt = .seq items n := hd
  subst hc hd
  refine callType_new F.called_enumerate (by decide) (F.typeCall_enumerate_1 _) (F.newCall_enumerate_1 _) (fun obj => F.args_object_init_2 obj _) F.entry_enumerate_new
    (meets_enumT l items n dct sl) ⟨hl, ?_⟩
  have hz : (s.heap.push { cls := .type "tuple_iterator", data := .fields #[.ref l, .int 0 0] }).objs.size = s.heap.objs.size + 1 := Heap.size_push ..
  show _ ∧ _
  rw [hz]
  have he : IsEnum ((s.heap.push { cls := .type "tuple_iterator", data := .fields #[.ref l, .int 0 0] }).push
      { cls := .type "enumerate", data := .fields #[.none, .bool false, .ref s.heap.objs.size, rawInt 0, .none, .none] }) (s.heap.objs.size + 1) s.heap.objs.size 0 .none := by
    have := Heap.get?_push_size (s.heap.push { cls := .type "tuple_iterator", data := .fields #[.ref l, .int 0 0] })
      (o := { cls := .type "enumerate", data := .fields #[.none, .bool false, .ref s.heap.objs.size, rawInt 0, .none, .none] }) rfl
    rw [hz] at this; exact this
  refine ⟨⟨_, he, rfl⟩, h _ he ⟨_, Heap.get?_push_of_some _ (Heap.get?_push_size _ rfl), rfl, rfl⟩ (by rw [Heap.size_push, hz]) fun b o x => Heap.get?_push_of_some _ (Heap.get?_push_of_some _ x)⟩
theorem enumT_end {e it l : Addr} {i : Int} {j : Nat} {items : Array Value} {old : Value} {Q : Option Value → Shared → Prop} (hh : A.handled = none) (hE : IsEnum s.heap e it i old) (hI : s.heap.IsTupleIter it l j) (hT : s.heap.IsTuple l items) (hx : items[j]? = none)
    (hQ : ∀ h', Heap.ExtBut it s.heap h' → Q none { s with heap := h' }) : wpAny (model prog w) A (pyNext (.ref e)) Q E s := by
  have ty : s.TypeIs (.ref e) "enumerate" := ⟨_, hE, rfl⟩
  unfold pyNext
  refine wpAny_bind (wpAny_attempt (wpAny_callSpecial?_slot (name := Str.ofString "__next__") ty F.slot_enumerate_next (wpAny_call_entry F.slot_enumerate_next ty F.entry_enumerate_next ?_ (F.args_enumerate_next_1 _))))
  show wpAny _ _ (field (.ref e) 2 >>= _) _ _ s
  refine wpAny_bind (wpAny_field hE rfl (x := .ref it) rfl ?_)
  refine wpAny_bind (wpAny_nextOf_tuple_end hh hI hT hx fun h1 x eb ⟨o, ho, hc⟩ => ?_)
  exact wpAny_bind (wpAny_isInstance (T := "StopIteration") (b := true) ⟨o, ho, hc⟩ isSubtype_stop (wpAny_pure (hQ _ eb)))
end
end Dl
namespace L2
open PySem PySem.Spec PyProof.Rows
/-- the tuple at a, each item in a new pair -/
def ItenT (K : PySem.W.Frag) (a : Addr) : It :=
  ⟨fun i H => ∃ (xs : List V) (x : V), SqT K H a xs ∧ xs[i]? = some x, fun i H v H' => ∃ T x, v = .ref T ∧ H T = none ∧ H' = upd H T (.tup [.int (i : Nat), x]) ∧ ∀ xs, SqT K H a xs → xs[i]? = some x, fun i H => ∃ xs : List V, SqT K H a xs ∧ xs.length ≤ i⟩
theorem turn_enumT {P : Program} {w : World} {K : PySem.W.Frag} {elts : List Expr} {kk : Nat} {tpos : Pos} (a e it : Addr) :
    Turn P w K (.Tuple elts kk tpos) (ItenT K a) [e, it] e (fun i h => (∃ old, IsEnum h e it ((i : Nat) : Int) old) ∧ h.IsTupleIter it a i ∧ e ≠ it) where
  mem := by simp
  obj := fun i h st b hb => by
    obtain ⟨⟨old, he⟩, ⟨o, ho, hc, hd⟩, _⟩ := st
    have e' : b = e ∨ b = it := by simpa using hb
    rcases e' with z | z
    · rw [z]; exact ⟨_, he, fun v q => nomatch q⟩
    · rw [z]; exact ⟨o, ho, fun v q => by rw [hd] at q; cases q⟩
  keep := fun i h h' st k => let ⟨⟨old, he⟩, hi, hne⟩ := st; ⟨⟨old, k e (by simp) _ he⟩, hi.at fun o q => k it (by simp) o q, hne⟩
  item := by
    intro X hP hw hK hc i pins s σ H E I hf st hg
    subst hP hw hK
    obtain ⟨⟨old, he⟩, hit, hne⟩ := st
    obtain ⟨xs, x, hq, hx⟩ := hg
    obtain ⟨its, rv, p, hz⟩ := I.tuple hq
    obtain ⟨u, hu, ru⟩ := rv.get hx
    have p' : s.heap.IsTuple a its.toArray := p
    have hel : e < s.heap.objs.size := Heap.lt_size he
    have hil : it < s.heap.objs.size := by obtain ⟨_, q, _⟩ := hit; exact Heap.lt_size q
    have hai : a ≠ it := fun z => by
      obtain ⟨o, ho, hcl, _⟩ := p'
      obtain ⟨o2, ho2, hc2, _⟩ := hit
      rw [z, ho2] at ho
      cases ho
      rw [hc2] at hcl
      exact absurd (Value.type.inj hcl) (by decide)
    have hea : e ≠ a := fun z => by
      obtain ⟨o, ho, hcl, _⟩ := p'
      rw [← z, he] at ho
      cases ho
      exact absurd (Value.type.inj hcl) (by decide)
    have hlt : i < its.toArray.size := by
      have := (List.getElem?_eq_some_iff.mp hu).1
      simpa using this
    refine wpAny_pyNext_enum_itemD (Draws.tuple (A := X.A.in1) (I.ok.hd hc) it a hai its.toArray) he ⟨hit, p'⟩ hlt hne (by simp [hne, hea]) fun x' h' tk hx' ho hst' hT hsz hk => ?_
    have ex : x' = u := by
      have h1 : its.toArray[i]? = some u := by simpa using hu
      rw [h1] at hx'
      exact (Option.some.inj hx').symm
    subst ex
    refine ⟨_, rfl, wpAny_letOwnedTupleGo_enum (s := { s with heap := h', toks := tk + 1 }) ho fun h'' he' sb => ?_⟩
    have hT2 : h''.get? s.heap.objs.size = some { cls := .type "tuple", data := .seq #[.int i tk, x'] } := (sb.2 _ (Nat.ne_of_gt hel)).trans hT
    have new : ObjOk X.prog X.w (upd H s.heap.objs.size (.tup [.int (i : Nat), x])) h'' s.heap.objs.size (.tup [.int (i : Nat), x]) :=
      ⟨by show 2 ≤ sizeLine; decide, [.int i tk, x'], .cons ⟨_, rfl⟩ (.cons ru .nil), ⟨_, hT2, rfl, _, rfl⟩⟩
    have I1 : Inv X pins σ (upd H s.heap.objs.size (.tup [.int (i : Nat), x])) { s with heap := h'', toks := tk + 1 } :=
      I.turnedNew (ch := [e, it]) (fun b ob hb q => (sb.2 b (fun z => hb (by simp [z]))).trans (hk b ob (fun z => hb (by simp [z])) (fun z => hb (by simp [z])) q)) hf (Nat.le_refl _) new
    refine ⟨.ref s.heap.objs.size, _, I1, rfl, ⟨_, x, rfl, I.hok.fresh (Nat.le_refl _), rfl, fun ys hy => by rw [I.tuple_inj hy hq]; exact hx⟩, ⟨⟨x', ?_⟩, hst'.1.at fun o q => (sb.2 it (Ne.symm hne)).trans q, hne⟩, fun b hb => ?_⟩
    · have e1 : ((i + 1 : Nat) : Int) = (i : Int) + 1 := by omega
      rw [e1]; exact he'
    · have hb' : b < s.heap.objs.size := by
        have e' : b = e ∨ b = it := by simpa using hb
        rcases e' with z | z
        · rw [z]; exact hel
        · rw [z]; exact hil
      rw [upd_ne (Nat.ne_of_lt hb')]
      exact (hf b hb).1
  done := by
    intro X hP hw hK hc i pins s σ H E I hf st hg
    subst hP hw hK
    obtain ⟨⟨old, he⟩, hit, hne⟩ := st
    obtain ⟨xs, hq, hx⟩ := hg
    obtain ⟨its, rv, p, hz⟩ := I.tuple hq
    obtain ⟨f0, f1, f2, f3, f4, f5⟩ := hf it (by simp)
    have hl := rv.length
    exact Dl.enumT_end (I.ok.hd hc) he hit (show s.heap.IsTuple a its.toArray from p) (by simp; omega) fun h' eb => ⟨rfl, I.turned (t' := s.toks) (fun b o hb q => eb b o hb q) f0 f1 f3 f4 f5⟩
  self := fun A i s Q E st h => let ⟨⟨_, he⟩, _⟩ := st; wpAny_pyIter_enum he h
def iEnumT (K : PySem.W.Frag) (ta : TA) : TI := fun σ H R => ta σ H fun vs H1 => ∃ a xs, vs = [.ref a] ∧ SqT K H1 a xs ∧ R (ItenT K a) H1
theorem pi_enumT {X : Cx} {e : Expr} {ta : TA} {p pos tpos : Pos} {elts : List Expr} {kk : Nat} (hg : Gl X "enumerate") (hm : X.mg "enumerate" = none) (ha : PA X [e] ta) (hs : starEach [e] X.env = [(false, eval e X.env)] := by rfl) :
    PI X (.Tuple elts kk tpos) (.Call (.Name "enumerate" p) [e] [] pos) (iEnumT X.K ta) := by
  refine ⟨fun pins s σ H R I h => ?_⟩
  refine Call_ (ld_blt I hg hm boot_enumerate (PyProof.Rows.callWith_type1 (thn (ha.run pos pins s σ H _ I h) fun us s1 ⟨vs, H1, I1, r1, q1⟩ => ?_) hs rfl))
  obtain ⟨a, xs, ex, hq, q⟩ := q1
  subst ex
  cases r1 with
  | cons r rr =>
    cases rr
    cases r
    obtain ⟨its, rv, p', hz⟩ := I1.tuple hq
    refine Dl.call_enumT (show s1.heap.IsTuple a its.toArray from p') fun h' he hit hsz hk => wpAny_pyIter_enum he ?_
    have I2 : Inv X pins σ H1 { s1 with heap := h' } := I1.kept (t' := s1.toks) hk
    refine ⟨s1.heap.objs.size + 1, [s1.heap.objs.size + 1, s1.heap.objs.size], _, _, H1, rfl, I2, turn_enumT a (s1.heap.objs.size + 1) s1.heap.objs.size, ⟨⟨.none, he⟩, hit, Nat.succ_ne_self _⟩, fun b hb => ?_, q⟩
    have e' : b = s1.heap.objs.size + 1 ∨ b = s1.heap.objs.size := by simpa using hb
    have hle : s1.heap.objs.size ≤ b := by
      rcases e' with z | z
      · rw [z]; exact Nat.le_add_right _ _
      · rw [z]; exact Nat.le_refl _
    exact I1.fpOk hle (I1.hok.fresh hle)
end L2
namespace Dl
open PySem PySem.Spec L2
def enumD (ds : List PyData) : List PyData := ds.zipIdx.map fun p => .tuple [.int (p.2 : Nat), p.1]
theorem enumD_length (ds : List PyData) : (enumD ds).length = ds.length := by unfold enumD; rw [List.length_map, List.length_zipIdx]
theorem enumD_get {ds : List PyData} {i : Nat} {d : PyData} (h : ds[i]? = some d) : (enumD ds)[i]? = some (.tuple [.int (i : Nat), d]) := by
  unfold enumD
  rw [List.getElem?_map, List.getElem?_zipIdx, h]
  simp
section
variable {K : PySem.W.Frag} {H1 : Hp} {τ1 : Store}
theorem walks_enumT {a : Addr} {vs : List V} {ds : List PyData} (n : NdT (dom τ1) H1 a vs) (l : DnL K (dom τ1) H1 vs ds) : Walks K (ItenT K a) H1 τ1 AnyS (enumD ds) where
  go := fun i H τ hi t o _ => by
    rw [enumD_length] at hi
    have hi' : i < vs.length := by rw [l.length]; exact hi
    exact ⟨vs, vs[i], (n.tr t).sq, List.getElem?_eq_getElem hi'⟩
  yld := fun i H τ x H' hi t o _ y => by
    obtain ⟨T, z, rfl, hT, rfl, y1⟩ := y
    obtain ⟨d, h1, h2⟩ := (l.tr t).get (y1 vs (n.tr t).sq)
    exact ⟨_, enumD_get h1, Tr.new hT, o.new hT, Dn.tup ⟨o.fresh hT, upd_same⟩ (.cons (Dn.int _) (.cons (h2.tr (Tr.new hT)) .nil))⟩
  stop := fun i H τ hi t o _ => by
    rw [enumD_length] at hi
    exact ⟨vs, (n.tr t).sq, by rw [l.length]; exact hi⟩
end
theorem di_enumT {X : Cx} {ρ : En} {τ : Store} {pos p1 tpos : Pos} {a : Expr} {elts : List Expr} {kk : Nat} {Q : List PyData → (Store → Prop) → Store → Prop} (B : Bl X.mg) (hg : Gl X "enumerate") (h : De X ρ τ a fun x τ1 => ∃ ds, x = .val (.tuple ds) ∧ Q (enumD ds) AnyS τ1)
    (hs : starEach [a] X.env = [(false, eval a X.env)] := by rfl) : Di X (.Tuple elts kk tpos) ρ τ (.Call (.Name "enumerate" p1) [a] [] pos) Q := .mk fun σ H o l R p =>
  wi_of (pi_enumT hg B.h_enumerate (pa_cons pe_we pa_nil hs) hs) (h σ H o l _ fun v H1 x τ1 ⟨ds, ex, q⟩ o1 r1 t1 => by
    subst ex
    cases r1 with
    | @tup a vs _ n1 l1 => exact ⟨a, vs, rfl, n1.sq, p _ H1 (enumD ds) AnyS τ1 q o1 t1 (walks_enumT n1 l1)⟩)
end Dl

/-! sum of a tuple of ints -/
namespace Dl
open PySem PySem.Spec L2 PyProof.Rows
section
variable {prog : Program} {w : World} {A : Around} {E : Value → Shared → Prop} {s : Shared} {l : Addr} {its : List Value} {ns : List Int} {Q : Value → Shared → Prop}
theorem sum_tupRaw (hh : A.handled = none) (hl : s.heap.IsTuple l its.toArray) (hi : IntsAre its ns)
    (h : ∀ h' tk t', (∀ b o, s.heap.get? b = some o → h'.get? b = some o) → Q (.int ns.sum t') { s with heap := h', toks := tk }) : wpAny (model prog w) A (call (.builtin "sum") [.ref l]) Q E s := by
  obtain ⟨xs, e⟩ := hi.allInts.items
  have hn : numsOf (intItems xs).toList = ns := by rw [← e]; exact hi.numsOf
  rw [nums_intItems] at hn
  rw [e] at hl
  have hlt : l < s.heap.objs.size := by obtain ⟨_, e1, _⟩ := hl; exact Heap.lt_size e1
  refine call_sum_walkG (wpAny_pyIter_tuple hl ?_)
  refine ⟨_, _, _, _, _, _, numAt xs, rfl, Walks.tuple (A := A.in1) hh _ l (Nat.ne_of_lt hlt) (intItems xs), ⟨⟨_, Heap.get?_push_size _ rfl, rfl, rfl⟩, hl.push _⟩, fun b hb => ?_, (fun _ _ => intItems_at), fun h' tk t' hk => ?_⟩
  · show b < (s.heap.push _).objs.size
    rw [Heap.size_push]
    simp only [List.mem_cons, List.not_mem_nil, or_false] at hb
    rcases hb with rfl | rfl
    · exact Nat.lt_succ_self _
    · exact Nat.lt_succ_of_lt hlt
  · have q := h h' tk t' fun b o eb => hk b o (fun hm => by
      rw [List.mem_singleton] at hm
      exact absurd (hm ▸ Heap.lt_size eb) (Nat.lt_irrefl _)) (Heap.get?_push_of_some _ eb)
    rw [preSum_eq, List.take_of_length_le (by simp [intItems]), hn]
    exact q
end
section
variable {X : Cx}
theorem cr_sumT (hc : X.calm = true) : CallR X (.builtin "sum") (fun vs H Q => ∃ (a : Addr) (ns : List Int), vs = [V.ref a] ∧ SqT X.K H a (ns.map V.int) ∧ Q (.int ns.sum) H) := by
  intro pins s σ H vs us Q I r h
  obtain ⟨a, ns, rfl, hs, q⟩ := h
  obtain ⟨its, rv, hl, _⟩ := I.tuple hs
  rw [Vals.ref1 r]
  exact sum_tupRaw (I.ok.hd hc) (show s.heap.IsTuple a its.toArray from hl) rv.ints fun h' tk t' hk => ⟨.int _, H, I.kept hk, ⟨_, rfl⟩, q⟩
end
section
variable {X : Cx} {ρ : En} {τ : Store} {Q : MV → Store → Prop} {pos p1 : Pos} {a : Expr}
theorem de_sumT (B : Bl X.mg) (hc : X.calm = true) (hg : Gl X "sum") (h : De X ρ τ a fun x τ1 => ∃ ns : List Int, x = .val (.tuple (ns.map .int)) ∧ Q (.val (.int ns.sum)) τ1)
    (hs : starEach [a] X.env = (false, eval a X.env) :: starEach [] X.env := by rfl) : De X ρ τ (.Call (.Name "sum" p1) [a] [] pos) Q :=
  de_callB (cr_sumT hc) hg B.h_sum (by decide +kernel) (da_one (h.mono fun x τ1 ⟨ns, ex, q⟩ => .mk fun H vs o r QQ p => by
    subst ex
    obtain ⟨v, rfl, r1⟩ := paired1 r
    obtain ⟨t, rfl, _, ht⟩ := kOf_tup (show Dn _ _ _ v (.tuple (ns.map .int)) from r1)
    exact ⟨t, ns, rfl, SqT.of ht, p _ H _ τ1 q o (Dn.int _) Tr.refl⟩) hs) hs rfl
end
theorem reads_ints {h : Heap} : ∀ {vs : List Value} {ns : List Int}, IntsAre vs ns → ReadsAll h vs (ns.map .int) []
  | _, _, .nil => .nil
  | _, _, .cons n t r => .cons (.int n t) (reads_ints r)
theorem depth_ints : ∀ ns : List Int, PyData.depthAll (ns.map .int) = 0
  | [] => rfl
  | n :: ns => by
    rw [List.map_cons, PyData.depthAll, depth_ints ns]
    rfl
theorem alike_ints (ns : List Int) : PySem.W.AlikeAll (ns.map .int) := ⟨fun x hx y hy => by
  obtain ⟨i, _, rfl⟩ := List.mem_map.mp hx
  obtain ⟨j, _, rfl⟩ := List.mem_map.mp hy
  rfl, fun x hx => by
  obtain ⟨i, _, rfl⟩ := List.mem_map.mp hx
  exact fun z => by cases z⟩
theorem foldl_min : ∀ (ns : List Int) (n : Int), IsMin (n :: ns) (ns.foldl min n)
  | [], n => ⟨List.mem_cons_self, fun y hy => by rw [List.mem_singleton.mp hy]; exact Int.le_refl _⟩
  | m :: ns, n => by
    obtain ⟨h1, h2⟩ := foldl_min ns (min n m)
    refine ⟨?_, fun y hy => ?_⟩
    · rcases List.mem_cons.mp h1 with e | e
      · rw [List.foldl_cons, e]
        by_cases h : n ≤ m
        · rw [Int.min_eq_left h]; exact List.mem_cons_self
        · rw [Int.min_eq_right (by omega)]; exact List.mem_cons_of_mem _ List.mem_cons_self
      · exact List.mem_cons_of_mem _ (List.mem_cons_of_mem _ e)
    · have h0 := h2 (min n m) List.mem_cons_self
      rcases List.mem_cons.mp hy with e | hy
      · rw [List.foldl_cons, e]; omega
      · rcases List.mem_cons.mp hy with e | hy
        · rw [List.foldl_cons, e]; omega
        · exact h2 y (List.mem_cons_of_mem _ hy)
section
variable {X : Cx}
theorem cr_minT (hc : X.calm = true) (hu : X.A.units + 1 < cLine) : CallR X (.builtin "min") (fun vs H Q => ∃ (a : Addr) (n : Int) (ns : List Int), vs = [V.ref a] ∧ SqT X.K H a ((n :: ns).map V.int) ∧ ∀ m, IsMin (n :: ns) m → Q (.int m) H) := by
  intro pins s σ H vs us Q I r h
  obtain ⟨a, n, ns, rfl, hs, q⟩ := h
  obtain ⟨its, rv, hl, _⟩ := I.tuple hs
  rw [Vals.ref1 r]
  refine PySem.W.min_tuple_data (x := .int n) (xs := ns.map .int) (I.ok.hd hc) (show s.heap.IsTuple a its.toArray from hl) (reads_ints (h := s.heap) (vs := its) rv.ints) (alike_ints (n :: ns)) (by rw [show PyData.depthAll (PyData.int n :: ns.map .int) = 0 from depth_ints (n :: ns)]; exact hu) fun i v h' tk bs _ hr hk => ?_
  rw [PySem.W.minD_ints] at hr
  cases hr
  exact ⟨.int _, H, I.kept hk, ⟨_, rfl⟩, q _ (foldl_min ns n)⟩
end
section
variable {X : Cx} {ρ : En} {τ : Store} {Q : MV → Store → Prop} {pos p1 : Pos} {a : Expr}
theorem de_minT (B : Bl X.mg) (hc : X.calm = true) (hu : X.A.units + 65 < cLine) (hg : Gl X "min") (h : De X ρ τ a fun x τ1 => ∃ ns : List Int, ns ≠ [] ∧ x = .val (.tuple (ns.map .int)) ∧ ∀ m, IsMin ns m → Q (.val (.int m)) τ1)
    (hs : starEach [a] X.env = (false, eval a X.env) :: starEach [] X.env := by rfl) : De X ρ τ (.Call (.Name "min" p1) [a] [] pos) Q :=
  de_callB (cr_minT hc (by omega)) hg B.h_min (by decide +kernel) (da_one (h.mono fun x τ1 ⟨ns, hne, ex, q⟩ => .mk fun H vs o r QQ p => by
    subst ex
    cases ns with
    | nil => exact absurd rfl hne
    | cons n ns =>
      obtain ⟨v, rfl, r1⟩ := paired1 r
      obtain ⟨t, rfl, _, ht⟩ := kOf_tup (show Dn _ _ _ v (.tuple ((n :: ns).map .int)) from r1)
      exact ⟨t, n, ns, rfl, SqT.of ht, fun m hm => p _ H _ τ1 (q m hm) o (Dn.int _) Tr.refl⟩) hs) hs rfl
end
end Dl

/-! max of a tuple of ints; min, max of a list of data; <, > of data -/
namespace Dl
open PySem PySem.Spec L2 PyProof.Rows
theorem foldl_max : ∀ (ns : List Int) (n : Int), IsMax (n :: ns) (ns.foldl max n)
  | [], n => ⟨List.mem_cons_self, fun y hy => by rw [List.mem_singleton.mp hy]; exact Int.le_refl _⟩
  | m :: ns, n => by
    obtain ⟨h1, h2⟩ := foldl_max ns (max n m)
    refine ⟨?_, fun y hy => ?_⟩
    · rcases List.mem_cons.mp h1 with e | e
      · rw [List.foldl_cons, e]
        by_cases h : m ≤ n
        · rw [Int.max_eq_left h]; exact List.mem_cons_self
        · rw [Int.max_eq_right (by omega)]; exact List.mem_cons_of_mem _ List.mem_cons_self
      · exact List.mem_cons_of_mem _ (List.mem_cons_of_mem _ e)
    · have h0 := h2 (max n m) List.mem_cons_self
      rcases List.mem_cons.mp hy with e | hy
      · rw [List.foldl_cons, e]; omega
      · rcases List.mem_cons.mp hy with e | hy
        · rw [List.foldl_cons, e]; omega
        · exact h2 y (List.mem_cons_of_mem _ hy)
section
variable {X : Cx}
theorem cr_maxT (hc : X.calm = true) (hu : X.A.units + 1 < cLine) : CallR X (.builtin "max") (fun vs H Q => ∃ (a : Addr) (n : Int) (ns : List Int), vs = [V.ref a] ∧ SqT X.K H a ((n :: ns).map V.int) ∧ ∀ m, IsMax (n :: ns) m → Q (.int m) H) := by
  intro pins s σ H vs us Q I r h
  obtain ⟨a, n, ns, rfl, hs, q⟩ := h
  obtain ⟨its, rv, hl, _⟩ := I.tuple hs
  rw [Vals.ref1 r]
  refine PySem.W.max_tuple_data (x := .int n) (xs := ns.map .int) (I.ok.hd hc) (show s.heap.IsTuple a its.toArray from hl) (reads_ints (h := s.heap) (vs := its) rv.ints) (alike_ints (n :: ns)) (by rw [show PyData.depthAll (PyData.int n :: ns.map .int) = 0 from depth_ints (n :: ns)]; exact hu) fun i v h' tk bs _ hr hk => ?_
  rw [PySem.W.maxD_ints] at hr
  cases hr
  exact ⟨.int _, H, I.kept hk, ⟨_, rfl⟩, q _ (foldl_max ns n)⟩
theorem vals_get {xs : List V} {its : List Value} (h : Vals xs its) : ∀ {i : Nat} {v : Value}, its[i]? = some v → ∃ x, xs[i]? = some x ∧ RelV x v := by
  induction h with
  | nil => intro i v e; simp at e
  | cons a b ih =>
    intro i v e
    cases i with
    | zero =>
      simp at e
      subst e
      exact ⟨_, rfl, a⟩
    | succ i =>
      obtain ⟨x, h1, h2⟩ := ih (by simpa using e)
      exact ⟨x, by simpa using h1, h2⟩
/-- of a list of data -/
def rBestD (K : PySem.W.Frag) (best : PyData → List PyData → PyData) : List V → Hp → VK → Prop := fun vs H Q => ∃ (a : Addr) (xs : List V) (d : PyData) (ds : List PyData), vs = [V.ref a] ∧ SqL K H a xs ∧ DpAll K H xs (d :: ds) ∧ PySem.W.AlikeAll (d :: ds) ∧ (∀ x ∈ d :: ds, x.canLay0 = true) ∧ PyData.depthAll (d :: ds) ≤ 60 ∧
  ∀ (i : Nat) (v : V) (e : PyData), xs[i]? = some v → (d :: ds)[i]? = some e → e = best d ds → Q v H
theorem dpAll_get {K : PySem.W.Frag} {H : Hp} : ∀ {vs : List V} {ds : List PyData} {i : Nat} {v : V}, DpAll K H vs ds → vs[i]? = some v → ∃ d, ds[i]? = some d ∧ Dp K H v d
  | _, _, _, _, .nil, e => by simp at e
  | _, _, 0, _, .cons a _, e => by
    simp at e
    subst e
    exact ⟨_, rfl, a⟩
  | _, _, i + 1, v, .cons _ b, e => by
    obtain ⟨d, h1, h2⟩ := dpAll_get (i := i) (v := v) b (by simpa using e)
    exact ⟨d, by simpa using h1, h2⟩
theorem cr_minD (hc : X.calm = true) (hu : X.A.units + 65 < cLine) : CallR X (.builtin "min") (rBestD X.K PySem.W.minD) := by
  intro pins s σ H vs us Q I r h
  obtain ⟨a, xs, d, ds, rfl, hs, hd, hal, hlay, hdep, q⟩ := h
  obtain ⟨its, rv, hl, _⟩ := I.list hs
  rw [Vals.ref1 r]
  obtain ⟨as, hr⟩ := Dp.readsAll I (d :: ds) xs its hd rv
  refine PySem.W.min_list_data (x := d) (xs := ds) (vs := its.toArray) (I.ok.hd hc) hl.isList hr hal (by omega) fun i v h' tk bs hv hrd hk => ?_
  have hv : its[i]? = some v := by simpa using hv
  obtain ⟨x, hx, hrel⟩ := vals_get rv hv
  obtain ⟨e, he, hdp⟩ := dpAll_get hd hx
  obtain ⟨as', hr'⟩ := Dp.reads I e x v hdp hrel
  have hu := (Reads.unique (PySem.W.reads_keeps hk hr') _ _ hrd).1
  exact ⟨x, H, I.kept hk, hrel, q i x e hx he hu⟩
theorem cr_maxD (hc : X.calm = true) (hu : X.A.units + 65 < cLine) : CallR X (.builtin "max") (rBestD X.K PySem.W.maxD) := by
  intro pins s σ H vs us Q I r h
  obtain ⟨a, xs, d, ds, rfl, hs, hd, hal, hlay, hdep, q⟩ := h
  obtain ⟨its, rv, hl, _⟩ := I.list hs
  rw [Vals.ref1 r]
  obtain ⟨as, hr⟩ := Dp.readsAll I (d :: ds) xs its hd rv
  refine PySem.W.max_list_data (x := d) (xs := ds) (vs := its.toArray) (I.ok.hd hc) hl.isList hr hal (by omega) fun i v h' tk bs hv hrd hk => ?_
  have hv : its[i]? = some v := by simpa using hv
  obtain ⟨x, hx, hrel⟩ := vals_get rv hv
  obtain ⟨e, he, hdp⟩ := dpAll_get hd hx
  obtain ⟨as', hr'⟩ := Dp.reads I e x v hdp hrel
  have hu := (Reads.unique (PySem.W.reads_keeps hk hr') _ _ hrd).1
  exact ⟨x, H, I.kept hk, hrel, q i x e hx he hu⟩
def rCmpD (K : PySem.W.Frag) (g : PyData → PyData → Bool) : R2 := fun x y H Q => ∃ d e, Dp K H x d ∧ Dp K H y e ∧ PySem.W.alike d e = true ∧ d ≠ .none ∧ d.depth ≤ 60 ∧ Q (.bl (g d e)) H
theorem op_ltD (hu : X.A.units + 64 < cLine) : OpR X (compareOp .Lt) (rCmpD X.K fun d e => PySem.W.dataLt d e) := by
  intro pins s σ H x y v u Q I rx ry h
  obtain ⟨d, e, hx, hy, ha, hn, hd, q⟩ := h
  obtain ⟨as, r1⟩ := Dp.reads I d x v hx rx
  obtain ⟨bs, r2⟩ := Dp.reads I e y u hy ry
  exact PySem.W.lt_data r1 r2 ha hn (by omega) ⟨.bl _, H, I, rfl, q⟩
theorem op_gtD (hu : X.A.units + 64 < cLine) : OpR X (compareOp .Gt) (rCmpD X.K fun d e => PySem.W.dataLt e d) := by
  intro pins s σ H x y v u Q I rx ry h
  obtain ⟨d, e, hx, hy, ha, hn, hd, q⟩ := h
  obtain ⟨as, r1⟩ := Dp.reads I d x v hx rx
  obtain ⟨bs, r2⟩ := Dp.reads I e y u hy ry
  exact PySem.W.gt_data r1 r2 ha hn (by omega) ⟨.bl _, H, I, rfl, q⟩
end
section
variable {X : Cx} {ρ : En} {τ : Store} {Q : MV → Store → Prop} {pos p1 : Pos} {a b : Expr}
theorem de_maxT (B : Bl X.mg) (hc : X.calm = true) (hu : X.A.units + 65 < cLine) (hg : Gl X "max") (h : De X ρ τ a fun x τ1 => ∃ ns : List Int, ns ≠ [] ∧ x = .val (.tuple (ns.map .int)) ∧ ∀ m, IsMax ns m → Q (.val (.int m)) τ1)
    (hs : starEach [a] X.env = (false, eval a X.env) :: starEach [] X.env := by rfl) : De X ρ τ (.Call (.Name "max" p1) [a] [] pos) Q :=
  de_callB (cr_maxT hc (by omega)) hg B.h_max (by decide +kernel) (da_one (h.mono fun x τ1 ⟨ns, hne, ex, q⟩ => .mk fun H vs o r QQ p => by
    subst ex
    cases ns with
    | nil => exact absurd rfl hne
    | cons n ns =>
      obtain ⟨v, rfl, r1⟩ := paired1 r
      obtain ⟨t, rfl, _, ht⟩ := kOf_tup (show Dn _ _ _ v (.tuple ((n :: ns).map .int)) from r1)
      exact ⟨t, n, ns, rfl, SqT.of ht, fun m hm => p _ H _ τ1 (q m hm) o (Dn.int _) Tr.refl⟩) hs) hs rfl
theorem depthAll_pl {n : Nat} {ds : List PyData} (h : ∀ x ∈ ds, Pl n x) : PyData.depthAll ds ≤ n + 1 := depthAll_of fun x hx => (h x hx).dep
theorem de_minD {n : Nat} (B : Bl X.mg) (hc : X.calm = true) (hu : X.A.units + 65 < cLine) (hg : Gl X "min") (h : De X ρ τ a fun x τ1 => ∃ d ds, datOf τ1 x = some (.list (d :: ds)) ∧ PySem.W.AlikeAll (d :: ds) ∧ (∀ x ∈ d :: ds, Pl n x) ∧ Q (.val (PySem.W.minD d ds)) τ1) (hn : n ≤ 50 := by decide)
    (hs : starEach [a] X.env = (false, eval a X.env) :: starEach [] X.env := by rfl) : De X ρ τ (.Call (.Name "min" p1) [a] [] pos) Q :=
  de_callB (cr_minD hc hu) hg B.h_min (by decide +kernel) (da_one (h.mono fun x τ1 ⟨d, ds, ex, hal, hpl, q⟩ => .mk fun H vs o r QQ p => by
    obtain ⟨v, rfl, r1⟩ := paired1 r
    obtain ⟨t, ws, rfl, h1, l1⟩ := r1.seqL o ex
    refine ⟨t, ws, d, ds, rfl, h1, l1.dp, hal, fun x hx => (hpl x hx).lay, Nat.le_trans (depthAll_pl hpl) (by omega), fun i v e hv he ee => ?_⟩
    obtain ⟨e', h2, h3⟩ := l1.get hv
    rw [he] at h2
    cases h2
    subst ee
    exact p _ H _ τ1 q o h3 Tr.refl) hs) hs rfl
/-- two data compared -/
abbrev DatD (n : Nat) (g : PyData → PyData → Bool) (x y : MV) (τ : Store) (Q : MV → Store → Prop) : Prop := ∃ d e, datOf τ x = some d ∧ datOf τ y = some e ∧ PySem.W.alike d e = true ∧ d ≠ .none ∧ Pl n d ∧ n ≤ 50 ∧ Q (.val (.bool (g d e))) τ
theorem opd_dat {K : PySem.W.Frag} {n : Nat} {g : PyData → PyData → Bool} {x y : MV} (h : DatD n g x y τ Q) : OpD K (rCmpD K g) x y τ Q := .mk fun H v u o r1 r2 QQ p => by
  obtain ⟨d, e, hx, hy, ha, hn, hp, h50, q⟩ := h
  exact ⟨d, e, r1.dp o hx, r2.dp o hy, ha, hn, Nat.le_trans hp.dep (by omega), p _ H _ τ q o (Dn.bl _) Tr.refl⟩
theorem de_ltD (n : Nat) (hu : X.A.units + 64 < cLine) (h : De X ρ τ a fun x τ1 => De X ρ τ1 b fun y τ2 => DatD n (fun d e => PySem.W.dataLt d e) x y τ2 Q) : De X ρ τ (.Compare a [.Lt] [b] pos) Q := de_cmp (op_ltD hu) (h.mono fun x τ1 h1 => h1.mono fun y τ2 h2 => opd_dat h2) (nomark b)
theorem de_gtD (n : Nat) (hu : X.A.units + 64 < cLine) (h : De X ρ τ a fun x τ1 => De X ρ τ1 b fun y τ2 => DatD n (fun d e => PySem.W.dataLt e d) x y τ2 Q) : De X ρ τ (.Compare a [.Gt] [b] pos) Q := de_cmp (op_gtD hu) (h.mono fun x τ1 h1 => h1.mono fun y τ2 h2 => opd_dat h2) (nomark b)
theorem dt_ltD {Q : Bool → Store → Prop} (n : Nat) (hu : X.A.units + 64 < cLine) (h : De X ρ τ a fun x τ1 => De X ρ τ1 b fun y τ2 => DatD n (fun d e => PySem.W.dataLt d e) x y τ2 (BoolQ Q)) : Dt X ρ τ (.Compare a [.Lt] [b] pos) Q := dt_cmp (op_ltD hu) (h.mono fun x τ1 h1 => h1.mono fun y τ2 h2 => opd_dat h2) (nomark b)
theorem dt_gtD {Q : Bool → Store → Prop} (n : Nat) (hu : X.A.units + 64 < cLine) (h : De X ρ τ a fun x τ1 => De X ρ τ1 b fun y τ2 => DatD n (fun d e => PySem.W.dataLt e d) x y τ2 (BoolQ Q)) : Dt X ρ τ (.Compare a [.Gt] [b] pos) Q := dt_cmp (op_gtD hu) (h.mono fun x τ1 h1 => h1.mono fun y τ2 h2 => opd_dat h2) (nomark b)
end
end Dl

/-! a, b = x, y with names that are cells; a, b, c = a list -/
namespace Dl
open PySem PySem.Spec L2
theorem SlOk.setAllM {K : PySem.W.Frag} {N : List Addr} {H : Hp} : ∀ {js : List Nat} {vs : List V} {svs : List MV} {σ : L2.St} {ρ : En}, SlOk K N H σ ρ → RvL K N H vs svs → SlOk K N H (Dl.setAll σ js vs) (Dl.setAll ρ js svs)
  | [], _, _, _, _, h, _ => h
  | _ :: _, _, _, _, _, h, .nil => h
  | j :: js, _, _, σ, ρ, h, .cons a b => SlOk.setAllM (js := js) (h.set a j) b
section
variable {X : Cx} {ρ : En} {τ : Store} {D : DE} {pos p1 p2 : Pos} {a tg : Expr} {es : List Expr}
theorem ds_asgM {js : List Nat} {x1} (hg : PGx X tg (.tup js)) (h : Da X ρ τ es fun svs τ1 => svs.length = js.length ∧ svs.length ≤ 1000000 ∧ D.nx (setAll ρ js svs) τ1)
    (hs : swapsWithSole [tg] (.Tuple es x1 p1) pos.line X.env = pure false := by rfl) (hw : swappedStores [tg] (.Tuple es x1 p1) X.env = pure none := by rfl)
    (h1 : (assignEach [tg] X.env).map (·.2) = [assign tg X.env] := by rfl) : Ds X ρ τ (.Assign [tg] (.Tuple es x1 p1) pos) D := .mk fun σ H o l DD p =>
  ws_of (ps_asg (pe_tup pa_wa) hg hs hw h1) (h σ H o l _ fun vs H1 svs τ1 ⟨hl, hz, q⟩ o1 r1 t1 => ⟨small_sz (by rw [Paired.length r1]; exact hz), fun a ha => by
    have t2 : Tr (dom τ1) H1 (dom τ1) (upd H1 a (.tup vs)) := Tr.new ha
    exact ⟨a, vs, rfl, SqT.of upd_same, by rw [Paired.length r1]; exact hl, p.nx _ _ _ τ1 q (o1.new ha) (((l.tr t1).tr t2).setAllM (r1.tr t2)) (t1.trans t2)⟩⟩)
/-- a target that takes a list apart -/
def tgL (K : PySem.W.Frag) (js : List Nat) : TG := fun v σ H Q => ∃ a xs, v = .ref a ∧ SqL K H a xs ∧ xs.length = js.length ∧ Q (setAll σ js xs) H
theorem pgl_3 {i j k : Nat} {e1 e2 e3 : Expr} {kk : Nat} (hc : X.calm = true) (h1 : PG X e1 (gName i)) (h2 : PG X e2 (gName j)) (h3 : PG X e3 (gName k))
    (hs : (assignEach [e1, e2, e3] X.env).map (·.2) = assign e1 X.env :: (assignEach [e2, e3] X.env).map (·.2) := by rfl) (hs2 : (assignEach [e2, e3] X.env).map (·.2) = assign e2 X.env :: (assignEach [e3] X.env).map (·.2) := by rfl)
    (hs3 : (assignEach [e3] X.env).map (·.2) = assign e3 X.env :: (assignEach [] X.env).map (·.2) := by rfl)
    (hn : (assignEach [e1, e2, e3] X.env).length = 3 := by rfl) (hst : (assignEach [e1, e2, e3] X.env).findIdx? (·.1) = none := by rfl) : PG X (.Tuple [e1, e2, e3] kk pos) (tgL X.K [i, j, k]) :=
  PG.weak (pg_lst hc (pgs_cons h1 (pgs_cons h2 (pgs_cons h3 pgs_nil hs3) hs2) hs) hn hst) fun v σ H Q ⟨a, xs, e, h, hl, q⟩ => by
    match xs, hl with
    | [x, y, z], _ => exact ⟨a, [x, y, z], e, h, rfl, x, [y, z], rfl, y, [z], rfl, z, [], rfl, rfl, q⟩
theorem ds_asgL {js : List Nat} (hg : PG X tg (tgL X.K js)) (h : De X ρ τ a fun sv τ1 => ∃ ds, datOf τ1 sv = some (.list ds) ∧ ds.length = js.length ∧ D.nx (setAll ρ js (ds.map .val)) τ1)
    (hs : swapsWithSole [tg] a pos.line X.env = pure false := by rfl) (hw : swappedStores [tg] a X.env = pure none := by rfl)
    (h1 : (assignEach [tg] X.env).map (·.2) = [assign tg X.env] := by rfl) : Ds X ρ τ (.Assign [tg] a pos) D := .mk fun σ H o l DD p =>
  ws_of (ps_asg pe_we hg hs hw h1) (h σ H o l _ fun v H1 sv τ1 ⟨ds, ex, hl, q⟩ o1 r1 t1 => by
    obtain ⟨a, vs, rfl, h2, l1⟩ := r1.seqL o1 ex
    exact ⟨a, vs, rfl, h2, by rw [l1.length]; exact hl, p.nx _ H1 _ τ1 q o1 ((l.tr t1).setAll l1) t1⟩)
variable {Q : MV → Store → Prop}
/-- int(x): an int, a bool -/
theorem de_int1 (B : Bl X.mg) (hg : Gl X "int") (h : De X ρ τ a fun x τ1 => (∃ i, x = .val (.int i) ∧ Q (.val (.int i)) τ1) ∨ ∃ k, x = .val (.bool k) ∧ Q (.val (.int (if k then 1 else 0))) τ1)
    (hs : starEach [a] X.env = (false, eval a X.env) :: starEach [] X.env := by rfl) : De X ρ τ (.Call (.Name "int" p1) [a] [] pos) Q :=
  de_callTy call_int1 hg B.h_int (by decide +kernel) (da_one (h.mono fun x τ1 h1 => .mk fun H vs o r QQ p => by
    obtain ⟨v, rfl, r1⟩ := paired1 r
    rcases h1 with ⟨i, ex, q⟩ | ⟨k, ex, q⟩
    · subst ex
      cases r1
      exact .inl ⟨i, rfl, p _ H _ τ1 q o (Dn.int _) Tr.refl⟩
    · subst ex
      cases r1
      exact .inr ⟨k, rfl, p _ H _ τ1 q o (Dn.int _) Tr.refl⟩) hs) hs rfl
end
theorem lst_tup {K : PySem.W.Frag} {τ : Store} {Q : MV → Store → Prop} {ds : List PyData} (q : Q (.val (.list ds)) τ) : LstD K (.val (.tuple ds)) τ Q := .mk fun H vs o r QQ p => by
  obtain ⟨v, rfl, r1⟩ := paired1 r
  obtain ⟨a, ws, rfl, h1, l1⟩ := r1.seqT o (rfl : datOf τ (.val (.tuple ds)) = some (.tuple ds))
  exact ⟨a, ws, rfl, .inr h1.sq, p.lst o l1 q⟩
/-! sorted(set(t)), t a short tuple of ints -/
section
variable {X : Cx}
def rSetI (K : PySem.W.Frag) (w : World) : List V → Hp → VK → Prop := fun vs H Q => ∃ (a : Addr) (ns : List Int), vs = [V.ref a] ∧ SqT K H a (ns.map V.int) ∧ ns.length ≤ 60 ∧
  ∀ (p : Addr) (S : Int → Bool) (n : Nat), H p = none → (∀ k, S k = true ↔ k ∈ ns) → n ≤ ns.length → Q (.ref p) (upd H p (SetO w p S n))
theorem cr_setT (hc : X.calm = true) : CallR X (.type "set") (rSetI X.K X.w) := by
  intro pins s σ H vs us Q I r h
  obtain ⟨a, ns, rfl, hs, hl, q⟩ := h
  obtain ⟨its, rv, pt, _⟩ := I.tuple hs
  rw [Vals.ref1 r]
  refine call_set_tupI ns (I.ok.hd hc) (show s.heap.IsTuple a its.toArray from pt) rv.ints (by unfold scanBound; omega) fun h' tk c R hcn k => ?_
  have hf : H s.heap.objs.size = none := I.hok.fresh (Nat.le_refl _)
  exact ⟨.ref s.heap.objs.size, _, I.laid (t' := tk) (fun b u e => k b u e) (Nat.le_refl _) (setO_new R), rfl, q _ _ c hf (fun j => decide_eq_true_iff) hcn⟩
end
section
variable {X : Cx} {ρ : En} {τ : Store} {Q : MV → Store → Prop} {pos p1 p2 p3 : Pos} {a : Expr}
theorem de_sortedSetT (B : Bl X.mg) (hc : X.calm = true) (hg : Gl X "sorted") (hg2 : Gl X "set") (h : De X ρ τ a fun x τ1 => ∃ ns : List Int, x = .val (.tuple (ns.map .int)) ∧ ns.length ≤ 60 ∧ ∀ ms : List Int, ms.Pairwise (· < ·) → (∀ k, k ∈ ms ↔ k ∈ ns) → Q (.val (.list (ms.map .int))) τ1)
    (hs : starEach [a] X.env = (false, eval a X.env) :: starEach [] X.env := by rfl) (hs2 : starEach [.Call (.Name "set" p2) [a] [] p3] X.env = (false, eval (.Call (.Name "set" p2) [a] [] p3) X.env) :: starEach [] X.env := by rfl) :
    De X ρ τ (.Call (.Name "sorted" p1) [.Call (.Name "set" p2) [a] [] p3] [] pos) Q := .mk fun σ H o l QQ p => by
  refine we_of (pe_callB (cr_sortedSet hc) hg B.h_sorted (by decide +kernel) (pa_cons (pe_callTy (cr_setT hc) hg2 B.h_set (by decide +kernel) (pa_cons pe_we pa_nil hs) (by decide) (by decide) hs rfl) pa_nil hs2) (by decide) (by decide) hs2 rfl) ?_
  refine h σ H o l _ fun v H1 x τ1 ⟨ns, ex, hl, q⟩ o1 r1 t1 => ?_
  subst ex
  obtain ⟨t, rfl, _, ht⟩ := kOf_tup (show Dn _ _ _ v (.tuple (ns.map .int)) from r1)
  refine ⟨t, ns, rfl, SqT.of ht, hl, fun pa S n hpa hS hn => ?_⟩
  refine ⟨pa, S, n, rfl, upd_same, by omega, fun ms pb hms hmem hlen hpb => ?_⟩
  have t2 : Tr (dom τ1) H1 (dom τ1) (upd H1 pa (SetO X.w pa S n)) := Tr.new hpa
  have o2 := o1.new (o := SetO X.w pa S n) hpa
  exact ((p.step t1).step t2).lst o2 (DnL.of_ints (ns := ms)) (q ms hms fun k => (hmem k).trans (hS k)) pb hpb
end
end Dl

/-! sorted of a list of data -/
namespace Dl
open PySem PySem.Spec L2 PyProof.Rows
theorem dlt_irr (d : PyData) : PySem.W.dataLt d d = false := PyProof.Rows.lex_irrefl (O := PyProof.Rows.itemOrd) _
theorem dlt_tr {a b c : PyData} (h : PySem.W.dataLt a b = true) (h' : PySem.W.dataLt b c = true) : PySem.W.dataLt a c = true := PyProof.Rows.lex_trans (O := PyProof.Rows.itemOrd) _ _ _ h h'
theorem dlt_neg {a b c : PyData} (h : PySem.W.dataLt a b = false) (h' : PySem.W.dataLt b c = false) : PySem.W.dataLt a c = false := by
  cases e : PySem.W.dataLt a c with
  | false => rfl
  | true =>
    rcases PyProof.Rows.lex_negTrans (O := PyProof.Rows.itemOrd) (PySem.W.keyToks a) (PySem.W.keyToks b) (PySem.W.keyToks c) e with z | z
    · rw [show PySem.W.dataLt a b = true from z] at h; cases h
    · rw [show PySem.W.dataLt b c = true from z] at h'; cases h'
theorem dlt_asym {a b : PyData} (h : PySem.W.dataLt a b = true) : PySem.W.dataLt b a = false := by
  cases e : PySem.W.dataLt b a with
  | false => rfl
  | true =>
    have := dlt_tr h e
    rw [dlt_irr] at this
    cases this
theorem dsort_asc (ds : List PyData) : (ds.mergeSort (PySem.W.dataLe false id)).Pairwise fun a b => PySem.W.dataLt b a = false := by
  have h := List.pairwise_mergeSort (le := PySem.W.dataLe false (id : PyData → PyData)) (fun a b c h1 h2 => ?_) (fun a b => ?_) ds
  · refine h.imp fun {a b} h => ?_
    rw [PySem.W.dataLe_eq] at h
    simpa using h
  · rw [PySem.W.dataLe_eq] at h1 h2 ⊢
    have h1 : PySem.W.dataLt b a = false := by simpa using h1
    have h2 : PySem.W.dataLt c b = false := by simpa using h2
    simpa using dlt_neg h2 h1
  · rw [PySem.W.dataLe_eq]
    show (!PySem.W.dataLt b a || !PySem.W.dataLt a b) = true
    cases e : PySem.W.dataLt b a with
    | false => rfl
    | true => rw [dlt_asym e]; rfl
theorem each_rel : ∀ {xs : List V} {ds : List PyData} {its : List Value}, Vals xs its → xs.length = ds.length → PySem.W.EachIs (fun v (p : V × PyData) => RelV p.1 v) its (xs.zip ds)
  | [], [], _, .nil, _ => .nil
  | x :: xs, d :: ds, _, .cons a b, h => .cons a (each_rel b (by simpa using h))
  | x :: xs, [], _, _, h => by simp at h
theorem each_vals : ∀ {out : List Value} {ps : List (V × PyData)}, PySem.W.EachIs (fun v (p : V × PyData) => RelV p.1 v) out ps → Vals (ps.map (·.1)) out
  | _, _, .nil => .nil
  | _, _, .cons a b => .cons a (each_vals b)
section
variable {X : Cx} {pins : List (Addr × Obj)} {σ : L2.St} {H : Hp} {s : Shared}
theorem each_reads (I : Inv X pins σ H s) : ∀ {xs : List V} {ds : List PyData} {its : List Value}, DpAll X.K H xs ds → Vals xs its → PySem.W.EachIs (fun v (p : V × PyData) => ∃ as, Reads s.heap v p.2 as) its (xs.zip ds)
  | [], _, _, .nil, .nil => .nil
  | x :: xs, _, _, .cons h hs, .cons a b => .cons (Dp.reads I _ _ _ h a) (each_reads I hs b)
end
theorem dpAll_len {K : PySem.W.Frag} {H : Hp} : ∀ {vs : List V} {ds : List PyData}, DpAll K H vs ds → vs.length = ds.length
  | _, _, .nil => rfl
  | _, _, .cons _ b => by rw [List.length_cons, List.length_cons, dpAll_len b]
def rSortedD (K : PySem.W.Frag) : List V → Hp → VK → Prop := fun vs H Q => ∃ (a : Addr) (xs : List V) (ds : List PyData), vs = [V.ref a] ∧ SqL K H a xs ∧ DpAll K H xs ds ∧ PySem.W.AllAlike ds ∧ PySem.W.Sortable ds ∧ (∀ d ∈ ds, d.depth ≤ 60) ∧
  ∀ (ps : List (V × PyData)) (p : Addr), ps.Perm (xs.zip ds) → ps.map (·.2) = ds.mergeSort (PySem.W.dataLe false id) → H p = none → Q (.ref p) (upd H p (.lst (ps.map (·.1))))
section
variable {X : Cx}
theorem cr_sortedD (hu : X.A.units + 64 < cLine) : CallR X (.builtin "sorted") (rSortedD X.K) := by
  intro pins s σ H vs us Q I r h
  obtain ⟨a, xs, ds, rfl, hs, hd, hal, hso, hdep, q⟩ := h
  obtain ⟨its, rv, hl, hz⟩ := I.list hs
  rw [Vals.ref1 r]
  have hlen := dpAll_len hd
  have hzl : (xs.zip ds).length = xs.length := by rw [List.length_zip]; omega
  have hsnd : (xs.zip ds).map (·.2) = ds := List.map_snd_zip (by omega)
  refine PySem.W.sorted_data (enc := fun p : V × PyData => p.2) (bs := xs.zip ds) hl.isList (each_rel rv hlen) (each_reads I hd rv) (by rw [hsnd]; exact hal) (by rw [hsnd]; exact hso) (by rw [hzl]; exact hz) (fun b hb => ?_) fun out ho he => ?_
  · have := hdep _ (List.of_mem_zip hb).2
    omega
  · have hv := each_vals he
    obtain ⟨n, hn⟩ := sortedAll_at s.heap its (List.toArray out)
    have hnew : H (s.heap.objs.size + 1) = none := I.hok.fresh (Nat.le_succ _)
    refine ⟨.ref (s.heap.objs.size + 1), _, I.laid (t' := s.toks) (o := .lst (((xs.zip ds).mergeSort (PySem.W.dataLe false fun p : V × PyData => p.2)).map (·.1))) (fun b o e => sortedAll_old e) (Nat.le_succ _) ⟨?_, out, n, hv, hn⟩, rfl, q _ _ (List.mergeSort_perm _ _) ?_ hnew⟩
    · rw [List.length_map, List.length_mergeSort, hzl]
      exact hz
    · have hm := List.map_mergeSort (r := PySem.W.dataLe false fun p : V × PyData => p.2) (s := PySem.W.dataLe false (id : PyData → PyData)) (f := fun p : V × PyData => p.2) (l := xs.zip ds) (fun a _ b _ => rfl)
      rw [hm, hsnd]
end
section
variable {X : Cx} {ρ : En} {τ : Store} {Q : MV → Store → Prop} {pos p1 : Pos} {a : Expr}
theorem dnl_pairs {K : PySem.W.Frag} {N : List Addr} {H : Hp} : ∀ {ps : List (V × PyData)}, (∀ p ∈ ps, Dn K N H p.1 p.2) → DnL K N H (ps.map (·.1)) (ps.map (·.2))
  | [], _ => .nil
  | p :: ps, h => .cons (h p List.mem_cons_self) (dnl_pairs fun q hq => h q (List.mem_cons_of_mem _ hq))
theorem dnl_zip {K : PySem.W.Frag} {N : List Addr} {H : Hp} : ∀ {vs : List V} {ds : List PyData}, DnL K N H vs ds → ∀ p ∈ vs.zip ds, Dn K N H p.1 p.2
  | _, _, .nil => fun p hp => by cases hp
  | _, _, .cons a b => fun p hp => by
    rw [List.zip_cons_cons] at hp
    rcases List.mem_cons.mp hp with rfl | hp
    · exact a
    · exact dnl_zip b p hp
theorem de_sortedD {n : Nat} (B : Bl X.mg) (hu : X.A.units + 64 < cLine) (hg : Gl X "sorted") (h : De X ρ τ a fun x τ1 => ∃ ds : List PyData, datOf τ1 x = some (.list ds) ∧ PySem.W.AllAlike ds ∧ PySem.W.Sortable ds ∧ (∀ d ∈ ds, Pl n d) ∧
    ∀ es : List PyData, es.Perm ds → es.Pairwise (fun a b => PySem.W.dataLt b a = false) → Q (.val (.list es)) τ1) (hn : n ≤ 50 := by decide)
    (hs : starEach [a] X.env = (false, eval a X.env) :: starEach [] X.env := by rfl) : De X ρ τ (.Call (.Name "sorted" p1) [a] [] pos) Q :=
  de_callB (cr_sortedD hu) hg B.h_sorted (by decide +kernel) (da_one (h.mono fun x τ1 ⟨ds, e, hal, hso, hpl, q⟩ => .mk fun H vs o r QQ p => by
    obtain ⟨v, rfl, r1⟩ := paired1 r
    obtain ⟨l, xs, rfl, hq, dl⟩ := r1.seqL o e
    refine ⟨l, xs, ds, rfl, hq, dl.dp, hal, hso, fun d hd => Nat.le_trans (hpl d hd).dep (by omega), fun ps pa hperm hmap hnew => ?_⟩
    have hdn := dnl_pairs (ps := ps) fun p hp => dnl_zip dl p (hperm.mem_iff.mp hp)
    refine p.lst o hdn (q (ps.map (·.2)) ?_ ?_) pa hnew
    · rw [hmap]
      exact List.mergeSort_perm _ _
    · rw [hmap]
      exact dsort_asc ds) hs) hs rfl
end
end Dl

/-! sorted(set(l)), l a short list of ints -/
namespace Dl
open PySem PySem.Spec L2 PyProof.Rows
section
variable {P : Program} {w : World} {A : Around} {E : Value → Shared → Prop} {s : Shared}
/-- what set() makes first -/
abbrev bareSet (w : World) : Obj := { cls := .type "set", dict := none, data := .set #[] 0 (.fresh 0 0 (!w.params.followText "set-order")) }
theorem set_filled {p l : Addr} {us : Array Value} {ns : List Int} {Q : PySem.Fin → Shared → Prop} (hA : A.handled = none) (hp : s.heap.get? p = some (bareSet w)) (hl : s.heap.IsList l us) (hi : IntsAre us.toList ns)
    (hb : ns.length + 1 < scanBound) (hpl : p ≠ l) (q : ∀ (g : Heap) (tk c : Nat), SetR w g p (fun j => decide (j ∈ ns)) c → c ≤ ns.length → (∀ b o, b ≠ p → s.heap.get? b = some o → g.get? b = some o) → Q (.done (.ret .none)) { s with heap := g, toks := tk }) :
    wpAny (model P w) A (Builtin.«set.__init__» ⟨[.ref p, .ref l], []⟩) Q (fun e t => E e t) s := by
  have b1 := F.sub_list_set
  have b2 := F.sub_list_frozenset
  have b3 : (Value.type "list" == Value.type "dict") = false := by decide
  unfold Builtin.«set.__init__» noKeywords Builtin.Frozenset.updateFrom
  generalize hz : pyIter = it
  obtain ⟨x, hx, hc, n, hd⟩ := id hl
  obtain ⟨xc, xd, xo, xs⟩ := x
  dsimp only at hc hd
  subst hc hd
  wp_walk
  subst hz
  refine wpAny_pyIter_list hl (wpAny_bind (wpAny_runValue ?_))
  have pI := Heap.lt_size hp
  have lI := Heap.lt_size hx
  have hn : us.size = ns.length := by rw [← Array.length_toList]; exact IntsAre.length hi
  refine set_update_ints (Walks.list (show A.in1.handled = none by simp [hA]) s.heap.objs.size l (Nat.ne_of_lt lI) us).toS p ?_ ns hn hb ?_ us.size 0 _ rfl (Nat.zero_le _)
    ⟨⟨_, Heap.get?_push_size _ rfl, rfl, rfl⟩, hl.push _⟩ ⟨0, Nat.le_refl 0, setR_new_at (Heap.get?_push_of_some _ hp)⟩ ?_
  · intro z
    rcases List.mem_cons.mp z with z | z
    · exact absurd z (Nat.ne_of_lt pI)
    · exact hpl (List.mem_singleton.mp z)
  · intro i v e
    obtain ⟨t, et⟩ := IntsAre.int_at hi i v ((Array.getElem?_toList ..).trans e)
    have hil : i < ns.length := hn ▸ (Array.getElem?_eq_some_iff.mp e).1
    exact ⟨ns[i], t, List.getElem?_eq_getElem hil, by rw [et, List.getD_eq_getElem?_getD, List.getElem?_eq_getElem hil]; rfl⟩
  · rintro ⟨g, gg, dd, tk, oo⟩ c m hc R
    obtain ⟨m1, m2, m3, m4, _⟩ := m
    cases m2
    cases m3
    cases m4
    refine wpAny_pure (wpAny_pure (q g tk c R (hn ▸ hc) fun b o hbp e => ?_))
    refine m1 b o (fun z => ?_) (Heap.get?_push_of_some _ e)
    rcases List.mem_cons.mp z with z | z
    · exact hbp z
    · exact Nat.ne_of_lt (Heap.lt_size e) (List.mem_singleton.mp z)
theorem set_of_list {l : Addr} {us : Array Value} {ns : List Int} {Q : Value → Shared → Prop} (hA : A.handled = none) (hl : s.heap.IsList l us) (hi : IntsAre us.toList ns) (hb : ns.length + 1 < scanBound)
    (q : ∀ (g : Heap) (tk c : Nat), SetR w g s.heap.objs.size (fun j => decide (j ∈ ns)) c → c ≤ ns.length → (∀ b o, s.heap.get? b = some o → g.get? b = some o) → Q (.ref s.heap.objs.size) { s with heap := g, toks := tk }) :
    wpAny (model P w) A (call (.type "set") [.ref l]) Q E s := by
  obtain ⟨mc, ml, hmro⟩ := F.called_set.mro
  have c1 := F.called_set.made
  have c2 := F.called_set.sub
  have c3 := F.called_set.notType
  have c4 := F.called_set.canCreate
  have c5 := F.typeCall_set_1 (.ref l)
  have hp : (s.heap.push (bareSet w)).get? s.heap.objs.size = some (bareSet w) := Heap.get?_push_size _ rfl
  have hT : Shared.TypeIs { s with heap := s.heap.push (bareSet w) } (.ref s.heap.objs.size) "set" := ⟨_, hp, rfl⟩
  refine wpAny_call (codeAny_of_tree (?_ : wpAny _ _ (callAny (.type "set") _) _ _ _))
  refine wpAny_pure ⟨Code.quiet_builtin _ (by decide +kernel), codeAny_builtin F.entry_type_call ?_⟩
  rw [Around.under_plain (weight_type_call_type "set" [.ref l] []) rfl]
  repeat any_goals (first | assumption | wp_step)
  refine codeAny_mono (code_set_led1 (.ref l) (E := E) (Q₁ := fun v t => v = .ref s.heap.objs.size ∧ t = { s with heap := s.heap.push (bareSet w) }) ⟨rfl, rfl⟩) fun r t hr => ?_
  rcases r with e | f
  · exact hr
  cases f with
  | ret v =>
    obtain ⟨rfl, rfl⟩ := hr
    have c6 := F.called_set.init.lookup
    have c7 := F.called_set.init.bind (.ref s.heap.objs.size)
    repeat any_goals (first | assumption | wp_step)
    refine codeAny_call_builtin F.called_set.init.plain F.entry_set_init (check_set_init_1 hT ?_)
    have li := Heap.lt_size hl.choose_spec.1
    refine set_filled (by simp [hA]) hp (hl.push _) hi hb (fun z => Nat.ne_of_lt li z.symm) fun g tk c R hc k => ?_
    repeat any_goals (first | assumption | wp_step)
    exact q g tk c R hc fun b o e => k b o (Nat.ne_of_lt (Heap.lt_size e)) (Heap.get?_push_of_some _ e)
  | _ => exact hr.elim
end
section
variable {X : Cx}
def rSetL (K : PySem.W.Frag) (w : World) : List V → Hp → VK → Prop := fun vs H Q => ∃ (a : Addr) (ns : List Int), vs = [V.ref a] ∧ SqL K H a (ns.map V.int) ∧ ns.length ≤ 60 ∧
  ∀ (p : Addr) (S : Int → Bool) (n : Nat), H p = none → (∀ k, S k = true ↔ k ∈ ns) → n ≤ ns.length → Q (.ref p) (upd H p (SetO w p S n))
theorem cr_setL (hc : X.calm = true) : CallR X (.type "set") (rSetL X.K X.w) := by
  intro pins s σ H vs us Q I r h
  obtain ⟨a, ns, rfl, hs, hl, q⟩ := h
  obtain ⟨its, rv, ll, _⟩ := I.list hs
  rw [Vals.ref1 r]
  refine set_of_list (I.ok.hd hc) ll.isList rv.ints (by unfold scanBound; omega) fun g tk c R hcn k => ?_
  have hf : H s.heap.objs.size = none := I.hok.fresh (Nat.le_refl _)
  exact ⟨.ref s.heap.objs.size, _, I.laid (t' := tk) (fun b u e => k b u e) (Nat.le_refl _) (setO_new R), rfl, q _ _ c hf (fun j => decide_eq_true_iff) hcn⟩
end
section
variable {X : Cx} {ρ : En} {τ : Store} {Q : MV → Store → Prop} {pos p1 p2 p3 : Pos} {a : Expr}
theorem de_sortedSetL (B : Bl X.mg) (hc : X.calm = true) (hg : Gl X "sorted") (hg2 : Gl X "set") (h : De X ρ τ a fun x τ1 => ∃ ns : List Int, datOf τ1 x = some (.list (ns.map .int)) ∧ ns.length ≤ 60 ∧ ∀ ms : List Int, ms.Pairwise (· < ·) → (∀ k, k ∈ ms ↔ k ∈ ns) → Q (.val (.list (ms.map .int))) τ1)
    (hs : starEach [a] X.env = (false, eval a X.env) :: starEach [] X.env := by rfl) (hs2 : starEach [.Call (.Name "set" p2) [a] [] p3] X.env = (false, eval (.Call (.Name "set" p2) [a] [] p3) X.env) :: starEach [] X.env := by rfl) :
    De X ρ τ (.Call (.Name "sorted" p1) [.Call (.Name "set" p2) [a] [] p3] [] pos) Q := .mk fun σ H o l QQ p => by
  refine we_of (pe_callB (cr_sortedSet hc) hg B.h_sorted (by decide +kernel) (pa_cons (pe_callTy (cr_setL hc) hg2 B.h_set (by decide +kernel) (pa_cons pe_we pa_nil hs) (by decide) (by decide) hs rfl) pa_nil hs2) (by decide) (by decide) hs2 rfl) ?_
  refine h σ H o l _ fun v H1 x τ1 ⟨ns, ex, hl, q⟩ o1 r1 t1 => ?_
  obtain ⟨t, vs, rfl, ht, dl⟩ := r1.seqL o1 ex
  rw [dnl_ints dl] at ht
  refine ⟨t, ns, rfl, ht, hl, fun pa S n hpa hS hn => ?_⟩
  refine ⟨pa, S, n, rfl, upd_same, by omega, fun ms pb hms hmem hlen hpb => ?_⟩
  have t2 : Tr (dom τ1) H1 (dom τ1) (upd H1 pa (SetO X.w pa S n)) := Tr.new hpa
  have o2 := o1.new (o := SetO X.w pa S n) hpa
  exact ((p.step t1).step t2).lst o2 (DnL.of_ints (ns := ms)) (q ms hms fun k => (hmem k).trans (hS k)) pb hpb
end
end Dl

/-! list(range(a, b)) -/
namespace Dl
open PySem PySem.Spec L2
section
variable {X : Cx} {ρ : En} {τ : Store} {Q : MV → Store → Prop} {pos p1 p2 p3 : Pos} {a b : Expr}
theorem de_listRg2 (B : Bl X.mg) (hc : X.calm = true) (hg : Gl X "list") (hg2 : Gl X "range") (h : De X ρ τ a fun x τ1 => De X ρ τ1 b fun y τ2 => ∃ m n, x = .val (.int m) ∧ y = .val (.int n) ∧ (-1000000 ≤ m ∧ m ≤ 1000000) ∧ (-1000000 ≤ n ∧ n ≤ 1000000) ∧ Q (.val (.list (rangeD m (n - m).toNat))) τ2)
    (na : starEach [a, b] X.env = (false, eval a X.env) :: starEach [b] X.env := by rfl) (nb : starEach [b] X.env = (false, eval b X.env) :: starEach [] X.env := by rfl) (np : (backTo p3 (starEach [b] X.env)).any (·.1) = false := by rfl)
    (nc : starEach [.Call (.Name "range" p2) [a, b] [] p3] X.env = (false, eval (.Call (.Name "range" p2) [a, b] [] p3) X.env) :: starEach [] X.env := by rfl) :
    De X ρ τ (.Call (.Name "list" p1) [.Call (.Name "range" p2) [a, b] [] p3] [] pos) Q := .mk fun σ H o l QQ p =>
  we_of (pe_listRg hc hg B.h_list (prg_2 hg2 B.h_range pe_we pe_we na nb np) nc) (h σ H o l _ fun v H1 x τ1 h1 o1 r1 t1 => by
    refine h1 σ H1 o1 (l.tr t1) _ fun u H2 y τ2 ⟨m, n, ex, ey, hm, hn, q⟩ o2 r2 t2 => ?_
    subst ex ey
    cases r1
    cases r2
    refine ⟨m, n, rfl, rfl, ⟨by omega, by omega, by omega, by omega, by omega⟩, ?_⟩
    have e : rgV m n = ((List.range (n - m).toNat).map fun i => (m + (i : Nat) : Int)).map V.int := by
      unfold rgV
      rw [List.map_map]
      rfl
    have e2 : rangeD m (n - m).toNat = ((List.range (n - m).toNat).map fun i => (m + (i : Nat) : Int)).map .int := by
      unfold rangeD
      rw [List.map_map]
      rfl
    rw [e]
    rw [e2] at q
    exact (p.step (t1.trans t2)).lst o2 (dnl_intmap _) q)
end
end Dl

/-! an exception that was caught is kept as a value -/
namespace Dl
open PySem PySem.Spec L2
section
variable {X : Cx} {pins : List (Addr × Obj)} {σ : St} {H : Hp} {s : Shared} {a : Addr} {oe : Obj} {cls : Value}
theorem excO_ok {P : Program} {w : World} {H : Hp} {h : Heap} (e : h.get? a = some oe) (z : Zc cls none oe) (d : ∃ vs, oe.data = .fields vs) : ObjOk P w H h a (excO cls a) :=
  ⟨⟨oe, e, z, d⟩, ⟨oe, e⟩, fun _ _ ⟨o, q, r⟩ k => ⟨o, k o q, r⟩⟩
/-- what is not tracked and was not there at the entry may be tracked -/
theorem Inv_track (I : Inv X pins σ H s) (n0 : X.s_0.heap.get? a = none) (ha : H a = none) (he : s.heap.get? a = some oe) (hz : Zc cls none oe) (hd : ∃ vs, oe.data = .fields vs) (hl : a ≠ X.env.locals) (hp : ∀ p ∈ X.pn ++ pins, p.1 ≠ a) :
    Inv X pins σ (upd H a (excO cls a)) s where
  ok := I.ok
  os := I.os
  bare := I.bare
  base := {
    keep := I.base.keep
    slot := I.base.slot
    free := fun b o e n x => by
      rw [upd_ne (fun z => by rw [z, n0] at e; cases e)]
      exact I.base.free b o e n x
    there := I.base.there
    tups := fun b xs e => by
      have q := I.base.tups b xs e
      rw [upd_ne (ne_of_none q ha)]
      exact q
    frzs := fun b o u e => by
      have q := I.base.frzs b o u e
      rw [upd_ne (ne_of_none q ha)]
      exact q
    tbls := fun b ps e => by
      obtain ⟨m, q⟩ := I.base.tbls b ps e
      exact ⟨m, by rw [upd_ne (ne_of_none q ha)]; exact q⟩ }
  loc := I.loc
  cell := I.cell
  free := by rw [upd_ne (Ne.symm hl)]; exact I.free
  freeC := fun x c e => by
    obtain ⟨v, o, hc, q⟩ := I.cell x c e
    rw [upd_ne (fun z => by
      obtain ⟨vs, hd⟩ := hd
      rw [z, he] at hc
      cases hc
      rw [hd] at q
      cases q)]
    exact I.freeC x c e
  pin := fun p hm => by
    obtain ⟨q1, q2, q3⟩ := I.pin p hm
    exact ⟨q1, by rw [upd_ne (hp p hm)]; exact q2, q3⟩
  hok := HOk.laidN I.hok (fun _ _ e => e) ha (excO_ok he hz hd)
  len := I.len
end
section
variable {X : Cx} {x n : Str} {c : Value} {i : Nat} {body su : List Stmt} {b0 : Stmt} {np_ p1 p2 : Pos} {tb : WX → TS} {ts : Addr → Value → TS} {Wo : WX}
/-- what the clause makes of an exception: its suite runs to the end, behind it the exception is tracked -/
def keepW (K : PySem.W.Frag) (c : Value) (i : Nat) (ts : Addr → Value → TS) (Wo : WX) (D : Ends) : WX := fun cls d σ H => ∃ b, PySem.W.exmOne K cls c = some b ∧
  (b = true → d = none ∧ ∀ a, H a = none → ts a cls { nx := fun σ' H' => D.nx (σ'.set i none) (upd H' a (excO cls a)), rt := fun _ _ => False } (σ.set i (some (.ref a))) H) ∧ (b = false → Wo cls d σ H)
theorem ps_try_keep (hs : X.stack = X.env :: X.outer) (hf : X.env.frame = some X.env.locals) (hN : X.N.Nodup) (hi : X.N[i]? = some n) (hln : X.env.kindOf n = some .local) (hc : Names X x c) (tk : Takes X Wo) (hex : X.ex = [])
    (hb : ∀ (W : WX) (pn : List (Addr × Obj)) (xe : Value → Shared → Prop), Takes (X.tr pn xe) W → PassesOwn (model X.prog X.w) X.A X.env xe → PSs (X.tr pn xe) body (tb W))
    (hsu : ∀ (a : Addr) (oe : Obj) (cls : Value) (pn : List (Addr × Obj)), Zc cls none oe → (∃ vs, oe.data = .fields vs) → PSs (X.suite a ((a, oe) :: pn)) (b0 :: su) (ts a cls)) :
    PS X (.Try body [.ExceptHandler (some (.Name x np_)) (some n) (b0 :: su) p2] [] [] p1) (fun D σ H => tb (keepW X.K c i ts Wo D) D σ H) := ⟨fun pins s σ H D I h => by
  have ok := I.ok
  have hfr : X.A.frames = some (X.env :: X.outer) := by rw [ok.frames, hs]
  refine wpAny_Try_except (wpAny_mono ((hb (keepW X.K c i ts Wo D) (X.pn ++ pins)
    (fun u t => wpAny (model X.prog X.w) X.A (noteFrame u X.env) (fun _ t2 => wpAny (model X.prog X.w) X.A (setFlight u none)
      (fun _ t3 => wpAny (model X.prog X.w) X.A (handleBy u X.env [.ExceptHandler (some (.Name x np_)) (some n) (b0 :: su) p2]) (SP X pins D) X.xe t3) X.xe t2) X.xe t)
    (fun u t hx => ?caught) PassesOwn.looking).run [] s σ H D (I.toTry _) h) (fun f t q => ?through) (fun _ _ q => q))
  case through =>
    cases f with
    | next =>
      obtain ⟨σ1, H1, I1, q1⟩ := q
      exact wpAny_execs_nil ⟨σ1, H1, I1.ofTry ok, q1⟩
    | ret v =>
      obtain ⟨v1, σ1, H1, I1, r1, q1⟩ := q
      exact ⟨v1, σ1, H1, I1.ofTry ok, r1, q1⟩
    | brk =>
      obtain ⟨σ1, H1, I1, q1⟩ := q
      exact ⟨σ1, H1, I1.ofTry ok, q1⟩
    | cont =>
      obtain ⟨σ1, H1, I1, q1⟩ := q
      exact ⟨σ1, H1, I1.ofTry ok, q1⟩
  case caught =>
    obtain ⟨a, B, sI, pins1, σ1, H1, cls, d, rfl, J0, nb, up, sky, na, os, ag, b, eb, yes, no⟩ := hx
    have J : Inv X pins σ1 H1 sI := J0.ofTry ok
    refine Sky.land Zc.steady hfr hf (show Sky B (X.env :: X.outer) a (Zc cls d) X.env.locals t.heap by rw [← hs]; exact sky) fun g1 fl1 up1 => ?_
    obtain ⟨o1, w1, e1, z1, d1⟩ := fl1.there
    have nfr : a ∉ frs (X.env :: X.outer) := fun hm => by
      obtain ⟨_, o2, e2, q⟩ := fl1.2.2.1.mem hm
      cases e1.symm.trans e2
      exact q _ d1
    have nI : sI.heap.get? a = none := by
      cases e0 : sI.heap.get? a with
      | none => rfl
      | some o0 => exact absurd ((nb a o0 e0 (fun z => nfr (by rw [← hs]; exact z))).symm.trans fl1.2.1) (fun z => nomatch z)
    have n0 : X.s_0.heap.get? a = none := by
      cases e0 : X.s_0.heap.get? a with
      | none => rfl
      | some o0 =>
        obtain ⟨o2, e2⟩ := J.base.there a o0 e0 (by rw [hex]; exact fun z => nomatch z)
        cases nI.symm.trans e2
    have np : ∀ p ∈ X.pn ++ pins, p.1 ≠ a := fun p hm z => by
      have q := (J.pin p hm).1
      rw [z, nI] at q
      cases q
    have nL : a ≠ X.env.locals := fun z => nfr (List.mem_filterMap.mpr ⟨X.env, .head _, hf.trans (congrArg some z.symm)⟩)
    have nF : a ∉ X.fs := fun hm => by
      obtain ⟨v, q1, q2⟩ := List.mem_filterMap.mp hm
      exact nfr (List.mem_filterMap.mpr ⟨v, .tail _ q1, q2⟩)
    have J1 : Inv X pins σ1 H1 { t with heap := g1 } := J.landed nb fl1.1 (up.trans up1) os ag
    have S1 := J1.suite e1 d1 na nL nF
    refine wpAny_handleBy_cons (codeAny_handlers_test ?_) (fun q => nomatch q)
    have hty : PySem.W.Looks (model X.prog X.w) g1 (typeOf (.ref a)) cls := fun _ _ _ _ k q => wpAny_typeOf_ref (k _ _ e1) (by rw [z1.1]; exact q)
    have known : ∀ {Q : Value → Shared → Prop} {E : Value → Shared → Prop}, Q c { t with heap := g1 } → wpAny (model X.prog X.w) (X.A.mark (some (.ref a))) (eval (.Name x np_) X.env) Q E { t with heap := g1 } := fun q => by
      obtain ⟨hg, h2, hm | ⟨hm, hv, h3⟩⟩ := hc
      · exact ld_glob (X := X.suite a ((a, o1) :: (X.pn ++ pins))) S1 hg hm q h2
      · exact ld_blt (X := X.suite a ((a, o1) :: (X.pn ++ pins))) S1 hg hm hv q h3 h2
    refine known ((PySem.W.exm_one (M := model X.prog X.w) J1.kIn hty eb).here ?_)
    cases b with
    | true =>
      obtain ⟨rfl, go⟩ := yes rfl
      refine codeAny_handlers_suite_as (HandSPX.lands_againZ fl1 fun g2 fl2 up2 => ?_)
      obtain ⟨o2, w2, e2, z2, d2⟩ := fl2.there
      have J2 : Inv X pins σ1 H1 { t with heap := g2 } := J.landed nb fl2.1 ((up.trans up1).trans up2) os ag
      refine store_ok (X := X.suite a ((a, o2) :: (X.pn ++ pins))) (v := .ref a) (J2.suite e2 d2 na nL nF) hN hi (.inl hln) rfl (fun t5 S5 => ?_) (.inr hln)
      refine wpAny_mono ((hsu a o2 cls (X.pn ++ pins) z2 ⟨_, d2⟩).run [] t5 _ H1 _ S5 (go a na)) (fun f t6 q => ?_) (fun _ _ q => q.elim)
      cases f with
      | next =>
        obtain ⟨σ6, H6, S6, q6⟩ := q
        have K6 : Inv X ((a, o2) :: pins) σ6 H6 t6 := ⟨ok, S6.os, S6.bare, S6.base, S6.loc, S6.cell, S6.free, S6.freeC, fun p hm => S6.pin p (by
          rcases List.mem_append.mp hm with h | h
          · exact List.mem_append_left _ (.tail _ (List.mem_append_left _ h))
          · rcases List.mem_cons.mp h with rfl | h
            · exact List.mem_append_left _ (.head _)
            · exact List.mem_append_left _ (.tail _ (List.mem_append_right _ h))), S6.hok, S6.len⟩
        refine gone_ok K6 hN hi hln fun t7 K7 => ?_
        obtain ⟨q1, q2, _⟩ := K7.pin (a, o2) (List.mem_append_right _ (.head _))
        have K8 : Inv X pins (σ6.set i none) H6 t7 := ⟨ok, K7.os, K7.bare, K7.base, K7.loc, K7.cell, K7.free, K7.freeC, fun p hm => K7.pin p (by
          rcases List.mem_append.mp hm with h | h
          · exact List.mem_append_left _ h
          · exact List.mem_append_right _ (.tail _ h)), K7.hok, K7.len⟩
        exact ⟨_, _, Inv_track K8 n0 q2 q1 z2 ⟨_, d2⟩ nL np, q6⟩
      | brk =>
        obtain ⟨_, _, _, z⟩ := q
        exact z.elim
      | cont =>
        obtain ⟨_, _, _, z⟩ := q
        exact z.elim
      | ret u =>
        obtain ⟨_, _, _, _, _, z⟩ := q
        exact z.elim
    | false =>
      refine wpAny_handleBy_nil ?_
      obtain ⟨_, _, _, o3, w3, T, oT, _, e3, _, d3, h3, _⟩ := id fl1
      unfold PySem.passOn
      refine wpAny_bind (wpAny_field e3 d3 h3 ?_)
      rw [if_neg (fun z : (Value.ref T == Value.none) = true => nomatch z)]
      refine wpAny_bind ?_
      rw [hf]
      exact HandSPX.setFlight_upZ fl1 fun g4 hh up4 => wpAny_throw (tk _ _ ⟨a, B, sI, pins, σ1, H1, cls, d, rfl, J, nb, (up.trans up1).trans up4, .inr (.inr (hs ▸ hh)), na, os, ag, no rfl⟩)⟩
end
end Dl

/-! Dl21: what may raise. Dex, Dsx, Dbx: as De, Ds, Db, and R, what is wanted where an exception leaves (its class, the slots, the store). -/
namespace Dl
open PySem PySem.Spec L2
abbrev XR := Value → En → Store → Prop
def PstW (K : PySem.W.Frag) (τ : Store) (H : Hp) (R : XR) (W : WX) : Prop :=
  ∀ cls σ' H' ρ' τ', R cls ρ' τ' → StOk K H' τ' → SlOk K (dom τ') H' σ' ρ' → Tr (dom τ) H (dom τ') H' → W cls none σ' H'
theorem PstW.step {K : PySem.W.Frag} {τ τ1 : Store} {H H1 : Hp} {R : XR} {W : WX} (h : PstW K τ H R W) (t : Tr (dom τ) H (dom τ1) H1) : PstW K τ1 H1 R W := fun c σ' H' ρ' τ' q o l t' => h c σ' H' ρ' τ' q o l (t.trans t')
structure Dex (X : Cx) (ρ : En) (τ : Store) (e : Expr) (Q : MV → Store → Prop) (R : XR) : Prop where
  run : ∀ σ H, StOk X.K H τ → SlOk X.K (dom τ) H σ ρ → ∀ QQ, Pst X.K τ H Q QQ → ∀ W, Takes X W → PstW X.K τ H R W → We X e σ H QQ
structure Dsx (X : Cx) (ρ : En) (τ : Store) (st : Stmt) (D : DE) (R : XR) : Prop where
  run : ∀ σ H, StOk X.K H τ → SlOk X.K (dom τ) H σ ρ → ∀ DD, PstD X.K τ H D DD → ∀ W, Takes X W → PstW X.K τ H R W → Ws X st DD σ H
structure Dbx (X : Cx) (ρ : En) (τ : Store) (body : List Stmt) (D : DE) (R : XR) : Prop where
  run : ∀ σ H, StOk X.K H τ → SlOk X.K (dom τ) H σ ρ → ∀ DD, PstD X.K τ H D DD → ∀ W, Takes X W → PstW X.K τ H R W → Wb X body DD σ H
/-- a contract of a def that may raise -/
abbrev CtrX := List MV → Store → (MV → Store → Prop) → (Value → Store → Prop) → Prop
def PstE (K : PySem.W.Frag) (τ : Store) (H : Hp) (R : Value → Store → Prop) (E : XK) : Prop := ∀ cls H' τ', R cls τ' → StOk K H' τ' → Tr (dom τ) H (dom τ') H' → E cls none H'
def spX (K : PySem.W.Frag) (C : CtrX) : Sp := fun vs H Q E => ∃ τ svs QQ R, StOk K H τ ∧ RvL K (dom τ) H vs svs ∧ C svs τ QQ R ∧ Pst K τ H QQ Q ∧ PstE K τ H R E
structure KnowsX (P : Program) (w : World) (K : PySem.W.Frag) (mg : Str → Option Value) (base : Heap) (k : Nat) (x : Str) (C : CtrX) : Prop where
  ex : ∃ (f : Addr) (fd : FuncData) (ps : List Str), FnOk P w K mg base (L2.CX P w) k f fd ps (spX K C) ∧ mg x = some (.ref f) ∧ PySem.W.keepIn K (.ref f) = true ∧ Binds K fd ps []
/-- an own exception class without an own __init__ -/
structure KnowsE (K : PySem.W.Frag) (mg : Str → Option Value) (x : Str) (cls : Value) : Prop where
  ex : ∃ (C : Addr) (B newId initId : String) (bmB : List Value), cls = .ref C ∧ ExcBaseFacts B newId initId bmB ∧ PySem.W.excIn K C bmB newId = true ∧ mg x = some (.ref C) ∧ PySem.W.keepIn K (.ref C) = true ∧
    PySem.W.subIn K (.ref C) (.type "BaseException") = some true ∧ PySem.W.typeIn K (.ref C) = some (.type "type")
section
variable {X : Cx} {ρ : En} {τ : Store} {e : Expr} {st : Stmt} {body rest els : List Stmt} {Q : MV → Store → Prop} {D : DE} {R : XR} {pos p1 : Pos}
theorem dex_of (h : De X ρ τ e Q) : Dex X ρ τ e Q R := ⟨fun σ H o l QQ p _ _ _ => h σ H o l QQ p⟩
theorem dsx_of (h : Ds X ρ τ st D) : Dsx X ρ τ st D R := ⟨fun σ H o l DD p _ _ _ => h σ H o l DD p⟩
theorem dbx_of (h : Db X ρ τ body D) : Dbx X ρ τ body D R := ⟨fun σ H o l DD p _ _ _ => h σ H o l DD p⟩
theorem dbx_nil (q : D.nx ρ τ) : Dbx X ρ τ [] D R := dbx_of (db_nil q)
theorem dbx_cons (h : Dsx X ρ τ st { D with nx := fun ρ1 τ1 => Dbx X ρ1 τ1 rest D R } R) : Dbx X ρ τ (st :: rest) D R := ⟨fun σ H o l DD p W tk pw =>
  wb_of (pss_cons ps_ws pss_wb) (h.run σ H o l { DD with nx := Wb X rest DD } ⟨fun σ1 H1 ρ1 τ1 h1 o1 l1 t1 => h1.run σ1 H1 o1 l1 DD (p.step t1) W tk (pw.step t1), p.rt, p.bk, p.ct⟩ W tk pw)⟩
theorem dbx_one (h : Dsx X ρ τ st D R) : Dbx X ρ τ [st] D R := ⟨fun σ H o l DD p W tk pw => wb_of (pss_one ps_ws) (h.run σ H o l DD p W tk pw)⟩
theorem dsx_if {c : Expr} (h : Dt X ρ τ c fun k τ1 => (k = true → Dbx X ρ τ1 body D R) ∧ (k = false → Dbx X ρ τ1 els D R)) : Dsx X ρ τ (.If c body els pos) D R := ⟨fun σ H o l DD p W tk pw =>
  ws_of (ps_if pt_wt pss_wb pss_wb) (h σ H o l _ fun k H1 τ1 ⟨q1, q2⟩ o1 t1 => by
    cases k with
    | true => exact iteT ((q1 rfl).run σ H1 o1 (l.tr t1) DD (p.step t1) W tk (pw.step t1))
    | false => exact iteF ((q2 rfl).run σ H1 o1 (l.tr t1) DD (p.step t1) W tk (pw.step t1)))⟩
theorem dsx_raise {x m : Str} {cls : Value} {j : Nat} {p2 p3 : Pos} (hc : X.calm = true) (k : KnowsE X.K X.mg x cls) (hg : Gl X x) (q : R cls ρ τ) (hdb : (x == ("__debug__" : Str)) = false := by decide) : Dsx X ρ τ (.Raise (some (.Call (.Name x p1) [.Constant (.str m) j p2] [] p3)) none pos) D R := ⟨fun σ H o l DD p W tk pw => by
  obtain ⟨C, B, nI, iI, bm, rfl, F, q1, q2, q3, q4, q5⟩ := k.ex
  exact ws_of (ps_raise hc tk (pmk_own F q1 q2 q3 (raises_own q4 q5) hg (hdb := hdb))) (pw _ σ H ρ τ q o l Tr.refl)⟩
theorem dsx_expr (h : Dex X ρ τ e (fun _ τ1 => D.nx ρ τ1) R) (hs : swapsWith e none pos.line X.env = pure false := by rfl) : Dsx X ρ τ (.Expr e pos) D R := ⟨fun σ H o l DD p W tk pw =>
  ws_of (ps_expr pe_we hs) (h.run σ H o l _ (fun v H1 x τ1 q o1 r1 t1 => p.nx σ H1 ρ τ1 q o1 (l.tr t1) t1) W tk pw)⟩
theorem dsx_ret (h : Dex X ρ τ e D.rt R) : Dsx X ρ τ (.Return (some e) pos) D R := ⟨fun σ H o l DD p W tk pw => ws_of (ps_ret pe_we) (h.run σ H o l DD.rt p.rt W tk pw)⟩
theorem dsx_set (i : Nat) {x : Str} {pos' : Pos} (hN : X.N.Nodup) (hi : X.N[i]? = some x) (hx : Loc X.env.scope x) (h : Dex X ρ τ e (fun sv τ1 => D.nx (ρ.set i (some sv)) τ1) R)
    (hs : swapsWith e (some (.Name x pos')) pos.line X.env = pure false := by rfl) (hf : X.fn x = true ∨ X.env.scope.names.lookup x = some .local := by first | exact .inl rfl | exact .inr rfl) : Dsx X ρ τ (.Assign [.Name x pos'] e pos) D R := ⟨fun σ H o l DD p W tk pw =>
  ws_of (ps_set hN hi hx pe_we hs hf) (h.run σ H o l _ (fun v H1 sv τ1 q o1 r1 t1 => p.nx _ H1 _ τ1 q o1 ((l.tr t1).set r1 i) t1) W tk pw)⟩
theorem dex_call {k j : Nat} {x : Str} {C : CtrX} {a : Expr} {es : List Expr} (F : KnowsX X.prog X.w X.K X.mg X.base k x C) (hr : Room j X.A) (hg : Gl X x) (h : Da X ρ τ (a :: es) fun xs τ1 => C xs τ1 Q fun cls τ2 => R cls ρ τ2) (hk : k ≤ j := by decide)
    (hdb : (x == ("__debug__" : Str)) = false := by decide) (he : starEach (a :: es) X.env = (false, eval a X.env) :: starEach es X.env := by rfl) (hpl : (backTo pos (starEach es X.env)).any (·.1) = false := by rfl) :
    Dex X ρ τ (.Call (.Name x p1) (a :: es) [] pos) Q R := ⟨fun σ H o l QQ p W tk pw => by
  obtain ⟨f, fd, ps, F, g, kp, b⟩ := F.ex
  refine we_of (pe_callS F (hr.mono hk) hg g kp b (passAt tk) pa_wa hdb he hpl) (h σ H o l _ fun vs H1 xs τ1 h1 o1 r1 t1 => ?_)
  exact ⟨τ1, xs, Q, fun cls τ2 => R cls ρ τ2, o1, r1, h1, p.step t1, fun cls H2 τ2 q o2 t2 => pw cls σ H2 ρ τ2 q o2 (l.tr (t1.trans t2)) (t1.trans t2)⟩⟩
end
section
variable {P : Program} {w : World} {K : PySem.W.Frag} {mg : Str → Option Value} {base : Heap}
abbrev BXX (P : Program) (w : World) (K : PySem.W.Frag) (mg : Str → Option Value) (base : Heap) (N : List Str) (x : Str) (st : Stmt) (f : Addr) (cdv : Value) (A : Around) (outer : List Env) (s : Shared) (H : Hp) (E : XK) : Cx :=
  cxOf (L2.CX P w) P w K mg base N x (defScope st) f cdv A outer s H E
theorem knowsX_mk {x : Str} {st : Stmt} {N ps : List Str} {k : Nat} {C : CtrX} (F : HasDef K mg x st ps) (S : FnScope N ps (defScope st)) (hl : ∀ svs τ Q R, C svs τ Q R → svs.length = ps.length)
    (body : ∀ f cdv A outer s H E, Room k (BXX P w K mg base N x st f cdv A outer s H E).A → ∀ svs τ Q R, C svs τ Q R →
      Dbx (BXX P w K mg base N x st f cdv A outer s H E) (startE N svs) τ (defBody st) { nx := fun _ τ' => Q (.val .none) τ', rt := Q } fun cls _ τ' => R cls τ') : KnowsX P w K mg base (k + 1) x C := by
  obtain ⟨f, fd, F, g, b⟩ := F.ex
  refine ⟨f, fd, ps, F.okX S (fun vs H Q E ⟨τ, svs, QQ, R, o, r, c, p, _⟩ => ?_) (fun cdv A outer s H vs Q E hr ⟨τ, svs, QQ, R, o, r, c, p, pe⟩ => ?_), g, F.kp, b⟩
  · rw [Paired.length r]
    exact hl _ _ _ _ c
  · refine ⟨_, pss_wb, (body f cdv A outer s H E hr svs τ QQ R c).run _ H o (slOk_start r) _ ⟨fun σ' H' ρ' τ' q o' _ t => p _ H' _ τ' q o' Dn.non t, p, fun _ _ _ _ q => q.elim, fun _ _ _ _ q => q.elim⟩ (fun cls d _ H' => E cls d H') (takes_of rfl rfl rfl rfl) fun cls σ' H' ρ' τ' q o' _ t => pe cls H' τ' q o' t⟩
end
end Dl

/-! Dl22: try .. except X as e: y = e; is None and isinstance of what was caught -/
namespace Dl
open PySem PySem.Spec L2
section
variable {X : Cx} {ρ : En} {τ : Store} {D : DE}
/-- what the try leaves: the slots as they were where it was raised, the exception in the slot j, on the store -/
def caughtR (K : PySem.W.Frag) (c : Value) (i j : Nat) (D : DE) : XR := fun cls ρ' τ' => PySem.W.exmOne K cls c = some true ∧ i < ρ'.length ∧ ∀ a, a ∉ dom τ' → D.nx (((ρ'.set i (some (.hdl a))).set j (some (.hdl a))).set i none) ((a, .exc cls) :: τ')
theorem ds_try {x n y : Str} {c : Value} {i j : Nat} {body : List Stmt} {np p1 p2 p3 p4 p5 : Pos} (hs : X.stack = X.env :: X.outer) (hf : X.env.frame = some X.env.locals) (hN : X.N.Nodup) (hi : X.N[i]? = some n) (hj : X.N[j]? = some y)
    (hln : X.env.kindOf n = some .local) (hly : Loc X.env.scope y) (hv : Vis X.env.scope n) (hc : Names X x c) (hex : X.ex = [])
    (hb : ∀ (pn : List (Addr × Obj)) (xe : Value → Shared → Prop), PassesOwn (model X.prog X.w) X.A X.env xe → Dbx (X.tr pn xe) ρ τ body D (caughtR X.K c i j D))
    (hd1 : (n == ("__debug__" : Str)) = false := by decide) (hd2 : (n == ("__classdict__" : Str)) = false := by decide)
    (hsw : swapsWith (.Name n p4) (some (.Name y p5)) p3.line X.env = pure false := by rfl) (hfy : X.fn y = true ∨ X.env.scope.names.lookup y = some .local := by first | exact .inl rfl | exact .inr rfl) :
    Ds X ρ τ (.Try body [.ExceptHandler (some (.Name x np)) (some n) [.Assign [.Name y p5] (.Name n p4) p3] p2] [] [] p1) D := .mk fun σ H o l DD p => by
  refine ws_of (ps_try_keep (Wo := fun _ _ _ _ => False) (tb := fun W D' σ' H' => ∀ (pn : List (Addr × Obj)) (xe : Value → Shared → Prop), Takes (X.tr pn xe) W → PassesOwn (model X.prog X.w) X.A X.env xe → Wb (X.tr pn xe) body D' σ' H')
    (ts := fun a _ D' σ' H' => σ'[i]? = some (some (.ref a)) ∧ D'.nx (σ'.set j (some (.ref a))) H') hs hf hN hi hln hc takes0 hex (fun W pn xe tk po => ⟨fun pins s σ' H' D' I h => h pn xe tk po pins s I⟩) fun a oe cls pn hz hd => ?suite) ?main
  case suite =>
    refine ⟨fun pins s σ' H' D' I ⟨e, q⟩ => ?_⟩
    exact (pss_one (ps_set (X := X.suite a ((a, oe) :: pn)) (i := j) hN hj hly (pe_var hi hv hd1 hd2) hsw hfy)).run pins s σ' H' D' I ⟨.ref a, e, q⟩
  case main =>
    intro pn xe tk po
    refine (hb pn xe po).run σ H o l DD p _ tk fun cls σ' H' ρ' τ' ⟨e, hlen, q⟩ o' l' t' => ?_
    refine ⟨true, e, fun _ => ⟨rfl, fun a ha => ⟨?_, ?_⟩⟩, fun z => nomatch z⟩
    · exact List.getElem?_set_self (by rw [l'.len]; exact hlen)
    · have hp : a ∉ dom τ' := o'.fresh ha
      have tp : Tr (dom τ') H' (dom ((a, MO.exc cls) :: τ')) (upd H' a (excO cls a)) := Tr.push ha
      have r : Rv X.K (dom ((a, MO.exc cls) :: τ')) (upd H' a (excO cls a)) (.ref a) (.hdl a) := rfl
      exact p.nx _ _ _ _ (q a hp) (o'.push ha upd_same) ((((l'.tr tp).set r i).set r j).set_none i) (t'.trans tp)
/-- isinstance(e, C) of what was caught -/
def rIsX (K : PySem.W.Frag) : List V → Hp → VK → Prop := fun xs H Q => ∃ (a D : Addr) (c : V) (cv : Value) (b : Bool), ExcC K D ∧ H a = some (excO (.ref D) a) ∧ xs = [.ref a, c] ∧ (∀ u, RelV c u → u = cv) ∧ PySem.W.kitOne K (.ref D) cv = some b ∧ Q (.bl b) H
theorem call_isX : CallR X (.builtin "isinstance") (rIsX X.K) := by
  intro pins s σ H xs us Q I r h
  obtain ⟨a, D, c, cv, b, C, ha, rfl, hcv, e, q⟩ := h
  cases r with
  | cons rx rr =>
    cases rr with
    | cons rt rr =>
      cases rr
      cases rx
      cases hcv _ rt
      obtain ⟨⟨oe, hget, hz, vs, hv⟩, _⟩ := (show ObjOk X.prog X.w H s.heap a (excO (.ref D) a) from I.hok a _ ha)
      have J : PySem.W.InstAt s.heap a oe D none := by
        obtain ⟨oc, od, oda, osl⟩ := oe
        obtain ⟨h1, h2⟩ := hz
        cases h1
        cases h2
        cases hv
        exact ⟨hget, rfl, rfl, trivial⟩
      exact PySem.W.kia_one (PySem.W.handS_kitx_exc C.hg C.hk C.hs C.hd C.ha C.hn C.ht C.hm) I.kIn J e (fun z => nomatch z) fun tk => ⟨.bl b, H, I.kept (t' := tk) fun _ _ z => z, rfl, q⟩
end
section
variable {X : Cx} {ρ : En} {τ : Store} {Q : MV → Store → Prop} {pos p1 p2 : Pos} {a : Expr}
theorem is_noneX {K : PySem.W.Frag} {neg : Bool} {b : Addr} (q : Q (.val (.bool (bneg neg false))) τ) : IsD K neg (.hdl b) (.val .none) τ Q := .mk fun H v u o r1 r2 QQ p => by
  cases r2
  refine .inl ⟨rfl, ?_⟩
  cases (r1 : v = .ref b)
  rw [show decide ((V.ref b) = V.non) = false from decide_eq_false fun z => nomatch z]
  exact p _ H _ τ q o (Dn.bl _) Tr.refl
/-- what isinstance is asked of a caught exception -/
abbrev IsX (X : Cx) (cv : Value) (Q : MV → Store → Prop) (x : MV) (τ1 : Store) : Prop := ∃ (b D : Addr) (k : Bool), x = .hdl b ∧ τ1.lookup b = some (.exc (.ref D)) ∧ ExcC X.K D ∧ PySem.W.kitOne X.K (.ref D) cv = some k ∧ Q (.val (.bool k)) τ1
theorem de_isiX {T : Str} {C : Addr} (B : Bl X.mg) (hg : Gl X "isinstance") (hgT : Gl X T) (hmT : X.mg T = some (.ref C)) (h : De X ρ τ a (IsX X (.ref C) Q)) (hd : (T == ("__debug__" : Str)) = false := by decide)
    (hs : starEach [a, .Name T p2] X.env = (false, eval a X.env) :: starEach [.Name T p2] X.env := by rfl) (hs2 : starEach [.Name T p2] X.env = (false, eval (.Name T p2) X.env) :: starEach [] X.env := by rfl) (hpl : (backTo pos (starEach [.Name T p2] X.env)).any (·.1) = false := by rfl) :
    De X ρ τ (.Call (.Name "isinstance" p1) [a, .Name T p2] [] pos) Q := .mk fun σ H o l QQ p => by
  refine we_of (pe_callB call_isX hg B.h_isinstance (by decide +kernel) (pa_cons pe_we (pa_cons (pe_glob (v := .ref C) hgT hmT rfl hd) pa_nil hs2) hs) (by decide) (by decide) hs hpl) ?_
  refine h σ H o l _ fun v H1 x τ1 ⟨b, D, k, ex, e, c, hk, q⟩ o1 r1 t1 => ?_
  subst ex
  cases (r1 : v = .ref b)
  exact ⟨b, D, .ref C, .ref C, k, c, o1.get e, rfl, fun u r => r, hk, p _ H1 _ τ1 q o1 (Dn.bl _) t1⟩
theorem de_isiXB {T : Str} {nm : String} (B : Bl X.mg) (hg : Gl X "isinstance") (hgT : Gl X T) (hmT : X.mg T = none) (hvT : bootBuiltins T = some (.type nm)) (h : De X ρ τ a (IsX X (.type nm) Q)) (hn : T ≠ "__name__" := by decide) (hd : (T == ("__debug__" : Str)) = false := by decide)
    (hs : starEach [a, .Name T p2] X.env = (false, eval a X.env) :: starEach [.Name T p2] X.env := by rfl) (hs2 : starEach [.Name T p2] X.env = (false, eval (.Name T p2) X.env) :: starEach [] X.env := by rfl) (hpl : (backTo pos (starEach [.Name T p2] X.env)).any (·.1) = false := by rfl) :
    De X ρ τ (.Call (.Name "isinstance" p1) [a, .Name T p2] [] pos) Q := .mk fun σ H o l QQ p => by
  refine we_of (pe_callB call_isX hg B.h_isinstance (by decide +kernel) (pa_cons pe_we (pa_cons (pe_bltn (v := .ty nm) hgT hmT hvT rfl hn hd) pa_nil hs2) hs) (by decide) (by decide) hs hpl) ?_
  refine h σ H o l _ fun v H1 x τ1 ⟨b, D, k, ex, e, c, hk, q⟩ o1 r1 t1 => ?_
  subst ex
  cases (r1 : v = .ref b)
  exact ⟨b, D, .ty nm, .type nm, k, c, o1.get e, rfl, fun u r => r, hk, p _ H1 _ τ1 q o1 (Dn.bl _) t1⟩
end
end Dl

/-! Dl23: count and index of a list of data -/
namespace Dl
open PySem PySem.Spec L2 PyProof.Rows
section
variable {X : Cx}
def rCountD (K : PySem.W.Frag) : V → List V → Hp → VK → Prop := fun x xs H Q => ∃ (a : Addr) (y : V) (d : PyData) (ds : List PyData), x = V.ref a ∧ xs = [y] ∧ Dp K H (V.ref a) (.list ds) ∧ Dp K H y d ∧
  SeqAt.shaped (.list ds) = true ∧ SeqAt.shaped d = true ∧ Q (.int ((ds.countP fun z => PyData.eqv z d : Nat))) H
theorem mt_countD (hu : X.A.units + 65 < cLine) : MtR X "list.count" (rCountD X.K) := by
  intro pins s σ H x xs v us Q I rx rxs h
  obtain ⟨a, y, d, ds, rfl, rfl, hl, hy, sl, sd, q⟩ := h
  cases rx
  obtain ⟨uy, rfl, ry⟩ := rxs.one
  obtain ⟨bs, r1⟩ := Dp.reads I d y uy hy ry
  have lay := SeqAt.canLay_of_shaped sl
  cases hl with
  | lst hs ha =>
    obtain ⟨its, rv, ⟨⟨cls, dd, data, sls⟩, n, ho, hc, hdn, hdt⟩, hlen⟩ := I.list hs
    simp only at hc hdt
    subst hc hdt
    obtain ⟨as, h4⟩ := Dp.readsAll I ds _ its ha rv
    have em : its.map (SeqAt.readOf s.heap) = ds := SeqAt.readsAll_map ds its as lay h4
    refine call_meets PySem.F.slot_list_count ⟨_, ho, rfl⟩ PySem.F.entry_list_count (PySem.F.args_list_count_2 _ _)
      (SeqAt.list_countAt a its.toArray n dd sls uy fun u => PyData.eqv (SeqAt.readOf s.heap u) d) ⟨ho, SeqAt.items_eqAt (vs := its.toArray) h4 r1 lay (SeqAt.canLay_of_shaped sd) (room_in_shaped sd hu), ?_⟩
    have ec : its.toArray.toList.countP (fun u => PyData.eqv (SeqAt.readOf s.heap u) d) = ds.countP fun z => PyData.eqv z d := by
      rw [← em, List.countP_map]
      rfl
    rw [ec]
    exact ⟨.int (ds.countP fun z => PyData.eqv z d : Nat), H, I.tok _, ⟨_, rfl⟩, q⟩
end
section
variable {X : Cx} {ρ : En} {τ : Store} {Q : MV → Store → Prop} {a b : Expr}
theorem de_count {apos cpos : Pos} (hu : X.A.units + 65 < cLine) (h : De X ρ τ a fun x τ1 => ∃ ds, x = .val (.list ds) ∧ De X ρ τ1 b fun y τ2 => ∃ d, y = .val d ∧ SeqAt.shaped (.list ds) = true ∧ SeqAt.shaped d = true ∧ Q (.val (.int (ds.countP fun z => PyData.eqv z d : Nat))) τ2)
    (hbase : attributeBase a "count" X.env (eval a X.env) = eval a X.env := by rfl)
    (hfew : ((backTo cpos (starEach [b] X.env)).all (fun x => !x.1) && (backToKw cpos (keywordEach [] X.env)).all (fun x => x.1.isSome)
      && decide ([b].length + ([] : List Keyword).length + (if ([] : List Keyword).isEmpty then 0 else 1) < 30)) = true := by rfl)
    (hline : (apos.endLine == cpos.line) = true := by rfl) (hs : starEach [b] X.env = (false, eval b X.env) :: starEach [] X.env := by rfl) (hplain : (backTo cpos (starEach [] X.env)).any (·.1) = false := by rfl) :
    De X ρ τ (.Call (.Attribute a "count" apos) [b] [] cpos) Q := .mk fun σ H o l QQ p =>
  de_bm PySem.F.plainAttrs_list PySem.F.slot_list_count PySem.F.type_list_count (mt_countD hu) (h.mono fun x τ1 ⟨ds, ex, h1⟩ => by
    subst ex
    refine ⟨.inl ⟨rfl, ds, rfl⟩, da_one (h1.mono fun y τ2 ⟨d, ey, sl, sd, q⟩ => ?_) hs⟩
    subst ey
    refine .mk fun H v vs o rv rl QQ p => ?_
    obtain ⟨u, rfl, ru⟩ := paired1 rl
    obtain ⟨l, ws, rfl, hq, dl⟩ := rv.seqL o (rfl : datOf τ2 (.val (.list ds)) = some (.list ds))
    exact ⟨l, u, d, ds, rfl, rfl, (show Dn _ _ _ _ (.list ds) from rv).dp, (show Dn _ _ _ u d from ru).dp, sl, sd, p _ H _ τ2 q o (Dn.int _) Tr.refl⟩) hbase hfew hline hs hplain σ H o l QQ p
theorem de_index {apos cpos : Pos} (hu : X.A.units + 65 < cLine) (h : De X ρ τ a fun x τ1 => ∃ ds, x = .val (.list ds) ∧ De X ρ τ1 b fun y τ2 => ∃ d j z, y = .val d ∧ SeqAt.shaped (.list ds) = true ∧ SeqAt.shaped d = true ∧ ds[j]? = some z ∧ PyData.eqv z d = true ∧ (∀ (m : Nat) (z' : PyData), m < j → ds[m]? = some z' → PyData.eqv z' d = false) ∧ Q (.val (.int (j : Nat))) τ2)
    (hbase : attributeBase a "index" X.env (eval a X.env) = eval a X.env := by rfl)
    (hfew : ((backTo cpos (starEach [b] X.env)).all (fun x => !x.1) && (backToKw cpos (keywordEach [] X.env)).all (fun x => x.1.isSome)
      && decide ([b].length + ([] : List Keyword).length + (if ([] : List Keyword).isEmpty then 0 else 1) < 30)) = true := by rfl)
    (hline : (apos.endLine == cpos.line) = true := by rfl) (hs : starEach [b] X.env = (false, eval b X.env) :: starEach [] X.env := by rfl) (hplain : (backTo cpos (starEach [] X.env)).any (·.1) = false := by rfl) :
    De X ρ τ (.Call (.Attribute a "index" apos) [b] [] cpos) Q := .mk fun σ H o l QQ p =>
  de_bm PySem.F.plainAttrs_list PySem.F.slot_list_index PySem.F.type_list_index (mt_indexD hu) (h.mono fun x τ1 ⟨ds, ex, h1⟩ => by
    subst ex
    refine ⟨.inl ⟨rfl, ds, rfl⟩, da_one (h1.mono fun y τ2 ⟨d, j, z, ey, sl, sd, ej, ez, em, q⟩ => ?_) hs⟩
    subst ey
    refine .mk fun H v vs o rv rl QQ p => ?_
    obtain ⟨u, rfl, ru⟩ := paired1 rl
    obtain ⟨l, ws, rfl, hq, dl⟩ := rv.seqL o (rfl : datOf τ2 (.val (.list ds)) = some (.list ds))
    exact ⟨l, u, d, ds, j, z, rfl, rfl, (show Dn _ _ _ _ (.list ds) from rv).dp, (show Dn _ _ _ u d from ru).dp, sl, sd, ej, ez, em, p _ H _ τ2 q o (Dn.int _) Tr.refl⟩) hbase hfew hline hs hplain σ H o l QQ p
end
end Dl

/-! Dl24: texts -/
namespace Dl
open PySem PySem.Spec L2
theorem dnl_strs {K : PySem.W.Frag} {N : List Addr} {H : Hp} : ∀ ys : List Str, DnL K N H (ys.map V.str) (ys.map .str)
  | [] => .nil
  | y :: ys => .cons (Dn.str y) (dnl_strs ys)
section
variable {X : Cx} {ρ : En} {τ : Store} {Q : MV → Store → Prop} {pos p1 : Pos} {a b : Expr}
/-- str(n) -/
theorem de_strI (B : Bl X.mg) (hg : Gl X "str") (h : De X ρ τ a fun x τ1 => ∃ i : Int, x = .val (.int i) ∧ i.natAbs.log2 < 1920 ∧ Q (.val (.str (toString i))) τ1)
    (hs : starEach [a] X.env = (false, eval a X.env) :: starEach [] X.env := by rfl) : De X ρ τ (.Call (.Name "str" p1) [a] [] pos) Q :=
  de_callTy call_str_int hg B.h_str (by decide +kernel) (da_one (h.mono fun x τ1 ⟨i, ex, hi, q⟩ => .mk fun H vs o r QQ p => by
    obtain ⟨v, rfl, r1⟩ := paired1 r
    subst ex
    cases r1
    exact ⟨i, rfl, hi, p _ H _ τ1 q o (Dn.str _) Tr.refl⟩) hs) hs rfl
section
variable {apos cpos : Pos}
/-- sep.join(ys), ys a list or a tuple of texts -/
theorem de_join (h : De X ρ τ a fun x τ1 => ∃ z : Str, x = .val (.str z) ∧ De X ρ τ1 b fun y τ2 => ∃ ys : List Str, datOf τ2 y = some (.list (ys.map .str)) ∧ (ys.map (·.length)).sum + ys.length * z.length ≤ 16777216 ∧ Q (.val (.str (Txt.join z ys))) τ2)
    (hbase : attributeBase a "join" X.env (eval a X.env) = eval a X.env := by rfl)
    (hfew : ((backTo cpos (starEach [b] X.env)).all (fun x => !x.1) && (backToKw cpos (keywordEach [] X.env)).all (fun x => x.1.isSome)
      && decide ([b].length + ([] : List Keyword).length + (if ([] : List Keyword).isEmpty then 0 else 1) < 30)) = true := by rfl)
    (hline : (apos.endLine == cpos.line) = true := by rfl) (hs : starEach [b] X.env = (false, eval b X.env) :: starEach [] X.env := by rfl) (hplain : (backTo cpos (starEach [] X.env)).any (·.1) = false := by rfl) :
    De X ρ τ (.Call (.Attribute a "join" apos) [b] [] cpos) Q := .mk fun σ H o l QQ p =>
  de_bm PySem.F.plainAttrs_str PySem.F.slot_str_join PySem.F.type_str_join mt_join (h.mono fun x τ1 ⟨z, ex, h1⟩ => by
    subst ex
    refine ⟨.inr ⟨rfl, z, rfl⟩, da_one (h1.mono fun y τ2 ⟨ys, e, hl, q⟩ => ?_) hs⟩
    refine .mk fun H v vs o rv rl QQ p => ?_
    obtain ⟨u, rfl, ru⟩ := paired1 rl
    obtain ⟨l, ws, rfl, hq, dl⟩ := ru.seqL o e
    rw [dl.texts] at hq
    cases rv
    exact ⟨z, l, ys, rfl, rfl, .inl hq, hl, p _ H _ τ2 q o (Dn.str _) Tr.refl⟩) hbase hfew hline hs hplain σ H o l QQ p
/-- text.split(sep) -/
theorem de_split (h : De X ρ τ a fun x τ1 => ∃ z : Str, x = .val (.str z) ∧ De X ρ τ1 b fun y τ2 => ∃ w : Str, y = .val (.str w) ∧ (w.length == 0) = false ∧ z.length ≤ 16000000 ∧ Q (.val (.list ((Txt.split z w).map .str))) τ2)
    (hbase : attributeBase a "split" X.env (eval a X.env) = eval a X.env := by rfl)
    (hfew : ((backTo cpos (starEach [b] X.env)).all (fun x => !x.1) && (backToKw cpos (keywordEach [] X.env)).all (fun x => x.1.isSome)
      && decide ([b].length + ([] : List Keyword).length + (if ([] : List Keyword).isEmpty then 0 else 1) < 30)) = true := by rfl)
    (hline : (apos.endLine == cpos.line) = true := by rfl) (hs : starEach [b] X.env = (false, eval b X.env) :: starEach [] X.env := by rfl) (hplain : (backTo cpos (starEach [] X.env)).any (·.1) = false := by rfl) :
    De X ρ τ (.Call (.Attribute a "split" apos) [b] [] cpos) Q := .mk fun σ H o l QQ p =>
  de_bm PySem.F.plainAttrs_str PySem.F.slot_str_split PySem.F.type_str_split mt_split (h.mono fun x τ1 ⟨z, ex, h1⟩ => by
    subst ex
    refine ⟨.inr ⟨rfl, z, rfl⟩, da_one (h1.mono fun y τ2 ⟨w, ey, hw, hl, q⟩ => ?_) hs⟩
    subst ey
    refine .mk fun H v vs o rv rl QQ p => ?_
    obtain ⟨u, rfl, ru⟩ := paired1 rl
    cases rv
    cases ru
    exact ⟨z, w, rfl, rfl, hw, by rw [sizeLine_eq]; omega, fun pa ha => p.lst o (dnl_strs _) q pa ha⟩) hbase hfew hline hs hplain σ H o l QQ p
/-- text.find(w) -/
theorem de_find (h : De X ρ τ a fun x τ1 => ∃ z : Str, x = .val (.str z) ∧ De X ρ τ1 b fun y τ2 => ∃ w : Str, y = .val (.str w) ∧ Q (.val (.int (Txt.find z w))) τ2)
    (hbase : attributeBase a "find" X.env (eval a X.env) = eval a X.env := by rfl)
    (hfew : ((backTo cpos (starEach [b] X.env)).all (fun x => !x.1) && (backToKw cpos (keywordEach [] X.env)).all (fun x => x.1.isSome)
      && decide ([b].length + ([] : List Keyword).length + (if ([] : List Keyword).isEmpty then 0 else 1) < 30)) = true := by rfl)
    (hline : (apos.endLine == cpos.line) = true := by rfl) (hs : starEach [b] X.env = (false, eval b X.env) :: starEach [] X.env := by rfl) (hplain : (backTo cpos (starEach [] X.env)).any (·.1) = false := by rfl) :
    De X ρ τ (.Call (.Attribute a "find" apos) [b] [] cpos) Q := .mk fun σ H o l QQ p =>
  de_bm PySem.F.plainAttrs_str PySem.F.slot_str_find PySem.F.type_str_find mt_find (h.mono fun x τ1 ⟨z, ex, h1⟩ => by
    subst ex
    refine ⟨.inr ⟨rfl, z, rfl⟩, da_one (h1.mono fun y τ2 ⟨w, ey, q⟩ => ?_) hs⟩
    subst ey
    refine .mk fun H v vs o rv rl QQ p => ?_
    obtain ⟨u, rfl, ru⟩ := paired1 rl
    cases rv
    cases ru
    exact ⟨z, w, rfl, rfl, p _ H _ τ2 q o (Dn.int _) Tr.refl⟩) hbase hfew hline hs hplain σ H o l QQ p
end
/-! f-strings -/
theorem de_fmt (h : De X ρ τ a fun x τ1 => (∃ y : Str, x = .val (.str y) ∧ y.length ≤ 16000000 ∧ Q (.val (.str y)) τ1) ∨ ∃ i : Int, x = .val (.int i) ∧ i.natAbs.log2 < 1920 ∧ Q (.val (.str (toString i))) τ1) : De X ρ τ (.FormattedValue a (-1) none pos) Q := .mk fun σ H o l QQ p =>
  we_of (pe_fmt pe_we) (h σ H o l _ fun v H1 x τ1 h1 o1 r1 t1 => by
    rcases h1 with ⟨y, ex, hl, q⟩ | ⟨i, ex, hi, q⟩
    · subst ex
      cases r1
      exact .inl ⟨y, rfl, by rw [sizeLine_eq]; omega, p _ H1 _ τ1 q o1 (Dn.str _) t1⟩
    · subst ex
      cases r1
      exact .inr ⟨i, rfl, hi, p _ H1 _ τ1 q o1 (Dn.str _) t1⟩)
/-- the parts one behind the other -/
def Djs (X : Cx) (ρ : En) (Q : MV → Store → Prop) : List Expr → Str → Store → Prop
  | [], acc, τ => Q (.val (.str acc)) τ
  | e :: es, acc, τ => De X ρ τ e fun x τ1 => ∃ y : Str, x = .val (.str y) ∧ (acc ++ y).length ≤ 16000000 ∧ Djs X ρ Q es (acc ++ y) τ1
theorem pj_we : ∀ es : List Expr, PJ X es (es.map (We X))
  | [] => .nil
  | _ :: es => .cons pe_we (pj_we es)
theorem djs_run {H0 : Hp} {QQ : VK} : ∀ (es : List Expr) (acc : Str) (σ : St) (H : Hp) (τ1 : Store), Djs X ρ Q es acc τ1 → StOk X.K H τ1 → SlOk X.K (dom τ1) H σ ρ → Tr (dom τ) H0 (dom τ1) H → Pst X.K τ H0 Q QQ → tJs (es.map (We X)) acc σ H fun out H1 => QQ (.str out) H1
  | [], acc, σ, H, τ1, h, o, _, t, p => p _ H _ τ1 h o (Dn.str _) t
  | e :: es, acc, σ, H, τ1, h, o, l, t, p => (show De X ρ τ1 e _ from h) σ H o l _ fun v H1 x τ2 ⟨y, ex, hl, h2⟩ o2 r2 t2 => by
    subst ex
    cases r2
    exact ⟨y, rfl, by rw [sizeLine_eq]; omega, djs_run es (acc ++ y) σ H1 τ2 h2 o2 (l.tr t2) (t.trans t2) p⟩
theorem de_joined {v1 v2 : Expr} {rest : List Expr} (h : Djs X ρ Q (v1 :: v2 :: rest) Str.empty τ) : De X ρ τ (.JoinedStr (v1 :: v2 :: rest) pos) Q := .mk fun σ H o l QQ p =>
  we_of (pe_joined (pj_we (v1 :: v2 :: rest))) (djs_run (v1 :: v2 :: rest) Str.empty σ H τ h o l Tr.refl p)
end
end Dl

/-! Dl25: xs[lo::step] of a list of data, lo and step written -/
namespace Dl
open PySem PySem.Spec L2
/-- the places that a slice takes -/
def idxOf (n : Nat) (lo hi st : Option Int) : List Nat := sliceRange (sliceBounds lo hi st n).1 (sliceBounds lo hi st n).2.1 (sliceBounds lo hi st n).2.2
def pickL {α : Type} (ix : List Nat) (xs : List α) : List α := ix.filterMap (xs[·]?)
theorem pickL_paired {α β : Type} {R : α → β → Prop} {xs : List α} {ys : List β} (h : Paired R xs ys) : ∀ ix : List Nat, Paired R (pickL ix xs) (pickL ix ys)
  | [] => .nil
  | i :: ix => by
    have ih := pickL_paired h ix
    have hl : xs.length = ys.length := Paired.length h
    have get : ∀ {xs : List α} {ys : List β} {i : Nat} {x : α}, Paired R xs ys → xs[i]? = some x → ∃ y, ys[i]? = some y ∧ R x y := by
      intro xs ys i x r
      induction r generalizing i with
      | nil => intro e; simp at e
      | cons a b ih =>
        intro e
        cases i with
        | zero =>
          simp at e
          subst e
          exact ⟨_, rfl, a⟩
        | succ i =>
          obtain ⟨v, h1, h2⟩ := ih (by simpa using e)
          exact ⟨v, by simpa using h1, h2⟩
    unfold pickL at ih ⊢
    cases e : xs[i]? with
    | none =>
      have e2 : ys[i]? = none := List.getElem?_eq_none (by have := List.getElem?_eq_none_iff.mp e; omega)
      rw [List.filterMap_cons, List.filterMap_cons, e, e2]
      exact ih
    | some x =>
      obtain ⟨y, e2, r⟩ := get h e
      rw [List.filterMap_cons, List.filterMap_cons, e, e2]
      exact .cons r ih
theorem pickL_len {α : Type} (xs : List α) : ∀ ix : List Nat, (pickL ix xs).length ≤ ix.length := fun ix => List.length_filterMap_le _ _
theorem dnl_paired {K : PySem.W.Frag} {N : List Addr} {H : Hp} : ∀ {vs : List V} {ds : List PyData}, DnL K N H vs ds → Paired (Dn K N H) vs ds
  | _, _, .nil => .nil
  | _, _, .cons a b => .cons a (dnl_paired b)
theorem dnl_of_paired {K : PySem.W.Frag} {N : List Addr} {H : Hp} : ∀ {vs : List V} {ds : List PyData}, Paired (Dn K N H) vs ds → DnL K N H vs ds
  | _, _, .nil => .nil
  | _, _, .cons a b => .cons a (dnl_of_paired b)
section
variable {X : Cx} {ρ : En} {τ : Store} {Q : MV → Store → Prop} {a : Expr} {k : Nat} {p1 p2 p3 pos : Pos}
theorem de_step {lo : Option Expr} {lv : Option Int} {tl : TO} {st : Int} (hlo : PO X lo tl) (hl : ∀ σ H Q, Q lv H → tl σ H Q) (h0 : st ≠ 0)
    (h : De X ρ τ a fun x τ1 => ∃ ds, x = .val (.list ds) ∧ (idxOf ds.length lv none (some st)).length ≤ 1000000 ∧ Q (.val (.list (pickL (idxOf ds.length lv none (some st)) ds))) τ1) :
    De X ρ τ (.Subscript a (.Slice lo none (some (.Constant (.int st) k p1)) p3) pos) Q := .mk fun σ H o l QQ p pins s I => by
  refine PyProof.Rows.Subscript_ (thn (h σ H o l (fun v H1 => ∃ b vs, v = .ref b ∧ SqL X.K H1 b vs ∧ (idxOf vs.length lv none (some st)).length ≤ 1000000 ∧ ∀ q, H1 q = none → QQ (.ref q) (upd H1 q (.lst (pickL (idxOf vs.length lv none (some st)) vs)))) (fun v H1 x τ1 ⟨ds, ex, hn, q⟩ o1 r1 t1 => ?_) pins s I) fun v s1 ⟨x, H1, I1, r1, q1⟩ => ?_)
  · subst ex
    obtain ⟨b, vs, rfl, hq, dl⟩ := r1.seqL o1 (rfl : datOf τ1 (.val (.list ds)) = some (.list ds))
    rw [← dl.length] at hn q
    exact ⟨b, vs, rfl, hq, hn, (p.step t1).lst o1 (dnl_of_paired (pickL_paired (dnl_paired dl) _)) q⟩
  obtain ⟨b, xs, ex, hx, hn, q⟩ := q1
  subst ex
  cases r1
  have hst : PO X (some (.Constant (.int st) k p1)) (tPart (tC (.int st))) := po_some pe_int
  refine wpAny_Slice (thn (hlo.run pins s1 σ H1 (fun o H2 => o = lv ∧ H2 = H1) I1 (hl _ _ _ ⟨rfl, rfl⟩)) fun vl s2 ⟨l2, H2, I2, pl, el, e2⟩ => ?_)
  subst el e2
  refine thn (po_none.run pins s2 σ H2 (fun o H3 => o = none ∧ H3 = H2) I2 ⟨rfl, rfl⟩) fun vu s3 ⟨u, H3, I3, pu, eu, e3⟩ => ?_
  subst eu e3
  refine thn (hst.run pins s3 σ H3 (fun o H4 => o = some st ∧ H4 = H3) I3 ⟨st, rfl, rfl, rfl⟩) fun vs s4 ⟨o4, H4, I4, ps, eo, e4⟩ => ?_
  subst eo e4
  have I5 : Inv X pins σ H4 { s4 with heap := s4.heap.push { cls := .type "slice", data := .fields #[vl, vu, vs] } } := I4.kept (t' := s4.toks) fun _ _ z => Heap.get?_push_of_some _ z
  obtain ⟨its, r, ht, hz⟩ := I5.list hx
  have hlen := r.length
  have ep : PySem.slicePick its.toArray l2 none (some st) = (pickL (idxOf xs.length l2 none (some st)) its).toArray := by
    unfold PySem.slicePick pickL idxOf
    rw [List.size_toArray, ← hlen]
    refine congrArg List.toArray (congrArg (fun f => List.filterMap f _) (funext fun i => ?_))
    simp
  show wpAny (model X.prog X.w) X.A (PyProof.Rows.subscriptTail a (.Slice lo none (some (.Constant (.int st) k p1)) p3) (.ref b) (.ref s4.heap.objs.size)) (EP X pins σ QQ) X.xe { s4 with heap := s4.heap.push { cls := .type "slice", data := .fields #[vl, vu, vs] } }
  refine PyProof.Rows.tail_any (ops := [.ref b, .ref s4.heap.objs.size]) ht.isList.typeIs (PySem.slot_list_getitem.lookup) ?_ (by with_unfolding_all rfl)
  refine wpAny_getItem_list_slice ht.isList (Heap.IsSliceOf.new _ vl vu vs) pl pu ps (fun z => h0 (Option.some.inj z)) ?_ (by rw [List.size_toArray]; omega)
  rw [ep]
  have r2 : Vals (pickL (idxOf xs.length l2 none (some st)) xs) (pickL (idxOf xs.length l2 none (some st)) its) := pickL_paired r _
  refine ⟨.ref _, _, I5.laid (t' := s4.toks) (o := .lst (pickL (idxOf xs.length l2 none (some st)) xs)) (fun _ _ z => Heap.get?_push_of_some _ z) (Nat.le_refl _) ?_, rfl, q _ (I5.hok.fresh (Nat.le_refl _))⟩
  exact ⟨by have := pickL_len xs (idxOf xs.length l2 none (some st)); rw [sizeLine_eq]; omega, _, 0, r2, Heap.get?_push_size _ rfl⟩
end
end Dl

/-! Dl26: tuples that hold objects; own classes: fields -/
namespace Dl
open PySem PySem.Spec L2
def toX : MV → Option (PyData ⊕ Addr)
  | .val d => some (.inl d)
  | .hdl a => some (.inr a)
  | _ => none
def ofX : PyData ⊕ Addr → MV
  | .inl d => .val d
  | .inr a => .hdl a
def toXs : List MV → Option (List (PyData ⊕ Addr))
  | [] => some []
  | x :: xs => (toX x).bind fun y => (toXs xs).map (y :: ·)
theorem toX_rx {K : PySem.W.Frag} {N : List Addr} {H : Hp} {v : V} {sv : MV} {x : PyData ⊕ Addr} (e : toX sv = some x) (r : Rv K N H v sv) : Rx K N H v x := by
  cases sv with
  | val d => cases e; exact r
  | hdl a => cases e; exact r
  | scr ns => cases e
  | tup xs => cases e
theorem ofX_rv {K : PySem.W.Frag} {N : List Addr} {H : Hp} {v : V} {x : PyData ⊕ Addr} (r : Rx K N H v x) : Rv K N H v (ofX x) := by
  cases x with
  | inl d => exact r
  | inr a => exact r
theorem toXs_rx {K : PySem.W.Frag} {N : List Addr} {H : Hp} : ∀ {vs : List V} {svs : List MV} {xs : List (PyData ⊕ Addr)}, toXs svs = some xs → RvL K N H vs svs → Paired (Rx K N H) vs xs
  | _, _, _, e, .nil => by
    cases e
    exact .nil
  | v :: vs, sv :: svs, xs, e, .cons a b => by
    unfold toXs at e
    cases e1 : toX sv with
    | none => rw [e1] at e; cases e
    | some y =>
      cases e2 : toXs svs with
      | none => rw [e1, e2] at e; cases e
      | some ys =>
        rw [e1, e2] at e
        cases e
        exact .cons (toX_rx e1 a) (toXs_rx e2 b)
theorem rx_tr {K : PySem.W.Frag} {N N' : List Addr} {H H' : Hp} (t : Tr N H N' H') {vs : List V} {xs : List (PyData ⊕ Addr)} (r : Paired (Rx K N H) vs xs) : Paired (Rx K N' H') vs xs := Paired.mapP r fun v x q => by
  cases x with
  | inl d => exact Dn.tr t q
  | inr a => exact q
section
variable {X : Cx} {ρ : En} {τ : Store} {Q : MV → Store → Prop} {D : DE} {es : List Expr} {tg a : Expr} {pos : Pos}
theorem de_tupX {x1} (h : Da X ρ τ es fun svs τ1 => ∃ xs, toXs svs = some xs ∧ svs.length ≤ 1000000 ∧ Q (.tup xs) τ1) : De X ρ τ (.Tuple es x1 pos) Q := .mk fun σ H o l QQ p =>
  we_of (pe_tup pa_wa) (h σ H o l _ fun vs H1 svs τ1 ⟨xs, e, hl, q⟩ o1 r1 t1 => ⟨small_sz (by rw [Paired.length r1]; exact hl), fun pa ha =>
    p _ _ _ τ1 q (o1.new ha) ⟨pa, vs, rfl, ⟨o1.fresh ha, upd_same⟩, rx_tr (Tr.new ha) (toXs_rx e r1)⟩ (t1.trans (Tr.new ha))⟩)
/-- a, b, .. = such a tuple -/
theorem rxL_ofX {K : PySem.W.Frag} {N : List Addr} {H : Hp} : ∀ {vs : List V} {xs : List (PyData ⊕ Addr)}, Paired (Rx K N H) vs xs → RvL K N H vs (xs.map ofX)
  | _, _, .nil => .nil
  | _, _, .cons a b => .cons (ofX_rv a) (rxL_ofX b)
theorem ds_asgX {js : List Nat} (hg : PGx X tg (.tup js)) (h : De X ρ τ a fun sv τ1 => ∃ xs, sv = .tup xs ∧ xs.length = js.length ∧ D.nx (setAll ρ js (xs.map ofX)) τ1)
    (hs : swapsWithSole [tg] a pos.line X.env = pure false := by rfl) (hw : swappedStores [tg] a X.env = pure none := by rfl)
    (h1 : (assignEach [tg] X.env).map (·.2) = [assign tg X.env] := by rfl) : Ds X ρ τ (.Assign [tg] a pos) D := .mk fun σ H o l DD p =>
  ws_of (ps_asg pe_we hg hs hw h1) (h σ H o l _ fun v H1 sv τ1 ⟨xs, ex, hl, q⟩ o1 r1 t1 => by
    subst ex
    obtain ⟨b, vs, rfl, n, r⟩ := r1
    exact ⟨b, vs, rfl, n.sq, by rw [Paired.length r]; exact hl, p.nx _ _ _ τ1 q o1 ((l.tr t1).setAllM (rxL_ofX r)) t1⟩)
end
end Dl

/-! Dl27: own classes: fields, methods, making one -/
namespace Dl
open PySem PySem.Spec L2
abbrev Fds := List (Str × MV)
theorem fld_get {K : PySem.W.Frag} {N : List Addr} {H : Hp} {f : Str} : ∀ {vs : List (Str × V)} {fs : Fds} {sv : MV}, Paired (fun (p : Str × V) (q : Str × MV) => p.1 = q.1 ∧ Rv K N H p.2 q.2) vs fs → fs.lookup f = some sv → ∃ v, vs.lookup f = some v ∧ Rv K N H v sv
  | _, _, _, .nil, e => by cases e
  | (g, v) :: vs, (g', s) :: fs, sv, .cons a b, e => by
    obtain ⟨e1, r⟩ := a
    have e1 : g = g' := e1
    subst e1
    rw [List.lookup_cons] at e ⊢
    cases h : f == g with
    | true =>
      rw [h] at e
      cases e
      exact ⟨v, rfl, r⟩
    | false =>
      rw [h] at e
      exact fld_get b e
theorem fld_none {K : PySem.W.Frag} {N : List Addr} {H : Hp} {f : Str} : ∀ {vs : List (Str × V)} {fs : Fds}, Paired (fun (p : Str × V) (q : Str × MV) => p.1 = q.1 ∧ Rv K N H p.2 q.2) vs fs → fs.lookup f = none → vs.lookup f = none
  | _, _, .nil, _ => rfl
  | (g, v) :: vs, (g', s) :: fs, .cons a b, e => by
    obtain ⟨e1, r⟩ := a
    have e1 : g = g' := e1
    subst e1
    rw [List.lookup_cons] at e ⊢
    cases h : f == g with
    | true =>
      rw [h] at e
      cases e
    | false =>
      rw [h] at e
      exact fld_none b e
def putM (f : Str) (v : MV) : Fds → Fds
  | [] => [(f, v)]
  | (g, x) :: r => if g = f then (g, v) :: r else (g, x) :: putM f v r
theorem put_ok {K : PySem.W.Frag} {N : List Addr} {H : Hp} {f : Str} {v : V} {sv : MV} (r : Rv K N H v sv) : ∀ {vs : List (Str × V)} {fs : Fds}, Paired (fun (p : Str × V) (q : Str × MV) => p.1 = q.1 ∧ Rv K N H p.2 q.2) vs fs →
    Paired (fun (p : Str × V) (q : Str × MV) => p.1 = q.1 ∧ Rv K N H p.2 q.2) (putF f v vs) (putM f sv fs)
  | _, _, .nil => .cons ⟨rfl, r⟩ .nil
  | (g, x) :: vs, (g', s) :: fs, .cons a b => by
    obtain ⟨e1, q⟩ := a
    have e1 : g = g' := e1
    subst e1
    unfold putF putM
    by_cases h : g = f
    · rw [if_pos h, if_pos h]
      exact .cons ⟨rfl, r⟩ b
    · rw [if_neg h, if_neg h]
      exact .cons ⟨rfl, q⟩ (put_ok r b)
theorem fds_len {K : PySem.W.Frag} {N : List Addr} {H : Hp} {vs : List (Str × V)} {fs : Fds} (h : Paired (fun (p : Str × V) (q : Str × MV) => p.1 = q.1 ∧ Rv K N H p.2 q.2) vs fs) : vs.length = fs.length := Paired.length h
theorem fds_tr {K : PySem.W.Frag} {N N' : List Addr} {H H' : Hp} (t : Tr N H N' H') {vs : List (Str × V)} {fs : Fds} (h : Paired (fun (p : Str × V) (q : Str × MV) => p.1 = q.1 ∧ Rv K N H p.2 q.2) vs fs) : Paired (fun (p : Str × V) (q : Str × MV) => p.1 = q.1 ∧ Rv K N' H' p.2 q.2) vs fs :=
  Paired.mapP h fun _ _ q => ⟨q.1, q.2.tr t⟩
section
variable {X : Cx} {ρ : En} {τ : Store} {Q : MV → Store → Prop} {a : Expr} {f : Str} {pos : Pos}
/-- e.f -/
theorem de_fld (h : De X ρ τ a fun x τ1 => ∃ l C dx fs sv, x = .hdl l ∧ τ1.lookup l = some (.ins C dx fs) ∧ Cls X.K C ∧ NoAttr X.K C f ∧ fs.lookup f = some sv ∧ Q sv τ1)
    (hb : attributeBase a f X.env (eval a X.env) = eval a X.env := by rfl) : De X ρ τ (.Attribute a f pos) Q := .mk fun σ H o l QQ p =>
  we_of (pe_fld pe_we hb) (h σ H o l _ fun v H1 x τ1 ⟨b, C, dx, fs, sv, ex, e, c, n, ef, q⟩ o1 r1 t1 => by
    subst ex
    cases (r1 : v = .ref b)
    obtain ⟨vs, h1, h2⟩ := o1.get e
    obtain ⟨u, e2, r2⟩ := fld_get h2 ef
    exact ⟨b, C, dx, vs, u, rfl, h1, c, n, e2, p u H1 sv τ1 q o1 r2 t1⟩)
/-- e.f = v -/
theorem ds_fld {D : DE} {v : Expr} {pos' : Pos} (h : De X ρ τ v fun y τ1 => De X ρ τ1 a fun x τ2 => ∃ l C dx fs, x = .hdl l ∧ τ2.lookup l = some (.ins C dx fs) ∧ Cls X.K C ∧ NoAttr X.K C f ∧ fs.length < 1000 ∧ D.nx ρ (setS l (.ins C dx (putM f y fs)) τ2))
    (hs : swapsWith v (some (.Attribute a f pos')) pos.line X.env = pure false := by rfl) : Ds X ρ τ (.Assign [.Attribute a f pos'] v pos) D := .mk fun σ H o l DD p =>
  ws_of (ps_fld pe_we pe_we hs) (h σ H o l _ fun u H1 y τ1 h1 o1 r1 t1 => h1 σ H1 o1 (l.tr t1) _ fun w H2 x τ2 ⟨b, C, dx, fs, ex, e, c, n, hl, q⟩ o2 r2 t2 => by
    subst ex
    cases (r2 : w = .ref b)
    obtain ⟨vs, h1, h2⟩ := o2.get e
    have hm : b ∈ dom τ2 := List.mem_map_of_mem (mem_of_lookup e)
    have tw : Tr (dom τ2) H2 (dom τ2) (upd H2 b (.ins C dx (putF f u vs))) := Tr.write hm
    have t3 : Tr (dom τ2) H2 (dom (setS b (.ins C dx (putM f y fs)) τ2)) (upd H2 b (.ins C dx (putF f u vs))) := by
      rw [dom_setS]
      exact tw
    refine ⟨b, C, dx, vs, rfl, h1, c, n, by rw [fds_len h2]; exact hl, ?_⟩
    exact p.nx σ _ ρ _ q (o2.write hm ⟨_, upd_same, put_ok ((r1.tr t2).tr tw) (fds_tr tw h2)⟩) (((l.tr t1).tr t2).tr t3) ((t1.trans t2).trans t3))
end
/-! methods -/
section
variable {X : Cx} {CX : CXT} {k : Nat} {f C : Addr} {fd : FuncData} {ps : List Str} {sp : Sp} {E : St → XK} {m : Str} {apos pos : Pos} {e o : Expr} {es : List Expr} {ta : TE} {t : TA}
def tMethX (C : Addr) (m : Str) (sp : Sp) (E : St → XK) (ta : TE) (t : TA) : TE := fun σ H Q => ta σ H fun x H1 => ∃ a dx fs, x = .ref a ∧ H1 a = some (.ins C dx fs) ∧ fs.lookup m = none ∧ t σ H1 fun vs H2 => sp (x :: vs) H2 Q (E σ)
/-- what the text of o.m(e, ..) does -/
abbrev MethText (X : Cx) (o : Expr) (m : Str) (args : List Expr) (apos pos : Pos) (pl : Sem Bool) : Prop := eval (.Call (.Attribute o m apos) args [] pos) X.env = (do
      let ov ← eval o X.env
      standAt apos.atName
      let (f, first) ← holding [ov] (getMethod ov m pl)
      callWith pos f first (backTo pos (starEach args X.env)) (backToKw pos (keywordEach [] X.env)))
theorem pe_methX {pl : Sem Bool} (he : PE X o ta) (c : Cls X.K C) (hm : Meth X.K C m f) (F : FnOk X.prog X.w X.K X.mg X.base CX k f fd ps sp) (hr : Room k X.A) (hb : Binds X.K fd ps []) (hx : ∀ σ, PassesAt CX X σ (E σ)) (ha : PA X (e :: es) t)
    (ht : MethText X o m (e :: es) apos pos pl) (hst : starEach (e :: es) X.env = (false, eval e X.env) :: starEach es X.env) (hpl : (backTo pos (starEach es X.env)).any (·.1) = false) :
    PE X (.Call (.Attribute o m apos) (e :: es) [] pos) (tMethX C m sp E ta t) := ⟨fun pins s σ H Q I h =>
  PySem.W.methodCall_KW (pl := pl) (thn (he.run pins s σ H _ I h) fun u s1 ⟨x, H1, I1, rx, a, dx, fs, ex, ea, hn, q⟩ => by
    subst ex
    cases (show u = Value.ref a from rx)
    exact getmeth_ok I1 ea c hm hn (PySem.W.callWith_K (first := [.ref a]) (h₀ := X.base) I.ok.mod.kin hm.kp
      (thn (ha.run pos pins s1 σ H1 _ I1 q) fun us s2 ⟨vs, H2, I2, r, q2⟩ => ⟨I2.kIn, run_fnS (us := .ref a :: us) (vs := .ref a :: vs) F hr hb (hx σ) I2 (.cons rfl r) q2⟩) hst hpl)) ht⟩
end
structure KnowsM (P : Program) (w : World) (K : PySem.W.Frag) (mg : Str → Option Value) (base : Heap) (k : Nat) (C : Addr) (m : Str) (R : CtrX) : Prop where
  ex : ∃ (f : Addr) (fd : FuncData) (ps : List Str), FnOk P w K mg base (L2.CX P w) k f fd ps (spX K R) ∧ Cls K C ∧ Meth K C m f ∧ Binds K fd ps []
section
variable {X : Cx} {ρ : En} {τ : Store} {Q : MV → Store → Prop} {R : XR} {a b : Expr} {es : List Expr} {m : Str} {apos pos : Pos}
/-- o.m(e, ..), where an exception may leave -/
theorem dex_meth {k j : Nat} {C : Addr} {Ct : CtrX} {pl : Sem Bool} (F : KnowsM X.prog X.w X.K X.mg X.base k C m Ct) (hr : Room j X.A)
    (h : De X ρ τ a fun x τ1 => ∃ l dx fs, x = .hdl l ∧ τ1.lookup l = some (.ins C dx fs) ∧ fs.lookup m = none ∧ Da X ρ τ1 (b :: es) fun xs τ2 => Ct (.hdl l :: xs) τ2 Q fun cls τ3 => R cls ρ τ3) (hk : k ≤ j := by decide)
    (ht : MethText X a m (b :: es) apos pos pl := by rfl) (hst : starEach (b :: es) X.env = (false, eval b X.env) :: starEach es X.env := by rfl) (hpl : (backTo pos (starEach es X.env)).any (·.1) = false := by rfl) :
    Dex X ρ τ (.Call (.Attribute a m apos) (b :: es) [] pos) Q R := ⟨fun σ H o l QQ p W tk pw => by
  obtain ⟨f, fd, ps, F, c, hm, bd⟩ := F.ex
  refine we_of (pe_methX pe_we c hm F (hr.mono hk) bd (passAt tk) pa_wa ht hst hpl) (h σ H o l _ fun v H1 x τ1 ⟨l1, dx, fs, ex, e, hn, h1⟩ o1 r1 t1 => ?_)
  subst ex
  cases (show v = .ref l1 from r1)
  obtain ⟨vs, e1, e2⟩ := o1.get e
  refine ⟨l1, dx, vs, rfl, e1, fld_none e2 hn, h1 σ H1 o1 (l.tr t1) _ fun us H2 xs τ2 h2 o2 r2 t2 => ?_⟩
  exact ⟨τ2, .hdl l1 :: xs, Q, fun cls τ3 => R cls ρ τ3, o2, .cons rfl r2, h2, (p.step t1).step t2, fun cls H3 τ3 q o3 t3 => pw cls σ H3 ρ τ3 q o3 (((l.tr t1).tr t2).tr t3) ((t1.trans t2).trans t3)⟩⟩
end
end Dl

/-! Dl28: making an instance, where its __init__ may raise -/
namespace Dl
open PySem PySem.Spec L2
section
variable {X : Cx} {CX : CXT} {k : Nat} {f C : Addr} {fd : FuncData} {ps : List Str} {sp : Sp} {E : St → XK} {x : Str} {p pos : Pos} {e : Expr} {es : List Expr} {t : TA}
def tMakeX (C : Addr) (sp : Sp) (E : St → XK) (t : TA) : TE := fun σ H Q => t σ H fun vs H1 => ∀ y dx, H1 y = none → H1 dx = none → dx ≠ y → sp (.ref y :: vs) (upd (upd H1 dx (.own y)) y (.ins C dx [])) (fun v H2 => v = .non ∧ Q (.ref y) H2) (E σ)
theorem run_makeX {pins : List (Addr × Obj)} {σ : St} {H : Hp} {s : Shared} {Q : VK} {us : List Value} {vs : List V} (M : Mk X.K C f) (F : FnOk X.prog X.w X.K X.mg X.base CX k f fd ps sp) (hr : Room (k + 1) X.A) (hb : Binds X.K fd ps []) (hx : ∀ σ, PassesAt CX X σ (E σ)) (I : Inv X pins σ H s) (r : Vals vs us)
    (h : ∀ y dx, H y = none → H dx = none → dx ≠ y → sp (.ref y :: vs) (upd (upd H dx (.own y)) y (.ins C dx [])) (fun v H2 => v = .non ∧ Q (.ref y) H2) (E σ)) : wpAny (model X.prog X.w) X.A (call (.ref C) us) (EP X pins σ Q) X.xe s := by
  have n1 : H s.heap.objs.size = none := I.hok.fresh (Nat.le_refl _)
  have n2 : H (s.heap.objs.size + 1) = none := I.hok.fresh (Nat.le_succ _)
  have q0 := h (s.heap.objs.size + 1) s.heap.objs.size n2 n1 (Nat.ne_of_lt (Nat.lt_succ_self _))
  have J := Inv.made (C := C) I
  have rr : Vals (V.ref (s.heap.objs.size + 1) :: vs) (Value.ref (s.heap.objs.size + 1) :: us) := .cons rfl r
  have hl : (Value.ref (s.heap.objs.size + 1) :: us).length = ps.length := rr.length.symm.trans (F.len _ _ _ _ q0)
  have bd := hb _ (Value.ref (s.heap.objs.size + 1) :: us) J.kIn (by rw [List.append_nil]; exact hl)
  rw [List.append_nil] at bd
  refine wpAny_call (make_map (f := f) I.kIn M.makes M.init (beq_iff_eq.mp M.fn) (codeAny_mono (F.run _ X.stack _ _ _ _ _ _ (E σ) (hr.make C us []) (J.env0.make C us []) bd rr q0) fun z s' hz => ?_))
  rcases z with u | fl
  · exact hx σ pins _ _ u s' J hz
  · cases fl with
    | ret u =>
      obtain ⟨_, H', J', rv, rfl, q⟩ := J.after hz
      exact ⟨rv, V.ref (s.heap.objs.size + 1), H', J', rfl, q⟩
    | _ => exact hz.elim
theorem pe_makeX (M : Mk X.K C f) (F : FnOk X.prog X.w X.K X.mg X.base CX k f fd ps sp) (hr : Room (k + 1) X.A) (hg : Gl X x) (hm : X.mg x = some (.ref C)) (hb : Binds X.K fd ps []) (hx : ∀ σ, PassesAt CX X σ (E σ)) (ha : PA X (e :: es) t)
    (hdb : (x == ("__debug__" : Str)) = false) (he : starEach (e :: es) X.env = (false, eval e X.env) :: starEach es X.env) (hpl : (backTo pos (starEach es X.env)).any (·.1) = false) : PE X (.Call (.Name x p) (e :: es) [] pos) (tMakeX C sp E t) := ⟨fun pins s σ H Q I h =>
  wpAny_Call_Name_kw (ld_glob I hg hm (PySem.W.callWith_K (h₀ := X.base) I.ok.mod.kin M.kp (thn (ha.run pos pins s σ H _ I h) fun us s1 ⟨vs, H1, I1, r, q⟩ => ⟨I1.kIn, run_makeX M F hr hb hx I1 r q⟩) he hpl) hdb)⟩
end
/-- a class whose __init__ keeps a promise -/
structure KnowsC (P : Program) (w : World) (K : PySem.W.Frag) (mg : Str → Option Value) (base : Heap) (k : Nat) (x : Str) (C : Addr) (R : CtrX) : Prop where
  ex : ∃ (f : Addr) (fd : FuncData) (ps : List Str), FnOk P w K mg base (L2.CX P w) k f fd ps (spX K R) ∧ Mk K C f ∧ mg x = some (.ref C) ∧ Binds K fd ps []
section
variable {X : Cx} {ρ : En} {τ : Store} {Q : MV → Store → Prop} {R : XR} {b : Expr} {es : List Expr} {pos p1 : Pos}
theorem dex_make {k j : Nat} {x : Str} {C : Addr} {Ct : CtrX} (F : KnowsC X.prog X.w X.K X.mg X.base k x C Ct) (hr : Room j X.A) (hg : Gl X x)
    (h : Da X ρ τ (b :: es) fun xs τ1 => ∀ l dx, l ∉ dom τ1 → Ct (.hdl l :: xs) ((l, .ins C dx []) :: τ1) (fun sv τ2 => sv = .val .none ∧ Q (.hdl l) τ2) fun cls τ2 => R cls ρ τ2) (hk : k + 1 ≤ j := by decide)
    (hdb : (x == ("__debug__" : Str)) = false := by decide) (he : starEach (b :: es) X.env = (false, eval b X.env) :: starEach es X.env := by rfl) (hpl : (backTo pos (starEach es X.env)).any (·.1) = false := by rfl) :
    Dex X ρ τ (.Call (.Name x p1) (b :: es) [] pos) Q R := ⟨fun σ H o l QQ p W tk pw => by
  obtain ⟨f, fd, ps, F, M, gm, bd⟩ := F.ex
  refine we_of (pe_makeX M F (hr.mono hk) hg gm bd (passAt tk) pa_wa hdb he hpl) (h σ H o l _ fun us H1 xs τ1 h1 o1 r1 t1 => ?_)
  intro y dx ny ndx hne
  have t2 : Tr (dom τ1) H1 (dom τ1) (upd H1 dx (.own y)) := Tr.new ndx
  have o2 := o1.new (o := HO.own y) ndx
  have ny2 : upd H1 dx (.own y) y = none := by rw [upd_ne (Ne.symm hne)]; exact ny
  have t3 : Tr (dom τ1) (upd H1 dx (.own y)) (dom ((y, MO.ins C dx []) :: τ1)) (upd (upd H1 dx (.own y)) y (.ins C dx [])) := Tr.push ny2
  have o3 : StOk X.K (upd (upd H1 dx (.own y)) y (.ins C dx [])) ((y, MO.ins C dx []) :: τ1) := o2.push ny2 ⟨[], upd_same, .nil⟩
  have tt := t2.trans t3
  refine ⟨(y, .ins C dx []) :: τ1, .hdl y :: xs, _, fun cls τ2 => R cls ρ τ2, o3, .cons rfl (r1.tr tt), h1 y dx (o1.fresh ny), ?_, fun cls H3 τ3 q o4 t4 => pw cls σ H3 ρ τ3 q o4 (((l.tr t1).tr tt).tr t4) ((t1.trans tt).trans t4)⟩
  intro v H3 sv τ3 ⟨ev, q⟩ o4 r4 t4
  subst ev
  cases r4
  exact ⟨rfl, p (.ref y) H3 (.hdl y) τ3 q o4 rfl ((t1.trans tt).trans t4)⟩⟩
end
end Dl

/-! Dl29: len of an own class -/
namespace Dl
open PySem PySem.Spec L2
theorem fnR_ok {P : Program} {w : World} {K : PySem.W.Frag} {mg : Str → Option Value} {base : Heap} {CX : CXT} {k : Nat} {f : Addr} {fd : FuncData} {ps : List Str} {sp : Sp} (F : FnOk P w K mg base CX k f fd ps sp) (hb : Binds K fd ps []) : FnR P w K mg base CX k f sp :=
  fun A outer s H us vs Q E hr e0 r h => by
    have KX : K.In s.heap := e0.mod.kin.keeps fun b o e => (e0.bs b o e).1
    have bd := hb s us KX (by rw [List.append_nil, ← r.length]; exact F.len _ _ _ _ h)
    rw [List.append_nil] at bd
    exact F.run A outer s H ⟨us, []⟩ us vs Q E hr e0 bd r h
section
variable {X : Cx} {CX : CXT} {k : Nat} {g C : Addr} {sp : Sp} {E : XK}
def rLenOwn (C : Addr) (sp : Sp) (E : XK) : List V → Hp → VK → Prop := fun xs H Q => ∃ (a dx : Addr) (fs : List (Str × V)), xs = [V.ref a] ∧ H a = some (.ins C dx fs) ∧ sp [.ref a] H (fun z H' => ∃ n : Int, z = .int n ∧ 0 ≤ n ∧ n < 2 ^ 63 ∧ Q (.int n) H') E
theorem call_lenOwn (hs : PySem.W.findIn X.K (.ref C) "__len__" = some (some (.ref g))) (hf : PySem.W.isFn X.K (.ref g) = true) (F : FnR X.prog X.w X.K X.mg X.base CX k g sp) (hr : Room (k + 1) X.A) (hx : Passes CX X E) : CallR X (.builtin "len") (rLenOwn C sp E) := by
  intro pins s σ H xs us Q I r h
  obtain ⟨a, dx, fs, rfl, ha, q⟩ := h
  obtain ⟨u, rfl, ru⟩ := vals1 r
  cases (show u = Value.ref a from ru)
  obtain ⟨mA, O, _⟩ := ins_get I.hok ha
  obtain ⟨od, J, _⟩ := O.look
  obtain ⟨m, fr⟩ := I.fr
  refine PySem.W.len_K fr I.ok.mod.kin J hs hf (wpAny_mono (wpAny_call (SlX.run_at (us := [.ref a]) (ws := [.ref a]) F hr.in1 I.env0.in1 hx I (.cons rfl .nil) q)) (fun v s' z => ?_) fun _ _ x => x)
  obtain ⟨z', H', I', rz, n, rfl, n0, n1, qz⟩ := z
  obtain ⟨t, rfl⟩ := (show ∃ t, v = Value.int n t from rz)
  exact ⟨⟨n0, n1⟩, .int n, H', I'.tok _, ⟨_, rfl⟩, qz⟩
end
/-- a method that raises nothing -/
structure KnowsN (P : Program) (w : World) (K : PySem.W.Frag) (mg : Str → Option Value) (base : Heap) (k : Nat) (C : Addr) (m : Str) (R : Ctr) : Prop where
  ex : ∃ (f : Addr) (fd : FuncData) (ps : List Str), FnOk P w K mg base CX0 k f fd ps (spC K R) ∧ Cls K C ∧ Meth K C m f ∧ Binds K fd ps []
section
variable {X : Cx} {ρ : En} {τ : Store} {Q : MV → Store → Prop} {a b : Expr} {es : List Expr} {m : Str} {pos apos p1 : Pos}
theorem de_lenOwn {k j : Nat} {C : Addr} {Ct : Ctr} (B : Bl X.mg) (hg : Gl X "len") (F : KnowsN X.prog X.w X.K X.mg X.base k C "__len__" Ct) (hr : Room j X.A)
    (h : De X ρ τ a fun x τ1 => ∃ l dx fs, x = .hdl l ∧ τ1.lookup l = some (.ins C dx fs) ∧ Ct [.hdl l] τ1 fun sv τ2 => ∃ n : Int, sv = .val (.int n) ∧ 0 ≤ n ∧ n < 2 ^ 63 ∧ Q (.val (.int n)) τ2) (hk : k + 1 ≤ j := by decide)
    (hs : starEach [a] X.env = (false, eval a X.env) :: starEach [] X.env := by rfl) : De X ρ τ (.Call (.Name "len" p1) [a] [] pos) Q := by
  obtain ⟨f, fd, ps, F, c, hm, bd⟩ := F.ex
  exact de_callB (call_lenOwn (E := fun _ _ _ => False) hm.at_ hm.fn (fnR_ok F bd) (hr.mono hk) pass0) hg B.h_len (by decide +kernel) (da_one (h.mono fun x τ1 ⟨l, dx, fs, ex, e, q⟩ => .mk fun H vs o r QQ p => by
    obtain ⟨v, rfl, r1⟩ := paired1 r
    subst ex
    cases (show v = .ref l from r1)
    obtain ⟨us, e1, e2⟩ := o.get e
    refine ⟨l, dx, us, rfl, e1, τ1, [.hdl l], _, o, .cons rfl .nil, q, ?_⟩
    intro z H2 sv τ2 ⟨n, ez, n0, n1, q2⟩ o2 r2 t2
    subst ez
    cases r2
    exact ⟨n, rfl, n0, n1, p _ H2 _ τ2 q2 o2 (Dn.int _) t2⟩) hs) hs rfl
/-- o.m(e, ..), where nothing is raised -/
theorem de_meth {k j : Nat} {C : Addr} {Ct : Ctr} {pl : Sem Bool} (F : KnowsN X.prog X.w X.K X.mg X.base k C m Ct) (hr : Room j X.A)
    (h : De X ρ τ a fun x τ1 => ∃ l dx fs, x = .hdl l ∧ τ1.lookup l = some (.ins C dx fs) ∧ fs.lookup m = none ∧ Da X ρ τ1 (b :: es) fun xs τ2 => Ct (.hdl l :: xs) τ2 Q) (hk : k ≤ j := by decide)
    (ht : MethText X a m (b :: es) apos pos pl := by rfl) (hst : starEach (b :: es) X.env = (false, eval b X.env) :: starEach es X.env := by rfl) (hpl : (backTo pos (starEach es X.env)).any (·.1) = false := by rfl) :
    De X ρ τ (.Call (.Attribute a m apos) (b :: es) [] pos) Q := .mk fun σ H o l QQ p => by
  obtain ⟨f, fd, ps, F, c, hm, bd⟩ := F.ex
  refine we_of (pe_methX (E := fun _ _ _ _ => False) pe_we c hm F (hr.mono hk) bd (fun _ _ _ _ _ _ _ z => z.elim) pa_wa ht hst hpl) (h σ H o l _ fun v H1 x τ1 ⟨l1, dx, fs, ex, e, hn, h1⟩ o1 r1 t1 => ?_)
  subst ex
  cases (show v = .ref l1 from r1)
  obtain ⟨vs, e1, e2⟩ := o1.get e
  refine ⟨l1, dx, vs, rfl, e1, fld_none e2 hn, h1 σ H1 o1 (l.tr t1) _ fun us H2 xs τ2 h2 o2 r2 t2 => ?_⟩
  exact ⟨τ2, .hdl l1 :: xs, Q, o2, .cons rfl r2, h2, (p.step t1).step t2⟩
end
end Dl

/-! Dl30: methods of no argument; defs of none; a handle against None -/
namespace Dl
open PySem PySem.Spec L2
section
variable {X : Cx} {CX : CXT} {k : Nat} {f C : Addr} {fd : FuncData} {ps : List Str} {sp : Sp} {E : St → XK} {m : Str} {apos pos : Pos} {o : Expr} {ta : TE}
def tMethX0 (C : Addr) (m : Str) (sp : Sp) (E : St → XK) (ta : TE) : TE := fun σ H Q => ta σ H fun x H1 => ∃ a dx fs, x = .ref a ∧ H1 a = some (.ins C dx fs) ∧ fs.lookup m = none ∧ sp [x] H1 Q (E σ)
theorem pe_methX0 {pl : Sem Bool} (he : PE X o ta) (c : Cls X.K C) (hm : Meth X.K C m f) (F : FnOk X.prog X.w X.K X.mg X.base CX k f fd ps sp) (hr : Room k X.A) (hb : Binds X.K fd ps []) (hx : ∀ σ, PassesAt CX X σ (E σ)) (ht : MethText X o m [] apos pos pl) :
    PE X (.Call (.Attribute o m apos) [] [] pos) (tMethX0 C m sp E ta) := ⟨fun pins s σ H Q I h =>
  PySem.W.methodCall_KW (pl := pl) (thn (he.run pins s σ H _ I h) fun u s1 ⟨x, H1, I1, rx, a, dx, fs, ex, ea, hn, q⟩ => by
    subst ex
    cases (show u = Value.ref a from rx)
    exact getmeth_ok I1 ea c hm hn (PySem.W.callWith_K0 (first := [.ref a]) I1.kIn hm.kp (run_fnS (us := [.ref a]) (vs := [.ref a]) F hr hb (hx σ) I1 (.cons rfl .nil) q))) ht⟩
end
section
variable {X : Cx} {ρ : En} {τ : Store} {Q : MV → Store → Prop} {R : XR} {a : Expr} {m : Str} {apos pos : Pos}
/-- o.m(), where an exception may leave -/
theorem dex_meth0 {k j : Nat} {C : Addr} {Ct : CtrX} {pl : Sem Bool} (F : KnowsM X.prog X.w X.K X.mg X.base k C m Ct) (hr : Room j X.A)
    (h : De X ρ τ a fun x τ1 => ∃ l dx fs, x = .hdl l ∧ τ1.lookup l = some (.ins C dx fs) ∧ fs.lookup m = none ∧ Ct [.hdl l] τ1 Q fun cls τ3 => R cls ρ τ3) (hk : k ≤ j := by decide)
    (ht : MethText X a m [] apos pos pl := by rfl) : Dex X ρ τ (.Call (.Attribute a m apos) [] [] pos) Q R := ⟨fun σ H o l QQ p W tk pw => by
  obtain ⟨f, fd, ps, F, c, hm, bd⟩ := F.ex
  refine we_of (pe_methX0 pe_we c hm F (hr.mono hk) bd (passAt tk) ht) (h σ H o l _ fun v H1 x τ1 ⟨l1, dx, fs, ex, e, hn, h1⟩ o1 r1 t1 => ?_)
  subst ex
  cases (show v = .ref l1 from r1)
  obtain ⟨vs, e1, e2⟩ := o1.get e
  exact ⟨l1, dx, vs, rfl, e1, fld_none e2 hn, τ1, [.hdl l1], Q, fun cls τ3 => R cls ρ τ3, o1, .cons rfl .nil, h1, p.step t1, fun cls H3 τ3 q o3 t3 => pw cls σ H3 ρ τ3 q o3 ((l.tr t1).tr t3) (t1.trans t3)⟩⟩
/-- o.m(), where nothing is raised -/
theorem de_meth0 {k j : Nat} {C : Addr} {Ct : Ctr} {pl : Sem Bool} (F : KnowsN X.prog X.w X.K X.mg X.base k C m Ct) (hr : Room j X.A)
    (h : De X ρ τ a fun x τ1 => ∃ l dx fs, x = .hdl l ∧ τ1.lookup l = some (.ins C dx fs) ∧ fs.lookup m = none ∧ Ct [.hdl l] τ1 Q) (hk : k ≤ j := by decide)
    (ht : MethText X a m [] apos pos pl := by rfl) : De X ρ τ (.Call (.Attribute a m apos) [] [] pos) Q := .mk fun σ H o l QQ p => by
  obtain ⟨f, fd, ps, F, c, hm, bd⟩ := F.ex
  refine we_of (pe_methX0 (E := fun _ _ _ _ => False) pe_we c hm F (hr.mono hk) bd (fun _ _ _ _ _ _ _ z => z.elim) ht) (h σ H o l _ fun v H1 x τ1 ⟨l1, dx, fs, ex, e, hn, h1⟩ o1 r1 t1 => ?_)
  subst ex
  cases (show v = .ref l1 from r1)
  obtain ⟨vs, e1, e2⟩ := o1.get e
  exact ⟨l1, dx, vs, rfl, e1, fld_none e2 hn, τ1, [.hdl l1], Q, o1, .cons rfl .nil, h1, p.step t1⟩
end
/-! a method as the class has it -/
section
variable {P : Program} {w : World} {K : PySem.W.Frag} {mg : Str → Option Value} {base : Heap}
/-- the def of a method, as the top has left it -/
structure HasMeth (K : PySem.W.Frag) (C : Addr) (m qual : Str) (st : Stmt) (ps : List Str) : Prop where
  ex : ∃ (f : Addr) (fd : FuncData), Fun K m qual st f fd ∧ Meth K C m f ∧ Binds K fd ps []
theorem knowsN_mk {C : Addr} {m qual : Str} {st : Stmt} {N ps : List Str} {k : Nat} {Ct : Ctr} (hC : Cls K C) (F : HasMeth K C m qual st ps) (S : FnScope N ps (defScope st)) (hl : ∀ svs τ Q, Ct svs τ Q → svs.length = ps.length)
    (body : ∀ f cdv A outer s H E, Room k (BX P w K mg base N qual st f cdv A outer s H E).A → ∀ svs τ Q, Ct svs τ Q →
      Db (BX P w K mg base N qual st f cdv A outer s H E) (startE N svs) τ (defBody st) { nx := fun _ τ' => Q (.val .none) τ', rt := Q }) : KnowsN P w K mg base (k + 1) C m Ct := by
  obtain ⟨f, fd, F, g, b⟩ := F.ex
  refine ⟨f, fd, ps, F.ok S (fun vs H Q E ⟨τ, svs, QQ, o, r, c, p⟩ => ?_) (fun cdv A outer s H vs Q E hr ⟨τ, svs, QQ, o, r, c, p⟩ => ?_), hC, g, b⟩
  · rw [Paired.length r]
    exact hl _ _ _ c
  · exact ⟨_, pss_wb, body f cdv A outer s H E hr svs τ QQ c _ H o (slOk_start r) _ ⟨fun σ' H' ρ' τ' q o' _ t => p _ H' _ τ' q o' Dn.non t, p, fun _ _ _ _ q => q.elim, fun _ _ _ _ q => q.elim⟩⟩
theorem knowsM_mk {C : Addr} {m qual : Str} {st : Stmt} {N ps : List Str} {k : Nat} {Ct : CtrX} (hC : Cls K C) (F : HasMeth K C m qual st ps) (S : FnScope N ps (defScope st)) (hl : ∀ svs τ Q R, Ct svs τ Q R → svs.length = ps.length)
    (body : ∀ f cdv A outer s H E, Room k (BXX P w K mg base N qual st f cdv A outer s H E).A → ∀ svs τ Q R, Ct svs τ Q R →
      Dbx (BXX P w K mg base N qual st f cdv A outer s H E) (startE N svs) τ (defBody st) { nx := fun _ τ' => Q (.val .none) τ', rt := Q } fun cls _ τ' => R cls τ') : KnowsM P w K mg base (k + 1) C m Ct := by
  obtain ⟨f, fd, F, g, b⟩ := F.ex
  refine ⟨f, fd, ps, F.okX S (fun vs H Q E ⟨τ, svs, QQ, R, o, r, c, p, _⟩ => ?_) (fun cdv A outer s H vs Q E hr ⟨τ, svs, QQ, R, o, r, c, p, pe⟩ => ?_), hC, g, b⟩
  · rw [Paired.length r]
    exact hl _ _ _ _ c
  · exact ⟨_, pss_wb, (body f cdv A outer s H E hr svs τ QQ R c).run _ H o (slOk_start r) _ ⟨fun σ' H' ρ' τ' q o' _ t => p _ H' _ τ' q o' Dn.non t, p, fun _ _ _ _ q => q.elim, fun _ _ _ _ q => q.elim⟩ (fun cls d _ H' => E cls d H') (takes_of rfl rfl rfl rfl) fun cls σ' H' ρ' τ' q o' _ t => pe cls H' τ' q o' t⟩
/-- the def of __init__, as the top has left it -/
structure HasInit (K : PySem.W.Frag) (mg : Str → Option Value) (x : Str) (C : Addr) (qual : Str) (st : Stmt) (ps : List Str) : Prop where
  ex : ∃ (f : Addr) (fd : FuncData), Fun K "__init__" qual st f fd ∧ Mk K C f ∧ mg x = some (.ref C) ∧ Binds K fd ps []
theorem knowsC_mk {x : Str} {C : Addr} {qual : Str} {st : Stmt} {N ps : List Str} {k : Nat} {Ct : CtrX} (F : HasInit K mg x C qual st ps) (S : FnScope N ps (defScope st)) (hl : ∀ svs τ Q R, Ct svs τ Q R → svs.length = ps.length)
    (body : ∀ f cdv A outer s H E, Room k (BXX P w K mg base N qual st f cdv A outer s H E).A → ∀ svs τ Q R, Ct svs τ Q R →
      Dbx (BXX P w K mg base N qual st f cdv A outer s H E) (startE N svs) τ (defBody st) { nx := fun _ τ' => Q (.val .none) τ', rt := Q } fun cls _ τ' => R cls τ') : KnowsC P w K mg base (k + 1) x C Ct := by
  obtain ⟨f, fd, F, g, gm, b⟩ := F.ex
  refine ⟨f, fd, ps, F.okX S (fun vs H Q E ⟨τ, svs, QQ, R, o, r, c, p, _⟩ => ?_) (fun cdv A outer s H vs Q E hr ⟨τ, svs, QQ, R, o, r, c, p, pe⟩ => ?_), g, gm, b⟩
  · rw [Paired.length r]
    exact hl _ _ _ _ c
  · exact ⟨_, pss_wb, (body f cdv A outer s H E hr svs τ QQ R c).run _ H o (slOk_start r) _ ⟨fun σ' H' ρ' τ' q o' _ t => p _ H' _ τ' q o' Dn.non t, p, fun _ _ _ _ q => q.elim, fun _ _ _ _ q => q.elim⟩ (fun cls d _ H' => E cls d H') (takes_of rfl rfl rfl rfl) fun cls σ' H' ρ' τ' q o' _ t => pe cls H' τ' q o' t⟩
end
end Dl

/-! Dl31: == of two of an own class -/
namespace Dl
open PySem PySem.Spec L2
section
variable {X : Cx} {CX : CXT} {k : Nat} {g C : Addr} {sp : Sp} {E : XK}
def rEqOwn (C : Addr) (sp : Sp) (E : XK) : R2 := fun x y H Q => ∃ (a dx : Addr) (fs : List (Str × V)) (b dy : Addr) (gs : List (Str × V)), x = .ref a ∧ y = .ref b ∧ H a = some (.ins C dx fs) ∧ H b = some (.ins C dy gs) ∧ sp [x, y] H Q E
theorem op_eqOwn (hs : PySem.W.findIn X.K (.ref C) "__eq__" = some (some (.ref g))) (hf : PySem.W.isFn X.K (.ref g) = true) (F : FnR X.prog X.w X.K X.mg X.base CX k g sp) (hr : Room k X.A) (hx : Passes CX X E) : OpR X (compareOp .Eq) (rEqOwn C sp E) := by
  intro pins s σ H x y v u Q I rx ry h
  obtain ⟨a, dx, fs, b, dy, gs, rfl, rfl, ha, hb, q⟩ := h
  cases (show v = Value.ref a from rx)
  cases (show u = Value.ref b from ry)
  obtain ⟨mA, O, _⟩ := ins_get I.hok ha
  obtain ⟨od, J, _⟩ := O.look
  obtain ⟨mB, O2, _⟩ := ins_get I.hok hb
  obtain ⟨od2, J2, _⟩ := O2.look
  obtain ⟨m, fr⟩ := I.fr
  show wpAny (model X.prog X.w) X.A (richCompare .Eq (.ref a) (.ref b)) _ _ _
  refine PySem.W.cmp_K (op := .Eq) (tb := .ref C) hr.units0 fr I.ok.mod.kin J J2.type (by unfold PySem.W.notFirst; simp) hs hf ?_
  refine wpAny_mono (wpAny_call (run_fnR (us := [.ref a, .ref b]) (vs := [.ref a, .ref b]) F hr hx I (.cons rfl (.cons rfl .nil)) q)) (fun z s' h => ?_) fun _ _ x => x
  obtain ⟨z', H', I', rz, qz⟩ := h
  exact SlX.cmpback rz ⟨z', H', I', rz, qz⟩
end
section
variable {X : Cx} {ρ : En} {τ : Store} {Q : MV → Store → Prop} {a b : Expr} {pos : Pos}
theorem de_eqOwn {k j : Nat} {C : Addr} {Ct : Ctr} (F : KnowsN X.prog X.w X.K X.mg X.base k C "__eq__" Ct) (hr : Room j X.A)
    (h : De X ρ τ a fun x τ1 => De X ρ τ1 b fun y τ2 => ∃ l dx fs l2 dy gs, x = .hdl l ∧ y = .hdl l2 ∧ τ2.lookup l = some (.ins C dx fs) ∧ τ2.lookup l2 = some (.ins C dy gs) ∧ Ct [.hdl l, .hdl l2] τ2 Q) (hk : k ≤ j := by decide) :
    De X ρ τ (.Compare a [.Eq] [b] pos) Q := by
  obtain ⟨f, fd, ps, F, c, hm, bd⟩ := F.ex
  exact de_cmp (op_eqOwn (E := fun _ _ _ => False) hm.at_ hm.fn (fnR_ok F bd) (hr.mono hk) pass0) (h.mono fun x τ1 h1 => h1.mono fun y τ2 ⟨l, dx, fs, l2, dy, gs, ex, ey, e1, e2, q⟩ => .mk fun H v u o r1 r2 QQ p => by
    subst ex ey
    cases (show v = .ref l from r1)
    cases (show u = .ref l2 from r2)
    obtain ⟨vs, h1, _⟩ := o.get e1
    obtain ⟨us, h2, _⟩ := o.get e2
    exact ⟨l, dx, vs, l2, dy, us, rfl, rfl, h1, h2, τ2, [.hdl l, .hdl l2], Q, o, .cons rfl (.cons rfl .nil), q, p⟩) (nomark b)
end
end Dl

/-! Dl32: what isinstance answers of an own exception class, from facts that k_is finds -/
namespace Dl
open PySem PySem.Spec L2
theorem kit_same {K : PySem.W.Frag} {t : Value} : PySem.W.kitOne K t t = some true := by
  unfold PySem.W.kitOne
  rw [if_pos (beq_self_eq_true t)]
theorem kit_ofCls {K : PySem.W.Frag} {t c : Value} {b : Bool} (hne : (t == c) = false) (h : PySem.W.kitCls K t c = some b) : PySem.W.kitOne K t c = some b := by
  unfold PySem.W.kitOne
  rw [hne, if_neg Bool.false_ne_true]
  exact h
theorem kitCls_own {K : PySem.W.Frag} {C : Addr} {t : Value} {b : Bool} (hd : PySem.W.hasDictIn K C = true) (ht : PySem.W.typeIn K (.ref C) = some (.type "type")) (h : PySem.W.subIn K t (.ref C) = some b) : PySem.W.kitCls K t (.ref C) = some b := by
  obtain ⟨cd, hc, _⟩ := PySem.W.any_some hd
  have e : ((PySem.W.clsIn K C).isSome && PySem.W.typeIn K (.ref C) == some (.type "type")) = true := by rw [hc, ht] <;> rfl
  show (if ((PySem.W.clsIn K C).isSome && PySem.W.typeIn K (.ref C) == some (.type "type")) = true then PySem.W.subIn K t (.ref C) else none) = some b
  rw [if_pos e]
  exact h
theorem kit_own {K : PySem.W.Frag} {C : Addr} {t : Value} {b : Bool} (hne : (t == .ref C) = false) (hd : PySem.W.hasDictIn K C = true) (ht : PySem.W.typeIn K (.ref C) = some (.type "type")) (h : PySem.W.subIn K t (.ref C) = some b) : PySem.W.kitOne K t (.ref C) = some b :=
  kit_ofCls hne (kitCls_own hd ht h)
theorem kit_type {K : PySem.W.Frag} {T : String} {t : Value} {b : Bool} (hne : (t == .type T) = false) (hm : PySem.W.kitMeta T = true) (h : PySem.W.subIn K t (.type T) = some b) : PySem.W.kitOne K t (.type T) = some b :=
  kit_ofCls hne (show (if PySem.W.kitMeta T = true then PySem.W.subIn K t (.type T) else none) = some b by rw [if_pos hm]; exact h)
theorem meta_ValueError : PySem.W.kitMeta "ValueError" = true := by decide +kernel
end Dl

/-! Dl33: where no exception leaves; what is left behind; own exception classes with their numbers -/
namespace Dl
open PySem PySem.Spec L2
section
variable {X : Cx} {ρ : En} {τ : Store} {Q Q' : MV → Store → Prop} {D : DE} {R R' : XR} {a b c e : Expr} {st : Stmt} {body : List Stmt} {pos : Pos}
theorem de_ofX (h : Dex X ρ τ e Q fun _ _ _ => False) : De X ρ τ e Q := .mk fun σ H o l QQ p => h.run σ H o l QQ p _ takes0 fun _ _ _ _ _ q => q.elim
theorem ds_ofX (h : Dsx X ρ τ st D fun _ _ _ => False) : Ds X ρ τ st D := .mk fun σ H o l DD p => h.run σ H o l DD p _ takes0 fun _ _ _ _ _ q => q.elim
theorem db_ofX (h : Dbx X ρ τ body D fun _ _ _ => False) : Db X ρ τ body D := .mk fun σ H o l DD p => h.run σ H o l DD p _ takes0 fun _ _ _ _ _ q => q.elim
theorem Dex.monoR (h : Dex X ρ τ e Q R) (q : ∀ sv τ', Q sv τ' → Q' sv τ') (r : ∀ c ρ' τ', R c ρ' τ' → R' c ρ' τ') : Dex X ρ τ e Q' R' := ⟨fun σ H o l QQ p W tk pw => h.run σ H o l QQ (fun v H' sv τ' h1 => p v H' sv τ' (q _ _ h1)) W tk fun c σ' H' ρ' τ' z => pw c σ' H' ρ' τ' (r _ _ _ z)⟩
theorem dex_ifexp (h : Dt X ρ τ a fun k τ1 => (k = true → Dex X ρ τ1 b Q R) ∧ (k = false → Dex X ρ τ1 c Q R)) : Dex X ρ τ (.IfExp a b c pos) Q R := ⟨fun σ H o l QQ p W tk pw =>
  we_of (pe_ifExp pt_wt pe_we pe_we) (h σ H o l _ fun k H1 τ1 ⟨q1, q2⟩ o1 t1 => by
    cases k with
    | true => exact iteT ((q1 rfl).run σ H1 o1 (l.tr t1) QQ (p.step t1) W tk (pw.step t1))
    | false => exact iteF ((q2 rfl).run σ H1 o1 (l.tr t1) QQ (p.step t1) W tk (pw.step t1)))⟩
/-- a call, its contract with its own ends -/
theorem dex_callM {k j : Nat} {x : Str} {C : CtrX} {es : List Expr} {p1 : Pos} (F : KnowsX X.prog X.w X.K X.mg X.base k x C) (hr : Room j X.A) (hg : Gl X x)
    (h : Da X ρ τ (a :: es) fun xs τ1 => ∃ Q0 R0, C xs τ1 Q0 R0 ∧ (∀ sv τ', Q0 sv τ' → Q sv τ') ∧ ∀ cls τ', R0 cls τ' → R cls ρ τ') (hk : k ≤ j := by decide)
    (hdb : (x == ("__debug__" : Str)) = false := by decide) (he : starEach (a :: es) X.env = (false, eval a X.env) :: starEach es X.env := by rfl) (hpl : (backTo pos (starEach es X.env)).any (·.1) = false := by rfl) :
    Dex X ρ τ (.Call (.Name x p1) (a :: es) [] pos) Q R := ⟨fun σ H o l QQ p W tk pw => by
  obtain ⟨f, fd, ps, F, g, kp, b⟩ := F.ex
  refine we_of (pe_callS F (hr.mono hk) hg g kp b (passAt tk) pa_wa hdb he hpl) (h σ H o l _ fun vs H1 xs τ1 ⟨Q0, R0, h1, hq, hR⟩ o1 r1 t1 => ?_)
  exact ⟨τ1, xs, Q0, R0, o1, r1, h1, fun v H' sv τ' z => (p.step t1) v H' sv τ' (hq _ _ z), fun cls H2 τ2 q o2 t2 => pw cls σ H2 ρ τ2 (hR _ _ q) o2 (l.tr (t1.trans t2)) (t1.trans t2)⟩⟩
/-- what was made on the way is left -/
theorem de_left (h : De X ρ τ e fun sv τ1 => ∃ q τ2, τ1 = q :: τ2 ∧ Q sv τ2) : De X ρ τ e Q := .mk fun σ H o l QQ p => h σ H o l QQ fun v H' sv τ1 ⟨q, τ2, e1, z⟩ o1 r t => by
  subst e1
  exact p v H' sv τ2 z o1.drop (r.tr Tr.drop) (t.trans Tr.drop)
end
/-- of an own exception class under T, the n-th of cs -/
structure ErrNo (K : PySem.W.Frag) (T : Addr) (cs : List Addr) (cls : Value) (n : Nat) : Prop where
  ex : ∃ D, cls = .ref D ∧ ExcC K D ∧ PySem.W.exmOne K (.ref D) (.ref T) = some true ∧ PySem.W.kitOne K (.ref D) (.type "ValueError") = some true ∧ n < cs.length ∧ ∀ (i : Nat) (C : Addr), cs[i]? = some C → PySem.W.kitOne K (.ref D) (.ref C) = some (decide (i = n))
/-- of classes C with i-th number: isinstance's answers for D, the n-th -/
def subsF (K : PySem.W.Frag) (D : Addr) (n : Nat) : Nat → List Addr → Prop
  | _, [] => True
  | i, C :: cs => ((C = D ∧ i = n) ∨ (C ≠ D ∧ i ≠ n ∧ PySem.W.subIn K (.ref D) (.ref C) = some false)) ∧ subsF K D n (i + 1) cs
def clsAll (K : PySem.W.Frag) : List Addr → Prop
  | [] => True
  | C :: cs => (PySem.W.hasDictIn K C = true ∧ PySem.W.typeIn K (.ref C) = some (.type "type")) ∧ clsAll K cs
def namesIn (K : PySem.W.Frag) : List Str → List Addr → Prop
  | [], [] => True
  | x :: xs, C :: cs => PySem.W.nsIn K mainGlobals x = some (some (.ref C)) ∧ namesIn K xs cs
  | _, _ => False
/-- the names of the classes -/
def Nms (mg : Str → Option Value) : List Str → List Addr → Prop
  | [], [] => True
  | x :: xs, C :: cs => mg x = some (.ref C) ∧ Nms mg xs cs
  | _, _ => False
theorem nms_of {K : PySem.W.Frag} {h : Heap} {mg : Str → Option Value} (X : K.In h) (G : h.Ns mainGlobals mg) : ∀ {xs : List Str} {cs : List Addr}, namesIn K xs cs → Nms mg xs cs
  | [], [], _ => trivial
  | _ :: _, _ :: _, ⟨a, b⟩ => ⟨PySem.W.mg_of X G a, nms_of X G b⟩
  | [], _ :: _, z => z.elim
  | _ :: _, [], z => z.elim
theorem subsF_at {K : PySem.W.Frag} {D : Addr} {n : Nat} : ∀ {cs : List Addr} {k i : Nat} {C : Addr}, subsF K D n k cs → clsAll K cs → cs[i]? = some C → PySem.W.kitOne K (.ref D) (.ref C) = some (decide (k + i = n))
  | [], _, i, C, _, _, e => by simp at e
  | C' :: cs, k, 0, C, ⟨h, _⟩, ⟨⟨h1, h2⟩, _⟩, e => by
    simp at e
    subst e
    rw [Nat.add_zero]
    rcases h with ⟨rfl, rfl⟩ | ⟨h3, h4, h5⟩
    · rw [decide_eq_true rfl]
      exact kit_same
    · rw [decide_eq_false h4]
      exact kit_own (beq_eq_false_iff_ne.mpr fun z => h3 (by cases z; rfl)) h1 h2 h5
  | C' :: cs, k, i + 1, C, ⟨_, h⟩, ⟨_, h'⟩, e => by
    have := subsF_at (k := k + 1) (i := i) h h' (by simpa using e)
    rw [show k + (i + 1) = k + 1 + i by omega]
    exact this
/-- what the top tells of an own exception class -/
structure OwnExc (K : PySem.W.Frag) (T : Addr) (x : Str) (D : Addr) : Prop where
  a : PySem.W.nsIn K mainGlobals x = some (some (.ref D))
  x : PySem.W.excIn K D [.type "ValueError", .type "Exception", .type "BaseException", .type "object"] "ValueError.__new__" = true
  k : PySem.W.keepIn K (.ref D) = true
  s : PySem.W.subIn K (.ref D) (.type "BaseException") = some true
  t : PySem.W.typeIn K (.ref D) = some (.type "type")
  hg : PySem.W.findIn K (.ref D) "__getattribute__" = some (some (.builtin "BaseException.__getattribute__"))
  hk : PySem.W.findIn K (.ref D) "__getattr__" = some none
  hd : PySem.W.hasDictIn K D = true
  ha : PySem.W.findIn K (.ref D) "__class__" = some (some (.builtin "object.__class__"))
  hn : PySem.W.specialIn K (.builtin "object.__class__") "__get__" = some (some (.builtin "getset_descriptor.__get__"))
  ht : PySem.W.takesIn K (.builtin "object.__class__") = some true
  hm : PySem.W.mroIn K D (.type "object") = some true
  sT : PySem.W.subIn K (.ref D) (.ref T) = some true
  sV : PySem.W.subIn K (.ref D) (.type "ValueError") = some true
theorem OwnExc.knows {K : PySem.W.Frag} {T D : Addr} {x : Str} {h : Heap} {mg : Str → Option Value} (X : K.In h) (G : h.Ns mainGlobals mg) (o : OwnExc K T x D) : KnowsE K mg x (.ref D) :=
  ⟨⟨D, _, _, _, _, rfl, PySem.F.excBase_ValueError, o.x, PySem.W.mg_of X G o.a, o.k, o.s, o.t⟩⟩
/-- the classes' top: T -/
structure TopExc (K : PySem.W.Frag) (T : Addr) : Prop where
  hT : PySem.W.hasDictIn K T = true
  tT : PySem.W.typeIn K (.ref T) = some (.type "type")
  bT : PySem.W.subIn K (.ref T) (.type "BaseException") = some true
theorem OwnExc.no {K : PySem.W.Frag} {T D : Addr} {x : Str} {cs : List Addr} {n : Nat} (o : OwnExc K T x D) (t : TopExc K T) (c : clsAll K cs) (hn : n < cs.length) (h : subsF K D n 0 cs) : ErrNo K T cs (.ref D) n := by
  refine ⟨D, rfl, ⟨o.hg, o.hk, o.s, o.hd, o.ha, o.hn, o.ht, o.hm⟩, ?_, kit_type (beq_eq_false_iff_ne.mpr fun z => by cases z) meta_ValueError o.sV, hn, fun i C e => ?_⟩
  · unfold PySem.W.exmOne
    rw [t.bT]
    exact kitCls_own t.hT t.tT o.sT
  · have := subsF_at h c e
    rw [Nat.zero_add] at this
    exact this
end Dl

/-! Dl34: pop of a list of the store; isinstance of an own class; stores -/
namespace Dl
open PySem PySem.Spec L2
theorem lookup_setS_ne {a b : Addr} {m : MO} (h : b ≠ a) : ∀ {τ : Store}, (setS a m τ).lookup b = τ.lookup b
  | [] => rfl
  | (c, x) :: r => by
    unfold setS
    by_cases e : c = a
    · subst e
      rw [if_pos rfl, lookup_cons_ne h, lookup_cons_ne h]
    · rw [if_neg e]
      by_cases e2 : b = c
      · subst e2
        simp [List.lookup_cons]
      · rw [lookup_cons_ne e2, lookup_cons_ne e2]
        exact lookup_setS_ne h
theorem lookup_top {l : Addr} {m : MO} {τ : Store} : ((l, m) :: τ : Store).lookup l = some m := by simp [List.lookup]
theorem ne_of_dom {τ : Store} {a l : Addr} {m : MO} (h : τ.lookup a = some m) (hl : l ∉ dom τ) : a ≠ l := fun e => hl (by rw [← e]; exact dom_of_lookup h)
/-- what τ has outside of S stays -/
def Ext (S : List Addr) (τ τ' : Store) : Prop := ∀ x mo, x ∉ S → τ.lookup x = some mo → τ'.lookup x = some mo
theorem Ext.refl {S : List Addr} {τ : Store} : Ext S τ τ := fun _ _ _ h => h
theorem Ext.trans {S S' U : List Addr} {τ τ1 τ2 : Store} (h : Ext S τ τ1) (h' : Ext S' τ1 τ2) (hs : ∀ x, x ∈ S → x ∈ U) (hs' : ∀ x, x ∈ S' → x ∈ U) : Ext U τ τ2 := fun x mo n e => h' x mo (fun q => n (hs' x q)) (h x mo (fun q => n (hs x q)) e)
theorem Ext.mono {S U : List Addr} {τ τ1 : Store} (h : Ext S τ τ1) (hs : ∀ x, x ∈ S → x ∈ U) : Ext U τ τ1 := fun x mo n e => h x mo (fun q => n (hs x q)) e
theorem Ext.push {S : List Addr} {τ : Store} {l : Addr} {m : MO} (hl : l ∉ dom τ) : Ext S τ ((l, m) :: τ) := fun x mo _ e => lookup_push e hl
theorem Ext.set {S : List Addr} {τ : Store} {l : Addr} {m : MO} (hl : l ∈ S) : Ext S τ (setS l m τ) := fun x mo n e => by
  rw [lookup_setS_ne fun z => n (by rw [z]; exact hl)]
  exact e
theorem Ext.dom {S : List Addr} {τ τ' : Store} (h : Ext S τ τ') {x : Addr} (hx : x ∈ dom τ) (hn : x ∉ S) : x ∈ dom τ' := by
  obtain ⟨p, hp, rfl⟩ := List.mem_map.mp hx
  have : ∃ mo, τ.lookup p.1 = some mo := by
    clear h hx hn
    induction τ with
    | nil => cases hp
    | cons q r ih =>
      by_cases e : p.1 = q.1
      · exact ⟨q.2, by rw [e]; exact lookup_top⟩
      · rcases List.mem_cons.mp hp with rfl | hp
        · exact absurd rfl e
        · obtain ⟨mo, h⟩ := ih hp
          exact ⟨mo, by obtain ⟨b, m⟩ := q; rw [lookup_cons_ne e]; exact h⟩
  obtain ⟨mo, e⟩ := this
  exact dom_of_lookup (h _ _ hn e)
section
variable {X : Cx} {ρ : En} {τ : Store} {Q : MV → Store → Prop} {pos p1 p2 : Pos} {a b : Expr}
/-- xs.pop() -/
theorem de_pop {apos cpos : Pos} (h : De X ρ τ a fun x τ1 => ∃ l ds d, x = .hdl l ∧ τ1.lookup l = some (.lst (ds ++ [d])) ∧ Q (.val d) (setS l (.lst ds) τ1))
    (hbase : attributeBase a "pop" X.env (eval a X.env) = eval a X.env := by rfl) (hline : (apos.endLine == cpos.line) = true := by rfl) :
    De X ρ τ (.Call (.Attribute a "pop" apos) [] [] cpos) Q := .mk fun σ H o l QQ p =>
  de_bm0 PySem.F.plainAttrs_list PySem.F.slot_list_pop PySem.F.type_list_pop mt_pop (h.mono fun x τ1 ⟨l, ds, d, ex, e, q⟩ => by
    subst ex
    refine ⟨.inl ⟨rfl, ds ++ [d], datOf_hdl e⟩, ?_⟩
    refine .mk fun H v vs o rv rl QQ p => ?_
    cases rv
    cases rl
    obtain ⟨ws, h2, h3⟩ := o.get e
    obtain ⟨y, hy, ry⟩ := h3.getD (i := ds.length) (d := d) (by simp)
    have hl : ws.length = ds.length + 1 := by rw [h3.length]; simp
    refine ⟨l, ws, y, rfl, rfl, h2, by rw [hl]; exact hy, ?_⟩
    have h4 := h3.dropLast
    rw [List.dropLast_concat] at h4
    exact p.write (sv := .val d) o e h4 (fun _ _ t => Dn.tr t ry) q) hbase hline σ H o l QQ p
/-- isinstance(o, C), o of the class C -/
structure ClsIs (K : PySem.W.Frag) (C : Addr) : Prop where
  cls : Cls K C
  ha : PySem.W.findIn K (.ref C) "__class__" = some (some (.builtin "object.__class__"))
  hn : PySem.W.specialIn K (.builtin "object.__class__") "__get__" = some (some (.builtin "getset_descriptor.__get__"))
  ht : PySem.W.takesIn K (.builtin "object.__class__") = some true
  hm : PySem.W.mroIn K C (.type "object") = some true
  ty : PySem.W.typeIn K (.ref C) = some (.type "type")
theorem ClsIs.tyX {K : PySem.W.Frag} {H : Hp} {C l dx : Addr} {fs : List (Str × V)} (c : ClsIs K C) (e : H l = some (.ins C dx fs)) : TyX K H (.ref l) (.ref C) := .base (.ins e c.cls c.ha c.hn c.ht c.hm)
/-- what isinstance is asked of: an instance of C, a list of the store, data that are no instances -/
def isOwn (C : Addr) (τ : Store) (x : MV) (k : Bool) : Prop := (k = true ∧ ∃ l dx fs, x = .hdl l ∧ τ.lookup l = some (.ins C dx fs)) ∨ (k = false ∧ ((∃ d, x = .val d) ∨ ∃ l ds, x = .hdl l ∧ τ.lookup l = some (.lst ds)))
theorem kit_tyOwn {K : PySem.W.Frag} {C : Addr} (c : ClsIs K C) {d : PyData} {H : Hp} {N : List Addr} {v : V} (r : Dn K N H v d) : PySem.W.kitOne K (.type (tyName d)) (.ref C) = some false := by
  refine kit_own (by rfl) c.cls.hd c.ty ?_
  show (fastBuiltinMro (tyName d)).map (·.contains (.ref C)) = some false
  cases r <;> (dsimp only [tyName]; kernel_rfl)
theorem de_isiOwn {T : Str} {C : Addr} (B : Bl X.mg) (c : ClsIs X.K C) (hg : Gl X "isinstance") (hgT : Gl X T) (hmT : X.mg T = some (.ref C)) (h : De X ρ τ a fun x τ1 => ∃ k, isOwn C τ1 x k ∧ Q (.val (.bool k)) τ1) (hd : (T == ("__debug__" : Str)) = false := by decide)
    (hs : starEach [a, .Name T p2] X.env = (false, eval a X.env) :: starEach [.Name T p2] X.env := by rfl) (hs2 : starEach [.Name T p2] X.env = (false, eval (.Name T p2) X.env) :: starEach [] X.env := by rfl) (hpl : (backTo pos (starEach [.Name T p2] X.env)).any (·.1) = false := by rfl) :
    De X ρ τ (.Call (.Name "isinstance" p1) [a, .Name T p2] [] pos) Q := .mk fun σ H o l QQ p => by
  refine we_of (pe_callB call_isi hg B.h_isinstance (by decide +kernel) (pa_cons pe_we (pa_cons (pe_glob (v := .ref C) hgT hmT rfl hd) pa_nil hs2) hs) (by decide) (by decide) hs hpl) ?_
  refine h σ H o l _ fun v H1 x τ1 ⟨k, hk, q⟩ o1 r1 t1 => ?_
  rcases hk with ⟨rfl, b, dx, fs, ex, e⟩ | ⟨rfl, ⟨d, ex⟩ | ⟨b, ds, ex, e⟩⟩
  · subst ex
    cases (r1 : v = .ref b)
    obtain ⟨vs, h1, _⟩ := o1.get e
    exact ⟨.ref b, .ref C, .ref C, .ref C, true, rfl, .own C, c.tyX h1, kit_same, p _ H1 _ τ1 q o1 (Dn.bl _) t1⟩
  · subst ex
    exact ⟨v, .ref C, .type (tyName d), .ref C, false, rfl, .own C, Dn.ty r1, kit_tyOwn c r1, p _ H1 _ τ1 q o1 (Dn.bl _) t1⟩
  · subst ex
    cases (r1 : v = .ref b)
    obtain ⟨vs, h1, _⟩ := o1.get e
    refine ⟨.ref b, .ref C, .type "list", .ref C, false, rfl, .own C, .base (.lst h1), ?_, p _ H1 _ τ1 q o1 (Dn.bl _) t1⟩
    refine kit_own (by rfl) c.cls.hd c.ty ?_
    show (fastBuiltinMro "list").map (·.contains (.ref C)) = some false
    kernel_rfl
end
end Dl

/-! Dl35: what a law's end finds of classes and methods -/
namespace Dl
open PySem PySem.Spec L2
section
variable {K : PySem.W.Frag} {mg : Str → Option Value}
theorem hasMeth_mk {C f : Addr} {m qual : Str} {st : Stmt} {ps : List Str} {oc : Value} {od an : Option Addr} {osl : Array (Option Value)} {kV doc pm cdv ct : Value} (a : PySem.W.findIn K (.ref C) m = some (some (.ref f))) (i : PySem.W.isFn K (.ref f) = true)
    (l : K.lookup f = some ⟨oc, od, .func (PySem.W.fnOf m qual (defArgs st) (defBody st) (defScope st) .none kV doc pm an cdv ct), osl⟩) (c : PySem.W.codeIn K cdv qual = true) (k : PySem.W.keepIn K (.ref f) = true)
    (bd : ∀ (kV doc pm : Value) (an : Option Addr) (cdv ct : Value) (us : List Value), us.length = ps.length → bindArgs (PySem.W.fnOf m qual (defArgs st) (defBody st) (defScope st) .none kV doc pm an cdv ct) ⟨us, []⟩ = pure (ps.zip us)) : HasMeth K C m qual st ps :=
  ⟨f, _, fun_mk l c k, ⟨a, i, k⟩, (fun_mk l c k).binds bd⟩
theorem hasInit_mk {h : Heap} {C f : Addr} {x qual : Str} {st : Stmt} {ps : List Str} {oc : Value} {od an : Option Addr} {osl : Array (Option Value)} {kV doc pm cdv ct : Value} (X : K.In h) (G : h.Ns mainGlobals mg) (n : PySem.W.nsIn K mainGlobals x = some (some (.ref C)))
    (a : PySem.W.findIn K (.ref C) "__init__" = some (some (.ref f))) (i : PySem.W.isFn K (.ref f) = true)
    (l : K.lookup f = some ⟨oc, od, .func (PySem.W.fnOf "__init__" qual (defArgs st) (defBody st) (defScope st) .none kV doc pm an cdv ct), osl⟩) (c : PySem.W.codeIn K cdv qual = true) (k : PySem.W.keepIn K (.ref f) = true)
    (mk : PySem.W.makesIn K C = true) (kc : PySem.W.keepIn K (.ref C) = true)
    (bd : ∀ (kV doc pm : Value) (an : Option Addr) (cdv ct : Value) (us : List Value), us.length = ps.length → bindArgs (PySem.W.fnOf "__init__" qual (defArgs st) (defBody st) (defScope st) .none kV doc pm an cdv ct) ⟨us, []⟩ = pure (ps.zip us)) : HasInit K mg x C qual st ps :=
  ⟨f, _, fun_mk l c k, ⟨mk, a, i, kc⟩, PySem.W.mg_of X G n, (fun_mk l c k).binds bd⟩
theorem namesIn_nil : namesIn K [] [] := trivial
theorem namesIn_cons {x : Str} {xs : List Str} {C : Addr} {cs : List Addr} (a : PySem.W.nsIn K mainGlobals x = some (some (.ref C))) (b : namesIn K xs cs) : namesIn K (x :: xs) (C :: cs) := ⟨a, b⟩
theorem clsAll_nil : clsAll K [] := trivial
theorem clsAll_cons {C : Addr} {cs : List Addr} (a : PySem.W.hasDictIn K C = true) (b : PySem.W.typeIn K (.ref C) = some (.type "type")) (c : clsAll K cs) : clsAll K (C :: cs) := ⟨⟨a, b⟩, c⟩
theorem subsF_nil {D : Addr} {n i : Nat} : subsF K D n i [] := trivial
theorem subsF_same {D : Addr} {n : Nat} {cs : List Addr} (h : subsF K D n (n + 1) cs) : subsF K D n n (D :: cs) := ⟨.inl ⟨rfl, rfl⟩, h⟩
theorem subsF_ne {C D : Addr} {n i : Nat} {cs : List Addr} (a : (C == D) = false) (b : (i == n) = false) (c : PySem.W.subIn K (.ref D) (.ref C) = some false) (h : subsF K D n (i + 1) cs) : subsF K D n i (C :: cs) :=
  ⟨.inr ⟨beq_eq_false_iff_ne.mp a, beq_eq_false_iff_ne.mp b, c⟩, h⟩
end
end Dl

/-! Dl36: str of an own class, != of an own class -/
namespace PySem.W
open PySem PySem.Spec PySem.Calls PyProof.Rows
section
variable {prog : Program} {w : World} {A : Around} {E : Value → Shared → Prop} {s : Shared} {K : Frag} {x C f : Addr} {ox : Obj} {od : Option Obj} {b tb : Value}
theorem ifBound_slot {M : Model} {name : Str} {id : String} {args : List Value} {Q : Option Value → Shared → Prop} (X : K.In s.heap) (I : InstAt s.heap x ox C od) (hs : findIn K (.ref C) name = some (some (.builtin id)))
    (hb : ∀ self, bindSpecial (.builtin id) self = pure (.builtin id, [self])) (h : wpAny M A (call (.builtin id) (.ref x :: args)) (fun v => Q (some v)) E s) : wpAny M A (callSpecialIfBound? (.ref x) name args) Q E s := by
  simp only [callSpecialIfBound?, bindSpecialIfBound?]
  refine wpAny_holding (wpAny_bind (wpAny_bind (wpAny_bind (I.type.here ((looks_findIn X hs).here ?_)))))
  refine wpAny_bind (wpAny_askSetting (wpAny_ite ?_))
  have fin : wpAny M A (call (.builtin id) ([.ref x] ++ args) >>= fun v => pure (some v)) Q E s := wpAny_bind (wpAny_mono h (fun v s' h' => wpAny_pure h') fun _ _ h' => h')
  split
  · exact wpAny_bind ((Looks.of_pure (hb _)).here (wpAny_pure (by exact fin)))
  · exact wpAny_tryCatch (wpAny_bind ((Looks.of_pure (hb _)).here (wpAny_pure (by exact fin))))
theorem objNe_own (hu : A.units < cLine) (X : K.In s.heap) (I : InstAt s.heap x ox C od) (hs : findIn K (.ref C) "__eq__" = some (some (.ref f))) (hf : isFn K (.ref f) = true) {Q : Fin → Shared → Prop}
    (h : wpAny (model prog w) A (call (.ref f) [.ref x, b]) (fun v s' => ∃ k, v = .bool k ∧ Q (.done (.ret (.bool (!k)))) s') E s) :
    wpAny (model prog w) A (Builtin.«object.__ne__» ⟨[.ref x, b], []⟩) Q E s := by
  unfold Builtin.«object.__ne__»
  repeat (first
    | with_reducible refine wpAny_cRoomFor hu ?_
    | (refine wpAny_bind (m := callSpecialIfBound? (.ref x) (Str.ofString "__eq__") [b])
        (ifBound_K X I hs hf (wpAny_mono h (fun r s' hr => by
          obtain ⟨k, rfl, hq⟩ := hr
          repeat (first | exact hq | exact wpAny_pure hq | exact wpAny_truthy_bool hq | (refine wpAny_bind (m := truthy (.bool _)) (wpAny_truthy_bool ?_)) | wp_step)) fun _ _ e => e)))
    | wp_step)
theorem ne_own {Q : Value → Shared → Prop} (hu : A.units + 1 < cLine) (X : K.In s.heap) (I : InstAt s.heap x ox C od) (hb : Looks (model prog w) s.heap (typeOf b) tb) (hn : notFirst K C tb = true)
    (hne : findIn K (.ref C) "__ne__" = some (some (.builtin "object.__ne__"))) (hm : mroIn K C (.type "object") = some true) (hs : findIn K (.ref C) "__eq__" = some (some (.ref f))) (hf : isFn K (.ref f) = true)
    (h : wpAny (model prog w) A.in1 (call (.ref f) [.ref x, b]) (fun v s' => ∃ k, v = .bool k ∧ Q (.bool (!k)) s') E s) : wpAny (model prog w) A (richCompare .NotEq (.ref x) b) Q E s := by
  have one : wpAny (model prog w) A (tryCompare (.ref x) (cmpInfo .NotEq).2.1 b) (fun r s' => ∃ v, r = some v ∧ Q v s') E s := by
    unfold tryCompare
    refine wpAny_bind (ifBound_slot (id := "object.__ne__") X I hne PySem.F.cmp_object.ne.bind (wpAny_call (codeAny_call_builtin PySem.F.cmp_object.ne.plain PySem.F.cmpEntry_ne
      (check_slot (i := "object.__ne__") (owner := "object") (n := "__ne__") PySem.F.cmpKind_ne PySem.F.cmpSplit_ne (I.type.andThen (looks_mroIn X hm)) (PySem.F.cmpArgs_ne _ _)
        (objNe_own (A := A.in1) hu X I hs hf (wpAny_mono h (fun v s' hv => ?_) fun _ _ e => e))))))
    obtain ⟨k, rfl, hq⟩ := hv
    first | exact ⟨k, rfl, wpAny_pure ⟨_, rfl, hq⟩⟩ | exact ⟨k, rfl, wpAny_pure (wpAny_pure ⟨_, rfl, hq⟩)⟩ | exact ⟨k, rfl, ⟨_, rfl, hq⟩⟩
  unfold richCompare
  simp only [oneThing_ref]
  refine wpAny_holding (wpAny_bind (wpAny_cRoomFor (Nat.lt_of_succ_lt hu) ?_))
  refine wpAny_bind (I.type.here (wpAny_bind (hb.here ?_)))
  split
  · rename_i q
    have e : subIn K tb (.ref C) = some false := by
      rcases Bool.or_eq_true_iff.mp hn with e | e
      · rw [beq_iff_eq.mp e] at q; simp at q
      · exact beq_iff_eq.mp e
    refine wpAny_bind ((looks_subIn X e).here ?_)
    simp only [Bool.false_eq_true, if_false]
    refine wpAny_bind (wpAny_mono one (fun r s' z => ?_) fun _ _ e => e)
    obtain ⟨v, rfl, hq⟩ := z
    exact wpAny_pure hq
  · refine wpAny_bind (wpAny_pure ?_)
    simp only [Bool.false_eq_true, if_false]
    refine wpAny_bind (wpAny_mono one (fun r s' z => ?_) fun _ _ e => e)
    obtain ⟨v, rfl, hq⟩ := z
    exact wpAny_pure hq
end
end PySem.W
namespace Dl
open PySem PySem.Spec L2
section
variable {X : Cx} {CX : CXT} {k : Nat} {g C : Addr} {sp : Sp} {E : XK}
def rNeOwn (K : PySem.W.Frag) (C : Addr) (sp : Sp) (E : XK) : R2 := fun x y H Q => ∃ (a dx : Addr) (fs : List (Str × V)) (t : Value), x = .ref a ∧ H a = some (.ins C dx fs) ∧ TyX K H y t ∧ PySem.W.notFirst K C t = true ∧ sp [x, y] H (fun z H' => ∃ b : Bool, z = .bl b ∧ Q (.bl (!b)) H') E
theorem op_neOwn (c : ClsIs X.K C) (hn : PySem.W.findIn X.K (.ref C) "__ne__" = some (some (.builtin "object.__ne__"))) (hs : PySem.W.findIn X.K (.ref C) "__eq__" = some (some (.ref g))) (hf : PySem.W.isFn X.K (.ref g) = true) (F : FnR X.prog X.w X.K X.mg X.base CX k g sp) (hr : Room (k + 1) X.A) (hx : Passes CX X E) :
    OpR X (compareOp .NotEq) (rNeOwn X.K C sp E) := by
  intro pins s σ H x y v u Q I rx ry h
  obtain ⟨a, dx, fs, t, rfl, ha, ty, nf, q⟩ := h
  cases (show v = Value.ref a from rx)
  obtain ⟨mA, O, _⟩ := ins_get I.hok ha
  obtain ⟨od, J, _⟩ := O.look
  obtain ⟨P, Z, p, _⟩ := kit_of I ry ty
  show wpAny (model X.prog X.w) X.A (richCompare .NotEq (.ref a) u) _ _ _
  refine PySem.W.ne_own (tb := t) (hu_of hr) I.kIn J (Z.ty _ _ I.kIn p) nf hn c.hm hs hf ?_
  refine wpAny_mono (wpAny_call (SlX.run_at (us := [.ref a, u]) (ws := [.ref a, y]) F hr.in1 I.env0.in1 hx I (.cons rfl (.cons ry .nil)) q)) (fun z s' h => ?_) fun _ _ x => x
  obtain ⟨z', H', I', rz, b, rfl, qz⟩ := h
  cases (show z = Value.bool b from rz)
  exact ⟨b, rfl, .bl (!b), H', I', rfl, qz⟩
def rStrOwn (C : Addr) (sp : Sp) (E : XK) : List V → Hp → VK → Prop := fun xs H Q => ∃ (a dx : Addr) (fs : List (Str × V)), xs = [V.ref a] ∧ H a = some (.ins C dx fs) ∧ sp [.ref a] H (fun z H' => ∃ y : Str, z = .str y ∧ Q (.str y) H') E
theorem call_strOwn (hs : PySem.W.findIn X.K (.ref C) "__str__" = some (some (.ref g))) (hf : PySem.W.isFn X.K (.ref g) = true) (F : FnR X.prog X.w X.K X.mg X.base CX k g sp) (hr : Room (k + 2) X.A) (hx : Passes CX X E) : CallR X (.type "str") (rStrOwn C sp E) := by
  intro pins s σ H xs us Q I r h
  obtain ⟨a, dx, fs, rfl, ha, q⟩ := h
  obtain ⟨u, rfl, ru⟩ := vals1 r
  cases (show u = Value.ref a from ru)
  obtain ⟨mA, O, _⟩ := ins_get I.hok ha
  obtain ⟨od, J, _⟩ := O.look
  refine PySem.W.kso_call hr.in1.in1.units0 I.kIn J hs hf (wpAny_mono (wpAny_call (SlX.run_at (us := [.ref a]) (ws := [.ref a]) F hr.in1.in1 I.env0.in1.in1 hx I (.cons rfl .nil) q)) (fun v s' z => ?_) fun _ _ x => x)
  obtain ⟨z', H', I', rz, y, rfl, qz⟩ := z
  obtain ⟨t, rfl⟩ := (show ∃ t, v = Value.str y t from rz)
  exact ⟨.str y, H', I', ⟨_, rfl⟩, qz⟩
end
section
variable {X : Cx} {ρ : En} {τ : Store} {Q : MV → Store → Prop} {a b : Expr} {pos p1 : Pos}
theorem notFirst_ty {K : PySem.W.Frag} {C : Addr} {T : String} (h : (fastBuiltinMro T).map (·.contains (.ref C)) = some false) : PySem.W.notFirst K C (.type T) = true := by
  unfold PySem.W.notFirst
  show (_ || (PySem.W.subIn K (.type T) (.ref C) == some false)) = true
  have e : PySem.W.subIn K (.type T) (.ref C) = some false := h
  rw [e]
  simp
theorem notFirst_dn {K : PySem.W.Frag} {C : Addr} {d : PyData} {H : Hp} {N : List Addr} {v : V} (r : Dn K N H v d) : PySem.W.notFirst K C (.type (tyName d)) = true := by
  refine notFirst_ty ?_
  cases r <;> (dsimp only [tyName]; kernel_rfl)
theorem de_neOwn {k j : Nat} {C : Addr} {Ct : Ctr} (c : ClsIs X.K C) (hne : PySem.W.findIn X.K (.ref C) "__ne__" = some (some (.builtin "object.__ne__"))) (F : KnowsN X.prog X.w X.K X.mg X.base k C "__eq__" Ct) (hr : Room j X.A)
    (h : De X ρ τ a fun x τ1 => De X ρ τ1 b fun y τ2 => ∃ l dx fs k0, x = .hdl l ∧ τ2.lookup l = some (.ins C dx fs) ∧ isOwn C τ2 y k0 ∧ Ct [.hdl l, y] τ2 fun sv τ3 => ∃ kb, sv = .val (.bool kb) ∧ Q (.val (.bool (!kb))) τ3) (hk : k + 1 ≤ j := by decide) :
    De X ρ τ (.Compare a [.NotEq] [b] pos) Q := by
  obtain ⟨f, fd, ps, F, _, hm, bd⟩ := F.ex
  exact de_cmp (op_neOwn (E := fun _ _ _ => False) c hne hm.at_ hm.fn (fnR_ok F bd) (hr.mono hk) pass0) (h.mono fun x τ1 h1 => h1.mono fun y τ2 ⟨l, dx, fs, k0, ex, e1, ho, q⟩ => .mk fun H v u o r1 r2 QQ p => by
    subst ex
    cases (show v = .ref l from r1)
    obtain ⟨vs, h1, _⟩ := o.get e1
    have out : spC X.K Ct [.ref l, u] H (fun z H' => ∃ b : Bool, z = .bl b ∧ QQ (.bl (!b)) H') (fun _ _ _ => False) := by
      refine ⟨τ2, [.hdl l, y], _, o, .cons rfl (.cons r2 .nil), q, ?_⟩
      intro z H3 sv τ3 ⟨kb, ez, q3⟩ o3 r3 t3
      subst ez
      cases r3
      exact ⟨kb, rfl, p _ H3 _ τ3 q3 o3 (Dn.bl _) t3⟩
    rcases ho with ⟨rfl, l2, dy, gs, ey, e2⟩ | ⟨rfl, ⟨d, ey⟩ | ⟨l2, ds, ey, e2⟩⟩
    · subst ey
      cases (show u = .ref l2 from r2)
      obtain ⟨us, h2, _⟩ := o.get e2
      exact ⟨l, dx, vs, .ref C, rfl, h1, c.tyX h2, by unfold PySem.W.notFirst; simp, out⟩
    · subst ey
      exact ⟨l, dx, vs, .type (tyName d), rfl, h1, Dn.ty r2, notFirst_dn (C := C) (show Dn _ _ _ u d from r2), out⟩
    · subst ey
      cases (show u = .ref l2 from r2)
      obtain ⟨us, h2, _⟩ := o.get e2
      exact ⟨l, dx, vs, .type "list", rfl, h1, .base (.lst h2), notFirst_ty (by kernel_rfl), out⟩) (nomark b)
/-- str(o) -/
theorem de_strOwn {k j : Nat} {C : Addr} {Ct : Ctr} (B : Bl X.mg) (hg : Gl X "str") (F : KnowsN X.prog X.w X.K X.mg X.base k C "__str__" Ct) (hr : Room j X.A)
    (h : De X ρ τ a fun x τ1 => ∃ l dx fs, x = .hdl l ∧ τ1.lookup l = some (.ins C dx fs) ∧ Ct [.hdl l] τ1 fun sv τ2 => ∃ y : Str, sv = .val (.str y) ∧ Q (.val (.str y)) τ2) (hk : k + 2 ≤ j := by decide)
    (hs : starEach [a] X.env = (false, eval a X.env) :: starEach [] X.env := by rfl) : De X ρ τ (.Call (.Name "str" p1) [a] [] pos) Q := by
  obtain ⟨f, fd, ps, F, _, hm, bd⟩ := F.ex
  exact de_callTy (call_strOwn (E := fun _ _ _ => False) hm.at_ hm.fn (fnR_ok F bd) (hr.mono hk) pass0) hg B.h_str (by decide +kernel) (da_one (h.mono fun x τ1 ⟨l, dx, fs, ex, e, q⟩ => .mk fun H vs o r QQ p => by
    obtain ⟨v, rfl, r1⟩ := paired1 r
    subst ex
    cases (show v = .ref l from r1)
    obtain ⟨us, e1, e2⟩ := o.get e
    refine ⟨l, dx, us, rfl, e1, τ1, [.hdl l], _, o, .cons rfl .nil, q, ?_⟩
    intro z H2 sv τ2 ⟨y, ez, q2⟩ o2 r2 t2
    subst ez
    cases r2
    exact ⟨y, rfl, p _ H2 _ τ2 q2 o2 (Dn.str _) t2⟩) hs) hs rfl
end
end Dl

/-! Dl37: == and != of own classes as tests -/
namespace Dl
open PySem PySem.Spec L2
section
variable {X : Cx} {ρ : En} {τ : Store} {Q : Bool → Store → Prop} {a b : Expr} {pos p1 : Pos}
theorem dt_eqOwn {k j : Nat} {C : Addr} {Ct : Ctr} (F : KnowsN X.prog X.w X.K X.mg X.base k C "__eq__" Ct) (hr : Room j X.A)
    (h : De X ρ τ a fun x τ1 => De X ρ τ1 b fun y τ2 => ∃ l dx fs l2 dy gs, x = .hdl l ∧ y = .hdl l2 ∧ τ2.lookup l = some (.ins C dx fs) ∧ τ2.lookup l2 = some (.ins C dy gs) ∧ Ct [.hdl l, .hdl l2] τ2 (BoolQ Q)) (hk : k ≤ j := by decide) :
    Dt X ρ τ (.Compare a [.Eq] [b] pos) Q := by
  obtain ⟨f, fd, ps, F, c, hm, bd⟩ := F.ex
  exact dt_cmp (op_eqOwn (E := fun _ _ _ => False) hm.at_ hm.fn (fnR_ok F bd) (hr.mono hk) pass0) (h.mono fun x τ1 h1 => h1.mono fun y τ2 ⟨l, dx, fs, l2, dy, gs, ex, ey, e1, e2, q⟩ => .mk fun H v u o r1 r2 QQ p => by
    subst ex ey
    cases (show v = .ref l from r1)
    cases (show u = .ref l2 from r2)
    obtain ⟨vs, h1, _⟩ := o.get e1
    obtain ⟨us, h2, _⟩ := o.get e2
    exact ⟨l, dx, vs, l2, dy, us, rfl, rfl, h1, h2, τ2, [.hdl l, .hdl l2], _, o, .cons rfl (.cons rfl .nil), q, p⟩) (nomark b)
theorem dt_neOwn {k j : Nat} {C : Addr} {Ct : Ctr} (c : ClsIs X.K C) (hne : PySem.W.findIn X.K (.ref C) "__ne__" = some (some (.builtin "object.__ne__"))) (F : KnowsN X.prog X.w X.K X.mg X.base k C "__eq__" Ct) (hr : Room j X.A)
    (h : De X ρ τ a fun x τ1 => De X ρ τ1 b fun y τ2 => ∃ l dx fs l2 dy gs, x = .hdl l ∧ y = .hdl l2 ∧ τ2.lookup l = some (.ins C dx fs) ∧ τ2.lookup l2 = some (.ins C dy gs) ∧ Ct [.hdl l, .hdl l2] τ2 fun sv τ3 => ∃ kb, sv = .val (.bool kb) ∧ Q (!kb) τ3) (hk : k + 1 ≤ j := by decide) :
    Dt X ρ τ (.Compare a [.NotEq] [b] pos) Q := by
  obtain ⟨f, fd, ps, F, _, hm, bd⟩ := F.ex
  exact dt_cmp (op_neOwn (E := fun _ _ _ => False) c hne hm.at_ hm.fn (fnR_ok F bd) (hr.mono hk) pass0) (h.mono fun x τ1 h1 => h1.mono fun y τ2 ⟨l, dx, fs, l2, dy, gs, ex, ey, e1, e2, q⟩ => .mk fun H v u o r1 r2 QQ p => by
    subst ex ey
    cases (show v = .ref l from r1)
    cases (show u = .ref l2 from r2)
    obtain ⟨vs, h1, _⟩ := o.get e1
    obtain ⟨us, h2, _⟩ := o.get e2
    refine ⟨l, dx, vs, .ref C, rfl, h1, c.tyX h2, by unfold PySem.W.notFirst; simp, τ2, [.hdl l, .hdl l2], _, o, .cons rfl (.cons rfl .nil), q, ?_⟩
    intro z H3 sv τ3 ⟨kb, ez, q3⟩ o3 r3 t3
    subst ez
    cases r3
    exact ⟨kb, rfl, p _ H3 _ τ3 ⟨_, rfl, q3⟩ o3 (Dn.bl _) t3⟩) (nomark b)
end
end Dl

/-! Dl38: defs as values: kept in tuples, called by what an expression gives -/
namespace Dl
open PySem PySem.Spec L2
/-- a def at f that keeps C -/
structure KnowsA (P : Program) (w : World) (K : PySem.W.Frag) (mg : Str → Option Value) (base : Heap) (k : Nat) (f : Addr) (C : CtrX) : Prop where
  ex : ∃ (fd : FuncData) (ps : List Str), FnOk P w K mg base (L2.CX P w) k f fd ps (spX K C) ∧ PySem.W.keepIn K (.ref f) = true ∧ Binds K fd ps []
theorem KnowsX.at {P : Program} {w : World} {K : PySem.W.Frag} {mg : Str → Option Value} {base : Heap} {k : Nat} {x : Str} {C : CtrX} (h : KnowsX P w K mg base k x C) : ∃ f, mg x = some (.ref f) ∧ KnowsA P w K mg base k f C := by
  obtain ⟨f, fd, ps, F, g, kp, b⟩ := h.ex
  exact ⟨f, g, ⟨fd, ps, F, kp, b⟩⟩
theorem pair_get {α β : Type} {R : α → β → Prop} {xs : List α} {ys : List β} (h : Paired R xs ys) : ∀ {i : Nat} {y : β}, ys[i]? = some y → ∃ x, xs[i]? = some x ∧ R x y := by
  induction h with
  | nil => intro i y e; simp at e
  | cons a b ih =>
    intro i y e
    cases i with
    | zero =>
      simp at e
      subst e
      exact ⟨_, rfl, a⟩
    | succ i =>
      obtain ⟨v, h1, h2⟩ := ih (by simpa using e)
      exact ⟨v, by simpa using h1, h2⟩
theorem pair_append {α β : Type} {R : α → β → Prop} {xs xs' : List α} {ys ys' : List β} (h : Paired R xs ys) (h' : Paired R xs' ys') : Paired R (xs ++ xs') (ys ++ ys') := by
  induction h with
  | nil => exact h'
  | cons a b ih => exact .cons a ih
section
variable {X : Cx} {ρ : En} {τ : Store} {Q : MV → Store → Prop} {R : XR} {fe b : Expr} {es : List Expr} {pos p1 : Pos}
/-- the name of a def, a class -/
theorem de_glob {x : Str} {f : Addr} (hg : Gl X x) (hm : X.mg x = some (.ref f)) (q : Q (.hdl f) τ) (hd : (x == ("__debug__" : Str)) = false := by decide) : De X ρ τ (.Name x pos) Q := .mk fun σ H o l QQ p =>
  we_of (pe_glob (v := .ref f) hg hm rfl hd) (p _ H (.hdl f) τ q o rfl Tr.refl)
theorem ix_tupX {K : PySem.W.Frag} {xs : List (PyData ⊕ Addr)} {i : Int} {x : PyData ⊕ Addr} (e : atI xs i = some x) (q : Q (ofX x) τ) : IxD K (.tup xs) (.val (.int i)) τ Q := .mk fun H v u o r1 r2 QQ p => by
  obtain ⟨a, vs, rfl, n, r⟩ := r1
  cases r2
  unfold atI at e
  rw [← Paired.length r] at e
  cases h : ixN vs.length i with
  | none => rw [h] at e; cases e
  | some j =>
    rw [h] at e
    obtain ⟨w, h1, h2⟩ := pair_get r e
    refine .inr (.inl ⟨a, vs, i, w, rfl, rfl, n.sq, ?_, p _ H _ τ q o (ofX_rv h2) Tr.refl⟩)
    unfold atI
    rw [h]
    exact h1
theorem plus_tupX {K : PySem.W.Frag} {xs ys : List (PyData ⊕ Addr)} (hx : xs ≠ []) (hy : ys ≠ []) (hl : xs.length + ys.length ≤ 1000000) (q : Q (.tup (xs ++ ys)) τ) : PlusD K (.tup xs) (.tup ys) τ Q := .mk fun H v u o r1 r2 QQ p => by
  obtain ⟨a, vs, rfl, n1, l1⟩ := r1
  obtain ⟨b, ws, rfl, n2, l2⟩ := r2
  refine .inr (.inr (.inl ⟨a, b, vs, ws, rfl, rfl, n1.sq, n2.sq, small_sz (by rw [Paired.length l1, Paired.length l2]; exact hl), fun e => ?_, fun ne e => ?_, fun _ _ => fun pa ha => ?_⟩))
  · subst e
    have := Paired.length l1
    exact absurd (List.length_eq_zero_iff.mp this.symm) hx
  · subst e
    have := Paired.length l2
    exact absurd (List.length_eq_zero_iff.mp this.symm) hy
  · exact p _ _ _ τ q (o.new ha) ⟨pa, vs ++ ws, rfl, ⟨o.fresh ha, upd_same⟩, rx_tr (Tr.new ha) (pair_append l1 l2)⟩ (Tr.new ha)
/-- a call of what an expression gives -/
theorem dex_callF {j : Nat} (hr : Room j X.A) (h : De X ρ τ fe fun x τ1 => ∃ f k C, x = .hdl f ∧ KnowsA X.prog X.w X.K X.mg X.base k f C ∧ k ≤ j ∧ Da X ρ τ1 (b :: es) fun xs τ2 => C xs τ2 Q fun cls τ3 => R cls ρ τ3)
    (ht : eval (.Call fe (b :: es) [] pos) X.env = (do callWith pos (← eval fe X.env) [] (backTo pos (starEach (b :: es) X.env)) (backToKw pos (keywordEach [] X.env))) := by rfl)
    (he : starEach (b :: es) X.env = (false, eval b X.env) :: starEach es X.env := by rfl) (hpl : (backTo pos (starEach es X.env)).any (·.1) = false := by rfl) :
    Dex X ρ τ (.Call fe (b :: es) [] pos) Q R := ⟨fun σ H o l QQ p W tk pw pins s I => by
  refine PyProof.Rows.Call_ (thn (h σ H o l (fun v H1 => ∃ f, v = .ref f ∧ ∃ k C, KnowsA X.prog X.w X.K X.mg X.base k f C ∧ k ≤ j ∧ ∃ ta : TA, PA X (b :: es) ta ∧ ta σ H1 fun vs H2 => spX X.K C vs H2 QQ fun cls d H3 => W cls d σ H3) (fun v H1 x τ1 ⟨f, k, C, ex, F, hk, h1⟩ o1 r1 t1 => ?_) pins s I) fun u s1 ⟨v, H1, I1, rv, f, ev, k, C, F, hk, ta, hta, q⟩ => ?_) ht
  · subst ex
    refine ⟨f, r1, k, C, F, hk, Wa X (b :: es), pa_wa, h1 σ H1 o1 (l.tr t1) _ fun vs H2 xs τ2 h2 o2 r2 t2 => ?_⟩
    exact ⟨τ2, xs, Q, fun cls τ3 => R cls ρ τ3, o2, r2, h2, (p.step t1).step t2, fun cls H3 τ3 z o3 t3 => pw cls σ H3 ρ τ3 z o3 (((l.tr t1).tr t2).tr t3) ((t1.trans t2).trans t3)⟩
  · subst ev
    cases (show u = Value.ref f from rv)
    obtain ⟨fd, ps, F, kp, bd⟩ := F.ex
    refine PySem.W.callWith_K (h₀ := X.base) I1.ok.mod.kin kp (thn (hta.run pos pins s1 σ H1 _ I1 q) fun us s2 ⟨vs, H2, I2, r, q2⟩ => ⟨I2.kIn, ?_⟩) he hpl
    exact run_fnS F (hr.mono hk) bd (passAt tk σ) I2 r q2⟩
end
end Dl

/-! Dl39: a loop that exceptions may leave -/
namespace Dl
open PySem PySem.Spec L2
section
variable {X : Cx} {ρ : En} {τ : Store} {D : DE} {R : XR} {tg iter : Expr} {body : List Stmt} {pos : Pos}
theorem dsx_for {t : Tg} (hc : X.calm = true) (hp : PassesOwn (model X.prog X.w) X.A X.env X.xe) (hg : PGx X tg t)
    (h : Di X tg ρ τ iter fun ds S τ1 => ∃ I : Nat → En → Store → Prop, I 0 ρ τ1 ∧ (∀ i ρ' τ', I i ρ' τ' → S τ') ∧
      (∀ i d ρ' τ', ds[i]? = some d → I i ρ' τ' → ∃ ρ2, bindD ρ' t d = some ρ2 ∧ Dbx X ρ2 τ' body { D with nx := I (i + 1), ct := I (i + 1), bk := D.nx } R) ∧
      (∀ ρ' τ', I ds.length ρ' τ' → D.nx ρ' τ'))
    (hs : ∀ x, foldedSetIterable iter X.env x = pure x := by intro _; rfl) : Dsx X ρ τ (.For tg iter body [] pos) D R := ⟨fun σ H o l DD p W tk pw => by
  refine ws_of (ps_for hp hc pi_wi hg pss_wb hs) (h σ H o l _ fun J H1 ds S τ1 ⟨I, h0, hS, hst, hd⟩ o1 t1 wk => ?_)
  refine ⟨fun i m σ' H' => m = ds.length - i ∧ i ≤ ds.length ∧ ∃ ρ' τ', I i ρ' τ' ∧ StOk X.K H' τ' ∧ SlOk X.K (dom τ') H' σ' ρ' ∧ Tr (dom τ1) H1 (dom τ') H', ⟨ds.length, rfl, Nat.zero_le _, ρ, τ1, h0, o1, l.tr t1, Tr.refl⟩, ?_⟩
  rintro i m σ' H' ⟨rfl, hi, ρ', τ', hI, o', l', t'⟩
  by_cases hlt : i < ds.length
  · refine .inr ⟨wk.go i H' τ' hlt t' o' (hS _ _ _ hI), fun σ2 H2 => ∃ ρ2 τ2, I (i + 1) ρ2 τ2 ∧ StOk X.K H2 τ2 ∧ SlOk X.K (dom τ2) H2 σ2 ρ2 ∧ Tr (dom τ1) H1 (dom τ2) H2, fun σ2 H2 q => ⟨ds.length - (i + 1), by omega, rfl, hlt, q⟩, fun x H2 y => ?_⟩
    obtain ⟨d, hd', t2, o2, r2⟩ := wk.yld i H' τ' x H2 hlt t' o' (hS _ _ _ hI) y
    obtain ⟨ρ2, e2, hb⟩ := hst i d ρ' τ' hd' hI
    refine tgR_ok (l'.tr t2) e2 r2 fun σ3 l3 => hb.run σ3 H2 o2 l3 _ ⟨fun σ4 H4 ρ4 τ4 q o4 l4 t4 => ⟨ρ4, τ4, q, o4, l4, (t'.trans t2).trans t4⟩, ?_, ?_, fun σ4 H4 ρ4 τ4 q o4 l4 t4 => ⟨ρ4, τ4, q, o4, l4, (t'.trans t2).trans t4⟩⟩ W tk (pw.step ((t1.trans t').trans t2))
    · exact p.rt.step ((t1.trans t').trans t2)
    · exact p.nx.step ((t1.trans t').trans t2)
  · have e : i = ds.length := by omega
    subst e
    exact .inl ⟨wk.stop _ H' τ' (Nat.le_refl _) t' o' (hS _ _ _ hI), p.nx σ' H' ρ' τ' (hd _ _ hI) o' l' (t1.trans t')⟩⟩
end
end Dl

/-! Dl40: five targets -/
namespace Dl
open PySem PySem.Spec L2
section
variable {X : Cx} {kk : Nat} {pos : Pos}
theorem pgx_tup5 {i j k m n : Nat} {e1 e2 e3 e4 e5 : Expr} (hc : X.calm = true) (h1 : PG X e1 (gName i)) (h2 : PG X e2 (gName j)) (h3 : PG X e3 (gName k)) (h4 : PG X e4 (gName m)) (h5 : PG X e5 (gName n))
    (hs : (assignEach [e1, e2, e3, e4, e5] X.env).map (·.2) = assign e1 X.env :: (assignEach [e2, e3, e4, e5] X.env).map (·.2) := by rfl) (hs2 : (assignEach [e2, e3, e4, e5] X.env).map (·.2) = assign e2 X.env :: (assignEach [e3, e4, e5] X.env).map (·.2) := by rfl)
    (hs3 : (assignEach [e3, e4, e5] X.env).map (·.2) = assign e3 X.env :: (assignEach [e4, e5] X.env).map (·.2) := by rfl) (hs4 : (assignEach [e4, e5] X.env).map (·.2) = assign e4 X.env :: (assignEach [e5] X.env).map (·.2) := by rfl)
    (hs5 : (assignEach [e5] X.env).map (·.2) = assign e5 X.env :: (assignEach [] X.env).map (·.2) := by rfl)
    (hn : (assignEach [e1, e2, e3, e4, e5] X.env).length = 5 := by rfl) (hst : (assignEach [e1, e2, e3, e4, e5] X.env).findIdx? (·.1) = none := by rfl) : PGx X (.Tuple [e1, e2, e3, e4, e5] kk pos) (.tup [i, j, k, m, n]) :=
  PG.weak (pg_tup hc (pgs_cons h1 (pgs_cons h2 (pgs_cons h3 (pgs_cons h4 (pgs_cons h5 pgs_nil hs5) hs4) hs3) hs2) hs) hn hst) fun v σ H Q ⟨a, xs, e, h, hl, q⟩ => by
    match xs, hl with
    | [x1, x2, x3, x4, x5], _ =>
      exact ⟨a, [x1, x2, x3, x4, x5], e, h, rfl, x1, [x2, x3, x4, x5], rfl, x2, [x3, x4, x5], rfl, x3, [x4, x5], rfl, x4, [x5], rfl, x5, [], rfl, rfl, q⟩
end
end Dl

/-! Dl41: defs of no argument; a text some times -/
namespace Dl
open PySem PySem.Spec L2
section
variable {X : Cx} {ρ : En} {τ : Store} {Q : MV → Store → Prop} {a b : Expr} {pos p1 : Pos}
theorem de_call0 {k j : Nat} {x : Str} {C : Ctr} (F : Knows X.prog X.w X.K X.mg X.base k x C) (hr : Room j X.A) (hg : Gl X x) (h : C [] τ Q) (hk : k ≤ j := by decide) (hdb : (x == ("__debug__" : Str)) = false := by decide) : De X ρ τ (.Call (.Name x p1) [] [] pos) Q := .mk fun σ H o l QQ p => by
  obtain ⟨f, fd, ps, F, g, kp, b⟩ := F.ex
  refine we_of (pe_call0 F (hr.mono hk) hg g kp b .nil pass0 hdb) ?_
  exact ⟨τ, [], Q, o, .nil, h, p⟩
theorem op_mulS : OpR X (binaryOp .Mult) (fun x y H Q => ∃ (z : Str) (n : Int), x = .str z ∧ y = .int n ∧ 1 ≤ n ∧ n ≤ 1000 ∧ z.length ≤ 1000 ∧ ∀ u, Q (.str u) H) := by
  intro pins s σ H x y v u Q I rx ry h
  obtain ⟨z, n, rfl, rfl, h1, h2, hz, q⟩ := h
  obtain ⟨t, rfl⟩ := (show ∃ t, v = Value.str z t from rx)
  obtain ⟨t2, rfl⟩ := (show ∃ t, u = Value.int n t from ry)
  have hq : (z.length : Int) ≤ (2 ^ 63 - 1) / n := by
    rw [Int.le_ediv_iff_mul_le (by omega)]
    have : (z.length : Int) * n ≤ 1000 * 1000 := Int.mul_le_mul (by omega) h2 (by omega) (by omega)
    omega
  have hl : Builtin.Str.tooLong (z.length * n.toNat) = false := by
    have : z.length * n.toNat ≤ 1000 * 1000 := Nat.mul_le_mul hz (by omega)
    unfold Builtin.Str.tooLong
    rw [sizeLine_eq]
    exact decide_eq_false (by omega)
  refine PySem.P.mul_str (by rw [decide_eq_false (by omega), decide_eq_false (by omega)]; rfl) (fun _ _ => by omega) (fun _ _ => hl) ?_
  rw [if_neg (by omega)]
  by_cases hc : (n == 1 || z.length == 0) = true
  · rw [if_pos hc]
    exact ⟨.str z, H, I, ⟨t, rfl⟩, q z⟩
  · rw [if_neg hc]
    exact ⟨fits_reps hl, .str _, H, I.tok _, ⟨_, rfl⟩, q _⟩
theorem de_timesS (h : De X ρ τ a fun x τ1 => De X ρ τ1 b fun y τ2 => ∃ (z : Str) (n : Int), x = .val (.str z) ∧ y = .val (.int n) ∧ 1 ≤ n ∧ n ≤ 1000 ∧ z.length ≤ 1000 ∧ ∀ u, Q (.val (.str u)) τ2) : De X ρ τ (.BinOp a .Mult b pos) Q := de_op op_mulS (h.mono fun x τ1 h1 => h1.mono fun y τ2 ⟨z, n, ex, ey, k1, k2, hz, q⟩ => .mk fun H v u o r1 r2 QQ p => by
  subst ex ey
  cases r1
  cases r2
  exact ⟨z, n, rfl, rfl, k1, k2, hz, fun u => p _ H _ τ2 (q u) o (Dn.str _) Tr.refl⟩)
end
end Dl

/-! Dl42: where a text's token is out: the comprehension whose element wants one -/
namespace Dl
open PySem PySem.Spec L2
section
variable {α : Type} {M : Model} {B : Around} {E : Value → Shared → Prop} {s : Shared} {t : Sem α} {Q Q' : α → Shared → Prop}
/-- go on, a token being out -/
theorem thnT (h0 : 1 ≤ s.toks) (h : wpAny M B t Q E s) (hQ : ∀ a u, Q a u → 1 ≤ u.toks → Q' a u) : wpAny M B t Q' E s :=
  wpAny_with_toks h0 (wpAny_mono h (fun a u z k => hQ a u z k) fun _ _ z _ => z)
theorem thnTF (h0 : 1 ≤ s.toks) (h : wpAny M B t Q (fun _ _ => False) s) (hQ : ∀ a u, Q a u → 1 ≤ u.toks → Q' a u) : wpAny M B t Q' E s :=
  wpAny_with_toks h0 (wpAny_mono h (fun a u z k => hQ a u z k) fun _ _ z => z.elim)
end
section
variable {X : Cx}
/-- a comprehension without tests, its element asked where a token is out -/
theorem lc_toks {pins : List (Addr × Obj)} {s : Shared} {σ : St} {H : Hp} {Q : VK} {elt tg iter : Expr} {scope : Scope} {own : List (Str × Nat)} {pos pos' : Pos} {wi : TI} {g : TG} {te : TE} {use : Option (Value → Sem Unit)} {Qf : Value → Shared → Prop}
    (tk : 1 ≤ s.toks) (calm : X.calm = true) (ndN : X.N.Nodup) (I : Inv X pins σ H s) (hi : PI X tg iter wi) (bo : BlkOk X.N X.env.scope scope own)
    (hg : ∀ (u : Shared) (H' : Hp) (C : Addr) (cl : List (Str × Addr)) (fp : List Addr), PG (Blk X u H' scope C cl fp) tg g)
    (he : ∀ (u : Shared) (H' : Hp) (C : Addr) (cl : List (Str × Addr)) (fp : List Addr), PET (Blk X u H' scope C cl fp) elt te) (folds : ∀ x, foldedSetIterable iter X.env x = pure x)
    (h : tLc wi g tYes te (own.map (·.2)) σ H Q)
    (out : ∀ D C u m H', Inv X pins σ H' u → Q (.ref D) H' → u.heap.Ns C m → FpOk X pins H' C → 1 ≤ u.toks → compPost (model X.prog X.w) X.A X.xe use Qf (.ref D) C (.ok .next) u) :
    wpAny (model X.prog X.w) X.A (comprehension (.ListComp elt [⟨tg, iter, [], 0⟩] scope pos) scope X.env pos' (newList []) false (eval iter X.env) use) Qf X.xe s := by
  have frees : ∀ y ∈ scope.names, y.2 = .free → ∃ c, X.env.cells.lookup y.1 = some c := by
    intro y my ey
    rcases bo.free y my ey with z | z
    · exact I.ok.has _ (Or.inl z)
    · exact I.ok.has _ (Or.inr z)
  refine wpAny_comprehension_free (use := use) rfl folds (closure_ok frees) bo.kind (fun y my ey => by rw [bo.uniq y my, ey]) ?_
  refine thnT tk (hi.run pins s σ H _ I h) fun v1 u1 w1 k1 => ?_
  refine thnT k1 w1 fun v2 u2 w2 k2 => ?_
  obtain ⟨it, fp, tn, J, G2, ev, I2, T, stay2, fresh2, q⟩ := w2
  subst ev
  refine wpAny_newObj_type (newEnv_comp ?_) (show 0 ≤ sizeLine by decide)
  generalize eD : u2.heap.objs.size = D
  have freeD : G2 D = none := I2.hok.fresh (Nat.le_of_eq eD)
  obtain ⟨W, ⟨n0, start0⟩, turn⟩ := q D freeD
  generalize eu3 : ({ u2 with heap := u2.heap.push { cls := .type "list", data := .seq ([] : List Value).toArray } } : Shared) = u3
  have hp3 : u3.heap = u2.heap.push { cls := .type "list", data := .seq ([] : List Value).toArray } := by rw [← eu3]
  have k3 : 1 ≤ u3.toks := by rw [← eu3]; exact k2
  have I3 : Inv X pins σ (upd G2 D (.lst [])) u3 := by
    rw [← eu3]
    refine I2.laid (t' := u2.toks) (fun b o e => Heap.get?_push_of_some _ e) (Nat.le_of_eq eD) ⟨Nat.zero_le _, [], 0, .nil, ?_⟩
    rw [← eD]
    exact Heap.get?_push_size _ rfl
  have below : ∀ b ∈ fp, b < u2.heap.objs.size := by
    intro b hb
    obtain ⟨o, e, _⟩ := T.obj _ _ stay2 b hb
    exact Heap.lt_size e
  have fresh3 : ∀ b ∈ fp, FpOk X pins (upd G2 D (.lst [])) b ∧ b < u3.heap.objs.size := by
    intro b hb
    have lt := below b hb
    have ne : b ≠ D := by rw [← eD]; exact Nat.ne_of_lt lt
    refine ⟨⟨?_, (fresh2 b hb).2⟩, ?_⟩
    · rw [upd_ne ne]
      exact (fresh2 b hb).1
    · rw [hp3, Heap.size_push]
      exact Nat.lt_succ_of_lt lt
  have stay3 : tn 0 u3.heap := T.keep _ _ _ stay2 (by
    intro b _ o e
    rw [hp3]
    exact Heap.get?_push_of_some _ e)
  have I4 := block_start I3 bo ndN fresh3
  have target : PG (X.blk u3 (upd G2 D (.lst [])) scope (compEnvC scope (cellsFrom (u3.heap.objs.size + 1) scope.names (cloFrom X.env.cells scope.names [])) u3.heap.objs.size X.env) fp) tg g := hg u3 (upd G2 D (.lst [])) u3.heap.objs.size (cellsFrom (u3.heap.objs.size + 1) scope.names (cloFrom X.env.cells scope.names [])) fp
  have element : PET (X.blk u3 (upd G2 D (.lst [])) scope (compEnvC scope (cellsFrom (u3.heap.objs.size + 1) scope.names (cloFrom X.env.cells scope.names [])) u3.heap.objs.size X.env) fp) elt te := he u3 (upd G2 D (.lst [])) u3.heap.objs.size (cellsFrom (u3.heap.objs.size + 1) scope.names (cloFrom X.env.cells scope.names [])) fp
  have none3 : ∀ b ∈ fp, (upd G2 D (.lst [])) b = none := fun b hb => (fresh3 b hb).1.1
  show codeAny _ _ (.compStart (.ListComp elt [⟨tg, iter, [], 0⟩] scope pos) 0 (.ref it) (.ref D) (compEnvC scope (cellsFrom (u3.heap.objs.size + 1) scope.names (cloFrom X.env.cells scope.names [])) u3.heap.objs.size X.env))
    (compPost (model X.prog X.w) X.A X.xe use Qf (.ref D) u3.heap.objs.size) { u3 with heap := pushCells (u3.heap.push { cls := .type "dict", data := .dict #[] }) scope.names }
  generalize eC : compEnvC scope (cellsFrom (u3.heap.objs.size + 1) scope.names (cloFrom X.env.cells scope.names [])) u3.heap.objs.size X.env = env' at I4 target element ⊢
  have locC : env'.locals = u3.heap.objs.size := by rw [← eC]; rfl
  generalize eG : upd G2 D (.lst []) = G3 at I3 I4 target element start0 none3 fresh3
  generalize eu4 : ({ u3 with heap := pushCells (u3.heap.push { cls := .type "dict", data := .dict #[] }) scope.names } : Shared) = u4 at I4 ⊢
  have k4 : 1 ≤ u4.toks := by rw [← eu4]; exact k3
  have stay4 : tn 0 u4.heap := T.keep _ _ _ stay3 (by
    intro b _ o e
    rw [← eu4]
    exact pushCells_keeps _ _ _ _ (Heap.get?_push_of_some _ e))
  have lone : ∀ {σ' : L2.St} {G : Hp} {u : Shared}, Inv (X.blk u3 G3 scope env' fp) [] σ' G u → (∀ b ∈ fp, G b = none) → ∀ b ∈ fp, FpOk (X.blk u3 G3 scope env' fp) [] G b := by
    intro σ' G u J' nn b hb
    refine ⟨nn b hb, (J'.ok.exf b hb).1, J'.ok.exfs b hb, Or.inl hb, fun x c e => (J'.ok.exf b hb).2 x c e, fun p hp => ?_⟩
    have hp' : p ∈ ([] : List (Addr × Obj)) ++ [] := hp
    simp at hp'
  have walk : codeAny (model X.prog X.w) X.A (.compLoop (.ListComp elt [⟨tg, iter, [], 0⟩] scope pos) 0 (.ref it) (.ref D) env') (compPost (model X.prog X.w) X.A X.xe use Qf (.ref D) u3.heap.objs.size) u4 := by
    refine compLoop_any (fun n u => 1 ≤ u.toks ∧ ∃ i G, Inv (X.blk u3 G3 scope env' fp) [] (wipe σ (own.map (·.2))) G u ∧ tn i u.heap ∧ (∀ b ∈ fp, G b = none) ∧ W i n G) ?_ n0 ⟨k4, 0, G3, I4, stay4, none3, start0⟩
    rintro n u5 ⟨k5, i, G5, I5, stay5, none5, w5⟩
    rcases turn i n G5 w5 with ⟨over, qq⟩ | ⟨goes, Nx, less, step⟩
    · refine thnTF k5 (T.done (X.blk u3 G3 scope env' fp) rfl rfl rfl calm i [] u5 _ G5 (fun _ _ => False) I5 (lone I5 none5) stay5 over) fun r u6 ⟨er, I6⟩ k6 => ?_
      subst er
      have I7 : Inv X pins σ G5 u6 := by
        refine I3.call' (ch := fp) I6.os I6.base I6.hok I6.bare fun b hb => ?_
        have z := (fresh3 b hb).1.2
        exact ⟨z.2.2.1, z.1, z.2.2.2.1, z.2.2.2.2⟩
      have noneC : G5 u3.heap.objs.size = none := by
        rw [← locC]
        exact I6.free
      obtain ⟨m, nsC, _⟩ := I6.loc
      have nsC' : u6.heap.Ns env'.locals m := nsC
      rw [locC] at nsC'
      exact out D u3.heap.objs.size u6 m G5 I7 qq nsC' (I3.fpOk (Nat.le_refl _) noneC) k6
    · refine thnTF k5 (T.item (X.blk u3 G3 scope env' fp) rfl rfl rfl calm i [] u5 _ G5 (fun _ _ => False) I5 (lone I5 none5) stay5 goes) fun r u6 ⟨v, er, w6⟩ k6 => ?_
      subst er
      refine thnTF k6 w6 fun _ u7 ⟨x, G7, I7, r7, y7, stay7, none7⟩ k7 => ?_
      have P7 := I7.pinned (lone I7 none7) (T.obj _ _ stay7)
      refine thnTF k7 (target.run _ u7 _ G7 x v _ P7 r7 (step x G7 y7)) fun _ u8 ⟨σ8, G8, I8, wiped, q8⟩ k8 => ?_
      refine thnTF k8 ((pts_nil (X := X.blk u3 G3 scope env' fp)).run _ u8 σ8 G8 _ I8 q8) fun b u9 ⟨G9, I9, q9⟩ k9 => ?_
      have again : ∀ {u : Shared} {G : Hp}, 1 ≤ u.toks → Inv (X.blk u3 G3 scope env' fp) ([] ++ pinsAt fp u7.heap) σ8 G u → Nx G →
          ∃ m, m < n ∧ 1 ≤ u.toks ∧ ∃ i G, Inv (X.blk u3 G3 scope env' fp) [] (wipe σ (own.map (·.2))) G u ∧ tn i u.heap ∧ (∀ b ∈ fp, G b = none) ∧ W i m G := by
        intro u G ku J' nx
        obtain ⟨m, lt, w'⟩ := less G nx
        have held : ∀ b ∈ fp, ∀ o, u7.heap.get? b = some o → u.heap.get? b = some o ∧ G b = none := by
          intro b hb o e
          have z := J'.pin (b, o) (List.mem_append_right _ (List.mem_append_right _ (mem_pinsAt hb e)))
          exact ⟨z.1, z.2.1⟩
        have len : (wipe σ (own.map (·.2))).length = σ8.length := by
          rw [← wiped]
          exact wipe_length _ _
        refine ⟨m, lt, ku, i + 1, G, (J'.unpinned (pins := [])).weak len (fun j v e => ?_), T.keep _ _ _ stay7 (fun b hb o e => (held b hb o e).1), fun b hb => ?_, w'⟩
        · rw [← wiped] at e
          exact (wipe_some e).1
        · obtain ⟨o, e, _⟩ := T.obj _ _ stay7 b hb
          exact (held b hb o e).2
      cases b with
      | false =>
        rw [if_neg Bool.false_ne_true] at q9 ⊢
        exact again k9 I9 q9
      | true =>
        rw [if_pos rfl] at q9 ⊢
        refine thnTF k9 (element _ u9 σ8 G9 _ k9 I9 q9) fun z u10 ⟨yv, G10, I10, r10, acc, atD, small, nx⟩ k10 => ?_
        exact wpAny_with_toks k10 (app_ok (X := X.blk u3 G3 scope env' fp) I10 atD small r10 fun u11 I11 k11 => again k11 I11 nx)
  exact codeAny_compStart_list walk (T.self X.A 0 _ _ _ stay4 walk)
end
end Dl

/-! Dl43: the judgements where a token is out: blocks, replace, the comprehension -/
namespace Dl
open PySem PySem.Spec L2
section
variable (X : Cx)
def WeT (e : Expr) : TE := fun σ H Q => ∀ (pins : List (Addr × Obj)) (s : Shared), 1 ≤ s.toks → Inv X pins σ H s → wpAny (model X.prog X.w) X.A (eval e X.env) (EP X pins σ Q) X.xe s
def WsT (st : Stmt) : TS := fun D σ H => ∀ (pins : List (Addr × Obj)) (s : Shared), 1 ≤ s.toks → Inv X pins σ H s → wpAny (model X.prog X.w) X.A (exec st X.env) (SP X pins D) X.xe s
def WbT (st : List Stmt) : TS := fun D σ H => ∀ (pins : List (Addr × Obj)) (s : Shared), 1 ≤ s.toks → Inv X pins σ H s → wpAny (model X.prog X.w) X.A (execs st X.env) (SP X pins D) X.xe s
end
section
variable {X : Cx} {σ : St} {H : Hp}
theorem pet_weT {e : Expr} : PET X e (WeT X e) := fun pins s _ _ _ k I h => h pins s k I
theorem weT_of {e : Expr} {t : TE} {Q : VK} (h : PET X e t) (q : t σ H Q) : WeT X e σ H Q := fun pins s k I => h pins s σ H Q k I q
theorem weT_we {e : Expr} {Q : VK} (h : We X e σ H Q) : WeT X e σ H Q := fun pins s _ I => h pins s I
theorem pst_wsT {st : Stmt} : PST X st (WsT X st) := fun pins s _ _ _ k I h => h pins s k I
theorem psst_wbT {st : List Stmt} : PSsT X st (WbT X st) := fun pins s _ _ _ k I h => h pins s k I
end
structure DeT (X : Cx) (ρ : En) (τ : Store) (e : Expr) (Q : MV → Store → Prop) : Prop where
  run : ∀ (σ : St) (H : Hp), StOk X.K H τ → SlOk X.K (dom τ) H σ ρ → ∀ QQ : VK, Pst X.K τ H Q QQ → WeT X e σ H QQ
structure DsxT (X : Cx) (ρ : En) (τ : Store) (st : Stmt) (D : DE) (R : XR) : Prop where
  run : ∀ σ H, StOk X.K H τ → SlOk X.K (dom τ) H σ ρ → ∀ DD, PstD X.K τ H D DD → ∀ W, Takes X W → PstW X.K τ H R W → WsT X st DD σ H
structure DbxT (X : Cx) (ρ : En) (τ : Store) (body : List Stmt) (D : DE) (R : XR) : Prop where
  run : ∀ σ H, StOk X.K H τ → SlOk X.K (dom τ) H σ ρ → ∀ DD, PstD X.K τ H D DD → ∀ W, Takes X W → PstW X.K τ H R W → WbT X body DD σ H
section
variable {X : Cx} {ρ : En} {τ : Store} {e a : Expr} {st : Stmt} {body rest : List Stmt} {Q : MV → Store → Prop} {D : DE} {R : XR} {pos p1 : Pos}
theorem deT_of (h : De X ρ τ e Q) : DeT X ρ τ e Q := ⟨fun σ H o l QQ p => weT_we (h σ H o l QQ p)⟩
theorem dsxT_of (h : Dsx X ρ τ st D R) : DsxT X ρ τ st D R := ⟨fun σ H o l DD p W tk pw pins s _ I => h.run σ H o l DD p W tk pw pins s I⟩
theorem dbxT_of (h : Dbx X ρ τ body D R) : DbxT X ρ τ body D R := ⟨fun σ H o l DD p W tk pw pins s _ I => h.run σ H o l DD p W tk pw pins s I⟩
theorem dbxT_cons (h : DsxT X ρ τ st { D with nx := fun ρ1 τ1 => DbxT X ρ1 τ1 rest D R } R) : DbxT X ρ τ (st :: rest) D R := ⟨fun σ H o l DD p W tk pw pins s k I =>
  psst_cons pst_wsT psst_wbT pins s σ H DD k I (h.run σ H o l { DD with nx := WbT X rest DD } ⟨fun σ1 H1 ρ1 τ1 h1 o1 l1 t1 => h1.run σ1 H1 o1 l1 DD (p.step t1) W tk (pw.step t1), p.rt, p.bk, p.ct⟩ W tk pw)⟩
/-- e.replace of written texts -/
theorem deT_replace {y z : Str} {j k : Nat} {c0 c1 apos : Pos} (h : De X ρ τ a fun x τ1 => ∃ w : Str, x = .val (.str w) ∧ w.length + (w.length + 1) * z.length ≤ 16777216 ∧ Q (.val (.str (Txt.replace w y z))) τ1) (hyz : (y == z) = false := by decide)
    (hst : starEach [.Constant (.str y) j c0, .Constant (.str z) k c1] X.env = [(false, eval (.Constant (.str y) j c0) X.env), (false, eval (.Constant (.str z) k c1) X.env)] := by rfl)
    (hbase : attributeBase a "replace" X.env (eval a X.env) = eval a X.env := by rfl) (hline : (apos.endLine == pos.line) = true := by rfl) :
    DeT X ρ τ (.Call (.Attribute a "replace" apos) [.Constant (.str y) j c0, .Constant (.str z) k c1] [] pos) Q := ⟨fun σ H o l QQ p =>
  weT_of (CwR.pet_replC pe_we hyz hst hbase hline) (h σ H o l _ fun v H1 x τ1 ⟨w, ex, hl, q⟩ o1 r1 t1 => by
    subst ex
    cases r1
    exact ⟨w, rfl, hl, p _ H1 _ τ1 q o1 (Dn.str _) t1⟩)⟩
/-- a call of one argument, the argument wanting a token -/
theorem deT_call1 {k j : Nat} {x : Str} {C : Ctr} (F : Knows X.prog X.w X.K X.mg X.base k x C) (hr : Room j X.A) (hg : Gl X x) (h : DeT X ρ τ a fun y τ1 => C [y] τ1 Q) (hk : k ≤ j := by decide)
    (hdb : (x == ("__debug__" : Str)) = false := by decide) (he : starEach [a] X.env = (false, eval a X.env) :: starEach [] X.env := by rfl) (hpl : (backTo pos (starEach [] X.env)).any (·.1) = false := by rfl) :
    DeT X ρ τ (.Call (.Name x p1) [a] [] pos) Q := ⟨fun σ H o l QQ p pins s ks I => by
  obtain ⟨f, fd, ps, F, g, kp, b⟩ := F.ex
  refine wpAny_Call_Name_kw (ld_glob I hg g ?_ hdb)
  have ha : PAT X [a] (tCons (WeT X a) tNil) := pat_cons pet_weT pat_nil he
  refine PySem.W.callWith_K (h₀ := X.base) I.ok.mod.kin kp (thn (ha pos pins s σ H (fun vs H1 => spC X.K C vs H1 QQ E0) ks I (h.run σ H o l _ fun v H1 y τ1 h1 o1 r1 t1 => ?_)) fun us s2 ⟨vs, H2, I2, r, q⟩ => ⟨I2.kIn, ?_⟩) he hpl
  · exact ⟨τ1, [y], Q, o1, .cons r1 .nil, h1, p.step t1⟩
  · have z := run_fn (dvs := []) (ds := []) (us := us) F (hr.mono hk) b .nil pass0 I2 r (by rw [List.append_nil]; exact q)
    exact z⟩
end
end Dl

/-! Dl44: name = [f(e.replace(..)) for ..]; defs at whose entry a token is out -/
namespace Dl
open PySem PySem.Spec L2
section
variable {X : Cx} {ρ : En} {τ : Store} {pos spos py : Pos} {tg iter elt : Expr} {scope : Scope} {own : List (Str × Nat)} {y : Str} {i : Nat}
theorem wsT_setLc {wi : TI} {g : TG} {te : TE} (calm : X.calm = true) (ndN : X.N.Nodup) (atY : X.N[i]? = some y) (locY : X.env.scope.names.lookup y = some .local)
    (used : swapsWith (.ListComp elt [⟨tg, iter, [], 0⟩] scope pos) (some (.Name y py)) spos.line X.env = pure true) (hi : PI X tg iter wi) (bo : BlkOk X.N X.env.scope scope own)
    (hg : ∀ (u : Shared) (H' : Hp) (C : Addr) (cl : List (Str × Addr)) (fp : List Addr), PG (Blk X u H' scope C cl fp) tg g)
    (he : ∀ (u : Shared) (H' : Hp) (C : Addr) (cl : List (Str × Addr)) (fp : List Addr), PET (Blk X u H' scope C cl fp) elt te) (folds : ∀ x, foldedSetIterable iter X.env x = pure x)
    {σ : St} {H : Hp} {D : Ends} (h : tLc wi g tYes te (own.map (·.2)) σ H fun x H1 => gName i x σ H1 D.nx) : WsT X (.Assign [.Name y py] (.ListComp elt [⟨tg, iter, [], 0⟩] scope pos) spos) D σ H := by
  intro pins s k0 I
  rw [exec_Assign_Name_used _ _ _ _ used]
  refine wpAny_bind (wpAny_standAt (wpAny_bind ?_))
  show wpAny (model X.prog X.w) X.A (do
    let _ ← comprehension (.ListComp elt [⟨tg, iter, [], 0⟩] scope pos) scope X.env (firstIterPos [⟨tg, iter, [], 0⟩] pos) (newList []) false (eval iter X.env) (some (assign (.Name y py) X.env))) _ _ s
  refine wpAny_bind (thn (lc_toks (Qf := fun _ u => SP X pins D .next u) k0 calm ndN I hi bo hg he folds h fun L C u m H' I' q ns fC _ => ?_) fun _ u hq => wpAny_pure (wpAny_pure hq))
  show wpAny _ _ (assign (.Name y py) X.env (.ref L)) _ _ _
  refine wpAny_assign_Name (store_ok2 (v := V.ref L) I' ndN atY (Or.inl locY) rfl (fun u2 I2 ⟨b, same, hb⟩ => ?_) (Or.inr locY))
  obtain ⟨c0, c1, c2, c3, c4, c5⟩ := fC
  have neC : C ≠ b := by
    rcases hb with e | e
    · rw [e]
      exact c1
    · exact fun e2 => c4 y b e e2.symm
  refine ⟨m, ns.sameBut same neC, fun h3 same3 => ?_⟩
  exact ⟨_, H', I2.turned (t' := u2.toks) (fun a o ha e => (same3.2 a ha).trans e) c0 c1 c3 c4 c5, q⟩
/-- what such a comprehension hands on: a map, the store as it was -/
def LcQT (X : Cx) (ρ : En) (scope : Scope) (vs : List Nat) (t : Tg) (elt : Expr) (Q : MV → Store → Prop) : List PyData → (Store → Prop) → Store → Prop := fun ds S τ1 =>
  ds.length ≤ 900000 ∧ (∀ D acc, D ∉ dom τ1 → S ((D, .lst acc) :: τ1)) ∧ ∃ f : PyData → PyData, (∀ d ∈ ds, ∃ ρ2, bindD (wipeE ρ vs) t d = some ρ2 ∧
    ∀ D acc, D ∉ dom τ1 → ∀ s H C cl fp, DeT (Blk X s H scope C cl fp) ρ2 ((D, .lst acc) :: τ1) elt fun sv τ3 => sv = .val (f d) ∧ τ3 = (D, .lst acc) :: τ1) ∧ Q (.val (.list (ds.map f))) τ1
def teBT (X : Cx) (scope : Scope) (elt : Expr) : TE := fun σ H Q => ∀ s H0 C cl fp, WeT (Blk X s H0 scope C cl fp) elt σ H Q
theorem lcT_read {t : Tg} {vs : List Nat} {Q : MV → Store → Prop} (hu : ∀ j ∈ t.slots, j ∈ vs) (h : Di X tg ρ τ iter (LcQT X ρ scope vs t elt Q)) {σ : L2.St} {H : Hp} (o : StOk X.K H τ) (l : SlOk X.K (dom τ) H σ ρ) {QQ : VK} (p : Pst X.K τ H Q QQ) :
    tLc (Wi X tg iter) (tgR X.K t) tYes (teBT X scope elt) vs σ H QQ := by
  refine h σ H o l _ fun J H1 ds S τ1 ⟨hl, hS, f, ht, hq⟩ o1 t1 wk => fun D hD => ?_
  have t1' : Tr (dom τ1) H1 (dom ((D, MO.lst []) :: τ1)) (upd H1 D (.lst [])) := Tr.push hD
  refine ⟨fun i m H' => m = ds.length - i ∧ i ≤ ds.length ∧ StOk X.K H' ((D, .lst ((ds.take i).map f)) :: τ1) ∧ Tr (dom τ1) H1 (dom ((D, MO.lst ((ds.take i).map f)) :: τ1)) H', ⟨ds.length, rfl, Nat.zero_le _, o1.push hD ⟨[], upd_same, .nil⟩, t1'⟩, ?_⟩
  rintro i m H' ⟨rfl, hi, o', t'⟩
  have nD : D ∉ dom τ1 := (List.nodup_cons.mp o'.nd).1
  by_cases hlt : i < ds.length
  · refine .inr ⟨wk.go i H' _ hlt t' o' (hS _ _ nD), fun H2 => StOk X.K H2 ((D, .lst ((ds.take (i + 1)).map f)) :: τ1) ∧ Tr (dom τ1) H1 (dom ((D, MO.lst ((ds.take (i + 1)).map f)) :: τ1)) H2, fun H2 q => ⟨ds.length - (i + 1), by omega, rfl, hlt, q⟩, fun x H2 yy => ?_⟩
    obtain ⟨d, hd', t2, o2, r2⟩ := wk.yld i H' _ x H2 hlt t' o' (hS _ _ nD) yy
    obtain ⟨ρ2, e2, he⟩ := ht d (List.mem_of_getElem? hd')
    have l2 : SlOk X.K (dom ((D, MO.lst ((ds.take i).map f)) :: τ1)) H2 (wipe σ vs) (wipeE ρ vs) := (((l.tr t1).tr t').tr t2).wipe vs
    refine tgR_ok' hu l2 e2 r2 fun σ3 l3 w3 => ⟨by rw [w3, wipe_wipe σ vs vs fun _ h => h], ?_⟩
    unfold tYes
    simp only [if_true]
    intro s1 H1' C1 cl1 fp1
    refine (he D _ nD s1 H1' C1 cl1 fp1).run σ3 H2 o2 l3 _ fun v H4 sv τ4 ⟨e5, e6⟩ o4 r4 t4 => ?_
    subst e5 e6
    obtain ⟨us, h5, h6⟩ := o4.ok (D, .lst ((ds.take i).map f)) List.mem_cons_self
    have tw : Tr (dom ((D, MO.lst ((ds.take i).map f)) :: τ1)) H4 (dom ((D, MO.lst ((ds.take i).map f ++ [f d])) :: τ1)) (upd H4 D (.lst (us ++ [v]))) := Tr.write (τ := (D, MO.lst ((ds.take i).map f)) :: τ1) (a := D) List.mem_cons_self
    have ow := o4.write (a := D) (o := .lst (us ++ [v])) (mo := .lst ((ds.take i).map f ++ [f d])) List.mem_cons_self ⟨_, upd_same, (h6.append (.cons r4 .nil)).tr (Tr.write (τ := (D, MO.lst ((ds.take i).map f)) :: τ1) (a := D) List.mem_cons_self)⟩
    have es : setS D (.lst ((ds.take i).map f ++ [f d])) ((D, MO.lst ((ds.take i).map f)) :: τ1) = (D, .lst ((ds.take i).map f ++ [f d])) :: τ1 := if_pos rfl
    rw [es] at ow
    have ea : (ds.take (i + 1)).map f = (ds.take i).map f ++ [f d] := by
      rw [List.take_add_one, hd', List.map_append]
      rfl
    rw [← ea] at ow tw
    exact ⟨us, h5, small_sz' (by rw [h6.length, List.length_map, List.length_take]; omega), ow, ((t'.trans t2).trans t4).trans tw⟩
  · have e : i = ds.length := by omega
    subst e
    rw [List.take_length] at o' t'
    refine .inl ⟨wk.stop _ H' _ (Nat.le_refl _) t' o' (hS _ _ nD), ?_⟩
    obtain ⟨us, h5, h6⟩ := o'.ok (D, .lst (ds.map f)) List.mem_cons_self
    exact p _ H' (.val (.list (ds.map f))) τ1 hq o'.drop (Dn.lst ⟨nD, h5⟩ (h6.tr Tr.drop)) (t1.trans (t'.trans Tr.drop))
theorem dsxT_setLc {t : Tg} {D : DE} {R : XR} (i : Nat) {y : Str} {py : Pos} (hc : X.calm = true) (hN : X.N.Nodup) (hy : X.N[i]? = some y) (hyl : X.env.scope.names.lookup y = some .local)
    (hsw : swapsWith (.ListComp elt [⟨tg, iter, [], 0⟩] scope pos) (some (.Name y py)) spos.line X.env = pure true) (ok : BlkOk X.N X.env.scope scope own) (hu : ∀ j ∈ t.slots, j ∈ own.map (·.2))
    (hg : ∀ s H C cl fp, PGx (Blk X s H scope C cl fp) tg t) (h : Di X tg ρ τ iter (LcQT X ρ scope (own.map (·.2)) t elt fun sv τ1 => D.nx (ρ.set i (some sv)) τ1)) (hs : ∀ x, foldedSetIterable iter X.env x = pure x := by intro _; rfl) :
    DsxT X ρ τ (.Assign [.Name y py] (.ListComp elt [⟨tg, iter, [], 0⟩] scope pos) spos) D R := ⟨fun σ H o l DD p W tk pw =>
  wsT_setLc (te := teBT X scope elt) (g := tgR X.K t) hc hN hy hyl hsw pi_wi ok hg (fun u H' C cl fp => fun pins s' σ' H2 Q' k I hq => hq u H' C cl fp pins s' k I) hs
    (lcT_read hu h o l (QQ := fun v H1 => gName i v σ H1 DD.nx) fun v H1 sv τ1 q o1 r1 t1 => p.nx _ H1 _ τ1 q o1 ((l.tr t1).set r1 i) t1)⟩
end
section
variable {P : Program} {w : World} {K : PySem.W.Frag} {mg : Str → Option Value} {base : Heap}
/-- a def of at least one argument, without cells: a token is out at its entry -/
theorem knowsX_mkT {x : Str} {st : Stmt} {N ps : List Str} {k : Nat} {C : CtrX} (F : HasDef K mg x st ps) (S : FnScope N ps (defScope st)) (hps : 1 ≤ ps.length) (hnc : ∀ z ∈ (defScope st).names, z.2 ≠ .cell) (hl : ∀ svs τ Q R, C svs τ Q R → svs.length = ps.length)
    (body : ∀ f cdv A outer s H E, Room k (BXX P w K mg base N x st f cdv A outer s H E).A → ∀ svs τ Q R, C svs τ Q R →
      DbxT (BXX P w K mg base N x st f cdv A outer s H E) (startE N svs) τ (defBody st) { nx := fun _ τ' => Q (.val .none) τ', rt := Q } fun cls _ τ' => R cls τ') : KnowsX P w K mg base (k + 1) x C := by
  obtain ⟨f, fd, F, g, b⟩ := F.ex
  obtain ⟨oc, od, kV, doc, pm, an, cdv, ct, osl, rfl, lk, hcd⟩ := F.ex
  refine ⟨f, _, ps, fn_ofT (CX := L2.CX P w) lk hcd S hnc hps (fun vs H Q E ⟨τ, svs, QQ, R, o, r, c, p, _⟩ => ?_) (fun A outer s H vs Q E hr ⟨τ, svs, QQ, R, o, r, c, p, pe⟩ => ?_), g, F.kp, b⟩
  · rw [Paired.length r]
    exact hl _ _ _ _ c
  · refine ⟨_, psst_wbT, (body f cdv A outer s H E hr svs τ QQ R c).run _ H o (slOk_start r) _ ⟨fun σ' H' ρ' τ' q o' _ t => p _ H' _ τ' q o' Dn.non t, p, fun _ _ _ _ q => q.elim, fun _ _ _ _ q => q.elim⟩ (fun cls d _ H' => E cls d H') (takes_of rfl rfl rfl rfl) fun cls σ' H' ρ' τ' q o' _ t => pe cls H' τ' q o' t⟩
end
end Dl

/-! zip of three tuples -/
namespace L2
open PySem PySem.Spec PyProof.Rows RZ
/-- three tuples of lengths n1 n2 n3 as they stand at each turn, the items in new triples -/
def Itz3T (K : PySem.W.Frag) (a b c : Addr) (n1 n2 n3 : Nat) : It :=
  ⟨fun i H => ∃ (xs ys zs : List V) (x y u : V), SqT K H a xs ∧ SqT K H b ys ∧ SqT K H c zs ∧ xs.length = n1 ∧ ys.length = n2 ∧ zs.length = n3 ∧ xs[i]? = some x ∧ ys[i]? = some y ∧ zs[i]? = some u,
    fun i H v H' => ∃ T x y u, v = .ref T ∧ H T = none ∧ H' = upd H T (.tup [x, y, u]) ∧ (∀ xs, SqT K H a xs → xs[i]? = some x) ∧ (∀ ys, SqT K H b ys → ys[i]? = some y) ∧ ∀ zs, SqT K H c zs → zs[i]? = some u,
    fun i H => ∃ xs ys zs : List V, SqT K H a xs ∧ SqT K H b ys ∧ SqT K H c zs ∧ xs.length = n1 ∧ ys.length = n2 ∧ zs.length = n3 ∧ (n1 ≤ i ∨ n2 ≤ i ∨ n3 ≤ i)⟩
theorem turn_zip3T {P : Program} {w : World} {K : PySem.W.Frag} {elts : List Expr} {kk : Nat} {tpos : Pos} {a b c z TI TO i1 i2 i3 : Addr} {n1 n2 n3 : Nat} (D : ZipSep3 z TI TO i1 i2 i3 [i1, a] [i2, b] [i3, c]) :
    Turn P w K (.Tuple elts kk tpos) (Itz3T K a b c n1 n2 n3) [z, TI, TO, i1, i2, i3] z (fun i h => IsZip h z TI TO .none ∧ IsTupOf3 h TI (.ref i1) (.ref i2) (.ref i3) ∧ (∃ x y u, IsTupOf3 h TO x y u) ∧ h.IsTupleIter i1 a i ∧ h.IsTupleIter i2 b i ∧ h.IsTupleIter i3 c i ∧ i ≤ n1 ∧ i ≤ n2 ∧ i ≤ n3) where
  mem := by simp
  obj := fun i h st d hd => by
    obtain ⟨hz, hTI, ⟨x, y, u, hTO⟩, ⟨o1, e1, _, d1⟩, ⟨o2, e2, _, d2⟩, ⟨o3, e3, _, d3⟩, _⟩ := st
    have e' : d = z ∨ d = TI ∨ d = TO ∨ d = i1 ∨ d = i2 ∨ d = i3 := by simpa using hd
    rcases e' with q | q | q | q | q | q
    · rw [q]; exact ⟨_, hz, fun v q => nomatch q⟩
    · rw [q]; exact ⟨_, hTI, fun v q => nomatch q⟩
    · rw [q]; exact ⟨_, hTO, fun v q => nomatch q⟩
    · rw [q]; exact ⟨o1, e1, fun v q => by rw [d1] at q; cases q⟩
    · rw [q]; exact ⟨o2, e2, fun v q => by rw [d2] at q; cases q⟩
    · rw [q]; exact ⟨o3, e3, fun v q => by rw [d3] at q; cases q⟩
  keep := fun i h h' st k => by
    obtain ⟨hz, hTI, ⟨x, y, u, hTO⟩, h1, h2, h3, l⟩ := st
    exact ⟨k z (by simp) _ hz, k TI (by simp) _ hTI, ⟨x, y, u, k TO (by simp) _ hTO⟩, h1.at fun o q => k i1 (by simp) o q, h2.at fun o q => k i2 (by simp) o q, h3.at fun o q => k i3 (by simp) o q, l⟩
  item := by
    intro X hP hw hK hc i pins s σ H E I hf st hg
    subst hP hw hK
    obtain ⟨hz, hTI, ⟨x0, y0, u0, hTO⟩, h1, h2, h3, l1, l2, l3⟩ := st
    obtain ⟨xs, ys, zs, x, y, u, hqx, hqy, hqz, m1, m2, m3, hx, hy, hu⟩ := hg
    obtain ⟨its, rv, p, _⟩ := I.tuple hqx
    obtain ⟨its2, rv2, p2, _⟩ := I.tuple hqy
    obtain ⟨its3, rv3, p3, _⟩ := I.tuple hqz
    obtain ⟨v1, hv1, r1⟩ := rv.get hx
    obtain ⟨v2, hv2, r2⟩ := rv2.get hy
    obtain ⟨v3, hv3, r3⟩ := rv3.get hu
    have hzl : z < s.heap.objs.size := Heap.lt_size hz
    have n1' := D.sep2_1; have n2' := D.sep1_2; have n3' := D.sep1_3
    have ne1 : a ≠ i1 := fun q => by
      obtain ⟨o, ho, hcl, _⟩ := (show s.heap.IsTuple a its.toArray from p)
      obtain ⟨o2, ho2, hc2, _⟩ := h1
      rw [q, ho2] at ho; cases ho; rw [hc2] at hcl; exact absurd (Value.type.inj hcl) (by decide)
    have ne2 : b ≠ i2 := fun q => by
      obtain ⟨o, ho, hcl, _⟩ := (show s.heap.IsTuple b its2.toArray from p2)
      obtain ⟨o2, ho2, hc2, _⟩ := h2
      rw [q, ho2] at ho; cases ho; rw [hc2] at hcl; exact absurd (Value.type.inj hcl) (by decide)
    have ne3 : c ≠ i3 := fun q => by
      obtain ⟨o, ho, hcl, _⟩ := (show s.heap.IsTuple c its3.toArray from p3)
      obtain ⟨o2, ho2, hc2, _⟩ := h3
      rw [q, ho2] at ho; cases ho; rw [hc2] at hcl; exact absurd (Value.type.inj hcl) (by decide)
    have lt1 : i < its.toArray.size := by have := (List.getElem?_eq_some_iff.mp hv1).1; simpa using this
    have lt2 : i < its2.toArray.size := by have := (List.getElem?_eq_some_iff.mp hv2).1; simpa using this
    have lt3 : i < its3.toArray.size := by have := (List.getElem?_eq_some_iff.mp hv3).1; simpa using this
    have k1 : i < xs.length := (List.getElem?_eq_some_iff.mp hx).1
    have k2 : i < ys.length := (List.getElem?_eq_some_iff.mp hy).1
    have k3 : i < zs.length := (List.getElem?_eq_some_iff.mp hu).1
    refine wpAny_pyNext_zipD3_item D (Draws.tuple (A := X.A.in1) (I.ok.hd hc) i1 a ne1 its.toArray) (Draws.tuple (A := X.A.in1) (I.ok.hd hc) i2 b ne2 its2.toArray) (Draws.tuple (A := X.A.in1) (I.ok.hd hc) i3 c ne3 its3.toArray)
      hz hTI hTO ⟨h1, p⟩ ⟨h2, p2⟩ ⟨h3, p3⟩ lt1 lt2 lt3 fun x1 x2 x3 h' tk y1 y2 y3 z' TO' st1 st2 st3 hT hsz hk => ?_
    have ex1 : x1 = v1 := by have q : its.toArray[i]? = some v1 := by simpa using hv1
                             rw [q] at y1; exact (Option.some.inj y1).symm
    have ex2 : x2 = v2 := by have q : its2.toArray[i]? = some v2 := by simpa using hv2
                             rw [q] at y2; exact (Option.some.inj y2).symm
    have ex3 : x3 = v3 := by have q : its3.toArray[i]? = some v3 := by simpa using hv3
                             rw [q] at y3; exact (Option.some.inj y3).symm
    subst ex1 ex2 ex3
    refine ⟨_, rfl, wpAny_letOwnedTupleGo_zip (s := { s with heap := h', toks := tk }) z' fun h'' z'' sb => ?_⟩
    have hT2 : h''.get? s.heap.objs.size = some { cls := .type "tuple", data := .seq #[x1, x2, x3] } := (sb.2 _ (Nat.ne_of_gt hzl)).trans hT
    have new : ObjOk X.prog X.w (upd H s.heap.objs.size (.tup [x, y, u])) h'' s.heap.objs.size (.tup [x, y, u]) :=
      ⟨by show 3 ≤ sizeLine; decide, [x1, x2, x3], .cons r1 (.cons r2 (.cons r3 .nil)), ⟨_, hT2, rfl, _, rfl⟩⟩
    have I1 : Inv X pins σ (upd H s.heap.objs.size (.tup [x, y, u])) { s with heap := h'', toks := tk } :=
      I.turnedNew (t' := tk) (ch := [z, TI, TO, i1, i2, i3]) (fun d o hb q => (sb.2 d (fun q' => hb (by simp [q']))).trans (hk d o (fun q' => hb (by simp [q'])) (fun q' => hb (by simp [q'])) (fun q' => hb (by simp [q'])) (fun q' => hb (by simp [q'])) (fun q' => hb (by simp [q'])) q)) hf (Nat.le_refl _) new
    refine ⟨.ref s.heap.objs.size, _, I1, rfl, ⟨_, x, y, u, rfl, I.hok.fresh (Nat.le_refl _), rfl, fun l hl => by rw [I.tuple_inj hl hqx]; exact hx, fun l hl => by rw [I.tuple_inj hl hqy]; exact hy, fun l hl => by rw [I.tuple_inj hl hqz]; exact hu⟩, ⟨z'', ?_, ⟨x1, x2, x3, ?_⟩, ?_, ?_, ?_, by omega, by omega, by omega⟩, fun d hcm => ?_⟩
    · exact (sb.2 _ D.TIz).trans (hk _ _ D.TIz D.TITO D.TIi1 D.TIi2 D.TIi3 hTI)
    · exact (sb.2 _ D.TOz).trans TO'
    · exact st1.1.at fun o q => (sb.2 _ (Ne.symm D.zi1)).trans q
    · exact st2.1.at fun o q => (sb.2 _ (Ne.symm D.zi2)).trans q
    · exact st3.1.at fun o q => (sb.2 _ (Ne.symm D.zi3)).trans q
    · have hlt : d < s.heap.objs.size := by
        have e' : d = z ∨ d = TI ∨ d = TO ∨ d = i1 ∨ d = i2 ∨ d = i3 := by simpa using hcm
        rcases e' with q | q | q | q | q | q
        · rw [q]; exact hzl
        · rw [q]; exact Heap.lt_size hTI
        · rw [q]; exact Heap.lt_size hTO
        · rw [q]; obtain ⟨_, e1, _⟩ := h1; exact Heap.lt_size e1
        · rw [q]; obtain ⟨_, e2, _⟩ := h2; exact Heap.lt_size e2
        · rw [q]; obtain ⟨_, e3, _⟩ := h3; exact Heap.lt_size e3
      rw [upd_ne (Nat.ne_of_lt hlt)]
      exact (hf d hcm).1
  done := by
    intro X hP hw hK hc i pins s σ H E I hf st hg
    subst hP hw hK
    obtain ⟨hz, hTI, ⟨x0, y0, u0, hTO⟩, h1, h2, h3, l1, l2, l3⟩ := st
    obtain ⟨xs, ys, zs, hqx, hqy, hqz, m1, m2, m3, hend⟩ := hg
    obtain ⟨its, rv, p, _⟩ := I.tuple hqx
    obtain ⟨its2, rv2, p2, _⟩ := I.tuple hqy
    obtain ⟨its3, rv3, p3, _⟩ := I.tuple hqz
    have ne1 : a ≠ i1 := fun q => by
      obtain ⟨o, ho, hcl, _⟩ := (show s.heap.IsTuple a its.toArray from p)
      obtain ⟨o2, ho2, hc2, _⟩ := h1
      rw [q, ho2] at ho; cases ho; rw [hc2] at hcl; exact absurd (Value.type.inj hcl) (by decide)
    have ne2 : b ≠ i2 := fun q => by
      obtain ⟨o, ho, hcl, _⟩ := (show s.heap.IsTuple b its2.toArray from p2)
      obtain ⟨o2, ho2, hc2, _⟩ := h2
      rw [q, ho2] at ho; cases ho; rw [hc2] at hcl; exact absurd (Value.type.inj hcl) (by decide)
    have ne3 : c ≠ i3 := fun q => by
      obtain ⟨o, ho, hcl, _⟩ := (show s.heap.IsTuple c its3.toArray from p3)
      obtain ⟨o2, ho2, hc2, _⟩ := h3
      rw [q, ho2] at ho; cases ho; rw [hc2] at hcl; exact absurd (Value.type.inj hcl) (by decide)
    have e1 := rv.length
    have e2 := rv2.length
    have e3 := rv3.length
    have g1 : its.toArray.size = its.length := by simp
    have g2 : its2.toArray.size = its2.length := by simp
    have g3 : its3.toArray.size = its3.length := by simp
    exact wpAny_pyNext_zipD3_end D (Draws.tuple (A := X.A.in1) (I.ok.hd hc) i1 a ne1 its.toArray) (Draws.tuple (A := X.A.in1) (I.ok.hd hc) i2 b ne2 its2.toArray) (Draws.tuple (A := X.A.in1) (I.ok.hd hc) i3 c ne3 its3.toArray)
      hz hTI hTO ⟨h1, p⟩ ⟨h2, p2⟩ ⟨h3, p3⟩ (by omega) (by omega) (by omega) (by omega) fun h' tk hk => ⟨rfl, I.turnedL (t' := tk) (ch := [z, TI, TO, i1, i2, i3]) (fun d o hb q =>
      hk d o (fun q' => hb (by simp [q'])) (fun q' => hb (by simp [q'])) (fun q' => hb (by simp [q'])) (fun q' => hb (by simp [q'])) (fun q' => hb (by simp [q'])) q) hf⟩
  self := fun A i s Q E st h => wpAny_pyIter_zip st.1 h

theorem zip3_apart (n a b c : Nat) (ha : a < n) (hb : b < n) (hc : c < n) : ZipSep3 (n + 5) (n + 3) (n + 4) n (n + 1) (n + 2) [n, a] [n + 1, b] [n + 2, c] := by
  constructor <;> (first | omega | (simp; done) | (simp; exact fun h => by have h' := @id (@Eq Nat _ _) h; omega))

def iZip3T (K : PySem.W.Frag) (ta : TA) : TI := fun σ H R => ta σ H fun vs H1 => ∃ a b c xs ys zs, vs = [.ref a, .ref b, .ref c] ∧ SqT K H1 a xs ∧ SqT K H1 b ys ∧ SqT K H1 c zs ∧ R (Itz3T K a b c xs.length ys.length zs.length) H1
theorem pi_zip3T {X : Cx} {e e2 e3 : Expr} {ta : TA} {p pos tpos : Pos} {elts : List Expr} {kk : Nat} (hg : Gl X "zip") (hm : X.mg "zip" = none) (ha : PA X [e, e2, e3] ta)
    (hs : starEach [e, e2, e3] X.env = (false, eval e X.env) :: starEach [e2, e3] X.env := by rfl) (hpl : (backTo pos (starEach [e2, e3] X.env)).any (·.1) = false := by rfl) :
    PI X (.Tuple elts kk tpos) (.Call (.Name "zip" p) [e, e2, e3] [] pos) (iZip3T X.K ta) := by
  refine ⟨fun pins s σ H R I h => ?_⟩
  refine Call_ (ld_blt I hg hm PyProof.Rows.boot_zip (PyProof.Rows.callWith_type1 (thn (ha.run pos pins s σ H _ I h) fun us s1 ⟨vs, H1, I1, r1, q1⟩ => ?_) hs hpl))
  obtain ⟨a, b, c, xs, ys, zs, ex, hqx, hqy, hqz, q⟩ := q1
  subst ex
  cases r1 with
  | cons r rr =>
    cases rr with
    | cons r' rr =>
      cases rr with
      | cons r'' rr =>
        cases rr
        cases r
        cases r'
        cases r''
        have fresh6 : ∀ d, d ∈ [s1.heap.objs.size + 5, s1.heap.objs.size + 3, s1.heap.objs.size + 4, s1.heap.objs.size, s1.heap.objs.size + 1, s1.heap.objs.size + 2] → FpOk X pins H1 d := fun d hcm => by
          have e' : d = s1.heap.objs.size + 5 ∨ d = s1.heap.objs.size + 3 ∨ d = s1.heap.objs.size + 4 ∨ d = s1.heap.objs.size ∨ d = s1.heap.objs.size + 1 ∨ d = s1.heap.objs.size + 2 := by simpa using hcm
          have hle : s1.heap.objs.size ≤ d := by
            rcases e' with z | z | z | z | z | z
            · rw [z]; exact Nat.le_add_right _ _
            · rw [z]; exact Nat.le_add_right _ _
            · rw [z]; exact Nat.le_add_right _ _
            · rw [z]; exact Nat.le_refl _
            · rw [z]; exact Nat.le_add_right _ _
            · rw [z]; exact Nat.le_add_right _ _
          exact I1.fpOk hle (I1.hok.fresh hle)
        obtain ⟨its, rv, p1, _⟩ := I1.tuple hqx
        obtain ⟨its2, rv2, p2, _⟩ := I1.tuple hqy
        obtain ⟨its3, rv3, p3, _⟩ := I1.tuple hqz
        obtain ⟨o1, ho1, _⟩ := id p1
        obtain ⟨o2, ho2, _⟩ := id p2
        obtain ⟨o3, ho3, _⟩ := id p3
        refine zip_begins3 (begins_tuple a its.toArray) (begins_tuple b its2.toArray) (begins_tuple c its3.toArray) p1 p2 p3 fun h' hz hTI hTO h1 h2 h3 hsz hk => wpAny_pyIter_zip hz ?_
        have I2 : Inv X pins σ H1 { s1 with heap := h' } := I1.kept (t' := s1.toks) hk
        exact ⟨s1.heap.objs.size + 5, [s1.heap.objs.size + 5, s1.heap.objs.size + 3, s1.heap.objs.size + 4, s1.heap.objs.size, s1.heap.objs.size + 1, s1.heap.objs.size + 2], _, _, H1, rfl, I2, turn_zip3T (zip3_apart s1.heap.objs.size a b c (Heap.lt_size ho1) (Heap.lt_size ho2) (Heap.lt_size ho3)), ⟨hz, hTI, ⟨_, _, _, hTO⟩, ⟨_, h1, rfl, rfl⟩, ⟨_, h2, rfl, rfl⟩, ⟨_, h3, rfl, rfl⟩, Nat.zero_le _, Nat.zero_le _, Nat.zero_le _⟩, fresh6, q⟩
end L2
namespace Dl
open PySem PySem.Spec L2
def zip3D (ds es fs : List PyData) : List PyData := (ds.zip (es.zip fs)).map fun p => .tuple [p.1, p.2.1, p.2.2]
theorem zip3D_length (ds es fs : List PyData) : (zip3D ds es fs).length = min ds.length (min es.length fs.length) := by unfold zip3D; rw [List.length_map, List.length_zip, List.length_zip]
theorem zip3D_get {ds es fs : List PyData} {i : Nat} {d e f : PyData} (h : ds[i]? = some d) (h' : es[i]? = some e) (h'' : fs[i]? = some f) : (zip3D ds es fs)[i]? = some (.tuple [d, e, f]) := by
  unfold zip3D
  rw [List.getElem?_map, (List.getElem?_zip_eq_some (z := (d, (e, f)))).mpr ⟨h, (List.getElem?_zip_eq_some (z := (e, f))).mpr ⟨h', h''⟩⟩]
  rfl
theorem walks_zip3T {K : PySem.W.Frag} {H1 : Hp} {τ1 : Store} {a b c : Addr} {vs us ws : List V} {ds es fs : List PyData} (n : NdT (dom τ1) H1 a vs) (l : DnL K (dom τ1) H1 vs ds) (n' : NdT (dom τ1) H1 b us) (l' : DnL K (dom τ1) H1 us es) (n'' : NdT (dom τ1) H1 c ws) (l'' : DnL K (dom τ1) H1 ws fs) : Walks K (Itz3T K a b c vs.length us.length ws.length) H1 τ1 AnyS (zip3D ds es fs) where
  go := fun i H τ hi t o _ => by
    rw [zip3D_length] at hi
    have h1 : i < vs.length := by rw [l.length]; omega
    have h2 : i < us.length := by rw [l'.length]; omega
    have h3 : i < ws.length := by rw [l''.length]; omega
    exact ⟨vs, us, ws, vs[i], us[i], ws[i], (n.tr t).sq, (n'.tr t).sq, (n''.tr t).sq, rfl, rfl, rfl, List.getElem?_eq_getElem h1, List.getElem?_eq_getElem h2, List.getElem?_eq_getElem h3⟩
  yld := fun i H τ x H' hi t o _ y => by
    obtain ⟨T, x1, x2, x3, rfl, hT, rfl, y1, y2, y3⟩ := y
    obtain ⟨d, h1, h2⟩ := (l.tr t).get (y1 vs (n.tr t).sq)
    obtain ⟨e, h3, h4⟩ := (l'.tr t).get (y2 us (n'.tr t).sq)
    obtain ⟨f, h5, h6⟩ := (l''.tr t).get (y3 ws (n''.tr t).sq)
    exact ⟨_, zip3D_get h1 h3 h5, Tr.new hT, o.new hT, Dn.tup ⟨o.fresh hT, upd_same⟩ (.cons (h2.tr (Tr.new hT)) (.cons (h4.tr (Tr.new hT)) (.cons (h6.tr (Tr.new hT)) .nil)))⟩
  stop := fun i H τ hi t o _ => by
    rw [zip3D_length] at hi
    have := l.length
    have := l'.length
    have := l''.length
    exact ⟨vs, us, ws, (n.tr t).sq, (n'.tr t).sq, (n''.tr t).sq, rfl, rfl, rfl, by omega⟩
section
variable {X : Cx} {tg : Expr} {ρ : En} {τ : Store} {pos p1 : Pos} {a b c : Expr}
theorem di_zip3 {elts : List Expr} {kk : Nat} {tpos : Pos} {Q : List PyData → (Store → Prop) → Store → Prop} (B : Bl X.mg) (hg : Gl X "zip")
    (h : De X ρ τ a fun x τ1 => De X ρ τ1 b fun y τ2 => De X ρ τ2 c fun z τ3 => ∃ ds es fs, (x = .val (.tuple ds) ∧ y = .val (.tuple es) ∧ z = .val (.tuple fs)) ∧ Q (zip3D ds es fs) AnyS τ3)
    (hs : starEach [a, b, c] X.env = (false, eval a X.env) :: starEach [b, c] X.env := by rfl) (hs2 : starEach [b, c] X.env = (false, eval b X.env) :: starEach [c] X.env := by rfl) (hs3 : starEach [c] X.env = (false, eval c X.env) :: starEach [] X.env := by rfl) (hpl : (backTo pos (starEach [b, c] X.env)).any (·.1) = false := by rfl) :
    Di X (.Tuple elts kk tpos) ρ τ (.Call (.Name "zip" p1) [a, b, c] [] pos) Q := .mk fun σ H o l R p => by
  refine wi_of (pi_zip3T hg B.h_zip (pa_cons pe_we (pa_cons pe_we (pa_cons pe_we pa_nil hs3) hs2) hs) hs hpl) (h σ H o l _ fun v H1 x τ1 h1 o1 r1 t1 => ?_)
  refine h1 σ H1 o1 (l.tr t1) _ fun u H2 y τ2 h2 o2 r2 t2 => ?_
  refine h2 σ H2 o2 ((l.tr t1).tr t2) _ fun w H3 z τ3 ⟨ds, es, fs, ⟨ex, ey, ez⟩, q⟩ o3 r3 t3 => ?_
  have r1' := (r1.tr t2).tr t3
  have r2' := r2.tr t3
  subst ex ey ez
  cases r1' with
  | @tup a vs _ n1 l1 =>
  cases r2' with
  | @tup b us _ n2 l2 =>
  cases r3 with
  | @tup c ws _ n3 l3 =>
  exact ⟨a, b, c, vs, us, ws, rfl, n1.sq, n2.sq, n3.sq, p _ H3 _ AnyS τ3 q o3 ((t1.trans t2).trans t3) (walks_zip3T n1 l1 n2 l2 n3 l3)⟩
end
end Dl

/-! the signs of a text, walked; a module's text -/
namespace Dl
open PySem PySem.Spec L2
def signsD (x : Str) : List PyData := x.cps.toList.map fun c => .str ⟨#[c]⟩
theorem signsD_length (x : Str) : (signsD x).length = x.cps.size := by unfold signsD; rw [List.length_map]; rfl
theorem signsD_get {x : Str} {i c : Nat} (h : x.cps[i]? = some c) : (signsD x)[i]? = some (.str ⟨#[c]⟩) := by
  unfold signsD
  rw [List.getElem?_map, Array.getElem?_toList, h]
  rfl
theorem walks_signs {K : PySem.W.Frag} {H1 : Hp} {τ1 : Store} {x : Str} : Walks K (Its x) H1 τ1 AnyS (signsD x) where
  go := fun i H τ hi t o _ => by
    rw [signsD_length] at hi
    exact hi
  yld := fun i H τ v H' hi t o _ y => by
    obtain ⟨rfl, c, h1, rfl⟩ := y
    exact ⟨_, signsD_get h1, Tr.refl, o, Dn.str _⟩
  stop := fun i H τ hi t o _ => by
    rw [signsD_length] at hi
    exact hi
section
variable {X : Cx} {tg : Expr} {ρ : En} {τ : Store} {pos p1 : Pos} {a : Expr}
theorem di_str {Q : List PyData → (Store → Prop) → Store → Prop} (h : De X ρ τ a fun x τ1 => ∃ z : Str, x = .val (.str z) ∧ Q (signsD z) AnyS τ1) : Di X tg ρ τ a Q := .mk fun σ H o l R p =>
  wi_of (pi_str pe_we) (h σ H o l _ fun v H1 x τ1 ⟨z, ex, q⟩ o1 r1 t1 => by
    subst ex
    cases r1
    exact ⟨z, rfl, p _ H1 _ AnyS τ1 q o1 t1 walks_signs⟩)
/-- a module's text -/
theorem de_txtG {Q : MV → Store → Prop} {x : Str} {y : Str} {t : Tok} (hg : Gl X x) (hm : X.mg x = some (.str y t)) (q : Q (.val (.str y)) τ) (hd : (x == ("__debug__" : Str)) = false := by decide) : De X ρ τ (.Name x pos) Q := .mk fun σ H o l QQ p =>
  we_of (pe_glob (v := .str y) hg hm ⟨t, rfl⟩ hd) (p _ H (.val (.str y)) τ q o (Dn.str y) Tr.refl)
end
end Dl

/-! list(text) -/
namespace Dl
open PySem PySem.Spec
open Sem (wp)
open AutoSeq1 (wpAny_loadPart')
section
variable {prog : Program} {w : World} {A : Around} {E : Value → Shared → Prop} {s : Shared}
theorem hint_str {x : Str} {t : Tok} {Q : Bool → Shared → Prop} (h : Q false s) : wpAny (model prog w) A (Builtin.List.listLengthHint (.str x t)) Q E s := by
  unfold Builtin.List.listLengthHint
  refine wpAny_bind (wpAny_specialOf (typeIs_str s x t) F.slot_str_len.lookup ?_)
  generalize hid : ("str.__len__" : String) = id0
  wp_delta
  rw [show splitId id0 = some ("str", "__len__") from by subst hid; decide +kernel]
  subst hid
  refine wpAny_bind (wpAny_isInstance (T := "str") (b := true) (typeIs_str s x t) (by rw [isSubtype_type]; kernel_rfl) ?_)
  refine wpAny_ite_split (fun hab => absurd hab (by decide)) (fun _ => ?_)
  refine wpAny_ite_split (fun _ => ?_) (fun hab => absurd (by decide +kernel) hab)
  refine wpAny_bind (wpAny_typeOf (typeIs_str s x t) ?_)
  exact wpAny_pure h
theorem extend_str {R : Result → Shared → Prop} {x : Str} {t : Tok} (hh : A.handled = none) (hlen : x.length ≤ 2 ^ 24) (S : Addr) (res : Value) (c₀ : Nat) (hS : s.heap.get? S = some { cls := .type "list", data := .seq #[] c₀ })
    (hR : ∀ h' tk acc' c', (∀ b o, b ≠ S → s.heap.get? b = some o → h'.get? b = some o) → h'.get? S = some { cls := .type "list", dict := none, data := .seq acc' c', slots := #[] } →
      ItemsOf (SignAt x) acc' x.cps.size → R (.ok (.ret res)) { s with heap := h', toks := tk }) :
    wpAny (model prog w) A.in1 (Builtin.List.listExtendWith (.ref S) (.str x t) res)
      (fun fin s' => match fin with | .done f => R (.ok f) s' | .again c' => c'.quiet = true ∧ codeAny (model prog w) A c' R s') (fun e s' => R (.error e) s') s := by
  have hSlt : S < s.heap.objs.size := Heap.lt_size hS
  have hSI : S ≠ s.heap.objs.size := Nat.ne_of_lt hSlt
  have hSf : S ∉ [s.heap.objs.size] := fun hm => hSI (List.mem_singleton.mp hm)
  have W : WalksS prog w A.in1 s.heap.objs.size [s.heap.objs.size] [s.heap.objs.size] (fun a b => b = a) x.cps.size (SignAt x) (fun i s' => s'.heap.IsStrIter s.heap.objs.size (strIterType x) x t i) := by
    cases ha : x.cps.all (· < 128)
    · simp only [strIterType, ha, Bool.false_eq_true, if_false]
      exact (Walks.strWide (prog := prog) (w := w) (A := A.in1) hh s.heap.objs.size x t).toS
    · simp only [strIterType, ha, if_true]
      exact (Walks.strAscii (prog := prog) (w := w) (A := A.in1) hh s.heap.objs.size x t).toS
  have key : ∀ (h : Heap) (c₁ tk : Nat), h.IsStrIter s.heap.objs.size (strIterType x) x t 0 → (∀ b o, b ≠ S → s.heap.get? b = some o → h.get? b = some o) →
      h.get? S = some { cls := .type "list", data := .seq #[] c₁ } → codeAny (model prog w) A (.builtin "list.extend.loop" ⟨[.ref S, .ref s.heap.objs.size, res], []⟩) R { s with heap := h, toks := tk } := by
    intro h c₁ tk hit hk hS₁
    refine codeAny_extend_loopS W (by rw [sizeLine_eq]; exact hlen) S hSf res x.cps.size 0 _ #[] c₁ rfl (Nat.zero_le _) hit hS₁ (ItemsOf.nil _) fun s' acc' c' hm hS' hacc => ?_
    rw [Moved.eq_with hm]
    refine hR s'.heap s'.toks acc' c' (fun b o hb e => hm.heap b o (fun hmem => ?_) (hk b o hb e)) hS' hacc
    rcases List.mem_cons.mp hmem with e' | hmem
    · exact hb e'
    · exact absurd (Heap.lt_size e) (by rw [List.mem_singleton.mp hmem]; exact Nat.lt_irrefl _)
  unfold Builtin.List.listExtendWith
  refine wpAny_bind (wpAny_typeOf (typeIs_str s x t) ?_)
  have h1 : Builtin.List.listSameRef (.ref S) (.str x t) = false := rfl
  have h2 : (Value.type "str" == Value.type "list") = false := by decide
  have h3 : (Value.type "str" == Value.type "tuple") = false := by decide
  simp only [h1, h2, h3, Bool.or_false, Bool.false_eq_true, if_false]
  refine wpAny_bind (wpAny_pyIter_strU ?_)
  refine wpAny_bind (wpAny_holding (hint_str ?_))
  have hit₁ : (s.heap.push { cls := .type (strIterType x), data := .fields #[.str x t, .int 0 0] }).IsStrIter s.heap.objs.size (strIterType x) x t 0 := ⟨_, Heap.get?_push_size _ rfl, rfl, rfl⟩
  have hS₁ := Heap.get?_push_of_some { cls := .type (strIterType x), data := .fields #[.str x t, .int 0 0] } hS
  refine wpAny_ite_split (fun hab => absurd hab (by decide)) (fun _ => wpAny_pure ⟨plainId_quiet F.plain_extend_loop _, key _ c₀ _ hit₁ (fun b o _ e => Heap.get?_push_of_some _ e) hS₁⟩)
theorem list_init_str {R : Result → Shared → Prop} {x : Str} {t : Tok} (hh : A.handled = none) (hlen : x.length ≤ 2 ^ 24) (S : Addr) (hS : s.heap.get? S = some { cls := .type "list", data := .seq #[] })
    (hR : ∀ h' tk acc' c', (∀ b o, b ≠ S → s.heap.get? b = some o → h'.get? b = some o) → h'.get? S = some { cls := .type "list", dict := none, data := .seq acc' c', slots := #[] } →
      ItemsOf (SignAt x) acc' x.cps.size → R (.ok (.ret .none)) { s with heap := h', toks := tk }) :
    wpAny (model prog w) A.in1 (Builtin.«list.__init__» ⟨[.ref S, .str x t], []⟩)
      (fun fin s' => match fin with | .done f => R (.ok f) s' | .again c' => c'.quiet = true ∧ codeAny (model prog w) A c' R s') (fun e s' => R (.error e) s') s := by
  show wpAny _ _ (do let old ← Builtin.List.listItems (.ref S); Builtin.List.listUpdate (.ref S) (fun _ => #[]); letGo old.toList.reverse; Builtin.List.listExtendWith (.ref S) (.str x t) .none) _ _ s
  refine wpAny_bind ?_
  unfold Builtin.List.listItems
  refine wpAny_bind (wpAny_seqItems hS rfl (wpAny_pure ?_))
  show wpAny _ _ (updateSeq S (fun _ => #[]) >>= fun _ => letGo (#[] : Array Value).toList.reverse >>= fun _ => Builtin.List.listExtendWith (.ref S) (.str x t) .none) _ _ s
  refine wpAny_bind (wpAny_updateSeq hS rfl ?_)
  have hS₂ := Heap.get?_update_self (Obj.mapSeq (fun _ => (#[] : Array Value))) hS rfl
  have oth : ∀ b o, b ≠ S → s.heap.get? b = some o → (s.heap.update S (Obj.mapSeq (fun _ => (#[] : Array Value)))).get? b = some o :=
    fun b o hb e => (Heap.get?_update_other _ _ (Ne.symm hb)).trans e
  refine wpAny_bind (wpAny_letGo ?_)
  refine extend_str hh hlen S .none _ hS₂ fun h' tk acc' c' hk hS' hacc => ?_
  exact hR h' tk acc' c' (fun b o hb e => hk b o hb (oth b o hb e)) hS' hacc
theorem call_list_text {Q : Value → Shared → Prop} {x : Str} {t : Tok} (hh : A.handled = none) (hlen : x.length ≤ 2 ^ 24)
    (hQ : ∀ h' tk acc' c', (∀ b o, s.heap.get? b = some o → h'.get? b = some o) →
      h'.get? s.heap.objs.size = some { cls := .type "list", dict := none, data := .seq acc' c', slots := #[] } → ItemsOf (SignAt x) acc' x.cps.size → Q (.ref s.heap.objs.size) { s with heap := h', toks := tk }) :
    wpAny (model prog w) A (call (.type "list") [.str x t]) Q E s := by
  refine callType_codes (Q₁ := fun obj s₁ => obj = .ref s.heap.objs.size ∧ s₁ = { s with heap := s.heap.push { cls := .type "list", data := .seq #[] } }) F.called_list (F.typeCall_list_1 _) F.entry_list_init
    (code_list_new _ ⟨rfl, rfl⟩) fun obj s₁ h₁ => ?_
  obtain ⟨rfl, rfl⟩ := h₁
  have hS : (s.heap.push { cls := .type "list", data := .seq #[] }).get? s.heap.objs.size = some { cls := .type "list", data := .seq #[] } := Heap.get?_push_size _ rfl
  refine ⟨⟨_, hS, rfl⟩, F.args_list_init_2 _ _, list_init_str (A := A.in1) hh hlen _ hS fun h' tk acc' c' hk hS' hacc => ?_⟩
  exact ⟨rfl, hQ h' tk acc' c' (fun b o e => hk b o (Nat.ne_of_lt (Heap.lt_size e)) (Heap.get?_push_of_some _ e)) hS' hacc⟩
end
end Dl
namespace L2
open PySem PySem.Spec PyProof.Rows
theorem call_list_str {X : Cx} (hc : X.calm = true) : CallR X (.type "list") (fun xs H Q => ∃ z : Str, xs = [.str z] ∧ z.length ≤ 1000000 ∧ ∀ q, H q = none → Q (.ref q) (upd H q (.lst (z.cps.toList.map fun c => V.str ⟨#[c]⟩)))) := by
  intro pins s σ H xs us Q I r h
  obtain ⟨z, rfl, hz, q⟩ := h
  obtain ⟨u, rfl, rx⟩ := vals1 r
  obtain ⟨t, rfl⟩ := rx
  refine Dl.call_list_text (I.ok.hd hc) (by omega) fun h' tk acc c' hk hS hacc => ?_
  refine ⟨.ref s.heap.objs.size, upd H s.heap.objs.size (.lst (z.cps.toList.map fun c => V.str ⟨#[c]⟩)), I.laid hk (Nat.le_refl _) (show ObjOk X.prog X.w _ _ _ (.lst (z.cps.toList.map fun c => V.str ⟨#[c]⟩)) from ⟨?_, acc.toList, c', ?_, ?_⟩), rfl, q _ (I.hok.fresh (Nat.le_refl _))⟩
  · rw [List.length_map, sizeLine_eq]
    have : z.cps.toList.length = z.length := rfl
    omega
  · refine vals_of_at (by rw [List.length_map, Array.length_toList, Array.length_toList, hacc.1]) fun j x w h1 h2 => ?_
    obtain ⟨c, t', h3, rfl⟩ := hacc.2 j w (by rw [← Array.getElem?_toList]; exact h2)
    rw [List.getElem?_map, Array.getElem?_toList, h3] at h1
    cases h1
    exact ⟨t', rfl⟩
  · rw [Array.toArray_toList]; exact hS
end L2
namespace Dl
open PySem PySem.Spec L2
theorem signs_vals (z : Str) : (z.cps.toList.map fun c => V.str ⟨#[c]⟩) = (z.cps.toList.map fun c => (⟨#[c]⟩ : Str)).map V.str := by rw [List.map_map]; rfl
section
variable {X : Cx} {ρ : En} {τ : Store} {pos p1 : Pos} {a : Expr} {Q : MV → Store → Prop}
theorem de_listS (B : Bl X.mg) (hc : X.calm = true) (hg : Gl X "list") (h : De X ρ τ a fun x τ1 => ∃ z : Str, x = .val (.str z) ∧ z.length ≤ 1000000 ∧ Q (.val (.list (signsD z))) τ1)
    (hs : starEach [a] X.env = (false, eval a X.env) :: starEach [] X.env := by rfl) : De X ρ τ (.Call (.Name "list" p1) [a] [] pos) Q :=
  de_callTy (call_list_str hc) hg B.h_list (by decide +kernel) (da_one (h.mono fun x τ1 ⟨z, ex, hz, q⟩ => .mk fun H vs o r QQ p => by
    obtain ⟨v, rfl, r1⟩ := paired1 r
    subst ex
    cases r1
    refine ⟨z, rfl, hz, fun pa ha => ?_⟩
    have e : signsD z = (z.cps.toList.map fun c => (⟨#[c]⟩ : Str)).map .str := by unfold signsD; rw [List.map_map]; rfl
    rw [signs_vals]
    rw [e] at q
    exact p.lst o (dnl_strs _) q pa ha) hs) hs rfl
end
end Dl
namespace TW
open PySem PySem.Spec L2 Dl
def topS (i : Nat) : Stmt := PySem.Challenge.pw_tidewindows_k72_whole_texts.main.body.getD i (.Pass ⟨0, 0, 0, 0⟩)
local macro_rules | `(tactic| walk_at "le") => `(tactic| exact Nat.le_of_ble_eq_true rfl)
/-- the answer of a test that is known, or both ways -/
local macro_rules | `(tactic| walk_at "bq") => `(tactic| first
  | refine ⟨fun _ => ?_, fun h => Bool.noConfusion (show true = false from h)⟩
  | refine ⟨fun h => Bool.noConfusion (show false = true from h), fun _ => ?_⟩
  | refine ⟨fun _ => ?_, fun h => absurd (of_decide_eq_false h) (by first | assumption | omega)⟩
  | refine ⟨fun h => absurd (of_decide_eq_true h) (by first | assumption | omega), fun _ => ?_⟩
  | refine ⟨fun _ => ?_, fun h => absurd h (by first | (simp [bneg]; done) | (simp [bneg]; omega))⟩
  | refine ⟨fun h => absurd h (by first | (simp [bneg]; done) | (simp [bneg]; omega)), fun _ => ?_⟩)
local macro_rules | `(tactic| walk_at "sd") => `(tactic| first
  | decide | omega | exact ⟨by first | decide | omega, by first | decide | omega⟩ | exact ⟨by decide, by decide, by decide⟩)
local macro_rules | `(tactic| walk_at "call") => `(tactic| first
  | refine de_len ‹Bl _› rfl ?_
  | refine de_tuple ‹Bl _› rfl ?_
  | refine de_list ‹Bl _› rfl ?_
  | refine de_isi_int ‹Bl _› rfl rfl ?_
  | refine de_isi_bool ‹Bl _› rfl rfl ?_
  | refine de_isi_tuple ‹Bl _› rfl rfl ?_
  | refine de_isi_str ‹Bl _› rfl rfl ?_
  | refine de_min2 ‹Bl _› rfl rfl ?_
  | refine de_max2 ‹Bl _› rfl rfl ?_
  | refine de_minL ‹Bl _› rfl rfl ?_
  | refine de_maxL ‹Bl _› rfl rfl ?_
  | refine de_abs ‹Bl _› rfl ?_
  | refine de_all ‹Bl _› rfl rfl ?_
  | refine de_any ‹Bl _› rfl rfl ?_
  | refine de_call ‹Knows _ _ _ _ _ _ _ _› ‹Room _ _› rfl ?_)
local macro_rules | `(tactic| walk_at "de") => `(tactic| first
  | ((with_reducible show De _ _ _ (.Name _ _) _); walk_at "nm")
  | ((with_reducible show De _ _ _ (.Constant _ _ _) _); with_reducible first | refine de_int ?_ | refine de_bool ?_ | refine de_none ?_ | refine de_str ?_)
  | ((with_reducible show De _ _ _ (.BinOp _ _ _ _) _); with_reducible first | refine de_plus ?_ | refine de_sub ?_ | refine de_times ?_ | refine de_mod ?_ | refine de_fdiv ?_ | refine de_pow ?_)
  | ((with_reducible show De _ _ _ (.Compare _ [_] _ _) _); first
      | with_reducible refine de_lt ?_ | with_reducible refine de_le ?_ | with_reducible refine de_gt ?_ | with_reducible refine de_ge ?_
      | with_reducible refine de_is ?_ | with_reducible refine de_isnot ?_ | refine de_eq (Room.units ‹Room _ _›) ?_ | refine de_ne (Room.units ‹Room _ _›) ?_ | refine de_in (Room.units65 ‹Room _ _›) ?_ | refine de_notin (Room.units65 ‹Room _ _›) ?_)
  | ((with_reducible show De _ _ _ (.Compare _ _ _ _) _); refine de_chain_le ?_)
  | ((with_reducible show De _ _ _ (.BoolOp _ _ _) _); with_reducible first | refine de_one ?_ | refine de_and ?_ | refine de_or ?_)
  | ((with_reducible show De _ _ _ (.UnaryOp _ _ _) _); with_reducible first | refine de_not ?_ | refine de_neg ?_)
  | ((with_reducible show De _ _ _ (.Call (.Name _ _) _ _ _) _); walk_at "call")
  | ((with_reducible show De _ _ _ (.Subscript _ (.Slice _ _ none _) _) _); with_reducible refine de_slice ?_)
  | ((with_reducible show De _ _ _ (.Subscript _ (.Slice _ _ (some _) _) _) _); refine de_revT ?_)
  | ((with_reducible show De _ _ _ (.Subscript _ _ _) _); refine de_ix ?_)
  | ((with_reducible show De _ _ _ (.IfExp _ _ _ _) _); with_reducible refine de_ifexp ?_)
  | ((with_reducible show De _ _ _ (.Tuple _ _ _) _); with_reducible refine de_tup ?_)
  | ((with_reducible show De _ _ _ (.List _ _) _); with_reducible refine de_lst ?_))
local macro_rules | `(tactic| walk_at "dt") => `(tactic| first
  | ((with_reducible show Dt _ _ _ (.BoolOp _ _ _) _); with_reducible refine dt_bool ?_)
  | ((with_reducible show Dw _ _ _ _ _); with_reducible first | refine dw_and ?_ | refine dw_and1 ?_ | refine dw_or ?_ | refine dw_or1 ?_)
  | ((with_reducible show Dt _ _ _ (.UnaryOp _ _ _) _); with_reducible refine dt_not ?_)
  | ((with_reducible show Dt _ _ _ (.Compare _ [_] _ _) _); first
      | with_reducible refine dt_lt ?_ | with_reducible refine dt_le ?_ | with_reducible refine dt_gt ?_ | with_reducible refine dt_ge ?_
      | with_reducible refine dt_is ?_ | with_reducible refine dt_isnot ?_ | refine dt_eq (Room.units ‹Room _ _›) ?_ | refine dt_ne (Room.units ‹Room _ _›) ?_ | refine dt_in (Room.units65 ‹Room _ _›) ?_ | refine dt_notin (Room.units65 ‹Room _ _›) ?_)
  | ((with_reducible show Dt _ _ _ (.Compare _ _ _ _) _); refine dt_chain_le ?_)
  | refine dt_val ?_)
local macro_rules | `(tactic| walk_at "ds") => `(tactic| first
  | ((with_reducible show Ds _ _ _ (.Return (some _) _) _); with_reducible refine ds_ret ?_)
  | ((with_reducible show Ds _ _ _ (.Assign [.Name _ _] _ _) _); walk_at "st")
  | ((with_reducible show Ds _ _ _ (.If _ _ _ _) _); with_reducible refine ds_if ?_)
  | ((with_reducible show Ds _ _ _ (.Expr _ _) _); refine ds_expr ?_)
  | with_reducible refine ds_retN ?_
  | with_reducible refine ds_pass ?_)
local macro_rules | `(tactic| walk_at "db") => `(tactic| first | refine db_one ?_ | refine db_cons ?_ | refine db_nil ?_)
local macro_rules | `(tactic| walk_at "ex") => `(tactic| first
  | ((with_reducible show PlusD _ _ _ _ _); with_reducible refine plus_int ?_)
  | ((with_reducible show TimesD _ _ _ _ _); with_reducible refine times_int (by first | decide | omega) ?_)
  | ((with_reducible show EqD _ _ _ _ _ _); with_reducible refine eq_int ?_)
  | ((with_reducible show IsD _ _ _ _ _ _); with_reducible first | refine is_none ?_ | refine is_bool ?_)
  | ((with_reducible show LenD _ _ _ _); first | refine len_tup ?_ | refine len_lst rfl ?_)
  | ((with_reducible show TupD _ _ _ _); first | with_reducible refine tup_tup ?_ | refine tup_lst rfl ?_)
  | ((with_reducible show LstD _ _ _ _); refine lst_lst rfl ?_)
  | ((with_reducible show SlD _ _ _ _ _ _); first | refine sl_tup' ?_ | refine sl_lst rfl ?_)
  | ((with_reducible show IxD _ _ _ _ _); refine ix_tup' rfl ?_)
  | ((with_reducible show Do _ _ _ none _); refine (show _ from ?_)))
local macro_rules | `(tactic| walk_at "exq") => `(tactic| first
  | refine ⟨_, _, rfl, rfl, (And.left (b := True) ⟨by walk_at "sd", trivial⟩), ?_⟩
  | refine ⟨_, _, rfl, rfl, ?_⟩
  | refine ⟨_, rfl, (by exact Nat.le_of_ble_eq_true rfl), ?_⟩
  | refine ⟨_, rfl, ?_⟩)
/-- go on as far as it goes by itself -/
local macro_rules | `(tactic| walk_at "g1") => `(tactic| first
  | ((with_reducible show De _ _ _ _ _); walk_at "de")
  | ((with_reducible show Da _ _ _ _ _); first | with_reducible refine da_nil ?_ | refine da_cons ?_)
  | ((with_reducible show Do _ _ _ _ _); with_reducible first | refine do_none ?_ | refine do_some ?_)
  | ((with_reducible show Dt _ _ _ _ _); walk_at "dt")
  | ((with_reducible show Dw _ _ _ _ _); walk_at "dt")
  | ((with_reducible show Ds _ _ _ _ _); walk_at "ds")
  | ((with_reducible show Db _ _ _ _ _); walk_at "db")
  | ((with_reducible show (_ = true → _) ∧ (_ = false → _)); walk_at "bq")
  | ((with_reducible show Exists _); walk_at "exq")
  | walk_at "ex")
local macro_rules | `(tactic| walk_at "go") => `(tactic| repeat walk_at "g1")
/-- go on up to the next block -/
local macro_rules | `(tactic| walk_at "gb") => `(tactic| repeat ((fail_if_success (with_reducible show Db _ _ _ _ _)); walk_at "g1"))
/-- go on up to a call of min or max, or the next block -/
local macro_rules | `(tactic| walk_at "gm") => `(tactic| repeat ((fail_if_success (with_reducible show De _ _ _ (.Call (.Name "min" _) _ _ _) _)); (fail_if_success (with_reducible show De _ _ _ (.Call (.Name "max" _) _ _ _) _)); walk_at "g1"))
/-! where an exception may leave -/
local macro_rules | `(tactic| walk_at "dbx") => `(tactic| first | refine dbx_one ?_ | refine dbx_cons ?_ | refine dbx_nil ?_)
local macro_rules | `(tactic| walk_at "dsx") => `(tactic| first
  | ((with_reducible show Dsx _ _ _ (.Return (some _) _) _ _); with_reducible refine dsx_ret ?_)
  | ((with_reducible show Dsx _ _ _ (.Assign [.Name _ _] _ _) _ _); walk_at "stx")
  | ((with_reducible show Dsx _ _ _ (.If _ _ _ _) _ _); with_reducible refine dsx_if ?_)
  | ((with_reducible show Dsx _ _ _ (.Expr _ _) _ _); refine dsx_expr ?_)
  | ((with_reducible show Dsx _ _ _ (.Raise _ _ _) _ _); refine dsx_raise rfl ‹KnowsE _ _ _ _› rfl ?_))
local macro_rules | `(tactic| walk_at "dex") => `(tactic| first
  | ((with_reducible show Dex _ _ _ (.IfExp _ _ _ _) _ _); with_reducible refine dex_ifexp ?_)
  | ((with_reducible show Dex _ _ _ (.Call (.Name _ _) _ _ _) _ _); refine dex_call ‹KnowsX _ _ _ _ _ _ _ _› ‹Room _ _› rfl ?_)
  | ((with_reducible show Dex _ _ _ (.Constant _ _ _) _ _); with_reducible refine dex_of ?_)
  | ((with_reducible show Dex _ _ _ (.Name _ _) _ _); with_reducible refine dex_of ?_)
  | ((with_reducible show Dex _ _ _ (.Tuple _ _ _) _ _); with_reducible refine dex_of ?_)
  | ((with_reducible show Dex _ _ _ (.BinOp _ _ _ _) _ _); with_reducible refine dex_of ?_)
  | ((with_reducible show Dex _ _ _ (.Subscript _ _ _) _ _); with_reducible refine dex_of ?_))
local macro_rules | `(tactic| walk_at "gx1") => `(tactic| first
  | ((with_reducible show Dbx _ _ _ _ _ _); walk_at "dbx")
  | ((with_reducible show Dsx _ _ _ _ _ _); walk_at "dsx")
  | ((with_reducible show Dex _ _ _ _ _ _); walk_at "dex")
  | walk_at "g1")
local macro_rules | `(tactic| walk_at "gx") => `(tactic| repeat walk_at "gx1")
/-- go on up to a tuple -/
local macro_rules | `(tactic| walk_at "gt") => `(tactic| repeat ((fail_if_success (with_reducible show De _ _ _ (.Tuple _ _ _) _)); walk_at "g1"))
/-- go on up to len -/
local macro_rules | `(tactic| walk_at "gs") => `(tactic| repeat ((fail_if_success (with_reducible show De _ _ _ (.Call (.Name "len" _) _ _ _) _)); walk_at "g1"))
/-- go on up to list(..) -/
local macro_rules | `(tactic| walk_at "gl") => `(tactic| repeat ((fail_if_success (with_reducible show De _ _ _ (.Call (.Name "list" _) _ _ _) _)); walk_at "g1"))

/-! ### channels as data -/
structure Chan where
  bars : List (List Int)
  legs : List Int
  waits : List Int
  deriving DecidableEq
def tI (xs : List Int) : PyData := .tuple (xs.map .int)
def chD (c : Chan) : PyData := .tuple [.tuple (c.bars.map tI), tI c.legs, tI c.waits]
structure ChOk (c : Chan) : Prop where
  b1 : 1 ≤ c.bars.length
  b3 : c.bars.length ≤ 3
  bl : ∀ b ∈ c.bars, 1 ≤ b.length ∧ b.length ≤ 8
  bv : ∀ b ∈ c.bars, ∀ x ∈ b, 0 ≤ x ∧ x ≤ 6
  ll : c.legs.length = c.bars.length - 1
  lv : ∀ x ∈ c.legs, 1 ≤ x ∧ x ≤ 9
  wl : c.waits.length = c.bars.length - 1
  wv : ∀ x ∈ c.waits, 0 ≤ x ∧ x ≤ 3
/-- tuples are short, some levels down -/
def Sm : Nat → PyData → Prop
  | n + 1, .tuple xs => xs.length ≤ 100000 ∧ ∀ x ∈ xs, Sm n x
  | 0, .tuple xs => xs.length ≤ 100000
  | _, _ => True
def isBetween : PyData → Int → Int → Bool
  | .int i, lo, hi => decide (lo ≤ i) && decide (i ≤ hi)
  | _, _, _ => false
def areBetween (d : PyData) (n lo hi : Int) : Bool := match d with
  | .tuple ds => decide ((ds.length : Int) = n) && ds.all (fun x => isBetween x lo hi)
  | _ => false
def isBar (d : PyData) : Bool := match d with
  | .tuple ds => decide (1 ≤ (ds.length : Int)) && decide ((ds.length : Int) ≤ 8) && areBetween d ds.length 0 6
  | _ => false
def isChannel (d : PyData) : Bool := match d with
  | .tuple [.tuple bs, legs, waits] => decide (1 ≤ (bs.length : Int)) && decide ((bs.length : Int) ≤ 3) && bs.all isBar && areBetween legs (bs.length - 1) 1 9 && areBetween waits (bs.length - 1) 0 3
  | _ => false
theorem areBetween_tI (xs : List Int) (n lo hi : Int) (hn : (xs.length : Int) = n) (h : ∀ x ∈ xs, lo ≤ x ∧ x ≤ hi) : areBetween (tI xs) n lo hi = true := by
  unfold tI areBetween
  simp only [List.length_map]
  rw [decide_eq_true hn, Bool.true_and, List.all_eq_true]
  intro d hd
  obtain ⟨x, hx, rfl⟩ := List.mem_map.mp hd
  have := h x hx
  simp [isBetween, this.1, this.2]
theorem isChannel_ok {c : Chan} (h : ChOk c) : isChannel (chD c) = true := by
  have e1 : areBetween (tI c.legs) ((c.bars.map tI).length - 1) 1 9 = true := areBetween_tI _ _ _ _ (by rw [List.length_map, h.ll]; have := h.b1; omega) h.lv
  have e2 : areBetween (tI c.waits) ((c.bars.map tI).length - 1) 0 3 = true := areBetween_tI _ _ _ _ (by rw [List.length_map, h.wl]; have := h.b1; omega) h.wv
  have e3 : (c.bars.map tI).all isBar = true := by
    rw [List.all_eq_true]
    intro d hd
    obtain ⟨b, hb, rfl⟩ := List.mem_map.mp hd
    have e := areBetween_tI b b.length 0 6 rfl (h.bv b hb)
    have hl := h.bl b hb
    have e' : areBetween (.tuple (b.map .int)) ((b.map PyData.int).length : Nat) 0 6 = true := by
      rw [List.length_map]
      exact e
    show (decide (1 ≤ ((b.map PyData.int).length : Int)) && decide (((b.map PyData.int).length : Int) ≤ 8) && areBetween (.tuple (b.map .int)) ((b.map PyData.int).length : Nat) 0 6) = true
    rw [e', List.length_map, decide_eq_true (by omega), decide_eq_true (by omega)]
    rfl
  show (decide (1 ≤ ((c.bars.map tI).length : Int)) && decide (((c.bars.map tI).length : Int) ≤ 3) && (c.bars.map tI).all isBar && areBetween (tI c.legs) ((c.bars.map tI).length - 1) 1 9 && areBetween (tI c.waits) ((c.bars.map tI).length - 1) 0 3) = true
  rw [e1, e2, e3, List.length_map, decide_eq_true (by have := h.b1; omega), decide_eq_true (by have := h.b3; omega)]
  rfl
theorem sm_tI {n : Nat} (xs : List Int) (h : xs.length ≤ 100000) : Sm n (tI xs) := by
  cases n with
  | zero => show (xs.map PyData.int).length ≤ 100000; rw [List.length_map]; exact h
  | succ n =>
    refine ⟨by rw [List.length_map]; exact h, fun x hx => ?_⟩
    obtain ⟨y, _, rfl⟩ := List.mem_map.mp hx
    cases n <;> trivial
theorem sm_chD {c : Chan} (h : ChOk c) : Sm 3 (chD c) := by
  refine ⟨Nat.le_of_ble_eq_true rfl, fun x hx => ?_⟩
  simp only [List.mem_cons, List.not_mem_nil, or_false] at hx
  have := h.b3
  rcases hx with rfl | rfl | rfl
  · refine ⟨by rw [List.length_map]; omega, fun y hy => ?_⟩
    obtain ⟨b, hb, rfl⟩ := List.mem_map.mp hy
    exact sm_tI b (by have := h.bl b hb; omega)
  · exact sm_tI _ (by have := h.ll; omega)
  · exact sm_tI _ (by have := h.wl; omega)
/-! what the defs give -/
def periodOf (c : Chan) : Nat := c.bars.foldl (fun a b => Nat.lcm a b.length) 1
def barAt (c : Chan) (j : Nat) : List Int := c.bars.getD j []
def depthOf (c : Chan) (j : Nat) (h : Int) : Int := (barAt c j).getD (h % ((barAt c j).length : Int)).toNat 0
def backOf (c : Chan) : Chan := ⟨c.bars.reverse, c.legs.reverse, c.waits.reverse⟩
def shiftBar (hours : Int) (b : List Int) : List Int := (List.range b.length).map fun (h : Nat) => b.getD (((h : Int) - hours) % (b.length : Int)).toNat 0
def shifted (c : Chan) (hours : Int) : Chan := ⟨c.bars.map (shiftBar hours), c.legs, c.waits⟩
theorem ChOk.back {c : Chan} (h : ChOk c) : ChOk (backOf c) := ⟨by simpa [backOf] using h.b1, by simpa [backOf] using h.b3, by simpa [backOf] using h.bl, by simpa [backOf] using h.bv, by simpa [backOf] using h.ll, by simpa [backOf] using h.lv, by simpa [backOf] using h.wl, by simpa [backOf] using h.wv⟩
theorem getD_mem {xs : List Int} {i : Nat} (h : i < xs.length) : xs.getD i 0 ∈ xs := by
  rw [List.getD_eq_getElem?_getD, List.getElem?_eq_getElem h]
  exact List.getElem_mem h
theorem mod_lt_len {b : List Int} (h : 1 ≤ b.length) (x : Int) : (x % (b.length : Int)).toNat < b.length := by
  have := Int.emod_nonneg x (show (b.length : Int) ≠ 0 by omega)
  have := Int.emod_lt_of_pos x (show (0 : Int) < b.length by omega)
  omega
theorem ChOk.shift {c : Chan} (h : ChOk c) (hours : Int) : ChOk (shifted c hours) := by
  refine ⟨by simpa [shifted] using h.b1, by simpa [shifted] using h.b3, ?_, ?_, by simpa [shifted] using h.ll, h.lv, by simpa [shifted] using h.wl, h.wv⟩
  · intro b hb
    obtain ⟨b', hb', rfl⟩ := List.mem_map.mp hb
    simpa [shiftBar] using h.bl b' hb'
  · intro b hb x hx
    obtain ⟨b', hb', rfl⟩ := List.mem_map.mp hb
    obtain ⟨i, hi, rfl⟩ := List.mem_map.mp hx
    exact h.bv b' hb' _ (getD_mem (mod_lt_len (h.bl b' hb').1 _))
theorem barAt_mem {c : Chan} {j : Nat} (hj : j < c.bars.length) : barAt c j ∈ c.bars := by
  unfold barAt
  rw [List.getD_eq_getElem?_getD, List.getElem?_eq_getElem hj]
  exact List.getElem_mem hj
theorem atI_bar {c : Chan} {j : Nat} (hj : j < c.bars.length) : atI (c.bars.map tI) (j : Int) = some (tI (barAt c j)) := by
  refine atI_nat ?_
  rw [List.getElem?_map, List.getElem?_eq_getElem hj]
  unfold barAt
  rw [List.getD_eq_getElem?_getD, List.getElem?_eq_getElem hj]
  rfl
theorem atI_int {xs : List Int} {i : Int} (h0 : 0 ≤ i) (h1 : i < xs.length) : atI (xs.map PyData.int) i = some (.int (xs.getD i.toNat 0)) := by
  have e : i = (i.toNat : Int) := by omega
  rw [e]
  refine atI_nat ?_
  rw [List.getElem?_map, List.getElem?_eq_getElem (by omega), List.getD_eq_getElem?_getD, List.getElem?_eq_getElem (by omega)]
  rfl

/-! ### the defs of channels.py -/
section
variable {P : Program} {w : World} {K : PySem.W.Frag} {mg : Str → Option Value} {base : Heap}
def cBetween : Ctr := fun svs τ Q => ∃ d lo hi, svs = [.val d, .val (.int lo), .val (.int hi)] ∧ Q (.val (.bool (isBetween d lo hi))) τ
abbrev s_is_between : Stmt := topS 18
theorem sc_is_between : FnScope ["value", "low", "high"] ["value", "low", "high"] (defScope s_is_between) := ⟨rfl, rfl, rfl, by decide +kernel, rfl, by decide +kernel, by decide +kernel⟩
local macro_rules | `(tactic| walk_at "nm") => `(tactic| first
  | with_reducible refine de_name (x := "value") 0 (by with_unfolding_all rfl) (by with_unfolding_all first | exact Or.inl rfl | exact Or.inr (Or.inl rfl) | exact Or.inr (Or.inr rfl)) (by with_unfolding_all rfl) ?_ (by with_unfolding_all decide) (by with_unfolding_all decide)
  | with_reducible refine de_name (x := "low") 1 (by with_unfolding_all rfl) (by with_unfolding_all first | exact Or.inl rfl | exact Or.inr (Or.inl rfl) | exact Or.inr (Or.inr rfl)) (by with_unfolding_all rfl) ?_ (by with_unfolding_all decide) (by with_unfolding_all decide)
  | with_reducible refine de_name (x := "high") 2 (by with_unfolding_all rfl) (by with_unfolding_all first | exact Or.inl rfl | exact Or.inr (Or.inl rfl) | exact Or.inr (Or.inr rfl)) (by with_unfolding_all rfl) ?_ (by with_unfolding_all decide) (by with_unfolding_all decide))
local macro_rules | `(tactic| walk_at "st") => `(tactic| first
  | with_reducible refine ds_set (x := "value") 0 (by with_unfolding_all exact sc_is_between.nd) (by with_unfolding_all rfl) (by with_unfolding_all first | exact Or.inl rfl | exact Or.inr rfl) ?_ (by with_unfolding_all rfl) (by with_unfolding_all first | exact .inl rfl | exact .inr rfl)
  | with_reducible refine ds_set (x := "low") 1 (by with_unfolding_all exact sc_is_between.nd) (by with_unfolding_all rfl) (by with_unfolding_all first | exact Or.inl rfl | exact Or.inr rfl) ?_ (by with_unfolding_all rfl) (by with_unfolding_all first | exact .inl rfl | exact .inr rfl)
  | with_reducible refine ds_set (x := "high") 2 (by with_unfolding_all exact sc_is_between.nd) (by with_unfolding_all rfl) (by with_unfolding_all first | exact Or.inl rfl | exact Or.inr rfl) ?_ (by with_unfolding_all rfl) (by with_unfolding_all first | exact .inl rfl | exact .inr rfl))
local macro_rules | `(tactic| walk_at "stx") => `(tactic| first
  | with_reducible refine dsx_set (x := "value") 0 (by with_unfolding_all exact sc_is_between.nd) (by with_unfolding_all rfl) (by with_unfolding_all first | exact Or.inl rfl | exact Or.inr rfl) ?_ (by with_unfolding_all rfl) (by with_unfolding_all first | exact .inl rfl | exact .inr rfl)
  | with_reducible refine dsx_set (x := "low") 1 (by with_unfolding_all exact sc_is_between.nd) (by with_unfolding_all rfl) (by with_unfolding_all first | exact Or.inl rfl | exact Or.inr rfl) ?_ (by with_unfolding_all rfl) (by with_unfolding_all first | exact .inl rfl | exact .inr rfl)
  | with_reducible refine dsx_set (x := "high") 2 (by with_unfolding_all exact sc_is_between.nd) (by with_unfolding_all rfl) (by with_unfolding_all first | exact Or.inl rfl | exact Or.inr rfl) ?_ (by with_unfolding_all rfl) (by with_unfolding_all first | exact .inl rfl | exact .inr rfl))



theorem kn_is_between (D : HasDef K mg "is_between" s_is_between ["value", "low", "high"]) (B : Bl mg) : Knows P w K mg base 1 "is_between" cBetween := by
  refine knows_mk D sc_is_between (fun _ _ _ ⟨_, _, _, e, _⟩ => by rw [e]; rfl) (fun f cdv A outer s H E hr svs τ Q hC => ?_)
  obtain ⟨d, lo, hi, rfl, q⟩ := hC
  cases d
  case int i =>
    walk_at "go"
    refine ⟨fun h => ?_, fun h => ?_⟩
    · walk_at "go"
      simpa [isBetween, h] using q
    · simpa [isBetween, h] using q
  all_goals (walk_at "go"; exact q)
def cAre : Ctr := fun svs τ Q => ∃ d n lo hi, svs = [.val d, .val (.int n), .val (.int lo), .val (.int hi)] ∧ Sm 0 d ∧ Q (.val (.bool (areBetween d n lo hi))) τ
abbrev s_are_between : Stmt := topS 19
theorem sc_are_between : FnScope ["value", "size", "low", "high", "one"] ["value", "size", "low", "high"] (defScope s_are_between) := ⟨rfl, rfl, rfl, by decide +kernel, rfl, by decide +kernel, by decide +kernel⟩
local macro_rules | `(tactic| walk_at "nm") => `(tactic| first
  | with_reducible refine de_name (x := "value") 0 (by with_unfolding_all rfl) (by with_unfolding_all first | exact Or.inl rfl | exact Or.inr (Or.inl rfl) | exact Or.inr (Or.inr rfl)) (by with_unfolding_all rfl) ?_ (by with_unfolding_all decide) (by with_unfolding_all decide)
  | with_reducible refine de_name (x := "size") 1 (by with_unfolding_all rfl) (by with_unfolding_all first | exact Or.inl rfl | exact Or.inr (Or.inl rfl) | exact Or.inr (Or.inr rfl)) (by with_unfolding_all rfl) ?_ (by with_unfolding_all decide) (by with_unfolding_all decide)
  | with_reducible refine de_name (x := "low") 2 (by with_unfolding_all rfl) (by with_unfolding_all first | exact Or.inl rfl | exact Or.inr (Or.inl rfl) | exact Or.inr (Or.inr rfl)) (by with_unfolding_all rfl) ?_ (by with_unfolding_all decide) (by with_unfolding_all decide)
  | with_reducible refine de_name (x := "high") 3 (by with_unfolding_all rfl) (by with_unfolding_all first | exact Or.inl rfl | exact Or.inr (Or.inl rfl) | exact Or.inr (Or.inr rfl)) (by with_unfolding_all rfl) ?_ (by with_unfolding_all decide) (by with_unfolding_all decide)
  | with_reducible refine de_name (x := "one") 4 (by with_unfolding_all rfl) (by with_unfolding_all first | exact Or.inl rfl | exact Or.inr (Or.inl rfl) | exact Or.inr (Or.inr rfl)) (by with_unfolding_all rfl) ?_ (by with_unfolding_all decide) (by with_unfolding_all decide))
local macro_rules | `(tactic| walk_at "st") => `(tactic| first
  | with_reducible refine ds_set (x := "value") 0 (by with_unfolding_all exact sc_are_between.nd) (by with_unfolding_all rfl) (by with_unfolding_all first | exact Or.inl rfl | exact Or.inr rfl) ?_ (by with_unfolding_all rfl) (by with_unfolding_all first | exact .inl rfl | exact .inr rfl)
  | with_reducible refine ds_set (x := "size") 1 (by with_unfolding_all exact sc_are_between.nd) (by with_unfolding_all rfl) (by with_unfolding_all first | exact Or.inl rfl | exact Or.inr rfl) ?_ (by with_unfolding_all rfl) (by with_unfolding_all first | exact .inl rfl | exact .inr rfl)
  | with_reducible refine ds_set (x := "low") 2 (by with_unfolding_all exact sc_are_between.nd) (by with_unfolding_all rfl) (by with_unfolding_all first | exact Or.inl rfl | exact Or.inr rfl) ?_ (by with_unfolding_all rfl) (by with_unfolding_all first | exact .inl rfl | exact .inr rfl)
  | with_reducible refine ds_set (x := "high") 3 (by with_unfolding_all exact sc_are_between.nd) (by with_unfolding_all rfl) (by with_unfolding_all first | exact Or.inl rfl | exact Or.inr rfl) ?_ (by with_unfolding_all rfl) (by with_unfolding_all first | exact .inl rfl | exact .inr rfl)
  | with_reducible refine ds_set (x := "one") 4 (by with_unfolding_all exact sc_are_between.nd) (by with_unfolding_all rfl) (by with_unfolding_all first | exact Or.inl rfl | exact Or.inr rfl) ?_ (by with_unfolding_all rfl) (by with_unfolding_all first | exact .inl rfl | exact .inr rfl))
local macro_rules | `(tactic| walk_at "stx") => `(tactic| first
  | with_reducible refine dsx_set (x := "value") 0 (by with_unfolding_all exact sc_are_between.nd) (by with_unfolding_all rfl) (by with_unfolding_all first | exact Or.inl rfl | exact Or.inr rfl) ?_ (by with_unfolding_all rfl) (by with_unfolding_all first | exact .inl rfl | exact .inr rfl)
  | with_reducible refine dsx_set (x := "size") 1 (by with_unfolding_all exact sc_are_between.nd) (by with_unfolding_all rfl) (by with_unfolding_all first | exact Or.inl rfl | exact Or.inr rfl) ?_ (by with_unfolding_all rfl) (by with_unfolding_all first | exact .inl rfl | exact .inr rfl)
  | with_reducible refine dsx_set (x := "low") 2 (by with_unfolding_all exact sc_are_between.nd) (by with_unfolding_all rfl) (by with_unfolding_all first | exact Or.inl rfl | exact Or.inr rfl) ?_ (by with_unfolding_all rfl) (by with_unfolding_all first | exact .inl rfl | exact .inr rfl)
  | with_reducible refine dsx_set (x := "high") 3 (by with_unfolding_all exact sc_are_between.nd) (by with_unfolding_all rfl) (by with_unfolding_all first | exact Or.inl rfl | exact Or.inr rfl) ?_ (by with_unfolding_all rfl) (by with_unfolding_all first | exact .inl rfl | exact .inr rfl)
  | with_reducible refine dsx_set (x := "one") 4 (by with_unfolding_all exact sc_are_between.nd) (by with_unfolding_all rfl) (by with_unfolding_all first | exact Or.inl rfl | exact Or.inr rfl) ?_ (by with_unfolding_all rfl) (by with_unfolding_all first | exact .inl rfl | exact .inr rfl))

local macro_rules | `(tactic| walk_at "lc one") => `(tactic| refine de_lc (t := .name 4) (own := [("one", 4)]) rfl sc_are_between.nd (by first | exact blkOk_by (N := ["value", "size", "low", "high", "one"]) (sc := defScope s_are_between) (by decide +kernel) | exact blkOk_by (N := ["value", "size", "low", "high", "one"]) (sc := relS _ (defScope s_are_between)) (by decide +kernel)) (by decide) (fun _ _ _ _ _ => pgx_name sc_are_between.nd rfl (by first | exact Or.inl rfl | exact Or.inr rfl)) ?_)

theorem kn_are_between (D : HasDef K mg "are_between" s_are_between ["value", "size", "low", "high"]) (B : Bl mg) (k1 : Knows P w K mg base 1 "is_between" cBetween) : Knows P w K mg base 2 "are_between" cAre := by
  refine knows_mk D sc_are_between (fun _ _ _ ⟨_, _, _, _, e, _⟩ => by rw [e]; rfl) (fun f cdv A outer s H E hr svs τ Q hC => ?_)
  obtain ⟨d, n, lo, hi, rfl, hs, q⟩ := hC
  cases d
  case tuple ds =>
    have hs : ds.length ≤ 100000 := hs
    walk_at "go"
    refine ⟨fun h => ?_, fun h => ?_⟩
    · walk_at "go"
      walk_at "lc one"
      refine di_tup ?_
      walk_at "go"
      refine lcq_map ds id (fun x => .bool (isBetween x lo hi)) (List.map_id ds).symm (by omega) (fun x hx => ⟨_, rfl, fun D acc hD s H C cl fp => ?_⟩) ?_
      · walk_at "go"
        exact ⟨_, _, _, rfl, rfl, rfl⟩
      · refine ⟨ds.map fun x => isBetween x lo hi, ?_, ?_⟩
        · show some _ = some _
          rw [List.map_map]
          rfl
        · have e : areBetween (.tuple ds) n lo hi = (ds.map fun x => isBetween x lo hi).all id := by
            unfold areBetween
            simp only
            have h' : decide ((ds.length : Int) = n) = true := h
            rw [h', List.all_map]
            rfl
          rw [← e]
          exact q
    · have h' : decide ((ds.length : Int) = n) = false := h
      have e : areBetween (.tuple ds) n lo hi = false := by
        unfold areBetween
        simp only
        rw [h']
        rfl
      rw [e] at q
      exact q
  all_goals (walk_at "go"; exact q)

def cIsCh : Ctr := fun svs τ Q => ∃ d, svs = [.val d] ∧ Sm 3 d ∧ Q (.val (.bool (isChannel d))) τ
abbrev s_is_channel : Stmt := topS 20
theorem sc_is_channel : FnScope ["value", "bars", "legs", "waits", "bar"] ["value"] (defScope s_is_channel) := ⟨rfl, rfl, rfl, by decide +kernel, rfl, by decide +kernel, by decide +kernel⟩
local macro_rules | `(tactic| walk_at "nm") => `(tactic| first
  | with_reducible refine de_name (x := "value") 0 (by with_unfolding_all rfl) (by with_unfolding_all first | exact Or.inl rfl | exact Or.inr (Or.inl rfl) | exact Or.inr (Or.inr rfl)) (by with_unfolding_all rfl) ?_ (by with_unfolding_all decide) (by with_unfolding_all decide)
  | with_reducible refine de_name (x := "bars") 1 (by with_unfolding_all rfl) (by with_unfolding_all first | exact Or.inl rfl | exact Or.inr (Or.inl rfl) | exact Or.inr (Or.inr rfl)) (by with_unfolding_all rfl) ?_ (by with_unfolding_all decide) (by with_unfolding_all decide)
  | with_reducible refine de_name (x := "legs") 2 (by with_unfolding_all rfl) (by with_unfolding_all first | exact Or.inl rfl | exact Or.inr (Or.inl rfl) | exact Or.inr (Or.inr rfl)) (by with_unfolding_all rfl) ?_ (by with_unfolding_all decide) (by with_unfolding_all decide)
  | with_reducible refine de_name (x := "waits") 3 (by with_unfolding_all rfl) (by with_unfolding_all first | exact Or.inl rfl | exact Or.inr (Or.inl rfl) | exact Or.inr (Or.inr rfl)) (by with_unfolding_all rfl) ?_ (by with_unfolding_all decide) (by with_unfolding_all decide)
  | with_reducible refine de_name (x := "bar") 4 (by with_unfolding_all rfl) (by with_unfolding_all first | exact Or.inl rfl | exact Or.inr (Or.inl rfl) | exact Or.inr (Or.inr rfl)) (by with_unfolding_all rfl) ?_ (by with_unfolding_all decide) (by with_unfolding_all decide))
local macro_rules | `(tactic| walk_at "st") => `(tactic| first
  | with_reducible refine ds_set (x := "value") 0 (by with_unfolding_all exact sc_is_channel.nd) (by with_unfolding_all rfl) (by with_unfolding_all first | exact Or.inl rfl | exact Or.inr rfl) ?_ (by with_unfolding_all rfl) (by with_unfolding_all first | exact .inl rfl | exact .inr rfl)
  | with_reducible refine ds_set (x := "bars") 1 (by with_unfolding_all exact sc_is_channel.nd) (by with_unfolding_all rfl) (by with_unfolding_all first | exact Or.inl rfl | exact Or.inr rfl) ?_ (by with_unfolding_all rfl) (by with_unfolding_all first | exact .inl rfl | exact .inr rfl)
  | with_reducible refine ds_set (x := "legs") 2 (by with_unfolding_all exact sc_is_channel.nd) (by with_unfolding_all rfl) (by with_unfolding_all first | exact Or.inl rfl | exact Or.inr rfl) ?_ (by with_unfolding_all rfl) (by with_unfolding_all first | exact .inl rfl | exact .inr rfl)
  | with_reducible refine ds_set (x := "waits") 3 (by with_unfolding_all exact sc_is_channel.nd) (by with_unfolding_all rfl) (by with_unfolding_all first | exact Or.inl rfl | exact Or.inr rfl) ?_ (by with_unfolding_all rfl) (by with_unfolding_all first | exact .inl rfl | exact .inr rfl)
  | with_reducible refine ds_set (x := "bar") 4 (by with_unfolding_all exact sc_is_channel.nd) (by with_unfolding_all rfl) (by with_unfolding_all first | exact Or.inl rfl | exact Or.inr rfl) ?_ (by with_unfolding_all rfl) (by with_unfolding_all first | exact .inl rfl | exact .inr rfl))
local macro_rules | `(tactic| walk_at "stx") => `(tactic| first
  | with_reducible refine dsx_set (x := "value") 0 (by with_unfolding_all exact sc_is_channel.nd) (by with_unfolding_all rfl) (by with_unfolding_all first | exact Or.inl rfl | exact Or.inr rfl) ?_ (by with_unfolding_all rfl) (by with_unfolding_all first | exact .inl rfl | exact .inr rfl)
  | with_reducible refine dsx_set (x := "bars") 1 (by with_unfolding_all exact sc_is_channel.nd) (by with_unfolding_all rfl) (by with_unfolding_all first | exact Or.inl rfl | exact Or.inr rfl) ?_ (by with_unfolding_all rfl) (by with_unfolding_all first | exact .inl rfl | exact .inr rfl)
  | with_reducible refine dsx_set (x := "legs") 2 (by with_unfolding_all exact sc_is_channel.nd) (by with_unfolding_all rfl) (by with_unfolding_all first | exact Or.inl rfl | exact Or.inr rfl) ?_ (by with_unfolding_all rfl) (by with_unfolding_all first | exact .inl rfl | exact .inr rfl)
  | with_reducible refine dsx_set (x := "waits") 3 (by with_unfolding_all exact sc_is_channel.nd) (by with_unfolding_all rfl) (by with_unfolding_all first | exact Or.inl rfl | exact Or.inr rfl) ?_ (by with_unfolding_all rfl) (by with_unfolding_all first | exact .inl rfl | exact .inr rfl)
  | with_reducible refine dsx_set (x := "bar") 4 (by with_unfolding_all exact sc_is_channel.nd) (by with_unfolding_all rfl) (by with_unfolding_all first | exact Or.inl rfl | exact Or.inr rfl) ?_ (by with_unfolding_all rfl) (by with_unfolding_all first | exact .inl rfl | exact .inr rfl))



theorem isChannel_no {ds : List PyData} (h : (ds.length : Int) ≠ 3) : isChannel (.tuple ds) = false := by
  unfold isChannel
  split
  · rename_i heq
    cases heq
    exact absurd rfl h
  · rfl
theorem isBar_no {d : PyData} (h : ∀ ds, d ≠ .tuple ds) : isBar d = false := by
  cases d <;> first | rfl | exact absurd rfl (h _)
theorem all_take {α : Type} {p : α → Bool} {xs : List α} {i : Nat} {x : α} (h : xs[i]? = some x) : (xs.take (i + 1)).all p = ((xs.take i).all p && p x) := by
  rw [List.take_add_one, h, List.all_append]
  simp
theorem all_false {α : Type} {p : α → Bool} {xs : List α} {i : Nat} {x : α} (h : xs[i]? = some x) (hp : p x = false) : xs.all p = false := by
  cases e : xs.all p with
  | false => rfl
  | true =>
    rw [List.all_eq_true] at e
    rw [e x (List.mem_of_getElem? h)] at hp
    cases hp
theorem kn_is_channel (D : HasDef K mg "is_channel" s_is_channel ["value"]) (B : Bl mg) (k2 : Knows P w K mg base 2 "are_between" cAre) : Knows P w K mg base 3 "is_channel" cIsCh := by
  refine knows_mk D sc_is_channel (fun _ _ _ ⟨_, e, _⟩ => by rw [e]; rfl) (fun f cdv A outer s H E hr svs τ Q hC => ?_)
  obtain ⟨d, rfl, hs, q⟩ := hC
  cases d
  case tuple ds =>
    walk_at "go"
    refine ⟨fun h => ?_, fun h => ?_⟩
    · have h' : (ds.length : Int) ≠ 3 := by simpa [bneg] using h
      rw [isChannel_no h'] at q
      walk_at "go"
      exact q
    · have h' : (ds.length : Int) = 3 := by simpa [bneg] using h
      match ds, h', hs, q with
      | [bars, legs, waits], _, hs, q =>
      walk_at "go"
      refine ds_asg (t := .tup [1, 2, 3]) (pgx_tup3 rfl (pg_name sc_is_channel.nd rfl (Or.inl rfl)) (pg_name sc_is_channel.nd rfl (Or.inl rfl)) (pg_name sc_is_channel.nd rfl (Or.inl rfl))) ?_
      walk_at "go"
      have hm : ∀ x ∈ [bars, legs, waits], Sm 2 x := hs.2
      have sb : Sm 2 bars := hm _ (by simp)
      have sl : Sm 2 legs := hm _ (by simp)
      have sw : Sm 2 waits := hm _ (by simp)
      have sl0 : Sm 0 legs := by cases legs <;> first | exact sl.1 | trivial
      have sw0 : Sm 0 waits := by cases waits <;> first | exact sw.1 | trivial
      cases bars with
      | tuple bs =>
        walk_at "go"
        have sb' : bs.length ≤ 100000 ∧ ∀ x ∈ bs, Sm 1 x := sb
        have out : ∀ {k : Bool}, isChannel (.tuple [.tuple bs, legs, waits]) = k → Q (.val (.bool k)) τ := fun e => by rw [← e]; exact q
        have eq : isChannel (.tuple [.tuple bs, legs, waits]) = (decide (1 ≤ (bs.length : Int)) && decide ((bs.length : Int) ≤ 3) && bs.all isBar && areBetween legs (bs.length - 1) 1 9 && areBetween waits (bs.length - 1) 0 3) := rfl
        refine ⟨fun h1 => ?_, fun h1 => ?_⟩
        · walk_at "go"
          refine ⟨fun h2 => ?_, fun h2 => ?_⟩
          · walk_at "go"
            refine out ?_
            rw [eq]
            have h2 : decide ((bs.length : Int) ≤ 3) = false := by simpa using h2
            rw [h2]
            simp
          · have h2 : decide ((bs.length : Int) ≤ 3) = true := by simpa using h2
            walk_at "go"
            refine ds_for (t := .name 4) rfl PassesOwn.never (pgx_name sc_is_channel.nd rfl (Or.inl rfl)) (di_tup ?_)
            walk_at "go"
            refine ⟨fun i ρ' τ' => τ' = τ ∧ (bs.take i).all isBar = true ∧ ∃ v, ρ' = [some (.val (.tuple [.tuple bs, legs, waits])), some (.val (.tuple bs)), some (.val legs), some (.val waits), v], ⟨rfl, rfl, none, rfl⟩, fun _ _ _ _ => trivial, ?_, ?_⟩
            · rintro i d ρ' τ' hd ⟨rfl, ha, v, rfl⟩
              refine ⟨_, rfl, ?_⟩
              have sd := sb'.2 d (List.mem_of_getElem? hd)
              have bad : isBar d = false → Q (.val (.bool false)) τ' := fun e => out (by rw [eq, all_false hd e]; simp)
              have good : isBar d = true → (bs.take (i + 1)).all isBar = true := fun e => by rw [all_take hd, ha, e]; rfl
              cases d with
              | tuple xs =>
                have eb : isBar (.tuple xs) = (decide (1 ≤ (xs.length : Int)) && decide ((xs.length : Int) ≤ 8) && areBetween (.tuple xs) xs.length 0 6) := rfl
                walk_at "go"
                refine ⟨fun h3 => ?_, fun h3 => ?_⟩
                · walk_at "go"
                  refine ⟨fun h4 => ?_, fun h4 => ?_⟩
                  · have h4 : decide ((xs.length : Int) ≤ 8) = false := by simpa using h4
                    walk_at "go"
                    exact bad (by rw [eb, h4]; simp)
                  · have h4 : decide ((xs.length : Int) ≤ 8) = true := by simpa using h4
                    walk_at "go"
                    refine ⟨_, _, _, _, rfl, sd.1, _, rfl, ?_⟩
                    refine ⟨fun h5 => ?_, fun h5 => ?_⟩
                    · have h5 : areBetween (.tuple xs) xs.length 0 6 = false := by simpa using h5
                      walk_at "go"
                      exact bad (by rw [eb, h5]; simp)
                    · have h5 : areBetween (.tuple xs) xs.length 0 6 = true := by simpa using h5
                      have h3' : decide (1 ≤ (xs.length : Int)) = true := h3
                      walk_at "go"
                      exact ⟨rfl, good (by rw [eb, h5, h4, h3']; rfl), _, rfl⟩
                · have h3' : decide (1 ≤ (xs.length : Int)) = false := h3
                  walk_at "go"
                  exact bad (by rw [eb, h3']; rfl)
              | _ => (walk_at "go"; exact bad rfl)
            · rintro ρ' τ' ⟨rfl, ha, v, rfl⟩
              rw [List.take_length] at ha
              have h1' : decide (1 ≤ (bs.length : Int)) = true := h1
              have eq2 : isChannel (.tuple [.tuple bs, legs, waits]) = (areBetween legs (bs.length - 1) 1 9 && areBetween waits (bs.length - 1) 0 3) := by
                rw [eq, ha, h2, h1']
                rfl
              walk_at "go"
              refine ⟨_, _, _, _, rfl, sl0, _, rfl, fun h3 => ?_, fun h3 => ?_⟩
              · walk_at "go"
                refine ⟨_, _, _, _, rfl, sw0, out ?_⟩
                rw [eq2, h3]
                rfl
              · refine out ?_
                rw [eq2, h3]
                rfl
        · walk_at "go"
          refine out ?_
          have h1' : decide (1 ≤ (bs.length : Int)) = false := h1
          rw [eq, h1']
          rfl
      | _ => (walk_at "go"; exact q)
  all_goals (walk_at "go"; exact q)
end

section
variable {P : Program} {w : World} {K : PySem.W.Frag} {mg : Str → Option Value} {base : Heap}
def cChkCX (cls : Value) : CtrX := fun svs τ Q R => ∃ d, svs = [.val d] ∧ Sm 3 d ∧ (isChannel d = true → Q (.val .none) τ) ∧ (isChannel d = false → R cls τ)
abbrev s_check_channel : Stmt := topS 21
theorem sc_check_channel : FnScope ["value"] ["value"] (defScope s_check_channel) := ⟨rfl, rfl, rfl, by decide +kernel, rfl, by decide +kernel, by decide +kernel⟩
local macro_rules | `(tactic| walk_at "nm") => `(tactic| first
  | with_reducible refine de_name (x := "value") 0 (by with_unfolding_all rfl) (by with_unfolding_all first | exact Or.inl rfl | exact Or.inr (Or.inl rfl) | exact Or.inr (Or.inr rfl)) (by with_unfolding_all rfl) ?_ (by with_unfolding_all decide) (by with_unfolding_all decide))
local macro_rules | `(tactic| walk_at "st") => `(tactic| first
  | with_reducible refine ds_set (x := "value") 0 (by with_unfolding_all exact sc_check_channel.nd) (by with_unfolding_all rfl) (by with_unfolding_all first | exact Or.inl rfl | exact Or.inr rfl) ?_ (by with_unfolding_all rfl) (by with_unfolding_all first | exact .inl rfl | exact .inr rfl))
local macro_rules | `(tactic| walk_at "stx") => `(tactic| first
  | with_reducible refine dsx_set (x := "value") 0 (by with_unfolding_all exact sc_check_channel.nd) (by with_unfolding_all rfl) (by with_unfolding_all first | exact Or.inl rfl | exact Or.inr rfl) ?_ (by with_unfolding_all rfl) (by with_unfolding_all first | exact .inl rfl | exact .inr rfl))



theorem kx_check_channel {cD : Value} (D : HasDef K mg "check_channel" s_check_channel ["value"]) (E : KnowsE K mg "InvalidChannel" cD) (k1 : Knows P w K mg base 3 "is_channel" cIsCh) : KnowsX P w K mg base 4 "check_channel" (cChkCX cD) := by
  refine knowsX_mk D sc_check_channel (fun _ _ _ _ ⟨_, e, _⟩ => by rw [e]; rfl) (fun f cdv A outer s H E' hr svs τ Q R hC => ?_)
  obtain ⟨d, rfl, hs, q1, q2⟩ := hC
  refine dbx_one (dsx_if ?_)
  walk_at "go"
  refine ⟨_, rfl, hs, ?_⟩
  refine ⟨_, rfl, fun h => ?_, fun h => ?_⟩
  · refine dbx_one (dsx_raise rfl ‹KnowsE _ _ _ _› rfl ?_)
    exact q2 (by simpa using h)
  · refine dbx_nil ?_
    exact q1 (by simpa using h)
end

/-! ### the law's draws -/
/-- the town: a count up to n, and L cells -/
def Tn (L : Nat) (n : Int) (ds : List PyData) : Prop := ∃ (c : Int) (cs : List Int), ds = (c :: cs).map .int ∧ cs.length = L ∧ 0 ≤ c ∧ c ≤ n
theorem Tn.mono {L : Nat} {n m : Int} {ds : List PyData} (h : Tn L n ds) (hm : n ≤ m) : Tn L m ds := by
  obtain ⟨c, cs, e, hl, h0, h1⟩ := h
  exact ⟨c, cs, e, hl, h0, by omega⟩
/-- the town stands in the store -/
def TnS (tw : Addr) (L : Nat) (n : Int) (τ : Store) : Prop := ∃ ds, τ.lookup tw = some (.lst ds) ∧ Tn L n ds
/-- a store that differs in the town alone -/
def Twn (tw : Addr) (L : Nat) (n : Int) (τ τ' : Store) : Prop := ∃ ds, τ' = setS tw (.lst ds) τ ∧ Tn L n ds
theorem TnS.mono {tw : Addr} {L : Nat} {n m : Int} {τ : Store} (h : TnS tw L n τ) (hm : n ≤ m) : TnS tw L m τ := by
  obtain ⟨ds, e, t⟩ := h
  exact ⟨ds, e, t.mono hm⟩
theorem Twn.tn {tw : Addr} {L : Nat} {n : Int} {τ τ' : Store} (h : Twn tw L n τ τ') (hd : tw ∈ dom τ) : TnS tw L n τ' := by
  obtain ⟨ds, e, t⟩ := h
  subst e
  exact ⟨ds, lookup_setS hd, t⟩
theorem TnS.dom {tw : Addr} {L : Nat} {n : Int} {τ : Store} (h : TnS tw L n τ) : tw ∈ Dl.dom τ := by
  obtain ⟨ds, e, _⟩ := h
  exact dom_of_lookup e
theorem Twn.refl {tw : Addr} {L : Nat} {n : Int} {τ : Store} (h : TnS tw L n τ) : Twn tw L n τ τ := by
  obtain ⟨ds, e, t⟩ := h
  exact ⟨ds, (setS_self e).symm, t⟩
theorem Twn.trans {tw : Addr} {L : Nat} {n m : Int} {τ τ1 τ2 : Store} (h : Twn tw L n τ τ1) (h' : Twn tw L m τ1 τ2) : Twn tw L m τ τ2 := by
  obtain ⟨ds, e, _⟩ := h
  obtain ⟨ds', e', t⟩ := h'
  subst e
  exact ⟨ds', by rw [e', setS_setS], t⟩
theorem Twn.mono {tw : Addr} {L : Nat} {n m : Int} {τ τ' : Store} (h : Twn tw L n τ τ') (hm : n ≤ m) : Twn tw L m τ τ' := by
  obtain ⟨ds, e, t⟩ := h
  exact ⟨ds, e, t.mono hm⟩
theorem Twn.dom {tw : Addr} {L : Nat} {n : Int} {τ τ' : Store} (h : Twn tw L n τ τ') : Dl.dom τ' = Dl.dom τ := by
  obtain ⟨ds, e, _⟩ := h
  subst e
  exact dom_setS _ _ _
/-- with one more object ahead -/
theorem TnS.push {tw D : Addr} {L : Nat} {n : Int} {τ : Store} {mo : MO} (h : TnS tw L n τ) (hD : D ∉ Dl.dom τ) : TnS tw L n ((D, mo) :: τ) := by
  obtain ⟨ds, e, t⟩ := h
  exact ⟨ds, lookup_push e hD, t⟩
theorem Twn.pop {tw D : Addr} {L : Nat} {n : Int} {τ τ' : Store} {mo : MO} (h : Twn tw L n ((D, mo) :: τ) τ') (ht : tw ∈ Dl.dom τ) (hD : D ∉ Dl.dom τ) : ∃ τ1, τ' = (D, mo) :: τ1 ∧ Twn tw L n τ τ1 := by
  obtain ⟨ds, e, t⟩ := h
  rw [setS_push ht hD] at e
  exact ⟨_, e, ds, rfl, t⟩
section
variable {P : Program} {w : World} {K : PySem.W.Frag} {mg : Str → Option Value} {base : Heap}
def cTown : Ctr := fun svs τ Q => ∃ ns, svs = [.scr ns] ∧ ns.length ≤ 1000 ∧ ∀ a, a ∉ dom τ → Q (.hdl a) ((a, .lst ((0 :: ns).map .int)) :: τ)
abbrev s__law_town : Stmt := topS 29
theorem sc__law_town : FnScope ["_law_script"] ["_law_script"] (defScope s__law_town) := ⟨rfl, rfl, rfl, by decide +kernel, rfl, by decide +kernel, by decide +kernel⟩
local macro_rules | `(tactic| walk_at "nm") => `(tactic| first
  | with_reducible refine de_name (x := "_law_script") 0 (by with_unfolding_all rfl) (by with_unfolding_all first | exact Or.inl rfl | exact Or.inr (Or.inl rfl) | exact Or.inr (Or.inr rfl)) (by with_unfolding_all rfl) ?_ (by with_unfolding_all decide) (by with_unfolding_all decide))
local macro_rules | `(tactic| walk_at "st") => `(tactic| first
  | with_reducible refine ds_set (x := "_law_script") 0 (by with_unfolding_all exact sc__law_town.nd) (by with_unfolding_all rfl) (by with_unfolding_all first | exact Or.inl rfl | exact Or.inr rfl) ?_ (by with_unfolding_all rfl) (by with_unfolding_all first | exact .inl rfl | exact .inr rfl))
local macro_rules | `(tactic| walk_at "stx") => `(tactic| first
  | with_reducible refine dsx_set (x := "_law_script") 0 (by with_unfolding_all exact sc__law_town.nd) (by with_unfolding_all rfl) (by with_unfolding_all first | exact Or.inl rfl | exact Or.inr rfl) ?_ (by with_unfolding_all rfl) (by with_unfolding_all first | exact .inl rfl | exact .inr rfl))



theorem kn_law_town (D : HasDef K mg "_law_town" s__law_town ["_law_script"]) (B : Bl mg) : Knows P w K mg base 1 "_law_town" cTown := by
  refine knows_mk D sc__law_town (fun _ _ _ ⟨_, e, _⟩ => by rw [e]; rfl) (fun f cdv A outer s H E hr svs τ Q hC => ?_)
  obtain ⟨ns, rfl, hl, q⟩ := hC
  walk_at "go"
  exact plus_lstM rfl rfl (by simp; omega) q
def cDraw : Ctr := fun svs τ Q => ∃ ns tw lim n, svs = [.scr ns, .hdl tw, .val (.int lim)] ∧ ns.length ≤ 1000 ∧ 1 ≤ lim ∧ lim ≤ 100000 ∧ n ≤ 1000000 ∧ TnS tw ns.length n τ ∧
  ∀ k τ', 0 ≤ k → k < lim → Twn tw ns.length (n + 1) τ τ' → Q (.val (.int k)) τ'
theorem mod_rng {a m : Int} (h : 1 ≤ m) : 0 ≤ a % m ∧ a % m < m := ⟨Int.emod_nonneg _ (by omega), Int.emod_lt_of_pos _ (by omega)⟩
theorem Tn.at0 {c : Int} {cs : List Int} : atI ((c :: cs).map PyData.int) 0 = some (.int c) := by
  refine atI_nat (j := 0) ?_
  rfl
abbrev s__law_draw : Stmt := topS 30
theorem sc__law_draw : FnScope ["_law_script", "_law_town_here", "_law_limit", "_law_at", "_law_left", "_law_number"] ["_law_script", "_law_town_here", "_law_limit"] (defScope s__law_draw) := ⟨rfl, rfl, rfl, by decide +kernel, rfl, by decide +kernel, by decide +kernel⟩
local macro_rules | `(tactic| walk_at "nm") => `(tactic| first
  | with_reducible refine de_name (x := "_law_script") 0 (by with_unfolding_all rfl) (by with_unfolding_all first | exact Or.inl rfl | exact Or.inr (Or.inl rfl) | exact Or.inr (Or.inr rfl)) (by with_unfolding_all rfl) ?_ (by with_unfolding_all decide) (by with_unfolding_all decide)
  | with_reducible refine de_name (x := "_law_town_here") 1 (by with_unfolding_all rfl) (by with_unfolding_all first | exact Or.inl rfl | exact Or.inr (Or.inl rfl) | exact Or.inr (Or.inr rfl)) (by with_unfolding_all rfl) ?_ (by with_unfolding_all decide) (by with_unfolding_all decide)
  | with_reducible refine de_name (x := "_law_limit") 2 (by with_unfolding_all rfl) (by with_unfolding_all first | exact Or.inl rfl | exact Or.inr (Or.inl rfl) | exact Or.inr (Or.inr rfl)) (by with_unfolding_all rfl) ?_ (by with_unfolding_all decide) (by with_unfolding_all decide)
  | with_reducible refine de_name (x := "_law_at") 3 (by with_unfolding_all rfl) (by with_unfolding_all first | exact Or.inl rfl | exact Or.inr (Or.inl rfl) | exact Or.inr (Or.inr rfl)) (by with_unfolding_all rfl) ?_ (by with_unfolding_all decide) (by with_unfolding_all decide)
  | with_reducible refine de_name (x := "_law_left") 4 (by with_unfolding_all rfl) (by with_unfolding_all first | exact Or.inl rfl | exact Or.inr (Or.inl rfl) | exact Or.inr (Or.inr rfl)) (by with_unfolding_all rfl) ?_ (by with_unfolding_all decide) (by with_unfolding_all decide)
  | with_reducible refine de_name (x := "_law_number") 5 (by with_unfolding_all rfl) (by with_unfolding_all first | exact Or.inl rfl | exact Or.inr (Or.inl rfl) | exact Or.inr (Or.inr rfl)) (by with_unfolding_all rfl) ?_ (by with_unfolding_all decide) (by with_unfolding_all decide))
local macro_rules | `(tactic| walk_at "st") => `(tactic| first
  | with_reducible refine ds_set (x := "_law_script") 0 (by with_unfolding_all exact sc__law_draw.nd) (by with_unfolding_all rfl) (by with_unfolding_all first | exact Or.inl rfl | exact Or.inr rfl) ?_ (by with_unfolding_all rfl) (by with_unfolding_all first | exact .inl rfl | exact .inr rfl)
  | with_reducible refine ds_set (x := "_law_town_here") 1 (by with_unfolding_all exact sc__law_draw.nd) (by with_unfolding_all rfl) (by with_unfolding_all first | exact Or.inl rfl | exact Or.inr rfl) ?_ (by with_unfolding_all rfl) (by with_unfolding_all first | exact .inl rfl | exact .inr rfl)
  | with_reducible refine ds_set (x := "_law_limit") 2 (by with_unfolding_all exact sc__law_draw.nd) (by with_unfolding_all rfl) (by with_unfolding_all first | exact Or.inl rfl | exact Or.inr rfl) ?_ (by with_unfolding_all rfl) (by with_unfolding_all first | exact .inl rfl | exact .inr rfl)
  | with_reducible refine ds_set (x := "_law_at") 3 (by with_unfolding_all exact sc__law_draw.nd) (by with_unfolding_all rfl) (by with_unfolding_all first | exact Or.inl rfl | exact Or.inr rfl) ?_ (by with_unfolding_all rfl) (by with_unfolding_all first | exact .inl rfl | exact .inr rfl)
  | with_reducible refine ds_set (x := "_law_left") 4 (by with_unfolding_all exact sc__law_draw.nd) (by with_unfolding_all rfl) (by with_unfolding_all first | exact Or.inl rfl | exact Or.inr rfl) ?_ (by with_unfolding_all rfl) (by with_unfolding_all first | exact .inl rfl | exact .inr rfl)
  | with_reducible refine ds_set (x := "_law_number") 5 (by with_unfolding_all exact sc__law_draw.nd) (by with_unfolding_all rfl) (by with_unfolding_all first | exact Or.inl rfl | exact Or.inr rfl) ?_ (by with_unfolding_all rfl) (by with_unfolding_all first | exact .inl rfl | exact .inr rfl))
local macro_rules | `(tactic| walk_at "stx") => `(tactic| first
  | with_reducible refine dsx_set (x := "_law_script") 0 (by with_unfolding_all exact sc__law_draw.nd) (by with_unfolding_all rfl) (by with_unfolding_all first | exact Or.inl rfl | exact Or.inr rfl) ?_ (by with_unfolding_all rfl) (by with_unfolding_all first | exact .inl rfl | exact .inr rfl)
  | with_reducible refine dsx_set (x := "_law_town_here") 1 (by with_unfolding_all exact sc__law_draw.nd) (by with_unfolding_all rfl) (by with_unfolding_all first | exact Or.inl rfl | exact Or.inr rfl) ?_ (by with_unfolding_all rfl) (by with_unfolding_all first | exact .inl rfl | exact .inr rfl)
  | with_reducible refine dsx_set (x := "_law_limit") 2 (by with_unfolding_all exact sc__law_draw.nd) (by with_unfolding_all rfl) (by with_unfolding_all first | exact Or.inl rfl | exact Or.inr rfl) ?_ (by with_unfolding_all rfl) (by with_unfolding_all first | exact .inl rfl | exact .inr rfl)
  | with_reducible refine dsx_set (x := "_law_at") 3 (by with_unfolding_all exact sc__law_draw.nd) (by with_unfolding_all rfl) (by with_unfolding_all first | exact Or.inl rfl | exact Or.inr rfl) ?_ (by with_unfolding_all rfl) (by with_unfolding_all first | exact .inl rfl | exact .inr rfl)
  | with_reducible refine dsx_set (x := "_law_left") 4 (by with_unfolding_all exact sc__law_draw.nd) (by with_unfolding_all rfl) (by with_unfolding_all first | exact Or.inl rfl | exact Or.inr rfl) ?_ (by with_unfolding_all rfl) (by with_unfolding_all first | exact .inl rfl | exact .inr rfl)
  | with_reducible refine dsx_set (x := "_law_number") 5 (by with_unfolding_all exact sc__law_draw.nd) (by with_unfolding_all rfl) (by with_unfolding_all first | exact Or.inl rfl | exact Or.inr rfl) ?_ (by with_unfolding_all rfl) (by with_unfolding_all first | exact .inl rfl | exact .inr rfl))



theorem kn_law_draw (D : HasDef K mg "_law_draw" s__law_draw ["_law_script", "_law_town_here", "_law_limit"]) (B : Bl mg) : Knows P w K mg base 1 "_law_draw" cDraw := by
  refine knows_mk D sc__law_draw (fun _ _ _ ⟨_, _, _, _, e, _⟩ => by rw [e]; rfl) (fun f cdv A outer s H E hr svs τ Q hC => ?_)
  obtain ⟨ns, tw, lim, n, rfl, hns, hl1, hl2, hn, ⟨ds, ht, c, cs, rfl, hcs, hc0, hc1⟩, q⟩ := hC
  refine db_cons (ds_setix ?_)
  walk_at "go"
  refine ix_lst (datOf_hdl ht) Tn.at0 ?_
  walk_at "go"
  refine ⟨_, tw, _, _, 0, rfl, rfl, rfl, ht, ixN_ok (by omega) (by rw [List.length_map, List.length_cons]; omega), ?_⟩
  have ht1 : (setS tw (.lst ((((c + 1) :: cs : List Int)).map PyData.int)) τ).lookup tw = some (.lst (((c + 1) :: cs).map PyData.int)) := lookup_setS' ht
  have e1 : Twn tw ns.length (n + 1) τ (setS tw (.lst ((((c + 1) :: cs : List Int)).map PyData.int)) τ) := ⟨_, rfl, c + 1, cs, rfl, hcs, by omega, by omega⟩
  show Db _ _ (setS tw (.lst ((((c + 1) :: cs : List Int)).map PyData.int)) τ) _ _
  generalize (setS tw (.lst ((((c + 1) :: cs : List Int)).map PyData.int)) τ) = τ1 at ht1 e1 ⊢
  walk_at "go"
  refine eq_pl (n := 1) (m := 1) rfl rfl (by rintro x hx; obtain ⟨y, _, rfl⟩ := List.mem_map.mp hx; trivial) (by rintro x hx; cases hx) (fun b hb => ?_)
  refine ⟨_, rfl, fun h => ?_, fun h => ?_⟩
  · walk_at "go"
    refine ix_lst (datOf_hdl ht1) Tn.at0 ?_
    walk_at "go"
    refine ix_lst (datOf_hdl ht1) Tn.at0 ?_
    walk_at "go"
    refine q _ _ ?_ ?_ e1
    · exact (mod_rng hl1).1
    · exact (mod_rng hl1).2
  · have hne : ns ≠ [] := by
      intro e
      subst e
      have h' : b = false := h
      rw [h'] at hb
      exact absurd (hb.mpr rfl) (by decide)
    have hpos : 1 ≤ ns.length := by
      cases ns with
      | nil => exact absurd rfl hne
      | cons a r => simp
    walk_at "go"
    refine ix_lst (datOf_hdl ht1) Tn.at0 ?_
    walk_at "go"
    refine ⟨by rw [List.length_map]; omega, ?_⟩
    rw [List.length_map]
    have hm := mod_rng (a := c + 1) (m := (ns.length : Int)) (by omega)
    walk_at "go"
    refine ix_lst (datOf_hdl ht1) (atI_int (by omega) (by rw [List.length_cons]; omega)) ?_
    walk_at "go"
    refine ix_lst (x := .scr ns) rfl (atI_int hm.1 hm.2) ?_
    walk_at "go"
    refine ⟨fun h1 => ?_, fun h1 => ?_⟩
    · walk_at "go"
      refine ⟨fun h2 => ?_, fun h2 => ?_⟩
      · walk_at "go"
        refine ds_setix ?_
        walk_at "go"
        refine ⟨_, tw, _, _, _, rfl, rfl, rfl, ht1, ixN_ok (by omega) (by rw [List.length_map, List.length_cons]; omega), ?_⟩
        walk_at "go"
        refine q _ _ (mod_rng hl1).1 (mod_rng hl1).2 (e1.trans ⟨_, rfl, c + 1, cs.set ((c + 1) % (ns.length : Int)).toNat (((c + 1) :: cs).getD (1 + (c + 1) % (ns.length : Int)).toNat 0 / lim), ?_, by rw [List.length_set]; exact hcs, by omega, by omega⟩)
        rw [show (1 + (c + 1) % (ns.length : Int)).toNat = ((c + 1) % (ns.length : Int)).toNat + 1 by omega]
        show (PyData.int (c + 1) :: (cs.map PyData.int).set _ _) = PyData.int (c + 1) :: _
        rw [List.map_set]
      · walk_at "go"
        refine ix_lst (x := .scr _) rfl (atI_int hm.1 hm.2) ?_
        walk_at "go"
        refine ix_lst (datOf_hdl ht1) Tn.at0 ?_
        walk_at "go"
        exact q _ _ (mod_rng hl1).1 (mod_rng hl1).2 e1
    · walk_at "go"
      refine ix_lst (x := .scr _) rfl (atI_int hm.1 hm.2) ?_
      walk_at "go"
      refine ix_lst (datOf_hdl ht1) Tn.at0 ?_
      walk_at "go"
      exact q _ _ (mod_rng hl1).1 (mod_rng hl1).2 e1
end

section
variable {P : Program} {w : World} {K : PySem.W.Frag} {mg : Str → Option Value} {base : Heap}
def cPick : Ctr := fun svs τ Q => ∃ ns tw cs n, svs = [.scr ns, .hdl tw, .val (.list cs)] ∧ ns.length ≤ 1000 ∧ 1 ≤ cs.length ∧ cs.length ≤ 100000 ∧ n ≤ 1000000 ∧ TnS tw ns.length n τ ∧
  ∀ d τ', d ∈ cs → Twn tw ns.length (n + 1) τ τ' → Q (.val d) τ'
theorem atI_mem {ds : List PyData} {k : Int} (h0 : 0 ≤ k) (h1 : k < ds.length) : ∃ d, d ∈ ds ∧ atI ds k = some d := by
  have hk : k.toNat < ds.length := by omega
  refine ⟨ds[k.toNat], List.getElem_mem hk, ?_⟩
  unfold atI
  rw [ixN_ok h0 h1]
  exact List.getElem?_eq_getElem hk
abbrev s__law_pick : Stmt := topS 31
theorem sc__law_pick : FnScope ["_law_script", "_law_town_here", "_law_choices"] ["_law_script", "_law_town_here", "_law_choices"] (defScope s__law_pick) := ⟨rfl, rfl, rfl, by decide +kernel, rfl, by decide +kernel, by decide +kernel⟩
local macro_rules | `(tactic| walk_at "nm") => `(tactic| first
  | with_reducible refine de_name (x := "_law_script") 0 (by with_unfolding_all rfl) (by with_unfolding_all first | exact Or.inl rfl | exact Or.inr (Or.inl rfl) | exact Or.inr (Or.inr rfl)) (by with_unfolding_all rfl) ?_ (by with_unfolding_all decide) (by with_unfolding_all decide)
  | with_reducible refine de_name (x := "_law_town_here") 1 (by with_unfolding_all rfl) (by with_unfolding_all first | exact Or.inl rfl | exact Or.inr (Or.inl rfl) | exact Or.inr (Or.inr rfl)) (by with_unfolding_all rfl) ?_ (by with_unfolding_all decide) (by with_unfolding_all decide)
  | with_reducible refine de_name (x := "_law_choices") 2 (by with_unfolding_all rfl) (by with_unfolding_all first | exact Or.inl rfl | exact Or.inr (Or.inl rfl) | exact Or.inr (Or.inr rfl)) (by with_unfolding_all rfl) ?_ (by with_unfolding_all decide) (by with_unfolding_all decide))
local macro_rules | `(tactic| walk_at "st") => `(tactic| first
  | with_reducible refine ds_set (x := "_law_script") 0 (by with_unfolding_all exact sc__law_pick.nd) (by with_unfolding_all rfl) (by with_unfolding_all first | exact Or.inl rfl | exact Or.inr rfl) ?_ (by with_unfolding_all rfl) (by with_unfolding_all first | exact .inl rfl | exact .inr rfl)
  | with_reducible refine ds_set (x := "_law_town_here") 1 (by with_unfolding_all exact sc__law_pick.nd) (by with_unfolding_all rfl) (by with_unfolding_all first | exact Or.inl rfl | exact Or.inr rfl) ?_ (by with_unfolding_all rfl) (by with_unfolding_all first | exact .inl rfl | exact .inr rfl)
  | with_reducible refine ds_set (x := "_law_choices") 2 (by with_unfolding_all exact sc__law_pick.nd) (by with_unfolding_all rfl) (by with_unfolding_all first | exact Or.inl rfl | exact Or.inr rfl) ?_ (by with_unfolding_all rfl) (by with_unfolding_all first | exact .inl rfl | exact .inr rfl))
local macro_rules | `(tactic| walk_at "stx") => `(tactic| first
  | with_reducible refine dsx_set (x := "_law_script") 0 (by with_unfolding_all exact sc__law_pick.nd) (by with_unfolding_all rfl) (by with_unfolding_all first | exact Or.inl rfl | exact Or.inr rfl) ?_ (by with_unfolding_all rfl) (by with_unfolding_all first | exact .inl rfl | exact .inr rfl)
  | with_reducible refine dsx_set (x := "_law_town_here") 1 (by with_unfolding_all exact sc__law_pick.nd) (by with_unfolding_all rfl) (by with_unfolding_all first | exact Or.inl rfl | exact Or.inr rfl) ?_ (by with_unfolding_all rfl) (by with_unfolding_all first | exact .inl rfl | exact .inr rfl)
  | with_reducible refine dsx_set (x := "_law_choices") 2 (by with_unfolding_all exact sc__law_pick.nd) (by with_unfolding_all rfl) (by with_unfolding_all first | exact Or.inl rfl | exact Or.inr rfl) ?_ (by with_unfolding_all rfl) (by with_unfolding_all first | exact .inl rfl | exact .inr rfl))



theorem kn_law_pick (D : HasDef K mg "_law_pick" s__law_pick ["_law_script", "_law_town_here", "_law_choices"]) (B : Bl mg) (k1 : Knows P w K mg base 1 "_law_draw" cDraw) : Knows P w K mg base 2 "_law_pick" cPick := by
  refine knows_mk D sc__law_pick (fun _ _ _ ⟨_, _, _, _, e, _⟩ => by rw [e]; rfl) (fun f cdv A outer s H E hr svs τ Q hC => ?_)
  obtain ⟨ns, tw, cs, n, rfl, hns, hl1, hl2, hn, ht, q⟩ := hC
  walk_at "go"
  refine ⟨_, _, _, n, rfl, hns, by omega, by omega, hn, ht, fun k τ' h0 h1 e => ?_⟩
  obtain ⟨d, hd, ea⟩ := atI_mem h0 h1
  exact ix_lst rfl ea (q d τ' hd e)
def cBarL : Ctr := fun svs τ Q => ∃ ns tw, ∃ m : Nat, ∃ n, svs = [.scr ns, .hdl tw, .val (.int m)] ∧ ns.length ≤ 1000 ∧ 1 ≤ m ∧ m ≤ 8 ∧ n ≤ 999900 ∧ TnS tw ns.length n τ ∧
  ∀ b τ', 1 ≤ b.length → b.length ≤ m → (∀ x ∈ b, 0 ≤ x ∧ x ≤ 6) → Twn tw ns.length (n + 10) τ τ' → Q (.val (tI b)) τ'
abbrev s__law_bar : Stmt := topS 35
theorem sc__law_bar : FnScope ["_law_script", "_law_town_here", "_law_most", "_law_size", "_law_k", "_law_low", "_law_high", "_law_at"] ["_law_script", "_law_town_here", "_law_most"] (defScope s__law_bar) := ⟨rfl, rfl, rfl, by decide +kernel, rfl, by decide +kernel, by decide +kernel⟩
local macro_rules | `(tactic| walk_at "nm") => `(tactic| first
  | with_reducible refine de_name (x := "_law_script") 0 (by with_unfolding_all rfl) (by with_unfolding_all first | exact Or.inl rfl | exact Or.inr (Or.inl rfl) | exact Or.inr (Or.inr rfl)) (by with_unfolding_all rfl) ?_ (by with_unfolding_all decide) (by with_unfolding_all decide)
  | with_reducible refine de_name (x := "_law_town_here") 1 (by with_unfolding_all rfl) (by with_unfolding_all first | exact Or.inl rfl | exact Or.inr (Or.inl rfl) | exact Or.inr (Or.inr rfl)) (by with_unfolding_all rfl) ?_ (by with_unfolding_all decide) (by with_unfolding_all decide)
  | with_reducible refine de_name (x := "_law_most") 2 (by with_unfolding_all rfl) (by with_unfolding_all first | exact Or.inl rfl | exact Or.inr (Or.inl rfl) | exact Or.inr (Or.inr rfl)) (by with_unfolding_all rfl) ?_ (by with_unfolding_all decide) (by with_unfolding_all decide)
  | with_reducible refine de_name (x := "_law_size") 3 (by with_unfolding_all rfl) (by with_unfolding_all first | exact Or.inl rfl | exact Or.inr (Or.inl rfl) | exact Or.inr (Or.inr rfl)) (by with_unfolding_all rfl) ?_ (by with_unfolding_all decide) (by with_unfolding_all decide)
  | with_reducible refine de_name (x := "_law_k") 4 (by with_unfolding_all rfl) (by with_unfolding_all first | exact Or.inl rfl | exact Or.inr (Or.inl rfl) | exact Or.inr (Or.inr rfl)) (by with_unfolding_all rfl) ?_ (by with_unfolding_all decide) (by with_unfolding_all decide)
  | with_reducible refine de_name (x := "_law_low") 5 (by with_unfolding_all rfl) (by with_unfolding_all first | exact Or.inl rfl | exact Or.inr (Or.inl rfl) | exact Or.inr (Or.inr rfl)) (by with_unfolding_all rfl) ?_ (by with_unfolding_all decide) (by with_unfolding_all decide)
  | with_reducible refine de_name (x := "_law_high") 6 (by with_unfolding_all rfl) (by with_unfolding_all first | exact Or.inl rfl | exact Or.inr (Or.inl rfl) | exact Or.inr (Or.inr rfl)) (by with_unfolding_all rfl) ?_ (by with_unfolding_all decide) (by with_unfolding_all decide)
  | with_reducible refine de_name (x := "_law_at") 7 (by with_unfolding_all rfl) (by with_unfolding_all first | exact Or.inl rfl | exact Or.inr (Or.inl rfl) | exact Or.inr (Or.inr rfl)) (by with_unfolding_all rfl) ?_ (by with_unfolding_all decide) (by with_unfolding_all decide))
local macro_rules | `(tactic| walk_at "st") => `(tactic| first
  | with_reducible refine ds_set (x := "_law_script") 0 (by with_unfolding_all exact sc__law_bar.nd) (by with_unfolding_all rfl) (by with_unfolding_all first | exact Or.inl rfl | exact Or.inr rfl) ?_ (by with_unfolding_all rfl) (by with_unfolding_all first | exact .inl rfl | exact .inr rfl)
  | with_reducible refine ds_set (x := "_law_town_here") 1 (by with_unfolding_all exact sc__law_bar.nd) (by with_unfolding_all rfl) (by with_unfolding_all first | exact Or.inl rfl | exact Or.inr rfl) ?_ (by with_unfolding_all rfl) (by with_unfolding_all first | exact .inl rfl | exact .inr rfl)
  | with_reducible refine ds_set (x := "_law_most") 2 (by with_unfolding_all exact sc__law_bar.nd) (by with_unfolding_all rfl) (by with_unfolding_all first | exact Or.inl rfl | exact Or.inr rfl) ?_ (by with_unfolding_all rfl) (by with_unfolding_all first | exact .inl rfl | exact .inr rfl)
  | with_reducible refine ds_set (x := "_law_size") 3 (by with_unfolding_all exact sc__law_bar.nd) (by with_unfolding_all rfl) (by with_unfolding_all first | exact Or.inl rfl | exact Or.inr rfl) ?_ (by with_unfolding_all rfl) (by with_unfolding_all first | exact .inl rfl | exact .inr rfl)
  | with_reducible refine ds_set (x := "_law_k") 4 (by with_unfolding_all exact sc__law_bar.nd) (by with_unfolding_all rfl) (by with_unfolding_all first | exact Or.inl rfl | exact Or.inr rfl) ?_ (by with_unfolding_all rfl) (by with_unfolding_all first | exact .inl rfl | exact .inr rfl)
  | with_reducible refine ds_set (x := "_law_low") 5 (by with_unfolding_all exact sc__law_bar.nd) (by with_unfolding_all rfl) (by with_unfolding_all first | exact Or.inl rfl | exact Or.inr rfl) ?_ (by with_unfolding_all rfl) (by with_unfolding_all first | exact .inl rfl | exact .inr rfl)
  | with_reducible refine ds_set (x := "_law_high") 6 (by with_unfolding_all exact sc__law_bar.nd) (by with_unfolding_all rfl) (by with_unfolding_all first | exact Or.inl rfl | exact Or.inr rfl) ?_ (by with_unfolding_all rfl) (by with_unfolding_all first | exact .inl rfl | exact .inr rfl)
  | with_reducible refine ds_set (x := "_law_at") 7 (by with_unfolding_all exact sc__law_bar.nd) (by with_unfolding_all rfl) (by with_unfolding_all first | exact Or.inl rfl | exact Or.inr rfl) ?_ (by with_unfolding_all rfl) (by with_unfolding_all first | exact .inl rfl | exact .inr rfl))
local macro_rules | `(tactic| walk_at "stx") => `(tactic| first
  | with_reducible refine dsx_set (x := "_law_script") 0 (by with_unfolding_all exact sc__law_bar.nd) (by with_unfolding_all rfl) (by with_unfolding_all first | exact Or.inl rfl | exact Or.inr rfl) ?_ (by with_unfolding_all rfl) (by with_unfolding_all first | exact .inl rfl | exact .inr rfl)
  | with_reducible refine dsx_set (x := "_law_town_here") 1 (by with_unfolding_all exact sc__law_bar.nd) (by with_unfolding_all rfl) (by with_unfolding_all first | exact Or.inl rfl | exact Or.inr rfl) ?_ (by with_unfolding_all rfl) (by with_unfolding_all first | exact .inl rfl | exact .inr rfl)
  | with_reducible refine dsx_set (x := "_law_most") 2 (by with_unfolding_all exact sc__law_bar.nd) (by with_unfolding_all rfl) (by with_unfolding_all first | exact Or.inl rfl | exact Or.inr rfl) ?_ (by with_unfolding_all rfl) (by with_unfolding_all first | exact .inl rfl | exact .inr rfl)
  | with_reducible refine dsx_set (x := "_law_size") 3 (by with_unfolding_all exact sc__law_bar.nd) (by with_unfolding_all rfl) (by with_unfolding_all first | exact Or.inl rfl | exact Or.inr rfl) ?_ (by with_unfolding_all rfl) (by with_unfolding_all first | exact .inl rfl | exact .inr rfl)
  | with_reducible refine dsx_set (x := "_law_k") 4 (by with_unfolding_all exact sc__law_bar.nd) (by with_unfolding_all rfl) (by with_unfolding_all first | exact Or.inl rfl | exact Or.inr rfl) ?_ (by with_unfolding_all rfl) (by with_unfolding_all first | exact .inl rfl | exact .inr rfl)
  | with_reducible refine dsx_set (x := "_law_low") 5 (by with_unfolding_all exact sc__law_bar.nd) (by with_unfolding_all rfl) (by with_unfolding_all first | exact Or.inl rfl | exact Or.inr rfl) ?_ (by with_unfolding_all rfl) (by with_unfolding_all first | exact .inl rfl | exact .inr rfl)
  | with_reducible refine dsx_set (x := "_law_high") 6 (by with_unfolding_all exact sc__law_bar.nd) (by with_unfolding_all rfl) (by with_unfolding_all first | exact Or.inl rfl | exact Or.inr rfl) ?_ (by with_unfolding_all rfl) (by with_unfolding_all first | exact .inl rfl | exact .inr rfl)
  | with_reducible refine dsx_set (x := "_law_at") 7 (by with_unfolding_all exact sc__law_bar.nd) (by with_unfolding_all rfl) (by with_unfolding_all first | exact Or.inl rfl | exact Or.inr rfl) ?_ (by with_unfolding_all rfl) (by with_unfolding_all first | exact .inl rfl | exact .inr rfl))

local macro_rules | `(tactic| walk_at "lc _law_k") => `(tactic| refine de_lc (t := .name 4) (own := [("_law_k", 4)]) rfl sc__law_bar.nd (by first | exact blkOk_by (N := ["_law_script", "_law_town_here", "_law_most", "_law_size", "_law_k", "_law_low", "_law_high", "_law_at"]) (sc := defScope s__law_bar) (by decide +kernel) | exact blkOk_by (N := ["_law_script", "_law_town_here", "_law_most", "_law_size", "_law_k", "_law_low", "_law_high", "_law_at"]) (sc := relS _ (defScope s__law_bar)) (by decide +kernel)) (by decide) (fun _ _ _ _ _ => pgx_name sc__law_bar.nd rfl (by first | exact Or.inl rfl | exact Or.inr rfl)) ?_)

theorem kn_law_bar (D : HasDef K mg "_law_bar" s__law_bar ["_law_script", "_law_town_here", "_law_most"]) (B : Bl mg) (k1 : Knows P w K mg base 1 "_law_draw" cDraw) : Knows P w K mg base 2 "_law_bar" cBarL := by
  refine knows_mk D sc__law_bar (fun _ _ _ ⟨_, _, _, _, e, _⟩ => by rw [e]; rfl) (fun f cdv A outer s H E hr svs τ Q hC => ?_)
  obtain ⟨ns, tw, m, n, rfl, hns, hm1, hm2, hn, ht, q⟩ := hC
  walk_at "go"
  refine ⟨_, _, _, n, rfl, hns, by omega, by omega, by omega, ht, fun z τ1 z0 z1 e1 => ?_⟩
  have ht1 := e1.tn ht.dom
  walk_at "go"
  refine ⟨_, _, _, n + 1, rfl, hns, by omega, by omega, by omega, ht1, fun k2 τ2 a0 a1 e2 => ?_⟩
  have e2 := e1.trans e2
  have ht2 := e2.tn ht.dom
  walk_at "go"
  obtain ⟨z, rfl⟩ : ∃ j : Nat, z = (j : Int) := ⟨z.toNat, by omega⟩
  refine ⟨fun h => ?_, fun h => ?_⟩
  · walk_at "go"
    walk_at "lc _law_k"
    refine di_range1 ‹Bl _› rfl ?_
    walk_at "go"
    refine ⟨by omega, by omega, lcq_inv (fun i acc τ' => Twn tw ns.length (n + 2 + i) τ τ' ∧ ∃ b : List Int, acc = b.map .int ∧ b.length = i ∧ ∀ x ∈ b, 0 ≤ x ∧ x ≤ 6) ⟨e2.mono (by omega), [], rfl, rfl, by simp⟩ (by rw [rangeD_length]; omega) ?_ ?_ ?_⟩
    · rintro i acc τ' ⟨_, b, rfl, hb, _⟩
      rw [List.length_map, hb]
      exact Nat.le_refl _
    · rintro i d acc τ' hd hil ⟨e', b, rfl, hb, hv⟩ D hD
      rw [rangeD_length] at hil
      refine ⟨_, rfl, fun s H C cl fp => ?_⟩
      walk_at "go"
      have hdm : tw ∈ dom τ' := by rw [e'.dom]; exact ht.dom
      refine ⟨_, _, _, n + 2 + i, rfl, hns, by omega, by omega, by omega, (e'.tn ht.dom).push hD, fun k τ3 k0 k1 e3 => ?_⟩
      obtain ⟨τ4, rfl, e4⟩ := e3.pop hdm hD
      refine ⟨_, _, rfl, rfl, (e'.trans e4).mono (by omega), b ++ [k], by rw [List.map_append]; rfl, by rw [List.length_append, hb]; rfl, fun x hx => ?_⟩
      rcases List.mem_append.mp hx with hx | hx
      · exact hv x hx
      · have : x = k := by simpa using hx
        omega
    · rintro acc τ' ⟨e', b, rfl, hb, hv⟩
      rw [rangeD_length] at hb
      walk_at "go"
      exact q b τ' (by omega) (by omega) hv (e'.mono (by rw [rangeD_length]; omega))
  · walk_at "go"
    refine ds_asg (t := .tup [5, 6]) (pgx_tup2 rfl (pg_name sc__law_bar.nd rfl (Or.inr rfl)) (pg_name sc__law_bar.nd rfl (Or.inr rfl))) ?_
    walk_at "go"
    refine ⟨_, _, _, n + 2, rfl, hns, by omega, by omega, by omega, ht2.mono (by omega), fun lo τ3 lo0 lo1 e3 => ?_⟩
    have e3 := e2.trans e3
    have ht3 := e3.tn ht.dom
    walk_at "go"
    refine ⟨_, _, _, n + 3, rfl, hns, by omega, by omega, by omega, ht3.mono (by omega), fun hi τ4 hi0 hi1 e4 => ?_⟩
    have e4 := e3.trans e4
    have ht4 := e4.tn ht.dom
    walk_at "go"
    refine ⟨_, _, _, n + 4, rfl, hns, by omega, by omega, by omega, ht4.mono (by omega), fun at' τ5 at0 at1 e5 => ?_⟩
    have e5 := e4.trans e5
    walk_at "go"
    walk_at "lc _law_k"
    refine di_range1 ‹Bl _› rfl ?_
    walk_at "go"
    refine ⟨by omega, by omega, lcq_map (List.range (1 + (z : Int)).toNat) (fun i => .int (0 + (i : Nat))) (fun i => .int (max lo (3 + hi - 2 * min ((0 + (i : Nat) - at') % (1 + (z : Int))) ((at' - (0 + (i : Nat))) % (1 + (z : Int)))))) rfl (by rw [List.length_range]; omega) (fun i hi' => ⟨_, rfl, fun D acc hD s H C cl fp => ?_⟩) ?_⟩
    · walk_at "go"
      exact ⟨rfl, rfl⟩
    · walk_at "go"
      have e : (List.range (1 + (z : Int)).toNat).map (fun (i : Nat) => PyData.int (max lo (3 + hi - 2 * min ((0 + (i : Nat) - at') % (1 + (z : Int))) ((at' - (0 + (i : Nat))) % (1 + (z : Int)))))) = ((List.range (1 + (z : Int)).toNat).map fun (i : Nat) => max lo (3 + hi - 2 * min ((0 + (i : Nat) - at') % (1 + (z : Int))) ((at' - (0 + (i : Nat))) % (1 + (z : Int))))).map .int := by
        rw [List.map_map]
        rfl
      rw [e]
      refine q _ _ (by rw [List.length_map, List.length_range]; omega) (by rw [List.length_map, List.length_range]; omega) (fun x hx => ?_) (e5.mono (by omega))
      obtain ⟨i, _, rfl⟩ := List.mem_map.mp hx
      have a := (mod_rng (a := (0 + (i : Nat) - at')) (m := 1 + (z : Int)) (by omega)).1
      have b := (mod_rng (a := (at' - (0 + (i : Nat)))) (m := 1 + (z : Int)) (by omega)).1
      omega
def cChanL : Ctr := fun svs τ Q => ∃ ns tw, ∃ nb m : Nat, ∃ n, svs = [.scr ns, .hdl tw, .val (.int nb), .val (.int m)] ∧ ns.length ≤ 1000 ∧ 1 ≤ nb ∧ nb ≤ 3 ∧ 1 ≤ m ∧ m ≤ 8 ∧ n ≤ 999000 ∧ TnS tw ns.length n τ ∧
  ∀ c τ', ChOk c → c.bars.length ≤ nb → (∀ b ∈ c.bars, b.length ≤ m) → Twn tw ns.length (n + 50) τ τ' → Q (.val (chD c)) τ'
theorem map_append_one {α β : Type} {f : α → β} {xs : List α} {x : α} : xs.map f ++ [f x] = (xs ++ [x]).map f := by rw [List.map_append]; rfl
theorem all_append_one {α : Type} {p : α → Prop} {xs : List α} {x : α} (h : ∀ y ∈ xs, p y) (hx : p x) : ∀ y ∈ xs ++ [x], p y := fun y hy => by
  rcases List.mem_append.mp hy with hy | hy
  · exact h y hy
  · have : y = x := by simpa using hy
    rw [this]
    exact hx
abbrev s__law_channel : Stmt := topS 36
theorem sc__law_channel : FnScope ["_law_script", "_law_town_here", "_law_bars", "_law_most", "_law_size", "_law_some", "_law_k", "_law_legs"] ["_law_script", "_law_town_here", "_law_bars", "_law_most"] (defScope s__law_channel) := ⟨rfl, rfl, rfl, by decide +kernel, rfl, by decide +kernel, by decide +kernel⟩
local macro_rules | `(tactic| walk_at "nm") => `(tactic| first
  | with_reducible refine de_name (x := "_law_script") 0 (by with_unfolding_all rfl) (by with_unfolding_all first | exact Or.inl rfl | exact Or.inr (Or.inl rfl) | exact Or.inr (Or.inr rfl)) (by with_unfolding_all rfl) ?_ (by with_unfolding_all decide) (by with_unfolding_all decide)
  | with_reducible refine de_name (x := "_law_town_here") 1 (by with_unfolding_all rfl) (by with_unfolding_all first | exact Or.inl rfl | exact Or.inr (Or.inl rfl) | exact Or.inr (Or.inr rfl)) (by with_unfolding_all rfl) ?_ (by with_unfolding_all decide) (by with_unfolding_all decide)
  | with_reducible refine de_name (x := "_law_bars") 2 (by with_unfolding_all rfl) (by with_unfolding_all first | exact Or.inl rfl | exact Or.inr (Or.inl rfl) | exact Or.inr (Or.inr rfl)) (by with_unfolding_all rfl) ?_ (by with_unfolding_all decide) (by with_unfolding_all decide)
  | with_reducible refine de_name (x := "_law_most") 3 (by with_unfolding_all rfl) (by with_unfolding_all first | exact Or.inl rfl | exact Or.inr (Or.inl rfl) | exact Or.inr (Or.inr rfl)) (by with_unfolding_all rfl) ?_ (by with_unfolding_all decide) (by with_unfolding_all decide)
  | with_reducible refine de_name (x := "_law_size") 4 (by with_unfolding_all rfl) (by with_unfolding_all first | exact Or.inl rfl | exact Or.inr (Or.inl rfl) | exact Or.inr (Or.inr rfl)) (by with_unfolding_all rfl) ?_ (by with_unfolding_all decide) (by with_unfolding_all decide)
  | with_reducible refine de_name (x := "_law_some") 5 (by with_unfolding_all rfl) (by with_unfolding_all first | exact Or.inl rfl | exact Or.inr (Or.inl rfl) | exact Or.inr (Or.inr rfl)) (by with_unfolding_all rfl) ?_ (by with_unfolding_all decide) (by with_unfolding_all decide)
  | with_reducible refine de_name (x := "_law_k") 6 (by with_unfolding_all rfl) (by with_unfolding_all first | exact Or.inl rfl | exact Or.inr (Or.inl rfl) | exact Or.inr (Or.inr rfl)) (by with_unfolding_all rfl) ?_ (by with_unfolding_all decide) (by with_unfolding_all decide)
  | with_reducible refine de_name (x := "_law_legs") 7 (by with_unfolding_all rfl) (by with_unfolding_all first | exact Or.inl rfl | exact Or.inr (Or.inl rfl) | exact Or.inr (Or.inr rfl)) (by with_unfolding_all rfl) ?_ (by with_unfolding_all decide) (by with_unfolding_all decide))
local macro_rules | `(tactic| walk_at "st") => `(tactic| first
  | with_reducible refine ds_set (x := "_law_script") 0 (by with_unfolding_all exact sc__law_channel.nd) (by with_unfolding_all rfl) (by with_unfolding_all first | exact Or.inl rfl | exact Or.inr rfl) ?_ (by with_unfolding_all rfl) (by with_unfolding_all first | exact .inl rfl | exact .inr rfl)
  | with_reducible refine ds_set (x := "_law_town_here") 1 (by with_unfolding_all exact sc__law_channel.nd) (by with_unfolding_all rfl) (by with_unfolding_all first | exact Or.inl rfl | exact Or.inr rfl) ?_ (by with_unfolding_all rfl) (by with_unfolding_all first | exact .inl rfl | exact .inr rfl)
  | with_reducible refine ds_set (x := "_law_bars") 2 (by with_unfolding_all exact sc__law_channel.nd) (by with_unfolding_all rfl) (by with_unfolding_all first | exact Or.inl rfl | exact Or.inr rfl) ?_ (by with_unfolding_all rfl) (by with_unfolding_all first | exact .inl rfl | exact .inr rfl)
  | with_reducible refine ds_set (x := "_law_most") 3 (by with_unfolding_all exact sc__law_channel.nd) (by with_unfolding_all rfl) (by with_unfolding_all first | exact Or.inl rfl | exact Or.inr rfl) ?_ (by with_unfolding_all rfl) (by with_unfolding_all first | exact .inl rfl | exact .inr rfl)
  | with_reducible refine ds_set (x := "_law_size") 4 (by with_unfolding_all exact sc__law_channel.nd) (by with_unfolding_all rfl) (by with_unfolding_all first | exact Or.inl rfl | exact Or.inr rfl) ?_ (by with_unfolding_all rfl) (by with_unfolding_all first | exact .inl rfl | exact .inr rfl)
  | with_reducible refine ds_set (x := "_law_some") 5 (by with_unfolding_all exact sc__law_channel.nd) (by with_unfolding_all rfl) (by with_unfolding_all first | exact Or.inl rfl | exact Or.inr rfl) ?_ (by with_unfolding_all rfl) (by with_unfolding_all first | exact .inl rfl | exact .inr rfl)
  | with_reducible refine ds_set (x := "_law_k") 6 (by with_unfolding_all exact sc__law_channel.nd) (by with_unfolding_all rfl) (by with_unfolding_all first | exact Or.inl rfl | exact Or.inr rfl) ?_ (by with_unfolding_all rfl) (by with_unfolding_all first | exact .inl rfl | exact .inr rfl)
  | with_reducible refine ds_set (x := "_law_legs") 7 (by with_unfolding_all exact sc__law_channel.nd) (by with_unfolding_all rfl) (by with_unfolding_all first | exact Or.inl rfl | exact Or.inr rfl) ?_ (by with_unfolding_all rfl) (by with_unfolding_all first | exact .inl rfl | exact .inr rfl))
local macro_rules | `(tactic| walk_at "stx") => `(tactic| first
  | with_reducible refine dsx_set (x := "_law_script") 0 (by with_unfolding_all exact sc__law_channel.nd) (by with_unfolding_all rfl) (by with_unfolding_all first | exact Or.inl rfl | exact Or.inr rfl) ?_ (by with_unfolding_all rfl) (by with_unfolding_all first | exact .inl rfl | exact .inr rfl)
  | with_reducible refine dsx_set (x := "_law_town_here") 1 (by with_unfolding_all exact sc__law_channel.nd) (by with_unfolding_all rfl) (by with_unfolding_all first | exact Or.inl rfl | exact Or.inr rfl) ?_ (by with_unfolding_all rfl) (by with_unfolding_all first | exact .inl rfl | exact .inr rfl)
  | with_reducible refine dsx_set (x := "_law_bars") 2 (by with_unfolding_all exact sc__law_channel.nd) (by with_unfolding_all rfl) (by with_unfolding_all first | exact Or.inl rfl | exact Or.inr rfl) ?_ (by with_unfolding_all rfl) (by with_unfolding_all first | exact .inl rfl | exact .inr rfl)
  | with_reducible refine dsx_set (x := "_law_most") 3 (by with_unfolding_all exact sc__law_channel.nd) (by with_unfolding_all rfl) (by with_unfolding_all first | exact Or.inl rfl | exact Or.inr rfl) ?_ (by with_unfolding_all rfl) (by with_unfolding_all first | exact .inl rfl | exact .inr rfl)
  | with_reducible refine dsx_set (x := "_law_size") 4 (by with_unfolding_all exact sc__law_channel.nd) (by with_unfolding_all rfl) (by with_unfolding_all first | exact Or.inl rfl | exact Or.inr rfl) ?_ (by with_unfolding_all rfl) (by with_unfolding_all first | exact .inl rfl | exact .inr rfl)
  | with_reducible refine dsx_set (x := "_law_some") 5 (by with_unfolding_all exact sc__law_channel.nd) (by with_unfolding_all rfl) (by with_unfolding_all first | exact Or.inl rfl | exact Or.inr rfl) ?_ (by with_unfolding_all rfl) (by with_unfolding_all first | exact .inl rfl | exact .inr rfl)
  | with_reducible refine dsx_set (x := "_law_k") 6 (by with_unfolding_all exact sc__law_channel.nd) (by with_unfolding_all rfl) (by with_unfolding_all first | exact Or.inl rfl | exact Or.inr rfl) ?_ (by with_unfolding_all rfl) (by with_unfolding_all first | exact .inl rfl | exact .inr rfl)
  | with_reducible refine dsx_set (x := "_law_legs") 7 (by with_unfolding_all exact sc__law_channel.nd) (by with_unfolding_all rfl) (by with_unfolding_all first | exact Or.inl rfl | exact Or.inr rfl) ?_ (by with_unfolding_all rfl) (by with_unfolding_all first | exact .inl rfl | exact .inr rfl))

local macro_rules | `(tactic| walk_at "lc _law_k") => `(tactic| refine de_lc (t := .name 6) (own := [("_law_k", 6)]) rfl sc__law_channel.nd (by first | exact blkOk_by (N := ["_law_script", "_law_town_here", "_law_bars", "_law_most", "_law_size", "_law_some", "_law_k", "_law_legs"]) (sc := defScope s__law_channel) (by decide +kernel) | exact blkOk_by (N := ["_law_script", "_law_town_here", "_law_bars", "_law_most", "_law_size", "_law_some", "_law_k", "_law_legs"]) (sc := relS _ (defScope s__law_channel)) (by decide +kernel)) (by decide) (fun _ _ _ _ _ => pgx_name sc__law_channel.nd rfl (by first | exact Or.inl rfl | exact Or.inr rfl)) ?_)

theorem kn_law_channel (D : HasDef K mg "_law_channel" s__law_channel ["_law_script", "_law_town_here", "_law_bars", "_law_most"]) (B : Bl mg) (k1 : Knows P w K mg base 1 "_law_draw" cDraw) (k2 : Knows P w K mg base 2 "_law_pick" cPick) (k3 : Knows P w K mg base 2 "_law_bar" cBarL) : Knows P w K mg base 3 "_law_channel" cChanL := by
  refine knows_mk D sc__law_channel (fun _ _ _ ⟨_, _, _, _, _, e, _⟩ => by rw [e]; rfl) (fun f cdv A outer s H E hr svs τ Q hC => ?_)
  obtain ⟨ns, tw, nb, m, n, rfl, hns, hb1, hb2, hm1, hm2, hn, ht, q⟩ := hC
  walk_at "go"
  refine ⟨_, _, _, n, rfl, hns, by omega, by omega, by omega, ht, fun z τ1 z0 z1 e1 => ?_⟩
  have ht1 := e1.tn ht.dom
  obtain ⟨z, rfl⟩ : ∃ j : Nat, z = (j : Int) := ⟨z.toNat, by omega⟩
  walk_at "go"
  walk_at "lc _law_k"
  refine di_range1 ‹Bl _› rfl ?_
  walk_at "go"
  refine ⟨by omega, by omega, lcq_inv (fun i acc τ' => Twn tw ns.length (n + 1 + 10 * i) τ τ' ∧ ∃ b : List (List Int), acc = b.map tI ∧ b.length = i ∧ ∀ x ∈ b, (1 ≤ x.length ∧ x.length ≤ m) ∧ ∀ y ∈ x, 0 ≤ y ∧ y ≤ 6) ⟨e1.mono (by omega), [], rfl, rfl, by simp⟩ (by rw [rangeD_length]; omega) ?_ ?_ ?_⟩
  · rintro i acc τ' ⟨_, b, rfl, hb, _⟩
    rw [List.length_map, hb]
    exact Nat.le_refl _
  · rintro i d acc τ' hd hil ⟨e', b, rfl, hb, hv⟩ D hD
    rw [rangeD_length] at hil
    refine ⟨_, rfl, fun s H C cl fp => ?_⟩
    walk_at "go"
    have hdm : tw ∈ dom τ' := by rw [e'.dom]; exact ht.dom
    refine ⟨_, _, m, n + 1 + 10 * i, rfl, hns, hm1, hm2, by omega, (e'.tn ht.dom).push hD, fun b' τ3 l0 l1 lv e3 => ?_⟩
    obtain ⟨τ4, rfl, e4⟩ := e3.pop hdm hD
    exact ⟨_, _, rfl, rfl, (e'.trans e4).mono (by omega), b ++ [b'], map_append_one, by rw [List.length_append, hb]; rfl, all_append_one hv ⟨⟨l0, l1⟩, lv⟩⟩
  rintro acc τ2 ⟨e2, bars, rfl, hbl, hbv⟩
  rw [rangeD_length] at hbl e2
  have ht2 := e2.tn ht.dom
  walk_at "go"
  walk_at "lc _law_k"
  refine di_range1 ‹Bl _› rfl ?_
  walk_at "go"
  refine ⟨by omega, by omega, lcq_inv (fun i acc τ' => Twn tw ns.length (n + 31 + 2 * i) τ τ' ∧ ∃ b : List Int, acc = b.map .int ∧ b.length = i ∧ ∀ x ∈ b, 1 ≤ x ∧ x ≤ 9) ⟨e2.mono (by omega), [], rfl, rfl, by simp⟩ (by rw [rangeD_length]; omega) ?_ ?_ ?_⟩
  · rintro i acc τ' ⟨_, b, rfl, hb, _⟩
    rw [List.length_map, hb]
    exact Nat.le_refl _
  · rintro i d acc τ' hd hil ⟨e', b, rfl, hb, hv⟩ D hD
    rw [rangeD_length] at hil
    refine ⟨_, rfl, fun s H C cl fp => ?_⟩
    walk_at "go"
    have hdm : tw ∈ dom τ' := by rw [e'.dom]; exact ht.dom
    refine ⟨_, _, _, n + 31 + 2 * i, rfl, hns, by decide, by decide, by omega, (e'.tn ht.dom).push hD, fun d τ3 hd e3 => ?_⟩
    obtain ⟨τ4, rfl, e4⟩ := e3.pop hdm hD
    obtain ⟨lim, rfl, hlim⟩ : ∃ lim : Int, d = .int lim ∧ 1 ≤ lim ∧ lim ≤ 9 := by
      simp only [List.mem_cons, List.not_mem_nil, or_false] at hd
      rcases hd with rfl | rfl
      · exact ⟨2, rfl, by decide, by decide⟩
      · exact ⟨9, rfl, by decide, by decide⟩
    have hD4 : D ∉ dom τ4 := by rw [e4.dom]; exact hD
    have e5 := e'.trans e4
    walk_at "go"
    refine ⟨_, _, _, n + 31 + 2 * i + 1, rfl, hns, by omega, by omega, by omega, (e5.tn ht.dom).push hD4, fun k τ5 k0 k1 e6 => ?_⟩
    obtain ⟨τ6, rfl, e7⟩ := e6.pop (by rw [e5.dom]; exact ht.dom) hD4
    walk_at "go"
    exact ⟨(e5.trans e7).mono (by omega), b ++ [1 + k], map_append_one, by rw [List.length_append, hb]; rfl, all_append_one hv (by omega)⟩
  rintro acc τ3 ⟨e3, legs, rfl, hll, hlv⟩
  rw [rangeD_length] at hll e3
  walk_at "go"
  walk_at "lc _law_k"
  refine di_range1 ‹Bl _› rfl ?_
  walk_at "go"
  refine ⟨by omega, by omega, lcq_inv (fun i acc τ' => Twn tw ns.length (n + 40 + i) τ τ' ∧ ∃ b : List Int, acc = b.map .int ∧ b.length = i ∧ ∀ x ∈ b, 0 ≤ x ∧ x ≤ 3) ⟨e3.mono (by omega), [], rfl, rfl, by simp⟩ (by rw [rangeD_length]; omega) ?_ ?_ ?_⟩
  · rintro i acc τ' ⟨_, b, rfl, hb, _⟩
    rw [List.length_map, hb]
    exact Nat.le_refl _
  · rintro i d acc τ' hd hil ⟨e', b, rfl, hb, hv⟩ D hD
    rw [rangeD_length] at hil
    refine ⟨_, rfl, fun s H C cl fp => ?_⟩
    walk_at "go"
    have hdm : tw ∈ dom τ' := by rw [e'.dom]; exact ht.dom
    refine ⟨_, _, _, n + 40 + i, rfl, hns, by omega, by omega, by omega, (e'.tn ht.dom).push hD, fun k τ3 k0 k1 e3 => ?_⟩
    obtain ⟨τ4, rfl, e4⟩ := e3.pop hdm hD
    exact ⟨_, _, rfl, rfl, (e'.trans e4).mono (by omega), b ++ [k], map_append_one, by rw [List.length_append, hb]; rfl, all_append_one hv (by omega)⟩
  rintro acc τ4 ⟨e4, waits, rfl, hwl, hwv⟩
  rw [rangeD_length] at hwl e4
  walk_at "go"
  refine q ⟨bars, legs, waits⟩ τ4 ⟨?_, ?_, ?_, ?_, ?_, ?_, ?_, ?_⟩ ?_ ?_ (e4.mono (by omega))
  · show 1 ≤ bars.length
    omega
  · show bars.length ≤ 3
    omega
  · intro b hb
    have := (hbv b hb).1
    omega
  · intro b hb
    exact (hbv b hb).2
  · show legs.length = bars.length - 1
    omega
  · exact hlv
  · show waits.length = bars.length - 1
    omega
  · exact hwv
  · show bars.length ≤ nb
    omega
  · intro b hb
    exact (hbv b hb).1.2
end

/-! ### outcomes -/
abbrev errNames : List Str := ["InvalidChannel", "InvalidDraught", "InvalidHour", "InvalidBar", "InvalidStay", "InvalidDigging", "InvalidAim", "InvalidGap", "InvalidEnd", "InvalidSeen", "InvalidText", "NoPassage", "Taken", "TooMany", "NothingToUndo"]
abbrev errShort : List Str := ["channel", "draught", "hour", "bar", "stay", "digging", "aim", "gap", "end", "seen", "text", "none", "taken", "many", "undo"]
theorem nms_cons {mg : Str → Option Value} {x : Str} {xs : List Str} {cs : List Addr} (h : Nms mg (x :: xs) cs) : ∃ C cs', cs = C :: cs' ∧ mg x = some (.ref C) ∧ Nms mg xs cs' := by
  cases cs with
  | nil => exact h.elim
  | cons C cs => exact ⟨C, cs, rfl, h.1, h.2⟩
theorem nms_nil {mg : Str → Option Value} {cs : List Addr} (h : Nms mg [] cs) : cs = [] := by
  cases cs with
  | nil => rfl
  | cons C cs => exact h.elim
def errBs (n : Nat) : List PyData := (List.range 15).map fun i => .bool (decide (i = n))
theorem errBs_count : ∀ n, n < 15 → (errBs n).countP (fun z => PyData.eqv z (.bool true)) = 1 := by decide +kernel
theorem errBs_at : ∀ n, n < 15 → ∃ z, (errBs n)[n]? = some z ∧ PyData.eqv z (.bool true) = true ∧ ∀ m z', m < n → (errBs n)[m]? = some z' → PyData.eqv z' (.bool true) = false := by
  intro n hn
  refine ⟨.bool true, ?_, by decide +kernel, fun m z' hm e => ?_⟩
  · unfold errBs
    rw [List.getElem?_map, List.getElem?_range hn]
    simp
  · unfold errBs at e
    rw [List.getElem?_map, List.getElem?_range (by omega)] at e
    cases e
    show PyData.eqv (.bool (decide (m = n))) (.bool true) = false
    rw [decide_eq_false (by omega)]
    decide +kernel
theorem errBs_shaped : ∀ n, n < 15 → SeqAt.shaped (.list (errBs n)) = true := by decide +kernel
theorem short_shaped : ∀ n, n < 15 → SeqAt.shaped (.str (errShort.getD n "")) = true := by decide +kernel
def shortD : List PyData := errShort.map .str
theorem short_at : ∀ n, n < 15 → ∃ z, shortD[n]? = some z ∧ PyData.eqv z (.str (errShort.getD n "")) = true ∧ ∀ m z', m < n → shortD[m]? = some z' → PyData.eqv z' (.str (errShort.getD n "")) = false := by
  have h : ∀ n, n < 15 → ∃ z, shortD[n]? = some z ∧ PyData.eqv z (.str (errShort.getD n "")) = true := by
    intro n hn
    refine ⟨.str (errShort.getD n ""), ?_, ?_⟩
    · unfold shortD
      rw [List.getElem?_map, List.getElem?_eq_getElem (show n < errShort.length from hn), List.getD_eq_getElem?_getD, List.getElem?_eq_getElem (show n < errShort.length from hn)]
      rfl
    · revert n; decide +kernel
  intro n hn
  obtain ⟨z, h1, h2⟩ := h n hn
  refine ⟨z, h1, h2, fun m z' hm e => ?_⟩
  have g : ∀ n, n < 15 → ∀ m, m < n → (match shortD[m]? with | some z' => PyData.eqv z' (.str (errShort.getD n "")) | none => false) = false := by decide +kernel
  have := g n hn m hm
  rw [e] at this
  exact this
abbrev raisedD (n : Nat) : PyData := .tuple [.str "raised", .int (n : Nat)]
abbrev returnedD (d : PyData) : PyData := .tuple [.str "returned", d]
section
variable {P : Program} {w : World} {K : PySem.W.Frag} {mg : Str → Option Value} {base : Heap} {T : Addr} {cs : List Addr}
def cRaises : Ctr := fun svs τ Q => ∃ n, n < 15 ∧ svs = [.val (.str (errShort.getD n ""))] ∧ Q (.val (raisedD n)) τ
abbrev s__law_raises : Stmt := topS 34
theorem sc__law_raises : FnScope ["_law_name_here", "_law_names"] ["_law_name_here"] (defScope s__law_raises) := ⟨rfl, rfl, rfl, by decide +kernel, rfl, by decide +kernel, by decide +kernel⟩
local macro_rules | `(tactic| walk_at "nm") => `(tactic| first
  | with_reducible refine de_name (x := "_law_name_here") 0 (by with_unfolding_all rfl) (by with_unfolding_all first | exact Or.inl rfl | exact Or.inr (Or.inl rfl) | exact Or.inr (Or.inr rfl)) (by with_unfolding_all rfl) ?_ (by with_unfolding_all decide) (by with_unfolding_all decide)
  | with_reducible refine de_name (x := "_law_names") 1 (by with_unfolding_all rfl) (by with_unfolding_all first | exact Or.inl rfl | exact Or.inr (Or.inl rfl) | exact Or.inr (Or.inr rfl)) (by with_unfolding_all rfl) ?_ (by with_unfolding_all decide) (by with_unfolding_all decide))
local macro_rules | `(tactic| walk_at "st") => `(tactic| first
  | with_reducible refine ds_set (x := "_law_name_here") 0 (by with_unfolding_all exact sc__law_raises.nd) (by with_unfolding_all rfl) (by with_unfolding_all first | exact Or.inl rfl | exact Or.inr rfl) ?_ (by with_unfolding_all rfl) (by with_unfolding_all first | exact .inl rfl | exact .inr rfl)
  | with_reducible refine ds_set (x := "_law_names") 1 (by with_unfolding_all exact sc__law_raises.nd) (by with_unfolding_all rfl) (by with_unfolding_all first | exact Or.inl rfl | exact Or.inr rfl) ?_ (by with_unfolding_all rfl) (by with_unfolding_all first | exact .inl rfl | exact .inr rfl))
local macro_rules | `(tactic| walk_at "stx") => `(tactic| first
  | with_reducible refine dsx_set (x := "_law_name_here") 0 (by with_unfolding_all exact sc__law_raises.nd) (by with_unfolding_all rfl) (by with_unfolding_all first | exact Or.inl rfl | exact Or.inr rfl) ?_ (by with_unfolding_all rfl) (by with_unfolding_all first | exact .inl rfl | exact .inr rfl)
  | with_reducible refine dsx_set (x := "_law_names") 1 (by with_unfolding_all exact sc__law_raises.nd) (by with_unfolding_all rfl) (by with_unfolding_all first | exact Or.inl rfl | exact Or.inr rfl) ?_ (by with_unfolding_all rfl) (by with_unfolding_all first | exact .inl rfl | exact .inr rfl))



theorem kn_law_raises (D : HasDef K mg "_law_raises" s__law_raises ["_law_name_here"]) (B : Bl mg) : Knows P w K mg base 1 "_law_raises" cRaises := by
  refine knows_mk D sc__law_raises (fun _ _ _ ⟨_, _, e, _⟩ => by rw [e]; rfl) (fun f cdv A outer s H E hr svs τ Q hC => ?_)
  obtain ⟨n, hn, rfl, q⟩ := hC
  obtain ⟨z, h1, h2, h3⟩ := short_at n hn
  walk_at "go"
  refine plus_lst rfl rfl (by decide) ?_
  walk_at "go"
  refine de_index (Room.units65 ‹Room _ _›) ?_
  walk_at "go"
  refine ⟨_, n, z, rfl, by decide +kernel, short_shaped n hn, h1, h2, h3, ?_⟩
  walk_at "go"
  exact q
def cName (K : PySem.W.Frag) (T : Addr) (cs : List Addr) : Ctr := fun svs τ Q => ∃ a cls n, svs = [.hdl a] ∧ τ.lookup a = some (.exc cls) ∧ ErrNo K T cs cls n ∧ Q (.val (.int (n : Nat))) τ
abbrev s__law_name : Stmt := topS 33
theorem sc__law_name : FnScope ["_law_caught", "_law_found"] ["_law_caught"] (defScope s__law_name) := ⟨rfl, rfl, rfl, by decide +kernel, rfl, by decide +kernel, by decide +kernel⟩
local macro_rules | `(tactic| walk_at "nm") => `(tactic| first
  | with_reducible refine de_name (x := "_law_caught") 0 (by with_unfolding_all rfl) (by with_unfolding_all first | exact Or.inl rfl | exact Or.inr (Or.inl rfl) | exact Or.inr (Or.inr rfl)) (by with_unfolding_all rfl) ?_ (by with_unfolding_all decide) (by with_unfolding_all decide)
  | with_reducible refine de_name (x := "_law_found") 1 (by with_unfolding_all rfl) (by with_unfolding_all first | exact Or.inl rfl | exact Or.inr (Or.inl rfl) | exact Or.inr (Or.inr rfl)) (by with_unfolding_all rfl) ?_ (by with_unfolding_all decide) (by with_unfolding_all decide))
local macro_rules | `(tactic| walk_at "st") => `(tactic| first
  | with_reducible refine ds_set (x := "_law_caught") 0 (by with_unfolding_all exact sc__law_name.nd) (by with_unfolding_all rfl) (by with_unfolding_all first | exact Or.inl rfl | exact Or.inr rfl) ?_ (by with_unfolding_all rfl) (by with_unfolding_all first | exact .inl rfl | exact .inr rfl)
  | with_reducible refine ds_set (x := "_law_found") 1 (by with_unfolding_all exact sc__law_name.nd) (by with_unfolding_all rfl) (by with_unfolding_all first | exact Or.inl rfl | exact Or.inr rfl) ?_ (by with_unfolding_all rfl) (by with_unfolding_all first | exact .inl rfl | exact .inr rfl))
local macro_rules | `(tactic| walk_at "stx") => `(tactic| first
  | with_reducible refine dsx_set (x := "_law_caught") 0 (by with_unfolding_all exact sc__law_name.nd) (by with_unfolding_all rfl) (by with_unfolding_all first | exact Or.inl rfl | exact Or.inr rfl) ?_ (by with_unfolding_all rfl) (by with_unfolding_all first | exact .inl rfl | exact .inr rfl)
  | with_reducible refine dsx_set (x := "_law_found") 1 (by with_unfolding_all exact sc__law_name.nd) (by with_unfolding_all rfl) (by with_unfolding_all first | exact Or.inl rfl | exact Or.inr rfl) ?_ (by with_unfolding_all rfl) (by with_unfolding_all first | exact .inl rfl | exact .inr rfl))



theorem kn_law_name (D : HasDef K mg "_law_name" s__law_name ["_law_caught"]) (B : Bl mg) (N : Nms mg errNames cs) : Knows P w K mg base 1 "_law_name" (cName K T cs) := by
  refine knows_mk D sc__law_name (fun _ _ _ ⟨_, _, _, e, _⟩ => by rw [e]; rfl) (fun f cdv A outer s H E hr svs τ Q hC => ?_)
  obtain ⟨a, cls, n, rfl, ha, ⟨C, rfl, hx, _, hv, hn, hi⟩, q⟩ := hC
  obtain ⟨c0, cs, rfl, n0, N⟩ := nms_cons N
  obtain ⟨c1, cs, rfl, n1, N⟩ := nms_cons N
  obtain ⟨c2, cs, rfl, n2, N⟩ := nms_cons N
  obtain ⟨c3, cs, rfl, n3, N⟩ := nms_cons N
  obtain ⟨c4, cs, rfl, n4, N⟩ := nms_cons N
  obtain ⟨c5, cs, rfl, n5, N⟩ := nms_cons N
  obtain ⟨c6, cs, rfl, n6, N⟩ := nms_cons N
  obtain ⟨c7, cs, rfl, n7, N⟩ := nms_cons N
  obtain ⟨c8, cs, rfl, n8, N⟩ := nms_cons N
  obtain ⟨c9, cs, rfl, n9, N⟩ := nms_cons N
  obtain ⟨c10, cs, rfl, n10, N⟩ := nms_cons N
  obtain ⟨c11, cs, rfl, n11, N⟩ := nms_cons N
  obtain ⟨c12, cs, rfl, n12, N⟩ := nms_cons N
  obtain ⟨c13, cs, rfl, n13, N⟩ := nms_cons N
  obtain ⟨c14, cs, rfl, n14, N⟩ := nms_cons N
  cases nms_nil N
  have hn : n < 15 := hn
  walk_at "go"
  refine de_isiXB (nm := "ValueError") ‹Bl _› rfl rfl B.h_ValueError (by decide +kernel) ?_
  walk_at "go"
  refine ⟨_, _, _, rfl, ha, hx, hv, ?_⟩
  walk_at "go"
  refine de_isiX ‹Bl _› rfl rfl n0 ?_
  walk_at "go"
  refine ⟨_, _, _, rfl, ha, hx, hi 0 _ rfl, ?_⟩
  walk_at "go"
  refine de_isiX ‹Bl _› rfl rfl n1 ?_
  walk_at "go"
  refine ⟨_, _, _, rfl, ha, hx, hi 1 _ rfl, ?_⟩
  walk_at "go"
  refine de_isiX ‹Bl _› rfl rfl n2 ?_
  walk_at "go"
  refine ⟨_, _, _, rfl, ha, hx, hi 2 _ rfl, ?_⟩
  walk_at "go"
  refine de_isiX ‹Bl _› rfl rfl n3 ?_
  walk_at "go"
  refine ⟨_, _, _, rfl, ha, hx, hi 3 _ rfl, ?_⟩
  walk_at "go"
  refine plus_lst rfl rfl (by simp) ?_
  walk_at "go"
  refine de_isiX ‹Bl _› rfl rfl n4 ?_
  walk_at "go"
  refine ⟨_, _, _, rfl, ha, hx, hi 4 _ rfl, ?_⟩
  walk_at "go"
  refine de_isiX ‹Bl _› rfl rfl n5 ?_
  walk_at "go"
  refine ⟨_, _, _, rfl, ha, hx, hi 5 _ rfl, ?_⟩
  walk_at "go"
  refine plus_lst rfl rfl (by simp) ?_
  walk_at "go"
  refine de_isiX ‹Bl _› rfl rfl n6 ?_
  walk_at "go"
  refine ⟨_, _, _, rfl, ha, hx, hi 6 _ rfl, ?_⟩
  walk_at "go"
  refine de_isiX ‹Bl _› rfl rfl n7 ?_
  walk_at "go"
  refine ⟨_, _, _, rfl, ha, hx, hi 7 _ rfl, ?_⟩
  walk_at "go"
  refine plus_lst rfl rfl (by simp) ?_
  walk_at "go"
  refine de_isiX ‹Bl _› rfl rfl n8 ?_
  walk_at "go"
  refine ⟨_, _, _, rfl, ha, hx, hi 8 _ rfl, ?_⟩
  walk_at "go"
  refine de_isiX ‹Bl _› rfl rfl n9 ?_
  walk_at "go"
  refine ⟨_, _, _, rfl, ha, hx, hi 9 _ rfl, ?_⟩
  walk_at "go"
  refine plus_lst rfl rfl (by simp) ?_
  walk_at "go"
  refine de_isiX ‹Bl _› rfl rfl n10 ?_
  walk_at "go"
  refine ⟨_, _, _, rfl, ha, hx, hi 10 _ rfl, ?_⟩
  walk_at "go"
  refine de_isiX ‹Bl _› rfl rfl n11 ?_
  walk_at "go"
  refine ⟨_, _, _, rfl, ha, hx, hi 11 _ rfl, ?_⟩
  walk_at "go"
  refine plus_lst rfl rfl (by simp) ?_
  walk_at "go"
  refine de_isiX ‹Bl _› rfl rfl n12 ?_
  walk_at "go"
  refine ⟨_, _, _, rfl, ha, hx, hi 12 _ rfl, ?_⟩
  walk_at "go"
  refine de_isiX ‹Bl _› rfl rfl n13 ?_
  walk_at "go"
  refine ⟨_, _, _, rfl, ha, hx, hi 13 _ rfl, ?_⟩
  walk_at "go"
  refine plus_lst rfl rfl (by simp) ?_
  walk_at "go"
  refine de_isiX ‹Bl _› rfl rfl n14 ?_
  walk_at "go"
  refine ⟨_, _, _, rfl, ha, hx, hi 14 _ rfl, ?_⟩
  walk_at "go"
  refine plus_lst rfl rfl (by simp) ?_
  walk_at "go"
  show De _ [some (.hdl a), some (.val (.list (errBs n)))] τ _ _
  refine de_count (Room.units65 ‹Room _ _›) ?_
  walk_at "go"
  refine ⟨errBs_shaped n hn, rfl, ?_⟩
  rw [errBs_count n hn]
  walk_at "go"
  obtain ⟨z, h1, h2, h3⟩ := errBs_at n hn
  refine de_index (Room.units65 ‹Room _ _›) ?_
  walk_at "go"
  exact ⟨_, n, z, rfl, errBs_shaped n hn, rfl, h1, h2, h3, q⟩
/-- the outcome of a call that keeps C -/
def cOut (K : PySem.W.Frag) (T : Addr) (cs : List Addr) (Ct : CtrX) : Ctr := fun svs τ Q => (∃ k ar, svs = [k, ar]) ∧ Ct svs τ (fun sv τ' => ∃ d, sv = .val d ∧ Q (.val (returnedD d)) τ') (fun cls τ' => ∃ n, ErrNo K T cs cls n ∧ Q (.val (raisedD n)) τ')
abbrev s__law_outcome : Stmt := topS 32
theorem sc__law_outcome : FnScope ["_law_way", "_law_arguments", "_law_caught", "_law_result", "error"] ["_law_way", "_law_arguments"] (defScope s__law_outcome) := ⟨rfl, rfl, rfl, by decide +kernel, rfl, by decide +kernel, by decide +kernel⟩
local macro_rules | `(tactic| walk_at "nm") => `(tactic| first
  | with_reducible refine de_name (x := "_law_way") 0 (by with_unfolding_all rfl) (by with_unfolding_all first | exact Or.inl rfl | exact Or.inr (Or.inl rfl) | exact Or.inr (Or.inr rfl)) (by with_unfolding_all rfl) ?_ (by with_unfolding_all decide) (by with_unfolding_all decide)
  | with_reducible refine de_name (x := "_law_arguments") 1 (by with_unfolding_all rfl) (by with_unfolding_all first | exact Or.inl rfl | exact Or.inr (Or.inl rfl) | exact Or.inr (Or.inr rfl)) (by with_unfolding_all rfl) ?_ (by with_unfolding_all decide) (by with_unfolding_all decide)
  | with_reducible refine de_name (x := "_law_caught") 2 (by with_unfolding_all rfl) (by with_unfolding_all first | exact Or.inl rfl | exact Or.inr (Or.inl rfl) | exact Or.inr (Or.inr rfl)) (by with_unfolding_all rfl) ?_ (by with_unfolding_all decide) (by with_unfolding_all decide)
  | with_reducible refine de_name (x := "_law_result") 3 (by with_unfolding_all rfl) (by with_unfolding_all first | exact Or.inl rfl | exact Or.inr (Or.inl rfl) | exact Or.inr (Or.inr rfl)) (by with_unfolding_all rfl) ?_ (by with_unfolding_all decide) (by with_unfolding_all decide)
  | with_reducible refine de_name (x := "error") 4 (by with_unfolding_all rfl) (by with_unfolding_all first | exact Or.inl rfl | exact Or.inr (Or.inl rfl) | exact Or.inr (Or.inr rfl)) (by with_unfolding_all rfl) ?_ (by with_unfolding_all decide) (by with_unfolding_all decide))
local macro_rules | `(tactic| walk_at "st") => `(tactic| first
  | with_reducible refine ds_set (x := "_law_way") 0 (by with_unfolding_all exact sc__law_outcome.nd) (by with_unfolding_all rfl) (by with_unfolding_all first | exact Or.inl rfl | exact Or.inr rfl) ?_ (by with_unfolding_all rfl) (by with_unfolding_all first | exact .inl rfl | exact .inr rfl)
  | with_reducible refine ds_set (x := "_law_arguments") 1 (by with_unfolding_all exact sc__law_outcome.nd) (by with_unfolding_all rfl) (by with_unfolding_all first | exact Or.inl rfl | exact Or.inr rfl) ?_ (by with_unfolding_all rfl) (by with_unfolding_all first | exact .inl rfl | exact .inr rfl)
  | with_reducible refine ds_set (x := "_law_caught") 2 (by with_unfolding_all exact sc__law_outcome.nd) (by with_unfolding_all rfl) (by with_unfolding_all first | exact Or.inl rfl | exact Or.inr rfl) ?_ (by with_unfolding_all rfl) (by with_unfolding_all first | exact .inl rfl | exact .inr rfl)
  | with_reducible refine ds_set (x := "_law_result") 3 (by with_unfolding_all exact sc__law_outcome.nd) (by with_unfolding_all rfl) (by with_unfolding_all first | exact Or.inl rfl | exact Or.inr rfl) ?_ (by with_unfolding_all rfl) (by with_unfolding_all first | exact .inl rfl | exact .inr rfl)
  | with_reducible refine ds_set (x := "error") 4 (by with_unfolding_all exact sc__law_outcome.nd) (by with_unfolding_all rfl) (by with_unfolding_all first | exact Or.inl rfl | exact Or.inr rfl) ?_ (by with_unfolding_all rfl) (by with_unfolding_all first | exact .inl rfl | exact .inr rfl))
local macro_rules | `(tactic| walk_at "stx") => `(tactic| first
  | with_reducible refine dsx_set (x := "_law_way") 0 (by with_unfolding_all exact sc__law_outcome.nd) (by with_unfolding_all rfl) (by with_unfolding_all first | exact Or.inl rfl | exact Or.inr rfl) ?_ (by with_unfolding_all rfl) (by with_unfolding_all first | exact .inl rfl | exact .inr rfl)
  | with_reducible refine dsx_set (x := "_law_arguments") 1 (by with_unfolding_all exact sc__law_outcome.nd) (by with_unfolding_all rfl) (by with_unfolding_all first | exact Or.inl rfl | exact Or.inr rfl) ?_ (by with_unfolding_all rfl) (by with_unfolding_all first | exact .inl rfl | exact .inr rfl)
  | with_reducible refine dsx_set (x := "_law_caught") 2 (by with_unfolding_all exact sc__law_outcome.nd) (by with_unfolding_all rfl) (by with_unfolding_all first | exact Or.inl rfl | exact Or.inr rfl) ?_ (by with_unfolding_all rfl) (by with_unfolding_all first | exact .inl rfl | exact .inr rfl)
  | with_reducible refine dsx_set (x := "_law_result") 3 (by with_unfolding_all exact sc__law_outcome.nd) (by with_unfolding_all rfl) (by with_unfolding_all first | exact Or.inl rfl | exact Or.inr rfl) ?_ (by with_unfolding_all rfl) (by with_unfolding_all first | exact .inl rfl | exact .inr rfl)
  | with_reducible refine dsx_set (x := "error") 4 (by with_unfolding_all exact sc__law_outcome.nd) (by with_unfolding_all rfl) (by with_unfolding_all first | exact Or.inl rfl | exact Or.inr rfl) ?_ (by with_unfolding_all rfl) (by with_unfolding_all first | exact .inl rfl | exact .inr rfl))



theorem kn_law_outcome {Ct : CtrX} (D : HasDef K mg "_law_outcome" s__law_outcome ["_law_way", "_law_arguments"]) (B : Bl mg) (nT : mg "TideError" = some (.ref T)) (k1 : Knows P w K mg base 1 "_law_name" (cName K T cs)) (x1 : KnowsX P w K mg base 8 "_law_call" Ct) : Knows P w K mg base 9 "_law_outcome" (cOut K T cs Ct) := by
  refine knows_mk D sc__law_outcome (fun _ _ _ ⟨⟨_, _, e⟩, _⟩ => by rw [e]; rfl) (fun f cdv A outer s H E hr svs τ Q hC => ?_)
  obtain ⟨⟨k, ar, rfl⟩, hC⟩ := hC
  walk_at "go"
  refine (ds_try (x := "TideError") (n := "error") (y := "_law_caught") (c := .ref T) (i := 4) (j := 2) rfl rfl sc__law_outcome.nd rfl rfl rfl (Or.inl rfl) (Or.inl rfl) ⟨rfl, by decide, .inl nT⟩ rfl fun pn xe po => ?_)
  walk_at "dbx"
  walk_at "stx"
  refine dex_callM x1 ‹Room _ _› rfl ?_
  walk_at "go"
  refine ⟨_, _, hC, fun sv τ' ⟨d, e, q⟩ => ?_, fun cls τ' ⟨n, hn, q⟩ => ?_⟩
  · subst e
    walk_at "go"
    exact q
  · have hn' := hn
    obtain ⟨C, rfl, hx, ht, hv, hn, hi⟩ := hn
    refine ⟨ht, (show (4 : Nat) < 5 by decide), fun a ha => ?_⟩
    walk_at "go"
    refine is_noneX ?_
    walk_at "gb"
    refine db_nil ?_
    refine db_one (ds_ret ?_)
    refine de_left ?_
    walk_at "go"
    refine ⟨a, _, n, rfl, by simp, hn', ?_⟩
    walk_at "go"
    exact ⟨_, _, rfl, q⟩
end

/-! ### channels as texts -/
open TL PySem.StrLaws
def dgS (x : Int) : Str := ((toString x : String) : Str)
def barT (b : List Int) : Str := Txt.join ("" : Str) (b.map dgS)
def legW (l w : Int) : Str := dgS l ++ ("+" : Str) ++ dgS w
def gapT (l w : Int) : Str := Str.empty ++ (" " : Str) ++ dgS l ++ ("+" : Str) ++ dgS w ++ (" " : Str)
def addT (acc : Str) (p : List Int × Int × Int) : Str := acc ++ gapT p.2.1 p.2.2 ++ barT p.1
def chRows (c : Chan) : List (List Int × Int × Int) := c.bars.tail.zip (c.legs.zip c.waits)
def chText (c : Chan) : Str := (chRows c).foldl addT (barT (c.bars.headD []))
theorem dg_tl {x : Int} (h0 : 0 ≤ x) (h1 : x ≤ 9) : tl (dgS x) = [48 + x.toNat] := by
  obtain ⟨n, rfl⟩ := Int.eq_ofNat_of_zero_le h0
  have e : tl (dgS (n : Nat)) = numL n := tl_num n
  rw [e, numL_lt (by omega)]
  rfl
theorem joinL_nil : ∀ ps : List (List Nat), joinL [] ps = ps.flatten
  | [] => rfl
  | [p] => by simp [joinL]
  | p :: q :: ps => by
    have := joinL_nil (q :: ps)
    simp only [joinL, List.append_nil, List.nil_append] at this ⊢
    rw [this]
    rfl
theorem bar_tl {b : List Int} (h : ∀ x ∈ b, 0 ≤ x ∧ x ≤ 6) : tl (barT b) = b.map fun x => 48 + x.toNat := by
  unfold barT
  rw [join_eq, tl_join, List.map_map, show tl ("" : Str) = [] from by decide +kernel, joinL_nil]
  induction b with
  | nil => rfl
  | cons x b ih =>
    have hx := h x (by simp)
    rw [List.map_cons, List.flatten_cons, ih fun y hy => h y (by simp [hy])]
    show tl (dgS x) ++ _ = _
    rw [dg_tl hx.1 (by omega)]
    rfl
theorem plus_tl : tl ("+" : Str) = [43] := by decide +kernel
theorem gap_tl1 : tl (" " : Str) = [32] := by decide +kernel
theorem leg_tl {l w : Int} (h0 : 1 ≤ l) (h1 : l ≤ 9) (h2 : 0 ≤ w) (h3 : w ≤ 3) : tl (legW l w) = [48 + l.toNat, 43, 48 + w.toNat] := by
  unfold legW
  rw [tl_append, tl_append, dg_tl (by omega) h1, dg_tl h2 (by omega), plus_tl]
  rfl
theorem gap_tl {l w : Int} (h0 : 1 ≤ l) (h1 : l ≤ 9) (h2 : 0 ≤ w) (h3 : w ≤ 3) : tl (gapT l w) = 32 :: tl (legW l w) ++ [32] := by
  rw [leg_tl h0 h1 h2 h3]
  unfold gapT
  simp only [tl_append]
  rw [dg_tl (by omega) h1, dg_tl h2 (by omega), plus_tl, gap_tl1]
  rfl
theorem len_dg {x : Int} (h0 : 0 ≤ x) (h1 : x ≤ 9) : (dgS x).length = 1 := by rw [len_tl, dg_tl h0 h1]; rfl
theorem len_gap {l w : Int} (h0 : 1 ≤ l) (h1 : l ≤ 9) (h2 : 0 ≤ w) (h3 : w ≤ 3) : (gapT l w).length = 5 := by rw [len_tl, gap_tl h0 h1 h2 h3, leg_tl h0 h1 h2 h3]; rfl
theorem len_bar {b : List Int} (h : ∀ x ∈ b, 0 ≤ x ∧ x ≤ 6) : (barT b).length = b.length := by rw [len_tl, bar_tl h, List.length_map]
theorem ChOk.row {c : Chan} (h : ChOk c) {p : List Int × Int × Int} (hp : p ∈ chRows c) : (∀ x ∈ p.1, 0 ≤ x ∧ x ≤ 6) ∧ p.1.length ≤ 8 ∧ (1 ≤ p.2.1 ∧ p.2.1 ≤ 9) ∧ 0 ≤ p.2.2 ∧ p.2.2 ≤ 3 := by
  obtain ⟨b, l, w⟩ := p
  have h1 := List.of_mem_zip hp
  have h2 := List.of_mem_zip h1.2
  have hb : b ∈ c.bars := List.mem_of_mem_tail h1.1
  exact ⟨h.bv b hb, (h.bl b hb).2, h.lv l h2.1, h.wv w h2.2⟩
theorem len_add {c : Chan} (h : ChOk c) {p : List Int × Int × Int} (hp : p ∈ chRows c) (acc : Str) : (addT acc p).length ≤ acc.length + 13 := by
  obtain ⟨h1, h2, h3, h4⟩ := h.row hp
  unfold addT
  rw [Str.length_append, Str.length_append, len_gap h3.1 h3.2 h4.1 h4.2, len_bar h1]
  omega
theorem len_fold {c : Chan} (h : ChOk c) : ∀ (ps : List (List Int × Int × Int)) (acc : Str), (∀ p ∈ ps, p ∈ chRows c) → (ps.foldl addT acc).length ≤ acc.length + 13 * ps.length
  | [], acc, _ => Nat.le_refl _
  | p :: ps, acc, hp => by
    have h1 := len_fold h ps (addT acc p) fun q hq => hp q (by simp [hq])
    have h2 := len_add h (hp p (by simp)) acc
    rw [List.foldl_cons, List.length_cons]
    omega
theorem ChOk.rows {c : Chan} (h : ChOk c) : (chRows c).length = c.bars.length - 1 := by
  unfold chRows
  rw [List.length_zip, List.length_zip, List.length_tail, h.ll, h.wl]
  omega
theorem ChOk.head {c : Chan} (h : ChOk c) : c.bars.headD [] ∈ c.bars := by
  have := h.b1
  cases e : c.bars with
  | nil => rw [e] at this; exact absurd this (by decide)
  | cons b bs => exact List.mem_cons_self
theorem len_head {c : Chan} (h : ChOk c) : (barT (c.bars.headD [])).length ≤ 8 := by
  rw [len_bar (h.bv _ h.head)]
  exact (h.bl _ h.head).2
theorem len_ch {c : Chan} (h : ChOk c) : (chText c).length ≤ 34 := by
  have h1 := len_fold h (chRows c) (barT (c.bars.headD [])) fun p hp => hp
  have h2 := len_head h
  have h3 := h.rows
  have h4 := h.b3
  unfold chText
  omega
/-- the words of a channel's text -/
def wordsOf (c : Chan) : List Str := barT (c.bars.headD []) :: (chRows c).flatMap fun p => [legW p.2.1 p.2.2, barT p.1]
def lineOf (c : Chan) : Str := Txt.join (" " : Str) (wordsOf c)
theorem joinL_cons {S p : List Nat} {ps : List (List Nat)} (h : ps ≠ []) : joinL S (p :: ps) = p ++ (S ++ joinL S ps) := by
  cases ps with
  | nil => exact absurd rfl h
  | cons q qs => simp [joinL]
theorem join3 (a b c : List Nat) : ∀ qs : List (List Nat), joinL [32] ((a ++ ([32] ++ (b ++ ([32] ++ c)))) :: qs) = joinL [32] (a :: b :: c :: qs)
  | [] => by simp [joinL]
  | q :: qs => by simp [joinL]
theorem fold_tl {c : Chan} (h : ChOk c) : ∀ (ps : List (List Int × Int × Int)) (acc : Str), (∀ p ∈ ps, p ∈ chRows c) → tl (ps.foldl addT acc) = joinL [32] (tl acc :: (ps.flatMap fun p => [legW p.2.1 p.2.2, barT p.1]).map tl)
  | [], acc, _ => by simp [joinL]
  | p :: ps, acc, hp => by
    have ih := fold_tl h ps (addT acc p) fun q hq => hp q (by simp [hq])
    obtain ⟨h1, h2, h3, h4⟩ := h.row (hp p (by simp))
    rw [List.foldl_cons, ih]
    simp only [List.flatMap_cons, List.map_append, List.map_cons, List.map_nil, List.cons_append, List.nil_append]
    have e : tl (addT acc p) = tl acc ++ ([32] ++ (tl (legW p.2.1 p.2.2) ++ ([32] ++ tl (barT p.1)))) := by
      unfold addT
      rw [tl_append, tl_append, gap_tl h3.1 h3.2 h4.1 h4.2]
      simp
    rw [e]
    exact join3 _ _ _ _
theorem line_ch {c : Chan} (h : ChOk c) : lineOf c = chText c := by
  refine ext_tl ?_
  unfold lineOf wordsOf chText
  rw [join_eq, tl_join, gap_tl1, fold_tl h (chRows c) _ fun p hp => hp]
  rfl
theorem no_gap {c : Chan} (h : ChOk c) : ∀ p ∈ wordsOf c, 32 ∉ tl p := by
  intro p hp
  have bar : ∀ b : List Int, (∀ x ∈ b, 0 ≤ x ∧ x ≤ 6) → 32 ∉ tl (barT b) := fun b hb hm => by
    rw [bar_tl hb] at hm
    obtain ⟨x, _, e⟩ := List.mem_map.mp hm
    omega
  unfold wordsOf at hp
  rcases List.mem_cons.mp hp with e | e
  · rw [e]
    exact bar _ (h.bv _ h.head)
  · obtain ⟨q, hq, hm⟩ := List.mem_flatMap.mp e
    obtain ⟨h1, h2, h3, h4⟩ := h.row hq
    have hm' : p = legW q.2.1 q.2.2 ∨ p = barT q.1 := by simpa using hm
    rcases hm' with e | e
    · rw [e, leg_tl h3.1 h3.2 h4.1 h4.2]
      intro z
      have : (32 : Nat) = 48 + q.2.1.toNat ∨ 32 = 43 ∨ 32 = 48 + q.2.2.toNat := by simpa using z
      omega
    · rw [e]
      exact bar _ h1
theorem split_ch {c : Chan} (h : ChOk c) : Txt.split (chText c) (" " : Str) = wordsOf c := by
  rw [← line_ch h]
  unfold lineOf
  exact split_join (s := 32) (S := []) gap_tl1 (by decide +kernel) (by simp [wordsOf]) (no_gap h)
/-! ### reading -/
def digS : Str := "0123456789"
def numsOf (w : Str) : List Int := (tl w).map fun c => Txt.find digS ⟨#[c]⟩
def oddW (ws : List Str) : List Str := pickL (idxOf ws.length (some 1) none (some 2)) ws
def evenW (ws : List Str) : List Str := pickL (idxOf ws.length none none (some 2)) ws
def betOf (t : Str) : List (List Int) := (oddW (Txt.split t (" " : Str))).map fun w => numsOf (Txt.replace w ("+" : Str) ("" : Str))
def barsOf (t : Str) : List (List Int) := (evenW (Txt.split t (" " : Str))).map numsOf
def foundOf (t : Str) : Chan := ⟨barsOf t, (betOf t).map (·.getD 0 0), (betOf t).map (·.getD 1 0)⟩
def parseT (t : Str) : Option Chan := if (betOf t).all (fun p => decide (p.length = 2)) = true then (if isChannel (chD (foundOf t)) = true ∧ chText (foundOf t) = t then some (foundOf t) else none) else none
theorem find_dg : ∀ n, n < 10 → Txt.find digS ⟨#[48 + n]⟩ = (n : Int) := by decide +kernel
theorem nums_bar {b : List Int} (h : ∀ x ∈ b, 0 ≤ x ∧ x ≤ 6) : numsOf (barT b) = b := by
  unfold numsOf
  rw [bar_tl h, List.map_map]
  refine (List.map_congr_left fun x hx => ?_).trans (List.map_id b)
  have := h x hx
  show Txt.find digS ⟨#[48 + x.toNat]⟩ = x
  rw [find_dg _ (by omega)]
  omega
theorem strike : ∀ (l acc : List Nat), (spl [43] 0 acc l).flatten = acc ++ l.filter (· != 43)
  | [], acc => by rw [spl_nil]; simp
  | c :: r, acc => by
    by_cases hc : c = 43
    · subst hc
      rw [spl_hit (S := [43]) (by simp [pre]), List.flatten_cons, show ([43] : List Nat).length - 1 = 0 from rfl, strike r []]
      simp
    · rw [spl_miss (S := [43]) (pre_of_head [] r hc), strike r]
      simp [hc]
theorem repl_tl (w : Str) : tl (Txt.replace w ("+" : Str) ("" : Str)) = (tl w).filter (· != 43) := by
  have e : ("+" : Str) = ⟨#[43]⟩ := by decide +kernel
  rw [e, StrLaws.replace_one, tl_join, show tl ("" : Str) = [] from by decide +kernel, joinL_nil, split_spl w ⟨#[43]⟩ (by decide) (kind_ok (by decide +kernel))]
  exact (strike (tl w) []).trans (by simp)
theorem nums_leg {l w : Int} (h0 : 1 ≤ l) (h1 : l ≤ 9) (h2 : 0 ≤ w) (h3 : w ≤ 3) : numsOf (Txt.replace (legW l w) ("+" : Str) ("" : Str)) = [l, w] := by
  unfold numsOf
  rw [repl_tl, leg_tl h0 h1 h2 h3]
  have e1 : (48 + l.toNat != 43) = true := by simp; omega
  have e2 : (48 + w.toNat != 43) = true := by simp; omega
  have e3 : [48 + l.toNat, 43, 48 + w.toNat].filter (fun x => x != 43) = [48 + l.toNat, 48 + w.toNat] := by
    simp only [List.filter, e1, e2]
    rfl
  rw [e3]
  show [Txt.find digS ⟨#[48 + l.toNat]⟩, Txt.find digS ⟨#[48 + w.toNat]⟩] = _
  rw [find_dg _ (by omega), find_dg _ (by omega)]
  congr 1
  · omega
  · congr 1
    omega
theorem pick_at {α : Type} {xs ys : List α} {ix jx : List Nat} (h : ix = jx) (e : pickL jx xs = ys) : pickL ix xs = ys := h ▸ e
theorem parse_ch {c : Chan} (h : ChOk c) : parseT (chText c) = some c := by
  have key : betOf (chText c) = (chRows c).map (fun p => [p.2.1, p.2.2]) ∧ foundOf (chText c) = c := by
    unfold betOf foundOf barsOf betOf
    rw [split_ch h]
    have hb := h.b1
    have hb3 := h.b3
    have bv := h.bv
    have hr : ∀ p ∈ chRows c, _ := fun p hp => h.row hp
    have hll := h.ll
    have hwl := h.wl
    clear h
    obtain ⟨bars, legs, waits⟩ := c
    simp only at hb hb3 hll hwl bv
    match bars, legs, waits, hb, hb3, hll, hwl with
    | [b0], [], [], _, _, _, _ =>
      have e : wordsOf ⟨[b0], [], []⟩ = [barT b0] := rfl
      rw [e, show oddW [barT b0] = [] from pick_at (by decide +kernel : idxOf 1 (some 1) none (some 2) = []) rfl, show evenW [barT b0] = [barT b0] from pick_at (by decide +kernel : idxOf 1 none none (some 2) = [0]) rfl]
      simp only [List.map_cons, List.map_nil, nums_bar (bv b0 (by simp))]
      exact ⟨rfl, trivial⟩
    | [b0, b1], [l0], [w0], _, _, _, _ =>
      have e : wordsOf ⟨[b0, b1], [l0], [w0]⟩ = [barT b0, legW l0 w0, barT b1] := rfl
      obtain ⟨_, _, g1, g2⟩ := hr (b1, l0, w0) (by simp [chRows])
      rw [e, show oddW [barT b0, legW l0 w0, barT b1] = [legW l0 w0] from pick_at (by decide +kernel : idxOf 3 (some 1) none (some 2) = [1]) rfl, show evenW [barT b0, legW l0 w0, barT b1] = [barT b0, barT b1] from pick_at (by decide +kernel : idxOf 3 none none (some 2) = [0, 2]) rfl]
      simp only [List.map_cons, List.map_nil, nums_bar (bv b0 (by simp)), nums_bar (bv b1 (by simp)), nums_leg g1.1 g1.2 g2.1 g2.2]
      exact ⟨rfl, rfl⟩
    | [b0, b1, b2], [l0, l1], [w0, w1], _, _, _, _ =>
      have e : wordsOf ⟨[b0, b1, b2], [l0, l1], [w0, w1]⟩ = [barT b0, legW l0 w0, barT b1, legW l1 w1, barT b2] := rfl
      obtain ⟨_, _, g1, g2⟩ := hr (b1, l0, w0) (by simp [chRows])
      obtain ⟨_, _, g3, g4⟩ := hr (b2, l1, w1) (by simp [chRows])
      rw [e, show oddW [barT b0, legW l0 w0, barT b1, legW l1 w1, barT b2] = [legW l0 w0, legW l1 w1] from pick_at (by decide +kernel : idxOf 5 (some 1) none (some 2) = [1, 3]) rfl, show evenW [barT b0, legW l0 w0, barT b1, legW l1 w1, barT b2] = [barT b0, barT b1, barT b2] from pick_at (by decide +kernel : idxOf 5 none none (some 2) = [0, 2, 4]) rfl]
      simp only [List.map_cons, List.map_nil, nums_bar (bv b0 (by simp)), nums_bar (bv b1 (by simp)), nums_bar (bv b2 (by simp)), nums_leg g1.1 g1.2 g2.1 g2.2, nums_leg g3.1 g3.2 g4.1 g4.2]
      exact ⟨rfl, rfl⟩
  unfold parseT
  rw [key.1, key.2, if_pos (by simp), if_pos ⟨isChannel_ok h, rfl⟩]
/-! ### how long the parts of a text are -/
theorem spl_len : ∀ (l acc : List Nat), (spl [32] 0 acc l).length ≤ l.length + 1 ∧ ∀ p ∈ spl [32] 0 acc l, p.length ≤ acc.length + l.length
  | [], acc => by rw [spl_nil]; simp
  | c :: r, acc => by
    by_cases hc : c = 32
    · subst hc
      rw [spl_hit (S := [32]) (by simp [pre]), show ([32] : List Nat).length - 1 = 0 from rfl]
      obtain ⟨h1, h2⟩ := spl_len r []
      refine ⟨by rw [List.length_cons, List.length_cons]; omega, fun p hp => ?_⟩
      rcases List.mem_cons.mp hp with e | e
      · rw [e]; omega
      · have := h2 p e
        rw [List.length_nil] at this
        rw [List.length_cons]
        omega
    · rw [spl_miss (S := [32]) (pre_of_head [] r hc)]
      obtain ⟨h1, h2⟩ := spl_len r (acc ++ [c])
      refine ⟨by rw [List.length_cons]; omega, fun p hp => ?_⟩
      have := h2 p hp
      rw [List.length_append] at this
      rw [List.length_cons]
      simp at this
      omega
theorem words_len (t : Str) : (Txt.split t (" " : Str)).length ≤ t.length + 1 ∧ ∀ w ∈ Txt.split t (" " : Str), w.length ≤ t.length := by
  have e := split_spl t (" " : Str) (by decide +kernel) (kind_ok (by decide +kernel))
  rw [gap_tl1] at e
  obtain ⟨h1, h2⟩ := spl_len (tl t) []
  rw [← e, ← len_tl] at h1
  rw [List.length_map] at h1
  refine ⟨h1, fun w hw => ?_⟩
  have := h2 (tl w) (by rw [← e]; exact List.mem_map.mpr ⟨w, hw, rfl⟩)
  rw [← len_tl, ← len_tl, List.length_nil] at this
  omega
theorem pick_mem {α : Type} {ix : List Nat} {xs : List α} {x : α} (h : x ∈ pickL ix xs) : x ∈ xs := by
  unfold pickL at h
  obtain ⟨i, _, e⟩ := List.mem_filterMap.mp h
  exact List.mem_of_getElem? e
theorem nums_len (w : Str) : (numsOf w).length = w.length := by unfold numsOf; rw [List.length_map, len_tl]
theorem repl_len (w : Str) : (Txt.replace w ("+" : Str) ("" : Str)).length ≤ w.length := by rw [len_tl, len_tl, repl_tl]; exact List.length_filter_le _ _
theorem idx_len {n : Nat} {lo : Option Int} (h : lo = none ∨ lo = some 1) : (idxOf n lo none (some 2)).length ≤ n := by
  unfold idxOf
  rcases h with rfl | rfl
  · refine sliceRange_length_le _ _ _ n ?_ ?_
    · intro _; exact ⟨by simp [sliceBounds], by simp [sliceBounds]⟩
    · intro h; exact absurd h (by simp [sliceBounds])
  · refine sliceRange_length_le _ _ _ n ?_ ?_
    · intro _; exact ⟨by simp [sliceBounds]; omega, by simp [sliceBounds]⟩
    · intro h; exact absurd h (by simp [sliceBounds])
theorem ok_tl {x : Str} (h : ∀ c ∈ tl x, c < 200) : PyData.strOk x = true := by
  unfold PyData.strOk
  rw [← Array.all_toList, List.all_eq_true]
  intro c hc
  exact decide_eq_true (Nat.lt_trans (h c hc) (by decide))
theorem low_bar {b : List Int} (h : ∀ x ∈ b, 0 ≤ x ∧ x ≤ 6) : ∀ c ∈ tl (barT b), c < 200 := fun c hc => by
  rw [bar_tl h] at hc
  obtain ⟨x, hx, rfl⟩ := List.mem_map.mp hc
  have := h x hx
  omega
theorem low_fold {c : Chan} (h : ChOk c) : ∀ (ps : List (List Int × Int × Int)) (acc : Str), (∀ p ∈ ps, p ∈ chRows c) → (∀ n ∈ tl acc, n < 200) → ∀ n ∈ tl (ps.foldl addT acc), n < 200
  | [], acc, _, ha => ha
  | p :: ps, acc, hp, ha => by
    refine low_fold h ps (addT acc p) (fun q hq => hp q (by simp [hq])) fun n hn => ?_
    obtain ⟨h1, h2, h3, h4⟩ := h.row (hp p (by simp))
    unfold addT at hn
    rw [tl_append, tl_append] at hn
    rcases List.mem_append.mp hn with e | e
    · rcases List.mem_append.mp e with e | e
      · exact ha n e
      · rw [gap_tl h3.1 h3.2 h4.1 h4.2, leg_tl h3.1 h3.2 h4.1 h4.2] at e
        have : n = 32 ∨ n = 48 + p.2.1.toNat ∨ n = 43 ∨ n = 48 + p.2.2.toNat ∨ n = 32 := by simpa using e
        omega
    · exact low_bar h1 n e
theorem low_ch {c : Chan} (h : ChOk c) : ∀ n ∈ tl (chText c), n < 200 := low_fold h (chRows c) _ (fun p hp => hp) (low_bar (h.bv _ h.head))
theorem ok_ch {c : Chan} (h : ChOk c) : PyData.strOk (chText c) = true := ok_tl (low_ch h)

open TL PySem.StrLaws
section
variable {P : Program} {w : World} {K : PySem.W.Frag} {mg : Str → Option Value} {base : Heap}
def cChTx : Ctr := fun svs τ Q => ∃ c, ChOk c ∧ svs = [.val (chD c)] ∧ Q (.val (.str (chText c))) τ
theorem dig_log {x : Int} (h0 : 0 ≤ x) (h1 : x ≤ 9) : x.natAbs.log2 < 1920 := by
  obtain ⟨n, rfl⟩ := Int.eq_ofNat_of_zero_le h0
  rw [Int.natAbs_natCast]
  have h : ∀ n : Nat, n < 10 → n.log2 < 1920 := by decide +kernel
  exact h n (by omega)
theorem bar_sum {b : List Int} (h : ∀ x ∈ b, 0 ≤ x ∧ x ≤ 6) : ((b.map dgS).map (·.length)).sum = b.length := by
  induction b with
  | nil => rfl
  | cons x b ih =>
    have hx := h x (by simp)
    rw [List.map_cons, List.map_cons, List.sum_cons, ih fun y hy => h y (by simp [hy]), len_dg hx.1 (by omega), List.length_cons]
    omega
theorem rows_D (c : Chan) : zip3D (cutD (c.bars.map tI) (some 1) none) (c.legs.map .int) (c.waits.map .int) = (chRows c).map fun p => .tuple [tI p.1, .int p.2.1, .int p.2.2] := by
  by_cases h : 1 ≤ c.bars.length
  · have e : cutD (c.bars.map tI) (some 1) none = c.bars.tail.map tI := by
      have := cutD_drop (ds := c.bars.map tI) (j := 1) (by rw [List.length_map]; exact h)
      rw [show (some ((1 : Nat) : Int)) = some 1 from rfl] at this
      rw [this, List.drop_one, List.map_tail]
    rw [e]
    unfold zip3D chRows
    rw [List.zip_map, List.zip_map, List.map_map]
    rfl
  · have e : c.bars = [] := List.eq_nil_of_length_eq_zero (by omega)
    unfold chRows
    rw [e]
    rfl
theorem gap_lit : (" " : Str).length = 1 ∧ ("+" : Str).length = 1 ∧ Str.empty.length = 0 := by decide +kernel
theorem gap_lens {l w : Int} (h0 : 1 ≤ l) (h1 : l ≤ 9) (h2 : 0 ≤ w) (h3 : w ≤ 3) : (Str.empty ++ (" " : Str)).length ≤ 100 ∧ (Str.empty ++ (" " : Str) ++ dgS l).length ≤ 100 ∧ (Str.empty ++ (" " : Str) ++ dgS l ++ ("+" : Str)).length ≤ 100 ∧ (Str.empty ++ (" " : Str) ++ dgS l ++ ("+" : Str) ++ dgS w).length ≤ 100 ∧ (Str.empty ++ (" " : Str) ++ dgS l ++ ("+" : Str) ++ dgS w ++ (" " : Str)).length ≤ 100 := by
  have e1 := len_dg (x := l) (by omega) h1
  have e2 := len_dg (x := w) h2 (by omega)
  obtain ⟨e3, e4, e5⟩ := gap_lit
  simp only [Str.length_append, e1, e2, e3, e4, e5]
  omega
theorem txt16 {n : Nat} (h : n ≤ 100) : n ≤ 16000000 := Nat.le_trans h (by decide)
abbrev s_channel_text : Stmt := topS 24
theorem sc_channel_text : FnScope ["channel", "bars", "legs", "waits", "found", "depth", "bar", "leg", "wait"] ["channel"] (defScope s_channel_text) := ⟨rfl, rfl, rfl, by decide +kernel, rfl, by decide +kernel, by decide +kernel⟩
local macro_rules | `(tactic| walk_at "nm") => `(tactic| first
  | with_reducible refine de_name (x := "channel") 0 (by with_unfolding_all rfl) (by with_unfolding_all first | exact Or.inl rfl | exact Or.inr (Or.inl rfl) | exact Or.inr (Or.inr rfl)) (by with_unfolding_all rfl) ?_ (by with_unfolding_all decide) (by with_unfolding_all decide)
  | with_reducible refine de_name (x := "bars") 1 (by with_unfolding_all rfl) (by with_unfolding_all first | exact Or.inl rfl | exact Or.inr (Or.inl rfl) | exact Or.inr (Or.inr rfl)) (by with_unfolding_all rfl) ?_ (by with_unfolding_all decide) (by with_unfolding_all decide)
  | with_reducible refine de_name (x := "legs") 2 (by with_unfolding_all rfl) (by with_unfolding_all first | exact Or.inl rfl | exact Or.inr (Or.inl rfl) | exact Or.inr (Or.inr rfl)) (by with_unfolding_all rfl) ?_ (by with_unfolding_all decide) (by with_unfolding_all decide)
  | with_reducible refine de_name (x := "waits") 3 (by with_unfolding_all rfl) (by with_unfolding_all first | exact Or.inl rfl | exact Or.inr (Or.inl rfl) | exact Or.inr (Or.inr rfl)) (by with_unfolding_all rfl) ?_ (by with_unfolding_all decide) (by with_unfolding_all decide)
  | with_reducible refine de_name (x := "found") 4 (by with_unfolding_all rfl) (by with_unfolding_all first | exact Or.inl rfl | exact Or.inr (Or.inl rfl) | exact Or.inr (Or.inr rfl)) (by with_unfolding_all rfl) ?_ (by with_unfolding_all decide) (by with_unfolding_all decide)
  | with_reducible refine de_name (x := "depth") 5 (by with_unfolding_all rfl) (by with_unfolding_all first | exact Or.inl rfl | exact Or.inr (Or.inl rfl) | exact Or.inr (Or.inr rfl)) (by with_unfolding_all rfl) ?_ (by with_unfolding_all decide) (by with_unfolding_all decide)
  | with_reducible refine de_name (x := "bar") 6 (by with_unfolding_all rfl) (by with_unfolding_all first | exact Or.inl rfl | exact Or.inr (Or.inl rfl) | exact Or.inr (Or.inr rfl)) (by with_unfolding_all rfl) ?_ (by with_unfolding_all decide) (by with_unfolding_all decide)
  | with_reducible refine de_name (x := "leg") 7 (by with_unfolding_all rfl) (by with_unfolding_all first | exact Or.inl rfl | exact Or.inr (Or.inl rfl) | exact Or.inr (Or.inr rfl)) (by with_unfolding_all rfl) ?_ (by with_unfolding_all decide) (by with_unfolding_all decide)
  | with_reducible refine de_name (x := "wait") 8 (by with_unfolding_all rfl) (by with_unfolding_all first | exact Or.inl rfl | exact Or.inr (Or.inl rfl) | exact Or.inr (Or.inr rfl)) (by with_unfolding_all rfl) ?_ (by with_unfolding_all decide) (by with_unfolding_all decide))
local macro_rules | `(tactic| walk_at "st") => `(tactic| first
  | with_reducible refine ds_set (x := "channel") 0 (by with_unfolding_all exact sc_channel_text.nd) (by with_unfolding_all rfl) (by with_unfolding_all first | exact Or.inl rfl | exact Or.inr rfl) ?_ (by with_unfolding_all rfl) (by with_unfolding_all first | exact .inl rfl | exact .inr rfl)
  | with_reducible refine ds_set (x := "bars") 1 (by with_unfolding_all exact sc_channel_text.nd) (by with_unfolding_all rfl) (by with_unfolding_all first | exact Or.inl rfl | exact Or.inr rfl) ?_ (by with_unfolding_all rfl) (by with_unfolding_all first | exact .inl rfl | exact .inr rfl)
  | with_reducible refine ds_set (x := "legs") 2 (by with_unfolding_all exact sc_channel_text.nd) (by with_unfolding_all rfl) (by with_unfolding_all first | exact Or.inl rfl | exact Or.inr rfl) ?_ (by with_unfolding_all rfl) (by with_unfolding_all first | exact .inl rfl | exact .inr rfl)
  | with_reducible refine ds_set (x := "waits") 3 (by with_unfolding_all exact sc_channel_text.nd) (by with_unfolding_all rfl) (by with_unfolding_all first | exact Or.inl rfl | exact Or.inr rfl) ?_ (by with_unfolding_all rfl) (by with_unfolding_all first | exact .inl rfl | exact .inr rfl)
  | with_reducible refine ds_set (x := "found") 4 (by with_unfolding_all exact sc_channel_text.nd) (by with_unfolding_all rfl) (by with_unfolding_all first | exact Or.inl rfl | exact Or.inr rfl) ?_ (by with_unfolding_all rfl) (by with_unfolding_all first | exact .inl rfl | exact .inr rfl)
  | with_reducible refine ds_set (x := "depth") 5 (by with_unfolding_all exact sc_channel_text.nd) (by with_unfolding_all rfl) (by with_unfolding_all first | exact Or.inl rfl | exact Or.inr rfl) ?_ (by with_unfolding_all rfl) (by with_unfolding_all first | exact .inl rfl | exact .inr rfl)
  | with_reducible refine ds_set (x := "bar") 6 (by with_unfolding_all exact sc_channel_text.nd) (by with_unfolding_all rfl) (by with_unfolding_all first | exact Or.inl rfl | exact Or.inr rfl) ?_ (by with_unfolding_all rfl) (by with_unfolding_all first | exact .inl rfl | exact .inr rfl)
  | with_reducible refine ds_set (x := "leg") 7 (by with_unfolding_all exact sc_channel_text.nd) (by with_unfolding_all rfl) (by with_unfolding_all first | exact Or.inl rfl | exact Or.inr rfl) ?_ (by with_unfolding_all rfl) (by with_unfolding_all first | exact .inl rfl | exact .inr rfl)
  | with_reducible refine ds_set (x := "wait") 8 (by with_unfolding_all exact sc_channel_text.nd) (by with_unfolding_all rfl) (by with_unfolding_all first | exact Or.inl rfl | exact Or.inr rfl) ?_ (by with_unfolding_all rfl) (by with_unfolding_all first | exact .inl rfl | exact .inr rfl))
local macro_rules | `(tactic| walk_at "stx") => `(tactic| first
  | with_reducible refine dsx_set (x := "channel") 0 (by with_unfolding_all exact sc_channel_text.nd) (by with_unfolding_all rfl) (by with_unfolding_all first | exact Or.inl rfl | exact Or.inr rfl) ?_ (by with_unfolding_all rfl) (by with_unfolding_all first | exact .inl rfl | exact .inr rfl)
  | with_reducible refine dsx_set (x := "bars") 1 (by with_unfolding_all exact sc_channel_text.nd) (by with_unfolding_all rfl) (by with_unfolding_all first | exact Or.inl rfl | exact Or.inr rfl) ?_ (by with_unfolding_all rfl) (by with_unfolding_all first | exact .inl rfl | exact .inr rfl)
  | with_reducible refine dsx_set (x := "legs") 2 (by with_unfolding_all exact sc_channel_text.nd) (by with_unfolding_all rfl) (by with_unfolding_all first | exact Or.inl rfl | exact Or.inr rfl) ?_ (by with_unfolding_all rfl) (by with_unfolding_all first | exact .inl rfl | exact .inr rfl)
  | with_reducible refine dsx_set (x := "waits") 3 (by with_unfolding_all exact sc_channel_text.nd) (by with_unfolding_all rfl) (by with_unfolding_all first | exact Or.inl rfl | exact Or.inr rfl) ?_ (by with_unfolding_all rfl) (by with_unfolding_all first | exact .inl rfl | exact .inr rfl)
  | with_reducible refine dsx_set (x := "found") 4 (by with_unfolding_all exact sc_channel_text.nd) (by with_unfolding_all rfl) (by with_unfolding_all first | exact Or.inl rfl | exact Or.inr rfl) ?_ (by with_unfolding_all rfl) (by with_unfolding_all first | exact .inl rfl | exact .inr rfl)
  | with_reducible refine dsx_set (x := "depth") 5 (by with_unfolding_all exact sc_channel_text.nd) (by with_unfolding_all rfl) (by with_unfolding_all first | exact Or.inl rfl | exact Or.inr rfl) ?_ (by with_unfolding_all rfl) (by with_unfolding_all first | exact .inl rfl | exact .inr rfl)
  | with_reducible refine dsx_set (x := "bar") 6 (by with_unfolding_all exact sc_channel_text.nd) (by with_unfolding_all rfl) (by with_unfolding_all first | exact Or.inl rfl | exact Or.inr rfl) ?_ (by with_unfolding_all rfl) (by with_unfolding_all first | exact .inl rfl | exact .inr rfl)
  | with_reducible refine dsx_set (x := "leg") 7 (by with_unfolding_all exact sc_channel_text.nd) (by with_unfolding_all rfl) (by with_unfolding_all first | exact Or.inl rfl | exact Or.inr rfl) ?_ (by with_unfolding_all rfl) (by with_unfolding_all first | exact .inl rfl | exact .inr rfl)
  | with_reducible refine dsx_set (x := "wait") 8 (by with_unfolding_all exact sc_channel_text.nd) (by with_unfolding_all rfl) (by with_unfolding_all first | exact Or.inl rfl | exact Or.inr rfl) ?_ (by with_unfolding_all rfl) (by with_unfolding_all first | exact .inl rfl | exact .inr rfl))

local macro_rules | `(tactic| walk_at "lc depth") => `(tactic| refine de_lc (t := .name 5) (own := [("depth", 5)]) rfl sc_channel_text.nd (by first | exact blkOk_by (N := ["channel", "bars", "legs", "waits", "found", "depth", "bar", "leg", "wait"]) (sc := defScope s_channel_text) (by decide +kernel) | exact blkOk_by (N := ["channel", "bars", "legs", "waits", "found", "depth", "bar", "leg", "wait"]) (sc := relS _ (defScope s_channel_text)) (by decide +kernel)) (by decide) (fun _ _ _ _ _ => pgx_name sc_channel_text.nd rfl (by first | exact Or.inl rfl | exact Or.inr rfl)) ?_)

theorem kn_channel_text (D : HasDef K mg "channel_text" s_channel_text ["channel"]) (B : Bl mg) : Knows P w K mg base 1 "channel_text" cChTx := by
  refine knows_mk D sc_channel_text (fun _ _ _ ⟨_, _, e, _⟩ => by rw [e]; rfl) (fun f cdv A outer s H E hr svs τ Q hC => ?_)
  obtain ⟨c, ok, rfl, q⟩ := hC
  have b1 := ok.b1
  obtain ⟨b0, bs, eb⟩ : ∃ b0 bs, c.bars = b0 :: bs := by
    cases e : c.bars with
    | nil => rw [e] at b1; exact absurd b1 (by decide)
    | cons b bs => exact ⟨b, bs, rfl⟩
  have hb0 : b0 ∈ c.bars := by rw [eb]; exact List.mem_cons_self
  have v0 := ok.bv b0 hb0
  have l0 := (ok.bl b0 hb0).2
  unfold chD
  walk_at "go"
  refine ds_asg (t := .tup [1, 2, 3]) (pgx_tup3 rfl (pg_name sc_channel_text.nd rfl (Or.inl rfl)) (pg_name sc_channel_text.nd rfl (Or.inl rfl)) (pg_name sc_channel_text.nd rfl (Or.inl rfl))) ?_
  walk_at "go"
  refine de_join ?_
  walk_at "go"
  walk_at "lc depth"
  refine di_tup ?_
  walk_at "go"
  refine ix_tup' (show atI (c.bars.map tI) 0 = some (tI b0) by rw [eb]; exact atI_nat (j := 0) rfl) ?_
  refine ⟨_, rfl, ?_⟩
  refine lcq_map b0 .int (fun x => .str (dgS x)) rfl (by omega) (fun x hx => ⟨_, rfl, fun D acc hD s H C cl fp => ?_⟩) ?_
  · refine de_strI ‹Bl _› rfl ?_
    walk_at "go"
    exact ⟨dig_log (v0 x hx).1 (by have := (v0 x hx).2; omega), rfl, rfl⟩
  refine ⟨b0.map dgS, by show some _ = some _; rw [List.map_map]; rfl, by rw [bar_sum v0, List.length_map, show ("" : Str).length = 0 from by decide +kernel]; omega, ?_⟩
  walk_at "go"
  refine ds_for (t := .tup [6, 7, 8]) rfl PassesOwn.never (pgx_tup3 rfl (pg_name sc_channel_text.nd rfl (Or.inl rfl)) (pg_name sc_channel_text.nd rfl (Or.inl rfl)) (pg_name sc_channel_text.nd rfl (Or.inl rfl))) ?_
  refine di_zip3 ‹Bl _› rfl ?_
  walk_at "go"
  refine ⟨_, c.legs.map .int, c.waits.map .int, ⟨rfl, rfl, rfl⟩, ?_⟩
  rw [rows_D]
  refine ⟨fun i ρ' τ' => τ' = τ ∧ ∃ v5 v6 v7 v8, ρ' = [some (.val (.tuple [.tuple (c.bars.map tI), tI c.legs, tI c.waits])), some (.val (.tuple (c.bars.map tI))), some (.val (tI c.legs)), some (.val (tI c.waits)), some (.val (.str (((chRows c).take i).foldl addT (barT b0)))), v5, v6, v7, v8], ⟨rfl, _, _, _, _, rfl⟩, fun _ _ _ _ => trivial, ?_, ?_⟩
  · rintro i d ρ' τ' hd ⟨rfl, v5, v6, v7, v8, rfl⟩
    rw [List.getElem?_map] at hd
    obtain ⟨p, hp, rfl⟩ := Option.map_eq_some_iff.mp hd
    have hm := List.mem_of_getElem? hp
    have hi := (List.getElem?_eq_some_iff.mp hp).1
    obtain ⟨r1, r2, r3, r4⟩ := ok.row hm
    obtain ⟨z1, z2, z3, z4, z5⟩ := gap_lens r3.1 r3.2 r4.1 r4.2
    have rl := ok.rows
    have b3 := ok.b3
    have la := len_fold ok ((chRows c).take i) (barT b0) fun q hq => List.mem_of_mem_take hq
    rw [List.length_take, len_bar v0] at la
    have la' : (((chRows c).take i).foldl addT (barT b0)).length ≤ 100 := Nat.le_trans la (by omega)
    obtain ⟨bar, leg, wait⟩ := p
    refine ⟨_, rfl, ?_⟩
    walk_at "go"
    refine de_joined ?_
    unfold Djs
    refine de_str ?_
    refine ⟨_, rfl, txt16 z1, ?_⟩
    unfold Djs
    refine de_fmt ?_
    walk_at "nm"
    refine .inr ⟨_, rfl, dig_log (by omega) r3.2, _, rfl, txt16 z2, ?_⟩
    unfold Djs
    refine de_str ?_
    refine ⟨_, rfl, txt16 z3, ?_⟩
    unfold Djs
    refine de_fmt ?_
    walk_at "nm"
    refine .inr ⟨_, rfl, dig_log r4.1 (by omega), _, rfl, txt16 z4, ?_⟩
    unfold Djs
    refine de_str ?_
    refine ⟨_, rfl, txt16 z5, ?_⟩
    unfold Djs
    refine plus_str (Nat.le_trans (Nat.add_le_add la' z5) (by decide)) ?_
    refine de_join ?_
    walk_at "go"
    walk_at "lc depth"
    refine di_tup ?_
    walk_at "go"
    have r1 : ∀ x ∈ bar, 0 ≤ x ∧ x ≤ 6 := r1
    have r2 : bar.length ≤ 8 := r2
    refine lcq_map bar .int (fun x => .str (dgS x)) rfl (by omega) (fun x hx => ⟨_, rfl, fun D acc hD s H C cl fp => ?_⟩) ?_
    · refine de_strI ‹Bl _› rfl ?_
      walk_at "go"
      exact ⟨dig_log (r1 x hx).1 (by have := (r1 x hx).2; omega), rfl, rfl⟩
    refine ⟨bar.map dgS, by show some _ = some _; rw [List.map_map]; rfl, by rw [bar_sum r1, List.length_map, show ("" : Str).length = 0 from by decide +kernel]; omega, ?_⟩
    have lb : (Txt.join ("" : Str) (bar.map dgS)).length ≤ 8 := by
      have := len_bar r1
      unfold barT at this
      rw [this]
      exact r2
    refine plus_str (by rw [Str.length_append]; exact Nat.le_trans (Nat.add_le_add (Nat.add_le_add la' z5) lb) (by decide)) ?_
    refine ⟨rfl, v5, some (.val (tI bar)), some (.val (.int leg)), some (.val (.int wait)), ?_⟩
    have ef : ((chRows c).take (i + 1)).foldl addT (barT b0) = addT (((chRows c).take i).foldl addT (barT b0)) (bar, leg, wait) := by
      rw [List.take_add_one, hp, List.foldl_append]
      rfl
    rw [ef]
    rfl
  · rintro ρ' τ' ⟨rfl, v5, v6, v7, v8, rfl⟩
    rw [List.length_map, List.take_length]
    walk_at "go"
    have e : chText c = (chRows c).foldl addT (barT b0) := by unfold chText; rw [eb]; rfl
    rw [← e]
    exact q
def cFmt (cD : Value) : CtrX := fun svs τ Q R => ∃ c, ChOk c ∧ svs = [.val (chD c)] ∧ Q (.val (.str (chText c))) τ
abbrev s_format_channel : Stmt := topS 25
theorem sc_format_channel : FnScope ["channel"] ["channel"] (defScope s_format_channel) := ⟨rfl, rfl, rfl, by decide +kernel, rfl, by decide +kernel, by decide +kernel⟩
local macro_rules | `(tactic| walk_at "nm") => `(tactic| first
  | with_reducible refine de_name (x := "channel") 0 (by with_unfolding_all rfl) (by with_unfolding_all first | exact Or.inl rfl | exact Or.inr (Or.inl rfl) | exact Or.inr (Or.inr rfl)) (by with_unfolding_all rfl) ?_ (by with_unfolding_all decide) (by with_unfolding_all decide))
local macro_rules | `(tactic| walk_at "st") => `(tactic| first
  | with_reducible refine ds_set (x := "channel") 0 (by with_unfolding_all exact sc_format_channel.nd) (by with_unfolding_all rfl) (by with_unfolding_all first | exact Or.inl rfl | exact Or.inr rfl) ?_ (by with_unfolding_all rfl) (by with_unfolding_all first | exact .inl rfl | exact .inr rfl))
local macro_rules | `(tactic| walk_at "stx") => `(tactic| first
  | with_reducible refine dsx_set (x := "channel") 0 (by with_unfolding_all exact sc_format_channel.nd) (by with_unfolding_all rfl) (by with_unfolding_all first | exact Or.inl rfl | exact Or.inr rfl) ?_ (by with_unfolding_all rfl) (by with_unfolding_all first | exact .inl rfl | exact .inr rfl))



theorem kx_format_channel {cD : Value} (D : HasDef K mg "format_channel" s_format_channel ["channel"]) (B : Bl mg) (k4 : KnowsX P w K mg base 4 "check_channel" (cChkCX cD)) (k1 : Knows P w K mg base 1 "channel_text" cChTx) : KnowsX P w K mg base 5 "format_channel" (cFmt cD) := by
  refine knowsX_mk D sc_format_channel (fun _ _ _ _ ⟨_, _, e, _⟩ => by rw [e]; rfl) (fun f cdv A outer s H E' hr svs τ Q R hC => ?_)
  obtain ⟨c, ok, rfl, q⟩ := hC
  walk_at "gx"
  refine ⟨_, rfl, sm_chD ok, fun _ => ?_, fun h => ?_⟩
  · walk_at "gx"
    refine dex_of ?_
    walk_at "go"
    exact ⟨c, ok, rfl, q⟩
  · rw [isChannel_ok ok] at h
    cases h
def cNums : Ctr := fun svs τ Q => ∃ w : Str, svs = [.val (.str w)] ∧ w.length ≤ 1000000 ∧ Q (.val (tI (numsOf w))) τ
abbrev s_numbers_of : Stmt := topS 26
theorem sc_numbers_of : FnScope ["word", "sign"] ["word"] (defScope s_numbers_of) := ⟨rfl, rfl, rfl, by decide +kernel, rfl, by decide +kernel, by decide +kernel⟩
local macro_rules | `(tactic| walk_at "nm") => `(tactic| first
  | with_reducible refine de_name (x := "word") 0 (by with_unfolding_all rfl) (by with_unfolding_all first | exact Or.inl rfl | exact Or.inr (Or.inl rfl) | exact Or.inr (Or.inr rfl)) (by with_unfolding_all rfl) ?_ (by with_unfolding_all decide) (by with_unfolding_all decide)
  | with_reducible refine de_name (x := "sign") 1 (by with_unfolding_all rfl) (by with_unfolding_all first | exact Or.inl rfl | exact Or.inr (Or.inl rfl) | exact Or.inr (Or.inr rfl)) (by with_unfolding_all rfl) ?_ (by with_unfolding_all decide) (by with_unfolding_all decide))
local macro_rules | `(tactic| walk_at "st") => `(tactic| first
  | with_reducible refine ds_set (x := "word") 0 (by with_unfolding_all exact sc_numbers_of.nd) (by with_unfolding_all rfl) (by with_unfolding_all first | exact Or.inl rfl | exact Or.inr rfl) ?_ (by with_unfolding_all rfl) (by with_unfolding_all first | exact .inl rfl | exact .inr rfl)
  | with_reducible refine ds_set (x := "sign") 1 (by with_unfolding_all exact sc_numbers_of.nd) (by with_unfolding_all rfl) (by with_unfolding_all first | exact Or.inl rfl | exact Or.inr rfl) ?_ (by with_unfolding_all rfl) (by with_unfolding_all first | exact .inl rfl | exact .inr rfl))
local macro_rules | `(tactic| walk_at "stx") => `(tactic| first
  | with_reducible refine dsx_set (x := "word") 0 (by with_unfolding_all exact sc_numbers_of.nd) (by with_unfolding_all rfl) (by with_unfolding_all first | exact Or.inl rfl | exact Or.inr rfl) ?_ (by with_unfolding_all rfl) (by with_unfolding_all first | exact .inl rfl | exact .inr rfl)
  | with_reducible refine dsx_set (x := "sign") 1 (by with_unfolding_all exact sc_numbers_of.nd) (by with_unfolding_all rfl) (by with_unfolding_all first | exact Or.inl rfl | exact Or.inr rfl) ?_ (by with_unfolding_all rfl) (by with_unfolding_all first | exact .inl rfl | exact .inr rfl))

local macro_rules | `(tactic| walk_at "lc sign") => `(tactic| refine de_lc (t := .name 1) (own := [("sign", 1)]) rfl sc_numbers_of.nd (by first | exact blkOk_by (N := ["word", "sign"]) (sc := defScope s_numbers_of) (by decide +kernel) | exact blkOk_by (N := ["word", "sign"]) (sc := relS _ (defScope s_numbers_of)) (by decide +kernel)) (by decide) (fun _ _ _ _ _ => pgx_name sc_numbers_of.nd rfl (by first | exact Or.inl rfl | exact Or.inr rfl)) ?_)

theorem kn_numbers_of {t : Tok} (D : HasDef K mg "numbers_of" s_numbers_of ["word"]) (B : Bl mg) (gD : mg "DIGITS" = some (.str "0123456789" t)) : Knows P w K mg base 1 "numbers_of" cNums := by
  refine knows_mk D sc_numbers_of (fun _ _ _ ⟨_, e, _⟩ => by rw [e]; rfl) (fun f cdv A outer s H E hr svs τ Q hC => ?_)
  obtain ⟨wd, rfl, hl, q⟩ := hC
  walk_at "go"
  walk_at "lc sign"
  refine di_str ?_
  walk_at "go"
  have el : (tl wd).length = wd.length := (len_tl wd).symm
  refine lcq_map (tl wd) (fun c => .str ⟨#[c]⟩) (fun c => .int (Txt.find digS ⟨#[c]⟩)) rfl (by omega) (fun x hx => ⟨_, rfl, fun D acc hD s H C cl fp => ?_⟩) ?_
  · refine de_find ?_
    refine de_txtG rfl ‹mg "DIGITS" = _› ?_
    walk_at "go"
    exact ⟨rfl, rfl⟩
  · walk_at "go"
    have e : tI (numsOf wd) = .tuple ((tl wd).map fun c => .int (Txt.find digS ⟨#[c]⟩)) := by
      unfold tI numsOf
      rw [List.map_map]
      rfl
    rw [e] at q
    exact q
end

open TL PySem.StrLaws
section
variable {P : Program} {w : World} {K : PySem.W.Frag} {mg : Str → Option Value} {base : Heap}
def betD : PyData → PyData
  | .str w => tI (numsOf (Txt.replace w ("+" : Str) ("" : Str)))
  | _ => .none
theorem pick_map {α β : Type} (f : α → β) (ix : List Nat) (xs : List α) : pickL ix (xs.map f) = (pickL ix xs).map f := by
  unfold pickL
  induction ix with
  | nil => rfl
  | cons i ix ih =>
    rw [List.filterMap_cons, List.filterMap_cons, List.getElem?_map]
    cases xs[i]? with
    | none => exact ih
    | some y => show f y :: _ = _; rw [ih]; rfl
theorem repl_lit : ("" : Str).length = 0 := by decide +kernel
theorem bet_list (x : Str) : (pickL (idxOf ((Txt.split x (" " : Str)).map PyData.str).length (some 1) none (some 2)) ((Txt.split x (" " : Str)).map PyData.str)).map betD = (betOf x).map tI := by
  rw [pick_map, List.length_map, List.map_map]
  unfold betOf oddW
  rw [List.map_map]
  rfl
theorem bars_list (x : Str) : (pickL (idxOf ((Txt.split x (" " : Str)).map PyData.str).length none none (some 2)) ((Txt.split x (" " : Str)).map PyData.str)) = (evenW (Txt.split x (" " : Str))).map PyData.str := by
  rw [pick_map, List.length_map]
  rfl
def isStrD : PyData → Option Str
  | .str x => some x
  | _ => none
theorem all_two (bs : List (List Int)) : (bs.map fun p => decide ((p.length : Int) = 2)).all id = bs.all fun p => decide (p.length = 2) := by
  rw [List.all_map]
  congr 1
  funext p
  show decide ((p.length : Int) = 2) = decide (p.length = 2)
  exact decide_eq_decide.mpr (by omega)
theorem bet_len (x : Str) : (betOf x).length ≤ (Txt.split x (" " : Str)).length := by
  unfold betOf oddW
  rw [List.length_map]
  exact Nat.le_trans (List.length_filterMap_le _ _) (idx_len (.inr rfl))
theorem bars_len (x : Str) : (evenW (Txt.split x (" " : Str))).length ≤ (Txt.split x (" " : Str)).length := by
  unfold evenW
  exact Nat.le_trans (List.length_filterMap_le _ _) (idx_len (.inl rfl))
theorem between_inv {xs : List Int} {n lo hi : Int} (h : areBetween (tI xs) n lo hi = true) : (xs.length : Int) = n ∧ ∀ x ∈ xs, lo ≤ x ∧ x ≤ hi := by
  unfold tI areBetween at h
  simp only [Bool.and_eq_true, decide_eq_true_eq, List.length_map, List.all_eq_true] at h
  refine ⟨h.1, fun x hx => ?_⟩
  have := h.2 (.int x) (List.mem_map.mpr ⟨x, hx, rfl⟩)
  simpa [isBetween] using this
theorem chOk_of {c : Chan} (h : isChannel (chD c) = true) : ChOk c := by
  have e : isChannel (chD c) = (decide (1 ≤ ((c.bars.map tI).length : Int)) && decide (((c.bars.map tI).length : Int) ≤ 3) && (c.bars.map tI).all isBar && areBetween (tI c.legs) ((c.bars.map tI).length - 1) 1 9 && areBetween (tI c.waits) ((c.bars.map tI).length - 1) 0 3) := rfl
  rw [e] at h
  simp only [Bool.and_eq_true, decide_eq_true_eq, List.length_map, List.all_eq_true] at h
  obtain ⟨⟨⟨⟨h1, h2⟩, h3⟩, h4⟩, h5⟩ := h
  obtain ⟨l1, l2⟩ := between_inv h4
  obtain ⟨w1, w2⟩ := between_inv h5
  have bar : ∀ b ∈ c.bars, (1 ≤ b.length ∧ b.length ≤ 8) ∧ ∀ x ∈ b, 0 ≤ x ∧ x ≤ 6 := fun b hb => by
    have := h3 (tI b) (List.mem_map.mpr ⟨b, hb, rfl⟩)
    have eb : isBar (tI b) = (decide (1 ≤ ((b.map PyData.int).length : Int)) && decide (((b.map PyData.int).length : Int) ≤ 8) && areBetween (tI b) (b.map PyData.int).length 0 6) := rfl
    rw [eb] at this
    simp only [Bool.and_eq_true, decide_eq_true_eq, List.length_map] at this
    exact ⟨⟨by omega, by omega⟩, (between_inv this.2).2⟩
  exact ⟨by omega, by omega, fun b hb => (bar b hb).1, fun b hb => (bar b hb).2, by omega, l2, by omega, w2⟩
/-- what parse_channel gives or raises -/
def parseD (d : PyData) : Option Chan := match d with
  | .str x => parseT x
  | _ => none
def cParse (cT : Value) : CtrX := fun svs τ Q R => ∃ d, svs = [.val d] ∧ (∀ x, d = .str x → x.length ≤ 10000 ∧ PyData.strOk x = true) ∧ (∀ c, parseD d = some c → Q (.val (chD c)) τ) ∧ (parseD d = none → R cT τ)
abbrev s_parse_channel : Stmt := topS 27
theorem sc_parse_channel : FnScope ["text", "words", "between", "word", "pair", "bars", "found"] ["text"] (defScope s_parse_channel) := ⟨rfl, rfl, rfl, by decide +kernel, rfl, by decide +kernel, by decide +kernel⟩
local macro_rules | `(tactic| walk_at "nm") => `(tactic| first
  | with_reducible refine de_name (x := "text") 0 (by with_unfolding_all rfl) (by with_unfolding_all first | exact Or.inl rfl | exact Or.inr (Or.inl rfl) | exact Or.inr (Or.inr rfl)) (by with_unfolding_all rfl) ?_ (by with_unfolding_all decide) (by with_unfolding_all decide)
  | with_reducible refine de_name (x := "words") 1 (by with_unfolding_all rfl) (by with_unfolding_all first | exact Or.inl rfl | exact Or.inr (Or.inl rfl) | exact Or.inr (Or.inr rfl)) (by with_unfolding_all rfl) ?_ (by with_unfolding_all decide) (by with_unfolding_all decide)
  | with_reducible refine de_name (x := "between") 2 (by with_unfolding_all rfl) (by with_unfolding_all first | exact Or.inl rfl | exact Or.inr (Or.inl rfl) | exact Or.inr (Or.inr rfl)) (by with_unfolding_all rfl) ?_ (by with_unfolding_all decide) (by with_unfolding_all decide)
  | with_reducible refine de_name (x := "word") 3 (by with_unfolding_all rfl) (by with_unfolding_all first | exact Or.inl rfl | exact Or.inr (Or.inl rfl) | exact Or.inr (Or.inr rfl)) (by with_unfolding_all rfl) ?_ (by with_unfolding_all decide) (by with_unfolding_all decide)
  | with_reducible refine de_name (x := "pair") 4 (by with_unfolding_all rfl) (by with_unfolding_all first | exact Or.inl rfl | exact Or.inr (Or.inl rfl) | exact Or.inr (Or.inr rfl)) (by with_unfolding_all rfl) ?_ (by with_unfolding_all decide) (by with_unfolding_all decide)
  | with_reducible refine de_name (x := "bars") 5 (by with_unfolding_all rfl) (by with_unfolding_all first | exact Or.inl rfl | exact Or.inr (Or.inl rfl) | exact Or.inr (Or.inr rfl)) (by with_unfolding_all rfl) ?_ (by with_unfolding_all decide) (by with_unfolding_all decide)
  | with_reducible refine de_name (x := "found") 6 (by with_unfolding_all rfl) (by with_unfolding_all first | exact Or.inl rfl | exact Or.inr (Or.inl rfl) | exact Or.inr (Or.inr rfl)) (by with_unfolding_all rfl) ?_ (by with_unfolding_all decide) (by with_unfolding_all decide))
local macro_rules | `(tactic| walk_at "st") => `(tactic| first
  | with_reducible refine ds_set (x := "text") 0 (by with_unfolding_all exact sc_parse_channel.nd) (by with_unfolding_all rfl) (by with_unfolding_all first | exact Or.inl rfl | exact Or.inr rfl) ?_ (by with_unfolding_all rfl) (by with_unfolding_all first | exact .inl rfl | exact .inr rfl)
  | with_reducible refine ds_set (x := "words") 1 (by with_unfolding_all exact sc_parse_channel.nd) (by with_unfolding_all rfl) (by with_unfolding_all first | exact Or.inl rfl | exact Or.inr rfl) ?_ (by with_unfolding_all rfl) (by with_unfolding_all first | exact .inl rfl | exact .inr rfl)
  | with_reducible refine ds_set (x := "between") 2 (by with_unfolding_all exact sc_parse_channel.nd) (by with_unfolding_all rfl) (by with_unfolding_all first | exact Or.inl rfl | exact Or.inr rfl) ?_ (by with_unfolding_all rfl) (by with_unfolding_all first | exact .inl rfl | exact .inr rfl)
  | with_reducible refine ds_set (x := "word") 3 (by with_unfolding_all exact sc_parse_channel.nd) (by with_unfolding_all rfl) (by with_unfolding_all first | exact Or.inl rfl | exact Or.inr rfl) ?_ (by with_unfolding_all rfl) (by with_unfolding_all first | exact .inl rfl | exact .inr rfl)
  | with_reducible refine ds_set (x := "pair") 4 (by with_unfolding_all exact sc_parse_channel.nd) (by with_unfolding_all rfl) (by with_unfolding_all first | exact Or.inl rfl | exact Or.inr rfl) ?_ (by with_unfolding_all rfl) (by with_unfolding_all first | exact .inl rfl | exact .inr rfl)
  | with_reducible refine ds_set (x := "bars") 5 (by with_unfolding_all exact sc_parse_channel.nd) (by with_unfolding_all rfl) (by with_unfolding_all first | exact Or.inl rfl | exact Or.inr rfl) ?_ (by with_unfolding_all rfl) (by with_unfolding_all first | exact .inl rfl | exact .inr rfl)
  | with_reducible refine ds_set (x := "found") 6 (by with_unfolding_all exact sc_parse_channel.nd) (by with_unfolding_all rfl) (by with_unfolding_all first | exact Or.inl rfl | exact Or.inr rfl) ?_ (by with_unfolding_all rfl) (by with_unfolding_all first | exact .inl rfl | exact .inr rfl))
local macro_rules | `(tactic| walk_at "stx") => `(tactic| first
  | with_reducible refine dsx_set (x := "text") 0 (by with_unfolding_all exact sc_parse_channel.nd) (by with_unfolding_all rfl) (by with_unfolding_all first | exact Or.inl rfl | exact Or.inr rfl) ?_ (by with_unfolding_all rfl) (by with_unfolding_all first | exact .inl rfl | exact .inr rfl)
  | with_reducible refine dsx_set (x := "words") 1 (by with_unfolding_all exact sc_parse_channel.nd) (by with_unfolding_all rfl) (by with_unfolding_all first | exact Or.inl rfl | exact Or.inr rfl) ?_ (by with_unfolding_all rfl) (by with_unfolding_all first | exact .inl rfl | exact .inr rfl)
  | with_reducible refine dsx_set (x := "between") 2 (by with_unfolding_all exact sc_parse_channel.nd) (by with_unfolding_all rfl) (by with_unfolding_all first | exact Or.inl rfl | exact Or.inr rfl) ?_ (by with_unfolding_all rfl) (by with_unfolding_all first | exact .inl rfl | exact .inr rfl)
  | with_reducible refine dsx_set (x := "word") 3 (by with_unfolding_all exact sc_parse_channel.nd) (by with_unfolding_all rfl) (by with_unfolding_all first | exact Or.inl rfl | exact Or.inr rfl) ?_ (by with_unfolding_all rfl) (by with_unfolding_all first | exact .inl rfl | exact .inr rfl)
  | with_reducible refine dsx_set (x := "pair") 4 (by with_unfolding_all exact sc_parse_channel.nd) (by with_unfolding_all rfl) (by with_unfolding_all first | exact Or.inl rfl | exact Or.inr rfl) ?_ (by with_unfolding_all rfl) (by with_unfolding_all first | exact .inl rfl | exact .inr rfl)
  | with_reducible refine dsx_set (x := "bars") 5 (by with_unfolding_all exact sc_parse_channel.nd) (by with_unfolding_all rfl) (by with_unfolding_all first | exact Or.inl rfl | exact Or.inr rfl) ?_ (by with_unfolding_all rfl) (by with_unfolding_all first | exact .inl rfl | exact .inr rfl)
  | with_reducible refine dsx_set (x := "found") 6 (by with_unfolding_all exact sc_parse_channel.nd) (by with_unfolding_all rfl) (by with_unfolding_all first | exact Or.inl rfl | exact Or.inr rfl) ?_ (by with_unfolding_all rfl) (by with_unfolding_all first | exact .inl rfl | exact .inr rfl))

local macro_rules | `(tactic| walk_at "lc word") => `(tactic| refine de_lc (t := .name 3) (own := [("word", 3)]) rfl sc_parse_channel.nd (by first | exact blkOk_by (N := ["text", "words", "between", "word", "pair", "bars", "found"]) (sc := defScope s_parse_channel) (by decide +kernel) | exact blkOk_by (N := ["text", "words", "between", "word", "pair", "bars", "found"]) (sc := relS _ (defScope s_parse_channel)) (by decide +kernel)) (by decide) (fun _ _ _ _ _ => pgx_name sc_parse_channel.nd rfl (by first | exact Or.inl rfl | exact Or.inr rfl)) ?_)
local macro_rules | `(tactic| walk_at "slc word") => `(tactic| first
  | refine ds_setLc (t := .name 3) (own := [("word", 3)]) 2 (y := "between") rfl sc_parse_channel.nd rfl rfl (sw_true rfl rfl rfl (by decide +kernel)) (by first | exact blkOk_by (N := ["text", "words", "between", "word", "pair", "bars", "found"]) (sc := defScope s_parse_channel) (by decide +kernel) | exact blkOk_by (N := ["text", "words", "between", "word", "pair", "bars", "found"]) (sc := relS _ (defScope s_parse_channel)) (by decide +kernel)) (by decide) (fun _ _ _ _ _ => pgx_name sc_parse_channel.nd rfl (by first | exact Or.inl rfl | exact Or.inr rfl)) ?_)
local macro_rules | `(tactic| walk_at "lc pair") => `(tactic| refine de_lc (t := .name 4) (own := [("pair", 4)]) rfl sc_parse_channel.nd (by first | exact blkOk_by (N := ["text", "words", "between", "word", "pair", "bars", "found"]) (sc := defScope s_parse_channel) (by decide +kernel) | exact blkOk_by (N := ["text", "words", "between", "word", "pair", "bars", "found"]) (sc := relS _ (defScope s_parse_channel)) (by decide +kernel)) (by decide) (fun _ _ _ _ _ => pgx_name sc_parse_channel.nd rfl (by first | exact Or.inl rfl | exact Or.inr rfl)) ?_)

theorem kx_parse_channel {cT : Value} (D : HasDef K mg "parse_channel" s_parse_channel ["text"]) (B : Bl mg) (E : KnowsE K mg "InvalidText" cT) (k1 : Knows P w K mg base 1 "channel_text" cChTx) (k2 : Knows P w K mg base 1 "numbers_of" cNums) (k3 : Knows P w K mg base 3 "is_channel" cIsCh) : KnowsX P w K mg base 4 "parse_channel" (cParse cT) := by
  refine knowsX_mkT D sc_parse_channel (by decide) (by decide) (fun _ _ _ _ ⟨_, e, _⟩ => by rw [e]; rfl) (fun f cdv A outer s H E' hr svs τ Q R hC => ?_)
  obtain ⟨d, rfl, hlen, q1, q2⟩ := hC
  refine dbxT_cons (dsxT_of ?_)
  cases d with
  | str x =>
    obtain ⟨hx, hxo⟩ := hlen x rfl
    clear hlen
    walk_at "gx"
    refine dbxT_cons (dsxT_of ?_)
    walk_at "gx"
    refine dex_of ?_
    refine de_split ?_
    walk_at "go"
    refine ⟨rfl, by omega, ?_⟩
    have wl := words_len x
    refine dbxT_cons (dsxT_setLc (t := .name 3) (own := [("word", 3)]) 2 (y := "between") rfl sc_parse_channel.nd rfl rfl (sw_true rfl rfl rfl (by decide +kernel)) (by first | exact blkOk_by (N := ["text", "words", "between", "word", "pair", "bars", "found"]) (sc := defScope s_parse_channel) (by decide +kernel) | exact blkOk_by (N := ["text", "words", "between", "word", "pair", "bars", "found"]) (sc := relS _ (defScope s_parse_channel)) (by decide +kernel)) (by decide) (fun _ _ _ _ _ => pgx_name sc_parse_channel.nd rfl (by first | exact Or.inl rfl | exact Or.inr rfl)) ?_)
    refine di_lst ?_
    refine de_step (lv := some 1) (po_some pe_int) (fun σ H Q q => ⟨1, rfl, q⟩) (by decide) ?_
    walk_at "nm"
    refine ⟨_, rfl, ?_, ?_⟩
    · rw [List.length_map]
      exact Nat.le_trans (idx_len (.inr rfl)) (by omega)
    refine ⟨_, rfl, ?_, fun _ _ _ => trivial, betD, fun d hd => ?_, ?_⟩
    · unfold pickL
      refine Nat.le_trans (List.length_filterMap_le _ _) ?_
      rw [List.length_map]
      exact Nat.le_trans (idx_len (.inr rfl)) (by omega)
    · have hd' := pick_mem hd
      obtain ⟨wd, hw, rfl⟩ := List.mem_map.mp hd'
      have hwl := wl.2 wd hw
      refine ⟨_, rfl, fun D acc hD s H C cl fp => ?_⟩
      refine deT_call1 ‹Knows _ _ _ _ _ _ "numbers_of" _› ‹Room _ _› rfl ?_
      refine deT_replace ?_
      walk_at "nm"
      refine ⟨_, rfl, by rw [repl_lit]; omega, ?_⟩
      refine ⟨_, rfl, Nat.le_trans (repl_len wd) (by omega), rfl, rfl⟩
    · rw [bet_list]
      refine dbxT_of ?_
      walk_at "gx"
      walk_at "lc pair"
      refine di_lst ?_
      walk_at "go"
      have bl : (betOf x).length ≤ 10001 := Nat.le_trans (bet_len x) (Nat.le_trans wl.1 (by omega))
      refine lcq_map (betOf x) tI (fun p => .bool (decide ((p.length : Int) = 2))) rfl (by omega) (fun p hp => ⟨_, rfl, fun D acc hD s H C cl fp => ?_⟩) ?_
      · unfold tI
        walk_at "go"
        rw [List.length_map]
        exact ⟨rfl, rfl⟩
      refine ⟨(betOf x).map fun p => decide ((p.length : Int) = 2), by show some _ = some _; rw [List.map_map]; rfl, _, rfl, fun h => ?_, fun h => ?_⟩
      · rw [all_two] at h
        walk_at "gx"
        refine q2 ?_
        show parseT x = none
        unfold parseT
        rw [if_neg (by simpa using h)]
      · rw [all_two] at h
        have h2 : (betOf x).all (fun p => decide (p.length = 2)) = true := by simpa using h
        clear h
        walk_at "gx"
        refine dex_of ?_
        walk_at "go"
        walk_at "lc word"
        refine di_lst ?_
        refine de_step (lv := none) po_none (fun σ H Q q => q) (by decide) ?_
        walk_at "nm"
        refine ⟨_, rfl, ?_, ?_⟩
        · rw [List.length_map]
          exact Nat.le_trans (idx_len (.inl rfl)) (by omega)
        refine ⟨_, rfl, ?_⟩
        rw [bars_list]
        have el : (evenW (Txt.split x (" " : Str))).length ≤ 10001 := Nat.le_trans (bars_len x) (Nat.le_trans wl.1 (by omega))
        refine lcq_map (evenW (Txt.split x (" " : Str))) .str (fun w => tI (numsOf w)) rfl (by omega) (fun wd hw => ⟨_, rfl, fun D acc hD s H C cl fp => ?_⟩) ?_
        · have hwl := wl.2 wd (pick_mem hw)
          walk_at "go"
          exact ⟨wd, rfl, by omega, rfl, rfl⟩
        walk_at "go"
        show Dbx _ _ _ _ _ _
        have at2 : ∀ p ∈ betOf x, ∀ j : Nat, j < 2 → atI (p.map PyData.int) (j : Int) = some (.int (p.getD j 0)) := fun p hp j hj => by
          have := List.all_eq_true.mp h2 p hp
          have hl : p.length = 2 := by simpa using this
          exact atI_int (i := (j : Int)) (by omega) (by omega)
        walk_at "gx"
        walk_at "go"
        walk_at "lc pair"
        refine di_lst ?_
        walk_at "go"
        refine lcq_map (betOf x) tI (fun p => .int (p.getD 0 0)) rfl (by omega) (fun p hp => ⟨_, rfl, fun D acc hD s H C cl fp => ?_⟩) ?_
        · unfold tI
          walk_at "go"
          refine ix_tup' (at2 p hp 0 (by decide)) ⟨rfl, rfl⟩
        walk_at "go"
        walk_at "lc pair"
        refine di_lst ?_
        walk_at "go"
        refine lcq_map (betOf x) tI (fun p => .int (p.getD 1 0)) rfl (by omega) (fun p hp => ⟨_, rfl, fun D acc hD s H C cl fp => ?_⟩) ?_
        · unfold tI
          walk_at "go"
          refine ix_tup' (at2 p hp 1 (by decide)) ⟨rfl, rfl⟩
        walk_at "go"
        show Dbx _ _ _ _ _ _
        have ef : PyData.tuple [.tuple ((evenW (Txt.split x (" " : Str))).map fun w => tI (numsOf w)), .tuple ((betOf x).map fun p => .int (p.getD 0 0)), .tuple ((betOf x).map fun p => .int (p.getD 1 0))] = chD (foundOf x) := by
          unfold chD foundOf barsOf tI
          simp only [List.map_map]
          rfl
        rw [ef]
        have hsm : Sm 3 (chD (foundOf x)) := by
          have lw : ∀ wd : Str, wd ∈ evenW (Txt.split x (" " : Str)) → (numsOf wd).length ≤ 10000 := fun wd hw => by
            rw [nums_len]
            exact Nat.le_trans (wl.2 wd (pick_mem hw)) hx
          refine ⟨Nat.le_of_ble_eq_true rfl, fun y hy => ?_⟩
          have hy' : y = .tuple ((foundOf x).bars.map tI) ∨ y = tI (foundOf x).legs ∨ y = tI (foundOf x).waits := by simpa using hy
          rcases hy' with rfl | rfl | rfl
          · refine ⟨by unfold foundOf barsOf; rw [List.length_map, List.length_map]; omega, fun z hz => ?_⟩
            obtain ⟨b, hb, rfl⟩ := List.mem_map.mp hz
            obtain ⟨wd, hw, rfl⟩ := List.mem_map.mp hb
            refine ⟨by rw [List.length_map]; have := lw wd hw; omega, fun u hu => ?_⟩
            obtain ⟨i, _, rfl⟩ := List.mem_map.mp hu
            trivial
          · refine ⟨by unfold foundOf; rw [List.length_map, List.length_map]; omega, fun u hu => ?_⟩
            obtain ⟨i, _, rfl⟩ := List.mem_map.mp hu
            trivial
          · refine ⟨by unfold foundOf; rw [List.length_map, List.length_map]; omega, fun u hu => ?_⟩
            obtain ⟨i, _, rfl⟩ := List.mem_map.mp hu
            trivial
        walk_at "gx"
        refine ⟨_, rfl, hsm, _, rfl, fun h => ⟨fun _ => ?_, fun h => Bool.noConfusion (show true = false from h)⟩, fun h => ?_⟩
        · walk_at "gx"
          refine q2 ?_
          show parseT x = none
          unfold parseT
          rw [if_pos h2, if_neg fun z => by rw [z.1] at h; exact Bool.noConfusion (show false = true from h)]
        · have hc : isChannel (chD (foundOf x)) = true := by simpa using h
          have ok := chOk_of hc
          walk_at "go"
          refine ⟨_, ok, rfl, ?_⟩
          walk_at "go"
          refine eq_pl (n := 0) (m := 0) rfl rfl (ok_ch ok) hxo (fun b hb => ?_)
          refine ⟨_, rfl, fun hn => ?_, fun hn => ?_⟩
          · have hb' : ¬ chText (foundOf x) = x := fun z => by
              have := hb.mpr (by rw [z])
              rw [this] at hn
              exact Bool.noConfusion (show false = true from hn)
            walk_at "gx"
            refine q2 ?_
            show parseT x = none
            unfold parseT
            rw [if_pos h2, if_neg fun z => hb' z.2]
          · have hb' : chText (foundOf x) = x := by
              cases b with
              | true => have := hb.mp rfl; injection this
              | false => exact Bool.noConfusion (show true = false from hn)
            walk_at "gx"
            refine q1 _ ?_
            show parseT x = some _
            unfold parseT
            rw [if_pos h2, if_pos ⟨hc, hb'⟩]
  | _ =>
    walk_at "gx"
    exact q2 rfl
end

open TL PySem.StrLaws
section
variable {P : Program} {w : World} {K : PySem.W.Frag} {mg : Str → Option Value} {base : Heap}
def cCall72 (cT : Value) : CtrX := fun svs τ Q R => ∃ k sv, svs = [k, sv] ∧ cParse cT [sv] τ Q R
abbrev s__law_call : Stmt := topS 37
theorem sc__law_call : FnScope ["_law_way", "_law_arguments"] ["_law_way", "_law_arguments"] (defScope s__law_call) := ⟨rfl, rfl, rfl, by decide +kernel, rfl, by decide +kernel, by decide +kernel⟩
local macro_rules | `(tactic| walk_at "nm") => `(tactic| first
  | with_reducible refine de_name (x := "_law_way") 0 (by with_unfolding_all rfl) (by with_unfolding_all first | exact Or.inl rfl | exact Or.inr (Or.inl rfl) | exact Or.inr (Or.inr rfl)) (by with_unfolding_all rfl) ?_ (by with_unfolding_all decide) (by with_unfolding_all decide)
  | with_reducible refine de_name (x := "_law_arguments") 1 (by with_unfolding_all rfl) (by with_unfolding_all first | exact Or.inl rfl | exact Or.inr (Or.inl rfl) | exact Or.inr (Or.inr rfl)) (by with_unfolding_all rfl) ?_ (by with_unfolding_all decide) (by with_unfolding_all decide))
local macro_rules | `(tactic| walk_at "st") => `(tactic| first
  | with_reducible refine ds_set (x := "_law_way") 0 (by with_unfolding_all exact sc__law_call.nd) (by with_unfolding_all rfl) (by with_unfolding_all first | exact Or.inl rfl | exact Or.inr rfl) ?_ (by with_unfolding_all rfl) (by with_unfolding_all first | exact .inl rfl | exact .inr rfl)
  | with_reducible refine ds_set (x := "_law_arguments") 1 (by with_unfolding_all exact sc__law_call.nd) (by with_unfolding_all rfl) (by with_unfolding_all first | exact Or.inl rfl | exact Or.inr rfl) ?_ (by with_unfolding_all rfl) (by with_unfolding_all first | exact .inl rfl | exact .inr rfl))
local macro_rules | `(tactic| walk_at "stx") => `(tactic| first
  | with_reducible refine dsx_set (x := "_law_way") 0 (by with_unfolding_all exact sc__law_call.nd) (by with_unfolding_all rfl) (by with_unfolding_all first | exact Or.inl rfl | exact Or.inr rfl) ?_ (by with_unfolding_all rfl) (by with_unfolding_all first | exact .inl rfl | exact .inr rfl)
  | with_reducible refine dsx_set (x := "_law_arguments") 1 (by with_unfolding_all exact sc__law_call.nd) (by with_unfolding_all rfl) (by with_unfolding_all first | exact Or.inl rfl | exact Or.inr rfl) ?_ (by with_unfolding_all rfl) (by with_unfolding_all first | exact .inl rfl | exact .inr rfl))



theorem kx_law_call {cT : Value} (D : HasDef K mg "_law_call" s__law_call ["_law_way", "_law_arguments"]) (k4 : KnowsX P w K mg base 4 "parse_channel" (cParse cT)) : KnowsX P w K mg base 8 "_law_call" (cCall72 cT) := by
  refine knowsX_mk D sc__law_call (fun _ _ _ _ ⟨_, _, e, _⟩ => by rw [e]; rfl) (fun f cdv A outer s H E' hr svs τ Q R hC => ?_)
  obtain ⟨k, sv, rfl, q⟩ := hC
  walk_at "gx"
  exact q
theorem sum_le {n : Nat} : ∀ {ws : List Str}, (∀ w ∈ ws, w.length ≤ n) → (ws.map (·.length)).sum ≤ n * ws.length
  | [], _ => Nat.zero_le _
  | w :: ws, h => by
    have h1 := h w (by simp)
    have h2 := sum_le fun v hv => h v (List.mem_cons_of_mem _ hv)
    rw [List.map_cons, List.sum_cons, List.length_cons, Nat.mul_succ]
    omega
theorem sum_two {α : Type} (f : α → Nat) (hf : ∀ x, f x = 2) : ∀ ps : List α, (ps.map f).sum = 2 * ps.length
  | [] => rfl
  | p :: ps => by
    rw [List.map_cons, List.sum_cons, sum_two f hf ps, hf p, List.length_cons]
    omega
theorem words_sum {c : Chan} (h : ChOk c) : ((wordsOf c).map (·.length)).sum ≤ 8 * (wordsOf c).length ∧ (wordsOf c).length ≤ 5 := by
  have hl : (wordsOf c).length = 1 + 2 * (chRows c).length := by
    unfold wordsOf
    rw [List.length_cons, List.length_flatMap]
    have : ((chRows c).map fun p : List Int × Int × Int => ([legW p.2.1 p.2.2, barT p.1] : List Str).length).sum = 2 * (chRows c).length := by
      exact sum_two _ (fun _ => rfl) _
    rw [this]
    omega
  have hr := h.rows
  have hb3 := h.b3
  refine ⟨sum_le fun w hw => ?_, by omega⟩
  rcases List.mem_cons.mp hw with e | e
  · rw [e]
    exact len_head h
  · obtain ⟨p, hp, hm⟩ := List.mem_flatMap.mp e
    obtain ⟨h1, h2, h3, h4⟩ := h.row hp
    have hm' : w = legW p.2.1 p.2.2 ∨ w = barT p.1 := by simpa using hm
    rcases hm' with e | e
    · rw [e, len_tl, leg_tl h3.1 h3.2 h4.1 h4.2]
      exact (by decide : 3 ≤ 8)
    · rw [e, len_bar h1]
      exact h2
theorem setS_ln {l : Addr} {m m' : MO} {τ : Store} : setS l m ((l, m') :: τ) = (l, m) :: τ := if_pos rfl
def wordsTo (c : Chan) (i : Nat) : List Str := (List.range i).flatMap fun k => if k = 0 then [barT (barAt c 0)] else [legW (c.legs.getD (k - 1) 0) (c.waits.getD (k - 1) 0), barT (barAt c k)]
theorem wordsTo_succ (c : Chan) (i : Nat) : wordsTo c (i + 1) = wordsTo c i ++ if i = 0 then [barT (barAt c 0)] else [legW (c.legs.getD (i - 1) 0) (c.waits.getD (i - 1) 0), barT (barAt c i)] := by
  unfold wordsTo
  rw [List.range_succ, List.flatMap_append]
  simp
theorem words_all {c : Chan} (h : ChOk c) : wordsTo c c.bars.length = wordsOf c := by
  have hb := h.b1
  have hb3 := h.b3
  have hll := h.ll
  have hwl := h.wl
  clear h
  obtain ⟨bars, legs, waits⟩ := c
  simp only at hb hb3 hll hwl
  match bars, legs, waits, hb, hb3, hll, hwl with
  | [b0], [], [], _, _, _, _ => rfl
  | [b0, b1], [l0], [w0], _, _, _, _ => rfl
  | [b0, b1, b2], [l0, l1], [w0, w1], _, _, _, _ => rfl
theorem wordsTo_len (c : Chan) (i : Nat) : (wordsTo c i).length ≤ 2 * i := by
  induction i with
  | zero => exact Nat.le_refl _
  | succ i ih =>
    rw [wordsTo_succ, List.length_append]
    split <;> simp <;> omega
def cLine : Ctr := fun svs τ Q => ∃ c, ChOk c ∧ svs = [.val (chD c)] ∧ Q (.val (.str (chText c))) τ
abbrev lnE (c : Chan) (l : Addr) (v2 v3 : Option MV) : En := [some (.val (chD c)), some (.hdl l), v2, v3]
abbrev s__law_line : Stmt := topS 38
theorem sc__law_line : FnScope ["_law_channel_here", "_law_words", "_law_k", "_law_depth"] ["_law_channel_here"] (defScope s__law_line) := ⟨rfl, rfl, rfl, by decide +kernel, rfl, by decide +kernel, by decide +kernel⟩
local macro_rules | `(tactic| walk_at "nm") => `(tactic| first
  | with_reducible refine de_name (x := "_law_channel_here") 0 (by with_unfolding_all rfl) (by with_unfolding_all first | exact Or.inl rfl | exact Or.inr (Or.inl rfl) | exact Or.inr (Or.inr rfl)) (by with_unfolding_all rfl) ?_ (by with_unfolding_all decide) (by with_unfolding_all decide)
  | with_reducible refine de_name (x := "_law_words") 1 (by with_unfolding_all rfl) (by with_unfolding_all first | exact Or.inl rfl | exact Or.inr (Or.inl rfl) | exact Or.inr (Or.inr rfl)) (by with_unfolding_all rfl) ?_ (by with_unfolding_all decide) (by with_unfolding_all decide)
  | with_reducible refine de_name (x := "_law_k") 2 (by with_unfolding_all rfl) (by with_unfolding_all first | exact Or.inl rfl | exact Or.inr (Or.inl rfl) | exact Or.inr (Or.inr rfl)) (by with_unfolding_all rfl) ?_ (by with_unfolding_all decide) (by with_unfolding_all decide)
  | with_reducible refine de_name (x := "_law_depth") 3 (by with_unfolding_all rfl) (by with_unfolding_all first | exact Or.inl rfl | exact Or.inr (Or.inl rfl) | exact Or.inr (Or.inr rfl)) (by with_unfolding_all rfl) ?_ (by with_unfolding_all decide) (by with_unfolding_all decide))
local macro_rules | `(tactic| walk_at "st") => `(tactic| first
  | with_reducible refine ds_set (x := "_law_channel_here") 0 (by with_unfolding_all exact sc__law_line.nd) (by with_unfolding_all rfl) (by with_unfolding_all first | exact Or.inl rfl | exact Or.inr rfl) ?_ (by with_unfolding_all rfl) (by with_unfolding_all first | exact .inl rfl | exact .inr rfl)
  | with_reducible refine ds_set (x := "_law_words") 1 (by with_unfolding_all exact sc__law_line.nd) (by with_unfolding_all rfl) (by with_unfolding_all first | exact Or.inl rfl | exact Or.inr rfl) ?_ (by with_unfolding_all rfl) (by with_unfolding_all first | exact .inl rfl | exact .inr rfl)
  | with_reducible refine ds_set (x := "_law_k") 2 (by with_unfolding_all exact sc__law_line.nd) (by with_unfolding_all rfl) (by with_unfolding_all first | exact Or.inl rfl | exact Or.inr rfl) ?_ (by with_unfolding_all rfl) (by with_unfolding_all first | exact .inl rfl | exact .inr rfl)
  | with_reducible refine ds_set (x := "_law_depth") 3 (by with_unfolding_all exact sc__law_line.nd) (by with_unfolding_all rfl) (by with_unfolding_all first | exact Or.inl rfl | exact Or.inr rfl) ?_ (by with_unfolding_all rfl) (by with_unfolding_all first | exact .inl rfl | exact .inr rfl))
local macro_rules | `(tactic| walk_at "stx") => `(tactic| first
  | with_reducible refine dsx_set (x := "_law_channel_here") 0 (by with_unfolding_all exact sc__law_line.nd) (by with_unfolding_all rfl) (by with_unfolding_all first | exact Or.inl rfl | exact Or.inr rfl) ?_ (by with_unfolding_all rfl) (by with_unfolding_all first | exact .inl rfl | exact .inr rfl)
  | with_reducible refine dsx_set (x := "_law_words") 1 (by with_unfolding_all exact sc__law_line.nd) (by with_unfolding_all rfl) (by with_unfolding_all first | exact Or.inl rfl | exact Or.inr rfl) ?_ (by with_unfolding_all rfl) (by with_unfolding_all first | exact .inl rfl | exact .inr rfl)
  | with_reducible refine dsx_set (x := "_law_k") 2 (by with_unfolding_all exact sc__law_line.nd) (by with_unfolding_all rfl) (by with_unfolding_all first | exact Or.inl rfl | exact Or.inr rfl) ?_ (by with_unfolding_all rfl) (by with_unfolding_all first | exact .inl rfl | exact .inr rfl)
  | with_reducible refine dsx_set (x := "_law_depth") 3 (by with_unfolding_all exact sc__law_line.nd) (by with_unfolding_all rfl) (by with_unfolding_all first | exact Or.inl rfl | exact Or.inr rfl) ?_ (by with_unfolding_all rfl) (by with_unfolding_all first | exact .inl rfl | exact .inr rfl))

local macro_rules | `(tactic| walk_at "lc _law_depth") => `(tactic| refine de_lc (t := .name 3) (own := [("_law_depth", 3)]) rfl sc__law_line.nd (by first | exact blkOk_by (N := ["_law_channel_here", "_law_words", "_law_k", "_law_depth"]) (sc := defScope s__law_line) (by decide +kernel) | exact blkOk_by (N := ["_law_channel_here", "_law_words", "_law_k", "_law_depth"]) (sc := relS _ (defScope s__law_line)) (by decide +kernel)) (by decide) (fun _ _ _ _ _ => pgx_name sc__law_line.nd rfl (by first | exact Or.inl rfl | exact Or.inr rfl)) ?_)

theorem kn_law_line (D : HasDef K mg "_law_line" s__law_line ["_law_channel_here"]) (B : Bl mg) : Knows P w K mg base 1 "_law_line" cLine := by
  refine knows_mk D sc__law_line (fun _ _ _ ⟨_, _, e, _⟩ => by rw [e]; rfl) (fun f cdv A outer s H E hr svs τ Q hC => ?_)
  obtain ⟨c, ok, rfl, q⟩ := hC
  have b1 := ok.b1
  have b3 := ok.b3
  have ll := ok.ll
  have wl := ok.wl
  refine db_cons ?_
  walk_at "st"
  refine de_lstM ?_
  walk_at "go"
  intro l hl
  refine db_seq (fun ρ' τ' => ∃ v2 v3, τ' = (l, .lst ((wordsOf c).map .str)) :: τ ∧ ρ' = lnE c l v2 v3) ?_ ?_
  · refine ds_for (t := .name 2) rfl PassesOwn.never (pgx_name sc__law_line.nd rfl (by first | exact Or.inl rfl | exact Or.inr rfl)) (di_range1 ‹Bl _› rfl ?_)
    walk_at "go"
    rw [List.length_map]
    refine ⟨by omega, by omega, fun i ρ' τ' => ∃ v2 v3, τ' = (l, .lst ((wordsTo c i).map .str)) :: τ ∧ ρ' = lnE c l v2 v3, ⟨_, _, rfl, rfl⟩, fun _ _ _ _ => trivial, ?_, ?_⟩
    · rintro i dd ρ' τ3 hd ⟨v2, v3, rfl, rfl⟩
      have hi : i < c.bars.length := by
        have := (List.getElem?_eq_some_iff.mp hd).1
        rw [rangeD_length] at this
        omega
      change (rangeD 0 (c.bars.length : Int).toNat)[i]? = _ at hd
      rw [rangeD_get (by omega), Int.zero_add] at hd
      cases hd
      have hbm : barAt c i ∈ c.bars := by
        unfold barAt
        rw [List.getD_eq_getElem?_getD, List.getElem?_eq_getElem hi]
        exact List.getElem_mem hi
      have bv := ok.bv _ hbm
      have bl := (ok.bl _ hbm).2
      have wtl := wordsTo_len c i
      refine ⟨_, rfl, ?_⟩
      refine db_seq (fun ρ' τ' => ∃ v3, τ' = (l, .lst ((wordsTo c i ++ if i = 0 then [] else [legW (c.legs.getD (i - 1) 0) (c.waits.getD (i - 1) 0)]).map .str)) :: τ ∧ ρ' = lnE c l (some (.val (.int (i : Nat)))) v3) ?_ ?_
      · walk_at "go"
        refine ⟨fun h => ?_, fun h => ?_⟩
        · have h0 : i ≠ 0 := by have : (0 : Int) < (i : Int) := by simpa using h
                                omega
          have ml : c.legs.getD (i - 1) 0 ∈ c.legs := getD_mem (by omega)
          have mw : c.waits.getD (i - 1) 0 ∈ c.waits := getD_mem (by omega)
          have vl := ok.lv _ ml
          have vw := ok.wv _ mw
          walk_at "go"
          refine de_append ?_
          walk_at "go"
          refine ⟨l, _, rfl, lookup_top, ?_⟩
          walk_at "go"
          refine de_strI ‹Bl _› rfl ?_
          walk_at "go"
          refine ix_tup' (show atI (c.legs.map PyData.int) ((i : Int) - 1) = some (.int (c.legs.getD (i - 1) 0)) by rw [atI_int (by omega) (by omega), show ((i : Int) - 1).toNat = i - 1 by omega]) ?_
          refine ⟨_, rfl, dig_log (by omega) vl.2, ?_⟩
          have g1 := len_dg (x := c.legs.getD (i - 1) 0) (by omega) vl.2
          have g2 := len_dg (x := c.waits.getD (i - 1) 0) vw.1 (by omega)
          have g3 := gap_lit.2.1
          walk_at "go"
          refine plus_str (i := dgS (c.legs.getD (i - 1) 0)) (j := ("+" : Str)) (by rw [g1, g3]; decide) ?_
          refine de_strI ‹Bl _› rfl ?_
          walk_at "go"
          refine ix_tup' (show atI (c.waits.map PyData.int) ((i : Int) - 1) = some (.int (c.waits.getD (i - 1) 0)) by rw [atI_int (by omega) (by omega), show ((i : Int) - 1).toNat = i - 1 by omega]) ?_
          refine ⟨_, rfl, dig_log vw.1 (by omega), ?_⟩
          refine plus_str (i := dgS (c.legs.getD (i - 1) 0) ++ ("+" : Str)) (j := dgS (c.waits.getD (i - 1) 0)) (by rw [Str.length_append, g1, g2, g3]; decide) ?_
          refine ⟨_, _, rfl, lookup_top, by rw [List.length_map]; omega, ?_⟩
          walk_at "go"
          refine ⟨v3, ?_, rfl⟩
          rw [setS_ln, if_neg h0, List.map_append]
          rfl
        · have h0 : i = 0 := by have : ¬ (0 : Int) < (i : Int) := by simpa using h
                                omega
          walk_at "go"
          refine ⟨v3, ?_, rfl⟩
          rw [if_pos h0, List.append_nil]
      rintro ρ' τ4 ⟨v3', rfl, rfl⟩
      walk_at "go"
      refine de_append ?_
      walk_at "go"
      refine ⟨l, _, rfl, lookup_top, ?_⟩
      walk_at "go"
      refine de_join ?_
      walk_at "go"
      walk_at "lc _law_depth"
      refine di_tup ?_
      walk_at "go"
      refine ix_tup' (atI_bar hi) ?_
      refine ⟨_, rfl, ?_⟩
      refine lcq_map (barAt c i) .int (fun x => .str (dgS x)) rfl (by omega) (fun x hx => ⟨_, rfl, fun D acc hD s H C cl fp => ?_⟩) ?_
      · refine de_strI ‹Bl _› rfl ?_
        walk_at "go"
        exact ⟨dig_log (bv x hx).1 (by have := (bv x hx).2; omega), rfl, rfl⟩
      refine ⟨(barAt c i).map dgS, by show some _ = some _; rw [List.map_map]; rfl, by rw [bar_sum bv, List.length_map, show ("" : Str).length = 0 from by decide +kernel]; omega, ?_⟩
      refine ⟨_, _, rfl, lookup_top, ?_, ?_⟩
      · rw [List.length_map, List.length_append]
        split <;> simp <;> omega
      walk_at "go"
      refine ⟨_, _, ?_, rfl⟩
      rw [setS_ln, wordsTo_succ]
      by_cases h0 : i = 0
      · subst h0
        simp [barT]
      · rw [if_neg h0, if_neg h0]
        simp [barT]
    · rintro ρ' τ3 ⟨v2, v3, rfl, rfl⟩
      refine ⟨v2, v3, ?_, rfl⟩
      rw [rangeD_length, show (c.bars.length : Int).toNat = c.bars.length by omega, words_all ok]
  · rintro ρ' τ3 ⟨v2, v3, rfl, rfl⟩
    walk_at "go"
    refine de_left ?_
    refine de_join ?_
    walk_at "go"
    refine ⟨wordsOf c, datOf_hdl lookup_top, ?_, ?_⟩
    · obtain ⟨w1, w2⟩ := words_sum ok
      rw [gap_lit.1]
      omega
    · exact ⟨_, _, rfl, by rw [← line_ch ok] at q; exact q⟩
end

/-! ### the law -/
-- ERRS cT=InvalidText cC=InvalidChannel
open TL PySem.StrLaws
section
variable {P : Program} {w : World} {K : PySem.W.Frag} {mg : Str → Option Value} {base : Heap} {T : Addr} {cs : List Addr}
structure E72 (K : PySem.W.Frag) (T : Addr) (cs : List Addr) (cT : Value) : Prop where
  e10 : ErrNo K T cs cT 10
theorem pl_raised (n : Nat) : Pl 1 (raisedD n) := fun x hx => by
  simp only [List.mem_cons, List.not_mem_nil, or_false] at hx
  rcases hx with rfl | rfl
  · exact (by decide +kernel : PyData.strOk "raised" = true)
  · trivial
theorem pl_returned {n : Nat} {d : PyData} (h : Pl (n + 1) d) : Pl (n + 2) (returnedD d) := fun x hx => by
  simp only [List.mem_cons, List.not_mem_nil, or_false] at hx
  rcases hx with rfl | rfl
  · exact (by decide +kernel : PyData.strOk "returned" = true)
  · exact h
theorem pl_tI {n : Nat} (xs : List Int) : Pl (n + 1) (tI xs) := fun x hx => by
  obtain ⟨y, _, rfl⟩ := List.mem_map.mp hx
  cases n <;> trivial
theorem pl_chD {n : Nat} (c : Chan) : Pl (n + 3) (chD c) := fun x hx => by
  simp only [List.mem_cons, List.not_mem_nil, or_false] at hx
  rcases hx with rfl | rfl | rfl
  · intro y hy
    obtain ⟨b, _, rfl⟩ := List.mem_map.mp hy
    exact pl_tI b
  · exact pl_tI _
  · exact pl_tI _
def sgS : List Str := (tl ("0123456789+- " : Str)).map (fun c => (⟨#[c]⟩ : Str)) ++ [(" 1+0 3" : Str), ("" : Str)]
theorem sg_ok : ∀ s ∈ sgS, s.length ≤ 10 ∧ ∀ c ∈ tl s, c < 200 := by decide +kernel
theorem sg_D : signsD ("0123456789+- " : Str) ++ [PyData.str (" 1+0 3" : Str), PyData.str ("" : Str)] = sgS.map PyData.str := by
  unfold sgS signsD
  rw [List.map_append, List.map_map]
  rfl
theorem sg_len : sgS.length = 15 := by decide +kernel
theorem low_cut {z : Str} {lo hi : Option Int} (h : ∀ c ∈ tl z, c < 200) : ∀ c ∈ tl (cutS z lo hi), c < 200 := fun c hc => h c (List.mem_of_mem_drop (List.mem_of_mem_take hc))
theorem low_app {a b : Str} (ha : ∀ c ∈ tl a, c < 200) (hb : ∀ c ∈ tl b, c < 200) : ∀ c ∈ tl (a ++ b), c < 200 := fun c hc => by
  rw [tl_append] at hc
  rcases List.mem_append.mp hc with e | e
  · exact ha c e
  · exact hb c e
theorem parse_inv {t : Str} {c : Chan} (h : parseD (.str t) = some c) : ChOk c ∧ chText c = t := by
  have h' : parseT t = some c := h
  unfold parseT at h'
  split at h'
  · split at h'
    · rename_i z
      cases h'
      exact ⟨chOk_of z.1, z.2⟩
    · cases h'
  · cases h'
def badS : List Str := ["", " ", "7", "a", "1 ", " 1", "1 2", "1 2+1", "1 2+1 ", "1 2+4 3", "1 0+1 3", "1 21 3", "1 +21 3", "1 2+1  3", "1 2+1 3 4", "000000000", "1 10+1 3", "1 2+1 3 1+1 4 1+1 5", "-1"]
theorem badS_ok : ∀ s ∈ badS, parseT s = none ∧ s.length ≤ 100 ∧ ∀ c ∈ tl s, c < 200 := by decide +kernel
def badsD1 : List PyData := [.none, .int 5, .str "", .str " ", .str "7", .str "a", .str "1 ", .str " 1", .str "1 2", .str "1 2+1", .str "1 2+1 ", .str "1 2+4 3", .str "1 0+1 3", .str "1 21 3", .str "1 +21 3"]
def badsD2 (c : Chan) : List PyData := [.str "1 2+1  3", .str "1 2+1 3 4", .str "000000000", .str "1 10+1 3", .str "1 2+1 3 1+1 4 1+1 5", chD c, .list [.str (chText c)], .bool true, .str "-1"]
theorem bads_ok {c : Chan} : ∀ d ∈ badsD1 ++ badsD2 c, parseD d = none ∧ ∀ x, d = .str x → x.length ≤ 10000 ∧ PyData.strOk x = true := by
  intro d hd
  have st : ∀ s ∈ badS, parseD (.str s) = none ∧ ∀ x, PyData.str s = .str x → x.length ≤ 10000 ∧ PyData.strOk x = true := fun s hs => by
    obtain ⟨h1, h2, h3⟩ := badS_ok s hs
    refine ⟨h1, fun x e => ?_⟩
    injection e with e
    rw [← e]
    exact ⟨Nat.le_trans h2 (by decide), ok_tl h3⟩
  have nst : ∀ d : PyData, (∀ x, d ≠ .str x) → parseD d = none ∧ ∀ x, d = .str x → x.length ≤ 10000 ∧ PyData.strOk x = true := fun d h => by
    refine ⟨?_, fun x e => absurd e (h x)⟩
    cases d <;> first | rfl | exact absurd rfl (h _)
  rcases List.mem_append.mp hd with e | e
  · unfold badsD1 at e
    simp only [List.mem_cons, List.not_mem_nil, or_false] at e
    rcases e with rfl | rfl | e
    · exact nst _ fun x z => by cases z
    · exact nst _ fun x z => by cases z
    rcases e with rfl | rfl | rfl | rfl | rfl | rfl | rfl | rfl | rfl | rfl | rfl | rfl | rfl <;> exact st _ (by unfold badS; simp only [List.mem_cons, true_or, or_true])
  · unfold badsD2 at e
    simp only [List.mem_cons, List.not_mem_nil, or_false] at e
    rcases e with rfl | rfl | rfl | rfl | rfl | rfl | rfl | rfl | rfl
    · exact st _ (by unfold badS; simp only [List.mem_cons, true_or, or_true])
    · exact st _ (by unfold badS; simp only [List.mem_cons, true_or, or_true])
    · exact st _ (by unfold badS; simp only [List.mem_cons, true_or, or_true])
    · exact st _ (by unfold badS; simp only [List.mem_cons, true_or, or_true])
    · exact st _ (by unfold badS; simp only [List.mem_cons, true_or, or_true])
    · exact nst _ fun x z => by unfold chD at z; cases z
    · exact nst _ fun x z => by cases z
    · exact nst _ fun x z => by cases z
    · exact st _ (by unfold badS; simp only [List.mem_cons, true_or, or_true])
abbrev lastC : Chan := ⟨[[0, 2, 4, 2], [1, 3, 3]], [2], [1]⟩
theorem last_ok : parseT "0242 2+1 133" = some lastC ∧ ("0242 2+1 133" : Str).length ≤ 100 ∧ ∀ c ∈ tl ("0242 2+1 133" : Str), c < 200 := by decide +kernel
abbrev k72E (ns : List Int) (tw : Addr) (c : Chan) (v4 v5 v6 v7 v8 : Option MV) : En := [some (.scr ns), some (.hdl tw), some (.val (chD c)), some (.val (.str (chText c))), v4, v5, v6, v7, v8, none, none]
abbrev s_law : Stmt := topS 39
theorem sc_law : FnScope ["_law_script", "_law_town_here", "_law_channel_here", "_law_line_here", "_law_k", "_law_at", "_law_sign", "_law_other", "_law_told", "_law_bads", "_law_bad"] ["_law_script"] (defScope s_law) := ⟨rfl, rfl, rfl, by decide +kernel, rfl, by decide +kernel, by decide +kernel⟩
local macro_rules | `(tactic| walk_at "nm") => `(tactic| first
  | with_reducible refine de_name (x := "_law_script") 0 (by with_unfolding_all rfl) (by with_unfolding_all first | exact Or.inl rfl | exact Or.inr (Or.inl rfl) | exact Or.inr (Or.inr rfl)) (by with_unfolding_all rfl) ?_ (by with_unfolding_all decide) (by with_unfolding_all decide)
  | with_reducible refine de_name (x := "_law_town_here") 1 (by with_unfolding_all rfl) (by with_unfolding_all first | exact Or.inl rfl | exact Or.inr (Or.inl rfl) | exact Or.inr (Or.inr rfl)) (by with_unfolding_all rfl) ?_ (by with_unfolding_all decide) (by with_unfolding_all decide)
  | with_reducible refine de_name (x := "_law_channel_here") 2 (by with_unfolding_all rfl) (by with_unfolding_all first | exact Or.inl rfl | exact Or.inr (Or.inl rfl) | exact Or.inr (Or.inr rfl)) (by with_unfolding_all rfl) ?_ (by with_unfolding_all decide) (by with_unfolding_all decide)
  | with_reducible refine de_name (x := "_law_line_here") 3 (by with_unfolding_all rfl) (by with_unfolding_all first | exact Or.inl rfl | exact Or.inr (Or.inl rfl) | exact Or.inr (Or.inr rfl)) (by with_unfolding_all rfl) ?_ (by with_unfolding_all decide) (by with_unfolding_all decide)
  | with_reducible refine de_name (x := "_law_k") 4 (by with_unfolding_all rfl) (by with_unfolding_all first | exact Or.inl rfl | exact Or.inr (Or.inl rfl) | exact Or.inr (Or.inr rfl)) (by with_unfolding_all rfl) ?_ (by with_unfolding_all decide) (by with_unfolding_all decide)
  | with_reducible refine de_name (x := "_law_at") 5 (by with_unfolding_all rfl) (by with_unfolding_all first | exact Or.inl rfl | exact Or.inr (Or.inl rfl) | exact Or.inr (Or.inr rfl)) (by with_unfolding_all rfl) ?_ (by with_unfolding_all decide) (by with_unfolding_all decide)
  | with_reducible refine de_name (x := "_law_sign") 6 (by with_unfolding_all rfl) (by with_unfolding_all first | exact Or.inl rfl | exact Or.inr (Or.inl rfl) | exact Or.inr (Or.inr rfl)) (by with_unfolding_all rfl) ?_ (by with_unfolding_all decide) (by with_unfolding_all decide)
  | with_reducible refine de_name (x := "_law_other") 7 (by with_unfolding_all rfl) (by with_unfolding_all first | exact Or.inl rfl | exact Or.inr (Or.inl rfl) | exact Or.inr (Or.inr rfl)) (by with_unfolding_all rfl) ?_ (by with_unfolding_all decide) (by with_unfolding_all decide)
  | with_reducible refine de_name (x := "_law_told") 8 (by with_unfolding_all rfl) (by with_unfolding_all first | exact Or.inl rfl | exact Or.inr (Or.inl rfl) | exact Or.inr (Or.inr rfl)) (by with_unfolding_all rfl) ?_ (by with_unfolding_all decide) (by with_unfolding_all decide)
  | with_reducible refine de_name (x := "_law_bads") 9 (by with_unfolding_all rfl) (by with_unfolding_all first | exact Or.inl rfl | exact Or.inr (Or.inl rfl) | exact Or.inr (Or.inr rfl)) (by with_unfolding_all rfl) ?_ (by with_unfolding_all decide) (by with_unfolding_all decide)
  | with_reducible refine de_name (x := "_law_bad") 10 (by with_unfolding_all rfl) (by with_unfolding_all first | exact Or.inl rfl | exact Or.inr (Or.inl rfl) | exact Or.inr (Or.inr rfl)) (by with_unfolding_all rfl) ?_ (by with_unfolding_all decide) (by with_unfolding_all decide))
local macro_rules | `(tactic| walk_at "st") => `(tactic| first
  | with_reducible refine ds_set (x := "_law_script") 0 (by with_unfolding_all exact sc_law.nd) (by with_unfolding_all rfl) (by with_unfolding_all first | exact Or.inl rfl | exact Or.inr rfl) ?_ (by with_unfolding_all rfl) (by with_unfolding_all first | exact .inl rfl | exact .inr rfl)
  | with_reducible refine ds_set (x := "_law_town_here") 1 (by with_unfolding_all exact sc_law.nd) (by with_unfolding_all rfl) (by with_unfolding_all first | exact Or.inl rfl | exact Or.inr rfl) ?_ (by with_unfolding_all rfl) (by with_unfolding_all first | exact .inl rfl | exact .inr rfl)
  | with_reducible refine ds_set (x := "_law_channel_here") 2 (by with_unfolding_all exact sc_law.nd) (by with_unfolding_all rfl) (by with_unfolding_all first | exact Or.inl rfl | exact Or.inr rfl) ?_ (by with_unfolding_all rfl) (by with_unfolding_all first | exact .inl rfl | exact .inr rfl)
  | with_reducible refine ds_set (x := "_law_line_here") 3 (by with_unfolding_all exact sc_law.nd) (by with_unfolding_all rfl) (by with_unfolding_all first | exact Or.inl rfl | exact Or.inr rfl) ?_ (by with_unfolding_all rfl) (by with_unfolding_all first | exact .inl rfl | exact .inr rfl)
  | with_reducible refine ds_set (x := "_law_k") 4 (by with_unfolding_all exact sc_law.nd) (by with_unfolding_all rfl) (by with_unfolding_all first | exact Or.inl rfl | exact Or.inr rfl) ?_ (by with_unfolding_all rfl) (by with_unfolding_all first | exact .inl rfl | exact .inr rfl)
  | with_reducible refine ds_set (x := "_law_at") 5 (by with_unfolding_all exact sc_law.nd) (by with_unfolding_all rfl) (by with_unfolding_all first | exact Or.inl rfl | exact Or.inr rfl) ?_ (by with_unfolding_all rfl) (by with_unfolding_all first | exact .inl rfl | exact .inr rfl)
  | with_reducible refine ds_set (x := "_law_sign") 6 (by with_unfolding_all exact sc_law.nd) (by with_unfolding_all rfl) (by with_unfolding_all first | exact Or.inl rfl | exact Or.inr rfl) ?_ (by with_unfolding_all rfl) (by with_unfolding_all first | exact .inl rfl | exact .inr rfl)
  | with_reducible refine ds_set (x := "_law_other") 7 (by with_unfolding_all exact sc_law.nd) (by with_unfolding_all rfl) (by with_unfolding_all first | exact Or.inl rfl | exact Or.inr rfl) ?_ (by with_unfolding_all rfl) (by with_unfolding_all first | exact .inl rfl | exact .inr rfl)
  | with_reducible refine ds_set (x := "_law_told") 8 (by with_unfolding_all exact sc_law.nd) (by with_unfolding_all rfl) (by with_unfolding_all first | exact Or.inl rfl | exact Or.inr rfl) ?_ (by with_unfolding_all rfl) (by with_unfolding_all first | exact .inl rfl | exact .inr rfl)
  | with_reducible refine ds_set (x := "_law_bads") 9 (by with_unfolding_all exact sc_law.nd) (by with_unfolding_all rfl) (by with_unfolding_all first | exact Or.inl rfl | exact Or.inr rfl) ?_ (by with_unfolding_all rfl) (by with_unfolding_all first | exact .inl rfl | exact .inr rfl)
  | with_reducible refine ds_set (x := "_law_bad") 10 (by with_unfolding_all exact sc_law.nd) (by with_unfolding_all rfl) (by with_unfolding_all first | exact Or.inl rfl | exact Or.inr rfl) ?_ (by with_unfolding_all rfl) (by with_unfolding_all first | exact .inl rfl | exact .inr rfl))
local macro_rules | `(tactic| walk_at "stx") => `(tactic| first
  | with_reducible refine dsx_set (x := "_law_script") 0 (by with_unfolding_all exact sc_law.nd) (by with_unfolding_all rfl) (by with_unfolding_all first | exact Or.inl rfl | exact Or.inr rfl) ?_ (by with_unfolding_all rfl) (by with_unfolding_all first | exact .inl rfl | exact .inr rfl)
  | with_reducible refine dsx_set (x := "_law_town_here") 1 (by with_unfolding_all exact sc_law.nd) (by with_unfolding_all rfl) (by with_unfolding_all first | exact Or.inl rfl | exact Or.inr rfl) ?_ (by with_unfolding_all rfl) (by with_unfolding_all first | exact .inl rfl | exact .inr rfl)
  | with_reducible refine dsx_set (x := "_law_channel_here") 2 (by with_unfolding_all exact sc_law.nd) (by with_unfolding_all rfl) (by with_unfolding_all first | exact Or.inl rfl | exact Or.inr rfl) ?_ (by with_unfolding_all rfl) (by with_unfolding_all first | exact .inl rfl | exact .inr rfl)
  | with_reducible refine dsx_set (x := "_law_line_here") 3 (by with_unfolding_all exact sc_law.nd) (by with_unfolding_all rfl) (by with_unfolding_all first | exact Or.inl rfl | exact Or.inr rfl) ?_ (by with_unfolding_all rfl) (by with_unfolding_all first | exact .inl rfl | exact .inr rfl)
  | with_reducible refine dsx_set (x := "_law_k") 4 (by with_unfolding_all exact sc_law.nd) (by with_unfolding_all rfl) (by with_unfolding_all first | exact Or.inl rfl | exact Or.inr rfl) ?_ (by with_unfolding_all rfl) (by with_unfolding_all first | exact .inl rfl | exact .inr rfl)
  | with_reducible refine dsx_set (x := "_law_at") 5 (by with_unfolding_all exact sc_law.nd) (by with_unfolding_all rfl) (by with_unfolding_all first | exact Or.inl rfl | exact Or.inr rfl) ?_ (by with_unfolding_all rfl) (by with_unfolding_all first | exact .inl rfl | exact .inr rfl)
  | with_reducible refine dsx_set (x := "_law_sign") 6 (by with_unfolding_all exact sc_law.nd) (by with_unfolding_all rfl) (by with_unfolding_all first | exact Or.inl rfl | exact Or.inr rfl) ?_ (by with_unfolding_all rfl) (by with_unfolding_all first | exact .inl rfl | exact .inr rfl)
  | with_reducible refine dsx_set (x := "_law_other") 7 (by with_unfolding_all exact sc_law.nd) (by with_unfolding_all rfl) (by with_unfolding_all first | exact Or.inl rfl | exact Or.inr rfl) ?_ (by with_unfolding_all rfl) (by with_unfolding_all first | exact .inl rfl | exact .inr rfl)
  | with_reducible refine dsx_set (x := "_law_told") 8 (by with_unfolding_all exact sc_law.nd) (by with_unfolding_all rfl) (by with_unfolding_all first | exact Or.inl rfl | exact Or.inr rfl) ?_ (by with_unfolding_all rfl) (by with_unfolding_all first | exact .inl rfl | exact .inr rfl)
  | with_reducible refine dsx_set (x := "_law_bads") 9 (by with_unfolding_all exact sc_law.nd) (by with_unfolding_all rfl) (by with_unfolding_all first | exact Or.inl rfl | exact Or.inr rfl) ?_ (by with_unfolding_all rfl) (by with_unfolding_all first | exact .inl rfl | exact .inr rfl)
  | with_reducible refine dsx_set (x := "_law_bad") 10 (by with_unfolding_all exact sc_law.nd) (by with_unfolding_all rfl) (by with_unfolding_all first | exact Or.inl rfl | exact Or.inr rfl) ?_ (by with_unfolding_all rfl) (by with_unfolding_all first | exact .inl rfl | exact .inr rfl))

local macro_rules | `(tactic| walk_at "lc _law_bad") => `(tactic| refine de_lc (t := .name 10) (own := [("_law_bad", 10)]) rfl sc_law.nd (by first | exact blkOk_by (N := ["_law_script", "_law_town_here", "_law_channel_here", "_law_line_here", "_law_k", "_law_at", "_law_sign", "_law_other", "_law_told", "_law_bads", "_law_bad"]) (sc := defScope s_law) (by decide +kernel) | exact blkOk_by (N := ["_law_script", "_law_town_here", "_law_channel_here", "_law_line_here", "_law_k", "_law_at", "_law_sign", "_law_other", "_law_told", "_law_bads", "_law_bad"]) (sc := relS _ (defScope s_law)) (by decide +kernel)) (by decide) (fun _ _ _ _ _ => pgx_name sc_law.nd rfl (by first | exact Or.inl rfl | exact Or.inr rfl)) ?_)

theorem ok_law {cT cC : Value} (B : Bl mg) (E : E72 K T cs cT) (a1 : Knows P w K mg base 1 "_law_town" cTown) (a2 : Knows P w K mg base 1 "_law_draw" cDraw) (a3 : Knows P w K mg base 2 "_law_pick" cPick) (a4 : Knows P w K mg base 3 "_law_channel" cChanL)
    (a5 : Knows P w K mg base 9 "_law_outcome" (cOut K T cs (cCall72 cT))) (a6 : Knows P w K mg base 1 "_law_raises" cRaises) (a7 : Knows P w K mg base 1 "_law_line" cLine) (k3 : Knows P w K mg base 3 "is_channel" cIsCh) (k5 : KnowsX P w K mg base 5 "format_channel" (cFmt cC)) :
    KnowsF P w K mg base 10 "law" s_law ["_law_script"] cLaw := by
  refine knowsF_mk sc_law (fun _ _ _ ⟨_, e, _⟩ => by rw [e]; rfl) (fun fa cdv A outer sh HH E' hr svs τ Q hC => ?_)
  obtain ⟨ns, rfl, hns, rfl, q⟩ := hC
  walk_at "go"
  refine ⟨ns, rfl, by omega, fun tw _ => ?_⟩
  have ht : TnS tw ns.length 0 [(tw, .lst ((0 :: ns).map .int))] := ⟨_, by simp, 0, ns, rfl, rfl, by omega, by omega⟩
  generalize [(tw, MO.lst ((0 :: ns).map .int))] = τ at ht ⊢
  walk_at "go"
  refine ⟨ns, tw, 3, 8, 0, rfl, by omega, by decide, by decide, by decide, by decide, by decide, ht, fun c τ1 hc _ _ e1 => ?_⟩
  have ht1 := e1.tn ht.dom
  clear e1 ht τ
  walk_at "go"
  refine ⟨c, hc, rfl, ?_⟩
  walk_at "go"
  refine de_ofX ?_
  refine dex_call k5 ‹Room _ _› rfl ?_
  walk_at "go"
  refine ⟨c, hc, rfl, ?_⟩
  walk_at "go"
  refine eq_same (n := 0) rfl rfl (ok_ch hc) rfl ?_
  walk_at "go"
  refine ⟨⟨_, _, rfl⟩, _, _, rfl, _, rfl, fun x h => ?_, fun c' h => ?_, fun h => absurd ((parse_ch hc).symm.trans h) (by simp)⟩
  · cases h
    exact ⟨Nat.le_trans (len_ch hc) (by decide), ok_ch hc⟩
  have ec : c = c' := Option.some.inj ((parse_ch hc).symm.trans h)
  subst ec
  refine ⟨_, rfl, ?_⟩
  walk_at "go"
  refine eq_same (n := 4) rfl rfl (pl_returned (pl_chD c)) rfl ?_
  walk_at "gb"
  refine db_nil ?_
  show Db _ (k72E ns tw c none none none none none) _ _ _
  refine db_seq (fun ρ' τ' => (∃ n : Int, n ≤ 1000 ∧ TnS tw ns.length n τ') ∧ ∃ v4 v5 v6 v7 v8, ρ' = k72E ns tw c v4 v5 v6 v7 v8) ?_ ?_
  · refine ds_for (t := .name 4) rfl PassesOwn.never (pgx_name sc_law.nd rfl (Or.inl rfl)) (di_range1 ‹Bl _› rfl ?_)
    walk_at "go"
    refine ⟨by decide, by decide, fun i ρ' τ' => (∃ n : Int, n ≤ 50 + 10 * (i : Nat) ∧ TnS tw ns.length n τ') ∧ ∃ v4 v5 v6 v7 v8, ρ' = k72E ns tw c v4 v5 v6 v7 v8, ⟨⟨50, by omega, ht1.mono (by omega)⟩, _, _, _, _, _, rfl⟩, fun _ _ _ _ => trivial, ?_, ?_⟩
    · rintro i dd ρ' τ2 hd ⟨⟨n, hn, ht2⟩, v4, v5, v6, v7, v8, rfl⟩
      have hi : i < 12 := by
        have := (List.getElem?_eq_some_iff.mp hd).1
        rw [rangeD_length] at this
        exact this
      clear hd
      refine ⟨_, rfl, ?_⟩
      walk_at "go"
      have lc := len_ch hc
      refine len_str (Nat.le_trans lc (by decide)) ?_
      walk_at "go"
      refine ⟨_, _, _, n, rfl, by omega, by omega, by omega, by omega, ht2, fun at_ τ3 a0 a1 e3 => ?_⟩
      have ht3 := e3.tn ht2.dom
      walk_at "gl"
      refine de_listS ‹Bl _› rfl rfl ?_
      walk_at "go"
      refine plus_lst (ds := signsD ("0123456789+- " : Str)) (es := [PyData.str (" 1+0 3" : Str), PyData.str ("" : Str)]) rfl rfl (by decide +kernel) ?_
      rw [sg_D]
      walk_at "go"
      refine ⟨ns, tw, _, n + 1, rfl, by omega, by rw [List.length_map, sg_len]; decide, by rw [List.length_map, sg_len]; decide, by omega, ht3, fun sd τ4 hsd e4 => ?_⟩
      obtain ⟨sg, hsg, rfl⟩ := List.mem_map.mp hsd
      obtain ⟨sl, slow⟩ := sg_ok sg hsg
      have ht4 := e4.tn ht3.dom
      walk_at "go"
      refine sl_str' (Nat.le_trans lc (by decide)) ?_
      walk_at "go"
      have c1 := cutS_length (chText c) none (some at_)
      refine plus_str (Nat.le_trans (Nat.add_le_add (Nat.le_trans c1 lc) sl) (by decide)) ?_
      walk_at "go"
      refine ⟨_, _, _, n + 2, rfl, by omega, by omega, by omega, by omega, ht4.mono (by omega), fun k2 τ5 b0 b1 e5 => ?_⟩
      have ht5 := e5.tn ht4.dom
      walk_at "go"
      refine sl_str' (Nat.le_trans lc (by decide)) ?_
      have c2 := cutS_length (chText c) (some (at_ + k2)) none
      refine plus_str (by rw [Str.length_append]; exact Nat.le_trans (Nat.add_le_add (Nat.add_le_add (Nat.le_trans c1 lc) sl) (Nat.le_trans c2 lc)) (by decide)) ?_
      have lo : ∀ x ∈ tl (cutS (chText c) none (some at_) ++ sg ++ cutS (chText c) (some (at_ + k2)) none), x < 200 := low_app (low_app (low_cut (low_ch hc)) slow) (low_cut (low_ch hc))
      have ll : (cutS (chText c) none (some at_) ++ sg ++ cutS (chText c) (some (at_ + k2)) none).length ≤ 100 := by
        rw [Str.length_append, Str.length_append]
        exact Nat.le_trans (Nat.add_le_add (Nat.add_le_add (Nat.le_trans c1 lc) sl) (Nat.le_trans c2 lc)) (by decide)
      generalize cutS (chText c) none (some at_) ++ sg ++ cutS (chText c) (some (at_ + k2)) none = oth at lo ll ⊢
      have out : ∃ n' : Int, n' ≤ 50 + 10 * ((i + 1 : Nat) : Int) ∧ TnS tw ns.length n' τ5 := ⟨n + 2 + 1, by omega, ht5⟩
      walk_at "go"
      refine ⟨⟨_, _, rfl⟩, _, _, rfl, _, rfl, fun x h => ?_, fun c' h => ?_, fun h => ?_⟩
      · cases h
        exact ⟨Nat.le_trans ll (by decide), ok_tl lo⟩
      · obtain ⟨ok', et⟩ := parse_inv h
        refine ⟨_, rfl, ?_⟩
        walk_at "go"
        refine eq_same (n := 0) rfl rfl (show PyData.strOk "returned" = true by decide +kernel) rfl ?_
        walk_at "go"
        refine ⟨_, rfl, sm_chD ok', ?_⟩
        rw [isChannel_ok ok']
        walk_at "go"
        refine ⟨c', ok', rfl, ?_⟩
        walk_at "go"
        refine eq_same (n := 0) rfl rfl (ok_ch ok') (by rw [et]) ?_
        walk_at "go"
        exact ⟨out, _, _, _, _, _, rfl⟩
      · refine ⟨10, E.e10, ?_⟩
        walk_at "go"
        refine eq_pl (n := 0) (m := 0) rfl rfl (show PyData.strOk "raised" = true by decide +kernel) (show PyData.strOk "returned" = true by decide +kernel) (fun b hb => ?_)
        have eb : b = false := by
          cases b with
          | false => rfl
          | true => exact absurd (hb.mp rfl) (fun z => by injection z with z; exact absurd z (by decide +kernel))
        subst eb
        refine ⟨_, rfl, ?_⟩
        walk_at "go"
        refine ⟨10, by decide, rfl, ?_⟩
        walk_at "go"
        refine eq_same (n := 1) rfl rfl (pl_raised 10) rfl ?_
        walk_at "go"
        refine eq_pl (n := 0) (m := 0) rfl rfl (ok_tl lo) (ok_ch hc) (fun b hb => ?_)
        have eb : b = false := by
          cases b with
          | false => rfl
          | true =>
            have z := hb.mp rfl
            injection z with z
            rw [z] at h
            exact absurd ((parse_ch hc).symm.trans h) (by simp)
        subst eb
        refine ⟨_, rfl, ?_⟩
        walk_at "go"
        exact ⟨out, _, _, _, _, _, rfl⟩
--CUT
    · rintro ρ' τ3 ⟨⟨n, hn, ht2⟩, h⟩
      rw [rangeD_length] at hn
      exact ⟨⟨n, by omega, ht2⟩, h⟩
  rintro ρ' τ3 ⟨⟨n, hn, ht2⟩, v4, v5, v6, v7, v8, rfl⟩
  walk_at "go"
  refine plus_lst (ds := badsD1) (es := badsD2 c) rfl rfl (Nat.le_of_ble_eq_true rfl) ?_
  walk_at "go"
  walk_at "lc _law_bad"
  refine di_lst ?_
  walk_at "go"
  refine lcq_filter (badsD1 ++ badsD2 c) id id (fun _ => false) (List.map_id _).symm (Nat.le_of_ble_eq_true rfl) (fun d hd => ⟨_, rfl, fun D acc hD s H C cl fp => ⟨?_, fun z => Bool.noConfusion z⟩⟩) ?_
  · obtain ⟨bn, bo⟩ := bads_ok d hd
    walk_at "go"
    refine ⟨⟨_, _, rfl⟩, _, _, rfl, _, rfl, bo, fun c' h => absurd (bn.symm.trans h) (by simp), fun _ => ⟨10, E.e10, ?_⟩⟩
    walk_at "go"
    refine ⟨10, by decide, rfl, ?_⟩
    walk_at "go"
    refine eq_same (n := 1) rfl rfl (pl_raised 10) rfl ?_
    exact ⟨_, rfl, rfl, rfl⟩
  rw [show ((badsD1 ++ badsD2 c).filter fun _ => false).map id = [] from rfl]
  walk_at "go"
  refine eq_same (n := 1) (d := .list []) (e := .list []) rfl rfl (fun x hx => by cases hx) rfl ?_
  walk_at "go"
  obtain ⟨p1, p2, p3⟩ := last_ok
  refine ⟨⟨_, _, rfl⟩, _, _, rfl, _, rfl, fun x h => ?_, fun c' h => ?_, fun h => absurd (p1.symm.trans h) (by simp)⟩
  · injection h with h
    rw [← h]
    exact ⟨Nat.le_trans p2 (by decide), ok_tl p3⟩
  have ec : lastC = c' := Option.some.inj (p1.symm.trans h)
  subst ec
  refine ⟨_, rfl, ?_⟩
  walk_at "go"
  refine eq_same (n := 4) (d := returnedD (chD lastC)) (e := returnedD (chD lastC)) rfl rfl (pl_returned (pl_chD lastC)) rfl ?_
  exact q _
end
theorem chainE {P : Program} {w : World} {K : PySem.W.Frag} {mg : Str → Option Value} {h : Heap} {T c0 c1 c2 c3 c4 c5 c6 c7 c8 c9 c10 c11 c12 c13 c14 : Addr} {t_DIGITS : Tok} (X : K.In h) (G : h.Ns mainGlobals mg) (B : Bl mg)
    (aT : PySem.W.nsIn K mainGlobals "TideError" = some (some (.ref T)))
    (a0 : PySem.W.nsIn K mainGlobals "InvalidChannel" = some (some (.ref c0)))
    (a1 : PySem.W.nsIn K mainGlobals "InvalidDraught" = some (some (.ref c1)))
    (a2 : PySem.W.nsIn K mainGlobals "InvalidHour" = some (some (.ref c2)))
    (a3 : PySem.W.nsIn K mainGlobals "InvalidBar" = some (some (.ref c3)))
    (a4 : PySem.W.nsIn K mainGlobals "InvalidStay" = some (some (.ref c4)))
    (a5 : PySem.W.nsIn K mainGlobals "InvalidDigging" = some (some (.ref c5)))
    (a6 : PySem.W.nsIn K mainGlobals "InvalidAim" = some (some (.ref c6)))
    (a7 : PySem.W.nsIn K mainGlobals "InvalidGap" = some (some (.ref c7)))
    (a8 : PySem.W.nsIn K mainGlobals "InvalidEnd" = some (some (.ref c8)))
    (a9 : PySem.W.nsIn K mainGlobals "InvalidSeen" = some (some (.ref c9)))
    (a10 : PySem.W.nsIn K mainGlobals "InvalidText" = some (some (.ref c10)))
    (a11 : PySem.W.nsIn K mainGlobals "NoPassage" = some (some (.ref c11)))
    (a12 : PySem.W.nsIn K mainGlobals "Taken" = some (some (.ref c12)))
    (a13 : PySem.W.nsIn K mainGlobals "TooMany" = some (some (.ref c13)))
    (a14 : PySem.W.nsIn K mainGlobals "NothingToUndo" = some (some (.ref c14)))
    (top : TopExc K T)
    (cl : clsAll K [c0, c1, c2, c3, c4, c5, c6, c7, c8, c9, c10, c11, c12, c13, c14])
    (o_cT : OwnExc K T "InvalidText" c10)
    (s_cT : subsF K c10 10 0 [c0, c1, c2, c3, c4, c5, c6, c7, c8, c9, c10, c11, c12, c13, c14])
    (o_cC : OwnExc K T "InvalidChannel" c0)
    (s_cC : subsF K c0 0 0 [c0, c1, c2, c3, c4, c5, c6, c7, c8, c9, c10, c11, c12, c13, c14])
    (d_is_between : HasDef K mg "is_between" s_is_between ["value", "low", "high"])
    (d_are_between : HasDef K mg "are_between" s_are_between ["value", "size", "low", "high"])
    (d_is_channel : HasDef K mg "is_channel" s_is_channel ["value"])
    (d_check_channel : HasDef K mg "check_channel" s_check_channel ["value"])
    (d__law_town : HasDef K mg "_law_town" s__law_town ["_law_script"])
    (d__law_draw : HasDef K mg "_law_draw" s__law_draw ["_law_script", "_law_town_here", "_law_limit"])
    (d__law_pick : HasDef K mg "_law_pick" s__law_pick ["_law_script", "_law_town_here", "_law_choices"])
    (d__law_bar : HasDef K mg "_law_bar" s__law_bar ["_law_script", "_law_town_here", "_law_most"])
    (d__law_channel : HasDef K mg "_law_channel" s__law_channel ["_law_script", "_law_town_here", "_law_bars", "_law_most"])
    (d__law_raises : HasDef K mg "_law_raises" s__law_raises ["_law_name_here"])
    (d__law_name : HasDef K mg "_law_name" s__law_name ["_law_caught"])
    (d_channel_text : HasDef K mg "channel_text" s_channel_text ["channel"])
    (d_numbers_of : HasDef K mg "numbers_of" s_numbers_of ["word"])
    (aT_DIGITS : PySem.W.nsIn K mainGlobals "DIGITS" = some (some (.str "0123456789" t_DIGITS)))
    (d_parse_channel : HasDef K mg "parse_channel" s_parse_channel ["text"])
    (d__law_call : HasDef K mg "_law_call" s__law_call ["_law_way", "_law_arguments"])
    (d__law_outcome : HasDef K mg "_law_outcome" s__law_outcome ["_law_way", "_law_arguments"])
    (d_format_channel : HasDef K mg "format_channel" s_format_channel ["channel"])
    (d__law_line : HasDef K mg "_law_line" s__law_line ["_law_channel_here"])
    : ∀ base, KnowsF P w K mg base 10 "law" s_law ["_law_script"] cLaw := by
  have N : Nms mg errNames [c0, c1, c2, c3, c4, c5, c6, c7, c8, c9, c10, c11, c12, c13, c14] := nms_of X G (namesIn_cons a0 (namesIn_cons a1 (namesIn_cons a2 (namesIn_cons a3 (namesIn_cons a4 (namesIn_cons a5 (namesIn_cons a6 (namesIn_cons a7 (namesIn_cons a8 (namesIn_cons a9 (namesIn_cons a10 (namesIn_cons a11 (namesIn_cons a12 (namesIn_cons a13 (namesIn_cons a14 (namesIn_nil))))))))))))))))
  have nT := PySem.W.mg_of X G aT
  have e_cT := o_cT.knows X G
  have no_cT : ErrNo K T [c0, c1, c2, c3, c4, c5, c6, c7, c8, c9, c10, c11, c12, c13, c14] (.ref c10) 10 := o_cT.no top cl (show 10 < 15 by decide) s_cT
  have e_cC := o_cC.knows X G
  have no_cC : ErrNo K T [c0, c1, c2, c3, c4, c5, c6, c7, c8, c9, c10, c11, c12, c13, c14] (.ref c0) 0 := o_cC.no top cl (show 0 < 15 by decide) s_cC
  have E : E72 K T [c0, c1, c2, c3, c4, c5, c6, c7, c8, c9, c10, c11, c12, c13, c14] (.ref c10) := ⟨no_cT⟩
  have nT_DIGITS := PySem.W.mg_of X G aT_DIGITS
  intro base
  have n_kn_is_between := kn_is_between (P := P) (w := w) (K := K) (mg := mg) (base := base) (by assumption) (by assumption)
  have n_kn_are_between := kn_are_between (P := P) (w := w) (K := K) (mg := mg) (base := base) (by assumption) (by assumption) (by assumption)
  have n_kn_is_channel := kn_is_channel (P := P) (w := w) (K := K) (mg := mg) (base := base) (by assumption) (by assumption) (by assumption)
  have n_kx_check_channel := kx_check_channel (P := P) (w := w) (K := K) (mg := mg) (base := base) (by assumption) (by assumption) (by assumption)
  have n_kn_law_town := kn_law_town (P := P) (w := w) (K := K) (mg := mg) (base := base) (by assumption) (by assumption)
  have n_kn_law_draw := kn_law_draw (P := P) (w := w) (K := K) (mg := mg) (base := base) (by assumption) (by assumption)
  have n_kn_law_pick := kn_law_pick (P := P) (w := w) (K := K) (mg := mg) (base := base) (by assumption) (by assumption) (by assumption)
  have n_kn_law_bar := kn_law_bar (P := P) (w := w) (K := K) (mg := mg) (base := base) (by assumption) (by assumption) (by assumption)
  have n_kn_law_channel := kn_law_channel (P := P) (w := w) (K := K) (mg := mg) (base := base) (by assumption) (by assumption) (by assumption) (by assumption) (by assumption)
  have n_kn_law_raises := kn_law_raises (P := P) (w := w) (K := K) (mg := mg) (base := base) (by assumption) (by assumption)
  have n_kn_law_name := kn_law_name (P := P) (w := w) (K := K) (mg := mg) (base := base) (T := T) (by assumption) (by assumption) (by assumption)
  have n_kn_channel_text := kn_channel_text (P := P) (w := w) (K := K) (mg := mg) (base := base) (by assumption) (by assumption)
  have n_kn_numbers_of := kn_numbers_of (P := P) (w := w) (K := K) (mg := mg) (base := base) (by assumption) (by assumption) (by assumption)
  have n_kx_parse_channel := kx_parse_channel (P := P) (w := w) (K := K) (mg := mg) (base := base) (by assumption) (by assumption) (by assumption) (by assumption) (by assumption) (by assumption)
  have n_kx_law_call := kx_law_call (P := P) (w := w) (K := K) (mg := mg) (base := base) (by assumption) (by assumption)
  have n_kn_law_outcome := kn_law_outcome (P := P) (w := w) (K := K) (mg := mg) (base := base) (by assumption) (by assumption) (by assumption) (by assumption) (by assumption)
  have n_kx_format_channel := kx_format_channel (P := P) (w := w) (K := K) (mg := mg) (base := base) (by assumption) (by assumption) (by assumption) (by assumption)
  have n_kn_law_line := kn_law_line (P := P) (w := w) (K := K) (mg := mg) (base := base) (by assumption) (by assumption)
  exact ok_law (P := P) (w := w) (K := K) (mg := mg) (base := base) (by assumption) (by assumption) (by assumption) (by assumption) (by assumption) (by assumption) (by assumption) (by assumption) (by assumption) (by assumption) (by assumption)
end TW
open PySem PySem.W PyProof.Rows
set_option maxRecDepth 100000 in
set_option maxHeartbeats 0 in
theorem PySem.Challenge.cw_tidewindows_k72_whole_texts_holds : PySem.Challenge.rw_tidewindows_k72_whole_texts.Holds := by
  w_on; o_law; k_head; (case hw => w_witness2)
  k_fill
  refine Dl.walk_law (st := TW.s_law) (l := PySem.Challenge.rw_tidewindows_k72_whole_texts) (k := 10) rfl rfl ⟨rfl, by decide, by decide⟩ (fun w h Y => PySem.W.kIn_of Y) ?F
  case F =>
    intro w mg fa h KX G hmg
    have B : Dl.Bl mg := ⟨PySem.W.mg_none_of KX G (by k_is), PySem.W.mg_none_of KX G (by k_is), PySem.W.mg_none_of KX G (by k_is), PySem.W.mg_none_of KX G (by k_is), PySem.W.mg_none_of KX G (by k_is), PySem.W.mg_none_of KX G (by k_is), PySem.W.mg_none_of KX G (by k_is), PySem.W.mg_none_of KX G (by k_is), PySem.W.mg_none_of KX G (by k_is), PySem.W.mg_none_of KX G (by k_is), PySem.W.mg_none_of KX G (by k_is), PySem.W.mg_none_of KX G (by k_is), PySem.W.mg_none_of KX G (by k_is), PySem.W.mg_none_of KX G (by k_is), PySem.W.mg_none_of KX G (by k_is), PySem.W.mg_none_of KX G (by k_is), PySem.W.mg_none_of KX G (by k_is), PySem.W.mg_none_of KX G (by k_is), PySem.W.mg_none_of KX G (by k_is)⟩
    refine' Dl.law_fin (st := TW.s_law) KX G hmg ?a ?l ?c ?k (fun _ _ _ _ _ _ us hl => match us, hl with | [_], _ => rfl) (TW.chainE KX G B ?aT ?a0 ?a1 ?a2 ?a3 ?a4 ?a5 ?a6 ?a7 ?a8 ?a9 ?a10 ?a11 ?a12 ?a13 ?a14 ?top ?cl ?o_cT ?s_cT ?o_cC ?s_cC ?d_is_between ?d_are_between ?d_is_channel ?d_check_channel ?d__law_town ?d__law_draw ?d__law_pick ?d__law_bar ?d__law_channel ?d__law_raises ?d__law_name ?d_channel_text ?d_numbers_of ?aT_DIGITS ?d_parse_channel ?d__law_call ?d__law_outcome ?d_format_channel ?d__law_line)
    (case a => k_is); (case l => k_is); (case c => k_is); (case k => k_is)
    (case aT => k_is)
    (case a0 => k_is)
    (case a1 => k_is)
    (case a2 => k_is)
    (case a3 => k_is)
    (case a4 => k_is)
    (case a5 => k_is)
    (case a6 => k_is)
    (case a7 => k_is)
    (case a8 => k_is)
    (case a9 => k_is)
    (case a10 => k_is)
    (case a11 => k_is)
    (case a12 => k_is)
    (case a13 => k_is)
    (case a14 => k_is)
    (case top => exact ⟨by k_is, by k_is, by k_is⟩)
    (case cl => exact Dl.clsAll_cons (by k_is) (by k_is) (Dl.clsAll_cons (by k_is) (by k_is) (Dl.clsAll_cons (by k_is) (by k_is) (Dl.clsAll_cons (by k_is) (by k_is) (Dl.clsAll_cons (by k_is) (by k_is) (Dl.clsAll_cons (by k_is) (by k_is) (Dl.clsAll_cons (by k_is) (by k_is) (Dl.clsAll_cons (by k_is) (by k_is) (Dl.clsAll_cons (by k_is) (by k_is) (Dl.clsAll_cons (by k_is) (by k_is) (Dl.clsAll_cons (by k_is) (by k_is) (Dl.clsAll_cons (by k_is) (by k_is) (Dl.clsAll_cons (by k_is) (by k_is) (Dl.clsAll_cons (by k_is) (by k_is) (Dl.clsAll_cons (by k_is) (by k_is) (Dl.clsAll_nil))))))))))))))))
    (case o_cT => exact ⟨by k_is, by k_exc, by k_is, by k_is, by k_is, by k_is, by k_is, by k_is, by k_is, by k_is, by k_is, by k_is, by k_is, by k_is⟩)
    (case s_cT => exact Dl.subsF_ne (by decide) (by decide) (by k_is) (Dl.subsF_ne (by decide) (by decide) (by k_is) (Dl.subsF_ne (by decide) (by decide) (by k_is) (Dl.subsF_ne (by decide) (by decide) (by k_is) (Dl.subsF_ne (by decide) (by decide) (by k_is) (Dl.subsF_ne (by decide) (by decide) (by k_is) (Dl.subsF_ne (by decide) (by decide) (by k_is) (Dl.subsF_ne (by decide) (by decide) (by k_is) (Dl.subsF_ne (by decide) (by decide) (by k_is) (Dl.subsF_ne (by decide) (by decide) (by k_is) (Dl.subsF_same (Dl.subsF_ne (by decide) (by decide) (by k_is) (Dl.subsF_ne (by decide) (by decide) (by k_is) (Dl.subsF_ne (by decide) (by decide) (by k_is) (Dl.subsF_ne (by decide) (by decide) (by k_is) (Dl.subsF_nil))))))))))))))))
    (case o_cC => exact ⟨by k_is, by k_exc, by k_is, by k_is, by k_is, by k_is, by k_is, by k_is, by k_is, by k_is, by k_is, by k_is, by k_is, by k_is⟩)
    (case s_cC => exact Dl.subsF_same (Dl.subsF_ne (by decide) (by decide) (by k_is) (Dl.subsF_ne (by decide) (by decide) (by k_is) (Dl.subsF_ne (by decide) (by decide) (by k_is) (Dl.subsF_ne (by decide) (by decide) (by k_is) (Dl.subsF_ne (by decide) (by decide) (by k_is) (Dl.subsF_ne (by decide) (by decide) (by k_is) (Dl.subsF_ne (by decide) (by decide) (by k_is) (Dl.subsF_ne (by decide) (by decide) (by k_is) (Dl.subsF_ne (by decide) (by decide) (by k_is) (Dl.subsF_ne (by decide) (by decide) (by k_is) (Dl.subsF_ne (by decide) (by decide) (by k_is) (Dl.subsF_ne (by decide) (by decide) (by k_is) (Dl.subsF_ne (by decide) (by decide) (by k_is) (Dl.subsF_ne (by decide) (by decide) (by k_is) (Dl.subsF_nil))))))))))))))))
    (case d_is_between => (refine' Dl.hasDef_mk KX G ?a ?l ?c ?k (fun _ _ _ _ _ _ us hl => match us, hl with | [_, _, _], _ => rfl)); (case a => k_is); (case l => k_is); (case c => k_is); (case k => k_is))
    (case d_are_between => (refine' Dl.hasDef_mk KX G ?a ?l ?c ?k (fun _ _ _ _ _ _ us hl => match us, hl with | [_, _, _, _], _ => rfl)); (case a => k_is); (case l => k_is); (case c => k_is); (case k => k_is))
    (case d_is_channel => (refine' Dl.hasDef_mk KX G ?a ?l ?c ?k (fun _ _ _ _ _ _ us hl => match us, hl with | [_], _ => rfl)); (case a => k_is); (case l => k_is); (case c => k_is); (case k => k_is))
    (case d_check_channel => (refine' Dl.hasDef_mk KX G ?a ?l ?c ?k (fun _ _ _ _ _ _ us hl => match us, hl with | [_], _ => rfl)); (case a => k_is); (case l => k_is); (case c => k_is); (case k => k_is))
    (case d__law_town => (refine' Dl.hasDef_mk KX G ?a ?l ?c ?k (fun _ _ _ _ _ _ us hl => match us, hl with | [_], _ => rfl)); (case a => k_is); (case l => k_is); (case c => k_is); (case k => k_is))
    (case d__law_draw => (refine' Dl.hasDef_mk KX G ?a ?l ?c ?k (fun _ _ _ _ _ _ us hl => match us, hl with | [_, _, _], _ => rfl)); (case a => k_is); (case l => k_is); (case c => k_is); (case k => k_is))
    (case d__law_pick => (refine' Dl.hasDef_mk KX G ?a ?l ?c ?k (fun _ _ _ _ _ _ us hl => match us, hl with | [_, _, _], _ => rfl)); (case a => k_is); (case l => k_is); (case c => k_is); (case k => k_is))
    (case d__law_bar => (refine' Dl.hasDef_mk KX G ?a ?l ?c ?k (fun _ _ _ _ _ _ us hl => match us, hl with | [_, _, _], _ => rfl)); (case a => k_is); (case l => k_is); (case c => k_is); (case k => k_is))
    (case d__law_channel => (refine' Dl.hasDef_mk KX G ?a ?l ?c ?k (fun _ _ _ _ _ _ us hl => match us, hl with | [_, _, _, _], _ => rfl)); (case a => k_is); (case l => k_is); (case c => k_is); (case k => k_is))
    (case d__law_raises => (refine' Dl.hasDef_mk KX G ?a ?l ?c ?k (fun _ _ _ _ _ _ us hl => match us, hl with | [_], _ => rfl)); (case a => k_is); (case l => k_is); (case c => k_is); (case k => k_is))
    (case d__law_name => (refine' Dl.hasDef_mk KX G ?a ?l ?c ?k (fun _ _ _ _ _ _ us hl => match us, hl with | [_], _ => rfl)); (case a => k_is); (case l => k_is); (case c => k_is); (case k => k_is))
    (case d_channel_text => (refine' Dl.hasDef_mk KX G ?a ?l ?c ?k (fun _ _ _ _ _ _ us hl => match us, hl with | [_], _ => rfl)); (case a => k_is); (case l => k_is); (case c => k_is); (case k => k_is))
    (case d_numbers_of => (refine' Dl.hasDef_mk KX G ?a ?l ?c ?k (fun _ _ _ _ _ _ us hl => match us, hl with | [_], _ => rfl)); (case a => k_is); (case l => k_is); (case c => k_is); (case k => k_is))
    (case aT_DIGITS => k_is)
    (case d_parse_channel => (refine' Dl.hasDef_mk KX G ?a ?l ?c ?k (fun _ _ _ _ _ _ us hl => match us, hl with | [_], _ => rfl)); (case a => k_is); (case l => k_is); (case c => k_is); (case k => k_is))
    (case d__law_call => (refine' Dl.hasDef_mk KX G ?a ?l ?c ?k (fun _ _ _ _ _ _ us hl => match us, hl with | [_, _], _ => rfl)); (case a => k_is); (case l => k_is); (case c => k_is); (case k => k_is))
    (case d__law_outcome => (refine' Dl.hasDef_mk KX G ?a ?l ?c ?k (fun _ _ _ _ _ _ us hl => match us, hl with | [_, _], _ => rfl)); (case a => k_is); (case l => k_is); (case c => k_is); (case k => k_is))
    (case d_format_channel => (refine' Dl.hasDef_mk KX G ?a ?l ?c ?k (fun _ _ _ _ _ _ us hl => match us, hl with | [_], _ => rfl)); (case a => k_is); (case l => k_is); (case c => k_is); (case k => k_is))
    (case d__law_line => (refine' Dl.hasDef_mk KX G ?a ?l ?c ?k (fun _ _ _ _ _ _ us hl => match us, hl with | [_], _ => rfl)); (case a => k_is); (case l => k_is); (case c => k_is); (case k => k_is))
