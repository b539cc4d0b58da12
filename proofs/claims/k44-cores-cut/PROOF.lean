import PyProof.Rows.All
import Wide.All
import OpenK.AllK
import Wide.FinOn
import HandS.ForMost
import HandS.Deep
import HandS.Zip
import HandS.Style
import HandS.TupAny
import HandS.Conv
import HandS.Wide
import HandS.IsInst
import HandS.Walk
import KE.GoesMore
import KE.GoesEnum
import KE.GoesZip
import HandS.SetFor
import HandS.Strs
import HandS.Set
import KE.DataMinMax
import KE.SortData
import KE.KDictZip
import KE.KDictCopyH
import PySem.Challenge.RW_laidbefore_k44_whole_cores_cut_at_a_laye
section
set_option Elab.async false
set_option linter.all false
set_option maxRecDepth 100000
set_option autoImplicit false
/-! A layer of pure data over HandS: what stands in the slots is told by PyData; mutable locals are owned. -/
namespace L3
open PySem L2

/-! ### heaps -/
def Ex (H H' : Hp) : Prop := ∀ a o, H a = some o → H' a = some o
theorem Ex.refl (H : Hp) : Ex H H := fun _ _ h => h
theorem Ex.trans {H H1 H2 : Hp} (a : Ex H H1) (b : Ex H1 H2) : Ex H H2 := fun x o h => b x o (a x o h)
theorem Ex.new {H : Hp} {p : Addr} {o : HO} (h : H p = none) : Ex H (upd H p o) := fun a u e => by
  rw [upd_ne (ne_of_none e h)]
  exact e
theorem Ex.back {H H' : Hp} {p : Addr} (e : Ex H H') (h : H' p = none) : H p = none := by
  cases h1 : H p with
  | none => rfl
  | some o =>
    rw [e p o h1] at h
    cases h
/-- the heap without what may change -/
def cut (H : Hp) (W : List Addr) : Hp := fun a => if a ∈ W then none else H a
theorem cut_in {H : Hp} {W : List Addr} {a : Addr} (h : a ∈ W) : cut H W a = none := by unfold cut; rw [if_pos h]
theorem cut_out {H : Hp} {W : List Addr} {a : Addr} (h : a ∉ W) : cut H W a = H a := by unfold cut; rw [if_neg h]
theorem cut_ex {H : Hp} {W : List Addr} : Ex (cut H W) H := fun a o h => by
  by_cases k : a ∈ W
  · rw [cut_in k] at h; cases h
  · rw [cut_out k] at h; exact h
theorem cut_mono {H H' : Hp} {W : List Addr} (e : Ex H H') : Ex (cut H W) (cut H' W) := fun a o h => by
  by_cases k : a ∈ W
  · rw [cut_in k] at h; cases h
  · rw [cut_out k] at h ⊢; exact e a o h
theorem cut_cons {H H' : Hp} {W : List Addr} {a : Addr} (n : H a = none) (e : Ex H H') : Ex (cut H W) (cut H' (a :: W)) := fun b o h => by
  by_cases k : b ∈ W
  · rw [cut_in k] at h; cases h
  · rw [cut_out k] at h
    have nb : b ≠ a := ne_of_none h n
    rw [cut_out (fun z => (List.mem_cons.mp z).elim nb k)]
    exact e b o h
/-- an object that may change has changed -/
theorem cut_upd {H : Hp} {W : List Addr} {a : Addr} {o : HO} (h : a ∈ W) : cut (upd H a o) W = cut H W := by
  funext b
  by_cases k : b ∈ W
  · rw [cut_in k, cut_in k]
  · rw [cut_out k, cut_out k, upd_ne (fun e => k (by rw [e]; exact h))]
theorem cut_sub {H : Hp} {W W' : List Addr} (s : ∀ a ∈ W', a ∈ W) : Ex (cut H W) (cut H W') := fun a o h => by
  by_cases k : a ∈ W
  · rw [cut_in k] at h; cases h
  · rw [cut_out k] at h; rw [cut_out fun z => k (s a z)]; exact h
/-- there, and no tuple -/
structure NT (o : Option HO) : Prop where
  ne : o ≠ none
  nt : ∀ xs, o ≠ some (.tup xs)
theorem NT.ex {H H' : Hp} {a : Addr} (h : NT (H a)) (e : Ex H H') : NT (H' a) := by
  cases q : H a with
  | none => exact absurd q h.ne
  | some o => rw [e a o q, ← q]; exact h
theorem nt_lst {xs : List V} : NT (some (.lst xs)) := ⟨(fun q => nomatch q), fun _ q => nomatch q⟩
theorem nt_dct {kvs : List (List Key × V)} : NT (some (.dT kvs)) := ⟨(fun q => nomatch q), fun _ q => nomatch q⟩
theorem nt_frz {ob : Obj} {u : HO} : NT (some (.frz ob u)) := ⟨(fun q => nomatch q), fun _ q => nomatch q⟩
def Al (W : List Addr) (H : Hp) : Prop := ∀ a ∈ W, NT (H a)
theorem Al.mono {W : List Addr} {H H' : Hp} (h : Al W H) (e : Ex H H') : Al W H' := fun a k => (h a k).ex e
theorem Al.fresh {W : List Addr} {H : Hp} {p : Addr} (h : Al W H) (hp : H p = none) : p ∉ W := fun k => (h p k).ne hp
theorem Al.tup {W : List Addr} {H : Hp} {p : Addr} {xs : List V} (h : Al W H) (hp : H p = some (.tup xs)) : p ∉ W := fun k => (h p k).nt xs hp

theorem ex_rd {H H' : Hp} {a : Addr} {u : HO} (e : Ex H H') (h : Rd H a u) : Rd H' a u := by
  rcases h with h | ⟨o, h⟩
  · exact Or.inl (e a _ h)
  · exact Or.inr ⟨o, e a _ h⟩
theorem ex_l {K : PySem.W.Frag} {H H' : Hp} {a : Addr} {xs : List V} (e : Ex H H') (h : SqL K H a xs) : SqL K H' a xs := by
  rcases h with h | h
  · exact Or.inl (ex_rd e h)
  · exact Or.inr h
theorem ex_t {K : PySem.W.Frag} {H H' : Hp} {a : Addr} {xs : List V} (e : Ex H H') (h : SqT K H a xs) : SqT K H' a xs := by
  rcases h with h | h
  · exact Or.inl (ex_rd e h)
  · exact Or.inr h
theorem sz_of {n : Nat} (h : n ≤ 100000) : n ≤ sizeLine := Nat.le_trans h (by decide)
theorem sz_lt {n : Nat} (h : n < 100000) : n < sizeLine := Nat.lt_of_lt_of_le h (by decide)

/-! ### what a value stands for -/
def keyD : Key → PyData
  | .inl i => .int i
  | .inr x => .str x
def kD (k : List Key) : PyData := .tuple (k.map keyD)
mutual
inductive Rp (K : PySem.W.Frag) (I : Hp) : V → PyData → Prop
  | non : Rp K I .non .none
  | bl (b : Bool) : Rp K I (.bl b) (.bool b)
  | int (i : Int) : Rp K I (.int i) (.int i)
  | str (x : Str) : Rp K I (.str x) (.str x)
  | lst {a : Addr} {xs : List V} {ds : List PyData} : I a = some (.lst xs) → RpAll K I xs ds → Rp K I (.ref a) (.list ds)
  | tup {a : Addr} {xs : List V} {ds : List PyData} : I a = some (.tup xs) → RpAll K I xs ds → Rp K I (.ref a) (.tuple ds)
  | dct {a : Addr} {kvs : List (List Key × V)} {es : List (List Key × PyData)} {ds : List (PyData × PyData)} : I a = some (.dT kvs) → RpKV K I kvs es → ds = es.map (fun p => (kD p.1, p.2)) → Rp K I (.ref a) (.dict ds)
inductive RpAll (K : PySem.W.Frag) (I : Hp) : List V → List PyData → Prop
  | nil : RpAll K I [] []
  | cons {v : V} {vs : List V} {d : PyData} {ds : List PyData} : Rp K I v d → RpAll K I vs ds → RpAll K I (v :: vs) (d :: ds)
inductive RpKV (K : PySem.W.Frag) (I : Hp) : List (List Key × V) → List (List Key × PyData) → Prop
  | nil : RpKV K I [] []
  | cons {k : List Key} {v : V} {vs : List (List Key × V)} {d : PyData} {ds : List (List Key × PyData)} : Rp K I v d → RpKV K I vs ds → RpKV K I ((k, v) :: vs) ((k, d) :: ds)
end
section
variable {K : PySem.W.Frag} {I I' : Hp}
mutual
theorem Rp.mono (e : Ex I I') : ∀ {v : V} {d : PyData}, Rp K I v d → Rp K I' v d
  | _, _, .non => .non
  | _, _, .bl b => .bl b
  | _, _, .int i => .int i
  | _, _, .str x => .str x
  | _, _, .lst h r => .lst (e _ _ h) (RpAll.mono e r)
  | _, _, .tup h r => .tup (e _ _ h) (RpAll.mono e r)
  | _, _, .dct h r q => .dct (e _ _ h) (RpKV.mono e r) q
theorem RpAll.mono (e : Ex I I') : ∀ {vs : List V} {ds : List PyData}, RpAll K I vs ds → RpAll K I' vs ds
  | _, _, .nil => .nil
  | _, _, .cons h r => .cons (Rp.mono e h) (RpAll.mono e r)
theorem RpKV.mono (e : Ex I I') : ∀ {vs : List (List Key × V)} {ds : List (List Key × PyData)}, RpKV K I vs ds → RpKV K I' vs ds
  | _, _, .nil => .nil
  | _, _, .cons h r => .cons (Rp.mono e h) (RpKV.mono e r)
end
theorem canLay_list (xs : List PyData) : (PyData.list xs).canLay0 = PyData.canLayAll0 xs := rfl
mutual
theorem Rp.dp : ∀ {d : PyData} {v : V}, Rp K I v d → d.canLay0 = true → Dp K I v d
  | .none, _, .non, _ => .non
  | .bool b, _, .bl _, _ => .bl b
  | .int i, _, .int _, _ => .int i
  | .str x, _, .str _, _ => .str x
  | .list ds, _, .lst h r, c => .lst (.inl (.inl h)) (RpAll.dp r c)
  | .tuple ds, _, .tup h r, c => .tup (.inl (.inl h)) (RpAll.dp r c)
  | .dict es, _, .dct h r q, c => by simp [PyData.canLay0] at c
theorem RpAll.dp : ∀ {ds : List PyData} {vs : List V}, RpAll K I vs ds → PyData.canLayAll0 ds = true → DpAll K I vs ds
  | [], _, .nil, _ => .nil
  | d :: ds, _, .cons h r, c => by
    have c' : (d.canLay0 && PyData.canLayAll0 ds) = true := c
    rw [Bool.and_eq_true] at c'
    exact .cons (Rp.dp h c'.1) (RpAll.dp r c'.2)
end
theorem RpAll.length : ∀ {vs : List V} {ds : List PyData}, RpAll K I vs ds → vs.length = ds.length
  | _, _, .nil => rfl
  | _, _, .cons _ r => congrArg (· + 1) (RpAll.length r)
theorem RpAll.get : ∀ {vs : List V} {ds : List PyData} {i : Nat} {v : V}, RpAll K I vs ds → vs[i]? = some v → ∃ d, ds[i]? = some d ∧ Rp K I v d
  | _, _, _, _, .nil, e => by simp at e
  | _, _, 0, _, .cons h _, e => by
    have e' := Option.some.inj e
    subst e'
    exact ⟨_, rfl, h⟩
  | _, _, i + 1, _, .cons _ r, e => RpAll.get (i := i) r e
theorem RpAll.get' : ∀ {vs : List V} {ds : List PyData} {i : Nat} {d : PyData}, RpAll K I vs ds → ds[i]? = some d → ∃ v, vs[i]? = some v ∧ Rp K I v d
  | _, _, _, _, .nil, e => by simp at e
  | _, _, 0, _, .cons h _, e => by
    have e' := Option.some.inj e
    subst e'
    exact ⟨_, rfl, h⟩
  | _, _, i + 1, _, .cons _ r, e => RpAll.get' (i := i) r e
theorem RpAll.append : ∀ {vs ws : List V} {ds es : List PyData}, RpAll K I vs ds → RpAll K I ws es → RpAll K I (vs ++ ws) (ds ++ es)
  | _, _, _, _, .nil, s => s
  | _, _, _, _, .cons h r, s => .cons h (RpAll.append r s)
theorem RpAll.one {v : V} {d : PyData} (h : Rp K I v d) : RpAll K I [v] [d] := .cons h .nil
theorem RpAll.drop : ∀ {vs : List V} {ds : List PyData} (n : Nat), RpAll K I vs ds → RpAll K I (vs.drop n) (ds.drop n)
  | _, _, 0, r => r
  | _, _, _ + 1, .nil => .nil
  | _, _, n + 1, .cons _ r => RpAll.drop n r
theorem RpAll.take : ∀ {vs : List V} {ds : List PyData} (n : Nat), RpAll K I vs ds → RpAll K I (vs.take n) (ds.take n)
  | _, _, 0, _ => .nil
  | _, _, _ + 1, .nil => .nil
  | _, _, n + 1, .cons h r => .cons h (RpAll.take n r)
theorem RpAll.set {v : V} {d : PyData} (h : Rp K I v d) : ∀ {vs : List V} {ds : List PyData} (n : Nat), RpAll K I vs ds → RpAll K I (vs.set n v) (ds.set n d)
  | _, _, _, .nil => .nil
  | _, _, 0, .cons _ r => .cons h r
  | _, _, n + 1, .cons g r => .cons g (RpAll.set h n r)
theorem RpAll.erase : ∀ {vs : List V} {ds : List PyData} (n : Nat), RpAll K I vs ds → RpAll K I (vs.eraseIdx n) (ds.eraseIdx n)
  | _, _, _, .nil => .nil
  | _, _, 0, .cons _ r => r
  | _, _, n + 1, .cons g r => .cons g (RpAll.erase n r)
theorem RpAll.reverse : ∀ {vs : List V} {ds : List PyData}, RpAll K I vs ds → RpAll K I vs.reverse ds.reverse
  | _, _, .nil => .nil
  | _, _, .cons h r => by
    rw [List.reverse_cons, List.reverse_cons]
    exact RpAll.append (RpAll.reverse r) (.one h)
theorem RpAll.of_get : ∀ {vs : List V} {ds : List PyData}, vs.length = ds.length → (∀ (i : Nat) (v : V) (d : PyData), vs[i]? = some v → ds[i]? = some d → Rp K I v d) → RpAll K I vs ds
  | [], [], _, _ => .nil
  | v :: vs, d :: ds, hl, h => .cons (h 0 v d rfl rfl) (RpAll.of_get (Nat.succ.inj hl) fun i w e hw he => h (i + 1) w e hw he)
theorem RpAll.ints : ∀ {vs : List V} {ns : List Int}, RpAll K I vs (ns.map PyData.int) → vs = ns.map V.int
  | _, [], .nil => rfl
  | _, n :: ns, .cons h r => by
    cases h
    rw [RpAll.ints (ns := ns) r]
    rfl
theorem RpAll.bls : ∀ {vs : List V} {bs : List Bool}, RpAll K I vs (bs.map PyData.bool) → vs = bs.map V.bl
  | _, [], .nil => rfl
  | _, n :: ns, .cons h r => by
    cases h
    rw [RpAll.bls (bs := ns) r]
    rfl
theorem RpAll.strs : ∀ {vs : List V} {bs : List Str}, RpAll K I vs (bs.map PyData.str) → vs = bs.map V.str
  | _, [], .nil => rfl
  | _, n :: ns, .cons h r => by
    cases h
    rw [RpAll.strs (bs := ns) r]
    rfl
theorem RpAll.of_ints : ∀ (ns : List Int), RpAll K I (ns.map V.int) (ns.map PyData.int)
  | [] => .nil
  | n :: ns => .cons (.int n) (RpAll.of_ints ns)
end

/-! ### slots -/
inductive Sl where
  | un
  | pu (d : PyData)
  | ol (xs : List PyData)
  | od (es : List (List Key × PyData))
  | fd (es : List (List Key × PyData))
  | rl (xs : List PyData)
  | bl (xs : List PyData)
def SlOk (K : PySem.W.Frag) (W N : List Addr) (H : Hp) (o : Option V) : Sl → Prop
  | .un => True
  | .pu d => ∃ v, o = some v ∧ Rp K (cut H W) v d
  | .ol xs => ∃ a vs, o = some (.ref a) ∧ a ∈ W ∧ a ∉ N ∧ H a = some (.lst vs) ∧ RpAll K (cut H W) vs xs
  | .od es => ∃ a kvs, o = some (.ref a) ∧ a ∈ W ∧ a ∉ N ∧ H a = some (.dT kvs) ∧ RpKV K (cut H W) kvs es
  | .fd es => ∃ a kvs ob, o = some (.ref a) ∧ a ∈ W ∧ a ∉ N ∧ H a = some (.frz ob (.dT kvs)) ∧ RpKV K (cut H W) kvs es
  | .rl xs => ∃ a vs, o = some (.ref a) ∧ SqL K (cut H W) a vs ∧ RpAll K (cut H W) vs xs
  | .bl xs => ∃ a vs, o = some (.ref a) ∧ a ∈ W ∧ a ∉ N ∧ H a = some (.lst vs) ∧ RpAll K (cut H W) vs xs
def Sl.own : Sl → Bool
  | .ol _ => true
  | .od _ => true
  | .fd _ => true
  | .bl _ => true
  | _ => false
structure Stt (K : PySem.W.Frag) (W N : List Addr) (H : Hp) (σ : L2.St) (ds : List Sl) : Prop where
  len : σ.length = ds.length
  al : Al W H
  sl : ∀ (i : Nat) (s : Sl), ds[i]? = some s → SlOk K W N H (σ[i]?.getD none) s
  dist : ∀ (i j : Nat) (s t : Sl), i ≠ j → ds[i]? = some s → ds[j]? = some t → s.own = true → t.own = true → σ[i]? ≠ σ[j]?
theorem SlOk.mono {K : PySem.W.Frag} {W N : List Addr} {H H' : Hp} {o : Option V} {s : Sl} (h : SlOk K W N H o s) (e : Ex H H') : SlOk K W N H' o s := by
  cases s with
  | un => trivial
  | pu d => obtain ⟨v, h1, h2⟩ := h; exact ⟨v, h1, h2.mono (cut_mono e)⟩
  | ol xs => obtain ⟨a, vs, h1, h2, h3, h4, h5⟩ := h; exact ⟨a, vs, h1, h2, h3, e _ _ h4, h5.mono (cut_mono e)⟩
  | od xs => obtain ⟨a, vs, h1, h2, h3, h4, h5⟩ := h; exact ⟨a, vs, h1, h2, h3, e _ _ h4, h5.mono (cut_mono e)⟩
  | fd xs => obtain ⟨a, vs, ob, h1, h2, h3, h4, h5⟩ := h; exact ⟨a, vs, ob, h1, h2, h3, e _ _ h4, h5.mono (cut_mono e)⟩
  | rl xs => obtain ⟨a, vs, h1, h2, h3⟩ := h; exact ⟨a, vs, h1, ex_l (cut_mono e) h2, h3.mono (cut_mono e)⟩
  | bl xs => obtain ⟨a, vs, h1, h2, h3, h4, h5⟩ := h; exact ⟨a, vs, h1, h2, h3, e _ _ h4, h5.mono (cut_mono e)⟩
theorem Stt.mono {K : PySem.W.Frag} {W N : List Addr} {H H' : Hp} {σ : L2.St} {ds : List Sl} (h : Stt K W N H σ ds) (e : Ex H H') : Stt K W N H' σ ds :=
  ⟨h.len, h.al.mono e, fun i s q => (h.sl i s q).mono e, h.dist⟩

/-! ### evaluation, leaving all as it was -/
def Ev (K : PySem.W.Frag) (te : TE) (ds : List Sl) (d : PyData) : Prop :=
  ∀ W N σ H, Stt K W N H σ ds → ∀ Q : VK, (∀ v H', Ex H H' → Rp K (cut H' W) v d → Q v H') → te σ H Q
/-- a list that is read, not kept -/
def ErL (K : PySem.W.Frag) (te : TE) (ds : List Sl) (xs : List PyData) : Prop :=
  ∀ W N σ H, Stt K W N H σ ds → ∀ Q : VK, (∀ a vs H', Ex H H' → SqL K H' a vs → RpAll K (cut H' W) vs xs → Q (.ref a) H') → te σ H Q
def ErT (K : PySem.W.Frag) (te : TE) (ds : List Sl) (xs : List PyData) : Prop :=
  ∀ W N σ H, Stt K W N H σ ds → ∀ Q : VK, (∀ a vs H', Ex H H' → SqT K H' a vs → RpAll K (cut H' W) vs xs → Q (.ref a) H') → te σ H Q
/-- a new list -/
def EnL (K : PySem.W.Frag) (te : TE) (ds : List Sl) (xs : List PyData) : Prop :=
  ∀ W N σ H, Stt K W N H σ ds → ∀ Q : VK, (∀ a vs H', Ex H H' → H a = none → H' a = some (.lst vs) → RpAll K (cut H' (a :: W)) vs xs → Q (.ref a) H') → te σ H Q
/-- a test -/
def Et (K : PySem.W.Frag) (tt : TT) (ds : List Sl) (b : Bool) : Prop :=
  ∀ W N σ H, Stt K W N H σ ds → ∀ Q : Bool → Hp → Prop, (∀ H', Ex H H' → Q b H') → tt σ H Q
/-- arguments -/
def Ea (K : PySem.W.Frag) (ta : TA) (ds : List Sl) (xs : List PyData) : Prop :=
  ∀ W N σ H, Stt K W N H σ ds → ∀ Q : List V → Hp → Prop, (∀ vs H', Ex H H' → RpAll K (cut H' W) vs xs → Q vs H') → ta σ H Q
/-- a part of a slice -/
def Eo (K : PySem.W.Frag) (to : TO) (ds : List Sl) (o : Option Int) : Prop :=
  ∀ W N σ H, Stt K W N H σ ds → ∀ Q : Option Int → Hp → Prop, (∀ H', Ex H H' → Q o H') → to σ H Q

/-! ### operations on data -/
def RD (K : PySem.W.Frag) (r : R2) (x y z : PyData) : Prop :=
  ∀ W H v u, Al W H → Rp K (cut H W) v x → Rp K (cut H W) u y → ∀ Q : VK, (∀ w H', Ex H H' → Rp K (cut H' W) w z → Q w H') → r v u H Q
def UD (K : PySem.W.Frag) (r : V → Hp → VK → Prop) (x z : PyData) : Prop :=
  ∀ W H v, Al W H → Rp K (cut H W) v x → ∀ Q : VK, (∀ w H', Ex H H' → Rp K (cut H' W) w z → Q w H') → r v H Q
def CD (K : PySem.W.Frag) (r : List V → Hp → VK → Prop) (xs : List PyData) (z : PyData) : Prop :=
  ∀ W H vs, Al W H → RpAll K (cut H W) vs xs → ∀ Q : VK, (∀ w H', Ex H H' → Rp K (cut H' W) w z → Q w H') → r vs H Q

section
variable {K : PySem.W.Frag} {ds : List Sl} {ta tb te tc : TE} {t u : TT} {x y z d : PyData} {r : R2}
theorem ev_var {i : Nat} (h : ds[i]? = some (.pu d)) : Ev K (tVar i) ds d := fun W N σ H S Q q => by
  obtain ⟨v, e, hv⟩ := S.sl i _ h
  have e' : σ[i]? = some (some v) := by
    cases k : σ[i]? with
    | none => rw [k] at e; cases e
    | some o => rw [k] at e; exact congrArg some e
  exact ⟨v, e', q v H (Ex.refl H) hv⟩
theorem ev_int {i : Int} : Ev K (tC (.int i)) ds (.int i) := fun W N σ H S Q q => q _ H (Ex.refl H) (.int i)
theorem ev_bl {b : Bool} : Ev K (tC (.bl b)) ds (.bool b) := fun W N σ H S Q q => q _ H (Ex.refl H) (.bl b)
theorem ev_str {x : Str} : Ev K (tC (.str x)) ds (.str x) := fun W N σ H S Q q => q _ H (Ex.refl H) (.str x)
theorem ev_non : Ev K (tC .non) ds .none := fun W N σ H S Q q => q _ H (Ex.refl H) .non
theorem ev_op (ha : Ev K ta ds x) (hb : Ev K tb ds y) (hr : RD K r x y z) : Ev K (tOp r ta tb) ds z := fun W N σ H S Q q =>
  ha W N σ H S _ fun v H1 e1 r1 => hb W N σ H1 (S.mono e1) _ fun u H2 e2 r2 =>
    hr W H2 v u ((S.al.mono e1).mono e2) (r1.mono (cut_mono e2)) r2 Q fun w H3 e3 r3 => q w H3 ((e1.trans e2).trans e3) r3
theorem ev_un {r : V → Hp → VK → Prop} (ha : Ev K ta ds x) (hr : UD K r x z) : Ev K (tUn r ta) ds z := fun W N σ H S Q q =>
  ha W N σ H S _ fun v H1 e1 r1 => hr W H1 v (S.al.mono e1) r1 Q fun w H3 e3 r3 => q w H3 (e1.trans e3) r3
theorem ea_nil : Ea K tNil ds [] := fun W N σ H S Q q => q [] H (Ex.refl H) .nil
theorem ea_cons {tr : TA} {xs : List PyData} (ha : Ev K ta ds x) (hr : Ea K tr ds xs) : Ea K (tCons ta tr) ds (x :: xs) := fun W N σ H S Q q =>
  ha W N σ H S _ fun v H1 e1 r1 => hr W N σ H1 (S.mono e1) _ fun vs H2 e2 r2 => q (v :: vs) H2 (e1.trans e2) (.cons (r1.mono (cut_mono e2)) r2)
theorem ev_cb {c : List V → Hp → VK → Prop} {tr : TA} {xs : List PyData} (ha : Ea K tr ds xs) (hr : CD K c xs z) : Ev K (tCB c tr) ds z := fun W N σ H S Q q =>
  ha W N σ H S _ fun vs H1 e1 r1 => hr W H1 vs (S.al.mono e1) r1 Q fun w H2 e2 r2 => q w H2 (e1.trans e2) r2
theorem cut_new {W : List Addr} {H : Hp} {p : Addr} {o : HO} (A : Al W H) (hp : H p = none) : cut (upd H p o) W p = some o := by
  rw [cut_out (A.fresh hp), upd_same]
theorem ev_tup {tr : TA} {xs : List PyData} (ha : Ea K tr ds xs) (hl : xs.length ≤ 100000) : Ev K (tTup tr) ds (.tuple xs) := fun W N σ H S Q q =>
  ha W N σ H S _ fun vs H1 e1 r1 => ⟨by rw [r1.length]; exact sz_of hl, fun p hp =>
    q _ _ (e1.trans (Ex.new hp)) (.tup (cut_new (S.al.mono e1) hp) (r1.mono (cut_mono (Ex.new hp))))⟩
theorem en_lst {tr : TA} {xs : List PyData} (ha : Ea K tr ds xs) (hl : xs.length ≤ 100000) : EnL K (tLst tr) ds xs := fun W N σ H S Q q =>
  ha W N σ H S _ fun vs H1 e1 r1 => ⟨by rw [r1.length]; exact sz_of hl, fun p hp =>
    q p vs _ (e1.trans (Ex.new hp)) (e1.back hp) upd_same (r1.mono (cut_cons hp (Ex.new hp)))⟩
theorem EnL.ev {xs : List PyData} (h : EnL K te ds xs) : Ev K te ds (.list xs) := fun W N σ H S Q q =>
  h W N σ H S _ fun a vs H' e n h1 r => q _ _ e (.lst (by rw [cut_out (S.al.fresh n)]; exact h1) (r.mono (cut_sub fun b hb => List.mem_cons_of_mem _ hb)))
theorem Ev.rl {xs : List PyData} (h : Ev K te ds (.list xs)) : ErL K te ds xs := fun W N σ H S Q q =>
  h W N σ H S _ fun v H' e r => by
    cases r with
    | lst h1 r1 => exact q _ _ H' e (.inl (.inl (cut_ex _ _ h1))) r1
theorem Ev.rt {xs : List PyData} (h : Ev K te ds (.tuple xs)) : ErT K te ds xs := fun W N σ H S Q q =>
  h W N σ H S _ fun v H' e r => by
    cases r with
    | tup h1 r1 => exact q _ _ H' e (.inl (.inl (cut_ex _ _ h1))) r1
theorem EnL.rl {xs : List PyData} (h : EnL K te ds xs) : ErL K te ds xs := h.ev.rl
theorem getD_of {o : Option (Option V)} {v : V} (e : o.getD none = some v) : o = some (some v) := by
  cases o with
  | none => cases e
  | some o => exact congrArg some e
theorem er_own {i : Nat} {xs : List PyData} (h : ds[i]? = some (.ol xs)) : ErL K (tVar i) ds xs := fun W N σ H S Q q => by
  obtain ⟨a, vs, e, h2, h3, h4, h5⟩ := S.sl i _ h
  exact ⟨.ref a, getD_of e, q a vs H (Ex.refl H) (.inl (.inl h4)) h5⟩
theorem er_bl {i : Nat} {xs : List PyData} (h : ds[i]? = some (.bl xs)) : ErL K (tVar i) ds xs := fun W N σ H S Q q => by
  obtain ⟨a, vs, e, h2, h3, h4, h5⟩ := S.sl i _ h
  exact ⟨.ref a, getD_of e, q a vs H (Ex.refl H) (.inl (.inl h4)) h5⟩
theorem er_rl {i : Nat} {xs : List PyData} (h : ds[i]? = some (.rl xs)) : ErL K (tVar i) ds xs := fun W N σ H S Q q => by
  obtain ⟨a, vs, e, h4, h5⟩ := S.sl i _ h
  exact ⟨.ref a, getD_of e, q a vs H (Ex.refl H) (ex_l cut_ex h4) h5⟩
/-! dicts as data -/
def putD (es : List (List Key × PyData)) (k : List Key) (d : PyData) : List (List Key × PyData) :=
  if (es.any fun p => decide (p.1 = k)) = true then es.map (fun p => if p.1 = k then (p.1, d) else p) else es ++ [(k, d)]
def valD (es : List (List Key × PyData)) (k : List Key) : Option PyData := (es.find? fun p => decide (p.1 = k)).map (·.2)
theorem RpKV.length {I : Hp} : ∀ {kvs : List (List Key × V)} {es : List (List Key × PyData)}, RpKV K I kvs es → kvs.length = es.length
  | _, _, .nil => rfl
  | _, _, .cons _ r => congrArg (· + 1) (RpKV.length r)
theorem RpKV.keys {I : Hp} : ∀ {kvs : List (List Key × V)} {es : List (List Key × PyData)}, RpKV K I kvs es → kvs.map (·.1) = es.map (·.1)
  | _, _, .nil => rfl
  | _, _, .cons _ r => by rw [List.map_cons, List.map_cons, RpKV.keys r]
theorem RpKV.any {I : Hp} (k : List Key) : ∀ {kvs : List (List Key × V)} {es : List (List Key × PyData)}, RpKV K I kvs es → (kvs.any fun p => decide (p.1 = k)) = es.any fun p => decide (p.1 = k)
  | _, _, .nil => rfl
  | _, _, .cons _ r => by rw [List.any_cons, List.any_cons, RpKV.any k r]
theorem RpKV.val {I : Hp} {k : List Key} {d : PyData} : ∀ {kvs : List (List Key × V)} {es : List (List Key × PyData)}, RpKV K I kvs es → valD es k = some d → ∃ v, valV kvs k = some v ∧ Rp K I v d
  | _, _, .nil, h => by simp [valD] at h
  | _, _, .cons (k := k') (vs := vs) (ds := ds) (v := v) (d := d') hr r, h => by
    by_cases e : k' = k
    · have h' : some d' = some d := by simpa [valD, List.find?_cons, e] using h
      cases h'
      exact ⟨v, valV_pos (p := (k', v)) e, hr⟩
    · have h' : valD ds k = some d := by simpa [valD, List.find?_cons, e] using h
      obtain ⟨w, hw, rw'⟩ := RpKV.val r h'
      exact ⟨w, by rw [valV_neg (p := (k', v)) e]; exact hw, rw'⟩
theorem RpKV.map {I : Hp} {k : List Key} {v : V} {d : PyData} (hv : Rp K I v d) : ∀ {kvs : List (List Key × V)} {es : List (List Key × PyData)}, RpKV K I kvs es → RpKV K I (kvs.map fun p => if p.1 = k then (p.1, v) else p) (es.map fun p => if p.1 = k then (p.1, d) else p)
  | _, _, .nil => .nil
  | _, _, .cons (k := k') hr r => by
    rw [List.map_cons, List.map_cons]
    by_cases e : k' = k
    · simp only [e, if_true]
      exact .cons hv (RpKV.map hv r)
    · simp only [e, if_false]
      exact .cons hr (RpKV.map hv r)
theorem RpKV.snoc {I : Hp} {k : List Key} {v : V} {d : PyData} (hv : Rp K I v d) : ∀ {kvs : List (List Key × V)} {es : List (List Key × PyData)}, RpKV K I kvs es → RpKV K I (kvs ++ [(k, v)]) (es ++ [(k, d)])
  | _, _, .nil => .cons hv .nil
  | _, _, .cons hr r => .cons hr (RpKV.snoc hv r)
theorem RpKV.put {I : Hp} {k : List Key} {v : V} {d : PyData} (hv : Rp K I v d) {kvs : List (List Key × V)} {es : List (List Key × PyData)} (r : RpKV K I kvs es) : RpKV K I (putK kvs k v) (putD es k d) := by
  unfold putK putD
  rw [r.any k]
  by_cases q : (es.any fun p => decide (p.1 = k)) = true
  · rw [if_pos q, if_pos q]; exact r.map hv
  · rw [if_neg q, if_neg q]; exact r.snoc hv
theorem RpAll.key {I : Hp} : ∀ {vs : List V} {k : List Key}, RpAll K I vs (k.map keyD) → vs = k.map kV
  | _, [], .nil => rfl
  | _, .inl i :: r, .cons h t => by
    cases h
    rw [RpAll.key (k := r) t]
    rfl
  | _, .inr x :: r, .cons h t => by
    cases h
    rw [RpAll.key (k := r) t]
    rfl
theorem RpAll.of_key {I : Hp} : ∀ k : List Key, RpAll K I (k.map kV) (k.map keyD)
  | [] => .nil
  | .inl i :: r => .cons (.int i) (RpAll.of_key r)
  | .inr x :: r => .cons (.str x) (RpAll.of_key r)
/-- a dict that is read; a new one -/
def ErD (K : PySem.W.Frag) (te : TE) (ds : List Sl) (es : List (List Key × PyData)) : Prop :=
  ∀ W N σ H, Stt K W N H σ ds → ∀ Q : VK, (∀ a kvs H', Ex H H' → Rd H' a (.dT kvs) → RpKV K (cut H' W) kvs es → Q (.ref a) H') → te σ H Q
def EnD (K : PySem.W.Frag) (te : TE) (ds : List Sl) (es : List (List Key × PyData)) : Prop :=
  ∀ W N σ H, Stt K W N H σ ds → ∀ Q : VK, (∀ a kvs H', Ex H H' → H a = none → H' a = some (.dT kvs) → RpKV K (cut H' (a :: W)) kvs es → Q (.ref a) H') → te σ H Q
theorem EnD.er {es : List (List Key × PyData)} (h : EnD K te ds es) : ErD K te ds es := fun W N σ H S Q q =>
  h W N σ H S _ fun a kvs H' e n h1 r => q a kvs H' e (.inl h1) (r.mono (cut_sub fun b hb => List.mem_cons_of_mem _ hb))
theorem erd_own {i : Nat} {es : List (List Key × PyData)} (h : ds[i]? = some (.od es)) : ErD K (tVar i) ds es := fun W N σ H S Q q => by
  obtain ⟨a, vs, e, h2, h3, h4, h5⟩ := S.sl i _ h
  exact ⟨.ref a, getD_of e, q a vs H (Ex.refl H) (.inl h4) h5⟩
theorem erd_frz {i : Nat} {es : List (List Key × PyData)} (h : ds[i]? = some (.fd es)) : ErD K (tVar i) ds es := fun W N σ H S Q q => by
  obtain ⟨a, vs, ob, e, h2, h3, h4, h5⟩ := S.sl i _ h
  exact ⟨.ref a, getD_of e, q a vs H (Ex.refl H) (.inr ⟨ob, h4⟩) h5⟩
theorem ev_dget {es : List (List Key × PyData)} {k : List Key} (h : ErD K ta ds es) (hk : Ev K tb ds (kD k)) (hv : valD es k = some d) : Ev K (tDGet ta tb) ds d := fun W N σ H S Q q =>
  h W N σ H S _ fun a kvs H1 e1 h1 r1 => hk W N σ H1 (S.mono e1) _ fun u H2 e2 r2 => by
    cases r2 with
    | @tup b vs _ hb rb =>
      have eb := rb.key
      subst eb
      obtain ⟨v, hv', rv⟩ := r1.val hv
      exact ⟨a, v, rfl, .inr ⟨kvs, k, b, ex_rd e2 h1, rfl, cut_ex _ _ hb, hv'.symm⟩, q v H2 (e1.trans e2) (rv.mono (cut_mono e2))⟩
theorem end_new : EnD K tDNewT ds [] := fun W N σ H S Q q p hp => q p [] _ (Ex.new hp) hp upd_same .nil
/-! tests -/
theorem et_test {b : Bool} (h : Ev K te ds (.bool b)) : Et K (tTest te) ds b := fun W N σ H S Q q =>
  h W N σ H S _ fun v H' e r => by
    cases r
    exact ⟨b, rfl, q H' e⟩
theorem et_B {b : Bool} (h : Ev K te ds (.bool b)) : Et K (tB te) ds b := fun W N σ H S Q q =>
  h W N σ H S _ fun v H' e r => by
    cases r
    exact ⟨b, rfl, q H' e⟩
theorem et_yes : Et K tYes ds true := fun W N σ H S Q q => q H (Ex.refl H)
theorem et_and {a b : Bool} (h1 : Et K t ds a) (h2 : a = true → Et K u ds b) : Et K (tAnd t u) ds (a && b) := fun W N σ H S Q q =>
  h1 W N σ H S _ fun H1 e1 => by
    cases a with
    | true =>
      show u σ H1 Q
      exact h2 rfl W N σ H1 (S.mono e1) Q fun H2 e2 => q H2 (e1.trans e2)
    | false =>
      show Q false H1
      exact q H1 e1
theorem et_or {a b : Bool} (h1 : Et K t ds a) (h2 : a = false → Et K u ds b) : Et K (tOr t u) ds (a || b) := fun W N σ H S Q q =>
  h1 W N σ H S _ fun H1 e1 => by
    cases a with
    | false =>
      show u σ H1 Q
      exact h2 rfl W N σ H1 (S.mono e1) Q fun H2 e2 => q H2 (e1.trans e2)
    | true =>
      show Q true H1
      exact q H1 e1
theorem et_not {a : Bool} (h1 : Et K t ds a) : Et K (tNot t) ds (!a) := fun W N σ H S Q q => h1 W N σ H S _ fun H1 e1 => q H1 e1
theorem et_is {a b : Bool} (h : Et K t ds a) (e : a = b) : Et K t ds b := e ▸ h
theorem ev_is (h : Ev K te ds x) (e : x = y) : Ev K te ds y := e ▸ h
theorem ev_andV {a b : Bool} (h1 : Ev K ta ds (.bool a)) (h2 : a = true → Ev K tb ds (.bool b)) : Ev K (tAndV ta tb) ds (.bool (a && b)) := fun W N σ H S Q q =>
  h1 W N σ H S _ fun v H1 e1 r1 => by
    cases r1
    refine ⟨a, rfl, ?_⟩
    cases a with
    | true =>
      show tb σ H1 Q
      exact h2 rfl W N σ H1 (S.mono e1) Q fun w H2 e2 r2 => q w H2 (e1.trans e2) r2
    | false =>
      show Q (.bl false) H1
      exact q _ H1 e1 (.bl false)
theorem ev_orV {a b : Bool} (h1 : Ev K ta ds (.bool a)) (h2 : a = false → Ev K tb ds (.bool b)) : Ev K (tOrV ta tb) ds (.bool (a || b)) := fun W N σ H S Q q =>
  h1 W N σ H S _ fun v H1 e1 r1 => by
    cases r1
    refine ⟨a, rfl, ?_⟩
    cases a with
    | false =>
      show tb σ H1 Q
      exact h2 rfl W N σ H1 (S.mono e1) Q fun w H2 e2 r2 => q w H2 (e1.trans e2) r2
    | true =>
      show Q (.bl true) H1
      exact q _ H1 e1 (.bl true)
theorem ev_notV {a : Bool} (h1 : Ev K ta ds (.bool a)) : Ev K (tNotV ta) ds (.bool (!a)) := fun W N σ H S Q q =>
  h1 W N σ H S _ fun v H1 e1 r1 => by
    cases r1
    exact ⟨a, rfl, q _ H1 e1 (.bl _)⟩
theorem ev_if {b : Bool} (h : Et K t ds b) (h1 : b = true → Ev K ta ds d) (h2 : b = false → Ev K tb ds d) : Ev K (tIf t ta tb) ds d := fun W N σ H S Q q =>
  h W N σ H S _ fun H1 e1 => by
    cases b with
    | true =>
      show ta σ H1 Q
      exact h1 rfl W N σ H1 (S.mono e1) Q fun w H2 e2 r2 => q w H2 (e1.trans e2) r2
    | false =>
      show tb σ H1 Q
      exact h2 rfl W N σ H1 (S.mono e1) Q fun w H2 e2 r2 => q w H2 (e1.trans e2) r2
theorem eo_none : Eo K tNoPart ds none := fun W N σ H S Q q => q H (Ex.refl H)
theorem eo_some {i : Int} (h : Ev K te ds (.int i)) : Eo K (tPart te) ds (some i) := fun W N σ H S Q q =>
  h W N σ H S _ fun v H1 e1 r1 => by
    cases r1
    exact ⟨i, rfl, q H1 e1⟩
end
end L3
end

section
set_option Elab.async false
set_option linter.all false
set_option maxRecDepth 100000
set_option autoImplicit false
/-! Statements over pure data. -/
namespace L3
open PySem L2

/-! ### the state in a def: entered at H0 with W0 that may change, of which M are ours to change -/
structure Fr (K : PySem.W.Frag) (B : Hp) (W0 M N : List Addr) (H0 : Hp) (W : List Addr) (σ : L2.St) (H : Hp) (ds : List Sl) : Prop where
  st : Stt K W N H σ ds
  sub : ∀ a ∈ W0, a ∈ W
  new : ∀ a ∈ W, a ∉ W0 → H0 a = none
  keep : ∀ b o, b ∉ M → H0 b = some o → H b = some o
  oth : ∀ b ∈ W0, b ∉ M → b ∈ N
  nsub : ∀ b ∈ N, b ∈ W0
  msub : ∀ b ∈ M, b ∈ W0
  loc : ∀ (i : Nat) (s : Sl) (a : Addr), ds[i]? = some s → (∀ xs, s ≠ .bl xs) → s.own = true → σ[i]? = some (some (.ref a)) → a ∉ W0
  base : Ex B (cut H W)
  bor : ∀ (i : Nat) (xs : List PyData) (a : Addr), ds[i]? = some (.bl xs) → σ[i]? = some (some (.ref a)) → a ∈ M
structure Post where
  nx : List Sl → Prop
  rt : PyData → List Sl → Prop
  bk : List Sl → Prop := fun _ => False
  ct : List Sl → Prop := fun _ => False
  rn : List PyData → List Sl → Prop := fun _ _ => False
structure Meets (K : PySem.W.Frag) (B : Hp) (W0 M N : List Addr) (H0 : Hp) (P : Post) (D : Ends) : Prop where
  nx : ∀ W σ H ds, P.nx ds → Fr K B W0 M N H0 W σ H ds → D.nx σ H
  rt : ∀ W σ H ds v d, P.rt d ds → Fr K B W0 M N H0 W σ H ds → Rp K (cut H W) v d → D.rt v H
  bk : ∀ W σ H ds, P.bk ds → Fr K B W0 M N H0 W σ H ds → D.bk σ H
  ct : ∀ W σ H ds, P.ct ds → Fr K B W0 M N H0 W σ H ds → D.ct σ H
  rn : ∀ W σ H ds a vs xs, P.rn xs ds → Fr K B W0 M N H0 W σ H ds → a ∉ W → H0 a = none → H a = some (.lst vs) → RpAll K (cut H (a :: W)) vs xs → D.rt (.ref a) H
def Sx (K : PySem.W.Frag) (ts : TS) (ds : List Sl) (P : Post) : Prop :=
  ∀ (B : Hp) (W0 M N : List Addr) (H0 : Hp) (W : List Addr) (σ : L2.St) (H : Hp), Fr K B W0 M N H0 W σ H ds → ∀ D : Ends, Meets K B W0 M N H0 P D → ts D σ H

section
variable {K : PySem.W.Frag} {B : Hp} {W0 M N W : List Addr} {H0 H H' : Hp} {σ : L2.St} {ds ds1 : List Sl} {P : Post} {D : Ends} {t u : TS} {te ta tb : TE} {tt : TT} {d x y : PyData}
theorem Fr.ex (F : Fr K B W0 M N H0 W σ H ds) (e : Ex H H') : Fr K B W0 M N H0 W σ H' ds :=
  ⟨F.st.mono e, F.sub, F.new, fun b o h q => e _ _ (F.keep b o h q), F.oth, F.nsub, F.msub, F.loc, F.base.trans (cut_mono e), F.bor⟩
theorem set_get {α : Type} {l : List α} {i j : Nat} {x y : α} (h : (l.set i x)[j]? = some y) : (j = i ∧ y = x) ∨ (j ≠ i ∧ l[j]? = some y) := by
  by_cases e : i = j
  · subst e
    by_cases hl : i < l.length
    · rw [List.getElem?_set_self hl] at h
      exact .inl ⟨rfl, (Option.some.inj h).symm⟩
    · rw [List.getElem?_eq_none (by simpa using hl)] at h; cases h
  · rw [List.getElem?_set_ne e] at h
    exact .inr ⟨fun z => e z.symm, h⟩
/-- what may be put into a slot -/
def Puts (K : PySem.W.Frag) (W0 : List Addr) (W W' : List Addr) (H H' : Hp) (v : V) : Sl → Prop
  | .un => W' = W
  | .pu d => W' = W ∧ Rp K (cut H' W) v d
  | .ol xs => ∃ a vs, v = .ref a ∧ W' = a :: W ∧ H a = none ∧ H' a = some (.lst vs) ∧ RpAll K (cut H' (a :: W)) vs xs
  | .od es => ∃ a kvs, v = .ref a ∧ W' = a :: W ∧ H a = none ∧ H' a = some (.dT kvs) ∧ RpKV K (cut H' (a :: W)) kvs es
  | _ => False
/-- an expression's value for a slot -/
def Ek (K : PySem.W.Frag) (te : TE) (ds : List Sl) (s : Sl) : Prop :=
  ∀ W N σ H, Stt K W N H σ ds → ∀ Q : VK, (∀ v H', Ex H H' → (∀ W0, ∃ W', Puts K W0 W W' H H' v s) → Q v H') → te σ H Q
theorem Ev.ek (h : Ev K te ds d) : Ek K te ds (.pu d) := fun W N σ H S Q q => h W N σ H S _ fun v H' e r => q v H' e fun _ => ⟨W, rfl, r⟩
theorem EnL.ek {xs : List PyData} (h : EnL K te ds xs) : Ek K te ds (.ol xs) := fun W N σ H S Q q =>
  h W N σ H S _ fun a vs H' e n h1 r => q _ H' e fun _ => ⟨a :: W, a, vs, rfl, rfl, n, h1, r⟩
theorem SlOk.wider {s : Sl} {o : Option V} {a : Addr} (h : SlOk K W N H o s) (n : H a = none) (e : Ex H H') : SlOk K (a :: W) N H' o s := by
  have ce : Ex (cut H W) (cut H' (a :: W)) := cut_cons n e
  cases s with
  | un => trivial
  | pu d => obtain ⟨v, h1, h2⟩ := h; exact ⟨v, h1, h2.mono ce⟩
  | ol xs => obtain ⟨b, vs, h1, h2, h3, h4, h5⟩ := h; exact ⟨b, vs, h1, List.mem_cons_of_mem _ h2, h3, e _ _ h4, h5.mono ce⟩
  | od xs => obtain ⟨b, vs, h1, h2, h3, h4, h5⟩ := h; exact ⟨b, vs, h1, List.mem_cons_of_mem _ h2, h3, e _ _ h4, h5.mono ce⟩
  | fd xs => obtain ⟨b, vs, ob, h1, h2, h3, h4, h5⟩ := h; exact ⟨b, vs, ob, h1, List.mem_cons_of_mem _ h2, h3, e _ _ h4, h5.mono ce⟩
  | rl xs => obtain ⟨b, vs, h1, h2, h3⟩ := h; exact ⟨b, vs, h1, ex_l ce h2, h3.mono ce⟩
  | bl xs => obtain ⟨b, vs, h1, h2, h3, h4, h5⟩ := h; exact ⟨b, vs, h1, List.mem_cons_of_mem _ h2, h3, e _ _ h4, h5.mono ce⟩
theorem getD_some {o : Option (Option V)} {v : V} (e : o.getD none = some v) : o = some (some v) := getD_of e
theorem SlOk.addr {s : Sl} {o : Option V} (h : SlOk K W N H o s) (w : s.own = true) : ∃ a ob, o = some (.ref a) ∧ a ∈ W ∧ a ∉ N ∧ H a = some ob ∧ NT (some ob) := by
  cases s with
  | un => cases w
  | pu d => cases w
  | rl xs => cases w
  | ol xs => obtain ⟨a, vs, h1, h2, h3, h4, h5⟩ := h; exact ⟨a, _, h1, h2, h3, h4, nt_lst⟩
  | od xs => obtain ⟨a, vs, h1, h2, h3, h4, h5⟩ := h; exact ⟨a, _, h1, h2, h3, h4, nt_dct⟩
  | fd xs => obtain ⟨a, vs, ob, h1, h2, h3, h4, h5⟩ := h; exact ⟨a, _, h1, h2, h3, h4, nt_frz⟩
  | bl xs => obtain ⟨a, vs, h1, h2, h3, h4, h5⟩ := h; exact ⟨a, _, h1, h2, h3, h4, nt_lst⟩
/-- a slot is set -/
theorem Fr.set (F : Fr K B W0 M N H0 W σ H ds) {i : Nat} {v : V} {s : Sl} {W' : List Addr} (hi : i < ds.length) (e : Ex H H') (p : Puts K W0 W W' H H' v s) : Fr K B W0 M N H0 W' (σ.set i (some v)) H' (ds.set i s) := by
  have hiσ : i < σ.length := by rw [F.st.len]; exact hi
  have F' := F.ex e
  -- the case without a new owned one
  have same : W' = W → s.own = false → SlOk K W N H' (some v) s → Fr K B W0 M N H0 W' (σ.set i (some v)) H' (ds.set i s) := fun ew no ok => by
    subst ew
    refine ⟨⟨by rw [List.length_set, List.length_set]; exact F.st.len, F'.st.al, fun j t h => ?_, fun j k t1 t2 njk h1 h2 o1 o2 => ?_⟩, F.sub, F.new, F'.keep, F.oth, F.nsub, F.msub, fun j t a h nb ow hs => ?_, F'.base, fun j xs a h hs => ?_⟩
    · rcases set_get h with ⟨rfl, rfl⟩ | ⟨ne, h⟩
      · rw [List.getElem?_set_self hiσ]; exact ok
      · rw [List.getElem?_set_ne (Ne.symm ne)]; exact F'.st.sl j t h
    · rcases set_get h1 with ⟨rfl, rfl⟩ | ⟨n1, h1⟩
      · rw [no] at o1; cases o1
      · rcases set_get h2 with ⟨rfl, rfl⟩ | ⟨n2, h2⟩
        · rw [no] at o2; cases o2
        · rw [List.getElem?_set_ne (Ne.symm n1), List.getElem?_set_ne (Ne.symm n2)]; exact F.st.dist j k t1 t2 njk h1 h2 o1 o2
    · rcases set_get h with ⟨rfl, rfl⟩ | ⟨ne, h⟩
      · rw [no] at ow; cases ow
      · rw [List.getElem?_set_ne (Ne.symm ne)] at hs; exact F.loc j t a h nb ow hs
    · rcases set_get h with ⟨rfl, e⟩ | ⟨ne, h⟩
      · rw [← e] at no; cases no
      · rw [List.getElem?_set_ne (Ne.symm ne)] at hs; exact F.bor j xs a h hs
  -- the case with one
  have newly : ∀ a, v = .ref a → W' = a :: W → H a = none → s.own = true → (∀ xs, s ≠ .bl xs) → SlOk K (a :: W) N H' (some v) s → Fr K B W0 M N H0 W' (σ.set i (some v)) H' (ds.set i s) := fun a ev ew n ow nbl ok => by
    subst ev ew
    have aW : a ∉ W := F.st.al.fresh n
    have other : ∀ j t, j ≠ i → ds[j]? = some t → t.own = true → σ[j]? ≠ some (some (.ref a)) := fun j t _ h o q => by
      obtain ⟨b, ob, e1, e2, _⟩ := (F.st.sl j t h).addr o
      rw [q] at e1
      have eb : a = b := V.ref.inj (Option.some.inj e1)
      exact aW (eb ▸ e2)
    refine ⟨⟨by rw [List.length_set, List.length_set]; exact F.st.len, fun b hb => ?_, fun j t h => ?_, fun j k t1 t2 njk h1 h2 o1 o2 => ?_⟩, fun b hb => List.mem_cons_of_mem _ (F.sub b hb), fun b hb nb => ?_, F'.keep, F.oth, F.nsub, F.msub, fun j t b h nb o hs => ?_, F.base.trans (cut_cons n e), fun j xs b h hs => ?_⟩
    · rcases List.mem_cons.mp hb with rfl | hb
      · obtain ⟨b', ob, e1, _, _, e4, nt⟩ := ok.addr ow
        cases e1
        rw [e4]; exact nt
      · exact F'.st.al b hb
    · rcases set_get h with ⟨rfl, rfl⟩ | ⟨ne, h⟩
      · rw [List.getElem?_set_self hiσ]; exact ok
      · rw [List.getElem?_set_ne (Ne.symm ne)]; exact (F.st.sl j t h).wider n e
    · rcases set_get h1 with ⟨rfl, rfl⟩ | ⟨n1, h1⟩
      · rcases set_get h2 with ⟨rfl, rfl⟩ | ⟨n2, h2⟩
        · exact absurd rfl njk
        · rw [List.getElem?_set_self hiσ, List.getElem?_set_ne (Ne.symm n2)]
          exact fun q => other k t2 n2 h2 o2 q.symm
      · rcases set_get h2 with ⟨rfl, rfl⟩ | ⟨n2, h2⟩
        · rw [List.getElem?_set_self hiσ, List.getElem?_set_ne (Ne.symm n1)]
          exact other j t1 n1 (by rw [List.getElem?_set_ne (Ne.symm n1)] at h1; exact h1) o1
        · rw [List.getElem?_set_ne (Ne.symm n1), List.getElem?_set_ne (Ne.symm n2)]; exact F.st.dist j k t1 t2 njk h1 h2 o1 o2
    · rcases List.mem_cons.mp hb with rfl | hb
      · cases q : H0 b with
        | none => rfl
        | some o =>
          by_cases m : b ∈ M
          · exact absurd (F.sub _ (F.msub _ m)) aW
          · rw [F.keep b o m q] at n; cases n
      · exact F.new b hb nb
    · rcases set_get h with ⟨rfl, rfl⟩ | ⟨ne, h⟩
      · rw [List.getElem?_set_self hiσ] at hs
        cases hs
        exact fun q => aW (F.sub _ q)
      · rw [List.getElem?_set_ne (Ne.symm ne)] at hs; exact F.loc j t b h nb o hs
    · rcases set_get h with ⟨rfl, e⟩ | ⟨ne, h⟩
      · exact absurd e.symm (nbl xs)
      · rw [List.getElem?_set_ne (Ne.symm ne)] at hs; exact F.bor j xs b h hs
  cases s with
  | un => exact same p rfl trivial
  | pu d => exact same p.1 rfl ⟨v, rfl, p.2⟩
  | ol xs =>
    obtain ⟨a, vs, e1, e2, e3, e4, e5⟩ := p
    subst e1
    exact newly a rfl e2 e3 rfl (fun _ q => nomatch q) ⟨a, vs, rfl, List.mem_cons_self, fun q => (F.st.al a (F.sub a (F.nsub a q))).ne e3, e4, e5⟩
  | od es =>
    obtain ⟨a, vs, e1, e2, e3, e4, e5⟩ := p
    subst e1
    exact newly a rfl e2 e3 rfl (fun _ q => nomatch q) ⟨a, vs, rfl, List.mem_cons_self, fun q => (F.st.al a (F.sub a (F.nsub a q))).ne e3, e4, e5⟩
  | rl xs => exact p.elim
  | bl xs => exact p.elim
  | fd xs => exact p.elim

/-! ### statements -/
theorem sx_asg {i : Nat} {s : Sl} (h : Ek K te ds s) (hi : i < ds.length) (k : P.nx (ds.set i s)) : Sx K (tAsg te (gName i)) ds P := fun B W0 M N H0 W σ H F D m =>
  h W N σ H F.st _ fun v H' e p => by
    obtain ⟨W', p'⟩ := p W0
    exact m.nx W' _ H' _ k (F.set hi e p')
theorem sx_set {i : Nat} (h : Ev K te ds d) (hi : i < ds.length) (k : P.nx (ds.set i (.pu d))) : Sx K (tAsg te (gName i)) ds P := sx_asg h.ek hi k
theorem sx_new {i : Nat} {xs : List PyData} (h : EnL K te ds xs) (hi : i < ds.length) (k : P.nx (ds.set i (.ol xs))) : Sx K (tAsg te (gName i)) ds P := sx_asg h.ek hi k
theorem Ek.mono_st {s : Sl} (h : Ek K te ds s) : Ek K te ds s := h
theorem Stt.wider (S : Stt K W N H σ ds) {a : Addr} (n : H a = none) (e : Ex H H') (h : NT (H' a)) : Stt K (a :: W) N H' σ ds :=
  ⟨S.len, fun b hb => (List.mem_cons.mp hb).elim (fun z => by rw [z]; exact h) fun z => S.al.mono e b z, fun i s q => (S.sl i s q).wider n e, S.dist⟩
theorem Stt.puts (S : Stt K W N H σ ds) {W1 : List Addr} {v : V} {s : Sl} (e : Ex H H') (p : Puts K W0 W W1 H H' v s) : Stt K W1 N H' σ ds := by
  cases s with
  | un => have q : W1 = W := p; subst q; exact S.mono e
  | pu d => obtain ⟨q, _⟩ := p; subst q; exact S.mono e
  | rl xs => exact p.elim
  | bl xs => exact p.elim
  | fd xs => exact p.elim
  | ol xs => obtain ⟨a, vs, _, q, n, h, _⟩ := p; subst q; exact S.wider n e (by rw [h]; exact nt_lst)
  | od xs => obtain ⟨a, vs, _, q, n, h, _⟩ := p; subst q; exact S.wider n e (by rw [h]; exact nt_dct)
theorem set_len {α : Type} {l : List α} {i j : Nat} {x : α} (h : j < l.length) : j < (l.set i x).length := by rw [List.length_set]; exact h
/-- a, b = e1, e2 -/
theorem sx_par {i j : Nat} {s1 s2 : Sl} (h1 : Ek K ta ds s1) (h2 : Ek K tb ds s2) (hi : i < ds.length) (hj : j < ds.length) (k : P.nx ((ds.set i s1).set j s2)) :
    Sx K (tPar i j (tCons ta (tCons tb tNil))) ds P := fun B W0 M N H0 W σ H F D m =>
  h1 W N σ H F.st _ fun v H1 e1 p1 => by
    obtain ⟨W1, p1⟩ := p1 W0
    refine h2 W1 N σ H1 (F.st.puts e1 p1) _ fun w H2 e2 p2 => ⟨v, w, rfl, ?_⟩
    obtain ⟨W2, p2⟩ := p2 W0
    exact m.nx _ _ H2 _ k ((F.set hi e1 p1).set (set_len hj) e2 p2)
theorem sx_par3 {i j l : Nat} {s1 s2 s3 : Sl} (h1 : Ek K ta ds s1) (h2 : Ek K tb ds s2) (h3 : Ek K te ds s3) (hi : i < ds.length) (hj : j < ds.length) (hl : l < ds.length) (k : P.nx (((ds.set i s1).set j s2).set l s3)) :
    Sx K (tPar3 i j l (tCons ta (tCons tb (tCons te tNil)))) ds P := fun B W0 M N H0 W σ H F D m =>
  h1 W N σ H F.st _ fun v H1 e1 p1 => by
    obtain ⟨W1, p1⟩ := p1 W0
    refine h2 W1 N σ H1 (F.st.puts e1 p1) _ fun w H2 e2 p2 => ?_
    obtain ⟨W2, p2⟩ := p2 W0
    refine h3 W2 N σ H2 ((F.st.puts e1 p1).puts e2 p2) _ fun u H3 e3 p3 => ⟨v, w, u, rfl, ?_⟩
    obtain ⟨W3, p3⟩ := p3 W0
    exact m.nx _ _ H3 _ k (((F.set hi e1 p1).set (set_len hj) e2 p2).set (set_len (set_len hl)) e3 p3)
/-- a, b = a tuple -/
theorem sx_un2 {i j : Nat} (h : Ev K te ds (.tuple [x, y])) (hi : i < ds.length) (hj : j < ds.length) (k : P.nx ((ds.set i (.pu x)).set j (.pu y))) :
    Sx K (tAsg te (gTup K 2 (gCons (gName i) (gCons (gName j) gNil)))) ds P := fun B W0 M N H0 W σ H F D m =>
  h W N σ H F.st _ fun v H1 e1 r => by
    cases r with
    | tup hs r =>
      cases r with
      | cons r1 r =>
        cases r with
        | cons r2 r =>
          cases r
          refine ⟨_, _, rfl, .inl (.inl (cut_ex _ _ hs)), rfl, _, _, rfl, _, _, rfl, rfl, ?_⟩
          exact m.nx _ _ H1 _ k ((F.set hi e1 (s := .pu x) ⟨rfl, r1⟩).set (set_len hj) (Ex.refl H1) (s := .pu y) ⟨rfl, r2⟩)
theorem sx_ret (h : Ev K te ds d) (k : P.rt d ds) : Sx K (tRet te) ds P := fun B W0 M N H0 W σ H F D m =>
  h W N σ H F.st _ fun v H' e r => m.rt W σ H' ds v d k (F.ex e) r
theorem sx_if {b : Bool} (h : Et K tt ds b) (h1 : b = true → Sx K t ds P) (h2 : b = false → Sx K u ds P) : Sx K (tIfS tt t u) ds P := fun B W0 M N H0 W σ H F D m =>
  h W N σ H F.st _ fun H' e => by
    cases b with
    | true =>
      show t D σ H'
      exact h1 rfl B W0 M N H0 W σ H' (F.ex e) D m
    | false =>
      show u D σ H'
      exact h2 rfl B W0 M N H0 W σ H' (F.ex e) D m
theorem sx_next (k : P.nx ds) : Sx K tNext ds P := fun B W0 M N H0 W σ H F D m => m.nx W σ H ds k F
theorem sx_drop (h : Ev K te ds d) (k : P.nx ds) : Sx K (tDrop te) ds P := fun B W0 M N H0 W σ H F D m =>
  h W N σ H F.st _ fun v H' e r => m.nx W σ H' ds k (F.ex e)
theorem sx_seq {Mid : List Sl → Prop} (h : Sx K t ds { P with nx := Mid }) (k : ∀ ds', Mid ds' → Sx K u ds' P) : Sx K (tSeq t u) ds P := fun B W0 M N H0 W σ H F D m =>
  h B W0 M N H0 W σ H F { D with nx := u D } ⟨fun W' σ' H' ds' q F' => k ds' q B W0 M N H0 W' σ' H' F' D m, m.rt, m.bk, m.ct, m.rn⟩
theorem sx_seq1 (h : Sx K t ds { P with nx := (· = ds1) }) (k : Sx K u ds1 P) : Sx K (tSeq t u) ds P := sx_seq h fun ds' e => e ▸ k
theorem sx_imp {P' : Post} (h : Sx K t ds P') (n : ∀ ds, P'.nx ds → P.nx ds) (r : ∀ d ds, P'.rt d ds → P.rt d ds) (b : ∀ ds, P'.bk ds → P.bk ds) (c : ∀ ds, P'.ct ds → P.ct ds) (w : ∀ d ds, P'.rn d ds → P.rn d ds) : Sx K t ds P := fun B W0 M N H0 W σ H F D m =>
  h B W0 M N H0 W σ H F D ⟨fun W σ H ds q => m.nx W σ H ds (n ds q), fun W σ H ds v d q => m.rt W σ H ds v d (r d ds q), fun W σ H ds q => m.bk W σ H ds (b ds q), fun W σ H ds q => m.ct W σ H ds (c ds q), fun W σ H ds a vs xs q => m.rn W σ H ds a vs xs (w xs ds q)⟩
/-- an owned one is changed, and something may have become -/
theorem Fr.mutE (F : Fr K B W0 M N H0 W σ H ds) {i : Nat} {a : Addr} {o : HO} {s s' : Sl} (e : Ex (upd H a o) H') (h : ds[i]? = some s) (ow : s.own = true) (ha : σ[i]? = some (some (.ref a)))
    (ok : SlOk K W N H' (some (.ref a)) s') (ow' : s'.own = true) (nb : ((∀ xs, s ≠ .bl xs) ∧ ∀ xs, s' ≠ .bl xs) ∨ ((∃ xs, s = .bl xs) ∧ ∃ xs, s' = .bl xs)) : Fr K B W0 M N H0 W σ H' (ds.set i s') := by
  obtain ⟨b, ob, e1, aW, aN, hH, _⟩ := (F.st.sl i s h).addr ow
  have eb : a = b := by rw [ha] at e1; exact V.ref.inj (Option.some.inj e1)
  subst eb
  have hi : i < ds.length := (List.getElem?_eq_some_iff.mp h).1
  have ce : Ex (cut H W) (cut H' W) := by
    have q := cut_mono (W := W) e
    rw [cut_upd aW] at q
    exact q
  have keep : ∀ b o', b ≠ a → H b = some o' → H' b = some o' := fun b o' n q => e b o' (by rw [upd_ne n]; exact q)
  have ne : ∀ j t, j ≠ i → ds[j]? = some t → t.own = true → ∀ c, σ[j]? = some (some (.ref c)) → c ≠ a := fun j t nj hj ot c hc q => by
    subst q
    exact F.st.dist j i t s nj hj h ot ow (hc.trans ha.symm)
  have keepS : ∀ j t, j ≠ i → ds[j]? = some t → SlOk K W N H' (σ[j]?.getD none) t := fun j t nj hj => by
    have q := F.st.sl j t hj
    cases t with
    | un => trivial
    | pu d => obtain ⟨v, h1, h2⟩ := q; exact ⟨v, h1, h2.mono ce⟩
    | rl xs => obtain ⟨c, vs, h1, h2, h3⟩ := q; exact ⟨c, vs, h1, ex_l ce h2, h3.mono ce⟩
    | ol xs => obtain ⟨c, vs, h1, h2, h3, h4, h5⟩ := q; exact ⟨c, vs, h1, h2, h3, keep _ _ (ne j _ nj hj rfl c (getD_of h1)) h4, h5.mono ce⟩
    | od xs => obtain ⟨c, vs, h1, h2, h3, h4, h5⟩ := q; exact ⟨c, vs, h1, h2, h3, keep _ _ (ne j _ nj hj rfl c (getD_of h1)) h4, h5.mono ce⟩
    | fd xs => obtain ⟨c, vs, ob, h1, h2, h3, h4, h5⟩ := q; exact ⟨c, vs, ob, h1, h2, h3, keep _ _ (ne j _ nj hj rfl c (getD_of h1)) h4, h5.mono ce⟩
    | bl xs => obtain ⟨c, vs, h1, h2, h3, h4, h5⟩ := q; exact ⟨c, vs, h1, h2, h3, keep _ _ (ne j _ nj hj rfl c (getD_of h1)) h4, h5.mono ce⟩
  refine ⟨⟨by rw [List.length_set]; exact F.st.len, fun b hb => ?_, fun j t hj => ?_, fun j k t1 t2 njk h1 h2 o1 o2 => ?_⟩, F.sub, F.new, fun b ob' nM q => ?_, F.oth, F.nsub, F.msub, fun j t b hj nbl ot hs => ?_, F.base.trans ce, fun j xs b hj hs => ?_⟩
  · by_cases eb : b = a
    · obtain ⟨c, oc, e1', _, _, e4', nt⟩ := ok.addr ow'
      cases e1'
      rw [eb, e4']; exact nt
    · have q := F.st.al b hb
      cases hq : H b with
      | none => exact absurd hq q.ne
      | some o' => rw [keep b o' eb hq, ← hq]; exact q
  · rcases set_get hj with ⟨rfl, rfl⟩ | ⟨nj, hj⟩
    · rw [ha]; exact ok
    · exact keepS j t nj hj
  · rcases set_get h1 with ⟨rfl, rfl⟩ | ⟨n1, h1⟩
    · rcases set_get h2 with ⟨rfl, rfl⟩ | ⟨n2, h2⟩
      · exact absurd rfl njk
      · exact F.st.dist _ _ _ _ njk h h2 ow o2
    · rcases set_get h2 with ⟨rfl, rfl⟩ | ⟨n2, h2⟩
      · exact F.st.dist _ _ _ _ njk (by rw [List.getElem?_set_ne (Ne.symm n1)] at h1; exact h1) h o1 ow
      · exact F.st.dist _ _ _ _ njk h1 h2 o1 o2
  · by_cases eb : b = a
    · subst eb
      exfalso
      by_cases w0 : b ∈ W0
      · exact aN (F.oth b w0 nM)
      · rw [F.new b aW w0] at q; cases q
    · exact keep b ob' eb (F.keep b ob' nM q)
  · rcases set_get hj with ⟨rfl, rfl⟩ | ⟨nj, hj⟩
    · rcases nb with ⟨nb, _⟩ | ⟨_, xs, e⟩
      · exact F.loc _ s b h nb ow hs
      · exact absurd e (nbl xs)
    · exact F.loc j t b hj nbl ot hs
  · rcases set_get hj with ⟨rfl, e'⟩ | ⟨nj, hj⟩
    · rcases nb with ⟨_, nb⟩ | ⟨⟨ys, e2⟩, _⟩
      · exact absurd e'.symm (nb xs)
      · subst e2
        exact F.bor _ ys b h hs
    · exact F.bor j xs b hj hs
theorem Fr.mut (F : Fr K B W0 M N H0 W σ H ds) {i : Nat} {a : Addr} {o : HO} {s s' : Sl} (h : ds[i]? = some s) (ow : s.own = true) (ha : σ[i]? = some (some (.ref a)))
    (ok : SlOk K W N (upd H a o) (some (.ref a)) s') (ow' : s'.own = true) (nb : ((∀ xs, s ≠ .bl xs) ∧ ∀ xs, s' ≠ .bl xs) ∨ ((∃ xs, s = .bl xs) ∧ ∃ xs, s' = .bl xs)) : Fr K B W0 M N H0 W σ (upd H a o) (ds.set i s') := F.mutE (Ex.refl _) h ow ha ok ow' nb
theorem set_get_same {α : Type} {l : List α} {i : Nat} {x y : α} (h : l[i]? = some y) : (l.set i x)[i]? = some x := List.getElem?_set_self (List.getElem?_eq_some_iff.mp h).1
/-- xs.append(e) -/
theorem sx_app {i : Nat} {xs : List PyData} (h : ds[i]? = some (.ol xs)) (he : Ev K te ds d) (hl : xs.length < 100000) (k : P.nx (ds.set i (.ol (xs ++ [d])))) :
    Sx K (tDrop (tBM K "list" rAppend (tVar i) (tCons te tNil))) ds P := fun B W0 M N H0 W σ H F D m => by
  obtain ⟨a, vs, e, aW, aN, hH, r⟩ := F.st.sl i _ h
  have ea := getD_of e
  refine ⟨.ref a, ea, .inl ⟨rfl, vs, .inl (.inl hH)⟩, he W N σ H F.st _ fun v H' e' rv => ⟨a, vs, v, rfl, rfl, e' _ _ hH, by rw [r.length]; exact sz_lt hl, ?_⟩⟩
  refine m.nx W σ _ _ k ((F.ex e').mut h rfl ea ⟨a, vs ++ [v], rfl, aW, aN, upd_same, ?_⟩ rfl (.inl ⟨(fun _ q => nomatch q), fun _ q => nomatch q⟩))
  rw [cut_upd aW]
  exact (r.mono (cut_mono e')).append (.one rv)
theorem ixN_nat {n j : Nat} (hj : j < n) : ixN n (j : Int) = some j := by
  unfold ixN
  rw [if_pos (by omega), if_pos (by omega)]
  simp
/-- xs[j] = e, a list that was handed in -/
theorem sx_setB {i j : Nat} {xs : List PyData} (h : ds[i]? = some (.bl xs)) (he : Ev K te ds d) (hj : Ev K tb ds (.int (j : Int))) (hl : j < xs.length) (k : P.nx (ds.set i (.bl (xs.set j d)))) :
    Sx K (tAsg te (gSub (tVar i) tb rSetL)) ds P := fun B W0 M N H0 W σ H F D m => by
  obtain ⟨a, vs, e, aW, aN, hH, r⟩ := F.st.sl i _ h
  have ea := getD_of e
  refine he W N σ H F.st _ fun v H1 e1 rv => ⟨.ref a, ea, hj W N σ H1 (F.st.mono e1) _ fun w H2 e2 rw' => ?_⟩
  cases rw'
  refine ⟨a, vs, j, j, rfl, rfl, (e1.trans e2) _ _ hH, ixN_nat (by rw [r.length]; exact hl), ?_⟩
  refine m.nx W σ _ _ k ((F.ex (e1.trans e2)).mut h rfl ea ⟨a, vs.set j v, rfl, aW, aN, upd_same, ?_⟩ rfl (.inr ⟨⟨_, rfl⟩, _, rfl⟩))
  rw [cut_upd aW]
  exact (r.mono (cut_mono (e1.trans e2))).set (rv.mono (cut_mono e2)) j
/-- return of an owned list -/
theorem sx_retO {i : Nat} {xs : List PyData} (h : ds[i]? = some (.ol xs)) (k : P.rt (.list xs) (ds.set i .un)) : Sx K (tRet (tVar i)) ds P := fun B W0 M N H0 W σ H F D m => by
  obtain ⟨a, vs, e, aW, aN, hH, r⟩ := F.st.sl i _ h
  have ea := getD_of e
  have a0 : a ∉ W0 := F.loc i _ a h (fun _ q => nomatch q) rfl ea
  refine ⟨.ref a, ea, ?_⟩
  have sub : ∀ b ∈ W.filter (fun c => decide (c ≠ a)), b ∈ W := fun b hb => (List.mem_filter.mp hb).1
  have ce : Ex (cut H W) (cut H (W.filter fun c => decide (c ≠ a))) := cut_sub sub
  have stay : ∀ b, b ∈ W → b ≠ a → b ∈ W.filter (fun c => decide (c ≠ a)) := fun b hb n => List.mem_filter.mpr ⟨hb, decide_eq_true n⟩
  have out : a ∉ W.filter (fun c => decide (c ≠ a)) := fun q => of_decide_eq_true (List.mem_filter.mp q).2 rfl
  refine m.rt (W.filter fun c => decide (c ≠ a)) σ H _ (.ref a) _ k ⟨⟨by rw [List.length_set]; exact F.st.len, fun b hb => F.st.al b (sub b hb), fun j t hj => ?_, fun j l t1 t2 njk h1 h2 o1 o2 => ?_⟩, fun b hb => stay b (F.sub b hb) fun q => a0 (q ▸ hb), fun b hb => F.new b (sub b hb), F.keep, F.oth, F.nsub, F.msub, fun j t b hj nbl ot hs => ?_, F.base.trans ce, fun j xs b hj hs => ?_⟩ (.lst (by rw [cut_out out]; exact hH) (r.mono ce))
  · rcases set_get hj with ⟨rfl, rfl⟩ | ⟨nj, hj⟩
    · trivial
    · have q := F.st.sl j t hj
      have ne : t.own = true → ∀ c, σ[j]?.getD none = some (.ref c) → c ≠ a := fun ot c hc z => by
        subst z
        exact F.st.dist j i t _ nj hj h ot rfl ((getD_of hc).trans ea.symm)
      cases t with
      | un => trivial
      | pu d => obtain ⟨v, h1, h2⟩ := q; exact ⟨v, h1, h2.mono ce⟩
      | rl xs => obtain ⟨c, vs, h1, h2, h3⟩ := q; exact ⟨c, vs, h1, ex_l ce h2, h3.mono ce⟩
      | ol xs => obtain ⟨c, vs, h1, h2, h3, h4, h5⟩ := q; exact ⟨c, vs, h1, stay c h2 (ne rfl c h1), h3, h4, h5.mono ce⟩
      | od xs => obtain ⟨c, vs, h1, h2, h3, h4, h5⟩ := q; exact ⟨c, vs, h1, stay c h2 (ne rfl c h1), h3, h4, h5.mono ce⟩
      | fd xs => obtain ⟨c, vs, ob, h1, h2, h3, h4, h5⟩ := q; exact ⟨c, vs, ob, h1, stay c h2 (ne rfl c h1), h3, h4, h5.mono ce⟩
      | bl xs => obtain ⟨c, vs, h1, h2, h3, h4, h5⟩ := q; exact ⟨c, vs, h1, stay c h2 (ne rfl c h1), h3, h4, h5.mono ce⟩
  · rcases set_get h1 with ⟨rfl, rfl⟩ | ⟨n1, h1⟩
    · cases o1
    · rcases set_get h2 with ⟨rfl, rfl⟩ | ⟨n2, h2⟩
      · cases o2
      · exact F.st.dist _ _ _ _ njk h1 h2 o1 o2
  · rcases set_get hj with ⟨rfl, rfl⟩ | ⟨nj, hj⟩
    · cases ot
    · exact F.loc j t b hj nbl ot hs
  · rcases set_get hj with ⟨rfl, e'⟩ | ⟨nj, hj⟩
    · cases e'
    · exact F.bor j xs b hj hs
/-- return of a new list -/
theorem sx_retN {xs : List PyData} (h : EnL K te ds xs) (k : P.rn xs ds) : Sx K (tRet te) ds P := fun B W0 M N H0 W σ H F D m =>
  h W N σ H F.st _ fun a vs H' e n h1 r => m.rn W σ H' ds a vs xs k (F.ex e) (F.st.al.fresh n) (by
    cases q : H0 a with
    | none => rfl
    | some o =>
      by_cases hm : a ∈ M
      · exact absurd n (F.st.al a (F.sub a (F.msub a hm))).ne
      · rw [F.keep a o hm q] at n; cases n) h1 r
/-- while -/
theorem sx_while {Inv : Nat → List Sl → Prop} (n0 : Nat) (h0 : Inv n0 ds)
    (hs : ∀ n ds, Inv n ds → ∃ b, Et K tt ds b ∧ (b = true → Sx K t ds { P with nx := fun ds' => ∃ m, m < n ∧ Inv m ds', ct := fun ds' => ∃ m, m < n ∧ Inv m ds', bk := P.nx }) ∧ (b = false → P.nx ds)) : Sx K (tWhile tt t) ds P := fun B W0 M N H0 W σ H F D m => by
  refine ⟨fun n σ' H' => ∃ W' ds', Inv n ds' ∧ Fr K B W0 M N H0 W' σ' H' ds', ⟨n0, W, ds, h0, F⟩, ?_⟩
  rintro n σ' H' ⟨W', ds', hi, F'⟩
  obtain ⟨b, hb, h1, h2⟩ := hs n ds' hi
  refine hb W' N σ' H' F'.st _ fun H1 e => ?_
  cases b with
  | true =>
    show ∃ N' : L2.St → Hp → Prop, _ ∧ t { D with nx := N', ct := N', bk := D.nx } σ' H1
    refine ⟨fun σ2 H2 => ∃ m, m < n ∧ ∃ W2 ds2, Inv m ds2 ∧ Fr K B W0 M N H0 W2 σ2 H2 ds2, fun σ2 H2 q => q, ?_⟩
    exact h1 rfl B W0 M N H0 W' σ' H1 (F'.ex e) _ ⟨fun W σ H ds q F => let ⟨m, hm, hi⟩ := q; ⟨m, hm, W, ds, hi, F⟩, m.rt, m.nx, fun W σ H ds q F => let ⟨m, hm, hi⟩ := q; ⟨m, hm, W, ds, hi, F⟩, m.rn⟩
  | false =>
    show D.nx σ' H1
    exact m.nx W' σ' H1 ds' (h2 rfl) (F'.ex e)
end
end L3
end

section
set_option Elab.async false
set_option linter.all false
set_option maxRecDepth 100000
set_option autoImplicit false
/-! Operators and calls over pure data, each by one reading whatever the kinds are. -/
namespace L3
open PySem L2

/-! ### readings -/
def gAdd : R2 := fun x y H Q => rI0 (fun i j => .int (i + j)) x y H Q ∨ rCat x y H Q ∨ (∃ i j, x = .str i ∧ y = .str j ∧ i.length + j.length ≤ sizeLine ∧ Q (.str (i ++ j)) H)
def gAddT (K : PySem.W.Frag) : R2 := fun x y H Q => gAdd x y H Q ∨ rCatA K x y H Q
def gMul : R2 := fun x y H Q => rI CMul (fun i j => .int (i * j)) x y H Q ∨ rI CMulW (fun i j => .int (i * j)) x y H Q
def CPowB (i j : Int) : Prop := 0 ≤ j ∧ (Builtin.Int.intBits i : Int) * j ≤ 2 ^ 27
section
variable {X : Cx}
theorem op_gAdd : OpR X (binaryOp .Add) (gAddT X.K) := (op_add.or (op_cat.or op_add_str)).or op_catA
theorem op_gMul : OpR X (binaryOp .Mult) gMul := op_mul.or op_mulW
theorem op_gPow : OpR X (binaryOp .Pow) (rI CPowB fun i j => .int (i ^ j.toNat)) := opI fun _ _ _ _ _ _ _ hc q => PyProof.Rows.pow_int hc.1 hc.2 q
theorem op_gLt (hu : X.A.units < cLine) : OpR X (compareOp .Lt) (fun x y H Q => rI0 (fun i j => .bl (decide (i < j))) x y H Q ∨ rLtT X.K x y H Q) := op_lt.or (op_ltT hu)
def rInT (K : PySem.W.Frag) : R2 := fun x y H Q => ∃ d ds, Dp K H x d ∧ Dp K H y (.tuple ds) ∧ SeqAt.shaped d = true ∧ SeqAt.shaped (.tuple ds) = true ∧ Q (.bl (ds.any fun z => PyData.eqv z d)) H
def rNotInT (K : PySem.W.Frag) : R2 := fun x y H Q => ∃ d ds, Dp K H x d ∧ Dp K H y (.tuple ds) ∧ SeqAt.shaped d = true ∧ SeqAt.shaped (.tuple ds) = true ∧ Q (.bl (!ds.any fun z => PyData.eqv z d)) H
theorem room_in_sh {A : Around} {d : PyData} {ds : List PyData} (sd : SeqAt.shaped d = true) (hu : A.units + 65 < cLine) : A.units + 1 + min (PyData.depthAll ds) d.depth < cLine := by
  have h1 := SeqAt.depth_of_shaped sd
  have h2 : min (PyData.depthAll ds) d.depth ≤ d.depth := Nat.min_le_right _ _
  omega
theorem op_inT (hu : X.A.units + 65 < cLine) : OpR X (compareOp .In) (rInT X.K) := by
  intro pins s σ H x y v u Q I rx ry h
  obtain ⟨d, ds, hd, he, sd, se, q⟩ := h
  obtain ⟨as, r1⟩ := Dp.reads I d x v hd rx
  obtain ⟨bs, r2⟩ := Dp.reads I (.tuple ds) y u he ry
  exact SeqAt.in_tuple_reads r2 r1 (SeqAt.canLay_of_shaped se) (SeqAt.canLay_of_shaped sd) (room_in_sh sd hu) ⟨.bl _, H, I, rfl, q⟩
theorem op_notInT (hu : X.A.units + 65 < cLine) : OpR X (compareOp .NotIn) (rNotInT X.K) := by
  intro pins s σ H x y v u Q I rx ry h
  obtain ⟨d, ds, hd, he, sd, se, q⟩ := h
  obtain ⟨as, r1⟩ := Dp.reads I d x v hd rx
  obtain ⟨bs, r2⟩ := Dp.reads I (.tuple ds) y u he ry
  exact SeqAt.notIn_tuple_reads r2 r1 (SeqAt.canLay_of_shaped se) (SeqAt.canLay_of_shaped sd) (room_in_sh sd hu) ⟨.bl _, H, I, rfl, q⟩
def gSign (neg : Bool) : R2 := fun x y H Q => ∃ (c : Nat) (z : Str), x = .str ⟨#[c]⟩ ∧ y = .str z ∧ Q (.bl (if neg then !decide (c ∈ z.cps.toList) else decide (c ∈ z.cps.toList))) H
def gIn (K : PySem.W.Frag) : R2 := fun x y H Q => gSign false x y H Q ∨ rInD K x y H Q ∨ rInT K x y H Q
def gNotIn (K : PySem.W.Frag) : R2 := fun x y H Q => gSign true x y H Q ∨ rNotInD K x y H Q ∨ rNotInT K x y H Q
theorem op_sgn : OpR X (compareOp .In) (gSign false) := op_in_sign
theorem op_nsgn : OpR X (compareOp .NotIn) (gSign true) := op_notIn_sign
theorem op_gIn (hu : X.A.units + 65 < cLine) : OpR X (compareOp .In) (gIn X.K) := op_sgn.or ((op_inD hu).or (op_inT hu))
theorem op_gNotIn (hu : X.A.units + 65 < cLine) : OpR X (compareOp .NotIn) (gNotIn X.K) := op_nsgn.or ((op_notInD hu).or (op_notInT hu))
theorem u64 {k : Nat} {A : Around} (r : Room k A) : A.units + 64 < cLine := by have := r.un; omega
theorem u65 {k : Nat} {A : Around} (r : Room k A) : A.units + 65 < cLine := by have := r.un; omega
theorem u0 {k : Nat} {A : Around} (r : Room k A) : A.units < cLine := by have := r.un; omega
theorem u1 {k : Nat} {A : Around} (r : Room k A) : A.units + 1 < cLine := by have := r.un; omega
end

/-! ### by data -/
section
variable {K : PySem.W.Frag} {d e : PyData} {xs ys : List PyData} {i j : Int}
theorem rd_addI : RD K (gAddT K) (.int i) (.int j) (.int (i + j)) := fun W H v u A r1 r2 Q q => by
  cases r1; cases r2
  exact .inl (.inl ⟨i, j, rfl, rfl, q _ H (Ex.refl H) (.int _)⟩)
theorem rd_addS {x y : Str} (h : x.length + y.length ≤ 100000) : RD K (gAddT K) (.str x) (.str y) (.str (x ++ y)) := fun W H v u A r1 r2 Q q => by
  cases r1; cases r2
  exact .inl (.inr (.inr ⟨x, y, rfl, rfl, sz_of h, q _ H (Ex.refl H) (.str _)⟩))
theorem rd_addL (h : xs.length + ys.length ≤ 100000) : RD K (gAddT K) (.list xs) (.list ys) (.list (xs ++ ys)) := fun W H v u A r1 r2 Q q => by
  cases r1 with
  | lst h1 r1 =>
    cases r2 with
    | lst h2 r2 =>
      refine .inl (.inr (.inl ⟨_, _, _, _, rfl, rfl, cut_ex _ _ h1, cut_ex _ _ h2, by rw [r1.length, r2.length]; exact sz_of h, fun p hp => ?_⟩))
      exact q _ _ (Ex.new hp) (.lst (cut_new A hp) ((r1.append r2).mono (cut_mono (Ex.new hp))))
theorem rd_addT (h : xs.length + ys.length ≤ 100000) : RD K (gAddT K) (.tuple xs) (.tuple ys) (.tuple (xs ++ ys)) := fun W H v u A r1 r2 Q q => by
  cases r1 with
  | @tup a vs _ h1 r1 =>
    cases r2 with
    | @tup b ws _ h2 r2 =>
      refine .inr ⟨_, _, _, _, rfl, rfl, .inl (.inl (cut_ex _ _ h1)), .inl (.inl (cut_ex _ _ h2)), by rw [r1.length, r2.length]; exact sz_of h, fun e => ?_, fun _ e => ?_, fun _ _ p hp => ?_⟩
      · subst e
        cases r1
        exact q _ H (Ex.refl H) (.tup h2 r2)
      · subst e
        cases r2
        rw [List.append_nil] at q
        exact q _ H (Ex.refl H) (.tup h1 r1)
      · exact q _ _ (Ex.new hp) (.tup (cut_new A hp) ((r1.append r2).mono (cut_mono (Ex.new hp))))
theorem rd_I0 {g : Int → Int → V} {z : PyData} (h : ∀ I : Hp, Rp K I (g i j) z) : RD K (rI0 g) (.int i) (.int j) z := fun W H v u A r1 r2 Q q => by
  cases r1; cases r2
  exact ⟨i, j, rfl, rfl, q _ H (Ex.refl H) (h _)⟩
theorem rd_I {C : Int → Int → Prop} {g : Int → Int → V} {z : PyData} (c : C i j) (h : ∀ I : Hp, Rp K I (g i j) z) : RD K (rI C g) (.int i) (.int j) z := fun W H v u A r1 r2 Q q => by
  cases r1; cases r2
  exact ⟨i, j, rfl, rfl, c, q _ H (Ex.refl H) (h _)⟩
theorem rd_sub : RD K (rI0 fun i j => .int (i - j)) (.int i) (.int j) (.int (i - j)) := rd_I0 fun _ => .int _
theorem rd_mul (h : CMul i j) : RD K gMul (.int i) (.int j) (.int (i * j)) := fun W H v u A r1 r2 Q q => .inl (rd_I h (fun _ => .int _) W H v u A r1 r2 Q q)
theorem rd_mulW (h : CMulW i j) : RD K gMul (.int i) (.int j) (.int (i * j)) := fun W H v u A r1 r2 Q q => .inr (rd_I h (fun _ => .int _) W H v u A r1 r2 Q q)
theorem rd_div (h : CDiv i j) : RD K (rI CDiv fun i j => .int (i / j)) (.int i) (.int j) (.int (i / j)) := rd_I h fun _ => .int _
theorem rd_mod (h : 0 < j) : RD K (rI (fun _ j => 0 < j) fun i j => .int (i % j)) (.int i) (.int j) (.int (i % j)) := rd_I (C := fun _ j => 0 < j) h fun _ => .int _
theorem rd_pow (h : CPowB i j) : RD K (rI CPowB fun i j => .int (i ^ j.toNat)) (.int i) (.int j) (.int (i ^ j.toNat)) := rd_I h fun _ => .int _
theorem rd_ltI : RD K (fun x y H Q => rI0 (fun i j => .bl (decide (i < j))) x y H Q ∨ rLtT K x y H Q) (.int i) (.int j) (.bool (decide (i < j))) := fun W H v u A r1 r2 Q q => .inl (rd_I0 (fun _ => .bl _) W H v u A r1 r2 Q q)
theorem rd_ltT {ns ms : List Int} : RD K (fun x y H Q => rI0 (fun i j => .bl (decide (i < j))) x y H Q ∨ rLtT K x y H Q) (.tuple (ns.map .int)) (.tuple (ms.map .int)) (.bool (HT.lexLt ns ms)) := fun W H v u A r1 r2 Q q => by
  cases r1 with
  | tup h1 r1 =>
    cases r2 with
    | tup h2 r2 =>
      have e1 := r1.ints
      have e2 := r2.ints
      subst e1 e2
      exact .inr ⟨_, _, ns, ms, rfl, rfl, .inl (.inl (cut_ex _ _ h1)), .inl (.inl (cut_ex _ _ h2)), q _ H (Ex.refl H) (.bl _)⟩
theorem rd_le : RD K (rI0 fun i j => .bl (decide (i ≤ j))) (.int i) (.int j) (.bool (decide (i ≤ j))) := rd_I0 fun _ => .bl _
theorem rd_gt : RD K (rI0 fun i j => .bl (decide (j < i))) (.int i) (.int j) (.bool (decide (j < i))) := rd_I0 fun _ => .bl _
theorem rd_ge : RD K (rI0 fun i j => .bl (decide (j ≤ i))) (.int i) (.int j) (.bool (decide (j ≤ i))) := rd_I0 fun _ => .bl _
theorem Rp.dpH {W : List Addr} {H : Hp} {v : V} (r : Rp K (cut H W) v d) (c : SeqAt.shaped d = true) : Dp K H v d := (r.mono cut_ex).dp (SeqAt.canLay_of_shaped c)
theorem rd_eq (h1 : SeqAt.shaped d = true) (h2 : SeqAt.shaped e = true) : RD K (rEqD K) d e (.bool (PyData.eqv d e)) := fun W H v u A r1 r2 Q q => ⟨d, e, r1.dpH h1, r2.dpH h2, h1, h2, q _ H (Ex.refl H) (.bl _)⟩
theorem rd_ne (h1 : SeqAt.shaped d = true) (h2 : SeqAt.shaped e = true) : RD K (rNeD K) d e (.bool (!PyData.eqv d e)) := fun W H v u A r1 r2 Q q => ⟨d, e, r1.dpH h1, r2.dpH h2, h1, h2, q _ H (Ex.refl H) (.bl _)⟩
theorem rd_inS {c : Nat} {z : Str} : RD K (gIn K) (.str ⟨#[c]⟩) (.str z) (.bool (decide (c ∈ z.cps.toList))) := fun W H v u A r1 r2 Q q => by
  cases r1; cases r2
  exact .inl ⟨c, z, rfl, rfl, q _ H (Ex.refl H) (.bl _)⟩
theorem rd_ninS {c : Nat} {z : Str} : RD K (gNotIn K) (.str ⟨#[c]⟩) (.str z) (.bool (!decide (c ∈ z.cps.toList))) := fun W H v u A r1 r2 Q q => by
  cases r1; cases r2
  exact .inl ⟨c, z, rfl, rfl, q _ H (Ex.refl H) (.bl _)⟩
theorem rd_inL (h1 : SeqAt.shaped d = true) (h2 : SeqAt.shaped (.list xs) = true) : RD K (gIn K) d (.list xs) (.bool (xs.any fun z => PyData.eqv z d)) := fun W H v u A r1 r2 Q q => .inr (.inl ⟨d, xs, r1.dpH h1, r2.dpH h2, h1, h2, q _ H (Ex.refl H) (.bl _)⟩)
theorem rd_ninL (h1 : SeqAt.shaped d = true) (h2 : SeqAt.shaped (.list xs) = true) : RD K (gNotIn K) d (.list xs) (.bool (!xs.any fun z => PyData.eqv z d)) := fun W H v u A r1 r2 Q q => .inr (.inl ⟨d, xs, r1.dpH h1, r2.dpH h2, h1, h2, q _ H (Ex.refl H) (.bl _)⟩)
theorem rd_inT (h1 : SeqAt.shaped d = true) (h2 : SeqAt.shaped (.tuple xs) = true) : RD K (gIn K) d (.tuple xs) (.bool (xs.any fun z => PyData.eqv z d)) := fun W H v u A r1 r2 Q q => .inr (.inr ⟨d, xs, r1.dpH h1, r2.dpH h2, h1, h2, q _ H (Ex.refl H) (.bl _)⟩)
theorem rd_ninT (h1 : SeqAt.shaped d = true) (h2 : SeqAt.shaped (.tuple xs) = true) : RD K (gNotIn K) d (.tuple xs) (.bool (!xs.any fun z => PyData.eqv z d)) := fun W H v u A r1 r2 Q q => .inr (.inr ⟨d, xs, r1.dpH h1, r2.dpH h2, h1, h2, q _ H (Ex.refl H) (.bl _)⟩)
theorem rd_isB {a b : Bool} : RD K rIsB (.bool a) (.bool b) (.bool (decide (a = b))) := fun W H v u A r1 r2 Q q => by
  cases r1; cases r2
  exact ⟨a, b, rfl, rfl, q _ H (Ex.refl H) (.bl _)⟩
theorem ud_neg : UD K (rU fun i => .int (-i)) (.int i) (.int (-i)) := fun W H v A r1 Q q => by
  cases r1
  exact ⟨i, rfl, q _ H (Ex.refl H) (.int _)⟩
/-! subscripts -/
theorem rd_ixL {k : Int} (h : atI xs k = some d) : RD K (rIx K) (.list xs) (.int k) d := fun W H v u A r1 r2 Q q => by
  cases r1 with
  | lst h1 r1 =>
    cases r2
    obtain ⟨j, e1, e2⟩ := Option.bind_eq_some_iff.mp h
    obtain ⟨w, hw, rw'⟩ := r1.get' e2
    refine .inl ⟨_, _, k, w, rfl, rfl, .inl (.inl (cut_ex _ _ h1)), ?_, q _ H (Ex.refl H) rw'⟩
    unfold atI
    rw [r1.length, e1]
    exact hw
theorem rd_ixT {k : Int} (h : atI xs k = some d) : RD K (rIx K) (.tuple xs) (.int k) d := fun W H v u A r1 r2 Q q => by
  cases r1 with
  | tup h1 r1 =>
    cases r2
    obtain ⟨j, e1, e2⟩ := Option.bind_eq_some_iff.mp h
    obtain ⟨w, hw, rw'⟩ := r1.get' e2
    refine .inr (.inl ⟨_, _, k, w, rfl, rfl, .inl (.inl (cut_ex _ _ h1)), ?_, q _ H (Ex.refl H) rw'⟩)
    unfold atI
    rw [r1.length, e1]
    exact hw
theorem rd_ixS {k : Int} {z : Str} {c : Nat} (h : atI z.cps.toList k = some c) (hl : z.length ≤ 100000) : RD K (rIx K) (.str z) (.int k) (.str ⟨#[c]⟩) := fun W H v u A r1 r2 Q q => by
  cases r1; cases r2
  exact .inr (.inr ⟨z, k, c, rfl, rfl, sz_of hl, h, q _ H (Ex.refl H) (.str _)⟩)
/-- of a list that is read -/
theorem ev_ixR {ta tb : TE} {ds : List Sl} {k : Int} (ha : ErL K ta ds xs) (hb : Ev K tb ds (.int k)) (h : atI xs k = some d) : Ev K (tOp (rIx K) ta tb) ds d := fun W N σ H S Q q =>
  ha W N σ H S _ fun a vs H1 e1 hs r1 => hb W N σ H1 (S.mono e1) _ fun u H2 e2 r2 => by
    cases r2
    obtain ⟨j, q1, q2⟩ := Option.bind_eq_some_iff.mp h
    obtain ⟨w, hw, rw'⟩ := r1.get' q2
    refine .inl ⟨a, vs, k, w, rfl, rfl, ex_l e2 hs, ?_, q _ H2 (e1.trans e2) (rw'.mono (cut_mono e2))⟩
    unfold atI
    rw [r1.length, q1]
    exact hw
/-! slices -/
def cutD (xs : List PyData) (lo hi : Option Int) : List PyData := (xs.drop (HT.sIx xs.length 0 lo)).take (HT.sIx xs.length xs.length hi - HT.sIx xs.length 0 lo)
def gSl (K : PySem.W.Frag) : V → Option Int → Option Int → Hp → VK → Prop := fun x lo hi H Q => rSlL K x lo hi H Q ∨ rSlA K x lo hi H Q
theorem sl_g {X : Cx} : SlR X (gSl X.K) := sl_list.or sl_tupA
theorem RpAll.cutV {I : Hp} {vs : List V} (r : RpAll K I vs xs) (lo hi : Option Int) : RpAll K I (L2.cutV vs lo hi) (cutD xs lo hi) := by
  unfold L2.cutV cutD
  rw [r.length]
  exact (r.drop _).take _
theorem ev_slT {te : TE} {tl th : TO} {ds : List Sl} {lo hi : Option Int} (h : Ev K te ds (.tuple xs)) (h1 : Eo K tl ds lo) (h2 : Eo K th ds hi) : Ev K (tSl (gSl K) te tl th) ds (.tuple (cutD xs lo hi)) := fun W N σ H S Q q =>
  h W N σ H S _ fun v H1 e1 r1 => h1 W N σ H1 (S.mono e1) _ fun H2 e2 => h2 W N σ H2 ((S.mono e1).mono e2) _ fun H3 e3 => by
    cases r1 with
    | @tup a vs _ hs r1 =>
      have A3 : Al W H3 := ((S.al.mono e1).mono e2).mono e3
      have r3 : RpAll K (cut H3 W) vs xs := (r1.mono (cut_mono e2)).mono (cut_mono e3)
      have hs3 : cut H3 W a = some (.tup vs) := cut_mono e3 _ _ (cut_mono e2 _ _ hs)
      refine .inr ⟨a, vs, rfl, .inl (.inl (cut_ex _ _ hs3)), fun ⟨w1, w2⟩ => q _ H3 ((e1.trans e2).trans e3) (.tup hs3 ?_), fun _ p hp => q _ _ (((e1.trans e2).trans e3).trans (Ex.new hp)) (.tup (cut_new A3 hp) ((r3.cutV lo hi).mono (cut_mono (Ex.new hp))))⟩
      have c := r3.cutV lo hi
      have ev : L2.cutV vs lo hi = vs := by
        unfold L2.cutV
        rw [w1, w2]
        simp
      rw [ev] at c
      exact c
theorem en_slR {te : TE} {tl th : TO} {ds : List Sl} {lo hi : Option Int} (h : ErL K te ds xs) (h1 : Eo K tl ds lo) (h2 : Eo K th ds hi) : EnL K (tSl (gSl K) te tl th) ds (cutD xs lo hi) := fun W N σ H S Q q =>
  h W N σ H S _ fun a vs H1 e1 hs r1 => h1 W N σ H1 (S.mono e1) _ fun H2 e2 => h2 W N σ H2 ((S.mono e1).mono e2) _ fun H3 e3 =>
    .inl ⟨a, vs, rfl, ex_l e3 (ex_l e2 hs), fun p hp => q p _ _ (((e1.trans e2).trans e3).trans (Ex.new hp)) (((e1.trans e2).trans e3).back hp) upd_same
      ((((r1.mono (cut_mono e2)).mono (cut_mono e3)).cutV lo hi).mono (cut_cons hp (Ex.new hp)))⟩

/-! ### calls of built-ins -/
def gLen (K : PySem.W.Frag) : List V → Hp → VK → Prop := fun xs H Q => ∃ x n, xs = [x] ∧ LenV K x H n ∧ Q (.int n) H
theorem cr_gLen {X : Cx} : CallR X (.builtin "len") (gLen X.K) := call_len
theorem cd_lenT : CD K (gLen K) [.tuple xs] (.int xs.length) := fun W H vs A r Q q => by
  cases r with
  | cons r1 r =>
    cases r
    cases r1 with
    | tup hs r1 => exact ⟨_, _, rfl, .inr ⟨_, .inl (.inl (cut_ex _ _ hs)), rfl⟩, by rw [r1.length]; exact q _ H (Ex.refl H) (.int _)⟩
theorem cd_lenL : CD K (gLen K) [.list xs] (.int xs.length) := fun W H vs A r Q q => by
  cases r with
  | cons r1 r =>
    cases r
    cases r1 with
    | lst hs r1 => exact ⟨_, _, rfl, .inl ⟨_, .inl (.inl (cut_ex _ _ hs)), rfl⟩, by rw [r1.length]; exact q _ H (Ex.refl H) (.int _)⟩
theorem cd_lenS {z : Str} (h : z.length ≤ 100000) : CD K (gLen K) [.str z] (.int z.length) := fun W H vs A r Q q => by
  cases r with
  | cons r1 r =>
    cases r
    cases r1
    exact ⟨_, _, rfl, ⟨sz_of h, rfl⟩, q _ H (Ex.refl H) (.int _)⟩
/-- one argument that is a list that is read -/
theorem ev_cbR {c : List V → Hp → VK → Prop} {ta : TE} {ds : List Sl} (h : ErL K ta ds xs)
    (k : ∀ W H a vs, Al W H → SqL K H a vs → RpAll K (cut H W) vs xs → ∀ Q : VK, (∀ v H', Ex H H' → Rp K (cut H' W) v d → Q v H') → c [.ref a] H Q) : Ev K (tCB c (tCons ta tNil)) ds d := fun W N σ H S Q q =>
  h W N σ H S _ fun a vs H1 e1 hs r => k W H1 a vs (S.al.mono e1) hs r Q fun v H' e2 r2 => q v H' (e1.trans e2) r2
theorem ev_lenR {ta : TE} {ds : List Sl} (h : ErL K ta ds xs) : Ev K (tCB (gLen K) (tCons ta tNil)) ds (.int xs.length) := ev_cbR h fun W H a vs A hs r Q q =>
  ⟨_, _, rfl, .inl ⟨_, hs, rfl⟩, by rw [r.length]; exact q _ H (Ex.refl H) (.int _)⟩
theorem ev_sum {ta : TE} {ds : List Sl} {ns : List Int} (h : ErL K ta ds (ns.map .int)) : Ev K (tCB (rSum K) (tCons ta tNil)) ds (.int ns.sum) := ev_cbR h fun W H a vs A hs r Q q => by
  have e := r.ints
  subst e
  exact ⟨a, ns, rfl, hs, q _ H (Ex.refl H) (.int _)⟩
theorem ev_max {ta : TE} {ds : List Sl} {ns : List Int} {m : Int} (h : ErL K ta ds (ns.map .int)) (hm : m ∈ ns) (hle : ∀ y ∈ ns, y ≤ m) : Ev K (tCB (rMax K) (tCons ta tNil)) ds (.int m) := ev_cbR h fun W H a vs A hs r Q q => by
  have e := r.ints
  subst e
  refine ⟨a, ns, rfl, hs, List.length_pos_of_mem hm, fun m' h1 h2 => ?_⟩
  have e : m' = m := Int.le_antisymm (hle m' h1) (h2 m hm)
  subst e
  exact q _ H (Ex.refl H) (.int _)
theorem ev_all {ta : TE} {ds : List Sl} {bs : List Bool} (h : ErL K ta ds (bs.map .bool)) : Ev K (tCB (rAll K) (tCons ta tNil)) ds (.bool (bs.all id)) := ev_cbR h fun W H a vs A hs r Q q => by
  have e := r.bls
  subst e
  exact ⟨a, bs, rfl, hs, q _ H (Ex.refl H) (.bl _)⟩
theorem ev_any {ta : TE} {ds : List Sl} {bs : List Bool} (h : ErL K ta ds (bs.map .bool)) : Ev K (tCB (rAny K) (tCons ta tNil)) ds (.bool (bs.any id)) := ev_cbR h fun W H a vs A hs r Q q => by
  have e := r.bls
  subst e
  exact ⟨a, bs, rfl, hs, q _ H (Ex.refl H) (.bl _)⟩
def gMax2 : List V → Hp → VK → Prop := fun xs H Q => ∃ i j, xs = [.int i, .int j] ∧ Q (.int (if j > i then j else i)) H
def gMin2 : List V → Hp → VK → Prop := fun xs H Q => ∃ i j, xs = [.int i, .int j] ∧ Q (.int (if j < i then j else i)) H
theorem cd_max2 : CD K gMax2 [.int i, .int j] (.int (if j > i then j else i)) := fun W H vs A r Q q => by
  cases r with
  | cons r1 r =>
    cases r with
    | cons r2 r =>
      cases r; cases r1; cases r2
      exact ⟨i, j, rfl, q _ H (Ex.refl H) (.int _)⟩
theorem cd_min2 : CD K gMin2 [.int i, .int j] (.int (if j < i then j else i)) := fun W H vs A r Q q => by
  cases r with
  | cons r1 r =>
    cases r with
    | cons r2 r =>
      cases r; cases r1; cases r2
      exact ⟨i, j, rfl, q _ H (Ex.refl H) (.int _)⟩
def gAbs : List V → Hp → VK → Prop := fun xs H Q => ∃ i, xs = [.int i] ∧ Q (.int (if i < 0 then -i else i)) H
theorem cd_abs : CD K gAbs [.int i] (.int (if i < 0 then -i else i)) := fun W H vs A r Q q => by
  cases r with
  | cons r1 r =>
    cases r; cases r1
    exact ⟨i, rfl, q _ H (Ex.refl H) (.int _)⟩
def gInt : List V → Hp → VK → Prop := fun xs H Q => (∃ i, xs = [.int i] ∧ Q (.int i) H) ∨ ∃ k, xs = [.bl k] ∧ Q (.int (if k then 1 else 0)) H
theorem cr_gInt {X : Cx} : CallR X (.type "int") gInt := call_int1
theorem cd_intI : CD K gInt [.int i] (.int i) := fun W H vs A r Q q => by
  cases r with
  | cons r1 r =>
    cases r; cases r1
    exact .inl ⟨i, rfl, q _ H (Ex.refl H) (.int _)⟩
theorem cd_intB {b : Bool} : CD K gInt [.bool b] (.int (if b then 1 else 0)) := fun W H vs A r Q q => by
  cases r with
  | cons r1 r =>
    cases r; cases r1
    exact .inr ⟨b, rfl, q _ H (Ex.refl H) (.int _)⟩
def gTuple (K : PySem.W.Frag) : List V → Hp → VK → Prop := fun xs H Q => ∃ p ys, xs = [.ref p] ∧ ((SqL K H p ys ∧ ∀ l, H l = none → Q (.ref l) (upd H l (.tup ys))) ∨ (SqT K H p ys ∧ Q (.ref p) H))
theorem cr_gTuple {X : Cx} : CallR X (.type "tuple") (gTuple X.K) := call_tuple_of
theorem ev_tupleR {ta : TE} {ds : List Sl} (h : ErL K ta ds xs) : Ev K (tCB (gTuple K) (tCons ta tNil)) ds (.tuple xs) := ev_cbR h fun W H a vs A hs r Q q =>
  ⟨a, vs, rfl, .inl ⟨hs, fun l hl => q _ _ (Ex.new hl) (.tup (cut_new A hl) (r.mono (cut_mono (Ex.new hl))))⟩⟩
def gList (K : PySem.W.Frag) : List V → Hp → VK → Prop := fun xs H Q => ∃ p ys, xs = [.ref p] ∧ (SqL K H p ys ∨ SqT K H p ys) ∧ ∀ l, H l = none → Q (.ref l) (upd H l (.lst ys))
theorem cr_gList {X : Cx} : CallR X (.type "list") (gList X.K) := call_list_of
theorem en_listR {ta : TE} {ds : List Sl} (h : ErL K ta ds xs) : EnL K (tCB (gList K) (tCons ta tNil)) ds xs := fun W N σ H S Q q =>
  h W N σ H S _ fun a vs H1 e1 hs r => ⟨a, vs, rfl, .inl hs, fun l hl => q l _ _ (e1.trans (Ex.new hl)) (e1.back hl) upd_same (r.mono (cut_cons hl (Ex.new hl)))⟩
/-! isinstance -/
def tyD : PyData → String
  | .none => "NoneType"
  | .bool _ => "bool"
  | .int _ => "int"
  | .str _ => "str"
  | .list _ => "list"
  | .tuple _ => "tuple"
  | .dict _ => "dict"
theorem tyx {I : Hp} {v : V} (r : Rp K I v d) : TyX K I v (.type (tyD d)) := by
  cases r with
  | non => exact .base .non
  | bl b => exact .base (.bl b)
  | int i => exact .base (.int i)
  | str x => exact .base (.str x)
  | lst h _ => exact .base (.lst h)
  | tup h _ => exact .base (.tup h)
  | dct h _ _ => exact .base (.dT h)
theorem ev_isi {te : TE} {ds : List Sl} {n : String} {b : Bool} (h : Ev K te ds d) (hk : kitB (tyD d) n = some b) : Ev K (tCB (rIsi K) (tCons te (tCons (tC (.ty n)) tNil))) ds (.bool b) := fun W N σ H S Q q =>
  h W N σ H S _ fun v H1 e1 r => ⟨v, .ty n, .type (tyD d), .type n, b, rfl, .ty n, tyx (r.mono cut_ex), kit_ty hk, q _ H1 e1 (.bl b)⟩
/-! calls of defs: a promise over data -/
def spD (K : PySem.W.Frag) (R : List PyData → PyData → Prop) : Sp := fun vs H Q _ => ∃ W xs d, Al W H ∧ RpAll K (cut H W) vs xs ∧ R xs d ∧ ∀ v H', Ex H H' → Rp K (cut H' W) v d → Q v H'
theorem ev_call {R : List PyData → PyData → Prop} {E : XK} {ta : TA} {ds : List Sl} (h : Ea K ta ds xs) (hr : R xs d) : Ev K (tCall (spD K R) [] E ta) ds d := fun W N σ H S Q q =>
  h W N σ H S _ fun vs H1 e1 r => by
    show spD K R (vs ++ []) H1 Q E
    rw [List.append_nil]
    exact ⟨W, xs, d, S.al.mono e1, r, hr, fun v H' e2 r2 => q v H' (e1.trans e2) r2⟩
end
end L3
end

section
set_option Elab.async false
set_option linter.all false
set_option maxRecDepth 100000
set_option autoImplicit false
/-! What is walked; comprehensions, for; defs. -/
namespace L3
open PySem L2

/-! ### wiped slots -/
theorem wipe_get (σ : L2.St) (i : Nat) : ∀ vs : List Nat, (wipe σ vs)[i]? = if i ∈ vs then σ[i]?.map (fun _ => none) else σ[i]?
  | [] => by simp [wipe]
  | v :: vs => by
    unfold wipe
    by_cases e : v = i
    · subst e
      rw [if_pos List.mem_cons_self]
      by_cases hl : v < σ.length
      · rw [List.getElem?_set_self (by rw [wipe_length]; exact hl), List.getElem?_eq_getElem hl]; rfl
      · rw [List.getElem?_eq_none (by rw [List.length_set, wipe_length]; omega), List.getElem?_eq_none (by omega)]; rfl
    · rw [List.getElem?_set_ne e, wipe_get σ i vs]
      have : (i ∈ v :: vs) ↔ i ∈ vs := ⟨fun h => (List.mem_cons.mp h).elim (fun z => absurd z.symm e) id, List.mem_cons_of_mem _⟩
      simp only [this]
theorem wipe_set {σ : L2.St} {j : Nat} {x : Option V} {vs : List Nat} (h : j ∈ vs) : wipe (σ.set j x) vs = wipe σ vs := by
  apply List.ext_getElem?
  intro i
  rw [wipe_get, wipe_get]
  by_cases hi : i ∈ vs
  · rw [if_pos hi, if_pos hi]
    by_cases e : j = i
    · subst e
      by_cases hl : j < σ.length
      · rw [List.getElem?_set_self hl, List.getElem?_eq_getElem hl]; rfl
      · rw [List.getElem?_eq_none (by rw [List.length_set]; omega), List.getElem?_eq_none (by omega)]
    · rw [List.getElem?_set_ne e]
  · rw [if_neg hi, if_neg hi, List.getElem?_set_ne (fun e => hi (by rw [← e]; exact h))]
theorem wipe_wipe {σ : L2.St} {vs : List Nat} : wipe (wipe σ vs) vs = wipe σ vs := by
  apply List.ext_getElem?
  intro i
  rw [wipe_get, wipe_get]
  by_cases hi : i ∈ vs
  · rw [if_pos hi, if_pos hi]
    cases σ[i]? <;> rfl
  · rw [if_neg hi, if_neg hi]
def wipeD (ds : List Sl) : List Nat → List Sl
  | [] => ds
  | v :: vs => (wipeD ds vs).set v .un
theorem wipeD_length (ds : List Sl) : ∀ vs : List Nat, (wipeD ds vs).length = ds.length
  | [] => rfl
  | v :: vs => by unfold wipeD; rw [List.length_set, wipeD_length ds vs]
theorem wipeD_get {ds : List Sl} {i : Nat} {s : Sl} : ∀ {vs : List Nat}, (wipeD ds vs)[i]? = some s → s = .un ∨ (i ∉ vs ∧ ds[i]? = some s)
  | [], h => .inr ⟨by simp, h⟩
  | v :: vs, h => by
    unfold wipeD at h
    rcases set_get h with ⟨_, e⟩ | ⟨ne, h⟩
    · exact .inl e
    · rcases wipeD_get h with e | ⟨n, h⟩
      · exact .inl e
      · exact .inr ⟨fun q => (List.mem_cons.mp q).elim ne n, h⟩
section
variable {K : PySem.W.Frag} {B : Hp} {W0 M N W : List Addr} {H0 H H' : Hp} {σ : L2.St} {ds ds1 : List Sl} {P : Post} {D : Ends} {t u : TS} {te ta tb : TE} {tt : TT} {d x y : PyData}
theorem Stt.wipe (S : Stt K W N H σ ds) (vs : List Nat) : Stt K W N H (L2.wipe σ vs) (wipeD ds vs) := by
  refine ⟨by rw [wipe_length, wipeD_length]; exact S.len, S.al, fun i s h => ?_, fun i j s t nij h1 h2 o1 o2 => ?_⟩
  · rcases wipeD_get h with e | ⟨n, h⟩
    · subst e; trivial
    · rw [wipe_get, if_neg n]; exact S.sl i s h
  · rcases wipeD_get h1 with e | ⟨n1, h1⟩
    · subst e; cases o1
    · rcases wipeD_get h2 with e | ⟨n2, h2⟩
      · subst e; cases o2
      · rw [wipe_get, wipe_get, if_neg n1, if_neg n2]; exact S.dist i j s t nij h1 h2 o1 o2
theorem Stt.setPu (S : Stt K W N H σ ds) {i : Nat} {v : V} (hi : i < ds.length) (r : Rp K (cut H W) v d) : Stt K W N H (σ.set i (some v)) (ds.set i (.pu d)) := by
  have hiσ : i < σ.length := by rw [S.len]; exact hi
  refine ⟨by rw [List.length_set, List.length_set]; exact S.len, S.al, fun j s h => ?_, fun j k s t njk h1 h2 o1 o2 => ?_⟩
  · rcases set_get h with ⟨rfl, rfl⟩ | ⟨ne, h⟩
    · rw [List.getElem?_set_self hiσ]; exact ⟨v, rfl, r⟩
    · rw [List.getElem?_set_ne (Ne.symm ne)]; exact S.sl j s h
  · rcases set_get h1 with ⟨rfl, rfl⟩ | ⟨n1, h1⟩
    · cases o1
    · rcases set_get h2 with ⟨rfl, rfl⟩ | ⟨n2, h2⟩
      · cases o2
      · rw [List.getElem?_set_ne (Ne.symm n1), List.getElem?_set_ne (Ne.symm n2)]; exact S.dist j k s t njk h1 h2 o1 o2

/-! ### targets -/
structure Kept (js : List Nat) (σ σ' : L2.St) (ds ds' : List Sl) : Prop where
  wp : ∀ vs : List Nat, (∀ j ∈ js, j ∈ vs) → wipe σ' vs = wipe σ vs
  own : ∀ (i : Nat) (s : Sl), ds'[i]? = some s → s.own = true → ds[i]? = some s ∧ σ'[i]? = σ[i]?
def Tg (K : PySem.W.Frag) (g : TG) (d : PyData) (ds ds' : List Sl) (js : List Nat) : Prop :=
  ∀ W N σ H v, Stt K W N H σ ds → Rp K (cut H W) v d → ∀ Q : L2.St → Hp → Prop, (∀ σ', Stt K W N H σ' ds' → Kept js σ σ' ds ds' → Q σ' H) → g v σ H Q
theorem kept_set {i : Nat} {v : V} : Kept [i] σ (σ.set i (some v)) ds (ds.set i (.pu d)) :=
  ⟨fun vs h => wipe_set (h i List.mem_cons_self), fun j s h o => by
    rcases set_get h with ⟨rfl, rfl⟩ | ⟨ne, h⟩
    · cases o
    · exact ⟨h, List.getElem?_set_ne (Ne.symm ne)⟩⟩
theorem Kept.trans {js ks : List Nat} {σ1 σ2 σ3 : L2.St} {d1 d2 d3 : List Sl} (a : Kept js σ1 σ2 d1 d2) (b : Kept ks σ2 σ3 d2 d3) : Kept (js ++ ks) σ1 σ3 d1 d3 :=
  ⟨fun vs h => (b.wp vs fun j hj => h j (List.mem_append_right _ hj)).trans (a.wp vs fun j hj => h j (List.mem_append_left _ hj)), fun i s h o => by
    obtain ⟨h2, e2⟩ := b.own i s h o
    obtain ⟨h1, e1⟩ := a.own i s h2 o
    exact ⟨h1, e2.trans e1⟩⟩
theorem tg_name {i : Nat} (hi : i < ds.length) : Tg K (gName i) d ds (ds.set i (.pu d)) [i] := fun W N σ H v S r Q q => q _ (S.setPu hi r) kept_set
theorem tg_two {i j : Nat} (hi : i < ds.length) (hj : j < ds.length) : Tg K (gTup K 2 (gCons (gName i) (gCons (gName j) gNil))) (.tuple [x, y]) ds ((ds.set i (.pu x)).set j (.pu y)) ([i] ++ [j]) := fun W N σ H v S r Q q => by
  cases r with
  | tup hs r =>
    cases r with
    | cons r1 r =>
      cases r with
      | cons r2 r =>
        cases r
        exact ⟨_, _, rfl, .inl (.inl (cut_ex _ _ hs)), rfl, _, _, rfl, _, _, rfl, rfl, q _ ((S.setPu hi r1).setPu (set_len hj) r2) (kept_set.trans kept_set)⟩
theorem tg_three {i j k : Nat} {z : PyData} (hi : i < ds.length) (hj : j < ds.length) (hk : k < ds.length) :
    Tg K (gTup K 3 (gCons (gName i) (gCons (gName j) (gCons (gName k) gNil)))) (.tuple [x, y, z]) ds (((ds.set i (.pu x)).set j (.pu y)).set k (.pu z)) ([i] ++ [j] ++ [k]) := fun W N σ H v S r Q q => by
  cases r with
  | tup hs r =>
    cases r with
    | cons r1 r =>
      cases r with
      | cons r2 r =>
        cases r with
        | cons r3 r =>
          cases r
          exact ⟨_, _, rfl, .inl (.inl (cut_ex _ _ hs)), rfl, _, _, rfl, _, _, rfl, _, _, rfl, rfl, q _ (((S.setPu hi r1).setPu (set_len hj) r2).setPu (set_len (set_len hk)) r3) ((kept_set.trans kept_set).trans kept_set)⟩

/-! ### iterables -/
/-- stable while all stays as it was at H1 -/
structure ItR (K : PySem.W.Frag) (W : List Addr) (J : It) (xs : List PyData) (H1 : Hp) : Prop where
  go : ∀ (i : Nat) (H : Hp), i < xs.length → Ex H1 H → J.go i H
  stop : ∀ (H : Hp), Ex H1 H → J.stop xs.length H
  yld : ∀ (i : Nat) (H : Hp) (W' : List Addr) (x : V) (H' : Hp) (d : PyData), xs[i]? = some d → Ex H1 H → Ex (cut H1 W) (cut H W') → Al W' H → J.yld i H x H' → Ex H H' ∧ Rp K (cut H' W') x d
/-- stable while what may not change stays -/
structure ItP (K : PySem.W.Frag) (W : List Addr) (J : It) (xs : List PyData) (H1 : Hp) : Prop where
  go : ∀ (i : Nat) (H : Hp) (W' : List Addr), i < xs.length → Ex (cut H1 W) (cut H W') → J.go i H
  stop : ∀ (H : Hp) (W' : List Addr), Ex (cut H1 W) (cut H W') → J.stop xs.length H
  yld : ∀ (i : Nat) (H : Hp) (W' : List Addr) (x : V) (H' : Hp) (d : PyData), xs[i]? = some d → Ex (cut H1 W) (cut H W') → Al W' H → J.yld i H x H' → Ex H H' ∧ Rp K (cut H' W') x d
def EIr (K : PySem.W.Frag) (wi : TI) (ds : List Sl) (xs : List PyData) : Prop :=
  ∀ W N σ H, Stt K W N H σ ds → ∀ R : It → Hp → Prop, (∀ J H1, Ex H H1 → ItR K W J xs H1 → R J H1) → wi σ H R
def EI (K : PySem.W.Frag) (wi : TI) (ds : List Sl) (xs : List PyData) : Prop :=
  ∀ W N σ H, Stt K W N H σ ds → ∀ R : It → Hp → Prop, (∀ J H1, Ex H H1 → ItP K W J xs H1 → R J H1) → wi σ H R
theorem ItP.r {J : It} {xs : List PyData} {H1 : Hp} (p : ItP K W J xs H1) : ItR K W J xs H1 :=
  ⟨fun i H hi e => p.go i H W hi (cut_mono e), fun H e => p.stop H W (cut_mono e), fun i H W' x H' d h _ e A y => p.yld i H W' x H' d h e A y⟩
theorem EI.r {wi : TI} {xs : List PyData} (h : EI K wi ds xs) : EIr K wi ds xs := fun W N σ H S R q => h W N σ H S R fun J H1 e p => q J H1 e p.r
/-- a list or a tuple -/
def iSeq (K : PySem.W.Frag) (te : TE) : TI := fun σ H R => te σ H fun x H1 => ∃ a, x = .ref a ∧ (((∃ xs, SqL K H1 a xs) ∧ R (Itl K a) H1) ∨ ((∃ xs, SqT K H1 a xs) ∧ R (Itt K a) H1))
theorem pi_seq {X : Cx} {tg l : Expr} {tl : TE} (hl : PE X l tl) : PI X tg l (iSeq X.K tl) := by
  refine ⟨fun pins s σ H R I h => ?_⟩
  refine thn (hl.run pins s σ H _ I h) fun v s1 ⟨x, H1, I1, r1, q1⟩ => ?_
  obtain ⟨a, e, q⟩ := q1
  subst e
  cases r1
  rcases q with ⟨⟨xs, hq⟩, q⟩ | ⟨⟨xs, hq⟩, q⟩
  · obtain ⟨its, rv, p, hz⟩ := I1.list hq
    refine wpAny_pyIter_list p.isList ?_
    refine ⟨s1.heap.objs.size, [s1.heap.objs.size], _, _, H1, rfl, I1.kept (t' := s1.toks) fun b o e => Heap.get?_push_of_some _ e, turn_list a _, ⟨_, Heap.get?_push_size _ rfl, rfl, rfl⟩, fun b hb => ?_, q⟩
    have e : b = s1.heap.objs.size := by simpa using hb
    subst e
    exact I1.fpOk (Nat.le_refl _) (I1.hok.fresh (Nat.le_refl _))
  · obtain ⟨its, rv, p, hz⟩ := I1.tuple hq
    refine wpAny_pyIter_tuple (show s1.heap.IsTuple a its.toArray from p) ?_
    refine ⟨s1.heap.objs.size, [s1.heap.objs.size], _, _, H1, rfl, I1.kept (t' := s1.toks) fun b o e => Heap.get?_push_of_some _ e, turn_tuple a _, ⟨_, Heap.get?_push_size _ rfl, rfl, rfl⟩, fun b hb => ?_, q⟩
    have e : b = s1.heap.objs.size := by simpa using hb
    subst e
    exact I1.fpOk (Nat.le_refl _) (I1.hok.fresh (Nat.le_refl _))
theorem eI_list {xs : List PyData} (h : Ev K te ds (.list xs)) : EI K (iSeq K te) ds xs := fun W N σ H S R q =>
  h W N σ H S _ fun v H1 e r => by
    cases r with
    | @lst a vs _ h1 r =>
      have sq : ∀ {H2 : Hp} {W' : List Addr}, Ex (cut H1 W) (cut H2 W') → SqL K H2 a vs := fun e2 => .inl (.inl (cut_ex _ _ (e2 _ _ h1)))
      refine ⟨a, rfl, .inl ⟨⟨vs, .inl (.inl (cut_ex _ _ h1))⟩, q _ H1 e ⟨fun i H2 W' hi e2 => ?_, fun H2 W' e2 => ⟨vs, sq e2, by rw [r.length]; exact Nat.le_refl _⟩, fun i H2 W' x H' d hd e2 A y => ?_⟩⟩⟩
      · have hl : i < vs.length := by rw [r.length]; exact hi
        exact ⟨vs, vs[i], sq e2, List.getElem?_eq_getElem hl⟩
      · obtain ⟨e', f⟩ := y
        subst e'
        obtain ⟨w, hw, rw'⟩ := r.get' hd
        have ew : x = w := Option.some.inj ((f vs (sq e2)).symm.trans hw)
        subst ew
        exact ⟨Ex.refl _, rw'.mono e2⟩
theorem eI_tup {xs : List PyData} (h : Ev K te ds (.tuple xs)) : EI K (iSeq K te) ds xs := fun W N σ H S R q =>
  h W N σ H S _ fun v H1 e r => by
    cases r with
    | @tup a vs _ h1 r =>
      have sq : ∀ {H2 : Hp} {W' : List Addr}, Ex (cut H1 W) (cut H2 W') → SqT K H2 a vs := fun e2 => .inl (.inl (cut_ex _ _ (e2 _ _ h1)))
      refine ⟨a, rfl, .inr ⟨⟨vs, .inl (.inl (cut_ex _ _ h1))⟩, q _ H1 e ⟨fun i H2 W' hi e2 => ?_, fun H2 W' e2 => ⟨vs, sq e2, by rw [r.length]; exact Nat.le_refl _⟩, fun i H2 W' x H' d hd e2 A y => ?_⟩⟩⟩
      · have hl : i < vs.length := by rw [r.length]; exact hi
        exact ⟨vs, vs[i], sq e2, List.getElem?_eq_getElem hl⟩
      · obtain ⟨e', f⟩ := y
        subst e'
        obtain ⟨w, hw, rw'⟩ := r.get' hd
        have ew : x = w := Option.some.inj ((f vs (sq e2)).symm.trans hw)
        subst ew
        exact ⟨Ex.refl _, rw'.mono e2⟩
theorem eIr_list {xs : List PyData} (h : ErL K te ds xs) : EIr K (iSeq K te) ds xs := fun W N σ H S R q =>
  h W N σ H S _ fun a vs H1 e h1 r => by
    refine ⟨a, rfl, .inl ⟨⟨vs, h1⟩, q _ H1 e ⟨fun i H2 hi e2 => ?_, fun H2 e2 => ⟨vs, ex_l e2 h1, by rw [r.length]; exact Nat.le_refl _⟩, fun i H2 W' x H' d hd e2 e3 A y => ?_⟩⟩⟩
    · have hl : i < vs.length := by rw [r.length]; exact hi
      exact ⟨vs, vs[i], ex_l e2 h1, List.getElem?_eq_getElem hl⟩
    · obtain ⟨e', f⟩ := y
      subst e'
      obtain ⟨w, hw, rw'⟩ := r.get' hd
      have ew : x = w := Option.some.inj ((f vs (ex_l e2 h1)).symm.trans hw)
      subst ew
      exact ⟨Ex.refl _, rw'.mono e3⟩
def intsTo (n : Nat) : List PyData := (List.range n).map fun (i : Nat) => PyData.int i
theorem eI_rng1 {ta : TA} {n : Int} (h : Ea K ta ds [.int n]) (hn : -100000 ≤ n ∧ n ≤ 100000) : EI K (iRng1 ta) ds (intsTo n.toNat) := fun W N σ H S R q =>
  h W N σ H S _ fun vs H1 e r => by
    cases r with
    | cons r1 r =>
      cases r; cases r1
      have hl : (intsTo n.toNat).length = n.toNat := by unfold intsTo; rw [List.length_map, List.length_range]
      refine ⟨n, rfl, by omega, by omega, q _ H1 e ⟨fun i H2 W' hi _ => by rw [hl] at hi; exact hi, fun H2 W' _ => by rw [hl]; exact Nat.le_refl _, fun i H2 W' x H' d hd e2 A y => ?_⟩⟩
      obtain ⟨e', y⟩ := y
      subst e' y
      unfold intsTo at hd
      rw [List.getElem?_map] at hd
      obtain ⟨k, hk, e⟩ := Option.map_eq_some_iff.mp hd
      obtain ⟨hk1, hk2⟩ := List.getElem?_eq_some_iff.mp hk
      rw [List.getElem_range] at hk2
      subst hk2
      subst e
      rw [Int.zero_add]
      exact ⟨Ex.refl _, .int _⟩

/-! ### comprehensions -/
theorem Ex.mut {H H' : Hp} {p : Addr} {o : HO} (e : Ex H H') (h : H p = none) : Ex H (upd H' p o) := fun a u ha => by
  rw [upd_ne (ne_of_none ha h)]
  exact e a u ha
theorem en_lc {α : Type} {wi : TI} {g : TG} {vs js : List Nat} (ls : List α) (enc : α → PyData) (T : α → List Sl) (p : α → Bool) (f : α → PyData)
    (hi : EIr K wi ds (ls.map enc)) (hl : ls.length ≤ 90000) (hj : ∀ j ∈ js, j ∈ vs) (hg : ∀ l ∈ ls, Tg K g (enc l) (wipeD ds vs) (T l) js)
    (ht : ∀ l ∈ ls, Et K tt (T l) (p l)) (he : ∀ l ∈ ls, p l = true → Ev K te (T l) (f l)) : EnL K (tLc wi g tt te vs) ds ((ls.filter p).map f) := fun W N σ H S Q q =>
  hi W N σ H S _ fun J H1 e1 it => fun Dl hD => by
    have S1 := S.mono e1
    have n : (ls.map enc).length = ls.length := List.length_map _
    have wk : Walk J ls.length (fun H2 => Ex H1 H2) (fun i H2 x H' => J.yld i H2 x H') :=
      ⟨fun i H2 hi e => it.go i H2 (by rw [n]; exact hi) e, fun H2 e => by have := it.stop H2 e; rw [n] at this; exact this, fun i H2 x H' _ _ y => y⟩
    refine lc_it wk (fun i H2 => Ex H1 H2 ∧ ∃ acc, H2 Dl = some (.lst acc) ∧ RpAll K (cut H2 (Dl :: W)) acc (((ls.take i).filter p).map f)) ⟨Ex.new hD, [], upd_same, .nil⟩ (fun i H2 _ h => h.1) ?_ ?_
    · rintro i x H2 H3 hi ⟨e2, acc, hacc, racc⟩ y
      have hli : ls[i]? = some ls[i] := List.getElem?_eq_getElem hi
      have hm : ls[i] ∈ ls := List.getElem_mem hi
      have A2 : Al (Dl :: W) H2 := fun b hb => (List.mem_cons.mp hb).elim (fun z => by rw [z, hacc]; exact nt_lst) fun z => S1.al.mono e2 b z
      obtain ⟨e3, rx⟩ := it.yld i H2 (Dl :: W) x H3 (enc ls[i]) (by rw [List.getElem?_map, hli]; rfl) e2 (cut_cons hD e2) A2 y
      have S3 : Stt K (Dl :: W) N H3 (wipe σ vs) (wipeD ds vs) := (S1.wider hD (e2.trans e3) (by rw [e3 _ _ hacc]; exact nt_lst)).wipe vs
      refine hg ls[i] hm _ N _ H3 x S3 rx _ fun σ2 S4 kp => ⟨(kp.wp vs hj).trans wipe_wipe, ?_⟩
      refine ht ls[i] hm _ N σ2 H3 S4 _ fun H4 e4 => ?_
      have take : (ls.take (i + 1)) = ls.take i ++ [ls[i]] := by rw [List.take_add_one, hli]; rfl
      have hacc4 : H4 Dl = some (.lst acc) := e4 _ _ (e3 _ _ hacc)
      have racc4 : RpAll K (cut H4 (Dl :: W)) acc (((ls.take i).filter p).map f) := racc.mono (cut_mono (e3.trans e4))
      cases hp : p ls[i] with
      | true =>
        rw [if_pos rfl]
        refine he ls[i] hm hp _ N σ2 H4 (S4.mono e4) _ fun v H5 e5 rv => ⟨acc, e5 _ _ hacc4, ?_, ?_⟩
        · rw [racc4.length, List.length_map]
          refine sz_lt (Nat.lt_of_le_of_lt (List.length_filter_le _ _) ?_)
          rw [List.length_take]
          omega
        · refine ⟨Ex.mut (((e2.trans e3).trans e4).trans e5) hD, _, upd_same, ?_⟩
          rw [cut_upd List.mem_cons_self, take, List.filter_append, List.map_append, List.filter_cons, if_pos hp]
          exact (racc4.mono (cut_mono e5)).append (.one rv)
      | false =>
        rw [if_neg Bool.false_ne_true]
        refine ⟨(e2.trans e3).trans e4, acc, hacc4, ?_⟩
        rw [take, List.filter_append, List.filter_cons, if_neg (by rw [hp]; exact Bool.false_ne_true)]
        simpa using racc4
    · rintro H2 ⟨e2, acc, hacc, racc⟩
      rw [List.take_length] at racc
      exact q Dl acc H2 (e1.trans e2) (e1.back hD) hacc racc
/-- without tests -/
theorem en_lcm {α : Type} {wi : TI} {g : TG} {vs js : List Nat} (ls : List α) (enc : α → PyData) (T : α → List Sl) (f : α → PyData)
    (hi : EIr K wi ds (ls.map enc)) (hl : ls.length ≤ 90000) (hj : ∀ j ∈ js, j ∈ vs) (hg : ∀ l ∈ ls, Tg K g (enc l) (wipeD ds vs) (T l) js)
    (he : ∀ l ∈ ls, Ev K te (T l) (f l)) : EnL K (tLc wi g tYes te vs) ds (ls.map f) := by
  have h := en_lc (tt := tYes) ls enc T (fun _ => true) f hi hl hj hg (fun l _ => et_yes) (fun l hl _ => he l hl)
  rw [List.filter_eq_self.mpr (fun _ _ => rfl)] at h
  exact h

/-! ### for -/
theorem Fr.to (F : Fr K B W0 M N H0 W σ H ds) {js : List Nat} {σ' : L2.St} {ds' : List Sl} (S : Stt K W N H σ' ds') (kp : Kept js σ σ' ds ds') : Fr K B W0 M N H0 W σ' H ds' :=
  ⟨S, F.sub, F.new, F.keep, F.oth, F.nsub, F.msub, fun i s a h nb o hs => by
    obtain ⟨h1, e⟩ := kp.own i s h o
    exact F.loc i s a h1 nb o (e ▸ hs), F.base, fun i xs a h hs => by
    obtain ⟨h1, e⟩ := kp.own i _ h rfl
    exact F.bor i xs a h1 (e ▸ hs)⟩
theorem Fr.rebase (F : Fr K B W0 M N H0 W σ H ds) {B' : Hp} (e : Ex B' (cut H W)) : Fr K B' W0 M N H0 W σ H ds := ⟨F.st, F.sub, F.new, F.keep, F.oth, F.nsub, F.msub, F.loc, e, F.bor⟩
theorem sx_for {α : Type} {wi : TI} {g : TG} {js : List Nat} (ls : List α) (enc : α → PyData) (Inv : Nat → List Sl → Prop) (T : α → List Sl → List Sl)
    (hi : EI K wi ds (ls.map enc)) (h0 : Inv 0 ds) (hg : ∀ i l ds, ls[i]? = some l → Inv i ds → Tg K g (enc l) ds (T l ds) js)
    (hs : ∀ i l ds, ls[i]? = some l → Inv i ds → Sx K t (T l ds) { P with nx := Inv (i + 1), ct := Inv (i + 1), bk := P.nx }) (hd : ∀ ds, Inv ls.length ds → P.nx ds) : Sx K (tFor wi g t) ds P := fun B W0 M N H0 W σ H F D m =>
  hi W N σ H F.st _ fun J H1 e1 it => by
    have n : (ls.map enc).length = ls.length := List.length_map _
    refine ⟨fun i mm σ' H' => mm = ls.length - i ∧ i ≤ ls.length ∧ ∃ W' ds', Inv i ds' ∧ Fr K (cut H1 W) W0 M N H0 W' σ' H' ds', ⟨ls.length, rfl, Nat.zero_le _, W, ds, h0, (F.ex e1).rebase (Ex.refl _)⟩, ?_⟩
    have bk : Ex B (cut H1 W) := (F.ex e1).base
    have back : ∀ {W' : List Addr} {σ' : L2.St} {H' : Hp} {ds' : List Sl}, Fr K (cut H1 W) W0 M N H0 W' σ' H' ds' → Fr K B W0 M N H0 W' σ' H' ds' := fun F' => F'.rebase (bk.trans F'.base)
    rintro i mm σ' H' ⟨rfl, hle, W', ds', hI, F'⟩
    by_cases hlt : i < ls.length
    · have hli : ls[i]? = some ls[i] := List.getElem?_eq_getElem hlt
      refine .inr ⟨it.go i H' W' (by rw [n]; exact hlt) F'.base, fun σ2 H2 => ∃ W2 ds2, Inv (i + 1) ds2 ∧ Fr K (cut H1 W) W0 M N H0 W2 σ2 H2 ds2, fun σ2 H2 q => ⟨ls.length - (i + 1), by omega, rfl, hlt, q⟩, fun x H2 y => ?_⟩
      obtain ⟨e2, rx⟩ := it.yld i H' W' x H2 (enc ls[i]) (by rw [List.getElem?_map, hli]; rfl) F'.base F'.st.al y
      have F2 := F'.ex e2
      refine hg i ls[i] ds' hli hI W' N σ' H2 x F2.st rx _ fun σ3 S3 kp => ?_
      refine hs i ls[i] ds' hli hI (cut H1 W) W0 M N H0 W' σ3 H2 (F2.to S3 kp) _ ⟨fun W2 σ2 H2 d2 q F => ⟨W2, d2, q, F⟩, fun W2 σ2 H2 d2 v d q F r => m.rt W2 σ2 H2 d2 v d q (back F) r, fun W2 σ2 H2 d2 q F => m.nx W2 σ2 H2 d2 q (back F), fun W2 σ2 H2 d2 q F => ⟨W2, d2, q, F⟩, fun W2 σ2 H2 d2 a vs xs q F => m.rn W2 σ2 H2 d2 a vs xs q (back F)⟩
    · have e : i = ls.length := by omega
      subst e
      exact .inl ⟨by have := it.stop H' W' F'.base; rw [n] at this; exact this, m.nx W' σ' H' ds' (hd ds' hI) (back F')⟩

/-! ### defs -/
def startD (N : List Str) (xs : List PyData) : List Sl := xs.map Sl.pu ++ List.replicate (N.length - xs.length) Sl.un
def Post.ret (d : PyData) : Post := { nx := fun _ => d = .none, rt := fun e _ => e = d }
theorem start_stt {Nm : List Str} {vs : List V} {xs : List PyData} (A : Al W H) (r : RpAll K (cut H W) vs xs) (hl : xs.length ≤ Nm.length) : Stt K W N H (L2.start Nm vs) (startD Nm xs) := by
  have e := r.length
  refine ⟨by unfold L2.start startD; simp only [List.length_append, List.length_map, List.length_replicate]; omega, A, fun i s h => ?_, fun i j s t _ h1 h2 o1 o2 => ?_⟩
  · unfold startD at h
    by_cases hi : i < xs.length
    · rw [List.getElem?_append_left (by rw [List.length_map]; exact hi), List.getElem?_map] at h
      obtain ⟨d, hd, e'⟩ := Option.map_eq_some_iff.mp h
      subst e'
      obtain ⟨v, hv, rv⟩ := r.get' hd
      refine ⟨v, ?_, rv⟩
      unfold L2.start
      rw [List.getElem?_append_left (by rw [List.length_map, e]; exact hi), List.getElem?_map, hv]
      rfl
    · rw [List.getElem?_append_right (by rw [List.length_map]; omega)] at h
      have := List.mem_of_getElem? h
      rw [List.eq_of_mem_replicate this]
      trivial
  · have un : ∀ (k : Nat) (s : Sl), (startD Nm xs)[k]? = some s → s.own = false := fun k s h => by
      unfold startD at h
      rcases List.mem_append.mp (List.mem_of_getElem? h) with q | q
      · obtain ⟨d, _, e⟩ := List.mem_map.mp q
        rw [← e]; rfl
      · rw [List.eq_of_mem_replicate q]; rfl
    rw [un i s h1] at o1; cases o1
section
variable {Pr : Program} {w : World} {mg : Str → Option Value} {base : Heap} {f : Addr} {fd : FuncData} {nm qual : Str} {st : Stmt} {Nm ps : List Str} {k : Nat}
theorem fn_ok (F : Fun K nm qual st f fd) (S : FnScope Nm ps (defScope st)) {R : List PyData → PyData → Prop} (len : ∀ xs d, R xs d → xs.length = ps.length)
    (body : ∀ (cdv : Value) (A : Around) (outer : List Env) (s : Shared) (H : Hp) (E : XK), Room k (A.deeper (PyProof.Rows.envOfC qual (defScope st) s.heap.objs.size f cdv)) →
      ∃ t, PSs (cxOf CX0 Pr w K mg base Nm qual (defScope st) f cdv A outer s H E).nox (defBody st) t ∧ ∀ xs d, R xs d → Sx K t (startD Nm xs) (Post.ret d)) : FnOk Pr w K mg base CX0 (k + 1) f fd ps (spD K R) := by
  refine F.ok S (fun vs H Q E h => ?_) (fun cdv A outer s H vs Q E hr h => ?_)
  · obtain ⟨W, xs, d, _, r, hR, _⟩ := h
    rw [r.length]; exact len xs d hR
  · obtain ⟨W, xs, d, hA, r, hR, q⟩ := h
    obtain ⟨t, ht, hb⟩ := body cdv A outer s H E hr
    refine ⟨t, ht, ?_⟩
    have hl : xs.length ≤ Nm.length := by
      rw [len xs d hR]
      have := congrArg List.length S.pre
      rw [List.length_take] at this
      omega
    refine hb xs d hR (cut H W) W [] W H W (L2.start Nm vs) H ⟨start_stt hA r hl, fun _ h => h, fun a h1 h2 => absurd h1 h2, fun _ _ _ h => h, fun _ h _ => h, fun _ h => h, (fun _ h => nomatch h), fun i s a h nb o hs => ?_, Ex.refl _, fun i xs a h hs => ?_⟩ _ ⟨fun W' σ' H' ds' e F' => ?_, fun W' σ' H' ds' v d' e F' rv => ?_, fun _ _ _ _ h _ => h.elim, fun _ _ _ _ h _ => h.elim, fun _ _ _ _ _ _ _ h _ => h.elim⟩
    · exfalso
      unfold startD at h
      rcases List.mem_append.mp (List.mem_of_getElem? h) with q | q
      · obtain ⟨d, _, e⟩ := List.mem_map.mp q
        rw [← e] at o; cases o
      · rw [List.eq_of_mem_replicate q] at o; cases o
    · exfalso
      unfold startD at h
      rcases List.mem_append.mp (List.mem_of_getElem? h) with q | q
      · obtain ⟨d, _, e⟩ := List.mem_map.mp q
        cases e
      · cases List.eq_of_mem_replicate q
    · have e' : d = .none := e
      subst e'
      exact q .non H' (fun b o => F'.keep b o (fun z => nomatch z)) .non
    · have e' : d' = d := e
      subst e'
      exact q v H' (fun b o => F'.keep b o (fun z => nomatch z)) (rv.mono (cut_sub F'.sub))

/-! a def whose first argument is a list that it reads (S) or changes (B) -/
def startD1 (N : List Str) (s0 : Sl) (xs : List PyData) : List Sl := s0 :: (xs.map Sl.pu ++ List.replicate (N.length - (xs.length + 1)) Sl.un)
theorem startD1_get {Nm : List Str} {s0 : Sl} {xs : List PyData} {i : Nat} {s : Sl} (h : (startD1 Nm s0 xs)[i]? = some s) : (i = 0 ∧ s = s0) ∨ (∃ d, s = .pu d) ∨ s = .un := by
  unfold startD1 at h
  cases i with
  | zero => exact .inl ⟨rfl, (Option.some.inj h).symm⟩
  | succ i =>
    have h' : (xs.map Sl.pu ++ List.replicate (Nm.length - (xs.length + 1)) Sl.un)[i]? = some s := h
    rcases List.mem_append.mp (List.mem_of_getElem? h') with q | q
    · obtain ⟨d, _, e⟩ := List.mem_map.mp q
      exact .inr (.inl ⟨d, e.symm⟩)
    · exact .inr (.inr (List.eq_of_mem_replicate q))
theorem start_stt1 {Nm : List Str} {v0 : V} {s0 : Sl} {vs : List V} {xs : List PyData} (A : Al W H) (ok : SlOk K W N H (some v0) s0) (r : RpAll K (cut H W) vs xs) (hl : xs.length + 1 ≤ Nm.length) : Stt K W N H (L2.start Nm (v0 :: vs)) (startD1 Nm s0 xs) := by
  have e := r.length
  refine ⟨by unfold L2.start startD1; simp only [List.length_append, List.length_map, List.length_replicate, List.length_cons]; omega, A, fun i s h => ?_, fun i j s t nij h1 h2 o1 o2 => ?_⟩
  · cases i with
    | zero =>
      have e0 : s0 = s := Option.some.inj h
      subst e0
      exact ok
    | succ i =>
      have h' : (xs.map Sl.pu ++ List.replicate (Nm.length - (xs.length + 1)) Sl.un)[i]? = some s := h
      by_cases hi : i < xs.length
      · rw [List.getElem?_append_left (by rw [List.length_map]; exact hi), List.getElem?_map] at h'
        obtain ⟨d, hd, e'⟩ := Option.map_eq_some_iff.mp h'
        subst e'
        obtain ⟨v, hv, rv⟩ := r.get' hd
        refine ⟨v, ?_, rv⟩
        unfold L2.start
        rw [List.getElem?_append_left (by rw [List.length_map, List.length_cons, e]; omega), List.getElem?_map, List.getElem?_cons_succ, hv]
        rfl
      · rw [List.getElem?_append_right (by rw [List.length_map]; omega)] at h'
        rw [List.eq_of_mem_replicate (List.mem_of_getElem? h')]
        trivial
  · have f : ∀ (k : Nat) (s : Sl), (startD1 Nm s0 xs)[k]? = some s → s.own = true → k = 0 := fun k s h o => by
      rcases startD1_get h with ⟨z, _⟩ | ⟨d, z⟩ | z
      · exact z
      · subst z; cases o
      · subst z; cases o
    exact absurd ((f i s h1 o1).trans (f j t h2 o2).symm) nij
def spS (K : PySem.W.Frag) (R : List PyData → List PyData → List PyData → Prop) : Sp := fun vs H Q _ => ∃ W a ws us ns xs d, vs = .ref a :: us ∧ Al W H ∧ SqL K (cut H W) a ws ∧ RpAll K (cut H W) ws ns ∧ RpAll K (cut H W) us xs ∧ R ns xs d ∧
  ∀ b vs' H', Ex H H' → H b = none → H' b = some (.lst vs') → RpAll K (cut H' (b :: W)) vs' d → Q (.ref b) H'
/-- what it gives is a new list -/
theorem fn_okS (F : Fun K nm qual st f fd) (S : FnScope Nm ps (defScope st)) {R : List PyData → List PyData → List PyData → Prop} (len : ∀ ns xs d, R ns xs d → xs.length + 1 = ps.length)
    (body : ∀ (cdv : Value) (A : Around) (outer : List Env) (s : Shared) (H : Hp) (E : XK), Room k (A.deeper (PyProof.Rows.envOfC qual (defScope st) s.heap.objs.size f cdv)) →
      ∃ t, PSs (cxOf CX0 Pr w K mg base Nm qual (defScope st) f cdv A outer s H E).nox (defBody st) t ∧ ∀ ns xs d, R ns xs d → Sx K t (startD1 Nm (.rl ns) xs) { nx := fun _ => False, rt := fun _ _ => False, rn := fun e _ => e = d }) : FnOk Pr w K mg base CX0 (k + 1) f fd ps (spS K R) := by
  refine F.ok S (fun vs H Q E h => ?_) (fun cdv A outer s H vs Q E hr h => ?_)
  · obtain ⟨W, a, ws, us, ns, xs, d, e, _, _, _, r, hR, _⟩ := h
    rw [e, List.length_cons, r.length]; exact len ns xs d hR
  · obtain ⟨W, a, ws, us, ns, xs, d, e, hA, sq, rn, r, hR, q⟩ := h
    subst e
    obtain ⟨t, ht, hb⟩ := body cdv A outer s H E hr
    refine ⟨t, ht, ?_⟩
    have hl : xs.length + 1 ≤ Nm.length := by
      rw [len ns xs d hR]
      have := congrArg List.length S.pre
      rw [List.length_take] at this
      omega
    refine hb ns xs d hR (cut H W) W [] W H W (L2.start Nm (.ref a :: us)) H ⟨start_stt1 hA ⟨a, ws, rfl, sq, rn⟩ r hl, fun _ h => h, fun a h1 h2 => absurd h1 h2, fun _ _ _ h => h, fun _ h _ => h, fun _ h => h, (fun _ h => nomatch h), fun i s a h nb o hs => ?_, Ex.refl _, fun i xs a h hs => ?_⟩ _ ⟨fun _ _ _ _ h _ => h.elim, fun _ _ _ _ _ _ h _ _ => h.elim, fun _ _ _ _ h _ => h.elim, fun _ _ _ _ h _ => h.elim, fun W' σ' H' ds' b vs' d' e F' nb n0 hb r' => ?_⟩
    · exfalso
      rcases startD1_get h with ⟨_, z⟩ | ⟨d, z⟩ | z <;> (subst z; cases o)
    · exfalso
      rcases startD1_get h with ⟨_, z⟩ | ⟨d, z⟩ | z <;> cases z
    · have e' : d' = d := e
      subst e'
      refine q b vs' H' (fun b o => F'.keep b o (fun z => nomatch z)) n0 hb (r'.mono (cut_sub fun c hc => ?_))
      rcases List.mem_cons.mp hc with z | z
      · rw [z]; exact List.mem_cons_self
      · exact List.mem_cons_of_mem _ (F'.sub c z)
theorem ev_callS {R : List PyData → List PyData → List PyData → Prop} {E : XK} {ta : TE} {tr : TA} {ns xs zs : List PyData} (ha : ErL K ta ds ns) (hc : ∀ W N σ H, Stt K W N H σ ds → ∀ Q : VK, (∀ a vs, SqL K (cut H W) a vs → RpAll K (cut H W) vs ns → Q (.ref a) H) → ta σ H Q) (h : Ea K tr ds xs) (hr : R ns xs zs) : EnL K (tCall (spS K R) [] E (tCons ta tr)) ds zs := fun W N σ H S Q q =>
  hc W N σ H S _ fun a ws sq rn => h W N σ H S _ fun us H1 e1 r => by
    show spS K R ((.ref a :: us) ++ []) H1 Q E
    rw [List.append_nil]
    exact ⟨W, a, ws, us, ns, xs, zs, rfl, S.al.mono e1, ex_l (cut_mono e1) sq, rn.mono (cut_mono e1), r, hr, fun b vs' H' e2 n hb r2 => q b vs' H' (e1.trans e2) (e1.back n) hb r2⟩
theorem rl_var {i : Nat} {xs : List PyData} (h : ds[i]? = some (.rl xs)) : ∀ W N σ H, Stt K W N H σ ds → ∀ Q : VK, (∀ a vs, SqL K (cut H W) a vs → RpAll K (cut H W) vs xs → Q (.ref a) H) → tVar i σ H Q := fun W N σ H S Q q => by
  obtain ⟨a, vs, e, h4, h5⟩ := S.sl i _ h
  exact ⟨.ref a, getD_of e, q a vs h4 h5⟩
/-! B -/
def spB (K : PySem.W.Frag) (Pre : List PyData → List PyData → Prop) (Po : List PyData → List PyData → PyData → List PyData → Prop) : Sp := fun vs H Q _ => ∃ W a us ws ps xs, vs = .ref a :: us ∧ Al W H ∧ a ∈ W ∧ H a = some (.lst ws) ∧ RpAll K (cut H W) ws ps ∧ RpAll K (cut H W) us xs ∧ Pre ps xs ∧
  ∀ v H' ws' d ps', Po ps xs d ps' → (∀ b o, b ≠ a → H b = some o → H' b = some o) → H' a = some (.lst ws') → RpAll K (cut H' W) ws' ps' → Rp K (cut H' W) v d → Q v H'
theorem fn_okB (F : Fun K nm qual st f fd) (S : FnScope Nm ps (defScope st)) {Pre : List PyData → List PyData → Prop} {Po : List PyData → List PyData → PyData → List PyData → Prop} (len : ∀ ps' xs, Pre ps' xs → xs.length + 1 = ps.length)
    (body : ∀ (cdv : Value) (A : Around) (outer : List Env) (s : Shared) (H : Hp) (E : XK), Room k (A.deeper (PyProof.Rows.envOfC qual (defScope st) s.heap.objs.size f cdv)) →
      ∃ t, PSs (cxOf CX0 Pr w K mg base Nm qual (defScope st) f cdv A outer s H E).nox (defBody st) t ∧ ∀ qs xs, Pre qs xs → Sx K t (startD1 Nm (.bl qs) xs) { nx := fun _ => False, rt := fun d ds => ∃ qs', ds[0]? = some (.bl qs') ∧ Po qs xs d qs' }) : FnOk Pr w K mg base CX0 (k + 1) f fd ps (spB K Pre Po) := by
  refine F.ok S (fun vs H Q E h => ?_) (fun cdv A outer s H vs Q E hr h => ?_)
  · obtain ⟨W, a, us, ws, qs, xs, e, _, _, _, _, r, hR, _⟩ := h
    rw [e, List.length_cons, r.length]; exact len qs xs hR
  · obtain ⟨W, a, us, ws, qs, xs, e, hA, aW, ha, rw', r, hR, q⟩ := h
    subst e
    obtain ⟨t, ht, hb⟩ := body cdv A outer s H E hr
    refine ⟨t, ht, ?_⟩
    have hl : xs.length + 1 ≤ Nm.length := by
      rw [len qs xs hR]
      have := congrArg List.length S.pre
      rw [List.length_take] at this
      omega
    have aN : a ∉ W.filter (fun c => decide (c ≠ a)) := fun z => of_decide_eq_true (List.mem_filter.mp z).2 rfl
    refine hb qs xs hR (cut H W) W [a] (W.filter fun c => decide (c ≠ a)) H W (L2.start Nm (.ref a :: us)) H ⟨start_stt1 hA ⟨a, ws, rfl, aW, aN, ha, rw'⟩ r hl, fun _ h => h, fun a h1 h2 => absurd h1 h2, fun _ _ _ h => h, fun b hb hn => List.mem_filter.mpr ⟨hb, decide_eq_true fun z => hn (z ▸ List.mem_singleton.mpr rfl)⟩, fun b hb => (List.mem_filter.mp hb).1, (fun b hb => by rw [List.mem_singleton.mp hb]; exact aW), fun i s a h nb o hs => ?_, Ex.refl _, fun i ys b h hs => ?_⟩ _ ⟨fun _ _ _ _ h _ => h.elim, fun W' σ' H' ds' v d e F' rv => ?_, fun _ _ _ _ h _ => h.elim, fun _ _ _ _ h _ => h.elim, fun _ _ _ _ _ _ _ h _ => h.elim⟩
    · exfalso
      rcases startD1_get h with ⟨_, z⟩ | ⟨d, z⟩ | z
      · exact nb _ z
      · subst z; cases o
      · subst z; cases o
    · rcases startD1_get h with ⟨z, _⟩ | ⟨d, z⟩ | z
      · subst z
        have hs' : some (some (V.ref a)) = some (some (.ref b)) := hs
        cases hs'
        exact List.mem_singleton.mpr rfl
      · cases z
      · cases z
    · obtain ⟨qs', e0, po⟩ := e
      obtain ⟨b, ws', e1, bW, _, hb', rb⟩ := F'.st.sl 0 _ e0
      have eb : b = a := List.mem_singleton.mp (F'.bor 0 qs' b e0 (getD_of e1))
      subst eb
      exact q v H' ws' d qs' po (fun c o hc => F'.keep c o fun z => hc (List.mem_singleton.mp z)) hb' (rb.mono (cut_sub F'.sub)) (rv.mono (cut_sub F'.sub))
end
end
end L3
end

section
set_option Elab.async false
set_option linter.all false
set_option maxRecDepth 100000
set_option maxHeartbeats 1000000
set_option autoImplicit false
/-! zip of two, of three lists or tuples of any mixture; enumerate of either. -/
namespace L3
open PySem L2

inductive Kd where
  | l | t
def Kd.sq (K : PySem.W.Frag) (H : Hp) : Kd → Addr → List V → Prop
  | .l => SqL K H
  | .t => SqT K H
def Kd.it (h : Heap) : Kd → Addr → Addr → Nat → Prop
  | .l => fun i a n => h.IsListIter i a n
  | .t => fun i a n => h.IsTupleIter i a n
def Kd.is (h : Heap) : Kd → Addr → Array Value → Prop
  | .l => fun a x => h.IsList a x
  | .t => fun a x => h.IsTuple a x
def Kd.obj (a : Addr) : Kd → Obj
  | .l => { cls := .type "list_iterator", data := .fields #[.ref a, .int 0 0] }
  | .t => { cls := .type "tuple_iterator", data := .fields #[.ref a, .int 0 0] }
section
variable {prog : Program} {w : World} {A : Around}
theorem Kd.draws (k : Kd) (hh : A.handled = none) (it l : Addr) (hne : l ≠ it) (items : Array Value) : Draws prog w A it [it, l] items.size (fun i v => items[i]? = some v) (fun i h => k.it h it l i ∧ k.is h l items) := by
  cases k with
  | l => exact Draws.list hh it l hne items
  | t => exact Draws.tuple hh it l hne items
theorem Kd.begins (k : Kd) (l : Addr) (items : Array Value) : Begins (.ref l) (k.obj l) fun h => k.is h l items := by
  cases k with
  | l => exact begins_list l items
  | t => exact begins_tuple l items
theorem Kd.it_of {k : Kd} {h : Heap} {i a : Addr} (e : h.get? i = some (k.obj a)) : k.it h i a 0 := by
  cases k with
  | l => exact ⟨_, e, rfl, rfl⟩
  | t => exact ⟨_, e, rfl, rfl⟩
theorem Kd.it_at {k : Kd} {h h' : Heap} {i a : Addr} {n : Nat} (x : k.it h i a n) (e : ∀ o, h.get? i = some o → h'.get? i = some o) : k.it h' i a n := by
  cases k with
  | l => exact Heap.IsListIter.at x e
  | t => exact Heap.IsTupleIter.at x e
theorem Kd.it_obj {k : Kd} {h : Heap} {i a : Addr} {n : Nat} (x : k.it h i a n) : ∃ o, h.get? i = some o ∧ ∀ v, o.data ≠ .cell v := by
  cases k with
  | l => obtain ⟨o, e, _, d⟩ := x; exact ⟨o, e, fun v z => by rw [d] at z; cases z⟩
  | t => obtain ⟨o, e, _, d⟩ := x; exact ⟨o, e, fun v z => by rw [d] at z; cases z⟩
end
section
variable {X : Cx} {pins : List (Addr × Obj)} {σ : L2.St} {H : Hp} {s : Shared}
theorem Kd.of_inv (k : Kd) (I : Inv X pins σ H s) {a : Addr} {xs : List V} (h : k.sq X.K H a xs) : ∃ its : List Value, Vals xs its ∧ k.is s.heap a its.toArray ∧ a < s.heap.objs.size := by
  cases k with
  | l => obtain ⟨its, r, p, _⟩ := I.list h; exact ⟨its, r, p.isList, p.lt⟩
  | t => obtain ⟨its, r, p, _⟩ := I.tuple h; obtain ⟨o, ho, _⟩ := id p; exact ⟨its, r, p, Heap.lt_size ho⟩
theorem Kd.inj (k : Kd) (I : Inv X pins σ H s) {a : Addr} {xs ys : List V} (h : k.sq X.K H a xs) (h' : k.sq X.K H a ys) : xs = ys := by
  cases k with
  | l => exact I.list_inj h h'
  | t => exact I.tuple_inj h h'
end

/-! ### zip of 2 -/
def ItZ2 (K : PySem.W.Frag) (k1 : Kd) (a1 : Addr) (k2 : Kd) (a2 : Addr) : It :=
  ⟨fun i H => ∃ (xs1 xs2 : List V) (x1 x2 : V), k1.sq K H a1 xs1 ∧ k2.sq K H a2 xs2 ∧ xs1[i]? = some x1 ∧ xs2[i]? = some x2,
    fun i H v H' => ∃ T x1 x2, v = .ref T ∧ H T = none ∧ H' = upd H T (.tup [x1, x2]) ∧ (∀ xs, k1.sq K H a1 xs → xs[i]? = some x1) ∧ (∀ xs, k2.sq K H a2 xs → xs[i]? = some x2),
    fun i H => ∃ xs1 xs2 : List V, k1.sq K H a1 xs1 ∧ k2.sq K H a2 xs2 ∧ i ≤ xs1.length ∧ i ≤ xs2.length ∧ (i = xs1.length ∨ i = xs2.length)⟩
theorem turn_z2 {P : Program} {w : World} {K : PySem.W.Frag} {elts : List Expr} {kk : Nat} {tpos : Pos} {k1 k2 : Kd} {a1 a2 z TI TO i1 i2 : Addr} (D : ZipSep2 z TI TO i1 i2 [i1, a1] [i2, a2]) (n1 : a1 ≠ i1) (n2 : a2 ≠ i2) :
    Turn P w K (.Tuple elts kk tpos) (ItZ2 K k1 a1 k2 a2) [z, TI, TO, i1, i2] z (fun i h => IsZip h z TI TO .none ∧ IsTupOf2 h TI (.ref i1) (.ref i2) ∧ (∃ y1 y2, IsTupOf2 h TO y1 y2) ∧ k1.it h i1 a1 i ∧ k2.it h i2 a2 i) where
  mem := by simp
  obj := fun i h st c hc => by
    obtain ⟨hz, hTI, ⟨y1, y2, hTO⟩, h1, h2⟩ := st
    have e' : c = z ∨ c = TI ∨ c = TO ∨ c = i1 ∨ c = i2 := by simpa using hc
    rcases e' with q | q | q | q | q
    · rw [q]; exact ⟨_, hz, fun v q => nomatch q⟩
    · rw [q]; exact ⟨_, hTI, fun v q => nomatch q⟩
    · rw [q]; exact ⟨_, hTO, fun v q => nomatch q⟩
    · rw [q]; exact Kd.it_obj h1
    · rw [q]; exact Kd.it_obj h2
  keep := fun i h h' st k => by
    obtain ⟨hz, hTI, ⟨y1, y2, hTO⟩, h1, h2⟩ := st
    exact ⟨k z (by simp) _ hz, k TI (by simp) _ hTI, ⟨y1, y2, k TO (by simp) _ hTO⟩, Kd.it_at h1 fun o q => k i1 (by simp) o q, Kd.it_at h2 fun o q => k i2 (by simp) o q⟩
  item := by
    intro X hP hw hK hc i pins s σ H E I hf st hg
    subst hP hw hK
    obtain ⟨hz, hTI, ⟨y1, y2, hTO⟩, h1, h2⟩ := st
    obtain ⟨xs1, xs2, x1, x2, hq1, hq2, hx1, hx2⟩ := hg
    obtain ⟨its1, rv1, p1, _⟩ := k1.of_inv I hq1
    obtain ⟨u1, hu1, ru1⟩ := rv1.get hx1
    have lt1 : i < its1.toArray.size := by simpa using (List.getElem?_eq_some_iff.mp hu1).1
    obtain ⟨its2, rv2, p2, _⟩ := k2.of_inv I hq2
    obtain ⟨u2, hu2, ru2⟩ := rv2.get hx2
    have lt2 : i < its2.toArray.size := by simpa using (List.getElem?_eq_some_iff.mp hu2).1
    have hh : X.A.in1.handled = none := I.ok.hd hc
    refine wpAny_pyNext_zipD2_item D (k1.draws hh i1 a1 n1 its1.toArray) (k2.draws hh i2 a2 n2 its2.toArray) hz hTI hTO ⟨h1, p1⟩ ⟨h2, p2⟩ lt1 lt2 fun v1 v2 h' tk e1 e2 z' TO' d1 d2 hT hsz hk => ?_
    have ev1 : v1 = u1 := by
      have q : its1[i]? = some v1 := by simpa using e1
      exact Option.some.inj (q.symm.trans hu1)
    subst ev1
    have ev2 : v2 = u2 := by
      have q : its2[i]? = some v2 := by simpa using e2
      exact Option.some.inj (q.symm.trans hu2)
    subst ev2
    have hzl : z < s.heap.objs.size := Heap.lt_size hz
    refine ⟨_, rfl, wpAny_letOwnedTupleGo_zip (s := { s with heap := h', toks := tk }) z' fun h'' z'' sb => ?_⟩
    have hT2 : h''.get? s.heap.objs.size = some { cls := .type "tuple", data := .seq #[v1, v2] } := (sb.2 _ (Nat.ne_of_gt hzl)).trans hT
    have new : ObjOk X.prog X.w (upd H s.heap.objs.size (.tup [x1, x2])) h'' s.heap.objs.size (.tup [x1, x2]) :=
      ⟨by show 2 ≤ sizeLine; decide, [v1, v2], .cons ru1 (.cons ru2 .nil), ⟨_, hT2, rfl, _, rfl⟩⟩
    have I1 : Inv X pins σ (upd H s.heap.objs.size (.tup [x1, x2])) { s with heap := h'', toks := tk } :=
      I.turnedNew (t' := tk) (ch := [z, TI, TO, i1, i2]) (fun c o hb q => (sb.2 c (fun q' => hb (by simp [q']))).trans (hk c o (fun q' => hb (by simp [q'])) (fun q' => hb (by simp [q'])) (fun q' => hb (by simp [q'])) (fun q' => hb (by simp [q'])) q)) hf (Nat.le_refl _) new
    refine ⟨.ref s.heap.objs.size, _, I1, rfl, ⟨_, x1, x2, rfl, I.hok.fresh (Nat.le_refl _), rfl, fun l hl => by rw [k1.inj I hl hq1]; exact hx1, fun l hl => by rw [k2.inj I hl hq2]; exact hx2⟩, ⟨z'', ?_, ⟨v1, v2, ?_⟩, ?_, ?_⟩, fun c hcm => ?_⟩
    · exact (sb.2 _ D.TIz).trans (hk _ _ D.TIz D.TITO D.TIi1 D.TIi2 hTI)
    · exact (sb.2 _ D.TOz).trans TO'
    · exact Kd.it_at d1.1 fun o q => (sb.2 _ (Ne.symm D.zi1)).trans q
    · exact Kd.it_at d2.1 fun o q => (sb.2 _ (Ne.symm D.zi2)).trans q
    · have hlt : c < s.heap.objs.size := by
        have e' : c = z ∨ c = TI ∨ c = TO ∨ c = i1 ∨ c = i2 := by simpa using hcm
        rcases e' with q | q | q | q | q
        · rw [q]; exact hzl
        · rw [q]; exact Heap.lt_size hTI
        · rw [q]; exact Heap.lt_size hTO
        · rw [q]; obtain ⟨_, e, _⟩ := Kd.it_obj h1; exact Heap.lt_size e
        · rw [q]; obtain ⟨_, e, _⟩ := Kd.it_obj h2; exact Heap.lt_size e
      rw [upd_ne (Nat.ne_of_lt hlt)]
      exact (hf c hcm).1
  done := by
    intro X hP hw hK hc i pins s σ H E I hf st hg
    subst hP hw hK
    obtain ⟨hz, hTI, ⟨y1, y2, hTO⟩, h1, h2⟩ := st
    obtain ⟨xs1, xs2, hq1, hq2, le1, le2, hend⟩ := hg
    obtain ⟨its1, rv1, p1, _⟩ := k1.of_inv I hq1
    have q1 : its1.toArray.size = xs1.length := by simpa using rv1.length.symm
    obtain ⟨its2, rv2, p2, _⟩ := k2.of_inv I hq2
    have q2 : its2.toArray.size = xs2.length := by simpa using rv2.length.symm
    have hh : X.A.in1.handled = none := I.ok.hd hc
    exact wpAny_pyNext_zipD2_end D (k1.draws hh i1 a1 n1 its1.toArray) (k2.draws hh i2 a2 n2 its2.toArray) hz hTI hTO ⟨h1, p1⟩ ⟨h2, p2⟩ (by omega) (by omega) (by omega) fun h' tk hk => ⟨rfl, I.turnedL (t' := tk) (ch := [z, TI, TO, i1, i2]) (fun c o hb q => hk c o (fun q' => hb (by simp [q'])) (fun q' => hb (by simp [q'])) (fun q' => hb (by simp [q'])) (fun q' => hb (by simp [q'])) q) hf⟩
  self := fun A i s Q E st h => wpAny_pyIter_zip st.1 h
def iZip2 (K : PySem.W.Frag) (ta : TA) : TI := fun σ H R => ta σ H fun vs H1 => ∃ (k1 k2 : Kd) (a1 a2 : Addr) (xs1 xs2 : List V), vs = [.ref a1, .ref a2] ∧ k1.sq K H1 a1 xs1 ∧ k2.sq K H1 a2 xs2 ∧ R (ItZ2 K k1 a1 k2 a2) H1
theorem pi_z2 {X : Cx} {e1 e2 : Expr} {ta : TA} {p pos tpos : Pos} {elts : List Expr} {kk : Nat} (hg : Gl X "zip") (hm : X.mg "zip" = none) (ha : PA X [e1, e2] ta)
    (hs : starEach [e1, e2] X.env = (false, eval e1 X.env) :: starEach [e2] X.env := by rfl) (hpl : (backTo pos (starEach [e2] X.env)).any (·.1) = false := by rfl) :
    PI X (.Tuple elts kk tpos) (.Call (.Name "zip" p) [e1, e2] [] pos) (iZip2 X.K ta) := by
  refine ⟨fun pins s σ H R I h => ?_⟩
  refine PyProof.Rows.Call_ (ld_blt I hg hm PyProof.Rows.boot_zip (PyProof.Rows.callWith_type1 (thn (ha.run pos pins s σ H _ I h) fun us s1 ⟨vs, H1, I1, r1, q1⟩ => ?_) hs hpl))
  obtain ⟨k1, k2, a1, a2, xs1, xs2, ex, hq1, hq2, q⟩ := q1
  subst ex
  cases r1 with
  | cons rq r1 =>
    cases r1 with
    | cons rqq r1 =>
      cases r1
      cases rq
      cases rqq
      obtain ⟨its1, rv1, p1, l1⟩ := k1.of_inv I1 hq1
      obtain ⟨its2, rv2, p2, l2⟩ := k2.of_inv I1 hq2
      have fresh : ∀ c, c ∈ [s1.heap.objs.size + 4, s1.heap.objs.size + 2, s1.heap.objs.size + 3, s1.heap.objs.size, s1.heap.objs.size + 1] → FpOk X pins H1 c := fun c hcm => by
        have e' : c = s1.heap.objs.size + 4 ∨ c = s1.heap.objs.size + 2 ∨ c = s1.heap.objs.size + 3 ∨ c = s1.heap.objs.size ∨ c = s1.heap.objs.size + 1 := by simpa using hcm
        have hle : s1.heap.objs.size ≤ c := by
          rcases e' with z | z | z | z | z
          · rw [z]; exact Nat.le_add_right _ _
          · rw [z]; exact Nat.le_add_right _ _
          · rw [z]; exact Nat.le_add_right _ _
          · rw [z]; exact Nat.le_refl _
          · rw [z]; exact Nat.le_add_right _ _
        exact I1.fpOk hle (I1.hok.fresh hle)
      refine zip_begins2 (k1.begins a1 its1.toArray) (k2.begins a2 its2.toArray) p1 p2 fun h' hz hTI hTO g1 g2 hsz hk => wpAny_pyIter_zip hz ?_
      have I2 : Inv X pins σ H1 { s1 with heap := h' } := I1.kept (t' := s1.toks) hk
      exact ⟨s1.heap.objs.size + 4, [s1.heap.objs.size + 4, s1.heap.objs.size + 2, s1.heap.objs.size + 3, s1.heap.objs.size, s1.heap.objs.size + 1], _, _, H1, rfl, I2, turn_z2 (zip_sep2 (fun b hb => by rw [List.mem_singleton.mp hb]; exact l1) (fun b hb => by rw [List.mem_singleton.mp hb]; exact l2)) (Nat.ne_of_lt l1) (Nat.ne_of_lt (Nat.lt_of_lt_of_le l2 (Nat.le_add_right _ _))), ⟨hz, hTI, ⟨_, _, hTO⟩, Kd.it_of g1, Kd.it_of g2⟩, fresh, q⟩
/-! ### zip of 3 -/
def ItZ3 (K : PySem.W.Frag) (k1 : Kd) (a1 : Addr) (k2 : Kd) (a2 : Addr) (k3 : Kd) (a3 : Addr) : It :=
  ⟨fun i H => ∃ (xs1 xs2 xs3 : List V) (x1 x2 x3 : V), k1.sq K H a1 xs1 ∧ k2.sq K H a2 xs2 ∧ k3.sq K H a3 xs3 ∧ xs1[i]? = some x1 ∧ xs2[i]? = some x2 ∧ xs3[i]? = some x3,
    fun i H v H' => ∃ T x1 x2 x3, v = .ref T ∧ H T = none ∧ H' = upd H T (.tup [x1, x2, x3]) ∧ (∀ xs, k1.sq K H a1 xs → xs[i]? = some x1) ∧ (∀ xs, k2.sq K H a2 xs → xs[i]? = some x2) ∧ (∀ xs, k3.sq K H a3 xs → xs[i]? = some x3),
    fun i H => ∃ xs1 xs2 xs3 : List V, k1.sq K H a1 xs1 ∧ k2.sq K H a2 xs2 ∧ k3.sq K H a3 xs3 ∧ i ≤ xs1.length ∧ i ≤ xs2.length ∧ i ≤ xs3.length ∧ (i = xs1.length ∨ i = xs2.length ∨ i = xs3.length)⟩
theorem turn_z3 {P : Program} {w : World} {K : PySem.W.Frag} {elts : List Expr} {kk : Nat} {tpos : Pos} {k1 k2 k3 : Kd} {a1 a2 a3 z TI TO i1 i2 i3 : Addr} (D : ZipSep3 z TI TO i1 i2 i3 [i1, a1] [i2, a2] [i3, a3]) (n1 : a1 ≠ i1) (n2 : a2 ≠ i2) (n3 : a3 ≠ i3) :
    Turn P w K (.Tuple elts kk tpos) (ItZ3 K k1 a1 k2 a2 k3 a3) [z, TI, TO, i1, i2, i3] z (fun i h => IsZip h z TI TO .none ∧ IsTupOf3 h TI (.ref i1) (.ref i2) (.ref i3) ∧ (∃ y1 y2 y3, IsTupOf3 h TO y1 y2 y3) ∧ k1.it h i1 a1 i ∧ k2.it h i2 a2 i ∧ k3.it h i3 a3 i) where
  mem := by simp
  obj := fun i h st c hc => by
    obtain ⟨hz, hTI, ⟨y1, y2, y3, hTO⟩, h1, h2, h3⟩ := st
    have e' : c = z ∨ c = TI ∨ c = TO ∨ c = i1 ∨ c = i2 ∨ c = i3 := by simpa using hc
    rcases e' with q | q | q | q | q | q
    · rw [q]; exact ⟨_, hz, fun v q => nomatch q⟩
    · rw [q]; exact ⟨_, hTI, fun v q => nomatch q⟩
    · rw [q]; exact ⟨_, hTO, fun v q => nomatch q⟩
    · rw [q]; exact Kd.it_obj h1
    · rw [q]; exact Kd.it_obj h2
    · rw [q]; exact Kd.it_obj h3
  keep := fun i h h' st k => by
    obtain ⟨hz, hTI, ⟨y1, y2, y3, hTO⟩, h1, h2, h3⟩ := st
    exact ⟨k z (by simp) _ hz, k TI (by simp) _ hTI, ⟨y1, y2, y3, k TO (by simp) _ hTO⟩, Kd.it_at h1 fun o q => k i1 (by simp) o q, Kd.it_at h2 fun o q => k i2 (by simp) o q, Kd.it_at h3 fun o q => k i3 (by simp) o q⟩
  item := by
    intro X hP hw hK hc i pins s σ H E I hf st hg
    subst hP hw hK
    obtain ⟨hz, hTI, ⟨y1, y2, y3, hTO⟩, h1, h2, h3⟩ := st
    obtain ⟨xs1, xs2, xs3, x1, x2, x3, hq1, hq2, hq3, hx1, hx2, hx3⟩ := hg
    obtain ⟨its1, rv1, p1, _⟩ := k1.of_inv I hq1
    obtain ⟨u1, hu1, ru1⟩ := rv1.get hx1
    have lt1 : i < its1.toArray.size := by simpa using (List.getElem?_eq_some_iff.mp hu1).1
    obtain ⟨its2, rv2, p2, _⟩ := k2.of_inv I hq2
    obtain ⟨u2, hu2, ru2⟩ := rv2.get hx2
    have lt2 : i < its2.toArray.size := by simpa using (List.getElem?_eq_some_iff.mp hu2).1
    obtain ⟨its3, rv3, p3, _⟩ := k3.of_inv I hq3
    obtain ⟨u3, hu3, ru3⟩ := rv3.get hx3
    have lt3 : i < its3.toArray.size := by simpa using (List.getElem?_eq_some_iff.mp hu3).1
    have hh : X.A.in1.handled = none := I.ok.hd hc
    refine wpAny_pyNext_zipD3_item D (k1.draws hh i1 a1 n1 its1.toArray) (k2.draws hh i2 a2 n2 its2.toArray) (k3.draws hh i3 a3 n3 its3.toArray) hz hTI hTO ⟨h1, p1⟩ ⟨h2, p2⟩ ⟨h3, p3⟩ lt1 lt2 lt3 fun v1 v2 v3 h' tk e1 e2 e3 z' TO' d1 d2 d3 hT hsz hk => ?_
    have ev1 : v1 = u1 := by
      have q : its1[i]? = some v1 := by simpa using e1
      exact Option.some.inj (q.symm.trans hu1)
    subst ev1
    have ev2 : v2 = u2 := by
      have q : its2[i]? = some v2 := by simpa using e2
      exact Option.some.inj (q.symm.trans hu2)
    subst ev2
    have ev3 : v3 = u3 := by
      have q : its3[i]? = some v3 := by simpa using e3
      exact Option.some.inj (q.symm.trans hu3)
    subst ev3
    have hzl : z < s.heap.objs.size := Heap.lt_size hz
    refine ⟨_, rfl, wpAny_letOwnedTupleGo_zip (s := { s with heap := h', toks := tk }) z' fun h'' z'' sb => ?_⟩
    have hT2 : h''.get? s.heap.objs.size = some { cls := .type "tuple", data := .seq #[v1, v2, v3] } := (sb.2 _ (Nat.ne_of_gt hzl)).trans hT
    have new : ObjOk X.prog X.w (upd H s.heap.objs.size (.tup [x1, x2, x3])) h'' s.heap.objs.size (.tup [x1, x2, x3]) :=
      ⟨by show 3 ≤ sizeLine; decide, [v1, v2, v3], .cons ru1 (.cons ru2 (.cons ru3 .nil)), ⟨_, hT2, rfl, _, rfl⟩⟩
    have I1 : Inv X pins σ (upd H s.heap.objs.size (.tup [x1, x2, x3])) { s with heap := h'', toks := tk } :=
      I.turnedNew (t' := tk) (ch := [z, TI, TO, i1, i2, i3]) (fun c o hb q => (sb.2 c (fun q' => hb (by simp [q']))).trans (hk c o (fun q' => hb (by simp [q'])) (fun q' => hb (by simp [q'])) (fun q' => hb (by simp [q'])) (fun q' => hb (by simp [q'])) (fun q' => hb (by simp [q'])) q)) hf (Nat.le_refl _) new
    refine ⟨.ref s.heap.objs.size, _, I1, rfl, ⟨_, x1, x2, x3, rfl, I.hok.fresh (Nat.le_refl _), rfl, fun l hl => by rw [k1.inj I hl hq1]; exact hx1, fun l hl => by rw [k2.inj I hl hq2]; exact hx2, fun l hl => by rw [k3.inj I hl hq3]; exact hx3⟩, ⟨z'', ?_, ⟨v1, v2, v3, ?_⟩, ?_, ?_, ?_⟩, fun c hcm => ?_⟩
    · exact (sb.2 _ D.TIz).trans (hk _ _ D.TIz D.TITO D.TIi1 D.TIi2 D.TIi3 hTI)
    · exact (sb.2 _ D.TOz).trans TO'
    · exact Kd.it_at d1.1 fun o q => (sb.2 _ (Ne.symm D.zi1)).trans q
    · exact Kd.it_at d2.1 fun o q => (sb.2 _ (Ne.symm D.zi2)).trans q
    · exact Kd.it_at d3.1 fun o q => (sb.2 _ (Ne.symm D.zi3)).trans q
    · have hlt : c < s.heap.objs.size := by
        have e' : c = z ∨ c = TI ∨ c = TO ∨ c = i1 ∨ c = i2 ∨ c = i3 := by simpa using hcm
        rcases e' with q | q | q | q | q | q
        · rw [q]; exact hzl
        · rw [q]; exact Heap.lt_size hTI
        · rw [q]; exact Heap.lt_size hTO
        · rw [q]; obtain ⟨_, e, _⟩ := Kd.it_obj h1; exact Heap.lt_size e
        · rw [q]; obtain ⟨_, e, _⟩ := Kd.it_obj h2; exact Heap.lt_size e
        · rw [q]; obtain ⟨_, e, _⟩ := Kd.it_obj h3; exact Heap.lt_size e
      rw [upd_ne (Nat.ne_of_lt hlt)]
      exact (hf c hcm).1
  done := by
    intro X hP hw hK hc i pins s σ H E I hf st hg
    subst hP hw hK
    obtain ⟨hz, hTI, ⟨y1, y2, y3, hTO⟩, h1, h2, h3⟩ := st
    obtain ⟨xs1, xs2, xs3, hq1, hq2, hq3, le1, le2, le3, hend⟩ := hg
    obtain ⟨its1, rv1, p1, _⟩ := k1.of_inv I hq1
    have q1 : its1.toArray.size = xs1.length := by simpa using rv1.length.symm
    obtain ⟨its2, rv2, p2, _⟩ := k2.of_inv I hq2
    have q2 : its2.toArray.size = xs2.length := by simpa using rv2.length.symm
    obtain ⟨its3, rv3, p3, _⟩ := k3.of_inv I hq3
    have q3 : its3.toArray.size = xs3.length := by simpa using rv3.length.symm
    have hh : X.A.in1.handled = none := I.ok.hd hc
    exact wpAny_pyNext_zipD3_end D (k1.draws hh i1 a1 n1 its1.toArray) (k2.draws hh i2 a2 n2 its2.toArray) (k3.draws hh i3 a3 n3 its3.toArray) hz hTI hTO ⟨h1, p1⟩ ⟨h2, p2⟩ ⟨h3, p3⟩ (by omega) (by omega) (by omega) (by omega) fun h' tk hk => ⟨rfl, I.turnedL (t' := tk) (ch := [z, TI, TO, i1, i2, i3]) (fun c o hb q => hk c o (fun q' => hb (by simp [q'])) (fun q' => hb (by simp [q'])) (fun q' => hb (by simp [q'])) (fun q' => hb (by simp [q'])) (fun q' => hb (by simp [q'])) q) hf⟩
  self := fun A i s Q E st h => wpAny_pyIter_zip st.1 h
def iZip3 (K : PySem.W.Frag) (ta : TA) : TI := fun σ H R => ta σ H fun vs H1 => ∃ (k1 k2 k3 : Kd) (a1 a2 a3 : Addr) (xs1 xs2 xs3 : List V), vs = [.ref a1, .ref a2, .ref a3] ∧ k1.sq K H1 a1 xs1 ∧ k2.sq K H1 a2 xs2 ∧ k3.sq K H1 a3 xs3 ∧ R (ItZ3 K k1 a1 k2 a2 k3 a3) H1
theorem pi_z3 {X : Cx} {e1 e2 e3 : Expr} {ta : TA} {p pos tpos : Pos} {elts : List Expr} {kk : Nat} (hg : Gl X "zip") (hm : X.mg "zip" = none) (ha : PA X [e1, e2, e3] ta)
    (hs : starEach [e1, e2, e3] X.env = (false, eval e1 X.env) :: starEach [e2, e3] X.env := by rfl) (hpl : (backTo pos (starEach [e2, e3] X.env)).any (·.1) = false := by rfl) :
    PI X (.Tuple elts kk tpos) (.Call (.Name "zip" p) [e1, e2, e3] [] pos) (iZip3 X.K ta) := by
  refine ⟨fun pins s σ H R I h => ?_⟩
  refine PyProof.Rows.Call_ (ld_blt I hg hm PyProof.Rows.boot_zip (PyProof.Rows.callWith_type1 (thn (ha.run pos pins s σ H _ I h) fun us s1 ⟨vs, H1, I1, r1, q1⟩ => ?_) hs hpl))
  obtain ⟨k1, k2, k3, a1, a2, a3, xs1, xs2, xs3, ex, hq1, hq2, hq3, q⟩ := q1
  subst ex
  cases r1 with
  | cons rq r1 =>
    cases r1 with
    | cons rqq r1 =>
      cases r1 with
      | cons rqqq r1 =>
        cases r1
        cases rq
        cases rqq
        cases rqqq
        obtain ⟨its1, rv1, p1, l1⟩ := k1.of_inv I1 hq1
        obtain ⟨its2, rv2, p2, l2⟩ := k2.of_inv I1 hq2
        obtain ⟨its3, rv3, p3, l3⟩ := k3.of_inv I1 hq3
        have fresh : ∀ c, c ∈ [s1.heap.objs.size + 5, s1.heap.objs.size + 3, s1.heap.objs.size + 4, s1.heap.objs.size, s1.heap.objs.size + 1, s1.heap.objs.size + 2] → FpOk X pins H1 c := fun c hcm => by
          have e' : c = s1.heap.objs.size + 5 ∨ c = s1.heap.objs.size + 3 ∨ c = s1.heap.objs.size + 4 ∨ c = s1.heap.objs.size ∨ c = s1.heap.objs.size + 1 ∨ c = s1.heap.objs.size + 2 := by simpa using hcm
          have hle : s1.heap.objs.size ≤ c := by
            rcases e' with z | z | z | z | z | z
            · rw [z]; exact Nat.le_add_right _ _
            · rw [z]; exact Nat.le_add_right _ _
            · rw [z]; exact Nat.le_add_right _ _
            · rw [z]; exact Nat.le_refl _
            · rw [z]; exact Nat.le_add_right _ _
            · rw [z]; exact Nat.le_add_right _ _
          exact I1.fpOk hle (I1.hok.fresh hle)
        refine zip_begins3 (k1.begins a1 its1.toArray) (k2.begins a2 its2.toArray) (k3.begins a3 its3.toArray) p1 p2 p3 fun h' hz hTI hTO g1 g2 g3 hsz hk => wpAny_pyIter_zip hz ?_
        have I2 : Inv X pins σ H1 { s1 with heap := h' } := I1.kept (t' := s1.toks) hk
        exact ⟨s1.heap.objs.size + 5, [s1.heap.objs.size + 5, s1.heap.objs.size + 3, s1.heap.objs.size + 4, s1.heap.objs.size, s1.heap.objs.size + 1, s1.heap.objs.size + 2], _, _, H1, rfl, I2, turn_z3 (zip_sep3 (fun b hb => by rw [List.mem_singleton.mp hb]; exact l1) (fun b hb => by rw [List.mem_singleton.mp hb]; exact l2) (fun b hb => by rw [List.mem_singleton.mp hb]; exact l3)) (Nat.ne_of_lt l1) (Nat.ne_of_lt (Nat.lt_of_lt_of_le l2 (Nat.le_add_right _ _))) (Nat.ne_of_lt (Nat.lt_of_lt_of_le l3 (Nat.le_add_right _ _))), ⟨hz, hTI, ⟨_, _, _, hTO⟩, Kd.it_of g1, Kd.it_of g2, Kd.it_of g3⟩, fresh, q⟩
end L3
end

section
set_option Elab.async false
set_option linter.all false
set_option maxRecDepth 100000
set_option autoImplicit false
/-! Expressions that change what a slot holds. -/
namespace L3
open PySem L2

section
variable {K : PySem.W.Frag} {B : Hp} {W0 M N W : List Addr} {H0 H H' : Hp} {σ : L2.St} {ds ds1 : List Sl} {P : Post} {D : Ends} {t u : TS} {te ta tb : TE} {tr : TA} {tt : TT} {d x y z : PyData} {xs : List PyData}
def Es (K : PySem.W.Frag) (te : TE) (ds : List Sl) (P : PyData → List Sl → Prop) : Prop :=
  ∀ (B : Hp) (W0 M N : List Addr) (H0 : Hp) (W : List Addr) (σ : L2.St) (H : Hp), Fr K B W0 M N H0 W σ H ds → ∀ Q : VK, (∀ v H' W' d ds', P d ds' → Fr K B W0 M N H0 W' σ H' ds' → Rp K (cut H' W') v d → Q v H') → te σ H Q
def Eas (K : PySem.W.Frag) (ta : TA) (ds : List Sl) (P : List PyData → List Sl → Prop) : Prop :=
  ∀ (B : Hp) (W0 M N : List Addr) (H0 : Hp) (W : List Addr) (σ : L2.St) (H : Hp), Fr K B W0 M N H0 W σ H ds → ∀ Q : List V → Hp → Prop, (∀ vs H' W' xs ds', P xs ds' → Fr K B W0 M N H0 W' σ H' ds' → RpAll K (cut H' W') vs xs → Q vs H') → ta σ H Q
def Ets (K : PySem.W.Frag) (tt : TT) (ds : List Sl) (P : Bool → List Sl → Prop) : Prop :=
  ∀ (B : Hp) (W0 M N : List Addr) (H0 : Hp) (W : List Addr) (σ : L2.St) (H : Hp), Fr K B W0 M N H0 W σ H ds → ∀ Q : Bool → Hp → Prop, (∀ b H' W' ds', P b ds' → Fr K B W0 M N H0 W' σ H' ds' → Q b H') → tt σ H Q
theorem es_imp {P P' : PyData → List Sl → Prop} (h : Es K te ds P) (i : ∀ d ds', P d ds' → P' d ds') : Es K te ds P' := fun B W0 M N H0 W σ H F Q q => h B W0 M N H0 W σ H F Q fun v H' W' d ds' p => q v H' W' d ds' (i d ds' p)
theorem es_ev {P : PyData → List Sl → Prop} (h : Ev K te ds d) (p : P d ds) : Es K te ds P := fun B W0 M N H0 W σ H F Q q =>
  h W N σ H F.st _ fun v H' e r => q v H' W d ds p (F.ex e) r
theorem es_op {r : R2} {P P1 : PyData → List Sl → Prop} (ha : Es K ta ds P1) (hb : ∀ x ds1, P1 x ds1 → Es K tb ds1 fun y ds2 => ∃ z, RD K r x y z ∧ P z ds2) : Es K (tOp r ta tb) ds P := fun B W0 M N H0 W σ H F Q q =>
  ha B W0 M N H0 W σ H F _ fun v H1 W1 x ds1 p1 F1 r1 => hb x ds1 p1 (cut H1 W1) W0 M N H0 W1 σ H1 (F1.rebase (Ex.refl _)) _ fun u H2 W2 y ds2 ⟨z, rd, p2⟩ F2 r2 =>
    rd W2 H2 v u F2.st.al (r1.mono F2.base) r2 Q fun w H3 e3 r3 => q w H3 W2 z ds2 p2 ((F2.ex e3).rebase ((F1.base.trans F2.base).trans (cut_mono e3))) r3
theorem eas_ea {P : List PyData → List Sl → Prop} (h : Ea K tr ds xs) (p : P xs ds) : Eas K tr ds P := fun B W0 M N H0 W σ H F Q q =>
  h W N σ H F.st _ fun v H' e r => q v H' W xs ds p (F.ex e) r
theorem eas_cons {P1 : PyData → List Sl → Prop} {P : List PyData → List Sl → Prop} (ha : Es K ta ds P1) (hb : ∀ x ds1, P1 x ds1 → Eas K tr ds1 fun ys ds2 => P (x :: ys) ds2) : Eas K (tCons ta tr) ds P := fun B W0 M N H0 W σ H F Q q =>
  ha B W0 M N H0 W σ H F _ fun v H1 W1 x ds1 p1 F1 r1 => hb x ds1 p1 (cut H1 W1) W0 M N H0 W1 σ H1 (F1.rebase (Ex.refl _)) _ fun us H2 W2 ys ds2 p2 F2 r2 =>
    q (v :: us) H2 W2 (x :: ys) ds2 p2 (F2.rebase (F1.base.trans F2.base)) (.cons (r1.mono F2.base) r2)
theorem eas_nil {P : List PyData → List Sl → Prop} (p : P [] ds) : Eas K tNil ds P := eas_ea ea_nil p
theorem eas_one {P : List PyData → List Sl → Prop} (h : Es K ta ds fun x ds1 => P [x] ds1) : Eas K (tCons ta tNil) ds P := eas_cons h fun x ds1 p => eas_nil p
theorem es_cb {c : List V → Hp → VK → Prop} {P : PyData → List Sl → Prop} (h : Eas K tr ds fun xs ds1 => ∃ z, CD K c xs z ∧ P z ds1) : Es K (tCB c tr) ds P := fun B W0 M N H0 W σ H F Q q =>
  h B W0 M N H0 W σ H F _ fun vs H1 W1 xs ds1 ⟨z, cd, p⟩ F1 r1 => cd W1 H1 vs F1.st.al r1 Q fun w H2 e2 r2 => q w H2 W1 z ds1 p (F1.ex e2) r2
theorem es_tup {P : PyData → List Sl → Prop} (h : Eas K tr ds fun xs ds1 => xs.length ≤ 100000 ∧ P (.tuple xs) ds1) : Es K (tTup tr) ds P := fun B W0 M N H0 W σ H F Q q =>
  h B W0 M N H0 W σ H F _ fun vs H1 W1 xs ds1 ⟨hl, p⟩ F1 r1 => ⟨by rw [r1.length]; exact sz_of hl, fun a ha =>
    q _ _ W1 _ ds1 p (F1.ex (Ex.new ha)) (.tup (cut_new F1.st.al ha) (r1.mono (cut_mono (Ex.new ha))))⟩
theorem es_call {R : List PyData → PyData → Prop} {E : XK} {P : PyData → List Sl → Prop} (h : Eas K tr ds fun xs ds1 => ∃ z, R xs z ∧ P z ds1) : Es K (tCall (spD K R) [] E tr) ds P := fun B W0 M N H0 W σ H F Q q =>
  h B W0 M N H0 W σ H F _ fun vs H1 W1 xs ds1 ⟨z, hr, p⟩ F1 r1 => by
    show spD K R (vs ++ []) H1 Q E
    rw [List.append_nil]
    exact ⟨W1, xs, z, F1.st.al, r1, hr, fun v H' e2 r2 => q v H' W1 z ds1 p (F1.ex e2) r2⟩
theorem ets_test {P : Bool → List Sl → Prop} (h : Es K te ds fun d ds1 => ∃ b, d = .bool b ∧ P b ds1) : Ets K (tTest te) ds P := fun B W0 M N H0 W σ H F Q q =>
  h B W0 M N H0 W σ H F _ fun v H' W' d ds' ⟨b, e, p⟩ F' r => by
    subst e
    cases r
    exact ⟨b, rfl, q b H' W' ds' p F'⟩
theorem ets_not {P : Bool → List Sl → Prop} (h : Ets K tt ds fun b ds1 => P (!b) ds1) : Ets K (tNot tt) ds P := fun B W0 M N H0 W σ H F Q q =>
  h B W0 M N H0 W σ H F _ fun b H' W' ds' p F' => q (!b) H' W' ds' p F'

/-! ### a list of our own that grows in a comprehension -/
theorem Fr.pushL (F : Fr K B W0 M N H0 W σ H ds) {a : Addr} {vl : List V} (n : H a = none) : Fr K B (a :: W0) M (a :: N) (upd H0 a (.lst vl)) (a :: W) σ (upd H a (.lst vl)) ds ∧ H0 a = none ∧ a ∉ W0 := by
  have aW : a ∉ W := F.st.al.fresh n
  have a0 : a ∉ W0 := fun q => aW (F.sub a q)
  have h0 : H0 a = none := by
    cases q : H0 a with
    | none => rfl
    | some o =>
      by_cases m : a ∈ M
      · exact absurd (F.msub a m) a0
      · rw [F.keep a o m q] at n; cases n
  have e : Ex H (upd H a (.lst vl)) := Ex.new n
  have cc : Ex (cut H W) (cut (upd H a (.lst vl)) (a :: W)) := cut_cons n e
  have cN : ∀ {b : Addr}, b ∈ W → b ∉ N → b ∉ a :: N := fun bw bn q => (List.mem_cons.mp q).elim (fun z => aW (z ▸ bw)) bn
  refine ⟨⟨⟨F.st.len, fun b hb => ?_, fun i s h => ?_, F.st.dist⟩, fun b hb => ?_, fun b hb hn => ?_, fun b ob hn q => ?_, fun b hb hm => ?_, fun b hb => ?_, fun b hb => List.mem_cons_of_mem _ (F.msub b hb), fun i s b h nb ow hs => ?_, F.base.trans cc, F.bor⟩, h0, a0⟩
  · rcases List.mem_cons.mp hb with z | z
    · rw [z, upd_same]; exact nt_lst
    · exact F.st.al.mono e b z
  · have q := F.st.sl i s h
    cases s with
    | un => trivial
    | pu d => obtain ⟨v, h1, h2⟩ := q; exact ⟨v, h1, h2.mono cc⟩
    | rl xs => obtain ⟨c, vs, h1, h2, h3⟩ := q; exact ⟨c, vs, h1, ex_l cc h2, h3.mono cc⟩
    | ol xs => obtain ⟨c, vs, h1, h2, h3, h4, h5⟩ := q; exact ⟨c, vs, h1, List.mem_cons_of_mem _ h2, cN h2 h3, e _ _ h4, h5.mono cc⟩
    | od xs => obtain ⟨c, vs, h1, h2, h3, h4, h5⟩ := q; exact ⟨c, vs, h1, List.mem_cons_of_mem _ h2, cN h2 h3, e _ _ h4, h5.mono cc⟩
    | fd xs => obtain ⟨c, vs, ob, h1, h2, h3, h4, h5⟩ := q; exact ⟨c, vs, ob, h1, List.mem_cons_of_mem _ h2, cN h2 h3, e _ _ h4, h5.mono cc⟩
    | bl xs => obtain ⟨c, vs, h1, h2, h3, h4, h5⟩ := q; exact ⟨c, vs, h1, List.mem_cons_of_mem _ h2, cN h2 h3, e _ _ h4, h5.mono cc⟩
  · exact (List.mem_cons.mp hb).elim (fun z => z ▸ List.mem_cons_self) fun z => List.mem_cons_of_mem _ (F.sub b z)
  · have nb : b ≠ a := fun z => hn (z ▸ List.mem_cons_self)
    rw [upd_ne nb]
    exact F.new b ((List.mem_cons.mp hb).elim (fun z => absurd z nb) id) fun z => hn (List.mem_cons_of_mem _ z)
  · by_cases eb : b = a
    · subst eb
      rw [upd_same] at q ⊢; exact q
    · rw [upd_ne eb] at q ⊢; exact F.keep b ob hn q
  · exact (List.mem_cons.mp hb).elim (fun z => z ▸ List.mem_cons_self) fun z => List.mem_cons_of_mem _ (F.oth b z hm)
  · exact (List.mem_cons.mp hb).elim (fun z => z ▸ List.mem_cons_self) fun z => List.mem_cons_of_mem _ (F.nsub b z)
  · intro q
    rcases List.mem_cons.mp q with z | z
    · subst z
      obtain ⟨c, ob, e1, e2, _⟩ := (F.st.sl i s h).addr ow
      rw [hs] at e1
      cases e1
      exact aW e2
    · exact F.loc i s b h nb ow hs z
theorem Fr.underL {a : Addr} {o : HO} {vl : List V} (F : Fr K B (a :: W0) M (a :: N) (upd H0 a o) W σ H ds) (hM : a ∉ M) : Fr K B (a :: W0) M (a :: N) (upd H0 a (.lst vl)) W σ (upd H a (.lst vl)) ds := by
  have aW : a ∈ W := F.sub a List.mem_cons_self
  have ce : cut (upd H a (.lst vl)) W = cut H W := cut_upd aW
  have ne : ∀ {c : Addr}, c ∉ a :: N → c ≠ a := fun hc z => hc (z ▸ List.mem_cons_self)
  refine ⟨⟨F.st.len, fun b hb => ?_, fun i s h => ?_, F.st.dist⟩, F.sub, fun b hb hn => ?_, fun b ob hn q => ?_, F.oth, F.nsub, F.msub, F.loc, by rw [ce]; exact F.base, F.bor⟩
  · by_cases e : b = a
    · rw [e, upd_same]; exact nt_lst
    · rw [upd_ne e]; exact F.st.al b hb
  · have q := F.st.sl i s h
    cases s with
    | un => trivial
    | pu d => obtain ⟨v, h1, h2⟩ := q; exact ⟨v, h1, by rw [ce]; exact h2⟩
    | rl xs => obtain ⟨c, vs, h1, h2, h3⟩ := q; exact ⟨c, vs, h1, by rw [ce]; exact h2, by rw [ce]; exact h3⟩
    | ol xs => obtain ⟨c, vs, h1, h2, h3, h4, h5⟩ := q; exact ⟨c, vs, h1, h2, h3, by rw [upd_ne (ne h3)]; exact h4, by rw [ce]; exact h5⟩
    | od xs => obtain ⟨c, vs, h1, h2, h3, h4, h5⟩ := q; exact ⟨c, vs, h1, h2, h3, by rw [upd_ne (ne h3)]; exact h4, by rw [ce]; exact h5⟩
    | fd xs => obtain ⟨c, vs, ob, h1, h2, h3, h4, h5⟩ := q; exact ⟨c, vs, ob, h1, h2, h3, by rw [upd_ne (ne h3)]; exact h4, by rw [ce]; exact h5⟩
    | bl xs => obtain ⟨c, vs, h1, h2, h3, h4, h5⟩ := q; exact ⟨c, vs, h1, h2, h3, by rw [upd_ne (ne h3)]; exact h4, by rw [ce]; exact h5⟩
  · have nb : b ≠ a := fun z => hn (z ▸ List.mem_cons_self)
    have q := F.new b hb hn
    rw [upd_ne nb] at q ⊢
    exact q
  · by_cases eb : b = a
    · subst eb
      rw [upd_same] at q ⊢; exact q
    · rw [upd_ne eb] at q ⊢
      exact F.keep b ob hn (by rw [upd_ne eb]; exact q)
theorem Fr.popL {a : Addr} {o : HO} (F : Fr K B (a :: W0) M (a :: N) (upd H0 a o) W σ H ds) (hM : a ∉ M) (a0 : a ∉ W0) (h0 : H0 a = none) (oth : ∀ b ∈ W0, b ∉ M → b ∈ N) (nsub : ∀ b ∈ N, b ∈ W0) (msub : ∀ b ∈ M, b ∈ W0) :
    Fr K B W0 M N H0 (W.filter fun c => decide (c ≠ a)) σ H ds ∧ H a = some o ∧ a ∉ (W.filter fun c => decide (c ≠ a)) ∧ Ex (cut H W) (cut H (W.filter fun c => decide (c ≠ a))) := by
  have sub : ∀ b ∈ W.filter (fun c => decide (c ≠ a)), b ∈ W := fun b hb => (List.mem_filter.mp hb).1
  have nea : ∀ b ∈ W.filter (fun c => decide (c ≠ a)), b ≠ a := fun b hb => of_decide_eq_true (List.mem_filter.mp hb).2
  have ce : Ex (cut H W) (cut H (W.filter fun c => decide (c ≠ a))) := cut_sub sub
  have stay : ∀ b, b ∈ W → b ≠ a → b ∈ W.filter (fun c => decide (c ≠ a)) := fun b hb n => List.mem_filter.mpr ⟨hb, decide_eq_true n⟩
  have st : ∀ {c : Addr}, c ∈ W → c ∉ a :: N → c ∈ W.filter (fun c => decide (c ≠ a)) ∧ c ∉ N := fun h1 h2 => ⟨stay _ h1 fun z => h2 (z ▸ List.mem_cons_self), fun z => h2 (List.mem_cons_of_mem _ z)⟩
  refine ⟨⟨⟨F.st.len, fun b hb => F.st.al b (sub b hb), fun i s h => ?_, F.st.dist⟩, fun b hb => stay b (F.sub b (List.mem_cons_of_mem _ hb)) fun z => a0 (z ▸ hb), fun b hb hn => ?_, fun b ob hn q => ?_, oth, nsub, msub, fun i s b h nb ow hs q => F.loc i s b h nb ow hs (List.mem_cons_of_mem _ q), F.base.trans ce, F.bor⟩, F.keep a o hM upd_same, fun q => nea a q rfl, ce⟩
  · have q := F.st.sl i s h
    cases s with
    | un => trivial
    | pu d => obtain ⟨v, h1, h2⟩ := q; exact ⟨v, h1, h2.mono ce⟩
    | rl xs => obtain ⟨c, vs, h1, h2, h3⟩ := q; exact ⟨c, vs, h1, ex_l ce h2, h3.mono ce⟩
    | ol xs => obtain ⟨c, vs, h1, h2, h3, h4, h5⟩ := q; exact ⟨c, vs, h1, (st h2 h3).1, (st h2 h3).2, h4, h5.mono ce⟩
    | od xs => obtain ⟨c, vs, h1, h2, h3, h4, h5⟩ := q; exact ⟨c, vs, h1, (st h2 h3).1, (st h2 h3).2, h4, h5.mono ce⟩
    | fd xs => obtain ⟨c, vs, ob, h1, h2, h3, h4, h5⟩ := q; exact ⟨c, vs, ob, h1, (st h2 h3).1, (st h2 h3).2, h4, h5.mono ce⟩
    | bl xs => obtain ⟨c, vs, h1, h2, h3, h4, h5⟩ := q; exact ⟨c, vs, h1, (st h2 h3).1, (st h2 h3).2, h4, h5.mono ce⟩
  · have q := F.new b (sub b hb) fun z => (List.mem_cons.mp z).elim (nea b hb) hn
    rw [upd_ne (nea b hb)] at q
    exact q
  · have nb : b ≠ a := fun z => by rw [z, h0] at q; cases q
    exact F.keep b ob hn (by rw [upd_ne nb]; exact q)
theorem Fr.wipe (F : Fr K B W0 M N H0 W σ H ds) (vs : List Nat) : Fr K B W0 M N H0 W (L2.wipe σ vs) H (wipeD ds vs) :=
  ⟨F.st.wipe vs, F.sub, F.new, F.keep, F.oth, F.nsub, F.msub, fun i s a h nb ow hs => by
    rcases wipeD_get h with e | ⟨n, h⟩
    · subst e; cases ow
    · rw [wipe_get, if_neg n] at hs; exact F.loc i s a h nb ow hs, F.base, fun i xs a h hs => by
    rcases wipeD_get h with e | ⟨n, h⟩
    · cases e
    · rw [wipe_get, if_neg n] at hs; exact F.bor i xs a h hs⟩
theorem Fr.unwipe {σ' : L2.St} {vs : List Nat} (F : Fr K B W0 M N H0 W σ' H ds) (e : L2.wipe σ' vs = L2.wipe σ vs) : Fr K B W0 M N H0 W σ H (wipeD ds vs) := by
  have at' : ∀ i, i ∉ vs → σ'[i]? = σ[i]? := fun i hi => by
    have q := congrArg (fun l => l[i]?) e
    simp only [wipe_get, if_neg hi] at q
    exact q
  have F1 := F.wipe vs
  rw [e] at F1
  refine ⟨⟨?_, F1.st.al, fun i s h => ?_, fun i j s t nij h1 h2 o1 o2 => ?_⟩, F1.sub, F1.new, F1.keep, F1.oth, F1.nsub, F1.msub, fun i s a h nb ow hs => ?_, F1.base, fun i xs a h hs => ?_⟩
  · have q := F1.st.len
    rw [wipe_length] at q
    exact q
  · rcases wipeD_get h with e' | ⟨n, h'⟩
    · subst e'; trivial
    · have q := F.st.sl i s h'
      rw [at' i n] at q
      exact q
  · rcases wipeD_get h1 with e' | ⟨n1, h1'⟩
    · subst e'; cases o1
    · rcases wipeD_get h2 with e' | ⟨n2, h2'⟩
      · subst e'; cases o2
      · rw [← at' i n1, ← at' j n2]; exact F.st.dist i j s t nij h1' h2' o1 o2
  · rcases wipeD_get h with e' | ⟨n, h'⟩
    · subst e'; cases ow
    · rw [← at' i n] at hs; exact F.loc i s a h' nb ow hs
  · rcases wipeD_get h with e' | ⟨n, h'⟩
    · cases e'
    · rw [← at' i n] at hs; exact F.bor i xs a h' hs
theorem ite_intro_true {p q : Prop} (h : p) : (if true = true then p else q) := by rw [if_pos rfl]; exact h
/-- a comprehension whose items change slots -/
theorem es_lc {α : Type} {wi : TI} {g : TG} {vs js : List Nat} {P : PyData → List Sl → Prop} (ls : List α) (enc : α → PyData) (T : α → List Sl → List Sl) (Inv : Nat → List Sl → List PyData → Prop)
    (hi : EI K wi ds (ls.map enc)) (hl : ls.length ≤ 90000) (hj : ∀ j ∈ js, j ∈ vs) (h0 : Inv 0 (wipeD ds vs) []) (hg : ∀ i l ds acc, ls[i]? = some l → Inv i ds acc → Tg K g (enc l) ds (T l ds) js)
    (he : ∀ i l ds acc, ls[i]? = some l → Inv i ds acc → Es K te (T l ds) fun d ds' => Inv (i + 1) (wipeD ds' vs) (acc ++ [d])) (hd : ∀ ds acc, Inv ls.length ds acc → P (.list acc) (wipeD ds vs)) : Es K (tLc wi g tYes te vs) ds P := fun B W0 M N H0 W σ H F Q q =>
  hi W N σ H F.st _ fun J H1 e1 it => fun Dl hD => by
    have F1 := F.ex e1
    have n : (ls.map enc).length = ls.length := List.length_map _
    have aW : Dl ∉ W := F1.st.al.fresh hD
    obtain ⟨_, n0, na⟩ := F1.pushL (vl := []) hD
    have aM : Dl ∉ M := fun z => na (F.msub Dl z)
    let I : Nat → Hp → Prop := fun i H2 => i ≤ ls.length ∧ ∃ W2 ds2 acc us, Inv i ds2 acc ∧ acc.length = i ∧ Fr K (cut H1 W) (Dl :: W0) M (Dl :: N) (upd H0 Dl (.lst us)) W2 (L2.wipe σ vs) H2 ds2 ∧ RpAll K (cut H2 W2) us acc
    have start : I 0 (upd H1 Dl (.lst [])) := by
      refine ⟨Nat.zero_le _, Dl :: W, _, [], [], h0, rfl, ?_, .nil⟩
      have F2 := ((F1.wipe vs).rebase (Ex.refl _)).pushL (vl := []) hD
      exact F2.1
    refine ⟨fun i mm H2 => mm = ls.length - i ∧ I i H2, ⟨ls.length, rfl, start⟩, ?_⟩
    rintro i mm H2 ⟨rfl, hle, W2, ds2, acc, us, hI, hac, F2, rac⟩
    by_cases hlt : i < ls.length
    · have hli : ls[i]? = some ls[i] := List.getElem?_eq_getElem hlt
      refine .inr ⟨it.go i H2 W2 (by rw [n]; exact hlt) F2.base, I (i + 1), fun H3 p => ⟨ls.length - (i + 1), by omega, rfl, p⟩, fun x H3 y => ?_⟩
      obtain ⟨e3, rx⟩ := it.yld i H2 W2 x H3 (enc ls[i]) (by rw [List.getElem?_map, hli]; rfl) F2.base F2.st.al y
      have F3 := F2.ex e3
      refine hg i ls[i] ds2 acc hli hI W2 _ _ H3 x F3.st rx _ fun σ4 S4 kp => ?_
      have wp : L2.wipe σ4 vs = L2.wipe σ vs := (kp.wp vs hj).trans wipe_wipe
      refine ⟨wp, ?_⟩
      show te σ4 H3 _
      refine he i ls[i] ds2 acc hli hI (cut H3 W2) _ _ _ _ _ _ _ ((F3.to S4 kp).rebase (Ex.refl _)) _ fun v H5 W5 d ds5 p5 F5 r5 => ?_
      have hus : H5 Dl = some (.lst us) := F5.keep Dl _ aM upd_same
      have rl : us.length = acc.length := rac.length
      refine ⟨us, hus, by rw [rl, hac]; exact sz_lt (by omega), hlt, W5, _, _, us ++ [v], p5, by rw [List.length_append, hac]; rfl, ?_, ?_⟩
      · have F6 := (F5.underL (vl := us ++ [v]) aM).unwipe (σ := L2.wipe σ vs) (vs := vs) (by rw [wp, wipe_wipe])
        have cu : cut (upd H5 Dl (.lst (us ++ [v]))) W5 = cut H5 W5 := cut_upd (F5.sub Dl List.mem_cons_self)
        exact F6.rebase (by rw [cu]; exact F3.base.trans F5.base)
      · have cu : cut (upd H5 Dl (.lst (us ++ [v]))) W5 = cut H5 W5 := cut_upd (F5.sub Dl List.mem_cons_self)
        rw [cu]
        exact ((rac.mono (cut_mono e3)).mono F5.base).append (.one r5)
    · have e : i = ls.length := by omega
      subst e
      have F6 := F2.unwipe (σ := σ) (vs := vs) wipe_wipe
      obtain ⟨F7, hus, out, ce⟩ := F6.popL aM na n0 F.oth F.nsub F.msub
      refine .inl ⟨by have := it.stop H2 W2 F2.base; rw [n] at this; exact this, q _ _ _ _ _ (hd ds2 acc hI) (F7.rebase (F1.base.trans F7.base)) (.lst (by rw [cut_out out]; exact hus) (rac.mono ce))⟩

/-! ### calls that change the first argument, pop -/
theorem es_callB {Pre : List PyData → List PyData → Prop} {Po : List PyData → List PyData → PyData → List PyData → Prop} {E : XK} {i : Nat} {P : PyData → List Sl → Prop}
    (h : Eas K tr ds fun xs ds1 => ∃ ps, Pre ps xs ∧ ((ds1[i]? = some (.bl ps) ∧ ∀ d ps', Po ps xs d ps' → P d (ds1.set i (.bl ps'))) ∨ (ds1[i]? = some (.ol ps) ∧ ∀ d ps', Po ps xs d ps' → P d (ds1.set i (.ol ps')))))
    (h0 : ∃ ps, ds[i]? = some (.bl ps) ∨ ds[i]? = some (.ol ps)) : Es K (tCall (spB K Pre Po) [] E (tCons (tVar i) tr)) ds P := fun B W0 M N H0 W σ H F Q q => by
  have ad : ∃ a, σ[i]? = some (some (.ref a)) := by
    obtain ⟨ps, h0 | h0⟩ := h0
    · obtain ⟨a, vs, e, _⟩ := F.st.sl i _ h0; exact ⟨a, getD_of e⟩
    · obtain ⟨a, vs, e, _⟩ := F.st.sl i _ h0; exact ⟨a, getD_of e⟩
  obtain ⟨a, ea⟩ := ad
  refine ⟨.ref a, ea, h B W0 M N H0 W σ H F _ fun us H1 W1 xs ds1 ⟨ps, pre, hp⟩ F1 r1 => ?_⟩
  show spB K Pre Po ((.ref a :: us) ++ []) H1 Q E
  rw [List.append_nil]
  rcases hp with ⟨hs, hp⟩ | ⟨hs, hp⟩
  · obtain ⟨b, ws, e, bW, bN, hb, rb⟩ := F1.st.sl i _ hs
    have eb : a = b := by rw [ea] at e; exact V.ref.inj (Option.some.inj e)
    subst eb
    refine ⟨W1, a, us, ws, ps, xs, rfl, F1.st.al, bW, hb, rb, r1, pre, fun v H' ws' d ps' po k hb' rb' rv => q v H' W1 d _ (hp d ps' po) (F1.mutE (o := .lst ws') (fun c o hc => ?_) hs rfl ea ⟨a, ws', rfl, bW, bN, hb', rb'⟩ rfl (.inr ⟨⟨_, rfl⟩, _, rfl⟩)) rv⟩
    by_cases ec : c = a
    · subst ec; rw [upd_same] at hc; rw [← hc]; exact hb'
    · rw [upd_ne ec] at hc; exact k c o ec hc
  · obtain ⟨b, ws, e, bW, bN, hb, rb⟩ := F1.st.sl i _ hs
    have eb : a = b := by rw [ea] at e; exact V.ref.inj (Option.some.inj e)
    subst eb
    refine ⟨W1, a, us, ws, ps, xs, rfl, F1.st.al, bW, hb, rb, r1, pre, fun v H' ws' d ps' po k hb' rb' rv => q v H' W1 d _ (hp d ps' po) (F1.mutE (o := .lst ws') (fun c o hc => ?_) hs rfl ea ⟨a, ws', rfl, bW, bN, hb', rb'⟩ rfl (.inl ⟨(fun _ z => nomatch z), fun _ z => nomatch z⟩)) rv⟩
    by_cases ec : c = a
    · subst ec; rw [upd_same] at hc; rw [← hc]; exact hb'
    · rw [upd_ne ec] at hc; exact k c o ec hc
theorem es_pop {i : Nat} {P : PyData → List Sl → Prop} (h0 : ∃ xs, ds[i]? = some (.ol xs)) (h : Es K te ds fun d ds1 => ∃ (xs : List PyData) (k : Nat) (x : PyData), d = .int (k : Int) ∧ ds1[i]? = some (.ol xs) ∧ xs[k]? = some x ∧ xs.length ≤ 100000 ∧ P x (ds1.set i (.ol (xs.eraseIdx k)))) :
    Es K (tBM K "list" rPopAt (tVar i) (tCons te tNil)) ds P := fun B W0 M N H0 W σ H F Q q => by
  obtain ⟨ys, h0⟩ := h0
  obtain ⟨a, vs, e, _, _, hH, _⟩ := F.st.sl i _ h0
  have ea := getD_of e
  refine ⟨.ref a, ea, .inl ⟨rfl, vs, .inl (.inl hH)⟩, h B W0 M N H0 W σ H F _ fun v H1 W1 d ds1 ⟨xs, k, x, ed, hs, hx, hl, p⟩ F1 r1 => ?_⟩
  subst ed
  cases r1
  obtain ⟨b, ws, e, bW, bN, hb, rb⟩ := F1.st.sl i _ hs
  have eb : a = b := by rw [ea] at e; exact V.ref.inj (Option.some.inj e)
  subst eb
  obtain ⟨w, hw, rw'⟩ := rb.get' hx
  have kl : k < ws.length := (List.getElem?_eq_some_iff.mp hw).1
  have sl : ws.length ≤ 100000 := by rw [rb.length]; exact hl
  refine ⟨a, ws, k, k, w, rfl, rfl, hb, by omega, by omega, ?_, hw, ?_⟩
  · unfold seqIndex?
    have h0 : ¬ ((k : Int) < 0) := by omega
    simp only [if_neg h0]
    rw [if_pos (by simp only [Bool.and_eq_true, decide_eq_true_eq]; omega)]
    simp
  · refine q w _ W1 x _ p (F1.mut hs rfl ea ⟨a, ws.eraseIdx k, rfl, bW, bN, upd_same, by rw [cut_upd bW]; exact rb.erase k⟩ rfl (.inl ⟨(fun _ z => nomatch z), fun _ z => nomatch z⟩)) (by rw [cut_upd bW]; exact rw')

/-! ### statements -/
theorem sx_setE {i : Nat} (h : Es K te ds fun d ds' => i < ds'.length ∧ P.nx (ds'.set i (.pu d))) : Sx K (tAsg te (gName i)) ds P := fun B W0 M N H0 W σ H F D m =>
  h B W0 M N H0 W σ H F _ fun v H' W' d ds' ⟨hi, p⟩ F' r => m.nx W' _ H' _ p (F'.set hi (Ex.refl _) (s := .pu d) ⟨rfl, r⟩)
theorem sx_parE {i j : Nat} (h : Eas K tr ds fun xs ds' => ∃ x y, xs = [x, y] ∧ i < ds'.length ∧ j < ds'.length ∧ P.nx ((ds'.set i (.pu x)).set j (.pu y))) : Sx K (tPar i j tr) ds P := fun B W0 M N H0 W σ H F D m =>
  h B W0 M N H0 W σ H F _ fun vs H' W' xs ds' ⟨x, y, e, hi, hj, p⟩ F' r => by
    subst e
    cases r with
    | cons r1 r =>
      cases r with
      | cons r2 r =>
        cases r
        exact ⟨_, _, rfl, m.nx W' _ H' _ p ((F'.set hi (Ex.refl _) (s := .pu x) ⟨rfl, r1⟩).set (set_len hj) (Ex.refl _) (s := .pu y) ⟨rfl, r2⟩)⟩
theorem sx_retE (h : Es K te ds fun d ds' => P.rt d ds') : Sx K (tRet te) ds P := fun B W0 M N H0 W σ H F D m =>
  h B W0 M N H0 W σ H F _ fun v H' W' d ds' p F' r => m.rt W' σ H' ds' v d p F' r
theorem sx_dropE (h : Es K te ds fun d ds' => P.nx ds') : Sx K (tDrop te) ds P := fun B W0 M N H0 W σ H F D m =>
  h B W0 M N H0 W σ H F _ fun v H' W' d ds' p F' r => m.nx W' σ H' ds' p F'
theorem sx_un2E {i j : Nat} (h : Es K te ds fun d ds' => ∃ x y, d = .tuple [x, y] ∧ i < ds'.length ∧ j < ds'.length ∧ P.nx ((ds'.set i (.pu x)).set j (.pu y))) :
    Sx K (tAsg te (gTup K 2 (gCons (gName i) (gCons (gName j) gNil)))) ds P := fun B W0 M N H0 W σ H F D m =>
  h B W0 M N H0 W σ H F _ fun v H' W' d ds' ⟨x, y, e, hi, hj, p⟩ F' r => by
    subst e
    cases r with
    | tup hs r =>
      cases r with
      | cons r1 r =>
        cases r with
        | cons r2 r =>
          cases r
          exact ⟨_, _, rfl, .inl (.inl (cut_ex _ _ hs)), rfl, _, _, rfl, _, _, rfl, rfl, m.nx W' _ H' _ p ((F'.set hi (Ex.refl _) (s := .pu x) ⟨rfl, r1⟩).set (set_len hj) (Ex.refl _) (s := .pu y) ⟨rfl, r2⟩)⟩
theorem sx_ifE (h : Ets K tt ds fun b ds' => (b = true → Sx K t ds' P) ∧ (b = false → Sx K u ds' P)) : Sx K (tIfS tt t u) ds P := fun B W0 M N H0 W σ H F D m =>
  h B W0 M N H0 W σ H F _ fun b H' W' ds' ⟨h1, h2⟩ F' => by
    cases b with
    | true =>
      show t D σ H'
      exact h1 rfl B W0 M N H0 W' σ H' F' D m
    | false =>
      show u D σ H'
      exact h2 rfl B W0 M N H0 W' σ H' F' D m
theorem sx_appE {i : Nat} (h0 : ∃ xs, ds[i]? = some (.ol xs)) (h : Es K te ds fun d ds1 => ∃ xs, ds1[i]? = some (.ol xs) ∧ xs.length < 100000 ∧ P.nx (ds1.set i (.ol (xs ++ [d])))) :
    Sx K (tDrop (tBM K "list" rAppend (tVar i) (tCons te tNil))) ds P := fun B W0 M N H0 W σ H F D m => by
  obtain ⟨ys, h0⟩ := h0
  obtain ⟨a, vs, e, _, _, hH, _⟩ := F.st.sl i _ h0
  have ea := getD_of e
  refine ⟨.ref a, ea, .inl ⟨rfl, vs, .inl (.inl hH)⟩, h B W0 M N H0 W σ H F _ fun v H1 W1 d ds1 ⟨xs, hs, hl, p⟩ F1 r1 => ?_⟩
  obtain ⟨b, ws, e, bW, bN, hb, rb⟩ := F1.st.sl i _ hs
  have eb : a = b := by rw [ea] at e; exact V.ref.inj (Option.some.inj e)
  subst eb
  refine ⟨a, ws, v, rfl, rfl, hb, by rw [rb.length]; exact sz_lt hl, ?_⟩
  refine m.nx W1 σ _ _ p (F1.mut hs rfl ea ⟨a, ws ++ [v], rfl, bW, bN, upd_same, ?_⟩ rfl (.inl ⟨(fun _ q => nomatch q), fun _ q => nomatch q⟩))
  rw [cut_upd bW]
  exact rb.append (.one r1)
/-- for over range(n), n's value changing slots -/
theorem sx_forR {g : TG} {ta' : TA} (h : Eas K tr ds fun xs ds' => ∃ n : Int, xs = [.int n] ∧ -100000 ≤ n ∧ n ≤ 100000 ∧ Sx K (tFor (iRng1 (tCons (tC (.int n)) tNil)) g t) ds' P) : Sx K (tFor (iRng1 tr) g t) ds P := fun B W0 M N H0 W σ H F D m =>
  h B W0 M N H0 W σ H F _ fun vs H' W' xs ds' ⟨n, e, l1, l2, s⟩ F' r => by
    subst e
    cases r with
    | cons r1 r =>
      cases r; cases r1
      have q := s B W0 M N H0 W' σ H' F' D m
      obtain ⟨j, e, b1, b2, q⟩ := q
      cases e
      exact ⟨n, rfl, b1, b2, q⟩
/-! a, b = x, y, where a name is a cell: by a tuple -/
theorem sx_tpar2 {i j : Nat} {s1 s2 : Sl} (h1 : Ek K ta ds s1) (h2 : Ek K tb ds s2) (hi : i < ds.length) (hj : j < ds.length) (k : P.nx ((ds.set i s1).set j s2)) :
    Sx K (tAsg (tTup (tCons ta (tCons tb tNil))) (gTup K 2 (gCons (gName i) (gCons (gName j) gNil)))) ds P := fun B W0 M N H0 W σ H F D m =>
  h1 W N σ H F.st _ fun v H1 e1 p1 => by
    obtain ⟨W1, p1⟩ := p1 W0
    refine h2 W1 N σ H1 (F.st.puts e1 p1) _ fun w H2 e2 p2 => ?_
    obtain ⟨W2, p2⟩ := p2 W0
    refine ⟨by show 2 ≤ sizeLine; decide, fun p hp => ⟨p, _, rfl, .inl (.inl upd_same), rfl, _, _, rfl, _, _, rfl, rfl, ?_⟩⟩
    exact m.nx _ _ _ _ k (((F.set hi e1 p1).set (set_len hj) e2 p2).ex (Ex.new hp))
theorem sx_tpar3 {i j l : Nat} {s1 s2 s3 : Sl} (h1 : Ek K ta ds s1) (h2 : Ek K tb ds s2) (h3 : Ek K te ds s3) (hi : i < ds.length) (hj : j < ds.length) (hl : l < ds.length) (k : P.nx (((ds.set i s1).set j s2).set l s3)) :
    Sx K (tAsg (tTup (tCons ta (tCons tb (tCons te tNil)))) (gTup K 3 (gCons (gName i) (gCons (gName j) (gCons (gName l) gNil))))) ds P := fun B W0 M N H0 W σ H F D m =>
  h1 W N σ H F.st _ fun v H1 e1 p1 => by
    obtain ⟨W1, p1⟩ := p1 W0
    refine h2 W1 N σ H1 (F.st.puts e1 p1) _ fun w H2 e2 p2 => ?_
    obtain ⟨W2, p2⟩ := p2 W0
    refine h3 W2 N σ H2 ((F.st.puts e1 p1).puts e2 p2) _ fun u H3 e3 p3 => ?_
    obtain ⟨W3, p3⟩ := p3 W0
    refine ⟨by show 3 ≤ sizeLine; decide, fun p hp => ⟨p, _, rfl, .inl (.inl upd_same), rfl, _, _, rfl, _, _, rfl, _, _, rfl, rfl, ?_⟩⟩
    exact m.nx _ _ _ _ k ((((F.set hi e1 p1).set (set_len hj) e2 p2).set (set_len (set_len hl)) e3 p3).ex (Ex.new hp))
theorem sx_tpar2E {i j : Nat} (h : Eas K tr ds fun xs ds' => ∃ x y, xs = [x, y] ∧ i < ds'.length ∧ j < ds'.length ∧ P.nx ((ds'.set i (.pu x)).set j (.pu y))) :
    Sx K (tAsg (tTup tr) (gTup K 2 (gCons (gName i) (gCons (gName j) gNil)))) ds P := sx_un2E (es_tup fun B W0 M N H0 W σ H F Q q => h B W0 M N H0 W σ H F Q fun vs H' W' xs ds' ⟨x, y, e, r⟩ => q vs H' W' xs ds' ⟨by rw [e]; show 2 ≤ 100000; decide, x, y, by rw [e], r⟩)
end
end L3
end

section
set_option Elab.async false
set_option linter.all false
set_option maxRecDepth 100000
set_option maxHeartbeats 3200000
set_option autoImplicit false
/-! set(x) of a list or a tuple, told by any table; of whole numbers, of unlike texts; sorted of it, len of it. -/
namespace L3
open PySem PySem.Spec PyProof.Rows

abbrev freshSet (w : World) : Obj := { cls := .type "set", dict := none, data := .set #[] 0 (.fresh 0 0 (!w.params.followText "set-order")) }
section
variable {P : Program} {w : World} {A : Around} {E : Value → Shared → Prop} {s : Shared}
/-- a table that is filled one by one -/
structure Fill (P : Program) (w : World) (S : Addr) (items : Array Value) (Tab : Nat → Heap → Prop) : Prop where
  new : ∀ h, h.get? S = some (freshSet w) → Tab 0 h
  keep : ∀ i h h', Tab i h → (∀ o, h.get? S = some o → h'.get? S = some o) → Tab i h'
  add : ∀ (A : Around) (E : Value → Shared → Prop) (Q : Bool → Shared → Prop) (i : Nat) (v : Value) (s : Shared), items[i]? = some v → Tab i s.heap →
    (∀ b h' tk, s.toks ≤ tk → Heap.SameBut S s.heap h' → Tab (i + 1) h' → Q b { s with heap := h', toks := tk }) → wpAny (model P w) A (setAdd S v) Q E s
theorem fill_loop {I S : Addr} {fp wr : List Addr} {G : Array GenState → Array GenState → Prop} {items : Array Value} {Tab : Nat → Heap → Prop} {St : Nat → Shared → Prop} {R : Result → Shared → Prop}
    (W : WalksS P w A.in1 I fp wr G items.size (fun i v => items[i]? = some v) St) (T : Fill P w S items Tab) (hS : S ∉ fp) :
    ∀ (k i : Nat) (s : Shared), k + i = items.size → St i s → Tab i s.heap → (∀ s', Moved (S :: wr) G s s' → Tab items.size s'.heap → R (.ok (.ret .none)) s') →
      codeAny (model P w) A (.builtin "set.update.loop" ⟨[.ref S, .ref I], []⟩) R s := by
  have hw : S ∉ wr := fun h => hS (W.sub _ h)
  intro k
  induction k with
  | zero =>
    intro i s e hst tab hR
    obtain rfl : i = items.size := by omega
    refine codeAny_builtin F.entry_set_update_loop ?_
    rw [Around.under_plainId F.plain_set_update_loop _]
    show wpAny _ A.in1 (pyNext (.ref I) >>= _) _ _ s
    exact wpAny_bind (W.done s _ _ hst fun s' m => wpAny_pure (hR s' (m.mono fun b hb => List.mem_cons_of_mem _ hb) (T.keep _ _ _ tab fun o ho => m.heap S o hw ho)))
  | succ k ih =>
    intro i s e hst tab hR
    refine codeAny_builtin F.entry_set_update_loop ?_
    rw [Around.under_plainId F.plain_set_update_loop _]
    show wpAny _ A.in1 (pyNext (.ref I) >>= _) _ _ s
    refine wpAny_bind (W.item i s _ _ (by omega) hst fun v s1 hv st1 m1 => ?_)
    show wpAny _ A.in1 (holding [v] (setAdd S v) >>= _) _ _ s1
    refine wpAny_bind (wpAny_holding (T.add _ _ _ i v s1 hv (T.keep _ _ _ tab fun o ho => m1.heap S o hw ho) fun b h2 tk le sb tab2 => ?_))
    have old : ∀ c o, c ≠ S → s1.heap.get? c = some o → h2.get? c = some o := fun c o hc ho => (sb.2 c hc).trans ho
    refine wpAny_pure ⟨plainId_quiet F.plain_set_update_loop _, ih (i + 1) _ (by omega) (W.frame _ s1 h2 tk st1 le fun c hc o ho => old c o (fun z => hS (z ▸ hc)) ho) tab2 fun s3 m3 tab3 => hR s3 (Moved.trans W.gtrans ((m1.mono fun b hb => List.mem_cons_of_mem _ hb).then_heap le fun c o hc ho => old c o (fun z => hc (z ▸ List.mem_cons_self)) ho) m3) tab3⟩

/-- set(x) -/
theorem call_set_of (k : Kd) {l : Addr} {items : Array Value} {Tab : Nat → Heap → Prop} {Q : Value → Shared → Prop} (hh : A.handled = none) (hl : k.is s.heap l items) (T : Fill P w s.heap.objs.size items Tab)
    (h : ∀ (h' : Heap) (tk : Nat), Tab items.size h' → (∀ b o, s.heap.get? b = some o → h'.get? b = some o) → Q (.ref s.heap.objs.size) { s with heap := h', toks := tk }) :
    wpAny (model P w) A (call (.type "set") [.ref l]) Q E s := by
  obtain ⟨c, tl, hmro⟩ := F.called_set.mro
  have hmade := F.called_set.made
  have hsub := F.called_set.sub
  refine wpAny_call (codeAny_of_tree ?_)
  show wpAny _ _ (callAny (.type "set") _) _ _ _
  refine wpAny_pure ⟨Code.quiet_builtin _ (by decide +kernel), codeAny_builtin F.entry_type_call ?_⟩
  rw [Around.under_plain (weight_type_call_type "set" [.ref l] []) rfl]
  have h1 := F.called_set.notType
  have h2 := F.called_set.canCreate
  have hct := F.typeCall_set_1 (.ref l)
  repeat (any_goals (first | assumption | wp_step))
  refine codeAny_mono (L2.code_set_led1 (.ref l) (E := E) (Q₁ := fun o s₁ => o = .ref s.heap.objs.size ∧ s₁ = { s with heap := s.heap.push (freshSet w) }) ⟨rfl, rfl⟩) fun r s₁ hr => ?_
  cases r with
  | error e => exact hr
  | ok fl =>
    cases fl with
    | ret obj =>
      obtain ⟨rfl, rfl⟩ := hr
      have hS : (s.heap.push (freshSet w)).get? s.heap.objs.size = some (freshSet w) := Heap.get?_push_size _ rfl
      have hT : Shared.TypeIs { s with heap := s.heap.push (freshSet w) } (.ref s.heap.objs.size) "set" := ⟨_, hS, rfl⟩
      have hli := F.called_set.init.lookup
      have hbi := F.called_set.init.bind (.ref s.heap.objs.size)
      repeat (any_goals (first | assumption | wp_step))
      refine codeAny_mono (codeAny_call_builtin (R := wants (fun r s₂ => r = .none ∧ ∃ h' tk, s₂ = { s with heap := h', toks := tk } ∧ Tab items.size h' ∧ ∀ b o, s.heap.get? b = some o → h'.get? b = some o) E) F.called_set.init.plain F.entry_set_init (check_set_init_1 hT ?_)) fun r₂ s₂ hr₂ => ?_
      · have hlt : l < s.heap.objs.size := by
          cases k with
          | l => obtain ⟨_, e, _⟩ := hl; exact Heap.lt_size e
          | t => obtain ⟨_, e, _⟩ := hl; exact Heap.lt_size e
        have hz : (s.heap.push (freshSet w)).objs.size = s.heap.objs.size + 1 := Heap.size_push ..
        have hneI : l ≠ (s.heap.push (freshSet w)).objs.size := by rw [hz]; exact Nat.ne_of_lt (Nat.lt_succ_of_lt hlt)
        have hSf : s.heap.objs.size ∉ [(s.heap.push (freshSet w)).objs.size, l] := by
          rw [hz]
          simp only [List.mem_cons, List.not_mem_nil, or_false, not_or]
          exact ⟨Nat.ne_of_lt (Nat.lt_succ_self _), Nat.ne_of_gt hlt⟩
        have hh3 : A.in1.in1.in1.handled = none := by simp [hh]
        have fin : ∀ s', Moved (s.heap.objs.size :: [(s.heap.push (freshSet w)).objs.size]) (fun a b => b = a) { s with heap := (s.heap.push (freshSet w)).push (k.obj l) } s' → Tab items.size s'.heap →
            ∃ h' tk, s' = { s with heap := h', toks := tk } ∧ Tab items.size h' ∧ ∀ b o, s.heap.get? b = some o → h'.get? b = some o := fun s' m tab => by
          refine ⟨s'.heap, s'.toks, ?_, tab, fun b o e => ?_⟩
          · obtain ⟨hp, g, d, tk, os⟩ := s'
            have eg : g = s.gens := m.gens
            have ed : d = s.drawn := m.drawn
            have eo : os = s.os := m.os
            subst eg ed eo
            rfl
          · have hb : b < s.heap.objs.size := Heap.lt_size e
            refine m.heap b o ?_ (Heap.get?_push_of_some _ (Heap.get?_push_of_some _ e))
            rw [hz]
            simp only [List.mem_cons, List.not_mem_nil, or_false, not_or]
            exact ⟨Nat.ne_of_lt hb, Nat.ne_of_lt (Nat.lt_succ_of_lt hb)⟩
        have tab0 : Tab 0 ((s.heap.push (freshSet w)).push (k.obj l)) := T.new _ (Heap.get?_push_of_some _ hS)
        cases k with
        | l =>
          obtain ⟨⟨ocls, odict, odata, oslots⟩, hol, hcl, nl, hdl⟩ := hl
          simp only at hcl hdl
          subst hcl hdl
          have hol' : (s.heap.push (freshSet w)).get? l = some { cls := .type "list", dict := odict, data := .seq items nl, slots := oslots } := Heap.get?_push_of_some _ hol
          have f1 := F.sub_list_set
          have f2 := F.sub_list_frozenset
          have f3 : (Value.type "list" == Value.type "dict") = false := by decide
          have hl1 : (s.heap.push (freshSet w)).IsList l items := ⟨_, hol', rfl, nl, rfl⟩
          unfold Builtin.«set.__init__» noKeywords Builtin.Frozenset.updateFrom
          generalize hPI : pyIter = PI
          wp_walk
          subst hPI
          refine wpAny_pyIter_list hl1 (wpAny_bind (wpAny_runValue ?_))
          refine fill_loop ((Walks.list hh3 _ l hneI items).toS) T hSf items.size 0 _ rfl ⟨⟨_, Heap.get?_push_size _ rfl, rfl, rfl⟩, hl1.push _⟩ tab0 fun s' m tab => ?_
          show wpAny _ _ _ _ _ _
          refine wpAny_pure ?_
          show wpAny _ _ (ret Value.none) _ _ _
          exact wpAny_pure ⟨rfl, fin s' (m.mono fun b hb => by simpa using hb) tab⟩
        | t =>
          obtain ⟨⟨ocls, odict, odata, oslots⟩, hol, hcl, nl, hdl⟩ := hl
          simp only at hcl hdl
          subst hcl hdl
          have hol' : (s.heap.push (freshSet w)).get? l = some { cls := .type "tuple", dict := odict, data := .seq items nl, slots := oslots } := Heap.get?_push_of_some _ hol
          have f1 := F.sub_tuple_set
          have f2 := F.sub_tuple_frozenset
          have f3 : (Value.type "tuple" == Value.type "dict") = false := by decide
          have hl1 : (s.heap.push (freshSet w)).IsTuple l items := ⟨_, hol', rfl, nl, rfl⟩
          unfold Builtin.«set.__init__» noKeywords Builtin.Frozenset.updateFrom
          generalize hPI : pyIter = PI
          wp_walk
          subst hPI
          refine wpAny_pyIter_tuple hl1 (wpAny_bind (wpAny_runValue ?_))
          refine fill_loop ((Walks.tuple hh3 _ l hneI items).toS) T hSf items.size 0 _ rfl ⟨⟨_, Heap.get?_push_size _ rfl, rfl, rfl⟩, hl1.push _⟩ tab0 fun s' m tab => ?_
          show wpAny _ _ _ _ _ _
          refine wpAny_pure ?_
          show wpAny _ _ (ret Value.none) _ _ _
          exact wpAny_pure ⟨rfl, fin s' (m.mono fun b hb => by simpa using hb) tab⟩
      · cases r₂ with
        | error e => exact hr₂
        | ok fl₂ =>
          cases fl₂ with
          | ret r =>
            obtain ⟨rfl, h', tk, rfl, tab, hk⟩ := hr₂
            repeat (any_goals (first | assumption | wp_step))
            exact h _ _ tab hk
          | _ => exact hr₂.elim
    | _ => exact hr.elim

/-! the tables -/
theorem fill_ints {S : Addr} {items : Array Value} {ns : List Int} (hi : IntsAre items.toList ns) (hb : ns.length + 1 < scanBound) : Fill P w S items (fun i h => ∃ c, c ≤ i ∧ L2.SetR w h S (fun j => decide (j ∈ ns.take i)) c) where
  new := fun h e => ⟨0, Nat.le_refl 0, L2.setR_new_at e⟩
  keep := fun i h h' ⟨c, hc, r⟩ k => ⟨c, hc, r.at k⟩
  add := fun A E Q i v s hv ⟨c, hc, r⟩ q => by
    obtain ⟨t, e⟩ := IntsAre.int_at hi i v (by rw [Array.getElem?_toList]; exact hv)
    have hlen : items.size = ns.length := by
      have z := IntsAre.length hi
      rw [Array.length_toList] at z
      exact z
    have hil : i < ns.length := by rw [← hlen]; exact (Array.getElem?_eq_some_iff.mp hv).1
    have hz : ns[i]? = some (ns.getD i 0) := by rw [List.getD_eq_getElem?_getD, List.getElem?_eq_getElem hil]; rfl
    subst e
    unfold setAdd
    refine wpAny_holding (wpAny_bind ((intKind P w).pyHash (k := ns.getD i 0) (intKind_is _ _ _ _) ?_))
    refine L2.setR_add_hashed (s := { s with toks := s.toks + 1 }) r (by omega) fun h' sb r2 => q _ h' (s.toks + 1) (Nat.le_succ _) sb ⟨_, ?_, r2.congr fun j => ?_⟩
    · split <;> omega
    · rw [List.take_add_one, hz]
      simp [List.mem_append]
theorem fill_strs {S : Addr} {items : Array Value} {xs : List Str} (hi : StrsAre items.toList xs) (nd : xs.Nodup) (hb : xs.length + 1 < scanBound) : Fill P w S items (fun i h => h.SetOf (PySem.strKind P w) S (fun k => decide (k ∈ xs.take i)) i) where
  new := fun h e => SetOf_congr ((setObjOf_fresh (knd := PySem.strKind P w) (!w.params.followText "set-order")).setOf e (by unfold scanBound; omega)) (fun _ => by simp) rfl
  keep := fun i h h' r k => by
    obtain ⟨o, es, ep, t, ho, r⟩ := r
    exact ⟨o, es, ep, t, k o ho, r⟩
  add := fun A E Q i v s hv r q => by
    obtain ⟨t, e⟩ := SS.strs_at hi i v (by rw [Array.getElem?_toList]; exact hv)
    have hlen : items.size = xs.length := by rw [← StrsAre.len_eq hi, Array.length_toList]
    have hil : i < xs.length := by rw [← hlen]; exact (Array.getElem?_eq_some_iff.mp hv).1
    have hz : xs[i]? = some (xs.getD i Str.empty) := by rw [List.getD_eq_getElem?_getD, List.getElem?_eq_getElem hil]; rfl
    have hn : xs.getD i Str.empty ∉ xs.take i := fun m => by
      obtain ⟨j, hj, ej⟩ := List.getElem_of_mem m
      rw [List.length_take] at hj
      rw [List.getElem_take] at ej
      have e1 : xs[i] = xs.getD i Str.empty := by rw [List.getD_eq_getElem?_getD, List.getElem?_eq_getElem hil]; rfl
      have := (List.getElem_inj nd (h₀ := by omega) (h₁ := hil)).mp (ej.trans e1.symm)
      omega
    subst e
    unfold setAdd
    refine wpAny_holding (wpAny_bind ((PySem.strKind P w).pyHash (k := xs.getD i Str.empty) (strKind_is _ _ _ _) ?_))
    refine wpAny_setAddHashed_of (knd := PySem.strKind P w) (s := { s with toks := s.toks + 1 }) (strKind_is _ _ _ _) rfl r (by omega) fun h' sb r2 => q _ h' (s.toks + 1) (Nat.le_succ _) sb (SetOf_congr r2 (fun k => ?_) ?_)
    · rw [List.take_add_one, hz]
      simp [List.mem_append]
    · rw [if_neg (by rw [decide_eq_false hn]; exact Bool.false_ne_true)]
end
end L3
end

section
set_option Elab.async false
set_option linter.all false
set_option maxRecDepth 100000
set_option maxHeartbeats 3200000
set_option autoImplicit false
/-! enumerate of a list or a tuple; a tuple turned about; sets as values. -/
namespace L3
open PySem L2

theorem meets_enum1 {v : Value} {o : Obj} {J : Heap → Prop} (B : Begins v o J) :
    PySem.Meets (Builtin.«enumerate.__new__» ⟨[.type "enumerate", v], []⟩) (fun _ R s => J s.heap ∧
      R (.ok (.ret (.ref (s.heap.push o).objs.size))) { s with heap := (s.heap.push o).push { cls := .type "enumerate", data := .fields #[.none, .bool false, .ref s.heap.objs.size, rawInt 0, .none, .none] } }) :=
  .of_wp fun prog w A R s h => by
    obtain ⟨hp, g, d, tk, os⟩ := s
    obtain ⟨h1, h⟩ := h
    have hsub := sub_enumerate
    have begin' : ∀ {A' : Around} {E : Value → Shared → Prop} {Q : Value → Shared → Prop}, Q (.ref hp.objs.size) ⟨hp.push o, g, d, tk, os⟩ → wpAny (model prog w) A' (pyIter v) Q E ⟨hp, g, d, tk, os⟩ :=
      fun q => B.iter prog w _ _ ⟨hp, g, d, tk, os⟩ _ h1 q
    wp_walk using begin'
    refine wpAny_stack_any fun st => wpAny_pure ?_
    split
    · rename_i c _ _ _ _ _
      cases (c == Value.type "enumerate") <;>
      · wp_walk using begin'
        exact ⟨_, rfl, h⟩
    · wp_walk using begin'
      exact ⟨_, rfl, h⟩
section
variable {prog : Program} {w : World} {A : Around} {E : Value → Shared → Prop} {s : Shared}
theorem enum1 {v : Value} {o : Obj} {J : Heap → Prop} {Q : Value → Shared → Prop} (B : Begins v o J) (h1 : J s.heap)
    (h : ∀ h', IsEnum h' (s.heap.objs.size + 1) s.heap.objs.size 0 .none → h'.get? s.heap.objs.size = some o → (∀ b u, s.heap.get? b = some u → h'.get? b = some u) → Q (.ref (s.heap.objs.size + 1)) { s with heap := h' }) :
    wpAny (model prog w) A (call (.type "enumerate") [v]) Q E s := by
  refine callType_new F.called_enumerate (by decide) (F.typeCall_enumerate_1 _) (F.newCall_enumerate_1 _) (fun obj => F.args_object_init_2 obj _) F.entry_enumerate_new (meets_enum1 B) ⟨h1, ?_⟩
  have hz : (s.heap.push o).objs.size = s.heap.objs.size + 1 := Heap.size_push ..
  show _ ∧ _
  rw [hz]
  have he : IsEnum ((s.heap.push o).push { cls := .type "enumerate", data := .fields #[.none, .bool false, .ref s.heap.objs.size, rawInt 0, .none, .none] }) (s.heap.objs.size + 1) s.heap.objs.size 0 .none := by
    have q := Heap.get?_push_size (s.heap.push o) (o := { cls := .type "enumerate", data := .fields #[.none, .bool false, .ref s.heap.objs.size, rawInt 0, .none, .none] }) rfl
    rw [hz] at q
    exact q
  exact ⟨⟨_, he, rfl⟩, h _ he (Heap.get?_push_of_some _ (Heap.get?_push_size _ B.free)) fun b u x => Heap.get?_push_of_some _ (Heap.get?_push_of_some _ x)⟩
end
def ItE (K : PySem.W.Frag) (k : Kd) (a : Addr) : It :=
  ⟨fun i H => ∃ (xs : List V) (x : V), k.sq K H a xs ∧ xs[i]? = some x,
    fun i H v H' => ∃ T x, v = .ref T ∧ H T = none ∧ H' = upd H T (.tup [.int (i : Nat), x]) ∧ ∀ xs, k.sq K H a xs → xs[i]? = some x,
    fun i H => ∃ xs : List V, k.sq K H a xs ∧ i = xs.length⟩
theorem turn_e {P : Program} {w : World} {K : PySem.W.Frag} {elts : List Expr} {kk : Nat} {tpos : Pos} {k : Kd} {a e it : Addr} (hae : a ≠ it) (hne : e ≠ it) (hea : e ≠ a) :
    Turn P w K (.Tuple elts kk tpos) (ItE K k a) [e, it] e (fun i h => (∃ old, IsEnum h e it ((i : Nat) : Int) old) ∧ k.it h it a i) where
  mem := by simp
  obj := fun i h st b hb => by
    obtain ⟨⟨old, he⟩, h1⟩ := st
    have e' : b = e ∨ b = it := by simpa using hb
    rcases e' with z | z
    · rw [z]; exact ⟨_, he, fun v q => nomatch q⟩
    · rw [z]; exact Kd.it_obj h1
  keep := fun i h h' st kp => by
    obtain ⟨⟨old, he⟩, h1⟩ := st
    exact ⟨⟨old, kp e (by simp) _ he⟩, Kd.it_at h1 fun o q => kp it (by simp) o q⟩
  item := by
    intro X hP hw hK hc i pins s σ H E I hf st hg
    subst hP hw hK
    obtain ⟨⟨old, he⟩, h1⟩ := st
    obtain ⟨xs, x, hq, hx⟩ := hg
    obtain ⟨its, rv, p, _⟩ := k.of_inv I hq
    obtain ⟨u, hu, ru⟩ := rv.get hx
    have lt : i < its.toArray.size := by simpa using (List.getElem?_eq_some_iff.mp hu).1
    have hel : e < s.heap.objs.size := Heap.lt_size he
    have hil : it < s.heap.objs.size := by obtain ⟨_, q, _⟩ := Kd.it_obj h1; exact Heap.lt_size q
    refine wpAny_pyNext_enum_itemD (k.draws (A := X.A.in1) (I.ok.hd hc) it a hae its.toArray) he ⟨h1, p⟩ lt hne (fun z => by
      rcases List.mem_cons.mp z with z | z
      · exact hne z
      · exact hea (List.mem_singleton.mp z)) fun v h' tk hv ho d1 hT hsz hk => ?_
    have ev : v = u := by
      have q : its[i]? = some v := by simpa using hv
      exact Option.some.inj (q.symm.trans hu)
    subst ev
    refine ⟨_, rfl, wpAny_letOwnedTupleGo_enum (s := { s with heap := h', toks := tk + 1 }) ho fun h'' he' sb => ?_⟩
    have hT2 : h''.get? s.heap.objs.size = some { cls := .type "tuple", data := .seq #[.int i tk, v] } := (sb.2 _ (Nat.ne_of_gt hel)).trans hT
    have new : ObjOk X.prog X.w (upd H s.heap.objs.size (.tup [.int (i : Nat), x])) h'' s.heap.objs.size (.tup [.int (i : Nat), x]) :=
      ⟨by show 2 ≤ sizeLine; decide, [.int i tk, v], .cons ⟨_, rfl⟩ (.cons ru .nil), ⟨_, hT2, rfl, _, rfl⟩⟩
    have I1 : Inv X pins σ (upd H s.heap.objs.size (.tup [.int (i : Nat), x])) { s with heap := h'', toks := tk + 1 } :=
      I.turnedNew (ch := [e, it]) (fun b ob hb q => (sb.2 b (fun z => hb (by simp [z]))).trans (hk b ob (fun z => hb (by simp [z])) (fun z => hb (by simp [z])) q)) hf (Nat.le_refl _) new
    refine ⟨.ref s.heap.objs.size, _, I1, rfl, ⟨_, x, rfl, I.hok.fresh (Nat.le_refl _), rfl, fun ys hy => by rw [k.inj I hy hq]; exact hx⟩, ⟨⟨v, ?_⟩, Kd.it_at d1.1 fun o q => (sb.2 it (Ne.symm hne)).trans q⟩, fun b hb => ?_⟩
    · have e1 : ((i + 1 : Nat) : Int) = (i : Int) + 1 := by omega
      rw [e1]
      exact he'
    · have hb' : b < s.heap.objs.size := by
        have e' : b = e ∨ b = it := by simpa using hb
        rcases e' with z | z
        · rw [z]; exact hel
        · rw [z]; exact hil
      rw [upd_ne (Nat.ne_of_lt hb')]
      exact (hf b hb).1
  done := by
    intro X hP hw hK hc i pins s σ H E I hf st hg
    subst hP hw hK
    obtain ⟨⟨old, he⟩, h1⟩ := st
    obtain ⟨xs, hq, hx⟩ := hg
    obtain ⟨its, rv, p, _⟩ := k.of_inv I hq
    have hn : its.toArray.size = i := by rw [hx, rv.length]; simp
    refine wpAny_pyNext_enum_endD (k.draws (A := X.A.in1) (I.ok.hd hc) it a hae its.toArray) he (by rw [hn]; exact ⟨h1, p⟩) fun h' eb => ⟨rfl, I.turnedL (t' := s.toks) (ch := [e, it]) (fun c o hb q => eb c o (fun z => hb (by simp [z])) q) hf⟩
  self := fun A i s Q E st h => let ⟨⟨_, he⟩, _⟩ := st; wpAny_pyIter_enum he h
def iEn (K : PySem.W.Frag) (ta : TA) : TI := fun σ H R => ta σ H fun vs H1 => ∃ (k : Kd) (a : Addr) (xs : List V), vs = [.ref a] ∧ k.sq K H1 a xs ∧ R (ItE K k a) H1
theorem pi_en {X : Cx} {e : Expr} {ta : TA} {p pos tpos : Pos} {elts : List Expr} {kk : Nat} (hg : Gl X "enumerate") (hm : X.mg "enumerate" = none) (ha : PA X [e] ta) (hs : starEach [e] X.env = [(false, eval e X.env)] := by rfl) :
    PI X (.Tuple elts kk tpos) (.Call (.Name "enumerate" p) [e] [] pos) (iEn X.K ta) := by
  refine ⟨fun pins s σ H R I h => ?_⟩
  refine PyProof.Rows.Call_ (ld_blt I hg hm PyProof.Rows.boot_enumerate (PyProof.Rows.callWith_type1 (thn (ha.run pos pins s σ H _ I h) fun us s1 ⟨vs, H1, I1, r1, q1⟩ => ?_) hs rfl))
  obtain ⟨k, a, xs, ex, hq, q⟩ := q1
  subst ex
  cases r1 with
  | cons r rr =>
    cases rr
    cases r
    obtain ⟨its, rv, p', lt⟩ := k.of_inv I1 hq
    refine enum1 (k.begins a its.toArray) p' fun h' he hit hk => wpAny_pyIter_enum he ?_
    have I2 : Inv X pins σ H1 { s1 with heap := h' } := I1.kept (t' := s1.toks) hk
    refine ⟨s1.heap.objs.size + 1, [s1.heap.objs.size + 1, s1.heap.objs.size], _, _, H1, rfl, I2, turn_e (Nat.ne_of_lt lt) (Nat.succ_ne_self _) (Nat.ne_of_gt (Nat.lt_succ_of_lt lt)), ⟨⟨.none, he⟩, Kd.it_of hit⟩, fun b hb => ?_, q⟩
    have e' : b = s1.heap.objs.size + 1 ∨ b = s1.heap.objs.size := by simpa using hb
    have hle : s1.heap.objs.size ≤ b := by
      rcases e' with z | z
      · rw [z]; exact Nat.le_add_right _ _
      · rw [z]; exact Nat.le_refl _
    exact I1.fpOk hle (I1.hok.fresh hle)

/-! ### a tuple turned about -/
def tRevT (K : PySem.W.Frag) (te : TE) : TE := fun σ H Q => te σ H fun x H1 => ∃ a xs, x = .ref a ∧ SqT K H1 a xs ∧ ∀ p, H1 p = none → Q (.ref p) (upd H1 p (.tup xs.reverse))

/-! ### set, as a value; len of a set of texts -/
def rSetI (K : PySem.W.Frag) (w : World) : List V → Hp → VK → Prop := fun vs H Q => ∃ (k : Kd) (a : Addr) (ns : List Int), vs = [.ref a] ∧ k.sq K H a (ns.map V.int) ∧ ns.length + 1 < scanBound ∧
  ∀ p c, H p = none → c ≤ ns.length → Q (.ref p) (upd H p (SetO w p (fun j => decide (j ∈ ns)) c))
theorem cr_setI {X : Cx} (hc : X.calm = true) : CallR X (.type "set") (rSetI X.K X.w) := by
  intro pins s σ H vs us Q I r h
  obtain ⟨k, a, ns, rfl, hq, hb, q⟩ := h
  rw [Vals.ref1 r]
  obtain ⟨its, rv, p, lt⟩ := k.of_inv I hq
  have hi := rv.ints
  refine call_set_of k (I.ok.hd hc) p (fill_ints (by simpa using hi) hb) fun h' tk ⟨c, hle, R⟩ hk => ?_
  have hsz : its.toArray.size = ns.length := by
    have z := PyProof.Rows.IntsAre.length hi
    simpa using z
  have R2 : SetR X.w h' s.heap.objs.size (fun j => decide (j ∈ ns)) c := R.congr fun j => by rw [hsz, List.take_length]
  exact ⟨.ref _, _, I.laid (t' := tk) (fun b u e => hk b u e) (Nat.le_refl _) (setO_new R2), rfl, q _ c (I.hok.fresh (Nat.le_refl _)) (by omega)⟩
def tLenS (K : PySem.W.Frag) (ta : TE) : TE := fun σ H Q => ta σ H fun x H1 => ∃ (k : Kd) (l : Addr) (xs : List Str), x = .ref l ∧ k.sq K H1 l (xs.map V.str) ∧ xs.Nodup ∧ xs.length ≤ 1000 ∧ Q (.int xs.length) H1
theorem pe_lenS {X : Cx} {a : Expr} {ta : TE} {p p2 q pos : Pos} (hc : X.calm = true) (hg : Gl X "len") (hm : X.mg "len" = none) (hg2 : Gl X "set") (hm2 : X.mg "set" = none) (ha : PE X a ta)
    (na : starEach [a] X.env = (false, eval a X.env) :: starEach [] X.env := by rfl) : PE X (.Call (.Name "len" p) [.Call (.Name "set" p2) [a] [] q] [] pos) (tLenS X.K ta) := by
  refine ⟨fun pins s σ H Q I h => ?_⟩
  refine PyProof.Rows.Call_ (ld_blt I hg hm PySem.boot_len (PyProof.Rows.callWith_builtin1 (PyProof.Rows.args_cons ?_ rfl) rfl rfl))
  refine PyProof.Rows.Call_ (ld_blt I hg2 hm2 PyProof.Rows.boot_set (PyProof.Rows.callWith_type1 (PyProof.Rows.args_cons (thn (ha.run pins s σ H _ I h) fun v s1 ⟨x, H1, I1, r1, q1⟩ => PyProof.Rows.args_nil ?_) na) na rfl))
  obtain ⟨k, l, xs, rfl, hq, nd, h1, q1⟩ := q1
  cases r1
  obtain ⟨its, rv, pk, lt⟩ := k.of_inv I1 hq
  have st := strsAre_of rv
  have hl : its.toArray.size = xs.length := by rw [List.size_toArray, ← rv.length, List.length_map]
  refine call_set_of k (I1.ok.hd hc) pk (fill_strs (by simpa using st) nd (by unfold scanBound; omega)) fun h' tk tab hk => PyProof.Rows.args_nil ?_
  obtain ⟨o, es, ep, t, ho, hex, hd, _, _, _, hf, hn⟩ := tab
  have I2 : Inv X pins σ H1 { s1 with heap := h', toks := tk } := I1.kept fun b o e => hk b o e
  refine call_len_set ho hex hd hf (by rw [hn, hl]; omega) ⟨.int xs.length, H1, I2.tok _, ⟨_, by rw [hn, hl]⟩, q1⟩
end L3
end

section
set_option Elab.async false
set_option linter.all false
set_option maxRecDepth 100000
set_option maxHeartbeats 3200000
set_option autoImplicit false
/-! A tuple turned about; min, max of data; sorted of a dict whose keys are tuples. -/
namespace L3
open PySem L2

theorem rev_pick (items : Array Value) : ((List.range items.size).filterMap fun (k : Nat) => items[(((items.size : Int) - 1) + (k : Int) * (-1)).toNat]?).toArray = items.toList.reverse.toArray := by
  congr 1
  apply List.ext_getElem?
  intro j
  have all : ∀ n, n ≤ items.size → ((List.range n).filterMap fun (k : Nat) => items[(((items.size : Int) - 1) + (k : Int) * (-1)).toNat]?) = items.toList.reverse.take n := by
    intro n
    induction n with
    | zero => intro _; simp
    | succ n ih =>
      intro hn
      have e1 : (((items.size : Int) - 1) + (n : Int) * (-1)).toNat = items.size - 1 - n := by omega
      have hlt : items.size - 1 - n < items.size := by omega
      have hr : n < items.toList.reverse.length := by simp; omega
      rw [List.range_succ, List.filterMap_append, ih (by omega), List.take_add_one, List.getElem?_eq_getElem hr]
      simp only [List.filterMap_cons, List.filterMap_nil, e1, Array.getElem?_eq_getElem hlt, List.getElem_reverse, Option.toList_some, Array.getElem_toList]
      congr 1
  rw [all items.size (Nat.le_refl _), List.take_of_length_le (by simp)]
section
variable {prog : Program} {w : World} {A : Around} {E : Value → Shared → Prop} {s : Shared}
theorem getItem_tuple_rev {t sl : Addr} {items : Array Value} {tk : Tok} {Q : Value → Shared → Prop} (ht : PyProof.Rows.IsTup s.heap t items) (hs : s.heap.IsSliceOf sl .none .none (.int (-1) tk)) (hsz : items.size ≤ sizeLine)
    (h : Q (.ref s.heap.objs.size) { s with heap := s.heap.push { cls := .type "tuple", data := .seq items.toList.reverse.toArray } }) : wpAny (model prog w) A (getItem (.ref t) (.ref sl)) Q E s := by
  obtain ⟨os, hos, hcs, hds⟩ := id hs
  have hTs : s.TypeIs (.ref sl) "slice" := ⟨os, hos, hcs⟩
  unfold getItem
  try with_reducible refine wpAny_holding ?_
  first | refine wpAny_bind (wpAny_pure ?_) | skip
  refine wpAny_bind (wpAny_sequenceKey ht.typeIs (by decide) ?_)
  refine wpAny_bind (wpAny_callSpecial?_slot (name := Str.ofString "__getitem__") ht.typeIs PyProof.Rows.slot_tuple_getitem
    (wpAny_call_entry PyProof.Rows.slot_tuple_getitem ht.typeIs PyProof.Rows.entry_tuple_getitem ?_ (PyProof.Rows.args_tuple_getitem _ _)))
  show wpAny _ _ (Builtin.Tuple.tupleItemsOf (.ref t) >>= _) _ _ s
  refine wpAny_bind (PyProof.Rows.tupleItemsOf_ ht (wpAny_bind (wpAny_typeOf hTs ?_)))
  rw [if_pos (by decide)]
  refine wpAny_bind ?_
  unfold Builtin.Slice.sliceApplied Builtin.Slice.sliceFields
  refine wpAny_bind (wpAny_bind (wpAny_field hos hds (x := .none) rfl (wpAny_bind (wpAny_field hos hds (x := .none) rfl (wpAny_bind (wpAny_field hos hds (x := .int (-1) tk) rfl (wpAny_pure ?_)))))))
  refine wpAny_bind (PyProof.Rows.slicePart_int ?_)
  show wpAny _ _ (if ((-1 : Int) == 0) = true then _ else _) _ _ s
  rw [if_neg (by decide)]
  refine wpAny_bind (PyProof.Rows.slicePart_none (wpAny_bind (PyProof.Rows.slicePart_none (wpAny_bind (wpAny_pure ?_)))))
  show wpAny _ _ (pure (((items.size : Nat) : Int) - 1, (-1 : Int), Builtin.Slice.slicePlaces (((items.size : Nat) : Int) - 1) (-1) (-1))) _ _ s
  have pl : Builtin.Slice.slicePlaces (((items.size : Nat) : Int) - 1) (-1) (-1) = items.size := by
    unfold Builtin.Slice.slicePlaces
    rw [if_neg (by decide)]
    by_cases z : items.size = 0
    · rw [if_neg (by omega), z]; rfl
    · rw [if_pos (by omega)]
      have : ((((items.size : Nat) : Int) - 1 - -1 - 1) / (- -1) + 1) = items.size := by
        have e : (- -1 : Int) = 1 := by decide
        rw [e, Int.ediv_one]
        omega
      rw [this]
      exact Int.toNat_natCast _
  rw [pl]
  refine wpAny_pure ?_
  have hno : ¬ (((((items.size : Nat) : Int) - 1) == 0 && (-1 : Int) == 1 && items.size == items.size) = true) := by
    simp
  show wpAny _ _ (if (((((items.size : Nat) : Int) - 1) == 0 && (-1 : Int) == 1 && items.size == items.size) = true) then _ else _) _ _ s
  rw [if_neg hno, rev_pick]
  have sz : sizeOk (.seq items.toList.reverse.toArray) := by
    show items.toList.reverse.toArray.size ≤ sizeLine
    rw [List.size_toArray, List.length_reverse, Array.length_toList]
    exact hsz
  first
    | exact wpAny_bind (m := Builtin.Tuple.tupleExact _) (wpAny_newObj_type (wpAny_pure ⟨_, rfl, wpAny_pure h⟩) sz)
    | exact wpAny_bind (m := Builtin.Tuple.tupleExact _) (wpAny_newObj_type (wpAny_bind (wpAny_pure (wpAny_pure ⟨_, rfl, wpAny_pure h⟩))) sz)
    | exact wpAny_bind (wpAny_bind (m := Builtin.Tuple.tupleExact _) (wpAny_newObj_type (wpAny_pure (wpAny_pure ⟨_, rfl, wpAny_pure h⟩)) sz))
    | exact wpAny_bind (wpAny_bind (m := Builtin.Tuple.tupleExact _) (wpAny_newObj_type (wpAny_pure ⟨_, rfl, wpAny_pure h⟩) sz))
end
theorem pe_revT {X : Cx} {e : Expr} {te : TE} {k : Nat} {p1 p2 p3 pos : Pos} (he : PE X e te) : PE X (.Subscript e (.Slice none none (some (.UnaryOp .USub (.Constant (.int 1) k p1) p2)) p3) pos) (tRevT X.K te) := by
  refine ⟨fun pins s σ H Q I h => ?_⟩
  refine PyProof.Rows.Subscript_ (thn (he.run pins s σ H _ I h) fun v s1 ⟨x, H1, I1, r1, q1⟩ => ?_)
  obtain ⟨a, xs, ex, hx, q⟩ := q1
  subst ex
  cases r1
  have part : PO X (some (.UnaryOp .USub (.Constant (.int 1) k p1) p2)) (tPart (tUn (rU fun i => .int (-i)) (tC (.int 1)))) := po_some (pe_un un_neg pe_int)
  refine wpAny_Slice (thn (po_none.run pins s1 σ H1 (fun o H2 => o = none ∧ H2 = H1) I1 ⟨rfl, rfl⟩) fun vl s2 ⟨l, H2, I2, pl, el, e2⟩ => ?_)
  subst el e2
  refine thn (po_none.run pins s2 σ H2 (fun o H3 => o = none ∧ H3 = H2) I2 ⟨rfl, rfl⟩) fun vu s3 ⟨u, H3, I3, pu, eu, e3⟩ => ?_
  subst eu e3
  refine thn (part.run pins s3 σ H3 (fun o H4 => o = some (-1) ∧ H4 = H3) I3 ⟨1, rfl, -1, rfl, rfl, rfl⟩) fun vs s4 ⟨o, H4, I4, ps, eo, e4⟩ => ?_
  subst eo e4
  cases pl
  cases pu
  cases ps with
  | int _ tk =>
    have I5 : Inv X pins σ H4 { s4 with heap := s4.heap.push { cls := .type "slice", data := .fields #[.none, .none, .int (-1) tk] } } := I4.kept (t' := s4.toks) fun b ob q => Heap.get?_push_of_some _ q
    obtain ⟨its, r, ht, hz⟩ := I5.tuple hx
    have hlen := r.length
    refine PyProof.Rows.tail_any (ops := [.ref a, .ref s4.heap.objs.size]) ht.typeIs PyProof.Rows.slot_tuple_getitem.lookup ?_ (by with_unfolding_all rfl)
    refine getItem_tuple_rev ht (Heap.IsSliceOf.new _ .none .none (.int (-1) tk)) (by rw [List.size_toArray]; omega) ?_
    refine ⟨.ref _, _, I5.laid (t' := s4.toks) (o := .tup xs.reverse) (fun b ob q => Heap.get?_push_of_some _ q) (Nat.le_refl _) ?_, rfl, q _ (I5.hok.fresh (Nat.le_refl _))⟩
    exact ⟨by rw [List.length_reverse]; exact hz, _, r.reverse, PyProof.Rows.IsTup.new _ _⟩
end L3
end

section
set_option Elab.async false
set_option linter.all false
set_option maxRecDepth 100000
set_option maxHeartbeats 3200000
set_option autoImplicit false
/-! min, max of a list of alike data. -/
namespace L3
open PySem L2 PySem.W

theorem readsAll_get {h : Heap} : ∀ {vs : List Value} {ds : List PyData} {as : List Addr} {i : Nat} {v : Value}, ReadsAll h vs ds as → vs[i]? = some v → ∃ d bs, ds[i]? = some d ∧ Reads h v d bs
  | _, _, _, _, _, .nil, e => by simp at e
  | _, _, _, 0, _, .cons (d := d) r _, e => by
    have e' := Option.some.inj e
    subst e'
    exact ⟨d, _, rfl, r⟩
  | _, _, _, i + 1, _, .cons _ r, e => readsAll_get (i := i) r e
theorem canAll_get : ∀ {ds : List PyData} {i : Nat} {d : PyData}, PyData.canLayAll0 ds = true → ds[i]? = some d → d.canLay0 = true
  | [], _, _, _, e => by simp at e
  | x :: r, 0, d, c, e => by
    have e' := Option.some.inj e
    subst e'
    have c' : (x.canLay0 && PyData.canLayAll0 r) = true := c
    rw [Bool.and_eq_true] at c'
    exact c'.1
  | x :: r, i + 1, d, c, e => by
    have c' : (x.canLay0 && PyData.canLayAll0 r) = true := c
    rw [Bool.and_eq_true] at c'
    exact canAll_get (i := i) c'.2 e
def rBestD (K : PySem.W.Frag) (best : PyData → List PyData → PyData) : List V → Hp → VK → Prop := fun vs H Q => ∃ a xs d ds, vs = [.ref a] ∧ SqL K H a xs ∧ DpAll K H xs (d :: ds) ∧ PyData.canLayAll0 (d :: ds) = true ∧ AlikeAll (d :: ds) ∧ PyData.depthAll (d :: ds) ≤ 60 ∧
  ∀ (i : Nat) (v : V), xs[i]? = some v → (d :: ds)[i]? = some (best d ds) → Q v H
section
variable {X : Cx}
theorem best_of {b : String} {best : PyData → List PyData → PyData} (hc : X.calm = true) (hu : X.A.units + 64 < cLine)
    (lib : ∀ {s : Shared} {l : Addr} {vs : Array Value} {x : PyData} {xs : List PyData} {as : List Addr} {Q : Value → Shared → Prop}, X.A.handled = none → s.heap.IsList l vs → ReadsAll s.heap vs.toList (x :: xs) as → AlikeAll (x :: xs) → X.A.units + 1 + PyData.depthAll (x :: xs) < cLine →
      (∀ (i : Nat) v h' tk bs, vs[i]? = some v → Reads h' v (best x xs) bs → (∀ b o, s.heap.get? b = some o → h'.get? b = some o) → Q v { s with heap := h', toks := tk }) → wpAny (model X.prog X.w) X.A (call (.builtin b) [.ref l]) Q X.xe s) :
    CallR X (.builtin b) (rBestD X.K best) := by
  intro pins s σ H vs us Q I r h
  obtain ⟨a, xs, d, ds, rfl, hq, dp, cl, al, dep, q⟩ := h
  rw [Vals.ref1 r]
  obtain ⟨its, rv, p, hz⟩ := I.list hq
  obtain ⟨as, ra⟩ := Dp.readsAll I (d :: ds) xs its dp rv
  refine lib (I.ok.hd hc) p.isList (by simpa using ra) al (by omega) fun i v h' tk bs hv hr hk => ?_
  have hv' : its[i]? = some v := by simpa using hv
  obtain ⟨x, hx, rx⟩ : ∃ x, xs[i]? = some x ∧ RelV x v := by
    have hl : i < xs.length := by rw [rv.length]; exact (List.getElem?_eq_some_iff.mp hv').1
    obtain ⟨u, hu', ru⟩ := rv.get (List.getElem?_eq_getElem hl)
    rw [hv'] at hu'
    cases hu'
    exact ⟨_, List.getElem?_eq_getElem hl, ru⟩
  obtain ⟨e, cs, he, re⟩ := readsAll_get ra hv'
  have ee : e = best d ds := PySem.SeqAt.Reads.unique _ _ _ _ _ (canAll_get cl he) (PyProof.Rows.Reads.keeps hk re) hr
  subst ee
  exact ⟨x, H, I.kept (t' := tk) hk, rx, q i x hx he⟩
theorem cr_minD (hc : X.calm = true) (hu : X.A.units + 64 < cLine) : CallR X (.builtin "min") (rBestD X.K minD) := best_of hc hu fun hh hl hr ha hd h => min_list_data hh hl hr ha hd h
theorem cr_maxD (hc : X.calm = true) (hu : X.A.units + 64 < cLine) : CallR X (.builtin "max") (rBestD X.K maxD) := best_of hc hu fun hh hl hr ha hd h => max_list_data hh hl hr ha hd h
end
end L3
end

section
set_option Elab.async false
set_option linter.all false
set_option maxRecDepth 100000
set_option maxHeartbeats 3200000
set_option autoImplicit false
/-! sorted(d), d a dict whose keys are tuples. -/
namespace L3
open PySem L2 PySem.W
open PyProof.Rows (seqObj)

theorem dp_key {K : PySem.W.Frag} {H : Hp} : ∀ k : List L2.Key, DpAll K H (k.map kV) (k.map keyD)
  | [] => .nil
  | .inl i :: r => .cons (.int i) (dp_key r)
  | .inr x :: r => .cons (.str x) (dp_key r)
theorem each_of_get {α β : Type} {R : α → β → Prop} : ∀ {vs : List α} {bs : List β}, vs.length = bs.length → (∀ (j : Nat) (v : α) (b : β), vs[j]? = some v → bs[j]? = some b → R v b) → EachIs R vs bs
  | [], [], _, _ => .nil
  | v :: vs, b :: bs, hl, h => .cons (h 0 v b rfl rfl) (each_of_get (Nat.succ.inj hl) fun j v b h1 h2 => h (j + 1) v b h1 h2)
  | [], _ :: _, hl, _ => by simp at hl
  | _ :: _, [], hl, _ => by simp at hl
def kLe (x y : List L2.Key) : Bool := dataLe false kD x y
def rSortT : List V → Hp → VK → Prop := fun vs H Q => ∃ a kvs, vs = [.ref a] ∧ H a = some (.dT kvs) ∧ AllAlike (kvs.map fun p => kD p.1) ∧ Sortable (kvs.map fun p => kD p.1) ∧ kvs.length ≤ 1000 ∧ (∀ p ∈ kvs, (kD p.1).depth ≤ 50) ∧
  ∀ (p : Addr) (bs : List Addr), H p = none → bs.length = kvs.length → (∀ (j : Nat) (k : List L2.Key) (b : Addr), ((kvs.map (·.1)).mergeSort kLe)[j]? = some k → bs[j]? = some b → H b = some (.tup (k.map kV))) → Q (.ref p) (upd H p (.lst (bs.map V.ref)))
theorem cr_sortT {X : Cx} (hc : X.calm = true) (hu : X.A.units + 64 < cLine) : CallR X (.builtin "sorted") rSortT := by
  intro pins s σ H vs us Q I r h
  obtain ⟨d, kvs, rfl, hd, al, so, hl, dep, q⟩ := h
  rw [Vals.ref1 r]
  obtain ⟨z, hs, ks, pr, o, es, ep, ho, hx, hdt, he, hn⟩ := (show ObjOk X.prog X.w H s.heap d (.dT kvs) from I.hok d _ hd)
  have l1 : es.size = ks.length := size_of_entries he
  have l2 : kvs.length = ks.length := Paired.length pr
  refine Calls.call_function_entry PyProof.Rows.kind_sorted PyProof.Rows.plain_sorted PyProof.Rows.entry_sorted (PyProof.Rows.args_sorted1 _) ?_
  unfold Builtin.«sorted»
  refine wpAny_bind (m := checkCount "sorted" 1 1 _) (wpAny_pure ?_)
  refine wpAny_bind (kdu_collect (A := X.A.in1) (kdl_raw hs hx hdt) (I.ok.hd hc) ho (by omega) fun h' tk acc hk it => ?_)
  have I1 : L2.Inv X pins σ H { s with heap := h', toks := tk } := I.kept hk
  let bs : List (List L2.Key × Addr) := ks.map fun x => (x.1, x.2.1)
  let enc : List L2.Key × Addr → PyData := fun p => kD p.1
  have hal : acc.toList.length = bs.length := by rw [Array.length_toList, it.1, l1]; simp [bs]
  have keys : kvs.map (·.1) = ks.map (·.1) := by
    have gen : ∀ {l : List (List L2.Key × V)} {m : List (List L2.Key × Addr × Value)}, KT H l m → l.map (·.1) = m.map (·.1) := by
      intro l m t
      induction t with
      | nil => rfl
      | cons h _ ih => rw [List.map_cons, List.map_cons, ih, h.1]
    exact gen pr
  have ekd : bs.map enc = kvs.map fun p => kD p.1 := by
    have e1 : (kvs.map fun p => kD p.1) = (kvs.map (·.1)).map kD := by rw [List.map_map]; rfl
    rw [e1, keys]
    show (ks.map fun x => (x.1, x.2.1)).map enc = _
    rw [List.map_map, List.map_map]
    rfl
  have tup : ∀ (j : Nat) (b : List L2.Key × Addr), bs[j]? = some b → H b.2 = some (.tup (b.1.map kV)) := fun j b hb => by
    have hb' : (ks.map fun x => (x.1, x.2.1))[j]? = some b := hb
    rw [List.getElem?_map] at hb'
    obtain ⟨x, hx', e⟩ := Option.map_eq_some_iff.mp hb'
    subst e
    have gen : ∀ {l : List (List L2.Key × V)} {m : List (List L2.Key × Addr × Value)}, KT H l m → ∀ x ∈ m, H x.2.1 = some (.tup (x.1.map kV)) := by
      intro l m t
      induction t with
      | nil => intro x hx; exact nomatch hx
      | cons h _ ih =>
        intro x hx
        rcases List.mem_cons.mp hx with e | hx
        · subst e
          rw [← h.1]
          exact h.2.1
        · exact ih x hx
    exact gen pr x (List.mem_of_getElem? hx')
  have each : EachIs (fun (v : Value) (b : List L2.Key × Addr) => v = .ref b.2) acc.toList bs := each_of_get hal fun j v b hv hb => by
    obtain ⟨en, hen, ev⟩ := it.2 j v (by rw [← Array.getElem?_toList]; exact hv)
    have qe := entry_at he j
    rw [hen] at qe
    have hb' : (ks.map fun x => (x.1, x.2.1))[j]? = some b := hb
    rw [List.getElem?_map] at hb'
    obtain ⟨x, hx', e⟩ := Option.map_eq_some_iff.mp hb'
    subst e
    rw [hx'] at qe
    have e2 : en = entryOfKey (tupleKind (mixKind X.prog X.w)) x := Option.some.inj qe
    rw [ev, e2]
    rfl
  have rd : ∀ (j : Nat) (b : List L2.Key × Addr), bs[j]? = some b → ∃ as, Reads h' (.ref b.2) (enc b) as := fun j b hb =>
    Dp.reads I1 (kD b.1) (.ref b.2) (.ref b.2) (.tup (.inl (.inl (tup j b hb))) (dp_key b.1)) rfl
  refine wpAny_bind (wpAny_newList ?_ (by rw [hal]; show (ks.map _).length ≤ _; rw [List.length_map]; exact Nat.le_trans (by omega) (show 1000 ≤ sizeLine by decide)))
  have hoL : (h'.push (seqObj "list" acc.toList.toArray 0)).get? h'.objs.size = some (seqObj "list" acc.toList.toArray 0) := Heap.get?_push_size _ rfl
  show wpAny _ _ _ _ _ { s with heap := h'.push (seqObj "list" acc.toList.toArray 0), toks := tk }
  have er' : EachIs (fun v b => ∃ as, Reads (sortingHeap (h'.push (seqObj "list" acc.toList.toArray 0)) h'.objs.size acc.toList) v (enc b) as) acc.toList bs := each_of_get hal fun j v b hv hb => by
    obtain ⟨as, ra⟩ := rd j b hb
    have ev : v = .ref b.2 := by
      have gen : ∀ {l : List Value} {m : List (List L2.Key × Addr)}, EachIs (fun (v : Value) (b : List L2.Key × Addr) => v = .ref b.2) l m → ∀ (j : Nat) (v : Value) (b : List L2.Key × Addr), l[j]? = some v → m[j]? = some b → v = .ref b.2 := by
        intro l m t
        induction t with
        | nil => intro j v b h; simp at h
        | cons h _ ih =>
          intro j v b h1 h2
          cases j with
          | zero =>
            cases h1
            cases h2
            exact h
          | succ j => exact ih j v b h1 h2
      exact gen each j v b hv hb
    subst ev
    refine ⟨as, PyProof.Rows.Reads.keeps (fun c u e => ?_) ra⟩
    exact sortingHeap_old (Nat.ne_of_lt (Heap.lt_size e)) (Heap.get?_push_of_some _ e)
  refine wpAny_bind (wpAny_holding (wpAny_call_entry PyProof.Rows.slot_list_sort ⟨_, hoL, rfl⟩ PyProof.Rows.entry_list_sort
    (list_sort_vals (κ := dataKind (sortingHeap (h'.push (seqObj "list" acc.toList.toArray 0)) h'.objs.size acc.toList) (bs.map enc)) (s := { s with heap := h'.push (seqObj "list" acc.toList.toArray 0), toks := tk }) hoL
      (SortsAt.data (s := { s with heap := sortingHeap (h'.push (seqObj "list" acc.toList.toArray 0)) h'.objs.size acc.toList, toks := tk }) (each_map (R := fun v d => ∃ as, Reads (sortingHeap (h'.push (seqObj "list" acc.toList.toArray 0)) h'.objs.size acc.toList) v d as) enc er') (by rw [ekd]; exact al) (by rw [ekd]; exact so) (fun d hd => by
        rw [ekd] at hd
        obtain ⟨p, hp, e⟩ := List.mem_map.mp hd
        have := dep p hp
        rw [← e]
        show X.A.units + 1 + 1 + _ < _
        omega))
      (by rw [hal]; show (ks.map _).length ≤ _; rw [List.length_map]; exact Nat.le_trans (by omega) (show 1000 ≤ sizeLine by decide)) ⟨_, rfl, ?_⟩)
    (PyProof.Rows.args_list_sort _)))
  have out := sortVals_data (h' := sortingHeap (h'.push (seqObj "list" acc.toList.toArray 0)) h'.objs.size acc.toList) (R := fun (v : Value) (b : List L2.Key × Addr) => v = .ref b.2) (enc := enc) false each er' (by rw [ekd]; exact al)
  have refs : ∀ {l : List Value} {m : List (List L2.Key × Addr)}, EachIs (fun (v : Value) (b : List L2.Key × Addr) => v = .ref b.2) l m → Vals (m.map fun b => V.ref b.2) l := by
    intro l m t
    induction t with
    | nil => exact .nil
    | cons h _ ih => exact .cons (by rw [h]; rfl) ih
  obtain ⟨e', he'⟩ := PyProof.Rows.sortedHeap_at (vs := acc.toList) (out := (sortVals (dataKind (sortingHeap (h'.push (seqObj "list" acc.toList.toArray 0)) h'.objs.size acc.toList) (bs.map enc)) false acc.toList acc.toList).toArray) hoL
  let ms := bs.mergeSort (dataLe false enc)
  have hms : ms.length = kvs.length := by
    show (bs.mergeSort (dataLe false enc)).length = _
    rw [(List.mergeSort_perm _ _).length_eq, l2]
    simp [bs]
  have e1 : ((ms.map (·.2)).map V.ref) = ms.map fun b => V.ref b.2 := by rw [List.map_map]; rfl
  have hlen : ((ms.map (·.2)).map V.ref).length ≤ sizeLine := by
    rw [List.length_map, List.length_map, hms]
    exact Nat.le_trans hl (show 1000 ≤ sizeLine by decide)
  refine wpAny_pure ⟨_, rfl, .ref h'.objs.size, upd H h'.objs.size (.lst ((ms.map (·.2)).map V.ref)), I1.laid (t' := tk) (fun b u e => ?_) (Nat.le_refl _) (show ObjOk X.prog X.w _ _ _ (.lst ((ms.map (·.2)).map V.ref)) from ⟨hlen, _, e', by rw [e1]; exact refs out, he'⟩), rfl, q _ (ms.map (·.2)) (I1.hok.fresh (Nat.le_refl _)) (by rw [List.length_map, hms]) fun j k b hk' hb => ?_⟩
  · have hb : b < h'.objs.size := Heap.lt_size e
    rw [PyProof.Rows.sortedHeap_old (Nat.ne_of_lt hb) (by rw [PyProof.Rows.size_push']; exact Nat.lt_succ_of_lt hb)]
    exact Heap.get?_push_of_some _ e
  · have em : (kvs.map (·.1)).mergeSort kLe = ms.map (·.1) := by
      have e2 : bs.map (·.1) = kvs.map (·.1) := by
        rw [keys]
        show (ks.map fun x => (x.1, x.2.1)).map (·.1) = _
        rw [List.map_map]
        rfl
      rw [← e2]
      exact (List.map_mergeSort (r := dataLe false enc) (s := kLe) (f := fun b => b.1) (l := bs) fun a _ b _ => rfl).symm
    rw [em, List.getElem?_map] at hk'
    rw [List.getElem?_map] at hb
    obtain ⟨x, hx', e3⟩ := Option.map_eq_some_iff.mp hk'
    rw [hx'] at hb
    cases hb
    subst e3
    have hm : x ∈ bs := (List.mergeSort_perm bs (dataLe false enc)).mem_iff.mp (List.mem_of_getElem? hx')
    obtain ⟨j', hj'⟩ := List.getElem?_of_mem hm
    exact tup j' x hj'
end L3
end

section
set_option Elab.async false
set_option linter.all false
set_option maxRecDepth 100000
set_option maxHeartbeats 3200000
set_option autoImplicit false
/-! dict(zip(xs, ys)): lists or tuples, the keys tuples that are all unlike. -/
namespace L3
open PySem L2 PySem.W
section
variable {prog : Program} {w : World} {A : Around} {E : Value → Shared → Prop} {s : Shared} {z TI TO i1 i2 T : Addr} {fp1 fp2 : List Addr} {n i : Nat} {P1 P2 : Nat → Value → Prop} {St1 St2 : Nat → Heap → Prop} {f : Bool} {oT : Obj}
theorem heldD_item {Q : Value → Shared → Prop} (S : ZipSep2 z TI TO i1 i2 fp1 fp2) (D1 : Draws prog w A i1 fp1 n P1 St1) (D2 : Draws prog w A i2 fp2 n P2 St2)
    (hz : IsZipHeld s.heap z TI TO T f) (hT : s.heap.get? T = some oT) (hTI : IsTupOf2 s.heap TI (.ref i1) (.ref i2)) (st1 : St1 i s.heap) (st2 : St2 i s.heap) (hi : i < n)
    (hQ : ∀ x1 x2 h' tk, P1 i x1 → P2 i x2 → IsZipHeld h' z TI TO T true → St1 (i + 1) h' → St2 (i + 1) h' → IsTupOf2 h' s.heap.objs.size x1 x2 →
      (∀ c o, c ≠ z → c ≠ i1 → c ≠ i2 → s.heap.get? c = some o → h'.get? c = some o) → Q (.ref s.heap.objs.size) { s with heap := h', toks := tk }) :
    wpAny (model prog w) A (Builtin.«zip.__next__» ⟨[.ref z], []⟩) (fun fin s' => ∃ v, fin = .done (.ret v) ∧ Q v s') E s := by
  obtain ⟨hp, g, d, tk0, os⟩ := s
  show wpAny _ _ (field (.ref z) 2 >>= _) _ _ _
  refine wpAny_bind (wpAny_field hz rfl (x := .bool false) rfl ?_)
  show wpAny _ _ (field (.ref z) 3 >>= _) _ _ _
  refine wpAny_bind (wpAny_field hz rfl (x := .ref TI) rfl (wpAny_bind (wpAny_seqItems hTI rfl ?_)))
  show wpAny _ _ (Builtin.SmallTypes.ownedTupleIsFree (.ref z) >>= _) _ _ _
  refine wpAny_bind (wpAny_tupleHeld_zip hz hT fun p0 hz0 hs0 => ?_)
  replace hs0 : Heap.SameBut z hp p0 := hs0
  simp only [Bool.false_eq_true, if_false]
  refine wpAny_bind ?_
  rw [← Array.forIn_toList]
  simp only [List.forIn_cons, List.forIn_nil]
  refine wpAny_bind (wpAny_bind (wpAny_holding ?_))
  show wpAny _ _ (Builtin.SmallTypes.nextOf (.ref i1) >>= _) _ _ ⟨p0, g, d, tk0, os⟩
  refine wpAny_bind (D1.item i _ _ _ hi (D1.over st1 hs0 S.zf1) fun x1 p1 tk1 hx1 n1 hs1 => wpAny_pure (wpAny_pure ?_))
  replace hs1 : Heap.SameBut i1 p0 p1 := hs1
  refine wpAny_bind (wpAny_bind (wpAny_holding ?_))
  show wpAny _ _ (Builtin.SmallTypes.nextOf (.ref i2) >>= _) _ _ ⟨p1, g, d, tk1, os⟩
  refine wpAny_bind (D2.item i _ _ _ hi (D2.over (D2.over st2 hs0 S.zf2) hs1 S.sep1_2) fun x2 p2 tk2 hx2 n2 hs2 => wpAny_pure (wpAny_pure (wpAny_pure ?_)))
  replace hs2 : Heap.SameBut i2 p1 p2 := hs2
  show wpAny _ _ (newTuple [x1, x2] >>= _) _ _ _
  refine wpAny_bind (wpAny_newTuple (wpAny_pure ⟨_, rfl, ?_⟩))
  have hsz : p2.objs.size = hp.objs.size := by rw [hs2.1, hs1.1, hs0.1]
  have hz2 : IsZipHeld p2 z TI TO T true := hs2.extBut _ _ S.zi2 (hs1.extBut _ _ S.zi1 hz0)
  have old : ∀ c o, c ≠ z → c ≠ i1 → c ≠ i2 → hp.get? c = some o → p2.get? c = some o := fun c o c1 c2 c3 e => hs2.extBut _ _ c3 (hs1.extBut _ _ c2 (hs0.extBut _ _ c1 e))
  show Q (.ref p2.objs.size) ⟨p2.push { cls := .type "tuple", data := .seq #[x1, x2] }, g, d, tk2, os⟩
  have hp' : IsTupOf2 (p2.push { cls := .type "tuple", data := .seq #[x1, x2] }) p2.objs.size x1 x2 := Heap.get?_push_size _ rfl
  rw [hsz] at hp' ⊢
  exact hQ x1 x2 _ tk2 hx1 hx2 (Heap.get?_push_of_some _ hz2) (D1.frame _ _ _ (D1.over n1 hs2 S.sep2_1) fun b _ o e => Heap.get?_push_of_some _ e) (D2.frame _ _ _ n2 fun b _ o e => Heap.get?_push_of_some _ e) hp' fun c o c1 c2 c3 e => Heap.get?_push_of_some _ (old c o c1 c2 c3 e)
theorem heldD_end {Q : PySem.Fin → Shared → Prop} (S : ZipSep2 z TI TO i1 i2 fp1 fp2) (D1 : Draws prog w A i1 fp1 n P1 St1)
    (hz : IsZipHeld s.heap z TI TO T f) (hT : s.heap.get? T = some oT) (hTI : IsTupOf2 s.heap TI (.ref i1) (.ref i2)) (st1 : St1 n s.heap)
    (hE : ∀ h' e, (∀ c o, c ≠ z → c ≠ i1 → s.heap.get? c = some o → h'.get? c = some o) → (∃ o, h'.get? e = some o ∧ o.cls = .type "StopIteration") → E (.ref e) { s with heap := h' }) :
    wpAny (model prog w) A (Builtin.«zip.__next__» ⟨[.ref z], []⟩) Q E s := by
  obtain ⟨hp, g, d, tk0, os⟩ := s
  show wpAny _ _ (field (.ref z) 2 >>= _) _ _ _
  refine wpAny_bind (wpAny_field hz rfl (x := .bool false) rfl ?_)
  show wpAny _ _ (field (.ref z) 3 >>= _) _ _ _
  refine wpAny_bind (wpAny_field hz rfl (x := .ref TI) rfl (wpAny_bind (wpAny_seqItems hTI rfl ?_)))
  show wpAny _ _ (Builtin.SmallTypes.ownedTupleIsFree (.ref z) >>= _) _ _ _
  refine wpAny_bind (wpAny_tupleHeld_zip hz hT fun p0 hz0 hs0 => ?_)
  replace hs0 : Heap.SameBut z hp p0 := hs0
  simp only [Bool.false_eq_true, if_false]
  refine wpAny_bind ?_
  rw [← Array.forIn_toList]
  simp only [List.forIn_cons, List.forIn_nil]
  refine wpAny_bind (wpAny_bind (wpAny_holding ?_))
  show wpAny _ _ (Builtin.SmallTypes.nextOf (.ref i1) >>= _) _ _ ⟨p0, g, d, tk0, os⟩
  exact wpAny_bind (D1.done _ _ _ (D1.over st1 hs0 S.zf1) fun h' e hx he => hE h' e (fun c o c1 c2 q => hx c o c2 (hs0.extBut _ _ c1 q)) he)
theorem next_held {Q : Option Value → Shared → Prop} (S : ZipSep2 z TI TO i1 i2 fp1 fp2) (D1 : Draws prog w A.in1 i1 fp1 n P1 St1) (D2 : Draws prog w A.in1 i2 fp2 n P2 St2)
    (hz : IsZipHeld s.heap z TI TO T f) (hT : s.heap.get? T = some oT) (hTI : IsTupOf2 s.heap TI (.ref i1) (.ref i2)) (st1 : St1 i s.heap) (st2 : St2 i s.heap) (hi : i < n)
    (hQ : ∀ x1 x2 h' tk, P1 i x1 → P2 i x2 → IsZipHeld h' z TI TO T true → St1 (i + 1) h' → St2 (i + 1) h' → IsTupOf2 h' s.heap.objs.size x1 x2 →
      (∀ c o, c ≠ z → c ≠ i1 → c ≠ i2 → s.heap.get? c = some o → h'.get? c = some o) → Q (some (.ref s.heap.objs.size)) { s with heap := h', toks := tk }) :
    wpAny (model prog w) A (pyNext (.ref z)) Q E s := by
  have hT' : s.TypeIs (.ref z) "zip" := ⟨_, hz, rfl⟩
  unfold pyNext
  exact wpAny_bind (wpAny_attempt (wpAny_callSpecial?_slot (name := Str.ofString "__next__") hT' F.slot_zip_next
    (wpAny_call_entry F.slot_zip_next hT' F.entry_zip_next
      (heldD_item S D1 D2 hz hT hTI st1 st2 hi fun x1 x2 h' tk q1 q2 q3 q4 q5 q6 q7 => wpAny_pure (hQ x1 x2 h' tk q1 q2 q3 q4 q5 q6 q7)) (F.args_zip_next_1 _))))
theorem stop_held {Q : Option Value → Shared → Prop} (S : ZipSep2 z TI TO i1 i2 fp1 fp2) (D1 : Draws prog w A.in1 i1 fp1 n P1 St1)
    (hz : IsZipHeld s.heap z TI TO T f) (hT : s.heap.get? T = some oT) (hTI : IsTupOf2 s.heap TI (.ref i1) (.ref i2)) (st1 : St1 n s.heap)
    (hQ : ∀ h', (∀ c o, c ≠ z → c ≠ i1 → s.heap.get? c = some o → h'.get? c = some o) → Q none { s with heap := h' }) : wpAny (model prog w) A (pyNext (.ref z)) Q E s := by
  have hT' : s.TypeIs (.ref z) "zip" := ⟨_, hz, rfl⟩
  unfold pyNext
  refine wpAny_bind (wpAny_attempt (wpAny_callSpecial?_slot (name := Str.ofString "__next__") hT' F.slot_zip_next
    (wpAny_call_entry F.slot_zip_next hT' F.entry_zip_next (heldD_end S D1 hz hT hTI st1 fun h' e hk he => ?_) (F.args_zip_next_1 _))))
  obtain ⟨o, ho, hc⟩ := he
  refine wpAny_bind (wpAny_isInstance (T := "StopIteration") (b := true) ⟨o, ho, hc⟩ isSubtype_stop ?_)
  exact wpAny_pure (hQ _ hk)
theorem tup_at {h : Heap} {T : Addr} {x y : Value} (e : IsTupOf2 h T x y) : PairAt h T x y := .inl ⟨_, e, rfl, _, rfl⟩
/-- zip(xs, ys), both of n items, as dict's argument -/
theorem argZip (k1 k2 : Kd) {a1 a2 : Addr} {xs ys : Array Value} (S : ZipSep2 z TI TO i1 i2 [i1, a1] [i2, a2]) (m1 : a1 ≠ i1) (m2 : a2 ≠ i2) (hx : xs.size = n) (hy : ys.size = n) (az : a1 ≠ z ∧ a2 ≠ z) :
    PairArg prog w "zip" z [z, TI, TO, i1, i2, a1, a2] [z, TO, i1, i2] n (fun i k v => xs[i]? = some k ∧ ys[i]? = some v)
      (fun h => IsZip h z TI TO .none ∧ IsTupOf2 h TI (.ref i1) (.ref i2) ∧ (∃ u1 u2, IsTupOf2 h TO u1 u2) ∧ k1.it h i1 a1 0 ∧ k2.it h i2 a2 0 ∧ k1.is h a1 xs ∧ k2.is h a2 ys) where
  type := fun s ok => ⟨_, ok.1, rfl⟩
  notDict := by decide
  keep := fun h h' ok hk => by
    obtain ⟨hz, hTI, ⟨u1, u2, hTO⟩, h1, h2, l1, l2⟩ := ok
    refine ⟨hk _ _ hz, hk _ _ hTI, ⟨u1, u2, hk _ _ hTO⟩, Kd.it_at h1 fun o e => hk _ o e, Kd.it_at h2 fun o e => hk _ o e, ?_, ?_⟩
    · exact (k1.begins a1 xs).keeps h h' l1 hk
    · exact (k2.begins a2 ys).keeps h h' l2 hk
  there := fun h ok b hb => by
    obtain ⟨hz, hTI, ⟨u1, u2, hTO⟩, h1, h2, l1, l2⟩ := ok
    have is : ∀ {k : Kd} {a : Addr} {x : Array Value}, k.is h a x → ∃ o, h.get? a = some o := fun {k a x} q => by
      cases k with
      | l => obtain ⟨o, e, _⟩ := q; exact ⟨o, e⟩
      | t => obtain ⟨o, e, _⟩ := q; exact ⟨o, e⟩
    simp only [List.mem_cons, List.not_mem_nil, or_false] at hb
    rcases hb with e | e | e | e | e | e | e
    · rw [e]; exact ⟨_, hz⟩
    · rw [e]; exact ⟨_, hTI⟩
    · rw [e]; exact ⟨_, hTO⟩
    · rw [e]; obtain ⟨o, q, _⟩ := Kd.it_obj h1; exact ⟨o, q⟩
    · rw [e]; obtain ⟨o, q, _⟩ := Kd.it_obj h2; exact ⟨o, q⟩
    · rw [e]; exact is l1
    · rw [e]; exact is l2
  sub := fun b hb => by simp at hb ⊢; rcases hb with e | e | e | e <;> simp [e]
  noKeys := fun A s Q E hA ok h => getAttrOr_miss_zip ok.1 rfl rfl rfl zip_no_keys (by decide +kernel) hA h
  iter := fun A s d Q E hA ok hd hdf h => by
    obtain ⟨hz, hTI, ⟨u1, u2, hTO⟩, h1, h2, l1, l2⟩ := ok
    simp only [List.mem_cons, List.not_mem_nil, or_false, not_or] at hdf
    obtain ⟨dz, dTI, dTO, di1, di2, da1, da2⟩ := hdf
    have hA1 : A.in1.handled = none := hA
    refine wpAny_pyIter_zip hz (h z [z, TO, i1, i2] (fun i h => IsTupOf2 h TI (.ref i1) (.ref i2) ∧ (k1.it h i1 a1 i ∧ k1.is h a1 xs) ∧ (k2.it h i2 a2 i ∧ k2.is h a2 ys) ∧
      ((IsZip h z TI TO .none ∧ ∃ u1 u2, IsTupOf2 h TO u1 u2) ∨ ∃ T f oT, IsZipHeld h z TI TO T f ∧ h.get? T = some oT ∧ T ≠ z ∧ T ≠ i1 ∧ T ≠ i2 ∧ T ≠ d)) s.heap s.toks ?_
      ⟨hTI, ⟨h1, l1⟩, ⟨h2, l2⟩, .inl ⟨hz, u1, u2, hTO⟩⟩ (fun _ _ e => e) fun b hb => .inl hb)
    have D1 := k1.draws (prog := prog) (w := w) hA1 i1 a1 m1 xs
    have D2 := k2.draws (prog := prog) (w := w) hA1 i2 a2 m2 ys
    rw [hx] at D1
    rw [hy] at D2
    exact {
      off := fun hm => by
        simp only [List.mem_cons, List.not_mem_nil, or_false] at hm
        rcases hm with e | e | e | e
        · exact dz e
        · exact dTO e
        · exact di1 e
        · exact di2 e
      frame := fun i g g' st hk => by
        obtain ⟨hTI, st1, st2, hz⟩ := st
        refine ⟨hk _ _ (Ne.symm dTI) hTI, D1.frame _ _ _ st1 fun b hb o e => hk b o (fun q => ?_) e, D2.frame _ _ _ st2 fun b hb o e => hk b o (fun q => ?_) e, ?_⟩
        · rcases List.mem_cons.mp hb with y | y
          · exact di1 (q.symm.trans y)
          · exact da1 (q.symm.trans (List.mem_singleton.mp y))
        · rcases List.mem_cons.mp hb with y | y
          · exact di2 (q.symm.trans y)
          · exact da2 (q.symm.trans (List.mem_singleton.mp y))
        · rcases hz with ⟨hz, u1, u2, hTO⟩ | ⟨T, f, oT, hz, hT, r1, r2, r3, r4⟩
          · exact .inl ⟨hk _ _ (Ne.symm dz) hz, u1, u2, hk _ _ (Ne.symm dTO) hTO⟩
          · exact .inr ⟨T, f, oT, hk _ _ (Ne.symm dz) hz, hk _ _ r4 hT, r1, r2, r3, r4⟩
      item := fun i s1 Q1 E1 hi st hds hQ => by
        obtain ⟨hTI, st1, st2, hz⟩ := st
        have lt : ∀ {c o}, s1.heap.get? c = some o → s1.heap.objs.size ≠ c := fun e => Nat.ne_of_gt (Heap.lt_size e)
        have g1 : s1.heap.objs.size ≠ i1 := by obtain ⟨_, e⟩ := D1.live _ _ st1; exact lt e
        have g2 : s1.heap.objs.size ≠ i2 := by obtain ⟨_, e⟩ := D2.live _ _ st2; exact lt e
        rcases hz with ⟨hz, u1, u2, hTO⟩ | ⟨T, f, oT, hz, hT, r1, r2, r3, r4⟩
        · refine wpAny_pyNext_zipD2_item S D1 D2 hz hTI hTO st1 st2 hi hi fun x1 x2 h' tk q1 q2 b1 b2 d1 d2 b5 b6 hk => ?_
          exact hQ s1.heap.objs.size _ _ h' tk ⟨q1, q2⟩ (tup_at b5) ⟨hk _ _ S.TIz S.TITO S.TIi1 S.TIi2 hTI, d1, d2, .inr ⟨s1.heap.objs.size, false, _, b1, b5, lt hz, g1, g2, Nat.ne_of_gt hds⟩⟩
            fun c o hc e => hk c o (fun x => hc (by simp [x])) (fun x => hc (by simp [x])) (fun x => hc (by simp [x])) (fun x => hc (by simp [x])) e
        · refine next_held S D1 D2 hz hT hTI st1 st2 hi fun x1 x2 h' tk q1 q2 b1 d1 d2 b5 hk => ?_
          exact hQ s1.heap.objs.size _ _ h' tk ⟨q1, q2⟩ (tup_at b5) ⟨hk _ _ S.TIz S.TIi1 S.TIi2 hTI, d1, d2, .inr ⟨T, true, oT, b1, hk _ _ r1 r2 r3 hT, r1, r2, r3, r4⟩⟩
            fun c o hc e => hk c o (fun x => hc (by simp [x])) (fun x => hc (by simp [x])) (fun x => hc (by simp [x])) e
      done := fun s1 Q1 E1 st hQ => by
        obtain ⟨hTI, st1, st2, hz⟩ := st
        rcases hz with ⟨hz, u1, u2, hTO⟩ | ⟨T, f, oT, hz, hT, r1, r2, r3, r4⟩
        · exact wpAny_pyNext_zipD2_end S D1 D2 hz hTI hTO st1 st2 (Nat.le_refl _) (Nat.le_refl _) (.inl rfl) fun h' tk hk => hQ h' tk fun c o hc e => hk c o (fun x => hc (by simp [x])) (fun x => hc (by simp [x])) (fun x => hc (by simp [x])) (fun x => hc (by simp [x])) e
        · exact stop_held S D1 hz hT hTI st1 fun h' hk => hQ h' s1.toks fun c o hc e => hk c o (fun x => hc (by simp [x])) (fun x => hc (by simp [x])) e }
end
end L3
end

section
set_option Elab.async false
set_option linter.all false
set_option maxRecDepth 100000
set_option maxHeartbeats 3200000
set_option autoImplicit false
/-! dict(zip(xs, ys)) as an expression. -/
namespace L3
open PySem L2 PySem.W

def tDZip (K : PySem.W.Frag) (ta : TA) : TE := fun σ H Q => ta σ H fun vs H1 => ∃ (k1 k2 : Kd) (a1 a2 : Addr) (bs : List Addr) (ks : List (List L2.Key)) (ys : List V), vs = [.ref a1, .ref a2] ∧ k1.sq K H1 a1 (bs.map V.ref) ∧ k2.sq K H1 a2 ys ∧
  ks.length = bs.length ∧ ys.length = bs.length ∧ bs.length ≤ 1000 ∧ ks.Nodup ∧ (∀ (j : Nat) (k : List L2.Key) (b : Addr), ks[j]? = some k → bs[j]? = some b → H1 b = some (.tup (k.map kV))) ∧ ∀ p, H1 p = none → Q (.ref p) (upd H1 p (.dT (ks.zip ys)))
theorem kt_zip {H : Hp} : ∀ {ks : List (List L2.Key)} {ys : List V} {bs : List Addr} {us : List Value}, ks.length = bs.length → ys.length = bs.length → Vals ys us → (∀ (j : Nat) (k : List L2.Key) (b : Addr), ks[j]? = some k → bs[j]? = some b → H b = some (.tup (k.map kV))) →
    KT H (ks.zip ys) (ks.zip (bs.zip us))
  | [], _, _, _, _, _, _, _ => by simp [List.zip]; exact .nil
  | _ :: _, _, [], _, h, _, _, _ => by simp at h
  | _ :: _, [], _ :: _, _, _, h, _, _ => by simp at h
  | k :: ks, y :: ys, b :: bs, _, h1, h2, .cons r rv, h => by
    simp only [List.zip_cons_cons]
    exact .cons ⟨rfl, h 0 k b rfl rfl, r⟩ (kt_zip (Nat.succ.inj h1) (Nat.succ.inj h2) rv fun j k b e1 e2 => h (j + 1) k b e1 e2)
theorem refs_vals : ∀ {bs : List Addr} {us : List Value}, Vals (bs.map V.ref) us → us = bs.map Value.ref
  | [], _, .nil => rfl
  | b :: bs, _, .cons r rv => by
    rw [refs_vals rv]
    cases r
    rfl
theorem pe_dzip {X : Cx} {e1 e2 : Expr} {ta : TA} {p1 p2 q1 pos : Pos} (hc : X.calm = true) (hu : X.A.units + 64 < cLine) (hg : Gl X "dict") (hm : X.mg "dict" = none) (hg2 : Gl X "zip") (hm2 : X.mg "zip" = none) (ha : PA X [e1, e2] ta)
    (hs : starEach [e1, e2] X.env = (false, eval e1 X.env) :: starEach [e2] X.env := by rfl) (hpl : (backTo q1 (starEach [e2] X.env)).any (·.1) = false := by rfl) :
    PE X (.Call (.Name "dict" p1) [.Call (.Name "zip" p2) [e1, e2] [] q1] [] pos) (tDZip X.K ta) := by
  refine ⟨fun pins s σ H Q I h => ?_⟩
  refine PyProof.Rows.Call_ (ld_blt I hg hm PyProof.Rows.boot_dict (PyProof.Rows.callWith_type1 (PyProof.Rows.args_cons ?_ rfl) rfl rfl))
  refine PyProof.Rows.Call_ (ld_blt I hg2 hm2 PyProof.Rows.boot_zip (PyProof.Rows.callWith_type1 (thn (ha.run q1 pins s σ H _ I h) fun us s1 ⟨vs, H1, I1, r1, qq⟩ => ?_) hs hpl))
  obtain ⟨k1, k2, a1, a2, bs, ks, ys, ex, hq1, hq2, lk, ly, lb, nd, tup, q⟩ := qq
  subst ex
  cases r1 with
  | cons rq r1 =>
    cases r1 with
    | cons rqq r1 =>
      cases r1
      cases rq
      cases rqq
      obtain ⟨its1, rv1, pk1, l1⟩ := k1.of_inv I1 hq1
      obtain ⟨its2, rv2, pk2, l2⟩ := k2.of_inv I1 hq2
      have e1 := refs_vals rv1
      subst e1
      have n2 : its2.length = bs.length := by rw [← rv2.length, ly]
      refine zip_begins2 (k1.begins a1 _) (k2.begins a2 _) pk1 pk2 fun h' hz hTI hTO g1 g2 hsz hk => PyProof.Rows.args_nil ?_
      have S := zip_sep2 (N := s1.heap.objs.size) (fp1 := [a1]) (fp2 := [a2]) (fun b hb => by rw [List.mem_singleton.mp hb]; exact l1) (fun b hb => by rw [List.mem_singleton.mp hb]; exact l2)
      have keep1 : k1.is h' a1 (bs.map Value.ref).toArray := (k1.begins a1 _).keeps s1.heap h' pk1 hk
      have keep2 : k2.is h' a2 its2.toArray := (k2.begins a2 _).keeps s1.heap h' pk2 hk
      have P := argZip (prog := X.prog) (w := X.w) (n := bs.length) k1 k2 S (Nat.ne_of_lt l1) (Nat.ne_of_lt (Nat.lt_of_lt_of_le l2 (Nat.le_add_right _ _))) (xs := (bs.map Value.ref).toArray) (ys := its2.toArray) (by simp) (by simp [n2])
        ⟨Nat.ne_of_lt (Nat.lt_of_lt_of_le l1 (Nat.le_add_right _ _)), Nat.ne_of_lt (Nat.lt_of_lt_of_le l2 (Nat.le_add_right _ _))⟩
      have kt : KT H1 (ks.zip ys) (ks.zip (bs.zip its2)) := kt_zip lk ly rv2 tup
      have notwr : ∀ {b : Addr}, b < s1.heap.objs.size → b ∉ [s1.heap.objs.size + 4, s1.heap.objs.size + 3, s1.heap.objs.size, s1.heap.objs.size + 1] := fun {b} hb m => by
        simp only [List.mem_cons, List.not_mem_nil, or_false] at m
        have far : ∀ k, b ≠ s1.heap.objs.size + k := fun k e => absurd (show s1.heap.objs.size + k < s1.heap.objs.size from e ▸ hb) (Nat.not_lt.mpr (Nat.le_add_right _ _))
        rcases m with m | m | m | m
        · exact far 4 m
        · exact far 3 m
        · exact far 0 m
        · exact far 1 m
      have lz : (ks.zip (bs.zip its2)).length = bs.length := by rw [List.length_zip, List.length_zip, lk, n2]; simp
      have nd2 : ((ks.zip (bs.zip its2)).map (·.1)).Nodup := by
        rw [List.map_fst_zip (by rw [List.length_zip, n2, lk]; simp)]
        exact nd
      have mem_tup : ∀ x ∈ ks.zip (bs.zip its2), H1 x.2.1 = some (.tup (x.1.map kV)) := by
        have gen : ∀ {l : List (List L2.Key × V)} {m : List (List L2.Key × Addr × Value)}, KT H1 l m → ∀ x ∈ m, H1 x.2.1 = some (.tup (x.1.map kV)) := by
          intro l m t
          induction t with
          | nil => intro x hx; exact nomatch hx
          | cons h _ ih =>
            intro x hx
            rcases List.mem_cons.mp hx with e | hx
            · subst e
              rw [← h.1]
              exact h.2.1
            · exact ih x hx
        exact gen kt
      have bsz : ∀ x ∈ ks.zip (bs.zip its2), x.2.1 < s1.heap.objs.size := fun x hx => by
        obtain ⟨o, _, _, h1, _⟩ := key_of I1.hok (mem_tup x hx)
        exact Heap.lt_size h1
      refine call_dict_pairsH (A := X.A) (s := { s1 with heap := h' }) (knd := tupleKind (mixKind X.prog X.w)) (ps := ks.zip (bs.zip its2)) P (I1.ok.hd hc) (tupleKind_room_in1 (A := X.A.in1) (by show X.A.units + 1 + 1 < cLine; omega)) ⟨hz, hTI, ⟨_, _, hTO⟩, Kd.it_of g1, Kd.it_of g2, keep1, keep2⟩ ⟨lz, fun i key v hr => ?_⟩ (fun h2 hk2 x hx => ?_) (Nat.le_trans lb (show 1000 ≤ sizeLine by decide)) fun h2 tk dd hk2 => ?_
      · obtain ⟨hr1, hr2⟩ := hr
        have hr1' : (bs.map Value.ref)[i]? = some key := by simpa using hr1
        have hr2' : its2[i]? = some v := by simpa using hr2
        rw [List.getElem?_map] at hr1'
        obtain ⟨b, hb, eb⟩ := Option.map_eq_some_iff.mp hr1'
        have il : i < ks.length := by rw [lk]; exact (List.getElem?_eq_some_iff.mp hb).1
        refine ⟨ks[i], b, ?_, eb.symm⟩
        rw [List.getElem?_zip_eq_some]
        refine ⟨List.getElem?_eq_getElem il, ?_⟩
        rw [List.getElem?_zip_eq_some]
        exact ⟨hb, hr2'⟩
      · obtain ⟨o, its, n, h1, r⟩ := key_of I1.hok (mem_tup x hx)
        have lt := Heap.lt_size h1
        refine ⟨o, its, n, hk2 _ _ (fun e => ?_) (notwr lt) (hk _ _ h1), r⟩
        exact absurd (show s1.heap.objs.size + 5 < s1.heap.objs.size from hsz ▸ e ▸ lt) (Nat.not_lt.mpr (Nat.le_add_right _ _))
      · rw [storedAllH_nil_of_nodup _ nd2] at dd
        have old : ∀ b o, s1.heap.get? b = some o → h2.get? b = some o := fun b o e => hk2 b o (notwr (Heap.lt_size e)) (hk b o e)
        have ge : s1.heap.objs.size ≤ h'.objs.size := by rw [hsz]; exact Nat.le_add_right _ _
        have ns : (h'.objs.size == sysModules) = false := beq_eq_false_iff_ne.mpr (Nat.ne_of_gt (Nat.lt_of_lt_of_le I1.big ge))
        have fresh : H1 h'.objs.size = none := I1.hok.fresh ge
        have lzy : (ks.zip ys).length ≤ sizeLine := by
          rw [List.length_zip, lk, ly, Nat.min_self]
          exact Nat.le_trans lb (show 1000 ≤ sizeLine by decide)
        obtain ⟨o, es, ep, d1, d2, d3, d4, d5, d6⟩ := dd
        have kt2 : KT (upd H1 h'.objs.size (.dT (ks.zip ys))) (ks.zip ys) (ks.zip (bs.zip its2)) := KT.keeps kt fun b zs e => by
          rw [upd_ne (ne_of_none e fresh)]
          exact e
        exact ⟨.ref h'.objs.size, upd H1 h'.objs.size (.dT (ks.zip ys)), I1.laid (t' := tk) (fun b u e => old b u e) ge (show ObjOk X.prog X.w _ _ _ (.dT (ks.zip ys)) from ⟨lzy, ns, ks.zip (bs.zip its2), kt2, o, es, ep, d1, d2, d3, d4, d6⟩), rfl, q _ fresh⟩
end L3
end

section
set_option Elab.async false
set_option linter.all false
set_option maxRecDepth 100000
set_option maxHeartbeats 1000000
set_option autoImplicit false
/-! More over pure data: dicts, sorts, what is walked. -/
namespace L3
open PySem L2
section
variable {K : PySem.W.Frag} {B : Hp} {W0 M N W : List Addr} {H0 H H' : Hp} {σ : L2.St} {ds ds1 : List Sl} {P : Post} {D : Ends} {t u : TS} {te ta tb tc tv ty : TE} {tr : TA} {tt : TT} {d x y z : PyData} {xs ys zs : List PyData} {es : List (List Key × PyData)}

/-! ### dicts -/
theorem ek_dict (h : EnD K te ds es) : Ek K te ds (.od es) := fun W N σ H S Q q =>
  h W N σ H S _ fun a kvs H' e n h1 r => q _ H' e fun _ => ⟨a :: W, a, kvs, rfl, rfl, n, h1, r⟩
theorem sx_dput {i : Nat} {k : List Key} (h : ds[i]? = some (.od es)) (hv : Ev K tv ds d) (hk : Ev K ty ds (kD k)) (hl : es.length < 100000) (n : P.nx (ds.set i (.od (putD es k d)))) : Sx K (sDPut (tVar i) ty tv) ds P := fun B W0 M N H0 W σ H F D m => by
  refine hv W N σ H F.st _ fun v H1 e1 rv => ?_
  obtain ⟨a, kvs, e, aW, aN, ha, r⟩ := (F.ex e1).st.sl i _ h
  have ea := getD_of e
  refine ⟨.ref a, ea, hk W N σ H1 (F.ex e1).st _ fun u H2 e2 ru => ?_⟩
  cases ru with
  | @tup b vs _ hb rb =>
    have eb := rb.key
    subst eb
    refine ⟨a, _, rfl, DPut.t (e2 _ _ ha) (cut_ex _ _ hb) (by rw [r.length]; exact sz_lt hl), ?_⟩
    refine m.nx W σ _ _ n (((F.ex e1).ex e2).mut h rfl ea ⟨a, _, rfl, aW, aN, upd_same, ?_⟩ rfl (.inl ⟨(fun _ q => nomatch q), fun _ q => nomatch q⟩))
    rw [cut_upd aW]
    exact (r.mono (cut_mono e2)).put (rv.mono (cut_mono e2))
theorem sx_dputE {i : Nat} {k : List Key} (h : Es K tv ds fun d ds1 => ∃ es, ds1[i]? = some (.od es) ∧ Ev K ty ds1 (kD k) ∧ es.length < 100000 ∧ P.nx (ds1.set i (.od (putD es k d)))) : Sx K (sDPut (tVar i) ty tv) ds P := fun B W0 M N H0 W σ H F D m => by
  refine h B W0 M N H0 W σ H F _ fun v H1 W1 d ds1 ⟨es, hs, hk, hl, n⟩ F1 rv => ?_
  obtain ⟨a, kvs, e, aW, aN, ha, r⟩ := F1.st.sl i _ hs
  have ea := getD_of e
  refine ⟨.ref a, ea, hk W1 N σ H1 F1.st _ fun u H2 e2 ru => ?_⟩
  cases ru with
  | @tup b vs _ hb rb =>
    have eb := rb.key
    subst eb
    refine ⟨a, _, rfl, DPut.t (e2 _ _ ha) (cut_ex _ _ hb) (by rw [r.length]; exact sz_lt hl), ?_⟩
    refine m.nx W1 σ _ _ n ((F1.ex e2).mut hs rfl ea ⟨a, _, rfl, aW, aN, upd_same, ?_⟩ rfl (.inl ⟨(fun _ q => nomatch q), fun _ q => nomatch q⟩))
    rw [cut_upd aW]
    exact (r.mono (cut_mono e2)).put (rv.mono (cut_mono e2))
/-- a dict of ours is locked -/
theorem Stt.frz (S : Stt K W N H σ ds) {i : Nat} {a : Addr} {kvs : List (List Key × V)} (ob : Obj) (h : ds[i]? = some (.od es)) (ea : σ[i]? = some (some (.ref a))) (aW : a ∈ W) (aN : a ∉ N) (ha : H a = some (.dT kvs)) (r : RpKV K (cut H W) kvs es) :
    Stt K W N (upd H a (.frz ob (.dT kvs))) σ (ds.set i (.fd es)) := by
  have ce : cut (upd H a (.frz ob (.dT kvs))) W = cut H W := cut_upd aW
  have ne : ∀ j t, j ≠ i → ds[j]? = some t → t.own = true → ∀ c, σ[j]? = some (some (.ref c)) → c ≠ a := fun j t nj hj ot c hc q => by
    subst q
    exact S.dist j i t _ nj hj h ot rfl (hc.trans ea.symm)
  refine ⟨by rw [List.length_set]; exact S.len, fun b hb => ?_, fun j t hj => ?_, fun j k t1 t2 njk h1 h2 o1 o2 => ?_⟩
  · by_cases e : b = a
    · rw [e, upd_same]; exact nt_frz
    · rw [upd_ne e]; exact S.al b hb
  · rcases set_get hj with ⟨rfl, rfl⟩ | ⟨nj, hj⟩
    · rw [ea]
      exact ⟨a, kvs, ob, rfl, aW, aN, upd_same, by rw [ce]; exact r⟩
    · have q := S.sl j t hj
      cases t with
      | un => trivial
      | pu d => obtain ⟨v, h1, h2⟩ := q; exact ⟨v, h1, by rw [ce]; exact h2⟩
      | rl xs => obtain ⟨c, vs, h1, h2, h3⟩ := q; exact ⟨c, vs, h1, by rw [ce]; exact h2, by rw [ce]; exact h3⟩
      | ol xs => obtain ⟨c, vs, h1, h2, h3, h4, h5⟩ := q; exact ⟨c, vs, h1, h2, h3, by rw [upd_ne (ne j _ nj hj rfl c (getD_of h1))]; exact h4, by rw [ce]; exact h5⟩
      | od xs => obtain ⟨c, vs, h1, h2, h3, h4, h5⟩ := q; exact ⟨c, vs, h1, h2, h3, by rw [upd_ne (ne j _ nj hj rfl c (getD_of h1))]; exact h4, by rw [ce]; exact h5⟩
      | fd xs => obtain ⟨c, vs, ob', h1, h2, h3, h4, h5⟩ := q; exact ⟨c, vs, ob', h1, h2, h3, by rw [upd_ne (ne j _ nj hj rfl c (getD_of h1))]; exact h4, by rw [ce]; exact h5⟩
      | bl xs => obtain ⟨c, vs, h1, h2, h3, h4, h5⟩ := q; exact ⟨c, vs, h1, h2, h3, by rw [upd_ne (ne j _ nj hj rfl c (getD_of h1))]; exact h4, by rw [ce]; exact h5⟩
  · rcases set_get h1 with ⟨rfl, rfl⟩ | ⟨n1, h1⟩
    · rcases set_get h2 with ⟨rfl, rfl⟩ | ⟨n2, h2⟩
      · exact absurd rfl njk
      · exact S.dist _ k (.od es) t2 njk h h2 rfl o2
    · rcases set_get h2 with ⟨rfl, rfl⟩ | ⟨n2, h2⟩
      · exact S.dist j _ t1 (.od es) njk (by rw [List.getElem?_set_ne (Ne.symm n1)] at h1; exact h1) h o1 rfl
      · exact S.dist _ _ _ _ njk h1 h2 o1 o2
/-- name = [.. for k in d ..], d locked -/
theorem sx_lockL {i j : Nat} {s : Sl} (h : ds[i]? = some (.od es)) (hl : EnL K te (ds.set i (.fd es)) xs) (hj : j < ds.length) (hs : s = .ol xs ∨ s = .pu (.list xs)) (n : P.nx (ds.set j s)) : Sx K (tLock (tAsg te (gName j))) ds P := fun B W0 M N H0 W σ H F D m => by
  obtain ⟨a, kvs, e, aW, aN, ha, r⟩ := F.st.sl i _ h
  have ea := getD_of e
  refine ⟨a, .dT kvs, ha, trivial, fun ob => ?_⟩
  refine hl W N σ _ (F.st.frz ob h ea aW aN ha r) _ fun p vs H2 e2 hp h2 r2 => ?_
  have pa : p ≠ a := fun z => by rw [z, upd_same] at hp; cases hp
  have hp0 : H p = none := by rw [upd_ne pa] at hp; exact hp
  have ex : Ex H (upd H2 a (.dT kvs)) := fun b o hb => by
    by_cases z : b = a
    · rw [z] at hb ⊢
      rw [upd_same, ← hb, ha]
    · rw [upd_ne z]
      exact e2 b o (by rw [upd_ne z]; exact hb)
  have h2' : upd H2 a (.dT kvs) p = some (.lst vs) := by rw [upd_ne pa]; exact h2
  have ce : ∀ W', a ∈ W' → cut (upd H2 a (.dT kvs)) W' = cut H2 W' := fun W' q => cut_upd q
  refine ⟨e2 a _ upd_same, ?_⟩
  rcases hs with rfl | rfl
  · exact m.nx _ _ _ _ n (F.set hj ex ⟨p, vs, rfl, rfl, hp0, h2', by rw [ce _ (List.mem_cons_of_mem _ aW)]; exact r2⟩)
  · have pW : p ∉ W := F.st.al.fresh hp0
    refine m.nx _ _ _ _ n (F.set hj ex (s := .pu (.list xs)) ⟨rfl, .lst (xs := vs) ?_ ?_⟩)
    · rw [cut_out pW]; exact h2'
    · rw [ce _ aW]; exact r2.mono (cut_sub fun b hb => List.mem_cons_of_mem _ hb)
theorem depth_kD (k : List Key) : (kD k).depth ≤ 50 := by
  have h : ∀ k : List Key, PyData.depthAll (k.map keyD) ≤ 1 := fun k => by
    induction k with
    | nil => exact Nat.zero_le _
    | cons a r ih =>
      rw [List.map_cons]
      have e : PyData.depthAll (keyD a :: r.map keyD) = max (keyD a).depth (PyData.depthAll (r.map keyD)) := rfl
      rw [e]
      have d0 : (keyD a).depth ≤ 1 := by cases a <;> exact Nat.zero_le _
      omega
  have e : (kD k).depth = PyData.depthAll (k.map keyD) + 1 := rfl
  have := h k
  omega
/-- sorted(d) -/
theorem en_sortT {i : Nat} (h : ds[i]? = some (.od es)) (al : PySem.W.AllAlike (es.map fun p => kD p.1)) (so : PySem.W.Sortable (es.map fun p => kD p.1)) (hl : es.length ≤ 1000) : EnL K (tCB rSortT (tCons (tVar i) tNil)) ds (((es.map (·.1)).mergeSort kLe).map kD) := fun W N σ H S Q q => by
  obtain ⟨a, kvs, e, aW, aN, ha, r⟩ := S.sl i _ h
  have ek : (kvs.map fun p => kD p.1) = es.map fun p => kD p.1 := by
    have e1 : (kvs.map fun p => kD p.1) = (kvs.map (·.1)).map kD := by rw [List.map_map]; rfl
    have e2 : (es.map fun p => kD p.1) = (es.map (·.1)).map kD := by rw [List.map_map]; rfl
    rw [e1, e2, r.keys]
  refine ⟨.ref a, getD_of e, a, kvs, rfl, ha, by rw [ek]; exact al, by rw [ek]; exact so, by rw [r.length]; exact hl, fun p _ => depth_kD p.1, fun p bs hp hb hk => ?_⟩
  have fr := Ex.new (o := .lst (bs.map V.ref)) hp
  rw [r.keys] at hk
  have lm : ((es.map (·.1)).mergeSort kLe).length = bs.length := by rw [List.length_mergeSort, List.length_map, hb, r.length]
  refine q p (bs.map V.ref) _ fr hp upd_same (RpAll.of_get (by rw [List.length_map, List.length_map, lm]) fun j v d hv hd => ?_)
  rw [List.getElem?_map] at hv hd
  obtain ⟨b, hb', eb⟩ := Option.map_eq_some_iff.mp hv
  obtain ⟨k, hk', ed⟩ := Option.map_eq_some_iff.mp hd
  subst eb ed
  have hb2 := hk j k b hk' hb'
  have bp : b ≠ p := ne_of_none hb2 hp
  have bW : b ∉ W := S.al.tup hb2
  have up : cut (upd H p (.lst (bs.map V.ref))) (p :: W) b = some (.tup (k.map kV)) := by
    rw [cut_out (fun m => (List.mem_cons.mp m).elim bp bW), upd_ne bp]
    exact hb2
  exact .tup up (RpAll.of_key k)
end
end L3
end

section
set_option Elab.async false
set_option linter.all false
set_option maxRecDepth 100000
set_option maxHeartbeats 1000000
set_option autoImplicit false
/-! What is walked: texts, zips, enumerate; best, sets, sorts; chains. -/
namespace L3
open PySem L2
def Kd.D : Kd → List PyData → PyData
  | .l => .list
  | .t => .tuple
section
variable {K : PySem.W.Frag} {B : Hp} {W0 M N W : List Addr} {H0 H H' : Hp} {σ : L2.St} {ds ds1 : List Sl} {P : Post} {D : Ends} {t u : TS} {te ta tb tc tv ty : TE} {tr : TA} {tt : TT} {d x y z : PyData} {xs ys zs : List PyData} {es : List (List Key × PyData)}
def ErS (K : PySem.W.Frag) (k : Kd) (te : TE) (ds : List Sl) (xs : List PyData) : Prop := match k with
  | .l => ErL K te ds xs
  | .t => ErT K te ds xs
theorem Ev.rs {k : Kd} (h : Ev K te ds (k.D xs)) : ErS K k te ds xs := by
  cases k with
  | l => exact Ev.rl h
  | t => exact Ev.rt h
theorem ErS.run {k : Kd} (h : ErS K k te ds xs) : ∀ W N σ H, Stt K W N H σ ds → ∀ Q : VK, (∀ a vs H', Ex H H' → k.sq K H' a vs → RpAll K (cut H' W) vs xs → Q (.ref a) H') → te σ H Q := by
  cases k with
  | l => exact h
  | t => exact h
theorem sq_ex {k : Kd} {a : Addr} {vs : List V} (e : Ex H H') (h : k.sq K H a vs) : k.sq K H' a vs := by
  cases k with
  | l => exact ex_l e h
  | t => exact ex_t e h
/-- stands among what may not change -/
theorem Ev.runS {k : Kd} (h : Ev K te ds (k.D xs)) : ∀ W N σ H, Stt K W N H σ ds → ∀ Q : VK, (∀ a vs H', Ex H H' → k.sq K (cut H' W) a vs → RpAll K (cut H' W) vs xs → Q (.ref a) H') → te σ H Q := fun W N σ H S Q q =>
  h W N σ H S _ fun v H' e r => by
    cases k with
    | l =>
      cases r with
      | lst h1 r1 => exact q _ _ H' e (.inl (.inl h1)) r1
    | t =>
      cases r with
      | tup h1 r1 => exact q _ _ H' e (.inl (.inl h1)) r1
theorem eI_str {s : Str} (h : Ev K te ds (.str s)) : EI K (iStr te) ds (s.cps.toList.map fun c => .str ⟨#[c]⟩) := fun W N σ H S R q =>
  h W N σ H S _ fun v H1 e r => by
    cases r
    refine ⟨s, rfl, q _ H1 e ⟨fun i H2 W' hi _ => ?_, fun H2 W' _ => ?_, fun i H2 W' x H' d hd _ A y => ?_⟩⟩
    · show i < s.cps.size
      simpa using hi
    · show s.cps.size ≤ _
      simp
    · obtain ⟨e', c, hc, ev⟩ := y
      subst e' ev
      rw [List.getElem?_map] at hd
      obtain ⟨c', hc', ed⟩ := Option.map_eq_some_iff.mp hd
      subst ed
      have : c = c' := by
        rw [Array.getElem?_toList] at hc'
        exact Option.some.inj (hc.symm.trans hc')
      subst this
      exact ⟨Ex.refl _, .str _⟩
def zipD (xs ys : List PyData) : List PyData := (xs.zip ys).map fun p => .tuple [p.1, p.2]
def zip3D (xs ys zs : List PyData) : List PyData := (xs.zip (ys.zip zs)).map fun p => .tuple [p.1, p.2.1, p.2.2]
def enumD (xs : List PyData) : List PyData := (xs.zipIdx).map fun p => .tuple [.int (p.2 : Nat), p.1]
theorem zipD_len : (zipD xs ys).length = min xs.length ys.length := by unfold zipD; rw [List.length_map, List.length_zip]
theorem zip3D_len : (zip3D xs ys zs).length = min xs.length (min ys.length zs.length) := by unfold zip3D; rw [List.length_map, List.length_zip, List.length_zip]
theorem enumD_len : (enumD xs).length = xs.length := by unfold enumD; rw [List.length_map, List.length_zipIdx]
theorem zipD_at {i : Nat} (h : (zipD xs ys)[i]? = some d) : ∃ x y, xs[i]? = some x ∧ ys[i]? = some y ∧ d = .tuple [x, y] := by
  unfold zipD at h
  rw [List.getElem?_map] at h
  obtain ⟨⟨x, y⟩, h1, h2⟩ := Option.map_eq_some_iff.mp h
  rw [List.getElem?_zip_eq_some] at h1
  exact ⟨x, y, h1.1, h1.2, h2.symm⟩
theorem zip3D_at {i : Nat} (h : (zip3D xs ys zs)[i]? = some d) : ∃ x y z, xs[i]? = some x ∧ ys[i]? = some y ∧ zs[i]? = some z ∧ d = .tuple [x, y, z] := by
  unfold zip3D at h
  rw [List.getElem?_map] at h
  obtain ⟨⟨x, y, z⟩, h1, h2⟩ := Option.map_eq_some_iff.mp h
  rw [List.getElem?_zip_eq_some, List.getElem?_zip_eq_some] at h1
  exact ⟨x, y, z, h1.1, h1.2.1, h1.2.2, h2.symm⟩
theorem enumD_at {i : Nat} (h : (enumD xs)[i]? = some d) : ∃ x, xs[i]? = some x ∧ d = .tuple [.int (i : Nat), x] := by
  unfold enumD at h
  rw [List.getElem?_map] at h
  obtain ⟨⟨x, j⟩, h1, h2⟩ := Option.map_eq_some_iff.mp h
  rw [List.getElem?_zipIdx] at h1
  obtain ⟨x', h3, h4⟩ := Option.map_eq_some_iff.mp h1
  cases h4
  exact ⟨x, h3, by rw [← h2]; simp⟩
theorem get_lt {α : Type} {l : List α} {i : Nat} (h : i < l.length) : ∃ x, l[i]? = some x := ⟨l[i], List.getElem?_eq_getElem h⟩
/-- a new tuple of what stands -/
theorem new_tup {T : Addr} {vs : List V} (A : Al W H) (hT : H T = none) (r : RpAll K (cut H W) vs xs) : Ex H (upd H T (.tup vs)) ∧ Rp K (cut (upd H T (.tup vs)) W) (.ref T) (.tuple xs) := ⟨Ex.new hT, .tup (cut_new A hT) (r.mono (cut_mono (Ex.new hT)))⟩
theorem z2_go {k1 k2 : Kd} {a1 a2 : Addr} {us vs : List V} {i : Nat} (s1 : k1.sq K H a1 us) (s2 : k2.sq K H a2 vs) (l1 : us.length = xs.length) (l2 : vs.length = ys.length) (hi : i < (zipD xs ys).length) : (ItZ2 K k1 a1 k2 a2).go i H := by
  rw [zipD_len] at hi
  obtain ⟨x, hx⟩ := get_lt (l := us) (i := i) (by omega)
  obtain ⟨y, hy⟩ := get_lt (l := vs) (i := i) (by omega)
  exact ⟨us, vs, x, y, s1, s2, hx, hy⟩
theorem z2_stop {k1 k2 : Kd} {a1 a2 : Addr} {us vs : List V} (s1 : k1.sq K H a1 us) (s2 : k2.sq K H a2 vs) (l1 : us.length = xs.length) (l2 : vs.length = ys.length) : (ItZ2 K k1 a1 k2 a2).stop (zipD xs ys).length H := by
  rw [zipD_len]
  exact ⟨us, vs, s1, s2, by omega, by omega, by omega⟩
theorem z2_yld {k1 k2 : Kd} {a1 a2 : Addr} {us vs : List V} {i : Nat} {v : V} (s1 : k1.sq K H a1 us) (s2 : k2.sq K H a2 vs) (r1 : RpAll K (cut H W) us xs) (r2 : RpAll K (cut H W) vs ys) (A : Al W H) (hd : (zipD xs ys)[i]? = some d) (y : (ItZ2 K k1 a1 k2 a2).yld i H v H') : Ex H H' ∧ Rp K (cut H' W) v d := by
  obtain ⟨T, w1, w2, e, hT, e', h1, h2⟩ := y
  subst e e'
  obtain ⟨d1, d2, g1, g2, ed⟩ := zipD_at hd
  subst ed
  obtain ⟨u1, hu1, ru1⟩ := r1.get' g1
  obtain ⟨u2, hu2, ru2⟩ := r2.get' g2
  have e1 : w1 = u1 := Option.some.inj ((h1 us s1).symm.trans hu1)
  have e2 : w2 = u2 := Option.some.inj ((h2 vs s2).symm.trans hu2)
  subst e1 e2
  exact new_tup A hT (.cons ru1 (.cons ru2 .nil))
theorem eIr_z2 {k1 k2 : Kd} (h1 : ErS K k1 ta ds xs) (h2 : ErS K k2 tb ds ys) : EIr K (iZip2 K (tCons ta (tCons tb tNil))) ds (zipD xs ys) := fun W N σ H S R q =>
  h1.run W N σ H S _ fun a1 us H1 e1 s1 r1 => h2.run W N σ H1 (S.mono e1) _ fun a2 vs H2 e2 s2 r2 =>
    ⟨k1, k2, a1, a2, us, vs, rfl, sq_ex e2 s1, s2, q _ H2 (e1.trans e2) ⟨fun i H3 hi e3 => z2_go (sq_ex e3 (sq_ex e2 s1)) (sq_ex e3 s2) r1.length r2.length hi, fun H3 e3 => z2_stop (sq_ex e3 (sq_ex e2 s1)) (sq_ex e3 s2) r1.length r2.length,
      fun i H3 W' v H4 d hd e3 c A y => z2_yld (sq_ex e3 (sq_ex e2 s1)) (sq_ex e3 s2) ((r1.mono (cut_mono e2)).mono c) (r2.mono c) A hd y⟩⟩
theorem eI_z2 {k1 k2 : Kd} (h1 : Ev K ta ds (k1.D xs)) (h2 : Ev K tb ds (k2.D ys)) : EI K (iZip2 K (tCons ta (tCons tb tNil))) ds (zipD xs ys) := fun W N σ H S R q =>
  h1.runS W N σ H S _ fun a1 us H1 e1 s1 r1 => h2.runS W N σ H1 (S.mono e1) _ fun a2 vs H2 e2 s2 r2 => by
    have s1' := sq_ex (cut_mono (W := W) e2) s1
    exact ⟨k1, k2, a1, a2, us, vs, rfl, sq_ex cut_ex s1', sq_ex cut_ex s2, q _ H2 (e1.trans e2) ⟨fun i H3 W' hi c => z2_go (sq_ex cut_ex (sq_ex c s1')) (sq_ex cut_ex (sq_ex c s2)) r1.length r2.length hi, fun H3 W' c => z2_stop (sq_ex cut_ex (sq_ex c s1')) (sq_ex cut_ex (sq_ex c s2)) r1.length r2.length,
      fun i H3 W' v H4 d hd c A y => z2_yld (sq_ex cut_ex (sq_ex c s1')) (sq_ex cut_ex (sq_ex c s2)) ((r1.mono (cut_mono e2)).mono c) (r2.mono c) A hd y⟩⟩
theorem eIr_z3 {k1 k2 k3 : Kd} (h1 : ErS K k1 ta ds xs) (h2 : ErS K k2 tb ds ys) (h3 : ErS K k3 tc ds zs) : EIr K (iZip3 K (tCons ta (tCons tb (tCons tc tNil)))) ds (zip3D xs ys zs) := fun W N σ H S R q =>
  h1.run W N σ H S _ fun a1 us H1 e1 s1 r1 => h2.run W N σ H1 (S.mono e1) _ fun a2 vs H2 e2 s2 r2 => h3.run W N σ H2 ((S.mono e1).mono e2) _ fun a3 ws H3 e3 s3 r3 => by
    have t1 := sq_ex e3 (sq_ex e2 s1)
    have t2 := sq_ex e3 s2
    have l1 := r1.length
    have l2 := r2.length
    have l3 := r3.length
    refine ⟨k1, k2, k3, a1, a2, a3, us, vs, ws, rfl, t1, t2, s3, q _ H3 ((e1.trans e2).trans e3) ⟨fun i H4 hi e4 => ?_, fun H4 e4 => ?_, fun i H4 W' v H5 d hd e4 c A y => ?_⟩⟩
    · rw [zip3D_len] at hi
      obtain ⟨x, hx⟩ := get_lt (l := us) (i := i) (by omega)
      obtain ⟨y, hy⟩ := get_lt (l := vs) (i := i) (by omega)
      obtain ⟨z, hz⟩ := get_lt (l := ws) (i := i) (by omega)
      exact ⟨us, vs, ws, x, y, z, sq_ex e4 t1, sq_ex e4 t2, sq_ex e4 s3, hx, hy, hz⟩
    · rw [zip3D_len]
      exact ⟨us, vs, ws, sq_ex e4 t1, sq_ex e4 t2, sq_ex e4 s3, by omega, by omega, by omega, by omega⟩
    · obtain ⟨T, w1, w2, w3, e, hT, e', g1, g2, g3⟩ := y
      subst e e'
      obtain ⟨d1, d2, d3, f1, f2, f3, ed⟩ := zip3D_at hd
      subst ed
      obtain ⟨u1, hu1, ru1⟩ := (((r1.mono (cut_mono e2)).mono (cut_mono e3)).mono c).get' f1
      obtain ⟨u2, hu2, ru2⟩ := ((r2.mono (cut_mono e3)).mono c).get' f2
      obtain ⟨u3, hu3, ru3⟩ := (r3.mono c).get' f3
      have q1 : w1 = u1 := Option.some.inj ((g1 us (sq_ex e4 t1)).symm.trans hu1)
      have q2 : w2 = u2 := Option.some.inj ((g2 vs (sq_ex e4 t2)).symm.trans hu2)
      have q3 : w3 = u3 := Option.some.inj ((g3 ws (sq_ex e4 s3)).symm.trans hu3)
      subst q1 q2 q3
      exact new_tup A hT (.cons ru1 (.cons ru2 (.cons ru3 .nil)))
theorem en_yld {k : Kd} {a : Addr} {us : List V} {i : Nat} {v : V} (s1 : k.sq K H a us) (r1 : RpAll K (cut H W) us xs) (A : Al W H) (hd : (enumD xs)[i]? = some d) (y : (ItE K k a).yld i H v H') : Ex H H' ∧ Rp K (cut H' W) v d := by
  obtain ⟨T, w1, e, hT, e', h1⟩ := y
  subst e e'
  obtain ⟨d1, g1, ed⟩ := enumD_at hd
  subst ed
  obtain ⟨u1, hu1, ru1⟩ := r1.get' g1
  have e1 : w1 = u1 := Option.some.inj ((h1 us s1).symm.trans hu1)
  subst e1
  exact new_tup A hT (.cons (.int _) (.cons ru1 .nil))
theorem eIr_en {k : Kd} (h1 : ErS K k ta ds xs) : EIr K (iEn K (tCons ta tNil)) ds (enumD xs) := fun W N σ H S R q =>
  h1.run W N σ H S _ fun a us H1 e1 s1 r1 => ⟨k, a, us, rfl, s1, q _ H1 e1 ⟨fun i H3 hi e3 => by
      rw [enumD_len] at hi
      obtain ⟨x, hx⟩ := get_lt (l := us) (i := i) (by rw [r1.length]; exact hi)
      exact ⟨us, x, sq_ex e3 s1, hx⟩, fun H3 e3 => ⟨us, sq_ex e3 s1, by rw [enumD_len, r1.length]⟩,
      fun i H3 W' v H4 d hd e3 c A y => en_yld (sq_ex e3 s1) (r1.mono c) A hd y⟩⟩
theorem eI_en {k : Kd} (h1 : Ev K ta ds (k.D xs)) : EI K (iEn K (tCons ta tNil)) ds (enumD xs) := fun W N σ H S R q =>
  h1.runS W N σ H S _ fun a us H1 e1 s1 r1 => ⟨k, a, us, rfl, sq_ex cut_ex s1, q _ H1 e1 ⟨fun i H3 W' hi c => by
      rw [enumD_len] at hi
      obtain ⟨x, hx⟩ := get_lt (l := us) (i := i) (by rw [r1.length]; exact hi)
      exact ⟨us, x, sq_ex cut_ex (sq_ex c s1), hx⟩, fun H3 W' c => ⟨us, sq_ex cut_ex (sq_ex c s1), by rw [enumD_len, r1.length]⟩,
      fun i H3 W' v H4 d hd c A y => en_yld (sq_ex cut_ex (sq_ex c s1)) (r1.mono c) A hd y⟩⟩

/-! ### a tuple turned about; sets; best -/
theorem ev_revT (h : Ev K te ds (.tuple xs)) : Ev K (tRevT K te) ds (.tuple xs.reverse) := fun W N σ H S Q q =>
  h W N σ H S _ fun v H1 e1 r => by
    cases r with
    | @tup a vs _ h1 r1 => exact ⟨a, vs, rfl, .inl (.inl (cut_ex _ _ h1)), fun p hp => q _ _ (e1.trans (Ex.new hp)) (.tup (cut_new (S.al.mono e1) hp) (r1.reverse.mono (cut_mono (Ex.new hp))))⟩
theorem ev_lenS {k : Kd} {ss : List Str} (h : ErS K k te ds (ss.map .str)) (nd : ss.Nodup) (hl : ss.length ≤ 1000) : Ev K (tLenS K te) ds (.int ss.length) := fun W N σ H S Q q =>
  h.run W N σ H S _ fun a vs H1 e1 s1 r => by
    have e := r.strs
    subst e
    exact ⟨k, a, ss, rfl, s1, nd, hl, q _ H1 e1 (.int _)⟩
theorem pairwise_lt_unique : ∀ {l m : List Int}, l.Pairwise (· < ·) → m.Pairwise (· < ·) → (∀ k, k ∈ l ↔ k ∈ m) → l = m
  | [], [], _, _, _ => rfl
  | [], b :: m, _, _, h => absurd ((h b).mpr List.mem_cons_self) (by simp)
  | a :: l, [], _, _, h => absurd ((h a).mp List.mem_cons_self) (by simp)
  | a :: l, b :: m, h1, h2, h => by
    obtain ⟨p1, p1'⟩ := List.pairwise_cons.mp h1
    obtain ⟨p2, p2'⟩ := List.pairwise_cons.mp h2
    have hab : a = b := by
      have ha := (h a).mp List.mem_cons_self
      have hb := (h b).mpr List.mem_cons_self
      rcases List.mem_cons.mp ha with e | ha
      · exact e
      · rcases List.mem_cons.mp hb with e | hb
        · exact e.symm
        · have := p1 b hb
          have := p2 a ha
          omega
    subst hab
    rw [pairwise_lt_unique p1' p2' fun k => ⟨fun hk => ?_, fun hk => ?_⟩]
    · have := (h k).mp (List.mem_cons_of_mem _ hk)
      rcases List.mem_cons.mp this with e | q
      · have := p1 k hk; omega
      · exact q
    · have := (h k).mpr (List.mem_cons_of_mem _ hk)
      rcases List.mem_cons.mp this with e | q
      · have := p2 k hk; omega
      · exact q
/-- sorted(set(whole numbers)) -/
theorem en_sortSet {w : World} {k : Kd} {ns ms : List Int} (h : ErS K k te ds (ns.map .int)) (hl : ns.length < 63) (hm : ms.Pairwise (· < ·)) (he : ∀ k, k ∈ ms ↔ k ∈ ns) : EnL K (tCB (rSortedSet w) (tCons (tCB (rSetI K w) (tCons te tNil)) tNil)) ds (ms.map .int) := fun W N σ H S Q q =>
  h.run W N σ H S _ fun a vs H1 e1 s1 r => by
    have e := r.ints
    subst e
    refine ⟨k, a, ns, rfl, s1, by unfold scanBound; omega, fun p c hp hc => ?_⟩
    refine ⟨p, fun j => decide (j ∈ ns), c, rfl, upd_same, by omega, fun ms' p2 h1 h2 h3 hp2 => ?_⟩
    have em : ms' = ms := pairwise_lt_unique h1 hm fun k => (h2 k).trans (by rw [he k]; simp)
    subst em
    exact q p2 _ _ ((e1.trans (Ex.new hp)).trans (Ex.new hp2)) ((e1.trans (Ex.new hp)).back hp2) upd_same (RpAll.of_ints ms')
end
end L3
end

section
set_option Elab.async false
set_option linter.all false
set_option maxRecDepth 100000
set_option maxHeartbeats 1000000
set_option autoImplicit false
/-! best of data, == of a list that is read, chains, list(range). -/
namespace L3
open PySem L2
section
variable {K : PySem.W.Frag} {B : Hp} {W0 M N W : List Addr} {H0 H H' : Hp} {σ : L2.St} {ds ds1 : List Sl} {P : Post} {t u : TS} {te ta tb tc tv ty : TE} {tr : TA} {tt : TT} {d x y z : PyData} {xs ys zs : List PyData} {es : List (List Key × PyData)}
theorem RpAll.dpH {W : List Addr} {H : Hp} {vs : List V} (r : RpAll K (cut H W) vs xs) (c : PyData.canLayAll0 xs = true) : DpAll K H vs xs := (r.mono cut_ex).dp c
theorem ev_best {best : PyData → List PyData → PyData} (h : ErL K te ds (d :: xs)) (c : PyData.canLayAll0 (d :: xs) = true) (al : PySem.W.AlikeAll (d :: xs)) (dp : PyData.depthAll (d :: xs) ≤ 60) : Ev K (tCB (rBestD K best) (tCons te tNil)) ds (best d xs) :=
  ev_cbR h fun W H a vs A sq r Q q => ⟨a, vs, d, xs, rfl, sq, r.dpH c, c, al, dp, fun i v hv hd => by
    obtain ⟨d', hd', rv⟩ := r.get hv
    rw [hd] at hd'
    cases hd'
    exact q v H (Ex.refl H) rv⟩
theorem ev_eqR {e : PyData} (h : ErL K ta ds xs) (hb : Ev K tb ds e) (h1 : SeqAt.shaped (.list xs) = true) (h2 : SeqAt.shaped e = true) : Ev K (tOp (rEqD K) ta tb) ds (.bool (PyData.eqv (.list xs) e)) := fun W N σ H S Q q =>
  h W N σ H S _ fun a vs H1 e1 s1 r1 => hb W N σ H1 (S.mono e1) _ fun u H2 e2 r2 => by
    have c : PyData.canLayAll0 xs = true := by
      have q := SeqAt.canLay_of_shaped h1
      rw [canLay_list] at q
      exact q
    exact ⟨.list xs, e, .lst (ex_l e2 s1) ((r1.mono (cut_mono e2)).dpH c), r2.dpH h2, h1, h2, q _ H2 (e1.trans e2) (.bl _)⟩
theorem ev_chain {r r' : R2} {b c : Bool} (ha : Ev K ta ds x) (hb : Ev K tb ds y) (h1 : RD K r x y (.bool b)) (hc : b = true → Ev K tc ds z) (h2 : b = true → RD K r' y z (.bool c)) : Ev K (tChain r r' ta tb tc) ds (.bool (b && c)) := fun W N σ H S Q q =>
  ha W N σ H S _ fun v H1 e1 r1 => hb W N σ H1 (S.mono e1) _ fun u H2 e2 r2 => h1 W H2 v u ((S.al.mono e1).mono e2) (r1.mono (cut_mono e2)) r2 _ fun w H3 e3 r3 => by
    cases r3
    refine ⟨b, rfl, ?_⟩
    cases b with
    | true =>
      show tc σ H3 _
      exact hc rfl W N σ H3 (((S.mono e1).mono e2).mono e3) _ fun v4 H4 e4 r4 => h2 rfl W H4 u v4 ((((S.al.mono e1).mono e2).mono e3).mono e4) ((r2.mono (cut_mono e3)).mono (cut_mono e4)) r4 Q fun w5 H5 e5 r5 => q w5 H5 ((((e1.trans e2).trans e3).trans e4).trans e5) r5
    | false =>
      show Q (.bl false) H3
      exact q _ H3 ((e1.trans e2).trans e3) (.bl false)
/-- a chain whose middle part is the item of a list that is read: by Ev of the item -/
theorem et_chain {r r' : R2} {b c : Bool} (ha : Ev K ta ds x) (hb : Ev K tb ds y) (h1 : RD K r x y (.bool b)) (hc : b = true → Ev K tc ds z) (h2 : b = true → RD K r' y z (.bool c)) : Et K (tTest (tChain r r' ta tb tc)) ds (b && c) := et_test (ev_chain ha hb h1 hc h2)
theorem en_listRg {n : Int} (h : Ev K te ds (.int n)) (h0 : 0 ≤ n) (h1 : n ≤ 100000) : EnL K (tLstRg (tRg1 te)) ds (intsTo n.toNat) := fun W N σ H S Q q =>
  h W N σ H S _ fun v H1 e1 r1 => by
    cases r1
    refine ⟨n, rfl, RgOk.of_le (Int.le_refl 0) (by omega) (by omega) h0, fun p hp => q p _ _ (e1.trans (Ex.new hp)) (e1.back hp) upd_same ?_⟩
    unfold rgV intsTo
    rw [Int.sub_zero]
    have gen : ∀ l : List Nat, RpAll K (cut (upd H1 p (.lst ((List.range n.toNat).map fun i => V.int (0 + (i : Nat))))) (p :: W)) (l.map fun i => V.int (0 + (i : Nat))) (l.map fun (i : Nat) => PyData.int i) := fun l => by
      induction l with
      | nil => exact .nil
      | cons a r ih =>
        refine .cons ?_ ih
        have e : (0 + (a : Int)) = a := by omega
        show Rp K _ (V.int (0 + (a : Int))) (PyData.int a)
        rw [e]
        exact .int _
    exact gen _
end
end L3
end

section
set_option Elab.async false
set_option linter.all false
set_option maxRecDepth 100000
set_option autoImplicit false
/-! The rules with K told apart (within a comprehension's block). -/
namespace L3
open PySem L2
section
variable {X : Cx} (K : PySem.W.Frag)
theorem ko_add (h : X.K = K := by rfl) : OpR X (binaryOp .Add) (gAddT K) := h ▸ op_gAdd
theorem ko_lt (hu : X.A.units < cLine) (h : X.K = K := by rfl) : OpR X (compareOp .Lt) (fun x y H Q => rI0 (fun i j => .bl (decide (i < j))) x y H Q ∨ rLtT K x y H Q) := by subst h; exact op_gLt hu
theorem ko_in (hu : X.A.units + 65 < cLine) (h : X.K = K := by rfl) : OpR X (compareOp .In) (gIn K) := h ▸ op_gIn hu
theorem ko_nin (hu : X.A.units + 65 < cLine) (h : X.K = K := by rfl) : OpR X (compareOp .NotIn) (gNotIn K) := h ▸ op_gNotIn hu
theorem ko_eq (hu : X.A.units + 64 < cLine) (h : X.K = K := by rfl) : OpR X (compareOp .Eq) (rEqD K) := h ▸ op_eqD hu
theorem ko_ne (hu : X.A.units + 64 < cLine) (h : X.K = K := by rfl) : OpR X (compareOp .NotEq) (rNeD K) := h ▸ op_neD hu
theorem ki_seq (h : X.K = K := by rfl) : IxR X (rIx K) := h ▸ ix_seq
theorem ks_g (h : X.K = K := by rfl) : SlR X (gSl K) := h ▸ sl_g
theorem kc_len (h : X.K = K := by rfl) : CallR X (.builtin "len") (gLen K) := h ▸ cr_gLen
theorem kc_isi (h : X.K = K := by rfl) : CallR X (.builtin "isinstance") (rIsi K) := h ▸ call_isi
theorem kc_sum (hc : X.calm = true) (h : X.K = K := by rfl) : CallR X (.builtin "sum") (rSum K) := h ▸ cr_sum hc
theorem kc_max (hc : X.calm = true) (h : X.K = K := by rfl) : CallR X (.builtin "max") (rMax K) := h ▸ cr_max hc
theorem kc_all (hc : X.calm = true) (h : X.K = K := by rfl) : CallR X (.builtin "all") (rAll K) := h ▸ cr_all hc
theorem kc_any (hc : X.calm = true) (h : X.K = K := by rfl) : CallR X (.builtin "any") (rAny K) := h ▸ cr_any hc
theorem kc_minD (hc : X.calm = true) (hu : X.A.units + 64 < cLine) (h : X.K = K := by rfl) : CallR X (.builtin "min") (rBestD K PySem.W.minD) := h ▸ cr_minD hc hu
theorem kc_maxD (hc : X.calm = true) (hu : X.A.units + 64 < cLine) (h : X.K = K := by rfl) : CallR X (.builtin "max") (rBestD K PySem.W.maxD) := h ▸ cr_maxD hc hu
theorem kc_tuple (h : X.K = K := by rfl) : CallR X (.type "tuple") (gTuple K) := h ▸ cr_gTuple
theorem kc_list (h : X.K = K := by rfl) : CallR X (.type "list") (gList K) := h ▸ cr_gList
theorem kc_setI (w : World) (hc : X.calm = true) (h : X.K = K := by rfl) (hw : X.w = w := by rfl) : CallR X (.type "set") (rSetI K w) := by subst h hw; exact cr_setI hc
theorem kc_sortedSet (w : World) (hc : X.calm = true) (hw : X.w = w := by rfl) : CallR X (.builtin "sorted") (rSortedSet w) := by subst hw; exact cr_sortedSet hc
theorem kp_lenS {a : Expr} {ta : TE} {p p2 q pos : Pos} (hc : X.calm = true) (hg : Gl X "len") (hm : X.mg "len" = none) (hg2 : Gl X "set") (hm2 : X.mg "set" = none) (ha : PE X a ta) (h : X.K = K := by rfl)
    (na : starEach [a] X.env = (false, eval a X.env) :: starEach [] X.env := by rfl) : PE X (.Call (.Name "len" p) [.Call (.Name "set" p2) [a] [] q] [] pos) (tLenS K ta) := h ▸ pe_lenS hc hg hm hg2 hm2 ha na
theorem kp_revT {e : Expr} {te : TE} {k : Nat} {p1 p2 p3 pos : Pos} (he : PE X e te) (h : X.K = K := by rfl) : PE X (.Subscript e (.Slice none none (some (.UnaryOp .USub (.Constant (.int 1) k p1) p2)) p3) pos) (tRevT K te) := h ▸ pe_revT he
theorem kp_dzip {e1 e2 : Expr} {ta : TA} {p1 p2 q1 pos : Pos} (hc : X.calm = true) (hu : X.A.units + 64 < cLine) (hg : Gl X "dict") (hm : X.mg "dict" = none) (hg2 : Gl X "zip") (hm2 : X.mg "zip" = none) (ha : PA X [e1, e2] ta) (h : X.K = K := by rfl)
    (hs : starEach [e1, e2] X.env = (false, eval e1 X.env) :: starEach [e2] X.env := by rfl) (hpl : (backTo q1 (starEach [e2] X.env)).any (·.1) = false := by rfl) :
    PE X (.Call (.Name "dict" p1) [.Call (.Name "zip" p2) [e1, e2] [] q1] [] pos) (tDZip K ta) := h ▸ pe_dzip hc hu hg hm hg2 hm2 ha hs hpl
theorem kw_seq {tg l : Expr} {tl : TE} (hl : PE X l tl) (h : X.K = K := by rfl) : PI X tg l (iSeq K tl) := h ▸ pi_seq hl
theorem kw_z2 {e1 e2 : Expr} {ta : TA} {p pos tpos : Pos} {elts : List Expr} {kk : Nat} (hg : Gl X "zip") (hm : X.mg "zip" = none) (ha : PA X [e1, e2] ta) (h : X.K = K := by rfl)
    (hs : starEach [e1, e2] X.env = (false, eval e1 X.env) :: starEach [e2] X.env := by rfl) (hpl : (backTo pos (starEach [e2] X.env)).any (·.1) = false := by rfl) :
    PI X (.Tuple elts kk tpos) (.Call (.Name "zip" p) [e1, e2] [] pos) (iZip2 K ta) := h ▸ pi_z2 hg hm ha hs hpl
theorem kw_z3 {e1 e2 e3 : Expr} {ta : TA} {p pos tpos : Pos} {elts : List Expr} {kk : Nat} (hg : Gl X "zip") (hm : X.mg "zip" = none) (ha : PA X [e1, e2, e3] ta) (h : X.K = K := by rfl)
    (hs : starEach [e1, e2, e3] X.env = (false, eval e1 X.env) :: starEach [e2, e3] X.env := by rfl) (hpl : (backTo pos (starEach [e2, e3] X.env)).any (·.1) = false := by rfl) :
    PI X (.Tuple elts kk tpos) (.Call (.Name "zip" p) [e1, e2, e3] [] pos) (iZip3 K ta) := h ▸ pi_z3 hg hm ha hs hpl
theorem kw_en {e : Expr} {ta : TA} {p pos tpos : Pos} {elts : List Expr} {kk : Nat} (hg : Gl X "enumerate") (hm : X.mg "enumerate" = none) (ha : PA X [e] ta) (h : X.K = K := by rfl) (hs : starEach [e] X.env = [(false, eval e X.env)] := by rfl) :
    PI X (.Tuple elts kk tpos) (.Call (.Name "enumerate" p) [e] [] pos) (iEn K ta) := h ▸ pi_en hg hm ha hs
end
end L3
end

section
set_option Elab.async false
set_option linter.all false
set_option maxRecDepth 100000
set_option autoImplicit false
/-! Statements one behind the other, in short. -/
namespace L3
open PySem L2
section
variable {K : PySem.W.Frag} {ds ds1 : List Sl} {P : Post} {t u v : TS} {te ta tb tc tv ty : TE} {tr : TA} {tt : TT} {d x y z : PyData} {xs ys zs : List PyData} {es : List (List Key × PyData)} {wi : TI}
theorem lt_of_some {α : Type} {l : List α} {i : Nat} (h : l[i]?.isSome = true) : i < l.length := by
  cases q : l[i]? with
  | none => rw [q] at h; cases h
  | some x => exact (List.getElem?_eq_some_iff.mp q).1
theorem q_asg {i : Nat} {s : Sl} (h : Ek K te ds s) (n : Sx K u (ds.set i s) P) (hi : ds[i]?.isSome = true := by rfl) : Sx K (tSeq (tAsg te (gName i)) u) ds P := sx_seq1 (sx_asg h (lt_of_some hi) rfl) n
theorem q_set {i : Nat} (h : Ev K te ds d) (n : Sx K u (ds.set i (.pu d)) P) (hi : ds[i]?.isSome = true := by rfl) : Sx K (tSeq (tAsg te (gName i)) u) ds P := q_asg h.ek n hi
theorem q_new {i : Nat} (h : EnL K te ds xs) (n : Sx K u (ds.set i (.ol xs)) P) (hi : ds[i]?.isSome = true := by rfl) : Sx K (tSeq (tAsg te (gName i)) u) ds P := q_asg h.ek n hi
theorem q_dict {i : Nat} (h : EnD K te ds es) (n : Sx K u (ds.set i (.od es)) P) (hi : ds[i]?.isSome = true := by rfl) : Sx K (tSeq (tAsg te (gName i)) u) ds P := q_asg (ek_dict h) n hi
theorem q_par {i j : Nat} {s1 s2 : Sl} (h1 : Ek K ta ds s1) (h2 : Ek K tb ds s2) (n : Sx K u ((ds.set i s1).set j s2) P) (hi : ds[i]?.isSome = true := by rfl) (hj : ds[j]?.isSome = true := by rfl) : Sx K (tSeq (tPar i j (tCons ta (tCons tb tNil))) u) ds P := sx_seq1 (sx_par h1 h2 (lt_of_some hi) (lt_of_some hj) rfl) n
theorem q_tpar3 {i j l : Nat} {s1 s2 s3 : Sl} (h1 : Ek K ta ds s1) (h2 : Ek K tb ds s2) (h3 : Ek K te ds s3) (n : Sx K u (((ds.set i s1).set j s2).set l s3) P) (hi : ds[i]?.isSome = true := by rfl) (hj : ds[j]?.isSome = true := by rfl) (hl : ds[l]?.isSome = true := by rfl) :
    Sx K (tSeq (tAsg (tTup (tCons ta (tCons tb (tCons te tNil)))) (gTup K 3 (gCons (gName i) (gCons (gName j) (gCons (gName l) gNil))))) u) ds P := sx_seq1 (sx_tpar3 h1 h2 h3 (lt_of_some hi) (lt_of_some hj) (lt_of_some hl) rfl) n
theorem q_un2 {i j : Nat} (h : Ev K te ds (.tuple [x, y])) (n : Sx K u ((ds.set i (.pu x)).set j (.pu y)) P) (hi : ds[i]?.isSome = true := by rfl) (hj : ds[j]?.isSome = true := by rfl) : Sx K (tSeq (tAsg te (gTup K 2 (gCons (gName i) (gCons (gName j) gNil)))) u) ds P := sx_seq1 (sx_un2 h (lt_of_some hi) (lt_of_some hj) rfl) n
/-- an if that is not taken -/
theorem q_no (h : Et K tt ds false) (n : Sx K u ds P) : Sx K (tSeq (tIfS tt t tNext) u) ds P := sx_seq1 (sx_if h (fun e => nomatch e) fun _ => sx_next rfl) n
theorem q_drop (h : Ev K te ds d) (n : Sx K u ds P) : Sx K (tSeq (tDrop te) u) ds P := sx_seq1 (sx_drop h rfl) n
theorem q_app {i : Nat} (h : ds[i]? = some (.ol xs)) (he : Ev K te ds d) (hl : xs.length < 100000) (n : Sx K u (ds.set i (.ol (xs ++ [d]))) P) : Sx K (tSeq (tDrop (tBM K "list" rAppend (tVar i) (tCons te tNil))) u) ds P := sx_seq1 (sx_app h he hl rfl) n
theorem q_lock {i j : Nat} (h : ds[i]? = some (.od es)) (hl : EnL K te (ds.set i (.fd es)) xs) (n : Sx K u (ds.set j (.pu (.list xs))) P) (hj : ds[j]?.isSome = true := by rfl) : Sx K (tSeq (tLock (tAsg te (gName j))) u) ds P := sx_seq1 (sx_lockL h hl (lt_of_some hj) (.inr rfl) rfl) n
theorem q_for {g : TG} {α : Type} {js : List Nat} (ls : List α) (enc : α → PyData) (Inv : Nat → List Sl → Prop) (T : α → List Sl → List Sl)
    (hi : EI K wi ds (ls.map enc)) (h0 : Inv 0 ds) (hg : ∀ i l ds, ls[i]? = some l → Inv i ds → Tg K g (enc l) ds (T l ds) js)
    (hs : ∀ i l ds, ls[i]? = some l → Inv i ds → Sx K t (T l ds) { P with nx := Inv (i + 1), ct := Inv (i + 1), bk := Inv ls.length }) (n : ∀ ds, Inv ls.length ds → Sx K u ds P) : Sx K (tSeq (tFor wi g t) u) ds P :=
  sx_seq (Mid := Inv ls.length) (sx_for ls enc Inv T hi h0 hg hs fun ds h => h) n
theorem tg1 {i : Nat} (hi : ds[i]?.isSome = true := by rfl) : Tg K (gName i) d ds (ds.set i (.pu d)) [i] := tg_name (lt_of_some hi)
theorem tg2 {i j : Nat} (hi : ds[i]?.isSome = true := by rfl) (hj : ds[j]?.isSome = true := by rfl) : Tg K (gTup K 2 (gCons (gName i) (gCons (gName j) gNil))) (.tuple [x, y]) ds ((ds.set i (.pu x)).set j (.pu y)) ([i] ++ [j]) := tg_two (lt_of_some hi) (lt_of_some hj)
/-- comprehensions by the number of their names -/
theorem lc1 {i : Nat} {α : Type} (ls : List α) (enc f : α → PyData) (hi : EIr K wi ds (ls.map enc)) (hl : ls.length ≤ 90000) (he : ∀ l ∈ ls, Ev K te ((wipeD ds [i]).set i (.pu (enc l))) (f l)) (hx : ds[i]?.isSome = true := by rfl) : EnL K (tLc wi (gName i) tYes te [i]) ds (ls.map f) :=
  en_lcm ls enc (fun l => (wipeD ds [i]).set i (.pu (enc l))) f hi hl (fun j hj => hj) (fun l _ => tg_name (by rw [wipeD_length]; exact lt_of_some hx)) he
theorem lc1f {i : Nat} {α : Type} (ls : List α) (enc f : α → PyData) (p : α → Bool) (hi : EIr K wi ds (ls.map enc)) (hl : ls.length ≤ 90000) (ht : ∀ l ∈ ls, Et K tt ((wipeD ds [i]).set i (.pu (enc l))) (p l)) (he : ∀ l ∈ ls, p l = true → Ev K te ((wipeD ds [i]).set i (.pu (enc l))) (f l)) (hx : ds[i]?.isSome = true := by rfl) : EnL K (tLc wi (gName i) tt te [i]) ds ((ls.filter p).map f) :=
  en_lc ls enc (fun l => (wipeD ds [i]).set i (.pu (enc l))) p f hi hl (fun j hj => hj) (fun l _ => tg_name (by rw [wipeD_length]; exact lt_of_some hx)) ht he
theorem lc2 {i j : Nat} {α : Type} (ls : List α) (e1 e2 f : α → PyData) (hi : EIr K wi ds (ls.map fun l => .tuple [e1 l, e2 l])) (hl : ls.length ≤ 90000) (he : ∀ l ∈ ls, Ev K te (((wipeD ds [i, j]).set i (.pu (e1 l))).set j (.pu (e2 l))) (f l)) (hx : ds[i]?.isSome = true := by rfl) (hy : ds[j]?.isSome = true := by rfl) :
    EnL K (tLc wi (gTup K 2 (gCons (gName i) (gCons (gName j) gNil))) tYes te [i, j]) ds (ls.map f) :=
  en_lcm ls _ (fun l => ((wipeD ds [i, j]).set i (.pu (e1 l))).set j (.pu (e2 l))) f hi hl (fun j hj => hj) (fun l _ => tg_two (by rw [wipeD_length]; exact lt_of_some hx) (by rw [wipeD_length]; exact lt_of_some hy)) he
theorem lc2f {i j : Nat} {α : Type} (ls : List α) (e1 e2 f : α → PyData) (p : α → Bool) (hi : EIr K wi ds (ls.map fun l => .tuple [e1 l, e2 l])) (hl : ls.length ≤ 90000) (ht : ∀ l ∈ ls, Et K tt (((wipeD ds [i, j]).set i (.pu (e1 l))).set j (.pu (e2 l))) (p l))
    (he : ∀ l ∈ ls, p l = true → Ev K te (((wipeD ds [i, j]).set i (.pu (e1 l))).set j (.pu (e2 l))) (f l)) (hx : ds[i]?.isSome = true := by rfl) (hy : ds[j]?.isSome = true := by rfl) :
    EnL K (tLc wi (gTup K 2 (gCons (gName i) (gCons (gName j) gNil))) tt te [i, j]) ds ((ls.filter p).map f) :=
  en_lc ls _ (fun l => ((wipeD ds [i, j]).set i (.pu (e1 l))).set j (.pu (e2 l))) p f hi hl (fun j hj => hj) (fun l _ => tg_two (by rw [wipeD_length]; exact lt_of_some hx) (by rw [wipeD_length]; exact lt_of_some hy)) ht he
theorem lc3 {i j k : Nat} {α : Type} (ls : List α) (e1 e2 e3 f : α → PyData) (hi : EIr K wi ds (ls.map fun l => .tuple [e1 l, e2 l, e3 l])) (hl : ls.length ≤ 90000) (he : ∀ l ∈ ls, Ev K te ((((wipeD ds [i, j, k]).set i (.pu (e1 l))).set j (.pu (e2 l))).set k (.pu (e3 l))) (f l)) (hx : ds[i]?.isSome = true := by rfl) (hy : ds[j]?.isSome = true := by rfl) (hz : ds[k]?.isSome = true := by rfl) :
    EnL K (tLc wi (gTup K 3 (gCons (gName i) (gCons (gName j) (gCons (gName k) gNil)))) tYes te [i, j, k]) ds (ls.map f) :=
  en_lcm ls _ (fun l => (((wipeD ds [i, j, k]).set i (.pu (e1 l))).set j (.pu (e2 l))).set k (.pu (e3 l))) f hi hl (fun j hj => hj) (fun l _ => tg_three (by rw [wipeD_length]; exact lt_of_some hx) (by rw [wipeD_length]; exact lt_of_some hy) (by rw [wipeD_length]; exact lt_of_some hz)) he
theorem lc3f {i j k : Nat} {α : Type} (ls : List α) (e1 e2 e3 f : α → PyData) (p : α → Bool) (hi : EIr K wi ds (ls.map fun l => .tuple [e1 l, e2 l, e3 l])) (hl : ls.length ≤ 90000) (ht : ∀ l ∈ ls, Et K tt ((((wipeD ds [i, j, k]).set i (.pu (e1 l))).set j (.pu (e2 l))).set k (.pu (e3 l))) (p l))
    (he : ∀ l ∈ ls, p l = true → Ev K te ((((wipeD ds [i, j, k]).set i (.pu (e1 l))).set j (.pu (e2 l))).set k (.pu (e3 l))) (f l)) (hx : ds[i]?.isSome = true := by rfl) (hy : ds[j]?.isSome = true := by rfl) (hz : ds[k]?.isSome = true := by rfl) :
    EnL K (tLc wi (gTup K 3 (gCons (gName i) (gCons (gName j) (gCons (gName k) gNil)))) tt te [i, j, k]) ds ((ls.filter p).map f) :=
  en_lc ls _ (fun l => (((wipeD ds [i, j, k]).set i (.pu (e1 l))).set j (.pu (e2 l))).set k (.pu (e3 l))) p f hi hl (fun j hj => hj) (fun l _ => tg_three (by rw [wipeD_length]; exact lt_of_some hx) (by rw [wipeD_length]; exact lt_of_some hy) (by rw [wipeD_length]; exact lt_of_some hz)) ht he
theorem EnL.is (h : EnL K te ds xs) (e : xs = ys) : EnL K te ds ys := e ▸ h
theorem ErL.is (h : ErL K te ds xs) (e : xs = ys) : ErL K te ds ys := e ▸ h
theorem EI.is (h : EI K wi ds xs) (e : xs = ys) : EI K wi ds ys := e ▸ h
theorem EIr.is (h : EIr K wi ds xs) (e : xs = ys) : EIr K wi ds ys := e ▸ h
theorem ev_allM {α : Type} {ls : List α} {g : α → Bool} (h : ErL K ta ds (ls.map fun l => .bool (g l))) : Ev K (tCB (rAll K) (tCons ta tNil)) ds (.bool (ls.all g)) := by
  have q := ev_all (bs := ls.map g) (h.is (by rw [List.map_map]; rfl))
  rw [List.all_map] at q
  exact q
theorem ev_anyM {α : Type} {ls : List α} {g : α → Bool} (h : ErL K ta ds (ls.map fun l => .bool (g l))) : Ev K (tCB (rAny K) (tCons ta tNil)) ds (.bool (ls.any g)) := by
  have q := ev_any (bs := ls.map g) (h.is (by rw [List.map_map]; rfl))
  rw [List.any_map] at q
  exact q
theorem ev_sumM {α : Type} {ls : List α} {g : α → Int} (h : ErL K ta ds (ls.map fun l => .int (g l))) : Ev K (tCB (rSum K) (tCons ta tNil)) ds (.int (ls.map g).sum) := ev_sum (ns := ls.map g) (h.is (by rw [List.map_map]; rfl))
/-- zips of what is encoded -/
theorem zipD_map {α β : Type} (l : List α) (m : List β) (e : α → PyData) (e' : β → PyData) : zipD (l.map e) (m.map e') = (l.zip m).map fun p => .tuple [e p.1, e' p.2] := by
  unfold zipD
  rw [List.zip_map, List.map_map]
  rfl
theorem zip3D_map {α β γ : Type} (l : List α) (m : List β) (n : List γ) (e : α → PyData) (e' : β → PyData) (e'' : γ → PyData) : zip3D (l.map e) (m.map e') (n.map e'') = (l.zip (m.zip n)).map fun p => .tuple [e p.1, e' p.2.1, e'' p.2.2] := by
  unfold zip3D
  rw [List.zip_map, List.zip_map, List.map_map]
  rfl
theorem enumD_map {α : Type} (l : List α) (e : α → PyData) : enumD (l.map e) = l.zipIdx.map fun p => .tuple [.int (p.2 : Nat), e p.1] := by
  unfold enumD
  rw [List.zipIdx_map, List.map_map]
  rfl
theorem cutD_from (xs : List PyData) (n : Nat) : cutD xs (some (n : Int)) none = xs.drop n := by
  unfold cutD
  rw [HT.sIx_nat, HT.sIx_none]
  have e : xs.drop (min n xs.length) = xs.drop n := by
    rcases Nat.le_total n xs.length with h | h
    · rw [Nat.min_eq_left h]
    · rw [Nat.min_eq_right h, List.drop_length, List.drop_of_length_le h]
  rw [e, List.take_of_length_le (by rw [List.length_drop]; omega)]
theorem cutD_to (xs : List PyData) (n : Nat) : cutD xs none (some (n : Int)) = xs.take n := by
  unfold cutD
  rw [HT.sIx_nat, HT.sIx_none, List.drop_zero, Nat.sub_zero]
  rcases Nat.le_total n xs.length with h | h
  · rw [Nat.min_eq_left h]
  · rw [Nat.min_eq_right h, List.take_length, List.take_of_length_le h]
end
end L3
end

section
set_option Elab.async false
set_option linter.all false
set_option maxRecDepth 100000
set_option autoImplicit false
/-! The keys of a locked dict walked; dict(zip). -/
namespace L3
open PySem L2
section
variable {K : PySem.W.Frag} {ds ds1 : List Sl} {P : Post} {t u v : TS} {te ta tb tc tv ty : TE} {tr : TA} {tt : TT} {d x y z : PyData} {xs ys zs : List PyData} {es : List (List Key × PyData)} {wi : TI}
theorem eIr_keys {i : Nat} (h : ds[i]? = some (.fd es)) : EIr K (iKeys (tVar i)) ds (es.map fun p => kD p.1) := fun W N σ H S R q => by
  obtain ⟨a, kvs, ob, e, aW, aN, ha, r⟩ := S.sl i _ h
  have lk := r.length
  refine ⟨.ref a, getD_of e, a, ob, rfl, .inr ⟨kvs, ha, q _ H (Ex.refl H) ⟨fun j H2 hj e2 => ?_, fun H2 e2 => ?_, fun j H2 W' x H' d hd e2 _ A y => ?_⟩⟩⟩
  · rw [List.length_map] at hj
    exact ⟨e2 _ _ ha, by rw [lk]; exact hj⟩
  · rw [List.length_map, ← lk]
    exact ⟨e2 _ _ ha, Nat.le_refl _⟩
  · obtain ⟨e', k, v, b, h1, h2, h3⟩ := y
    subst e' h2
    rw [List.getElem?_map] at hd
    obtain ⟨p, hp, ep⟩ := Option.map_eq_some_iff.mp hd
    have ek : p.1 = k := by
      have h4 : (kvs.map (·.1))[j]? = some k := by rw [List.getElem?_map, h1]; rfl
      rw [r.keys, List.getElem?_map, hp] at h4
      exact Option.some.inj h4
    subst ek ep
    exact ⟨Ex.refl _, .tup (by rw [cut_out (A.tup h3)]; exact h3) (RpAll.of_key _)⟩
theorem RpAll.keysOf {I : Hp} : ∀ {vs : List V} {ks : List (List Key)}, RpAll K I vs (ks.map kD) → ∃ bs : List Addr, vs = bs.map V.ref ∧ bs.length = ks.length ∧ ∀ (j : Nat) (k : List Key) (b : Addr), ks[j]? = some k → bs[j]? = some b → I b = some (.tup (k.map kV))
  | _, [], .nil => ⟨[], rfl, rfl, fun j k b h => by simp at h⟩
  | _, k :: ks, .cons (v := v) h r => by
    obtain ⟨bs, e, l, f⟩ := RpAll.keysOf (ks := ks) r
    have h' : Rp K I v (.tuple (k.map keyD)) := h
    cases h' with
    | @tup b vs' _ hb rb =>
      have ev := rb.key
      subst ev
      refine ⟨b :: bs, by rw [e]; rfl, by rw [List.length_cons, List.length_cons, l], fun j k' b' h1 h2 => ?_⟩
      cases j with
      | zero =>
        cases h1
        cases h2
        exact hb
      | succ j => exact f j k' b' h1 h2
theorem RpKV.ofZip {I : Hp} : ∀ {ks : List (List Key)} {vs : List V} {ds : List PyData}, RpAll K I vs ds → RpKV K I (ks.zip vs) (ks.zip ds)
  | [], _, _, _ => by simp only [List.zip_nil_left]; exact .nil
  | _ :: _, _, _, .nil => by simp only [List.zip_nil_right]; exact .nil
  | k :: ks, _, _, .cons h r => .cons h (RpKV.ofZip r)
/-- dict(zip(keys, values)) -/
theorem end_dzip {k2 : Kd} {ks : List (List Key)} (h1 : Ev K ta ds (.tuple (ks.map kD))) (h2 : Ev K tb ds (k2.D ys)) (nd : ks.Nodup) (hl : ys.length = ks.length) (hm : ks.length ≤ 1000) : EnD K (tDZip K (tCons ta (tCons tb tNil))) ds (ks.zip ys) := fun W N σ H S Q q =>
  Ev.runS (k := .t) h1 W N σ H S _ fun a1 us H1 e1 s1 r1 => h2.runS W N σ H1 (S.mono e1) _ fun a2 vs H2 e2 s2 r2 => by
    obtain ⟨bs, eb, lb, f⟩ := (r1.mono (cut_mono e2)).keysOf
    subst eb
    refine ⟨.t, k2, a1, a2, bs, ks, vs, rfl, sq_ex cut_ex (sq_ex (cut_mono e2) s1), sq_ex cut_ex s2, lb.symm, by rw [r2.length, hl, lb], by rw [lb]; exact hm, nd, fun j k b hk hb => cut_ex _ _ (f j k b hk hb), fun p hp => ?_⟩
    exact q p _ _ ((e1.trans e2).trans (Ex.new hp)) ((e1.trans e2).back hp) upd_same (RpKV.ofZip (r2.mono (cut_cons hp (Ex.new hp))))
end
end L3
end

section
set_option Elab.async false
set_option linter.all false
set_option maxRecDepth 100000
set_option autoImplicit false
/-! the law's own def -/
namespace L3
open PySem L2
def spLaw (K : PySem.W.Frag) : Sp := fun vs H Q _ => ∃ (a : Addr) (ns : List Int), vs = [.ref a] ∧ SqL K H a (ns.map V.int) ∧ ns.length ≤ 63 ∧ ∀ H', Q (.bl true) H'
theorem cut_none (H : Hp) : cut H [] = H := funext fun a => by unfold cut; rw [if_neg (fun z => nomatch z)]
theorem rp_ints {K : PySem.W.Frag} {I : Hp} : ∀ ns : List Int, RpAll K I (ns.map V.int) (ns.map PyData.int)
  | [] => .nil
  | n :: r => .cons (.int n) (rp_ints r)
section
variable {Pr : Program} {w : World} {K : PySem.W.Frag} {mg : Str → Option Value} {base : Heap} {nm qual : Str} {st : Stmt} {f : Addr} {fd : FuncData} {Nm : List Str} {k : Nat}
theorem fn_okL (F : Fun K nm qual st f fd) (S : FnScope Nm ["script"] (defScope st))
    (body : ∀ (cdv : Value) (A : Around) (outer : List Env) (s : Shared) (H : Hp) (E : XK), Room k (A.deeper (PyProof.Rows.envOfC qual (defScope st) s.heap.objs.size f cdv)) →
      ∃ t, PSs (cxOf CX0 Pr w K mg base Nm qual (defScope st) f cdv A outer s H E).nox (defBody st) t ∧ ∀ ns : List Int, ns.length ≤ 63 → Sx K t (startD1 Nm (.rl (ns.map .int)) []) { nx := fun _ => False, rt := fun d _ => d = .bool true }) : FnOk Pr w K mg base CX0 (k + 1) f fd ["script"] (spLaw K) := by
  refine F.ok S (fun vs H Q E h => ?_) (fun cdv A outer s H vs Q E hr h => ?_)
  · obtain ⟨a, ns, e, _⟩ := h
    rw [e]; rfl
  · obtain ⟨a, ns, e, sq, hl, q⟩ := h
    subst e
    obtain ⟨t, ht, hb⟩ := body cdv A outer s H E hr
    refine ⟨t, ht, ?_⟩
    have hA : Al [] H := fun a h => nomatch h
    have hl1 : ([] : List PyData).length + 1 ≤ Nm.length := by
      have := congrArg List.length S.pre
      rw [List.length_take] at this
      have e : (["script"] : List Str).length = 1 := rfl
      rw [e] at this
      show 0 + 1 ≤ Nm.length
      omega
    refine hb ns hl (cut H []) [] [] [] H [] (L2.start Nm [.ref a]) H ⟨start_stt1 (vs := []) (xs := []) hA ⟨a, ns.map V.int, rfl, by rw [cut_none]; exact sq, by rw [cut_none]; exact rp_ints ns⟩ .nil hl1, fun _ h => h, fun a h1 h2 => absurd h1 h2, fun _ _ _ h => h, fun _ h _ => h, fun _ h => h, (fun _ h => nomatch h), fun i s a h nb o hs => ?_, Ex.refl _, fun i xs a h hs => ?_⟩ _ ⟨fun _ _ _ _ h _ => h.elim, fun W' σ' H' ds' v d' p F' r => ?_, fun _ _ _ _ h _ => h.elim, fun _ _ _ _ h _ => h.elim, fun _ _ _ _ _ _ _ h _ _ _ _ => h.elim⟩
    · exfalso
      rcases startD1_get h with ⟨_, z⟩ | ⟨d, z⟩ | z <;> (subst z; cases o)
    · exfalso
      rcases startD1_get h with ⟨_, z⟩ | ⟨d, z⟩ | z <;> cases z
    · have p' : d' = .bool true := p
      subst p'
      cases r
      exact q H'
end
section
variable {K : PySem.W.Frag} {ds : List Sl} {te : TE}
theorem ets_B {P : Bool → List Sl → Prop} (h : Es K te ds fun d ds1 => ∃ b, d = .bool b ∧ P b ds1) : Ets K (tB te) ds P := fun B W0 M N H0 W σ H F Q q =>
  h B W0 M N H0 W σ H F _ fun v H' W' d ds' ⟨b, e, p⟩ F' r => by
    subst e
    cases r
    exact ⟨b, rfl, q b H' W' ds' p F'⟩
/-- all([..]) of a list that changes slots -/
theorem cd_all {bs : List Bool} : CD K (rAll K) [.list (bs.map .bool)] (.bool (bs.all id)) := fun W H vs A r Q q => by
  cases r with
  | cons r1 r =>
    cases r
    cases r1 with
    | lst hs r1 =>
      have e := r1.bls
      subst e
      exact ⟨_, bs, rfl, .inl (.inl (cut_ex _ _ hs)), q _ H (Ex.refl H) (.bl _)⟩
end
end L3
end

section
set_option Elab.async false
set_option linter.all false
set_option maxRecDepth 100000
set_option autoImplicit false
/-! The text of the law: its defs, their names, what stands behind the top. -/
namespace L3
open PySem L2
def topS (i : Nat) : Stmt := PySem.Challenge.pw_laidbefore_k44_whole_cores_cut_at_a_laye.main.body.getD i (.Pass ⟨0, 0, 0, 0⟩)
abbrev st_is_integer : Stmt := topS 10
abbrev st_is_between : Stmt := topS 11
abbrev st_is_name : Stmt := topS 12
abbrev st_is_weight : Stmt := topS 13
abbrev st_is_ascending : Stmt := topS 14
abbrev st_is_core : Stmt := topS 21
abbrev st_is_cores : Stmt := topS 22
abbrev st_is_like : Stmt := topS 23
abbrev st_have_likes_form : Stmt := topS 24
abbrev st_check_cores : Stmt := topS 25
abbrev st_check_likes : Stmt := topS 26
abbrev st_check_like : Stmt := topS 27
abbrev st_is_behind : Stmt := topS 28
abbrev st_do_agree : Stmt := topS 29
abbrev st_heights : Stmt := topS 30
abbrev st_depths : Stmt := topS 31
abbrev st_worth_of : Stmt := topS 32
abbrev st_match_by : Stmt := topS 33
abbrev st_counts_of : Stmt := topS 34
abbrev st_best : Stmt := topS 35
abbrev st_is_match : Stmt := topS 36
abbrev st_is_one_of : Stmt := topS 37
abbrev st_is_count : Stmt := topS 38
abbrev st_shows_best : Stmt := topS 39
abbrev st_worth : Stmt := topS 40
abbrev st_through : Stmt := topS 41
abbrev st_worth_with : Stmt := topS 42
abbrev st_sort_of : Stmt := topS 43
abbrev st_sorts : Stmt := topS 44
abbrev st_least_of_best : Stmt := topS 45
abbrev st_most_of_best : Stmt := topS 46
abbrev st_raise_to : Stmt := topS 47
abbrev st__law_pot : Stmt := topS 49
abbrev st__law_take : Stmt := topS 50
abbrev st__law_cells : Stmt := topS 51
abbrev st__law_some : Stmt := topS 52
abbrev st__law_drawn : Stmt := topS 53
abbrev st__law_matches : Stmt := topS 54
abbrev st__law_agrees : Stmt := topS 55
abbrev st__law_weight : Stmt := topS 56
abbrev st__law_part : Stmt := topS 57
abbrev st__law_are_cuts_right : Stmt := topS 58
abbrev st__law_are_likes_right : Stmt := topS 59
abbrev st__law_are_counts_right : Stmt := topS 60
abbrev st__law_right : Stmt := topS 61
abbrev st_law : Stmt := topS 62
abbrev N_is_integer : List Str := ["value"]
theorem sc_is_integer : FnScope N_is_integer ["value"] (defScope st_is_integer) := ⟨rfl, rfl, rfl, by decide +kernel, rfl, by decide +kernel, by decide +kernel⟩
abbrev N_is_between : List Str := ["value", "least", "most"]
theorem sc_is_between : FnScope N_is_between ["value", "least", "most"] (defScope st_is_between) := ⟨rfl, rfl, rfl, by decide +kernel, rfl, by decide +kernel, by decide +kernel⟩
abbrev N_is_name : List Str := ["value", "sign"]
theorem sc_is_name : FnScope N_is_name ["value"] (defScope st_is_name) := ⟨rfl, rfl, rfl, by decide +kernel, rfl, by decide +kernel, by decide +kernel⟩
abbrev N_is_weight : List Str := ["value"]
theorem sc_is_weight : FnScope N_is_weight ["value"] (defScope st_is_weight) := ⟨rfl, rfl, rfl, by decide +kernel, rfl, by decide +kernel, by decide +kernel⟩
abbrev N_is_ascending : List Str := ["values", "one", "other"]
theorem sc_is_ascending : FnScope N_is_ascending ["values"] (defScope st_is_ascending) := ⟨rfl, rfl, rfl, by decide +kernel, rfl, by decide +kernel, by decide +kernel⟩
abbrev N_is_core : List Str := ["value", "one"]
theorem sc_is_core : FnScope N_is_core ["value"] (defScope st_is_core) := ⟨rfl, rfl, rfl, by decide +kernel, rfl, by decide +kernel, by decide +kernel⟩
abbrev N_is_cores : List Str := ["value"]
theorem sc_is_cores : FnScope N_is_cores ["value"] (defScope st_is_cores) := ⟨rfl, rfl, rfl, by decide +kernel, rfl, by decide +kernel, by decide +kernel⟩
abbrev N_is_like : List Str := ["cores", "value"]
theorem sc_is_like : FnScope N_is_like ["cores", "value"] (defScope st_is_like) := ⟨rfl, rfl, rfl, by decide +kernel, rfl, by decide +kernel, by decide +kernel⟩
abbrev N_have_likes_form : List Str := ["cores", "value", "one"]
theorem sc_have_likes_form : FnScope N_have_likes_form ["cores", "value"] (defScope st_have_likes_form) := ⟨rfl, rfl, rfl, by decide +kernel, rfl, by decide +kernel, by decide +kernel⟩
abbrev N_check_cores : List Str := ["cores"]
theorem sc_check_cores : FnScope N_check_cores ["cores"] (defScope st_check_cores) := ⟨rfl, rfl, rfl, by decide +kernel, rfl, by decide +kernel, by decide +kernel⟩
abbrev N_check_likes : List Str := ["cores", "likes"]
theorem sc_check_likes : FnScope N_check_likes ["cores", "likes"] (defScope st_check_likes) := ⟨rfl, rfl, rfl, by decide +kernel, rfl, by decide +kernel, by decide +kernel⟩
abbrev N_check_like : List Str := ["cores", "likes", "like"]
theorem sc_check_like : FnScope N_check_like ["cores", "likes", "like"] (defScope st_check_like) := ⟨rfl, rfl, rfl, by decide +kernel, rfl, by decide +kernel, by decide +kernel⟩
abbrev N_is_behind : List Str := ["one", "other"]
theorem sc_is_behind : FnScope N_is_behind ["one", "other"] (defScope st_is_behind) := ⟨rfl, rfl, rfl, by decide +kernel, rfl, by decide +kernel, by decide +kernel⟩
abbrev N_do_agree : List Str := ["one", "other"]
theorem sc_do_agree : FnScope N_do_agree ["one", "other"] (defScope st_do_agree) := ⟨rfl, rfl, rfl, by decide +kernel, rfl, by decide +kernel, by decide +kernel⟩
abbrev N_heights : List Str := ["likes", "found", "like", "below", "one", "height"]
theorem sc_heights : FnScope N_heights ["likes"] (defScope st_heights) := ⟨rfl, rfl, rfl, by decide +kernel, rfl, by decide +kernel, by decide +kernel⟩
abbrev N_depths : List Str := ["likes", "found", "like", "above", "one"]
theorem sc_depths : FnScope N_depths ["likes"] (defScope st_depths) := ⟨rfl, rfl, rfl, by decide +kernel, rfl, by decide +kernel, by decide +kernel⟩
abbrev N_worth_of : List Str := ["likes"]
theorem sc_worth_of : FnScope N_worth_of ["likes"] (defScope st_worth_of) := ⟨rfl, rfl, rfl, by decide +kernel, rfl, by decide +kernel, by decide +kernel⟩
abbrev N_match_by : List Str := ["likes", "is_first", "left", "most", "found", "some", "like"]
theorem sc_match_by : FnScope N_match_by ["likes", "is_first"] (defScope st_match_by) := ⟨rfl, rfl, rfl, by decide +kernel, rfl, by decide +kernel, by decide +kernel⟩
abbrev N_counts_of : List Str := ["likes", "rows", "like", "height", "marks", "row", "found", "low", "high", "begin", "end"]
theorem sc_counts_of : FnScope N_counts_of ["likes"] (defScope st_counts_of) := ⟨rfl, rfl, rfl, by decide +kernel, rfl, by decide +kernel, by decide +kernel⟩
abbrev N_best : List Str := ["cores", "likes"]
theorem sc_best : FnScope N_best ["cores", "likes"] (defScope st_best) := ⟨rfl, rfl, rfl, by decide +kernel, rfl, by decide +kernel, by decide +kernel⟩
abbrev N_is_match : List Str := ["likes", "value", "like", "one", "other"]
theorem sc_is_match : FnScope N_is_match ["likes", "value"] (defScope st_is_match) := ⟨rfl, rfl, rfl, by decide +kernel, rfl, by decide +kernel, by decide +kernel⟩
abbrev N_is_one_of : List Str := ["likes", "value", "part"]
theorem sc_is_one_of : FnScope N_is_one_of ["likes", "value"] (defScope st_is_one_of) := ⟨rfl, rfl, rfl, by decide +kernel, rfl, by decide +kernel, by decide +kernel⟩
abbrev N_is_count : List Str := ["likes", "value", "some", "like", "other", "one"]
theorem sc_is_count : FnScope N_is_count ["likes", "value"] (defScope st_is_count) := ⟨rfl, rfl, rfl, by decide +kernel, rfl, by decide +kernel, by decide +kernel⟩
abbrev N_shows_best : List Str := ["cores", "likes", "value", "match", "counts", "one", "like", "some", "many"]
theorem sc_shows_best : FnScope N_shows_best ["cores", "likes", "value"] (defScope st_shows_best) := ⟨rfl, rfl, rfl, by decide +kernel, rfl, by decide +kernel, by decide +kernel⟩
abbrev N_worth : List Str := ["cores", "likes"]
theorem sc_worth : FnScope N_worth ["cores", "likes"] (defScope st_worth) := ⟨rfl, rfl, rfl, by decide +kernel, rfl, by decide +kernel, by decide +kernel⟩
abbrev N_through : List Str := ["likes", "like", "up", "down"]
theorem sc_through : FnScope N_through ["likes"] (defScope st_through) := ⟨rfl, rfl, rfl, by decide +kernel, rfl, by decide +kernel, by decide +kernel⟩
abbrev N_worth_with : List Str := ["cores", "likes", "like"]
theorem sc_worth_with : FnScope N_worth_with ["cores", "likes", "like"] (defScope st_worth_with) := ⟨rfl, rfl, rfl, by decide +kernel, rfl, by decide +kernel, by decide +kernel⟩
abbrev N_sort_of : List Str := ["likes", "number", "weight"]
theorem sc_sort_of : FnScope N_sort_of ["likes", "number", "weight"] (defScope st_sort_of) := ⟨rfl, rfl, rfl, by decide +kernel, rfl, by decide +kernel, by decide +kernel⟩
abbrev N_sorts : List Str := ["cores", "likes", "number", "weight"]
theorem sc_sorts : FnScope N_sorts ["cores", "likes"] (defScope st_sorts) := ⟨rfl, rfl, rfl, by decide +kernel, rfl, by decide +kernel, by decide +kernel⟩
abbrev N_least_of_best : List Str := ["cores", "likes"]
theorem sc_least_of_best : FnScope N_least_of_best ["cores", "likes"] (defScope st_least_of_best) := ⟨rfl, rfl, rfl, by decide +kernel, rfl, by decide +kernel, by decide +kernel⟩
abbrev N_most_of_best : List Str := ["cores", "likes"]
theorem sc_most_of_best : FnScope N_most_of_best ["cores", "likes"] (defScope st_most_of_best) := ⟨rfl, rfl, rfl, by decide +kernel, rfl, by decide +kernel, by decide +kernel⟩
abbrev N_raise_to : List Str := ["cores", "likes", "like"]
theorem sc_raise_to : FnScope N_raise_to ["cores", "likes", "like"] (defScope st_raise_to) := ⟨rfl, rfl, rfl, by decide +kernel, rfl, by decide +kernel, by decide +kernel⟩
abbrev N__law_pot : List Str := ["script", "place", "cell", "own", "small"]
theorem sc__law_pot : FnScope N__law_pot ["script", "place"] (defScope st__law_pot) := ⟨rfl, rfl, rfl, by decide +kernel, rfl, by decide +kernel, by decide +kernel⟩
abbrev N__law_take : List Str := ["pot", "upto", "digit", "prime", "blend"]
theorem sc__law_take : FnScope N__law_take ["pot", "upto"] (defScope st__law_take) := ⟨rfl, rfl, rfl, by decide +kernel, rfl, by decide +kernel, by decide +kernel⟩
abbrev N__law_cells : List Str := ["script", "most"]
theorem sc__law_cells : FnScope N__law_cells ["script", "most"] (defScope st__law_cells) := ⟨rfl, rfl, rfl, by decide +kernel, rfl, by decide +kernel, by decide +kernel⟩
abbrev N__law_some : List Str := ["pot", "pool", "amount", "left", "found", "lap"]
theorem sc__law_some : FnScope N__law_some ["pot", "pool", "amount"] (defScope st__law_some) := ⟨rfl, rfl, rfl, by decide +kernel, rfl, by decide +kernel, by decide +kernel⟩
abbrev N__law_drawn : List Str := ["pot", "one", "other", "found", "lap", "pair"]
theorem sc__law_drawn : FnScope N__law_drawn ["pot"] (defScope st__law_drawn) := ⟨rfl, rfl, rfl, by decide +kernel, rfl, by decide +kernel, by decide +kernel⟩
abbrev N__law_matches : List Str := ["likes", "found", "like", "match"]
theorem sc__law_matches : FnScope N__law_matches ["likes"] (defScope st__law_matches) := ⟨rfl, rfl, rfl, by decide +kernel, rfl, by decide +kernel, by decide +kernel⟩
abbrev N__law_agrees : List Str := ["match", "like"]
theorem sc__law_agrees : FnScope N__law_agrees ["match", "like"] (defScope st__law_agrees) := ⟨rfl, rfl, rfl, by decide +kernel, rfl, by decide +kernel, by decide +kernel⟩
abbrev N__law_weight : List Str := ["match", "like"]
theorem sc__law_weight : FnScope N__law_weight ["match"] (defScope st__law_weight) := ⟨rfl, rfl, rfl, by decide +kernel, rfl, by decide +kernel, by decide +kernel⟩
abbrev N__law_part : List Str := ["likes", "low", "high", "like"]
theorem sc__law_part : FnScope N__law_part ["likes", "low", "high"] (defScope st__law_part) := ⟨rfl, rfl, rfl, by decide +kernel, rfl, by decide +kernel, by decide +kernel⟩
abbrev N__law_are_cuts_right : List Str := ["cores", "likes", "whole", "ends", "at", "some", "to", "low", "high", "told", "one", "other"]
theorem sc__law_are_cuts_right : FnScope N__law_are_cuts_right ["cores", "likes", "whole"] (defScope st__law_are_cuts_right) := ⟨rfl, rfl, rfl, by decide +kernel, rfl, by decide +kernel, by decide +kernel⟩
abbrev N__law_are_likes_right : List Str := ["cores", "likes", "whole", "every", "ends", "top", "match", "words", "at", "like", "low", "high", "due", "count"]
theorem sc__law_are_likes_right : FnScope N__law_are_likes_right ["cores", "likes", "whole", "every"] (defScope st__law_are_likes_right) := ⟨rfl, rfl, rfl, by decide +kernel, rfl, by decide +kernel, by decide +kernel⟩
abbrev N__law_are_counts_right : List Str := ["cores", "likes", "counts", "whole", "some", "many", "like", "other", "one", "ends", "part", "left"]
theorem sc__law_are_counts_right : FnScope N__law_are_counts_right ["cores", "likes", "counts", "whole"] (defScope st__law_are_counts_right) := ⟨rfl, rfl, rfl, by decide +kernel, rfl, by decide +kernel, by decide +kernel⟩
abbrev N__law_right : List Str := ["pot", "cores", "likes", "every", "whole", "match", "counts", "at", "by", "longer", "moved", "like", "times", "led", "some", "many"]
theorem sc__law_right : FnScope N__law_right ["pot"] (defScope st__law_right) := ⟨rfl, rfl, rfl, by decide +kernel, rfl, by decide +kernel, by decide +kernel⟩
abbrev N_law : List Str := ["script", "place", "pot", "lap"]
theorem sc_law : FnScope N_law ["script"] (defScope st_law) := ⟨rfl, rfl, rfl, by decide +kernel, rfl, by decide +kernel, by decide +kernel⟩
theorem bt_abs : bootBuiltins "abs" = some (.builtin "abs") := by decide +kernel
theorem bt_all : bootBuiltins "all" = some (.builtin "all") := by decide +kernel
theorem bt_any : bootBuiltins "any" = some (.builtin "any") := by decide +kernel
theorem bt_bool : bootBuiltins "bool" = some (.type "bool") := by decide +kernel
theorem bt_dict : bootBuiltins "dict" = some (.type "dict") := by decide +kernel
theorem bt_enumerate : bootBuiltins "enumerate" = some (.type "enumerate") := by decide +kernel
theorem bt_int : bootBuiltins "int" = some (.type "int") := by decide +kernel
theorem bt_isinstance : bootBuiltins "isinstance" = some (.builtin "isinstance") := by decide +kernel
theorem bt_len : bootBuiltins "len" = some (.builtin "len") := by decide +kernel
theorem bt_list : bootBuiltins "list" = some (.type "list") := by decide +kernel
theorem bt_max : bootBuiltins "max" = some (.builtin "max") := by decide +kernel
theorem bt_min : bootBuiltins "min" = some (.builtin "min") := by decide +kernel
theorem bt_range : bootBuiltins "range" = some (.type "range") := by decide +kernel
theorem bt_set : bootBuiltins "set" = some (.type "set") := by decide +kernel
theorem bt_sorted : bootBuiltins "sorted" = some (.builtin "sorted") := by decide +kernel
theorem bt_str : bootBuiltins "str" = some (.type "str") := by decide +kernel
theorem bt_sum : bootBuiltins "sum" = some (.builtin "sum") := by decide +kernel
theorem bt_tuple : bootBuiltins "tuple" = some (.type "tuple") := by decide +kernel
theorem bt_zip : bootBuiltins "zip" = some (.type "zip") := by decide +kernel
/-- a constant of the module -/
def Cst (mg : Str → Option Value) (x : Str) (v : V) : Prop := ∃ u, mg x = some u ∧ RelV v u
theorem pe_cst {X : Cx} {x : Str} {v : V} {pos : Pos} (h : Cst X.mg x v) (hg : Gl X x := by rfl) (hd : (x == ("__debug__" : Str)) = false := by decide) : PE X (.Name x pos) (tC v) := by
  obtain ⟨u, hm, r⟩ := h
  exact pe_glob hg hm r hd
/-- a def of the module as it stands behind the top -/
def At (K : PySem.W.Frag) (mg : Str → Option Value) (x : Str) (st : Stmt) (ps : List Str) : Prop := ∃ f fd, Fun K x x st f fd ∧ Binds K fd ps [] ∧ mg x = some (.ref f)
/-- .. with its promise -/
def Ok (P : Program) (w : World) (K : PySem.W.Frag) (mg : Str → Option Value) (base : Heap) (x : Str) (k : Nat) (ps : List Str) (sp : Sp) : Prop :=
  ∃ f fd, mg x = some (.ref f) ∧ PySem.W.keepIn K (.ref f) = true ∧ Binds K fd ps [] ∧ FnOk P w K mg base CX0 k f fd ps sp
theorem pe_own {X : Cx} {x : Str} {k : Nat} {ps : List Str} {sp : Sp} {p pos : Pos} {e : Expr} {es : List Expr} {t : TA} (h : Ok X.prog X.w X.K X.mg X.base x k ps sp) (hr : Room k X.A) (hg : Gl X x) (ha : PA X (e :: es) t)
    (hdb : (x == ("__debug__" : Str)) = false := by decide) (he : starEach (e :: es) X.env = (false, eval e X.env) :: starEach es X.env := by rfl) (hpl : (backTo pos (starEach es X.env)).any (·.1) = false := by rfl) :
    PE X (.Call (.Name x p) (e :: es) [] pos) (tCall sp [] E0 t) := by
  obtain ⟨f, fd, hm, hk, hb, F⟩ := h
  exact pe_call F hr hg hm hk hb .nil pass0 ha hdb he hpl
/-! promises by the number of arguments -/
def R1 (R : PyData → PyData → Prop) : List PyData → PyData → Prop := fun xs d => ∃ a, xs = [a] ∧ R a d
def R2' (R : PyData → PyData → PyData → Prop) : List PyData → PyData → Prop := fun xs d => ∃ a b, xs = [a, b] ∧ R a b d
def R3' (R : PyData → PyData → PyData → PyData → Prop) : List PyData → PyData → Prop := fun xs d => ∃ a b c, xs = [a, b, c] ∧ R a b c d
def R4' (R : PyData → PyData → PyData → PyData → PyData → Prop) : List PyData → PyData → Prop := fun xs d => ∃ a b c e, xs = [a, b, c, e] ∧ R a b c e d
structure Fx (K : PySem.W.Frag) (mg : Str → Option Value) : Prop where
  f_is_integer : At K mg "is_integer" st_is_integer ["value"]
  f_is_between : At K mg "is_between" st_is_between ["value", "least", "most"]
  f_is_name : At K mg "is_name" st_is_name ["value"]
  f_is_weight : At K mg "is_weight" st_is_weight ["value"]
  f_is_ascending : At K mg "is_ascending" st_is_ascending ["values"]
  f_is_core : At K mg "is_core" st_is_core ["value"]
  f_is_cores : At K mg "is_cores" st_is_cores ["value"]
  f_is_like : At K mg "is_like" st_is_like ["cores", "value"]
  f_have_likes_form : At K mg "have_likes_form" st_have_likes_form ["cores", "value"]
  f_check_cores : At K mg "check_cores" st_check_cores ["cores"]
  f_check_likes : At K mg "check_likes" st_check_likes ["cores", "likes"]
  f_check_like : At K mg "check_like" st_check_like ["cores", "likes", "like"]
  f_is_behind : At K mg "is_behind" st_is_behind ["one", "other"]
  f_do_agree : At K mg "do_agree" st_do_agree ["one", "other"]
  f_heights : At K mg "heights" st_heights ["likes"]
  f_depths : At K mg "depths" st_depths ["likes"]
  f_worth_of : At K mg "worth_of" st_worth_of ["likes"]
  f_match_by : At K mg "match_by" st_match_by ["likes", "is_first"]
  f_counts_of : At K mg "counts_of" st_counts_of ["likes"]
  f_best : At K mg "best" st_best ["cores", "likes"]
  f_is_match : At K mg "is_match" st_is_match ["likes", "value"]
  f_is_one_of : At K mg "is_one_of" st_is_one_of ["likes", "value"]
  f_is_count : At K mg "is_count" st_is_count ["likes", "value"]
  f_shows_best : At K mg "shows_best" st_shows_best ["cores", "likes", "value"]
  f_worth : At K mg "worth" st_worth ["cores", "likes"]
  f_through : At K mg "through" st_through ["likes"]
  f_worth_with : At K mg "worth_with" st_worth_with ["cores", "likes", "like"]
  f_sort_of : At K mg "sort_of" st_sort_of ["likes", "number", "weight"]
  f_sorts : At K mg "sorts" st_sorts ["cores", "likes"]
  f_least_of_best : At K mg "least_of_best" st_least_of_best ["cores", "likes"]
  f_most_of_best : At K mg "most_of_best" st_most_of_best ["cores", "likes"]
  f_raise_to : At K mg "raise_to" st_raise_to ["cores", "likes", "like"]
  f__law_pot : At K mg "_law_pot" st__law_pot ["script", "place"]
  f__law_take : At K mg "_law_take" st__law_take ["pot", "upto"]
  f__law_cells : At K mg "_law_cells" st__law_cells ["script", "most"]
  f__law_some : At K mg "_law_some" st__law_some ["pot", "pool", "amount"]
  f__law_drawn : At K mg "_law_drawn" st__law_drawn ["pot"]
  f__law_matches : At K mg "_law_matches" st__law_matches ["likes"]
  f__law_agrees : At K mg "_law_agrees" st__law_agrees ["match", "like"]
  f__law_weight : At K mg "_law_weight" st__law_weight ["match"]
  f__law_part : At K mg "_law_part" st__law_part ["likes", "low", "high"]
  f__law_are_cuts_right : At K mg "_law_are_cuts_right" st__law_are_cuts_right ["cores", "likes", "whole"]
  f__law_are_likes_right : At K mg "_law_are_likes_right" st__law_are_likes_right ["cores", "likes", "whole", "every"]
  f__law_are_counts_right : At K mg "_law_are_counts_right" st__law_are_counts_right ["cores", "likes", "counts", "whole"]
  f__law_right : At K mg "_law_right" st__law_right ["pot"]
  f_law : At K mg "law" st_law ["script"]
  b_abs : mg "abs" = none
  b_all : mg "all" = none
  b_any : mg "any" = none
  b_bool : mg "bool" = none
  b_dict : mg "dict" = none
  b_enumerate : mg "enumerate" = none
  b_int : mg "int" = none
  b_isinstance : mg "isinstance" = none
  b_len : mg "len" = none
  b_list : mg "list" = none
  b_max : mg "max" = none
  b_min : mg "min" = none
  b_range : mg "range" = none
  b_set : mg "set" = none
  b_sorted : mg "sorted" = none
  b_str : mg "str" = none
  b_sum : mg "sum" = none
  b_tuple : mg "tuple" = none
  b_zip : mg "zip" = none
  c_ALWAYS : Cst mg "ALWAYS" (.str "always")
  c_AT_TIMES : Cst mg "AT_TIMES" (.str "at times")
  c_FIGURES : Cst mg "FIGURES" (.str "0123456789")
  c_LETTERS : Cst mg "LETTERS" (.str "abcdefghijklmnopqrstuvwxyz")
  c_MOST_LAYERS : Cst mg "MOST_LAYERS" (.int 24)
  c_MOST_LIKES : Cst mg "MOST_LIKES" (.int 60)
  c_MOST_SIGNS : Cst mg "MOST_SIGNS" (.int 8)
  c_MOST_WEIGHT : Cst mg "MOST_WEIGHT" (.int 99)
  c_NEVER : Cst mg "NEVER" (.str "never")
end L3
end

section
set_option Elab.async false
set_option linter.all false
set_option maxRecDepth 100000
set_option autoImplicit false
/-! What the defs compute. -/
namespace L3
open PySem L2
abbrev Lk : Type := Int × Int × Int
def eL (l : Lk) : PyData := .tuple [.int l.1, .int l.2.1, .int l.2.2]
def eLs (ls : List Lk) : PyData := .tuple (ls.map eL)
def eTx (c : List Str) : PyData := .tuple (c.map .str)
abbrev Cores : Type := List Str × List Str
def eC (c : Cores) : PyData := .tuple [eTx c.1, eTx c.2]
def letters : Str := "abcdefghijklmnopqrstuvwxyz"
def figures : Str := "0123456789"
structure IsNm (s : Str) : Prop where
  pos : 0 < s.length
  le : s.length ≤ 8
  first : ∀ c, s.cps.toList[0]? = some c → c ∈ letters.cps.toList
  all : ∀ c ∈ s.cps.toList, c ∈ letters.cps.toList ∨ c ∈ figures.cps.toList
structure GoodCore (c : List Str) : Prop where
  pos : 1 ≤ c.length
  le : c.length ≤ 24
  nd : c.Nodup
  nm : ∀ s ∈ c, IsNm s
def GoodC (c : Cores) : Prop := GoodCore c.1 ∧ GoodCore c.2
structure GoodL (c : Cores) (l : Lk) : Prop where
  i0 : 0 ≤ l.1
  i1 : l.1 ≤ (c.1.length : Int) - 1
  j0 : 0 ≤ l.2.1
  j1 : l.2.1 ≤ (c.2.length : Int) - 1
  w0 : 1 ≤ l.2.2
  w1 : l.2.2 ≤ 99
def asc (ps : List (List Int)) : Bool := (ps.zip (ps.drop 1)).all fun p => HT.lexLt p.1 p.2
structure GoodLs (c : Cores) (ls : List Lk) : Prop where
  le : ls.length ≤ 60
  each : ∀ l ∈ ls, GoodL c l
  up : asc (ls.map fun l => [l.1, l.2.1]) = true
def behind (l m : Lk) : Bool := decide (l.1 < m.1) && decide (l.2.1 < m.2.1)
def agree (l m : Lk) : Bool := behind l m || behind m l
def mx : List Int → Int
  | [] => 0
  | x :: r => max x (mx r)
def hstep (ls : List Lk) (found : List Int) (l : Lk) : Int := l.2.2 + mx (((ls.zip found).filter fun p => behind p.1 l).map (·.2))
def htsF (ls : List Lk) : List Lk → List Int → List Int
  | [], found => found
  | l :: r, found => htsF ls r (found ++ [hstep ls found l])
def hts (ls : List Lk) : List Int := htsF ls ls []
def wof (ls : List Lk) : Int := mx (hts ls)
/-! promises -/
def rIsInteger : List PyData → PyData → Prop := R1 fun a d => (∃ i, a = .int i) ∧ d = .bool true
def rIsBetween : List PyData → PyData → Prop := R3' fun a b c d => ∃ i j k, a = .int i ∧ b = .int j ∧ c = .int k ∧ d = .bool (decide (j ≤ i) && decide (i ≤ k))
def rIsName : List PyData → PyData → Prop := R1 fun a d => ∃ s, a = .str s ∧ IsNm s ∧ d = .bool true
def rIsWeight : List PyData → PyData → Prop := R1 fun a d => ∃ i, a = .int i ∧ d = .bool (decide (1 ≤ i) && decide (i ≤ 99))
def rIsAscending : List PyData → PyData → Prop := R1 fun a d => ∃ (k : Kd) (ps : List (List Int)), a = k.D (ps.map fun p => .tuple (p.map .int)) ∧ ps.length ≤ 1000 ∧ d = .bool (asc ps)
def rIsCore : List PyData → PyData → Prop := R1 fun a d => ∃ c, a = eTx c ∧ GoodCore c ∧ d = .bool true
def rIsCores : List PyData → PyData → Prop := R1 fun a d => ∃ c, a = eC c ∧ GoodC c ∧ d = .bool true
def rIsLike : List PyData → PyData → Prop := R2' fun a b d => ∃ c l, a = eC c ∧ b = eL l ∧ GoodL c l ∧ d = .bool true
def rForm : List PyData → PyData → Prop := R2' fun a b d => ∃ c ls, a = eC c ∧ b = eLs ls ∧ GoodLs c ls ∧ d = .bool true
def rCheckCores : List PyData → PyData → Prop := R1 fun a d => ∃ c, a = eC c ∧ GoodC c ∧ d = .none
def rCheckLikes : List PyData → PyData → Prop := R2' fun a b d => ∃ c ls, a = eC c ∧ b = eLs ls ∧ GoodC c ∧ GoodLs c ls ∧ d = .none
def rCheckLike : List PyData → PyData → Prop := R3' fun a b e d => ∃ c ls l, a = eC c ∧ b = eLs ls ∧ e = eL l ∧ GoodC c ∧ GoodLs c ls ∧ l ∈ ls ∧ d = .none
def rIsBehind : List PyData → PyData → Prop := R2' fun a b d => ∃ l m, a = eL l ∧ b = eL m ∧ d = .bool (behind l m)
def rDoAgree : List PyData → PyData → Prop := R2' fun a b d => ∃ l m, a = eL l ∧ b = eL m ∧ d = .bool (agree l m)
def rHeights : List PyData → PyData → Prop := R1 fun a d => ∃ ls, a = eLs ls ∧ ls.length ≤ 60 ∧ d = .list ((hts ls).map .int)
def rWorthOf : List PyData → PyData → Prop := R1 fun a d => ∃ ls, a = eLs ls ∧ ls.length ≤ 60 ∧ d = .int (wof ls)
theorem mx_mem : ∀ xs : List Int, mx xs ∈ 0 :: xs
  | [] => List.mem_cons_self
  | x :: r => by
    show max x (mx r) ∈ 0 :: x :: r
    rcases Int.le_total x (mx r) with h | h
    · rw [Int.max_eq_right h]
      rcases List.mem_cons.mp (mx_mem r) with e | e
      · rw [e]; exact List.mem_cons_self
      · exact List.mem_cons_of_mem _ (List.mem_cons_of_mem _ e)
    · rw [Int.max_eq_left h]; exact List.mem_cons_of_mem _ List.mem_cons_self
theorem mx_le : ∀ xs : List Int, ∀ y ∈ 0 :: xs, y ≤ mx xs
  | [], y, h => by
    rw [List.mem_singleton.mp h]
    exact Int.le_refl _
  | x :: r, y, h => by
    show y ≤ max x (mx r)
    rcases List.mem_cons.mp h with e | h
    · have := mx_le r 0 List.mem_cons_self
      omega
    · rcases List.mem_cons.mp h with e | h
      · omega
      · have := mx_le r y (List.mem_cons_of_mem _ h)
        omega
theorem mx_unique {xs : List Int} {m : Int} (h : m ∈ 0 :: xs) (hle : ∀ y ∈ 0 :: xs, y ≤ m) : mx xs = m := Int.le_antisymm (hle _ (mx_mem xs)) (mx_le xs m h)
theorem htsF_len (ls : List Lk) : ∀ (r : List Lk) (found : List Int), (htsF ls r found).length = found.length + r.length
  | [], found => rfl
  | l :: r, found => by
    show (htsF ls r _).length = _
    rw [htsF_len ls r, List.length_append, List.length_cons, List.length_cons, List.length_nil]
    omega
theorem hts_len (ls : List Lk) : (hts ls).length = ls.length := by
  unfold hts
  rw [htsF_len]
  exact Nat.zero_add _
theorem htsF_snoc (ls : List Lk) (l : Lk) : ∀ (r : List Lk) (found : List Int), htsF ls (r ++ [l]) found = htsF ls r found ++ [hstep ls (htsF ls r found) l]
  | [], found => rfl
  | m :: r, found => htsF_snoc ls l r _
theorem can_map {α : Type} (e : α → PyData) (h : ∀ l, (e l).canLay0 = true) : ∀ ls : List α, PyData.canLayAll0 (ls.map e) = true
  | [] => rfl
  | l :: r => by
    show ((e l).canLay0 && PyData.canLayAll0 (r.map e)) = true
    rw [h l, can_map e h r]
    rfl
theorem dep_map {α : Type} (e : α → PyData) (n : Nat) (h : ∀ l, (e l).depth ≤ n) : ∀ ls : List α, PyData.depthAll (ls.map e) ≤ n
  | [] => Nat.zero_le _
  | l :: r => by
    show max (e l).depth (PyData.depthAll (r.map e)) ≤ n
    have := h l
    have := dep_map e n h r
    omega
theorem sh_tup {xs : List PyData} (h : PyData.canLayAll0 xs = true) (d : PyData.depthAll xs ≤ 60) : SeqAt.shaped (.tuple xs) = true := by
  unfold SeqAt.shaped
  rw [Bool.and_eq_true]
  refine ⟨h, decide_eq_true ?_⟩
  show PyData.depthAll xs + 1 ≤ 64
  omega
theorem sh_lst {xs : List PyData} (h : PyData.canLayAll0 xs = true) (d : PyData.depthAll xs ≤ 60) : SeqAt.shaped (.list xs) = true := by
  unfold SeqAt.shaped
  rw [Bool.and_eq_true]
  refine ⟨h, decide_eq_true ?_⟩
  show PyData.depthAll xs + 1 ≤ 64
  omega
theorem sh_eLs (ls : List Lk) : SeqAt.shaped (eLs ls) = true := sh_tup (can_map eL (fun _ => rfl) ls) (Nat.le_trans (dep_map eL 1 (fun _ => Nat.le_refl _) ls) (by decide))
theorem sh_eL (l : Lk) : SeqAt.shaped (eL l) = true := rfl
theorem eqv_eL (l m : Lk) : PyData.eqv (eL l) (eL m) = decide (l = m) := by
  obtain ⟨a, b, c⟩ := l
  obtain ⟨a', b', c'⟩ := m
  simp only [eL, PyData.eqv, PyData.eqvAll, Bool.and_true]
  by_cases h1 : a = a' <;> by_cases h2 : b = b' <;> by_cases h3 : c = c' <;> simp [h1, h2, h3]
theorem in_eLs (l : Lk) (ls : List Lk) : ((ls.map eL).any fun z => PyData.eqv z (eL l)) = decide (l ∈ ls) := by
  rw [List.any_map]
  induction ls with
  | nil => simp
  | cons m r ih =>
    rw [List.any_cons, ih]
    show (PyData.eqv (eL m) (eL l) || _) = _
    rw [eqv_eL]
    by_cases h : m = l
    · simp [h]
    · have h' : l ≠ m := fun z => h z.symm
      simp [h, h']
end L3
end

section
set_option Elab.async false
set_option linter.all false
set_option maxRecDepth 100000
set_option maxHeartbeats 1000000
set_option autoImplicit false
namespace L3
open PySem L2
section
variable {Pr : Program} {w : World} {K : PySem.W.Frag} {mg : Str → Option Value} {base : Heap}
theorem ok_is_integer (T : Fx K mg) : Ok Pr w K mg base "is_integer" 1 ["value"] (spD K rIsInteger) := by
  obtain ⟨f, fd, F, b, g⟩ := T.f_is_integer
  refine ⟨f, fd, g, F.kp, b, fn_ok F sc_is_integer (fun xs d h => by obtain ⟨_, rfl, _⟩ := h; rfl) (fun cdv A outer s H E hr => ⟨_, (pss_one (ps_ret (pe_and (pe_callB (kc_isi K) (by rfl) T.b_isinstance bt_isinstance (pa_cons (pv 0) (pa_cons (pe_bltn (v := .ty "int") (by rfl) T.b_int bt_int rfl) pa_nil))) (pe_one (pe_not (pe_callB (kc_isi K) (by rfl) T.b_isinstance bt_isinstance (pa_cons (pv 0) (pa_cons (pe_bltn (v := .ty "bool") (by rfl) T.b_bool bt_bool rfl) pa_nil)))))))), fun xs d hR => ?_⟩)⟩
  obtain ⟨a0, rfl, hR⟩ := hR
  obtain ⟨⟨i, rfl⟩, rfl⟩ := hR
  exact sx_ret (ev_is (ev_andV (ev_isi (ev_var rfl) rfl) fun _ => ev_notV (ev_isi (ev_var rfl) rfl)) rfl) rfl
theorem ok_is_between (T : Fx K mg) : Ok Pr w K mg base "is_between" 2 ["value", "least", "most"] (spD K rIsBetween) := by
  obtain ⟨f, fd, F, b, g⟩ := T.f_is_between
  have c_is_integer := ok_is_integer (Pr := Pr) (w := w) (base := base) T
  refine ⟨f, fd, g, F.kp, b, fn_ok F sc_is_between (fun xs d h => by obtain ⟨_, _, _, rfl, _⟩ := h; rfl) (fun cdv A outer s H E hr => ⟨_, (pss_one (ps_ret (pe_and (pe_own c_is_integer (hr.mono (by decide)) (by rfl) (pa_cons (pv 0) pa_nil)) (pe_one (pe_chain op_le op_le (pv 1) (pv 0) (pv 2)))))), fun xs d hR => ?_⟩)⟩
  obtain ⟨a0, a1, a2, rfl, hR⟩ := hR
  obtain ⟨i, j, k, rfl, rfl, rfl, rfl⟩ := hR
  exact sx_ret (ev_is (ev_andV (ev_call (ea_cons (ev_var rfl) ea_nil) ⟨_, rfl, ⟨i, rfl⟩, rfl⟩) fun _ => ev_chain (ev_var rfl) (ev_var rfl) rd_le (fun _ => ev_var rfl) fun _ => rd_le) rfl) rfl
theorem ok_is_name (T : Fx K mg) : Ok Pr w K mg base "is_name" 1 ["value"] (spD K rIsName) := by
  obtain ⟨f, fd, F, b, g⟩ := T.f_is_name
  refine ⟨f, fd, g, F.kp, b, fn_ok F sc_is_name (fun xs d h => by obtain ⟨_, rfl, _⟩ := h; rfl) (fun cdv A outer s H E hr => ⟨_, (pss_cons (ps_if (PW.pt (pw_or (pt_not (pt_val (pe_callB (kc_isi K) (by rfl) T.b_isinstance bt_isinstance (pa_cons (pv 0) (pa_cons (pe_bltn (v := .ty "str") (by rfl) T.b_str bt_str rfl) pa_nil))))) (pw_or (pt_not (pt_chain (ko_lt K (u0 hr)) op_le pe_int (pe_callB (kc_len K) (by rfl) T.b_len bt_len (pa_cons (pv 0) pa_nil)) (pe_cst T.c_MOST_SIGNS))) (pw_or1 (pt_cmpR (ko_nin K (u65 hr)) (pe_ix (ki_seq K) (pv 0) pe_int (fun _ _ => rfl)) (pe_cst T.c_LETTERS) (by with_unfolding_all rfl)))))) (pss_one (ps_ret pe_bl)) pss_nil)
      (pss_one (ps_ret (pe_callB (kc_all K rfl) (by rfl) T.b_all bt_all (pa_cons (pe_lc (own := [("sign", 1)]) (g := (gName 1)) rfl sc_is_name.nd (pi_str (pv 0)) (blkOk_by (own := [("sign", 1)]) (N := N_is_name) (sc := defScope st_is_name) (by decide +kernel)) (fun _ _ _ _ _ => (pg_name (i := 1) sc_is_name.nd rfl (by first | exact Or.inl rfl | exact Or.inr rfl))) (fun _ _ _ _ _ => pts_nil) (fun _ _ _ _ _ => (pe_or (pe_cmpR (ko_in K (u65 hr)) (pv 1) (pe_cst T.c_LETTERS) (by with_unfolding_all rfl)) (pe_one (pe_cmpR (ko_in K (u65 hr)) (pv 1) (pe_cst T.c_FIGURES) (by with_unfolding_all rfl)))))) pa_nil))))), fun xs d hR => ?_⟩)⟩
  obtain ⟨a0, rfl, hR⟩ := hR
  obtain ⟨z, rfl, nm, rfl⟩ := hR
  have hl : z.length ≤ 100000 := Nat.le_trans nm.le (by decide)
  have h0 : 0 < z.cps.toList.length := by have := nm.pos; simpa [Str.length] using this
  obtain ⟨c, hc⟩ := get_lt h0
  have p1 : (0 : Int) < z.length := by have := nm.pos; omega
  have p2 : (z.length : Int) ≤ 8 := by have := nm.le; omega
  refine q_no (et_is (et_or (et_not (et_B (ev_isi (ev_var rfl) rfl))) fun _ => et_or (et_not (et_chain ev_int (ev_cb (ea_cons (ev_var rfl) ea_nil) (cd_lenS hl)) rd_ltI (fun _ => ev_int) fun _ => rd_le)) fun _ => et_test (ev_op (ev_op (ev_var rfl) ev_int (rd_ixS (c := c) (atI_nat (j := 0) hc) hl)) ev_str (rd_ninS (z := letters)))) ?_) ?_
  · simp [p1, p2, nm.first c hc, nm.pos]
  · refine sx_ret (ev_is (ev_allM (lc1 z.cps.toList (fun c => .str ⟨#[c]⟩) (fun c => .bool (decide (c ∈ letters.cps.toList) || decide (c ∈ figures.cps.toList))) (eI_str (ev_var rfl)).r (by show z.cps.size ≤ _ ; exact Nat.le_trans nm.le (by decide)) fun c _ => ev_orV (ev_op (ev_var rfl) (ev_str (x := letters)) rd_inS) fun _ => ev_op (ev_var rfl) (ev_str (x := figures)) rd_inS).rl) ?_) rfl
    congr 1
    rw [List.all_eq_true]
    intro c hc
    simp only [Bool.or_eq_true, decide_eq_true_eq]
    exact nm.all c hc
theorem ok_is_weight (T : Fx K mg) : Ok Pr w K mg base "is_weight" 3 ["value"] (spD K rIsWeight) := by
  obtain ⟨f, fd, F, b, g⟩ := T.f_is_weight
  have c_is_between := ok_is_between (Pr := Pr) (w := w) (base := base) T
  refine ⟨f, fd, g, F.kp, b, fn_ok F sc_is_weight (fun xs d h => by obtain ⟨_, rfl, _⟩ := h; rfl) (fun cdv A outer s H E hr => ⟨_, (pss_one (ps_ret (pe_own c_is_between (hr.mono (by decide)) (by rfl) (pa_cons (pv 0) (pa_cons pe_int (pa_cons (pe_cst T.c_MOST_WEIGHT) pa_nil)))))), fun xs d hR => ?_⟩)⟩
  obtain ⟨a0, rfl, hR⟩ := hR
  obtain ⟨i, rfl, rfl⟩ := hR
  exact sx_ret (ev_call (ea_cons (ev_var rfl) (ea_cons ev_int (ea_cons ev_int ea_nil))) ⟨_, _, _, rfl, i, 1, 99, rfl, rfl, rfl, rfl⟩) rfl
theorem ok_is_ascending (T : Fx K mg) : Ok Pr w K mg base "is_ascending" 1 ["values"] (spD K rIsAscending) := by
  obtain ⟨f, fd, F, b, g⟩ := T.f_is_ascending
  refine ⟨f, fd, g, F.kp, b, fn_ok F sc_is_ascending (fun xs d h => by obtain ⟨_, rfl, _⟩ := h; rfl) (fun cdv A outer s H E hr => ⟨_, (pss_one (ps_ret (pe_callB (kc_all K rfl) (by rfl) T.b_all bt_all (pa_cons (pe_lc (own := [("one", 1), ("other", 2)]) (g := (gTup K 2 (gCons (gName 1) (gCons (gName 2) gNil)))) rfl sc_is_ascending.nd (kw_z2 K (by rfl) T.b_zip (pa_cons (pv 0) (pa_cons (pe_slice (ks_g K) (pv 0) (po_some pe_int) po_none) pa_nil))) (blkOk_by (own := [("one", 1), ("other", 2)]) (N := N_is_ascending) (sc := defScope st_is_ascending) (by decide +kernel)) (fun _ _ _ _ _ => (pg_tup rfl (pgs_cons (pg_name (i := 1) sc_is_ascending.nd rfl (by first | exact Or.inl rfl | exact Or.inr rfl)) (pgs_cons (pg_name (i := 2) sc_is_ascending.nd rfl (by first | exact Or.inl rfl | exact Or.inr rfl)) pgs_nil)))) (fun _ _ _ _ _ => pts_nil) (fun _ _ _ _ _ => (pe_cmpR (ko_lt K (u0 hr)) (pv 1) (pv 2) (nomark _)))) pa_nil)))), fun xs d hR => ?_⟩)⟩
  obtain ⟨a0, rfl, hR⟩ := hR
  obtain ⟨k, ps, rfl, hl, rfl⟩ := hR
  refine sx_ret (ev_is (ev_allM (lc2 (ps.zip (ps.drop 1)) (fun p => .tuple (p.1.map .int)) (fun p => .tuple (p.2.map .int)) (fun p => .bool (HT.lexLt p.1 p.2)) (?hz) (by rw [List.length_zip]; omega) fun p _ => ev_op (ev_var rfl) (ev_var rfl) rd_ltT).rl) rfl) rfl
  have e : zipD (ps.map fun p => PyData.tuple (p.map .int)) ((ps.map fun p => PyData.tuple (p.map .int)).drop 1) = (ps.zip (ps.drop 1)).map fun p => .tuple [.tuple (p.1.map .int), .tuple (p.2.map .int)] := by
    rw [← List.map_drop]
    exact zipD_map _ _ _ _
  cases k with
  | l => exact (eIr_z2 (k1 := .l) (k2 := .l) (ev_var rfl).rl (en_slR (ev_var rfl).rl (eo_some ev_int) eo_none).rl).is (by rw [show (1 : Int) = ((1 : Nat) : Int) from rfl, cutD_from]; exact e)
  | t => exact (eIr_z2 (k1 := .t) (k2 := .t) (ev_var rfl).rt (ev_slT (ev_var rfl) (eo_some ev_int) eo_none).rt).is (by rw [show (1 : Int) = ((1 : Nat) : Int) from rfl, cutD_from]; exact e)
theorem ok_is_core (T : Fx K mg) : Ok Pr w K mg base "is_core" 2 ["value"] (spD K rIsCore) := by
  obtain ⟨f, fd, F, b, g⟩ := T.f_is_core
  have c_is_name := ok_is_name (Pr := Pr) (w := w) (base := base) T
  refine ⟨f, fd, g, F.kp, b, fn_ok F sc_is_core (fun xs d h => by obtain ⟨_, rfl, _⟩ := h; rfl) (fun cdv A outer s H E hr => ⟨_, (pss_cons (ps_if (PW.pt (pw_or (pt_not (pt_val (pe_callB (kc_isi K) (by rfl) T.b_isinstance bt_isinstance (pa_cons (pv 0) (pa_cons (pe_bltn (v := .ty "tuple") (by rfl) T.b_tuple bt_tuple rfl) pa_nil))))) (pw_or (pt_not (pt_chain op_le op_le pe_int (pe_callB (kc_len K) (by rfl) T.b_len bt_len (pa_cons (pv 0) pa_nil)) (pe_cst T.c_MOST_LAYERS))) (pw_or1 (pt_not (pt_val (pe_callB (kc_all K rfl) (by rfl) T.b_all bt_all (pa_cons (pe_lc (own := [("one", 1)]) (g := (gName 1)) rfl sc_is_core.nd (kw_seq K (pv 0)) (blkOk_by (own := [("one", 1)]) (N := N_is_core) (sc := defScope st_is_core) (by decide +kernel)) (fun _ _ _ _ _ => (pg_name (i := 1) sc_is_core.nd rfl (by first | exact Or.inl rfl | exact Or.inr rfl))) (fun _ _ _ _ _ => pts_nil) (fun _ _ _ _ _ => (pe_own c_is_name (hr.mono (by decide)) (by rfl) (pa_cons (pv 1) pa_nil)))) pa_nil)))))))) (pss_one (ps_ret pe_bl)) pss_nil)
      (pss_one (ps_ret (pe_cmpR (ko_eq K (u64 hr)) (kp_lenS K rfl (by rfl) T.b_len (by rfl) T.b_set (pv 0)) (pe_callB (kc_len K) (by rfl) T.b_len bt_len (pa_cons (pv 0) pa_nil)) (nomark _))))), fun xs d hR => ?_⟩)⟩
  obtain ⟨a0, rfl, hR⟩ := hR
  obtain ⟨c, rfl, h, rfl⟩ := hR
  have e1 := h.pos
  have e2 := h.le
  refine q_no (et_is (et_or (et_not (et_B (ev_isi (ev_var rfl) rfl))) fun _ => et_or (et_not (et_chain ev_int (ev_cb (ea_cons (ev_var rfl) ea_nil) cd_lenT) rd_le (fun _ => ev_int) fun _ => rd_le)) fun _ => et_not (et_B (ev_allM (lc1 c .str (fun _ => .bool true) (eI_tup (ev_var rfl)).r (by omega) fun s hs => ev_call (ea_cons (ev_var rfl) ea_nil) ⟨_, rfl, s, rfl, h.nm s hs, rfl⟩).rl))) ?_) ?_
  · have q1 : (1 : Int) ≤ (c.length : Int) := by omega
    have q2 : (c.length : Int) ≤ 24 := by omega
    simp [q1, q2, e1, e2]
  · refine sx_ret (ev_is (ev_op (ev_lenS (k := .t) (ev_var rfl).rt h.nd (by omega)) (ev_cb (ea_cons (ev_var rfl) ea_nil) cd_lenT) (rd_eq rfl rfl)) ?_) rfl
    simp [PyData.eqv]
theorem ok_is_cores (T : Fx K mg) : Ok Pr w K mg base "is_cores" 3 ["value"] (spD K rIsCores) := by
  obtain ⟨f, fd, F, b, g⟩ := T.f_is_cores
  have c_is_core := ok_is_core (Pr := Pr) (w := w) (base := base) T
  refine ⟨f, fd, g, F.kp, b, fn_ok F sc_is_cores (fun xs d h => by obtain ⟨_, rfl, _⟩ := h; rfl) (fun cdv A outer s H E hr => ⟨_, (pss_one (ps_ret (pe_and (pe_callB (kc_isi K) (by rfl) T.b_isinstance bt_isinstance (pa_cons (pv 0) (pa_cons (pe_bltn (v := .ty "tuple") (by rfl) T.b_tuple bt_tuple rfl) pa_nil))) (pe_and (pe_cmpR (ko_eq K (u64 hr)) (pe_callB (kc_len K) (by rfl) T.b_len bt_len (pa_cons (pv 0) pa_nil)) pe_int (nomark _)) (pe_and (pe_own c_is_core (hr.mono (by decide)) (by rfl) (pa_cons (pe_ix (ki_seq K) (pv 0) pe_int (fun _ _ => rfl)) pa_nil)) (pe_one (pe_own c_is_core (hr.mono (by decide)) (by rfl) (pa_cons (pe_ix (ki_seq K) (pv 0) pe_int (fun _ _ => rfl)) pa_nil)))))))), fun xs d hR => ?_⟩)⟩
  obtain ⟨a0, rfl, hR⟩ := hR
  obtain ⟨c, rfl, ⟨h1, h2⟩, rfl⟩ := hR
  refine sx_ret (ev_is (ev_andV (ev_isi (ev_var rfl) rfl) fun _ => ev_andV (ev_op (ev_cb (ea_cons (ev_var rfl) ea_nil) cd_lenT) ev_int (rd_eq rfl rfl)) fun _ => ev_andV (ev_call (ea_cons (ev_op (ev_var rfl) ev_int (rd_ixT (atI_nat (j := 0) rfl))) ea_nil) ⟨_, rfl, _, rfl, h1, rfl⟩) fun _ => ev_call (ea_cons (ev_op (ev_var rfl) ev_int (rd_ixT (atI_nat (j := 1) rfl))) ea_nil) ⟨_, rfl, _, rfl, h2, rfl⟩) ?_) rfl
  simp [PyData.eqv]
theorem ok_is_like (T : Fx K mg) : Ok Pr w K mg base "is_like" 4 ["cores", "value"] (spD K rIsLike) := by
  obtain ⟨f, fd, F, b, g⟩ := T.f_is_like
  have c_is_weight := ok_is_weight (Pr := Pr) (w := w) (base := base) T
  have c_is_between := ok_is_between (Pr := Pr) (w := w) (base := base) T
  refine ⟨f, fd, g, F.kp, b, fn_ok F sc_is_like (fun xs d h => by obtain ⟨_, _, rfl, _⟩ := h; rfl) (fun cdv A outer s H E hr => ⟨_, (pss_cons (ps_if (PW.pt (pw_or (pt_not (pt_val (pe_callB (kc_isi K) (by rfl) T.b_isinstance bt_isinstance (pa_cons (pv 1) (pa_cons (pe_bltn (v := .ty "tuple") (by rfl) T.b_tuple bt_tuple rfl) pa_nil))))) (pw_or (pt_cmpR (ko_ne K (u64 hr)) (pe_callB (kc_len K) (by rfl) T.b_len bt_len (pa_cons (pv 1) pa_nil)) pe_int (nomark _)) (pw_or1 (pt_not (pt_val (pe_own c_is_weight (hr.mono (by decide)) (by rfl) (pa_cons (pe_ix (ki_seq K) (pv 1) pe_int (fun _ _ => rfl)) pa_nil)))))))) (pss_one (ps_ret pe_bl)) pss_nil)
      (pss_one (ps_ret (pe_and (pe_own c_is_between (hr.mono (by decide)) (by rfl) (pa_cons (pe_ix (ki_seq K) (pv 1) pe_int (fun _ _ => rfl)) (pa_cons pe_int (pa_cons (pe_op op_sub (pe_callB (kc_len K) (by rfl) T.b_len bt_len (pa_cons (pe_ix (ki_seq K) (pv 0) pe_int (fun _ _ => rfl)) pa_nil)) pe_int) pa_nil)))) (pe_one (pe_own c_is_between (hr.mono (by decide)) (by rfl) (pa_cons (pe_ix (ki_seq K) (pv 1) pe_int (fun _ _ => rfl)) (pa_cons pe_int (pa_cons (pe_op op_sub (pe_callB (kc_len K) (by rfl) T.b_len bt_len (pa_cons (pe_ix (ki_seq K) (pv 0) pe_int (fun _ _ => rfl)) pa_nil)) pe_int) pa_nil))))))))), fun xs d hR => ?_⟩)⟩
  obtain ⟨a0, a1, rfl, hR⟩ := hR
  obtain ⟨c, l, rfl, rfl, h, rfl⟩ := hR
  obtain ⟨i0, i1, j0, j1, w0, w1⟩ := h
  refine q_no (et_is (et_or (et_not (et_B (ev_isi (ev_var rfl) rfl))) fun _ => et_or (et_test (ev_op (ev_cb (ea_cons (ev_var rfl) ea_nil) cd_lenT) ev_int (rd_ne rfl rfl))) fun _ => et_not (et_B (ev_call (ea_cons (ev_op (ev_var rfl) ev_int (rd_ixT (atI_nat (j := 2) rfl))) ea_nil) ⟨_, rfl, _, rfl, rfl⟩))) ?_) ?_
  · simp [PyData.eqv, w0, w1]
  · refine sx_ret (ev_is (ev_andV (ev_call (ea_cons (ev_op (ev_var rfl) ev_int (rd_ixT (atI_nat (j := 0) rfl))) (ea_cons ev_int (ea_cons (ev_op (ev_cb (ea_cons (ev_op (ev_var rfl) ev_int (rd_ixT (atI_nat (j := 0) rfl))) ea_nil) cd_lenT) ev_int rd_sub) ea_nil))) ⟨_, _, _, rfl, _, _, _, rfl, rfl, rfl, rfl⟩) fun _ => ev_call (ea_cons (ev_op (ev_var rfl) ev_int (rd_ixT (atI_nat (j := 1) rfl))) (ea_cons ev_int (ea_cons (ev_op (ev_cb (ea_cons (ev_op (ev_var rfl) ev_int (rd_ixT (atI_nat (j := 1) rfl))) ea_nil) cd_lenT) ev_int rd_sub) ea_nil))) ⟨_, _, _, rfl, _, _, _, rfl, rfl, rfl, rfl⟩) ?_) rfl
    simp [i0, i1, j0, j1]
theorem ok_have_likes_form (T : Fx K mg) : Ok Pr w K mg base "have_likes_form" 5 ["cores", "value"] (spD K rForm) := by
  obtain ⟨f, fd, F, b, g⟩ := T.f_have_likes_form
  have c_is_like := ok_is_like (Pr := Pr) (w := w) (base := base) T
  have c_is_ascending := ok_is_ascending (Pr := Pr) (w := w) (base := base) T
  refine ⟨f, fd, g, F.kp, b, fn_ok F sc_have_likes_form (fun xs d h => by obtain ⟨_, _, rfl, _⟩ := h; rfl) (fun cdv A outer s H E hr => ⟨_, (pss_cons (ps_if (PW.pt (pw_or (pt_not (pt_val (pe_callB (kc_isi K) (by rfl) T.b_isinstance bt_isinstance (pa_cons (pv 1) (pa_cons (pe_bltn (v := .ty "tuple") (by rfl) T.b_tuple bt_tuple rfl) pa_nil))))) (pw_or (pt_cmpR op_gt (pe_callB (kc_len K) (by rfl) T.b_len bt_len (pa_cons (pv 1) pa_nil)) (pe_cst T.c_MOST_LIKES) (nomark _)) (pw_or1 (pt_not (pt_val (pe_callB (kc_all K rfl) (by rfl) T.b_all bt_all (pa_cons (pe_lc (own := [("one", 2)]) (g := (gName 2)) rfl sc_have_likes_form.nd (kw_seq K (pv 1)) (blkOk_by (own := [("one", 2)]) (N := N_have_likes_form) (sc := defScope st_have_likes_form) (by decide +kernel)) (fun _ _ _ _ _ => (pg_name (i := 2) sc_have_likes_form.nd rfl (by first | exact Or.inl rfl | exact Or.inr rfl))) (fun _ _ _ _ _ => pts_nil) (fun _ _ _ _ _ => (pe_own c_is_like (hr.mono (by decide)) (by rfl) (pa_cons (pv 0) (pa_cons (pv 2) pa_nil))))) pa_nil)))))))) (pss_one (ps_ret pe_bl)) pss_nil)
      (pss_one (ps_ret (pe_own c_is_ascending (hr.mono (by decide)) (by rfl) (pa_cons (pe_lc (own := [("one", 2)]) (g := (gName 2)) rfl sc_have_likes_form.nd (kw_seq K (pv 1)) (blkOk_by (own := [("one", 2)]) (N := N_have_likes_form) (sc := defScope st_have_likes_form) (by decide +kernel)) (fun _ _ _ _ _ => (pg_name (i := 2) sc_have_likes_form.nd rfl (by first | exact Or.inl rfl | exact Or.inr rfl))) (fun _ _ _ _ _ => pts_nil) (fun _ _ _ _ _ => (pe_slice (ks_g K) (pv 2) po_none (po_some pe_int)))) pa_nil))))), fun xs d hR => ?_⟩)⟩
  obtain ⟨a0, a1, rfl, hR⟩ := hR
  obtain ⟨c, ls, rfl, rfl, h, rfl⟩ := hR
  have e1 := h.le
  refine q_no (et_is (et_or (et_not (et_B (ev_isi (ev_var rfl) rfl))) fun _ => et_or (et_test (ev_op (ev_cb (ea_cons (ev_var rfl) ea_nil) cd_lenT) ev_int rd_gt)) fun _ => et_not (et_B (ev_allM (lc1 ls eL (fun _ => .bool true) (eI_tup (ev_var rfl)).r (by omega) fun l hl => ev_call (ea_cons (ev_var rfl) (ea_cons (ev_var rfl) ea_nil)) ⟨_, _, rfl, c, l, rfl, rfl, h.each l hl, rfl⟩).rl))) ?_) ?_
  · have q1 : ¬ (60 : Int) < (ls.length : Int) := by omega
    simp [q1]
  · refine sx_ret (ev_call (ea_cons (lc1 ls eL (fun l => .tuple [.int l.1, .int l.2.1]) (eI_tup (ev_var rfl)).r (by omega) fun l hl => ev_is (ev_slT (ev_var rfl) eo_none (eo_some ev_int)) rfl).ev ea_nil) ⟨_, rfl, .l, ls.map fun l => [l.1, l.2.1], ?_, by rw [List.length_map]; omega, by rw [h.up]⟩) rfl
    rw [List.map_map]
    rfl
theorem ok_check_cores (T : Fx K mg) : Ok Pr w K mg base "check_cores" 4 ["cores"] (spD K rCheckCores) := by
  obtain ⟨f, fd, F, b, g⟩ := T.f_check_cores
  have c_is_cores := ok_is_cores (Pr := Pr) (w := w) (base := base) T
  refine ⟨f, fd, g, F.kp, b, fn_ok F sc_check_cores (fun xs d h => by obtain ⟨_, rfl, _⟩ := h; rfl) (fun cdv A outer s H E hr => ⟨_, (pss_one (ps_if (pt_not (pt_val (pe_own c_is_cores (hr.mono (by decide)) (by rfl) (pa_cons (pv 0) pa_nil)))) (pss_one ps_never) pss_nil)), fun xs d hR => ?_⟩)⟩
  obtain ⟨a0, rfl, hR⟩ := hR
  obtain ⟨c, rfl, h, rfl⟩ := hR
  exact sx_if (b := false) (et_is (et_not (et_B (ev_call (ea_cons (ev_var rfl) ea_nil) ⟨_, rfl, c, rfl, h, rfl⟩))) rfl) (fun e => nomatch e) fun _ => sx_next rfl
theorem ok_check_likes (T : Fx K mg) : Ok Pr w K mg base "check_likes" 6 ["cores", "likes"] (spD K rCheckLikes) := by
  obtain ⟨f, fd, F, b, g⟩ := T.f_check_likes
  have c_check_cores := ok_check_cores (Pr := Pr) (w := w) (base := base) T
  have c_have_likes_form := ok_have_likes_form (Pr := Pr) (w := w) (base := base) T
  refine ⟨f, fd, g, F.kp, b, fn_ok F sc_check_likes (fun xs d h => by obtain ⟨_, _, rfl, _⟩ := h; rfl) (fun cdv A outer s H E hr => ⟨_, (pss_cons (ps_expr (pe_own c_check_cores (hr.mono (by decide)) (by rfl) (pa_cons (pv 0) pa_nil)))
      (pss_one (ps_if (pt_not (pt_val (pe_own c_have_likes_form (hr.mono (by decide)) (by rfl) (pa_cons (pv 0) (pa_cons (pv 1) pa_nil))))) (pss_one ps_never) pss_nil))), fun xs d hR => ?_⟩)⟩
  obtain ⟨a0, a1, rfl, hR⟩ := hR
  obtain ⟨c, ls, rfl, rfl, h, h2, rfl⟩ := hR
  refine q_drop (ev_call (ea_cons (ev_var rfl) ea_nil) ⟨_, rfl, c, rfl, h, rfl⟩) ?_
  exact sx_if (b := false) (et_is (et_not (et_B (ev_call (ea_cons (ev_var rfl) (ea_cons (ev_var rfl) ea_nil)) ⟨_, _, rfl, c, ls, rfl, rfl, h2, rfl⟩))) rfl) (fun e => nomatch e) fun _ => sx_next rfl
theorem ok_check_like (T : Fx K mg) : Ok Pr w K mg base "check_like" 7 ["cores", "likes", "like"] (spD K rCheckLike) := by
  obtain ⟨f, fd, F, b, g⟩ := T.f_check_like
  have c_check_likes := ok_check_likes (Pr := Pr) (w := w) (base := base) T
  have c_is_like := ok_is_like (Pr := Pr) (w := w) (base := base) T
  refine ⟨f, fd, g, F.kp, b, fn_ok F sc_check_like (fun xs d h => by obtain ⟨_, _, _, rfl, _⟩ := h; rfl) (fun cdv A outer s H E hr => ⟨_, (pss_cons (ps_expr (pe_own c_check_likes (hr.mono (by decide)) (by rfl) (pa_cons (pv 0) (pa_cons (pv 1) pa_nil))))
      (pss_one (ps_if (PW.pt (pw_or (pt_not (pt_val (pe_own c_is_like (hr.mono (by decide)) (by rfl) (pa_cons (pv 0) (pa_cons (pv 2) pa_nil))))) (pw_or1 (pt_cmpR (ko_nin K (u65 hr)) (pv 2) (pv 1) (by with_unfolding_all rfl))))) (pss_one ps_never) pss_nil))), fun xs d hR => ?_⟩)⟩
  obtain ⟨a0, a1, a2, rfl, hR⟩ := hR
  obtain ⟨c, ls, l, rfl, rfl, rfl, h, h2, hm, rfl⟩ := hR
  refine q_drop (ev_call (ea_cons (ev_var rfl) (ea_cons (ev_var rfl) ea_nil)) ⟨_, _, rfl, c, ls, rfl, rfl, h, h2, rfl⟩) ?_
  refine sx_if (b := false) (et_is (et_or (et_not (et_B (ev_call (ea_cons (ev_var rfl) (ea_cons (ev_var rfl) ea_nil)) ⟨_, _, rfl, c, l, rfl, rfl, h2.each l hm, rfl⟩))) fun _ => et_test (ev_op (ev_var rfl) (ev_var rfl) (rd_ninT rfl (sh_eLs ls)))) ?_) (fun e => nomatch e) fun _ => sx_next rfl
  rw [in_eLs]
  simp [hm]
theorem ok_is_behind (T : Fx K mg) : Ok Pr w K mg base "is_behind" 1 ["one", "other"] (spD K rIsBehind) := by
  obtain ⟨f, fd, F, b, g⟩ := T.f_is_behind
  refine ⟨f, fd, g, F.kp, b, fn_ok F sc_is_behind (fun xs d h => by obtain ⟨_, _, rfl, _⟩ := h; rfl) (fun cdv A outer s H E hr => ⟨_, (pss_one (ps_ret (pe_and (pe_cmpR (ko_lt K (u0 hr)) (pe_ix (ki_seq K) (pv 0) pe_int (fun _ _ => rfl)) (pe_ix (ki_seq K) (pv 1) pe_int (fun _ _ => rfl)) (nomark _)) (pe_one (pe_cmpR (ko_lt K (u0 hr)) (pe_ix (ki_seq K) (pv 0) pe_int (fun _ _ => rfl)) (pe_ix (ki_seq K) (pv 1) pe_int (fun _ _ => rfl)) (nomark _)))))), fun xs d hR => ?_⟩)⟩
  obtain ⟨a0, a1, rfl, hR⟩ := hR
  obtain ⟨l, m, rfl, rfl, rfl⟩ := hR
  exact sx_ret (ev_andV (ev_op (ev_op (ev_var rfl) ev_int (rd_ixT (atI_nat (j := 0) rfl))) (ev_op (ev_var rfl) ev_int (rd_ixT (atI_nat (j := 0) rfl))) rd_ltI) fun _ => ev_op (ev_op (ev_var rfl) ev_int (rd_ixT (atI_nat (j := 1) rfl))) (ev_op (ev_var rfl) ev_int (rd_ixT (atI_nat (j := 1) rfl))) rd_ltI) rfl
theorem ok_do_agree (T : Fx K mg) : Ok Pr w K mg base "do_agree" 2 ["one", "other"] (spD K rDoAgree) := by
  obtain ⟨f, fd, F, b, g⟩ := T.f_do_agree
  have c_is_behind := ok_is_behind (Pr := Pr) (w := w) (base := base) T
  refine ⟨f, fd, g, F.kp, b, fn_ok F sc_do_agree (fun xs d h => by obtain ⟨_, _, rfl, _⟩ := h; rfl) (fun cdv A outer s H E hr => ⟨_, (pss_one (ps_ret (pe_or (pe_own c_is_behind (hr.mono (by decide)) (by rfl) (pa_cons (pv 0) (pa_cons (pv 1) pa_nil))) (pe_one (pe_own c_is_behind (hr.mono (by decide)) (by rfl) (pa_cons (pv 1) (pa_cons (pv 0) pa_nil))))))), fun xs d hR => ?_⟩)⟩
  obtain ⟨a0, a1, rfl, hR⟩ := hR
  obtain ⟨l, m, rfl, rfl, rfl⟩ := hR
  exact sx_ret (ev_orV (ev_call (ea_cons (ev_var rfl) (ea_cons (ev_var rfl) ea_nil)) ⟨_, _, rfl, l, m, rfl, rfl, rfl⟩) fun _ => ev_call (ea_cons (ev_var rfl) (ea_cons (ev_var rfl) ea_nil)) ⟨_, _, rfl, m, l, rfl, rfl, rfl⟩) rfl
end
end L3
end

section
set_option Elab.async false
set_option linter.all false
set_option maxRecDepth 100000
set_option maxHeartbeats 1000000
set_option autoImplicit false
namespace L3
open PySem L2
section
variable {Pr : Program} {w : World} {K : PySem.W.Frag} {mg : Str → Option Value} {base : Heap}
theorem ok_heights (T : Fx K mg) : Ok Pr w K mg base "heights" 2 ["likes"] (spD K rHeights) := by
  obtain ⟨f, fd, F, b, g⟩ := T.f_heights
  have c_is_behind := ok_is_behind (Pr := Pr) (w := w) (base := base) T
  refine ⟨f, fd, g, F.kp, b, fn_ok F sc_heights (fun xs d h => by obtain ⟨_, rfl, _⟩ := h; rfl) (fun cdv A outer s H E hr => ⟨_, (pss_cons (ps_set (i := 1) sc_heights.nd rfl (.inl rfl) (pe_lst pa_nil))
      (pss_cons (ps_for PassesOwn.never rfl (kw_seq K (pv 0)) (pg_name (i := 2) sc_heights.nd rfl (by first | exact Or.inl rfl | exact Or.inr rfl)) (pss_cons (ps_setLc (i := 3) (own := [("one", 4), ("height", 5)]) (g := (gTup K 2 (gCons (gName 4) (gCons (gName 5) gNil)))) rfl sc_heights.nd rfl rfl (sw_true rfl rfl rfl (by decide +kernel)) (kw_z2 K (by rfl) T.b_zip (pa_cons (pv 0) (pa_cons (pv 1) pa_nil))) (blkOk_by (own := [("one", 4), ("height", 5)]) (N := N_heights) (sc := defScope st_heights) (by decide +kernel)) (fun _ _ _ _ _ => (pg_tup rfl (pgs_cons (pg_name (i := 4) sc_heights.nd rfl (by first | exact Or.inl rfl | exact Or.inr rfl)) (pgs_cons (pg_name (i := 5) sc_heights.nd rfl (by first | exact Or.inl rfl | exact Or.inr rfl)) pgs_nil)))) (fun _ _ _ _ _ => (pts_one (pt_val (pe_own c_is_behind (hr.mono (by decide)) (by rfl) (pa_cons (pv 4) (pa_cons (pv 2) pa_nil)))))) (fun _ _ _ _ _ => (pv 5)))
      (pss_one (ps_expr (pe_bm PySem.F.plainAttrs_list PySem.F.slot_list_append PySem.F.type_list_append mt_append (pv 1) (pa_cons (pe_op (ko_add K) (pe_ix (ki_seq K) (pv 2) pe_int (fun _ _ => rfl)) (pe_callB (kc_max K rfl) (by rfl) T.b_max bt_max (pa_cons (pe_op (ko_add K) (pe_lst (pa_cons pe_int pa_nil)) (pv 3)) pa_nil))) pa_nil))))))
      (pss_one (ps_ret (pv 1))))), fun xs d hR => ?_⟩)⟩
  obtain ⟨a0, rfl, hR⟩ := hR
  obtain ⟨ls, rfl, hl, rfl⟩ := hR
  refine q_new (en_lst ea_nil (by decide)) ?_
  refine q_for ls eL (fun i ds => ∃ s2 s3, ds = [.pu (eLs ls), .ol ((htsF ls (ls.take i) []).map .int), s2, s3, .un, .un]) (fun l ds => ds.set 2 (.pu (eL l))) (eI_tup (ev_var rfl)) ⟨_, _, rfl⟩ (fun i l ds _ ⟨s2, s3, e⟩ => by subst e; exact tg1) ?_ ?_
  · rintro i l _ hi ⟨s2, s3, rfl⟩
    have il : i < ls.length := (List.getElem?_eq_some_iff.mp hi).1
    have tk : ls.take (i + 1) = ls.take i ++ [l] := by rw [List.take_add_one, hi]; rfl
    have fl : (htsF ls (ls.take i) []).length = i := by rw [htsF_len, List.length_take]; show 0 + _ = _; omega
    generalize hF : htsF ls (ls.take i) [] = found at fl
    refine q_set (lc2f (ls.zip found) (fun p => eL p.1) (fun p => .int p.2) (fun p => .int p.2) (fun p => behind p.1 l) ((eIr_z2 (k1 := .t) (k2 := .l) (ev_var rfl).rt (er_own rfl)).is (zipD_map _ _ _ _)) (by rw [List.length_zip]; omega)
      (fun p _ => et_B (ev_call (ea_cons (ev_var rfl) (ea_cons (ev_var rfl) ea_nil)) ⟨_, _, rfl, p.1, l, rfl, rfl, rfl⟩)) fun p _ _ => ev_var rfl).ev ?_
    refine sx_app (xs := found.map .int) rfl (ev_op (ev_op (ev_var rfl) ev_int (rd_ixT (atI_nat (j := 2) rfl))) (ev_max (ns := 0 :: ((ls.zip found).filter fun p => behind p.1 l).map (·.2)) (m := mx (((ls.zip found).filter fun p => behind p.1 l).map (·.2))) ((Ev.rl (ev_op (en_lst (ea_cons ev_int ea_nil) (by decide)).ev (ev_var rfl) (rd_addL ?_))).is ?_) (mx_mem _) (mx_le _)) rd_addI) (by rw [List.length_map]; omega) ?_
    · rw [List.length_map]
      have := List.length_filter_le (fun p => behind p.1 l) (ls.zip found)
      rw [List.length_zip] at this
      show 1 + _ ≤ _
      omega
    · rw [List.map_cons, List.map_map]
      rfl
    · show ∃ s2 s3, _ = _
      rw [tk, htsF_snoc, hF, List.map_append]
      exact ⟨_, _, rfl⟩
  · rintro _ ⟨s2, s3, rfl⟩
    rw [List.take_length]
    exact sx_retO rfl rfl
theorem ok_worth_of (T : Fx K mg) : Ok Pr w K mg base "worth_of" 3 ["likes"] (spD K rWorthOf) := by
  obtain ⟨f, fd, F, b, g⟩ := T.f_worth_of
  have c_heights := ok_heights (Pr := Pr) (w := w) (base := base) T
  refine ⟨f, fd, g, F.kp, b, fn_ok F sc_worth_of (fun xs d h => by obtain ⟨_, rfl, _⟩ := h; rfl) (fun cdv A outer s H E hr => ⟨_, (pss_one (ps_ret (pe_callB (kc_max K rfl) (by rfl) T.b_max bt_max (pa_cons (pe_op (ko_add K) (pe_lst (pa_cons pe_int pa_nil)) (pe_own c_heights (hr.mono (by decide)) (by rfl) (pa_cons (pv 0) pa_nil))) pa_nil)))), fun xs d hR => ?_⟩)⟩
  obtain ⟨a0, rfl, hR⟩ := hR
  obtain ⟨ls, rfl, hl, rfl⟩ := hR
  refine sx_ret (ev_max (ns := 0 :: hts ls) (Ev.rl (ev_op (en_lst (ea_cons ev_int ea_nil) (by decide)).ev (ev_call (ea_cons (ev_var rfl) ea_nil) ⟨_, rfl, ls, rfl, hl, rfl⟩) (rd_addL (by simp only [List.length_map, hts_len]; show 1 + _ ≤ _; omega)))) (mx_mem _) (mx_le _)) rfl
end
end L3
end

section
set_option Elab.async false
set_option linter.all false
set_option maxRecDepth 100000
set_option autoImplicit false
/-! What the defs compute, further. -/
namespace L3
open PySem L2
def kL (l : Lk) : List Key := [.inl l.1, .inl l.2.1, .inl l.2.2]
theorem kD_kL (l : Lk) : kD (kL l) = eL l := rfl
theorem kL_inj {l m : Lk} (h : kL l = kL m) : l = m := by
  obtain ⟨a, b, c⟩ := l
  obtain ⟨a', b', c'⟩ := m
  simp only [kL, List.cons.injEq, Sum.inl.injEq, and_true] at h
  obtain ⟨h1, h2, h3⟩ := h
  subst h1 h2 h3
  rfl
def eE (acc : List (Lk × Int)) : List (List Key × PyData) := acc.map fun p => (kL p.1, .int p.2)
def dstep (acc : List (Lk × Int)) (l : Lk) : Int := l.2.2 + mx ((acc.filter fun p => behind l p.1).map (·.2))
def dpsF : List Lk → List (Lk × Int) → List (Lk × Int)
  | [], acc => acc
  | l :: r, acc => dpsF r (acc ++ [(l, dstep acc l)])
def dpsE (ls : List Lk) : List (Lk × Int) := dpsF ls.reverse []
def dps (ls : List Lk) : List Int := ((dpsE ls).map (·.2)).reverse
theorem dpsF_snoc (l : Lk) : ∀ (r : List Lk) (acc : List (Lk × Int)), dpsF (r ++ [l]) acc = dpsF r acc ++ [(l, dstep (dpsF r acc) l)]
  | [], acc => rfl
  | m :: r, acc => dpsF_snoc l r _
theorem dpsF_keys : ∀ (r : List Lk) (acc : List (Lk × Int)), (dpsF r acc).map (·.1) = acc.map (·.1) ++ r
  | [], acc => (List.append_nil _).symm
  | l :: r, acc => by
    show (dpsF r (acc ++ [(l, dstep acc l)])).map (·.1) = _
    rw [dpsF_keys r, List.map_append, List.append_assoc]
    rfl
theorem dpsE_keys (ls : List Lk) : (dpsE ls).map (·.1) = ls.reverse := by
  unfold dpsE
  rw [dpsF_keys]
  rfl
theorem dps_len (ls : List Lk) : (dps ls).length = ls.length := by
  unfold dps
  rw [List.length_reverse, List.length_map]
  have h := congrArg List.length (dpsE_keys ls)
  rw [List.length_map, List.length_reverse] at h
  exact h
theorem eE_keys (acc : List (Lk × Int)) : (eE acc).map (·.1) = (acc.map (·.1)).map kL := by
  unfold eE
  rw [List.map_map, List.map_map]
  rfl
theorem valD_eE {acc : List (Lk × Int)} (nd : (acc.map (·.1)).Nodup) {p : Lk × Int} (h : p ∈ acc) : valD (eE acc) (kL p.1) = some (.int p.2) := by
  induction acc with
  | nil => exact nomatch h
  | cons a r ih =>
    rw [List.map_cons, List.nodup_cons] at nd
    unfold valD eE
    rw [List.map_cons, List.find?_cons]
    rcases List.mem_cons.mp h with e | h
    · subst e
      simp
    · have ne : kL a.1 ≠ kL p.1 := fun z => nd.1 (by rw [kL_inj z]; exact List.mem_map_of_mem h)
      simp only [ne, decide_false]
      exact ih nd.2 h
theorem putD_eE {acc : List (Lk × Int)} {l : Lk} {n : Int} (h : l ∉ acc.map (·.1)) : putD (eE acc) (kL l) (.int n) = eE (acc ++ [(l, n)]) := by
  unfold putD
  have e : ((eE acc).any fun p => decide (p.1 = kL l)) = false := by
    rw [List.any_eq_false]
    intro q hq
    unfold eE at hq
    obtain ⟨p, hp, e⟩ := List.mem_map.mp hq
    subst e
    simp only [decide_eq_true_eq]
    exact fun z => h (by rw [← kL_inj z]; exact List.mem_map_of_mem hp)
  rw [e, if_neg Bool.false_ne_true]
  unfold eE
  rw [List.map_append]
  rfl
theorem eE_zip (ls : List Lk) (ns : List Int) : eE (ls.zip ns) = (ls.map kL).zip (ns.map .int) := by
  unfold eE
  rw [List.zip_map]
  rfl
theorem zip_keys {ls : List Lk} {ns : List Int} (h : ns.length = ls.length) : (ls.zip ns).map (·.1) = ls := List.map_fst_zip (by omega)
theorem nodup_kL {ls : List Lk} (h : ls.Nodup) : (ls.map kL).Nodup := by
  induction ls with
  | nil => exact List.nodup_nil
  | cons l r ih =>
    rw [List.nodup_cons] at h
    rw [List.map_cons, List.nodup_cons]
    refine ⟨fun m => ?_, ih h.2⟩
    obtain ⟨x, hx, e⟩ := List.mem_map.mp m
    rw [kL_inj e] at hx
    exact h.1 hx
theorem nodup_rev {α : Type} {l : List α} (h : l.Nodup) : l.reverse.Nodup := (List.reverse_perm l).nodup_iff.mpr h
theorem zip_self (l : List (Lk × Int)) : (l.map (·.1)).zip (l.map (·.2)) = l := by
  induction l with
  | nil => rfl
  | cons a r ih => rw [List.map_cons, List.map_cons, List.zip_cons_cons, ih]
theorem dps_zip (ls : List Lk) : ls.zip (dps ls) = (dpsE ls).reverse := by
  have h := zip_self (dpsE ls).reverse
  rw [List.map_reverse, List.map_reverse, dpsE_keys, List.reverse_reverse] at h
  exact h
theorem dpsE_nodup {ls : List Lk} (h : ls.Nodup) : ((dpsE ls).map (·.1)).Nodup := by
  rw [dpsE_keys]
  exact nodup_rev h
theorem dpsF_mem {r : List Lk} {p : Lk × Int} (h : p ∈ dpsF r []) : p.1 ∈ r := by
  have q := List.mem_map_of_mem (f := (·.1)) h
  rw [dpsF_keys] at q
  exact q
/-! the match that is told -/
def okp : Option Lk → Lk → Bool
  | none, _ => true
  | some p, l => behind p l
def cands (ls : List Lk) (prev : Option Lk) (most : Int) : List Lk := ((ls.zip (dps ls)).filter fun p => decide (p.2 = most) && okp prev p.1).map (·.1)
def pick (f : Bool) (c : Lk) (cs : List Lk) : Lk := if f then cs.foldl (fun a y => if PySem.W.dataLt (eL y) (eL a) then y else a) c else cs.foldl (fun a y => if PySem.W.dataLt (eL a) (eL y) then y else a) c
theorem pick_min (c : Lk) (cs : List Lk) : PySem.W.minD (eL c) (cs.map eL) = eL (pick true c cs) := by
  unfold PySem.W.minD pick
  rw [if_pos rfl]
  induction cs generalizing c with
  | nil => rfl
  | cons y r ih =>
    rw [List.map_cons, List.foldl_cons, List.foldl_cons, ← ih]
    congr 1
    split <;> rfl
theorem pick_max (c : Lk) (cs : List Lk) : PySem.W.maxD (eL c) (cs.map eL) = eL (pick false c cs) := by
  unfold PySem.W.maxD pick
  rw [if_neg Bool.false_ne_true]
  induction cs generalizing c with
  | nil => rfl
  | cons y r ih =>
    rw [List.map_cons, List.foldl_cons, List.foldl_cons, ← ih]
    congr 1
    split <;> rfl
inductive Greedy (f : Bool) (ls : List Lk) : Option Lk → Int → List Lk → Prop
  | done {prev : Option Lk} {most : Int} : ¬ 0 < most → Greedy f ls prev most []
  | step {prev : Option Lk} {most : Int} {c : Lk} {cs m : List Lk} : 0 < most → cands ls prev most = c :: cs → Greedy f ls (some (pick f c cs)) (most - (pick f c cs).2.2) m → Greedy f ls prev most (pick f c cs :: m)
/-! counts -/
structure Rw where
  b : Int
  e : Int
  l : Lk
def rows (ls : List Lk) : List Rw := (ls.zip (hts ls)).map fun p => ⟨p.2 - p.1.2.2, p.2, p.1⟩
abbrev Cnt : Type := List Lk × Int
def eK (ks : List Cnt) : PyData := .tuple (ks.map fun k => .tuple [eLs k.1, .int k.2])
def cts (ls : List Lk) (ms : List Int) : List Cnt := (ms.zip (ms.drop 1)).map fun p => (((rows ls).filter fun r => decide (r.b ≤ p.1) && decide (p.2 ≤ r.e)).map (·.l), p.2 - p.1)
structure Marks (ls : List Lk) (ms : List Int) : Prop where
  up : ms.Pairwise (· < ·)
  mem : ∀ k, k ∈ ms ↔ k ∈ (rows ls).map (·.b) ++ (rows ls).map (·.e)
/-! through -/
def thr (ls : List Lk) : List Int := (ls.zip ((hts ls).zip (dps ls))).map fun p => p.2.1 + p.2.2 - p.1.2.2
def sortOf (ls : List Lk) (k : Nat) (n : Int) : Str := if n < wof ls then ("never" : Str) else if wof (ls.take k ++ ls.drop (k + 1)) = n then ("at times" : Str) else ("always" : Str)
def srts (ls : List Lk) : List Str := (thr ls).zipIdx.map fun p => sortOf ls p.2 p.1
theorem rows_len (ls : List Lk) : (rows ls).length = ls.length := by
  unfold rows
  rw [List.length_map, List.length_zip, hts_len, Nat.min_self]
theorem thr_len (ls : List Lk) : (thr ls).length = ls.length := by
  unfold thr
  rw [List.length_map, List.length_zip, List.length_zip, hts_len, dps_len, Nat.min_self, Nat.min_self]
theorem nodup_sub_len {α : Type} [DecidableEq α] : ∀ (l D : List α), l.Nodup → (∀ x ∈ l, x ∈ D) → l.length ≤ D.length
  | [], _, _, _ => Nat.zero_le _
  | a :: l, D, nd, h => by
    rw [List.nodup_cons] at nd
    have ha := h a List.mem_cons_self
    have q := nodup_sub_len l (D.erase a) nd.2 fun x hx => by
      have hne : x ≠ a := fun z => nd.1 (z ▸ hx)
      exact (List.mem_erase_of_ne hne).mpr (h x (List.mem_cons_of_mem _ hx))
    rw [List.length_erase_of_mem ha] at q
    have := List.length_pos_of_mem ha
    rw [List.length_cons]
    omega
theorem marks_len {ls : List Lk} {ms : List Int} (mk : Marks ls ms) (hl : ls.length ≤ 30) : ms.length ≤ 100 := by
  have nd : ms.Nodup := mk.up.imp fun h => by omega
  have q := nodup_sub_len ms _ nd fun x hx => (mk.mem x).mp hx
  rw [List.length_append, List.length_map, List.length_map, rows_len] at q
  omega
/-! promises -/
def rDepths : List PyData → PyData → Prop := R1 fun a d => ∃ ls, a = eLs ls ∧ ls.length ≤ 60 ∧ ls.Nodup ∧ d = .list ((dps ls).map .int)
def rMatchBy : List PyData → PyData → Prop := R2' fun a b d => ∃ ls f m, a = eLs ls ∧ b = .bool f ∧ ls.length ≤ 60 ∧ ls.Nodup ∧ Greedy f ls none (wof ls) m ∧ m.length ≤ 60 ∧ d = eLs m
def rCountsOf : List PyData → PyData → Prop := R1 fun a d => ∃ ls ms, a = eLs ls ∧ ls.length ≤ 30 ∧ Marks ls ms ∧ d = eK (cts ls ms)
def rBest : List PyData → PyData → Prop := R2' fun a b d => ∃ c ls m ms, a = eC c ∧ b = eLs ls ∧ GoodC c ∧ GoodLs c ls ∧ ls.length ≤ 30 ∧ ls.Nodup ∧ Greedy true ls none (wof ls) m ∧ m.length ≤ 60 ∧ Marks ls ms ∧ d = .tuple [eLs m, eK (cts ls ms)]
def chain : List Lk → Bool
  | [] => true
  | l :: r => (match r with | [] => true | m :: _ => behind l m) && chain r
def rIsOneOf : List PyData → PyData → Prop := R2' fun a b d => ∃ ls l, a = eLs ls ∧ b = eL l ∧ l ∈ ls ∧ d = .bool true
def rIsMatch : List PyData → PyData → Prop := R2' fun a b d => ∃ ls m, a = eLs ls ∧ b = eLs m ∧ m.length ≤ 60 ∧ (∀ l ∈ m, l ∈ ls) ∧ ((m.zip (m.drop 1)).all fun p => behind p.1 p.2) = true ∧ d = .bool true
structure GoodCnt (ls : List Lk) (k : Cnt) : Prop where
  ne : k.1 ≠ []
  le : k.1.length ≤ 60
  sub : ∀ l ∈ k.1, l ∈ ls
  up : asc (k.1.map fun l => [l.1, l.2.1, l.2.2]) = true
  anti : ∀ l ∈ k.1, ∀ m ∈ k.1, behind l m = false
  pos : 1 ≤ k.2
def rIsCount : List PyData → PyData → Prop := R2' fun a b d => ∃ ls k, a = eLs ls ∧ b = .tuple [eLs k.1, .int k.2] ∧ GoodCnt ls k ∧ d = .bool true
def eB (m : List Lk) (ks : List Cnt) : PyData := .tuple [eLs m, eK ks]
def wt (m : List Lk) : Int := (m.map (·.2.2)).sum
def over (ks : List Cnt) (l : Lk) : Int := ((ks.filter fun k => decide (l ∈ k.1)).map (·.2)).sum
structure Shows (ls m : List Lk) (ks : List Cnt) : Prop where
  le : m.length ≤ 60
  sub : ∀ l ∈ m, l ∈ ls
  ch : ((m.zip (m.drop 1)).all fun p => behind p.1 p.2) = true
  kl : ks.length ≤ 1000
  cnt : ∀ k ∈ ks, GoodCnt ls k
  sum : wt m = (ks.map (·.2)).sum
  cov : ∀ l ∈ ls, l.2.2 ≤ over ks l
def rShows : List PyData → PyData → Prop := R3' fun a b e d => ∃ c ls m ks, a = eC c ∧ b = eLs ls ∧ e = eB m ks ∧ GoodC c ∧ GoodLs c ls ∧ Shows ls m ks ∧ d = .bool true
def rWorth : List PyData → PyData → Prop := R2' fun a b d => ∃ c ls, a = eC c ∧ b = eLs ls ∧ GoodC c ∧ GoodLs c ls ∧ d = .int (wof ls)
def rThrough : List PyData → PyData → Prop := R1 fun a d => ∃ ls, a = eLs ls ∧ ls.length ≤ 60 ∧ ls.Nodup ∧ d = .list ((thr ls).map .int)
def rWorthWith : List PyData → PyData → Prop := R3' fun a b e d => ∃ c ls l n, a = eC c ∧ b = eLs ls ∧ e = eL l ∧ GoodC c ∧ GoodLs c ls ∧ ls.Nodup ∧ (l, n) ∈ ls.zip (thr ls) ∧ d = .int n
def rSortOf : List PyData → PyData → Prop := R3' fun a b e d => ∃ ls k n, a = eLs ls ∧ b = .int (k : Nat) ∧ e = .int n ∧ ls.length ≤ 60 ∧ d = .str (sortOf ls k n)
def rSorts : List PyData → PyData → Prop := R2' fun a b d => ∃ c ls, a = eC c ∧ b = eLs ls ∧ GoodC c ∧ GoodLs c ls ∧ ls.Nodup ∧ d = .tuple ((srts ls).map .str)
def rLeast (f : Bool) : List PyData → PyData → Prop := R2' fun a b d => ∃ c ls m, a = eC c ∧ b = eLs ls ∧ GoodC c ∧ GoodLs c ls ∧ ls.Nodup ∧ Greedy f ls none (wof ls) m ∧ m.length ≤ 60 ∧ d = eLs m
def rRaiseTo : List PyData → PyData → Prop := R3' fun a b e d => ∃ c ls l n, a = eC c ∧ b = eLs ls ∧ e = eL l ∧ GoodC c ∧ GoodLs c ls ∧ ls.Nodup ∧ (l, n) ∈ ls.zip (thr ls) ∧ d = .int (l.2.2 + wof ls - n)
theorem alike_eL (l m : Lk) : PySem.W.alike (eL l) (eL m) = true := rfl
theorem alikeAll_eL (ls : List Lk) : PySem.W.AlikeAll (ls.map eL) := by
  refine ⟨fun x hx y hy => ?_, fun x hx => ?_⟩
  · obtain ⟨l, _, e⟩ := List.mem_map.mp hx
    obtain ⟨m, _, e'⟩ := List.mem_map.mp hy
    subst e e'
    rfl
  · obtain ⟨l, _, e⟩ := List.mem_map.mp hx
    subst e
    exact fun z => nomatch z
end L3
end

section
set_option Elab.async false
set_option linter.all false
set_option maxRecDepth 100000
set_option maxHeartbeats 1000000
set_option autoImplicit false
namespace L3
open PySem L2
section
variable {Pr : Program} {w : World} {K : PySem.W.Frag} {mg : Str → Option Value} {base : Heap}
theorem ok_depths (T : Fx K mg) : Ok Pr w K mg base "depths" 2 ["likes"] (spD K rDepths) := by
  obtain ⟨f, fd, F, b, g⟩ := T.f_depths
  have c_is_behind := ok_is_behind (Pr := Pr) (w := w) (base := base) T
  refine ⟨f, fd, g, F.kp, b, fn_ok F sc_depths (fun xs d h => by obtain ⟨_, rfl, _⟩ := h; rfl) (fun cdv A outer s H E hr => ⟨_, (pss_cons (ps_set (i := 1) sc_depths.nd rfl (.inr rfl) pe_dnewT)
      (pss_cons (ps_for PassesOwn.never rfl (kw_seq K (kp_revT K (pv 0))) (pg_name (i := 2) sc_depths.nd rfl (by first | exact Or.inl rfl | exact Or.inr rfl)) (pss_cons (ps_lock (ps_setLc (i := 3) (own := [("one", 4)]) (g := (gName 4)) rfl sc_depths.nd rfl rfl (sw_true rfl rfl rfl (by decide +kernel)) (pi_keys (pv 1)) (blkOk_by (own := [("one", 4)]) (N := N_depths) (sc := defScope st_depths) (by decide +kernel)) (fun _ _ _ _ _ => (pg_name (i := 4) sc_depths.nd rfl (by first | exact Or.inl rfl | exact Or.inr rfl))) (fun _ _ _ _ _ => (pts_one (pt_val (pe_own c_is_behind (hr.mono (by decide)) (by rfl) (pa_cons (pv 2) (pa_cons (pv 4) pa_nil)))))) (fun _ _ _ _ _ => (pe_dget (u1 hr) (pv 1) (pv 4) (fun _ _ => rfl)))))
      (pss_one (ps_dput (u1 hr) (pv 1) (pv 2) (pe_op (ko_add K) (pe_ix (ki_seq K) (pv 2) pe_int (fun _ _ => rfl)) (pe_callB (kc_max K rfl) (by rfl) T.b_max bt_max (pa_cons (pe_op (ko_add K) (pe_lst (pa_cons pe_int pa_nil)) (pv 3)) pa_nil))) rfl))))
      (pss_one (ps_ret (pe_lc (own := [("like", 2)]) (g := (gName 2)) rfl sc_depths.nd (kw_seq K (pv 0)) (blkOk_by (own := [("like", 2)]) (N := N_depths) (sc := defScope st_depths) (by decide +kernel)) (fun _ _ _ _ _ => (pg_name (i := 2) sc_depths.nd rfl (by first | exact Or.inl rfl | exact Or.inr rfl))) (fun _ _ _ _ _ => pts_nil) (fun _ _ _ _ _ => (pe_dget (u1 hr) (pv 1) (pv 2) (fun _ _ => rfl)))))))), fun xs d hR => ?_⟩)⟩
  obtain ⟨a0, rfl, hR⟩ := hR
  obtain ⟨ls, rfl, hl, nd, rfl⟩ := hR
  refine q_dict end_new ?_
  refine q_for ls.reverse eL (fun i ds => ∃ s2 s3, ds = [.pu (eLs ls), .od (eE (dpsF (ls.reverse.take i) [])), s2, s3, .un]) (fun l ds => ds.set 2 (.pu (eL l))) ((eI_tup (ev_revT (ev_var rfl))).is List.map_reverse.symm) ⟨_, _, rfl⟩ (fun i l ds _ ⟨s2, s3, e⟩ => by subst e; exact tg1) ?_ ?_
  · rintro i l _ hi ⟨s2, s3, rfl⟩
    have il : i < ls.length := by have := (List.getElem?_eq_some_iff.mp hi).1; rw [List.length_reverse] at this; exact this
    have tk : ls.reverse.take (i + 1) = ls.reverse.take i ++ [l] := by rw [List.take_add_one, hi]; rfl
    have ndr : ls.reverse.Nodup := nodup_rev nd
    have ln : l ∉ (dpsF (ls.reverse.take i) []).map (·.1) := fun m => by
      rw [dpsF_keys, List.map_nil, List.nil_append] at m
      obtain ⟨j, hj, ej⟩ := List.getElem_of_mem m
      rw [List.length_take] at hj
      rw [List.getElem_take] at ej
      obtain ⟨hi1, hi2⟩ := List.getElem?_eq_some_iff.mp hi
      have := (List.getElem_inj ndr (h₀ := by omega) (h₁ := hi1)).mp (ej.trans hi2.symm)
      omega
    have na : ((dpsF (ls.reverse.take i) []).map (·.1)).Nodup := by
      rw [dpsF_keys]
      exact ndr.sublist (List.take_sublist _ _)
    have al : (dpsF (ls.reverse.take i) []).length ≤ 60 := by
      have := congrArg List.length (dpsF_keys (ls.reverse.take i) [])
      rw [List.length_map, List.map_nil, List.nil_append, List.length_take, List.length_reverse] at this
      omega
    generalize hF : dpsF (ls.reverse.take i) [] = acc at ln na al
    refine q_lock (i := 1) rfl (lc1f acc (fun p => eL p.1) (fun p => .int p.2) (fun p => behind l p.1) ((eIr_keys rfl).is (by unfold eE; rw [List.map_map]; rfl)) (by omega)
      (fun p _ => et_B (ev_call (ea_cons (ev_var rfl) (ea_cons (ev_var rfl) ea_nil)) ⟨_, _, rfl, l, p.1, rfl, rfl, rfl⟩)) fun p hp _ => ev_dget (erd_frz rfl) (ev_var rfl) (valD_eE na hp)) ?_
    refine sx_dput (k := kL l) rfl (ev_op (ev_op (ev_var rfl) ev_int (rd_ixT (atI_nat (j := 2) rfl))) (ev_max (ns := 0 :: (acc.filter fun p => behind l p.1).map (·.2)) (m := mx ((acc.filter fun p => behind l p.1).map (·.2))) ((Ev.rl (ev_op (en_lst (ea_cons ev_int ea_nil) (by decide)).ev (ev_var rfl) (rd_addL ?_))).is ?_) (mx_mem _) (mx_le _)) rd_addI) (ev_var rfl) (by unfold eE; rw [List.length_map]; omega) ?_
    · rw [List.length_map]
      have := List.length_filter_le (fun p => behind l p.1) acc
      show 1 + _ ≤ _
      omega
    · rw [List.map_cons, List.map_map]
      rfl
    · show ∃ s2 s3, _ = _
      rw [tk, dpsF_snoc, hF, ← putD_eE ln]
      exact ⟨_, _, rfl⟩
  · rintro _ ⟨s2, s3, rfl⟩
    have e : ls.reverse.take ls.reverse.length = ls.reverse := List.take_length
    rw [e]
    refine sx_ret (ev_is (lc1 (ls.zip (dps ls)) (fun p => eL p.1) (fun p => .int p.2) ((eI_tup (ev_var rfl)).r.is ?_) (by rw [List.length_zip]; omega) fun p hp => ev_dget (erd_own rfl) (ev_var rfl) (valD_eE (acc := dpsE ls) (dpsE_nodup nd) (by rw [dps_zip] at hp; exact List.mem_reverse.mp hp))).ev ?_) rfl
    · have := congrArg (List.map eL) (List.map_fst_zip (l₁ := ls) (l₂ := dps ls) (by rw [dps_len]; exact Nat.le_refl _))
      rw [List.map_map] at this
      exact this.symm
    · have := congrArg (List.map PyData.int) (List.map_snd_zip (l₁ := ls) (l₂ := dps ls) (by rw [dps_len]; exact Nat.le_refl _))
      rw [List.map_map] at this
      exact congrArg PyData.list this
end
end L3
end

section
set_option Elab.async false
set_option linter.all false
set_option maxRecDepth 100000
set_option maxHeartbeats 1000000
set_option autoImplicit false
namespace L3
open PySem L2
section
variable {Pr : Program} {w : World} {K : PySem.W.Frag} {mg : Str → Option Value} {base : Heap}
theorem ok_match_by (T : Fx K mg) : Ok Pr w K mg base "match_by" 4 ["likes", "is_first"] (spD K rMatchBy) := by
  obtain ⟨f, fd, F, b, g⟩ := T.f_match_by
  have c_depths := ok_depths (Pr := Pr) (w := w) (base := base) T
  have c_worth_of := ok_worth_of (Pr := Pr) (w := w) (base := base) T
  have c_is_behind := ok_is_behind (Pr := Pr) (w := w) (base := base) T
  refine ⟨f, fd, g, F.kp, b, fn_ok F sc_match_by (fun xs d h => by obtain ⟨_, _, rfl, _⟩ := h; rfl) (fun cdv A outer s H E hr => ⟨_, (pss_cons (ps_asg (pe_tup (pa_cons (kp_dzip K rfl (u64 hr) (by rfl) T.b_dict (by rfl) T.b_zip (pa_cons (pv 0) (pa_cons (pe_own c_depths (hr.mono (by decide)) (by rfl) (pa_cons (pv 0) pa_nil)) pa_nil))) (pa_cons (pe_own c_worth_of (hr.mono (by decide)) (by rfl) (pa_cons (pv 0) pa_nil)) (pa_cons (pe_lst pa_nil) pa_nil)))) (pg_tup rfl (pgs_cons (pg_name (i := 2) sc_match_by.nd rfl (by first | exact Or.inl rfl | exact Or.inr rfl)) (pgs_cons (pg_name (i := 3) sc_match_by.nd rfl (by first | exact Or.inl rfl | exact Or.inr rfl)) (pgs_cons (pg_name (i := 4) sc_match_by.nd rfl (by first | exact Or.inl rfl | exact Or.inr rfl)) pgs_nil)))))
      (pss_cons (ps_while PassesOwn.never (pt_cmpR op_gt (pv 3) pe_int (nomark _)) (pss_cons (ps_setLc (i := 5) (own := [("like", 6)]) (g := (gName 6)) rfl sc_match_by.nd rfl rfl (sw_true rfl rfl rfl (by decide +kernel)) (kw_seq K (pv 0)) (blkOk_by (own := [("like", 6)]) (N := N_match_by) (sc := defScope st_match_by) (by decide +kernel)) (fun _ _ _ _ _ => (pg_name (i := 6) sc_match_by.nd rfl (by first | exact Or.inl rfl | exact Or.inr rfl))) (fun _ _ _ _ _ => (pts_one (PW.pt (pw_and (pt_cmpR (ko_eq K (u64 hr)) (pe_dget (u1 hr) (pv 2) (pv 6) (fun _ _ => rfl)) (pv 3) (nomark _)) (pw_and1 (PW.pt (pw_or (pt_cmpR (ko_eq K (u64 hr)) (pv 4) (pe_lst pa_nil) (nomark _)) (pw_or1 (pt_val (pe_own c_is_behind (hr.mono (by decide)) (by rfl) (pa_cons (pe_ix (ki_seq K) (pv 4) (pe_un un_neg pe_int) (fun _ _ => rfl)) (pa_cons (pv 6) pa_nil)))))))))))) (fun _ _ _ _ _ => (pv 6)))
      (pss_cons (ps_expr (pe_bm PySem.F.plainAttrs_list PySem.F.slot_list_append PySem.F.type_list_append mt_append (pv 4) (pa_cons (pe_ifExp (pt_val (pv 1)) (pe_callB (kc_minD K rfl (u64 hr)) (by rfl) T.b_min bt_min (pa_cons (pv 5) pa_nil)) (pe_callB (kc_maxD K rfl (u64 hr)) (by rfl) T.b_max bt_max (pa_cons (pv 5) pa_nil))) pa_nil)))
      (pss_one (ps_set (i := 3) sc_match_by.nd rfl (.inr rfl) (pe_op op_sub (pv 3) (pe_ix (ki_seq K) (pe_ix (ki_seq K) (pv 4) (pe_un un_neg pe_int) (fun _ _ => rfl)) pe_int (fun _ _ => rfl))))))))
      (pss_one (ps_ret (pe_callTy (kc_tuple K) (by rfl) T.b_tuple bt_tuple (pa_cons (pv 4) pa_nil)))))), fun xs d hR => ?_⟩)⟩
  obtain ⟨a0, a1, rfl, hR⟩ := hR
  obtain ⟨ls, f, m, rfl, rfl, hl, nd, gr, hm, rfl⟩ := hR
  have e0 : eE (ls.zip (dps ls)) = (ls.map kL).zip ((dps ls).map .int) := eE_zip _ _
  have nz : ((ls.zip (dps ls)).map (·.1)).Nodup := by rw [zip_keys (dps_len ls)]; exact nd
  refine q_tpar3 (s1 := .od (eE (ls.zip (dps ls)))) (by
      rw [e0]
      exact ek_dict (end_dzip (k2 := .l) (ks := ls.map kL) (ys := (dps ls).map .int) (ev_is (ev_var rfl) (by rw [List.map_map]; rfl)) (ev_call (ea_cons (ev_var rfl) ea_nil) ⟨_, rfl, ls, rfl, hl, nd, rfl⟩) (nodup_kL nd) (by rw [List.length_map, List.length_map, dps_len]) (by rw [List.length_map]; omega)))
    (ev_call (ea_cons (ev_var rfl) ea_nil) ⟨_, rfl, ls, rfl, hl, rfl⟩).ek (en_lst ea_nil (by decide)).ek ?_
  refine sx_seq (Mid := fun ds => ∃ s5 s3, ds = [.pu (eLs ls), .pu (.bool f), .od (eE (ls.zip (dps ls))), s3, .ol (m.map eL), s5, .un]) (sx_while (Inv := fun n ds => ∃ (dn rest : List Lk) (most : Int) (s5 : Sl), Greedy f ls dn.getLast? most rest ∧ dn ++ rest = m ∧ n = rest.length ∧ ds = [.pu (eLs ls), .pu (.bool f), .od (eE (ls.zip (dps ls))), .pu (.int most), .ol (dn.map eL), s5, .un]) m.length ⟨[], m, wof ls, .un, gr, rfl, rfl, rfl⟩ ?_) ?_
  · rintro n _ ⟨dn, rest, most, s5, g, em, en, rfl⟩
    refine ⟨decide (0 < most), et_test (ev_op (ev_var rfl) ev_int rd_gt), fun hb => ?_, fun hb => ?_⟩
    · have pm : 0 < most := of_decide_eq_true hb
      generalize hp : dn.getLast? = prev at g
      cases g with
      | done h => exact absurd pm h
      | @step _ _ c cs m' _ hc g' =>
        have ld : dn.length ≤ 60 := by have := congrArg List.length em; rw [List.length_append] at this; omega
        have lc : (cands ls prev most).length ≤ 60 := by
          unfold cands
          rw [List.length_map]
          have := List.length_filter_le (fun p => decide (p.2 = most) && okp prev p.1) (ls.zip (dps ls))
          rw [List.length_zip] at this
          omega
        refine q_set (d := .list ((cands ls prev most).map eL)) (ev_is (lc1f (ls.zip (dps ls)) (fun p => eL p.1) (fun p => eL p.1) (fun p => decide (p.2 = most) && okp prev p.1) ((eI_tup (ev_var rfl)).r.is ?_) (by rw [List.length_zip]; omega) (fun p hp' => ?_) fun p _ _ => ev_var rfl).ev ?_) ?_
        · have := congrArg (List.map eL) (List.map_fst_zip (l₁ := ls) (l₂ := dps ls) (by rw [dps_len]; exact Nat.le_refl _))
          rw [List.map_map] at this
          exact this.symm
        · refine et_and (et_is (et_test (ev_op (ev_dget (erd_own rfl) (ev_var rfl) (valD_eE nz hp')) (ev_var rfl) (rd_eq rfl rfl))) (by by_cases h : p.2 = most <;> simp [PyData.eqv, h])) fun _ => ?_
          have shd : SeqAt.shaped (.list (dn.map eL)) = true := sh_lst (can_map eL (fun _ => rfl) dn) (Nat.le_trans (dep_map eL 1 (fun _ => Nat.le_refl _) dn) (by decide))
          cases hd : dn.getLast? with
          | none =>
            have e1 : dn = [] := List.getLast?_eq_none_iff.mp hd
            subst e1
            rw [hd] at hp
            subst hp
            exact et_is (et_or (b := true) (et_test (ev_eqR (er_own rfl) (en_lst ea_nil (by decide)).ev shd rfl)) fun h => nomatch h) rfl
          | some q =>
            obtain ⟨l0, e1⟩ := List.getLast?_eq_some_iff.mp hd
            rw [hd] at hp
            subst hp
            refine et_is (et_or (et_test (ev_eqR (er_own rfl) (en_lst ea_nil (by decide)).ev shd rfl)) fun _ => et_B (ev_call (ea_cons (ev_ixR (er_own rfl) (ev_un ev_int ud_neg) (d := eL q) ?_) (ea_cons (ev_var rfl) ea_nil)) ⟨_, _, rfl, q, p.1, rfl, rfl, rfl⟩)) ?_
            · rw [e1, List.map_append]
              exact atI_last _ _
            · have e2 : PyData.eqv (.list (dn.map eL)) (.list []) = false := by
                rw [e1]
                cases l0 <;> rfl
              rw [e2]
              rfl
        · unfold cands
          rw [List.map_map]
          rfl
        · have al := alikeAll_eL (c :: cs)
          have cl := can_map eL (fun _ => rfl) (c :: cs)
          have dp := Nat.le_trans (dep_map eL 1 (fun _ => Nat.le_refl _) (c :: cs)) (show 1 ≤ 60 by decide)
          rw [hc]
          refine q_app (xs := dn.map eL) (d := eL (pick f c cs)) rfl (ev_if (b := f) (et_B (ev_var rfl)) (fun h => ?_) fun h => ?_) (by rw [List.length_map]; omega) ?_
          · subst h
            rw [← pick_min]
            exact ev_best (Ev.rl (ev_var rfl)) cl al dp
          · subst h
            rw [← pick_max]
            exact ev_best (Ev.rl (ev_var rfl)) cl al dp
          · refine sx_set (d := .int (most - (pick f c cs).2.2)) (ev_op (ev_var rfl) (ev_op (ev_ixR (er_own rfl) (ev_un ev_int ud_neg) (d := eL (pick f c cs)) (atI_last _ _)) ev_int (rd_ixT (atI_nat (j := 2) rfl))) rd_sub) (lt_of_some rfl) ?_
            refine ⟨m'.length, by rw [en]; exact Nat.lt_succ_self _, dn ++ [pick f c cs], m', most - (pick f c cs).2.2, .pu (.list ((c :: cs).map eL)), ?_, by rw [List.append_assoc]; exact em, rfl, ?_⟩
            · rw [List.getLast?_concat]
              exact g'
            · rw [List.map_append]
              rfl
    · have nm : ¬ 0 < most := of_decide_eq_false hb
      generalize hp : dn.getLast? = prev at g
      cases g with
      | done _ =>
        rw [List.append_nil] at em
        subst em
        exact ⟨_, _, rfl⟩
      | step h => exact absurd h nm
  · rintro _ ⟨s5, s3, rfl⟩
    exact sx_ret (ev_tupleR (er_own rfl)) rfl
theorem ok_counts_of (T : Fx K mg) : Ok Pr w K mg base "counts_of" 3 ["likes"] (spD K rCountsOf) := by
  obtain ⟨f, fd, F, b, g⟩ := T.f_counts_of
  have c_heights := ok_heights (Pr := Pr) (w := w) (base := base) T
  refine ⟨f, fd, g, F.kp, b, fn_ok F sc_counts_of (fun xs d h => by obtain ⟨_, rfl, _⟩ := h; rfl) (fun cdv A outer s H E hr => ⟨_, (pss_cons (ps_setLc (i := 1) (own := [("like", 2), ("height", 3)]) (g := (gTup K 2 (gCons (gName 2) (gCons (gName 3) gNil)))) rfl sc_counts_of.nd rfl rfl (sw_true rfl rfl rfl (by decide +kernel)) (kw_z2 K (by rfl) T.b_zip (pa_cons (pv 0) (pa_cons (pe_own c_heights (hr.mono (by decide)) (by rfl) (pa_cons (pv 0) pa_nil)) pa_nil))) (blkOk_by (own := [("like", 2), ("height", 3)]) (N := N_counts_of) (sc := defScope st_counts_of) (by decide +kernel)) (fun _ _ _ _ _ => (pg_tup rfl (pgs_cons (pg_name (i := 2) sc_counts_of.nd rfl (by first | exact Or.inl rfl | exact Or.inr rfl)) (pgs_cons (pg_name (i := 3) sc_counts_of.nd rfl (by first | exact Or.inl rfl | exact Or.inr rfl)) pgs_nil)))) (fun _ _ _ _ _ => pts_nil) (fun _ _ _ _ _ => (pe_tup (pa_cons (pe_op op_sub (pv 3) (pe_ix (ki_seq K) (pv 2) pe_int (fun _ _ => rfl))) (pa_cons (pv 3) (pa_cons (pv 2) pa_nil))))))
      (pss_cons (ps_set (i := 4) sc_counts_of.nd rfl (.inl rfl) (pe_callB (kc_sortedSet w rfl) (by rfl) T.b_sorted bt_sorted (pa_cons (pe_callTy (kc_setI K w rfl) (by rfl) T.b_set bt_set (pa_cons (pe_op (ko_add K) (pe_lc (own := [("row", 5)]) (g := (gName 5)) rfl sc_counts_of.nd (kw_seq K (pv 1)) (blkOk_by (own := [("row", 5)]) (N := N_counts_of) (sc := defScope st_counts_of) (by decide +kernel)) (fun _ _ _ _ _ => (pg_name (i := 5) sc_counts_of.nd rfl (by first | exact Or.inl rfl | exact Or.inr rfl))) (fun _ _ _ _ _ => pts_nil) (fun _ _ _ _ _ => (pe_ix (ki_seq K) (pv 5) pe_int (fun _ _ => rfl)))) (pe_lc (own := [("row", 5)]) (g := (gName 5)) rfl sc_counts_of.nd (kw_seq K (pv 1)) (blkOk_by (own := [("row", 5)]) (N := N_counts_of) (sc := defScope st_counts_of) (by decide +kernel)) (fun _ _ _ _ _ => (pg_name (i := 5) sc_counts_of.nd rfl (by first | exact Or.inl rfl | exact Or.inr rfl))) (fun _ _ _ _ _ => pts_nil) (fun _ _ _ _ _ => (pe_ix (ki_seq K) (pv 5) pe_int (fun _ _ => rfl))))) pa_nil)) pa_nil)))
      (pss_cons (ps_set (i := 6) sc_counts_of.nd rfl (.inl rfl) (pe_lst pa_nil))
      (pss_cons (ps_for PassesOwn.never rfl (kw_z2 K (by rfl) T.b_zip (pa_cons (pv 4) (pa_cons (pe_slice (ks_g K) (pv 4) (po_some pe_int) po_none) pa_nil))) (pg_tup rfl (pgs_cons (pg_name (i := 7) sc_counts_of.nd rfl (by first | exact Or.inl rfl | exact Or.inr rfl)) (pgs_cons (pg_name (i := 8) sc_counts_of.nd rfl (by first | exact Or.inl rfl | exact Or.inr rfl)) pgs_nil))) (pss_one (ps_expr (pe_bm PySem.F.plainAttrs_list PySem.F.slot_list_append PySem.F.type_list_append mt_append (pv 6) (pa_cons (pe_tup (pa_cons (pe_callTy (kc_tuple K) (by rfl) T.b_tuple bt_tuple (pa_cons (pe_lc (own := [("begin", 9), ("end", 10), ("like", 2)]) (g := (gTup K 3 (gCons (gName 9) (gCons (gName 10) (gCons (gName 2) gNil))))) rfl sc_counts_of.nd (kw_seq K (pv 1)) (blkOk_by (own := [("begin", 9), ("end", 10), ("like", 2)]) (N := N_counts_of) (sc := defScope st_counts_of) (by decide +kernel)) (fun _ _ _ _ _ => (pg_tup rfl (pgs_cons (pg_name (i := 9) sc_counts_of.nd rfl (by first | exact Or.inl rfl | exact Or.inr rfl)) (pgs_cons (pg_name (i := 10) sc_counts_of.nd rfl (by first | exact Or.inl rfl | exact Or.inr rfl)) (pgs_cons (pg_name (i := 2) sc_counts_of.nd rfl (by first | exact Or.inl rfl | exact Or.inr rfl)) pgs_nil))))) (fun _ _ _ _ _ => (pts_one (PW.pt (pw_and (pt_cmpR op_le (pv 9) (pv 7) (nomark _)) (pw_and1 (pt_cmpR op_le (pv 8) (pv 10) (nomark _))))))) (fun _ _ _ _ _ => (pv 2))) pa_nil)) (pa_cons (pe_op op_sub (pv 8) (pv 7)) pa_nil))) pa_nil)))))
      (pss_one (ps_ret (pe_callTy (kc_tuple K) (by rfl) T.b_tuple bt_tuple (pa_cons (pv 6) pa_nil)))))))), fun xs d hR => ?_⟩)⟩
  obtain ⟨a0, rfl, hR⟩ := hR
  obtain ⟨ls, ms, rfl, hl, mk, rfl⟩ := hR
  have lr : (rows ls).length = ls.length := rows_len ls
  have eR : (ls.zip (hts ls)).map (fun p => PyData.tuple [.int (p.2 - p.1.2.2), .int p.2, eL p.1]) = (rows ls).map fun r => .tuple [.int r.b, .int r.e, eL r.l] := by
    unfold rows
    rw [List.map_map]
    rfl
  refine q_set (d := .list ((rows ls).map fun r => .tuple [.int r.b, .int r.e, eL r.l])) (ev_is (lc2 (ls.zip (hts ls)) (fun p => eL p.1) (fun p => .int p.2) (fun p => .tuple [.int (p.2 - p.1.2.2), .int p.2, eL p.1]) ((eIr_z2 (k1 := .t) (k2 := .l) (ev_var rfl).rt (ev_call (ea_cons (ev_var rfl) ea_nil) ⟨_, rfl, ls, rfl, by omega, rfl⟩).rl).is (zipD_map _ _ _ _)) (by rw [List.length_zip]; omega)
    fun p _ => ev_tup (ea_cons (ev_op (ev_var rfl) (ev_op (ev_var rfl) ev_int (rd_ixT (atI_nat (j := 2) rfl))) rd_sub) (ea_cons (ev_var rfl) (ea_cons (ev_var rfl) ea_nil))) (by show 3 ≤ 100000; decide)).ev (by rw [eR])) ?_
  refine q_set (d := .list (ms.map .int)) (en_sortSet (k := .l) (ns := (rows ls).map (·.b) ++ (rows ls).map (·.e)) (Ev.rl (ev_is (ev_op (lc1 (rows ls) (fun r => .tuple [.int r.b, .int r.e, eL r.l]) (fun r => .int r.b) (eI_list (ev_var rfl)).r (by omega) fun r _ => ev_op (ev_var rfl) ev_int (rd_ixT (atI_nat (j := 0) rfl))).ev
    (lc1 (rows ls) (fun r => .tuple [.int r.b, .int r.e, eL r.l]) (fun r => .int r.e) (eI_list (ev_var rfl)).r (by omega) fun r _ => ev_op (ev_var rfl) ev_int (rd_ixT (atI_nat (j := 1) rfl))).ev (rd_addL (by rw [List.length_map, List.length_map]; omega))) (by rw [List.map_append, List.map_map, List.map_map]; rfl))) (by rw [List.length_append, List.length_map, List.length_map]; omega) mk.up mk.mem).ev ?_
  have lm : ms.length ≤ 100 := marks_len mk hl
  refine q_new (en_lst ea_nil (by decide)) ?_
  refine q_for (ms.zip (ms.drop 1)) (fun p => .tuple [.int p.1, .int p.2]) (fun i ds => ∃ s7 s8, ds = [.pu (eLs ls), .pu (.list ((rows ls).map fun r => .tuple [.int r.b, .int r.e, eL r.l])), .un, .un, .pu (.list (ms.map .int)), .un, .ol (((ms.zip (ms.drop 1)).take i).map fun p => .tuple [eLs (((rows ls).filter fun r => decide (r.b ≤ p.1) && decide (p.2 ≤ r.e)).map (·.l)), .int (p.2 - p.1)]), s7, s8, .un, .un])
    (fun p ds => (ds.set 7 (.pu (.int p.1))).set 8 (.pu (.int p.2))) ((eI_z2 (k1 := .l) (k2 := .l) (ev_var rfl) (en_slR (ev_var rfl).rl (eo_some ev_int) eo_none).ev).is ?_) ⟨_, _, rfl⟩ (fun i l ds _ ⟨s7, s8, e⟩ => by subst e; exact tg2) ?_ ?_
  · rw [show (1 : Int) = ((1 : Nat) : Int) from rfl, cutD_from, ← List.map_drop]
    exact zipD_map _ _ _ _
  · rintro i p _ hi ⟨s7, s8, rfl⟩
    have il : i < (ms.zip (ms.drop 1)).length := (List.getElem?_eq_some_iff.mp hi).1
    rw [List.length_zip] at il
    have eF : PyData.tuple (((rows ls).filter fun r => decide (r.b ≤ p.1) && decide (p.2 ≤ r.e)).map fun r => eL r.l) = eLs (((rows ls).filter fun r => decide (r.b ≤ p.1) && decide (p.2 ≤ r.e)).map (·.l)) := by
      unfold eLs
      rw [List.map_map]
      rfl
    refine sx_app rfl (ev_tup (ea_cons (ev_is (ev_tupleR (lc3f (rows ls) (fun r => .int r.b) (fun r => .int r.e) (fun r => eL r.l) (fun r => eL r.l) (fun r => decide (r.b ≤ p.1) && decide (p.2 ≤ r.e)) (eI_list (ev_var rfl)).r (by omega)
      (fun r _ => et_and (et_test (ev_op (ev_var rfl) (ev_var rfl) rd_le)) fun _ => et_test (ev_op (ev_var rfl) (ev_var rfl) rd_le)) fun r _ _ => ev_var rfl).rl) eF) (ea_cons (ev_op (ev_var rfl) (ev_var rfl) rd_sub) ea_nil)) (by show 2 ≤ 100000; decide)) (by rw [List.length_map, List.length_take]; omega) ?_
    show ∃ s7 s8, _ = _
    rw [List.take_add_one, hi, List.map_append]
    exact ⟨_, _, rfl⟩
  · rintro _ ⟨s7, s8, rfl⟩
    rw [List.take_length]
    refine sx_ret (ev_is (ev_tupleR (er_own rfl)) ?_) rfl
    unfold eK cts
    rw [List.map_map]
    rfl
end
end L3
end

section
set_option Elab.async false
set_option linter.all false
set_option maxRecDepth 100000
set_option maxHeartbeats 1000000
set_option autoImplicit false
namespace L3
open PySem L2
section
variable {Pr : Program} {w : World} {K : PySem.W.Frag} {mg : Str → Option Value} {base : Heap}
theorem ok_best (T : Fx K mg) : Ok Pr w K mg base "best" 7 ["cores", "likes"] (spD K rBest) := by
  obtain ⟨f, fd, F, b, g⟩ := T.f_best
  have c_check_likes := ok_check_likes (Pr := Pr) (w := w) (base := base) T
  have c_match_by := ok_match_by (Pr := Pr) (w := w) (base := base) T
  have c_counts_of := ok_counts_of (Pr := Pr) (w := w) (base := base) T
  refine ⟨f, fd, g, F.kp, b, fn_ok F sc_best (fun xs d h => by obtain ⟨_, _, rfl, _⟩ := h; rfl) (fun cdv A outer s H E hr => ⟨_, (pss_cons (ps_expr (pe_own c_check_likes (hr.mono (by decide)) (by rfl) (pa_cons (pv 0) (pa_cons (pv 1) pa_nil))))
      (pss_one (ps_ret (pe_tup (pa_cons (pe_own c_match_by (hr.mono (by decide)) (by rfl) (pa_cons (pv 1) (pa_cons pe_bl pa_nil))) (pa_cons (pe_own c_counts_of (hr.mono (by decide)) (by rfl) (pa_cons (pv 1) pa_nil)) pa_nil)))))), fun xs d hR => ?_⟩)⟩
  obtain ⟨a0, a1, rfl, hR⟩ := hR
  obtain ⟨c, ls, m, ms, rfl, rfl, h1, h2, hl, nd, gr, hm, mk, rfl⟩ := hR
  refine q_drop (ev_call (ea_cons (ev_var rfl) (ea_cons (ev_var rfl) ea_nil)) ⟨_, _, rfl, c, ls, rfl, rfl, h1, h2, rfl⟩) ?_
  exact sx_ret (ev_tup (ea_cons (ev_call (ea_cons (ev_var rfl) (ea_cons ev_bl ea_nil)) ⟨_, _, rfl, ls, true, m, rfl, rfl, by omega, nd, gr, hm, rfl⟩) (ea_cons (ev_call (ea_cons (ev_var rfl) ea_nil) ⟨_, rfl, ls, ms, rfl, hl, mk, rfl⟩) ea_nil)) (by show 2 ≤ 100000; decide)) rfl
theorem ok_is_one_of (T : Fx K mg) : Ok Pr w K mg base "is_one_of" 2 ["likes", "value"] (spD K rIsOneOf) := by
  obtain ⟨f, fd, F, b, g⟩ := T.f_is_one_of
  have c_is_integer := ok_is_integer (Pr := Pr) (w := w) (base := base) T
  refine ⟨f, fd, g, F.kp, b, fn_ok F sc_is_one_of (fun xs d h => by obtain ⟨_, _, rfl, _⟩ := h; rfl) (fun cdv A outer s H E hr => ⟨_, (pss_cons (ps_if (PW.pt (pw_or (pt_not (pt_val (pe_callB (kc_isi K) (by rfl) T.b_isinstance bt_isinstance (pa_cons (pv 1) (pa_cons (pe_bltn (v := .ty "tuple") (by rfl) T.b_tuple bt_tuple rfl) pa_nil))))) (pw_or1 (pt_not (pt_val (pe_callB (kc_all K rfl) (by rfl) T.b_all bt_all (pa_cons (pe_lc (own := [("part", 2)]) (g := (gName 2)) rfl sc_is_one_of.nd (kw_seq K (pv 1)) (blkOk_by (own := [("part", 2)]) (N := N_is_one_of) (sc := defScope st_is_one_of) (by decide +kernel)) (fun _ _ _ _ _ => (pg_name (i := 2) sc_is_one_of.nd rfl (by first | exact Or.inl rfl | exact Or.inr rfl))) (fun _ _ _ _ _ => pts_nil) (fun _ _ _ _ _ => (pe_own c_is_integer (hr.mono (by decide)) (by rfl) (pa_cons (pv 2) pa_nil)))) pa_nil))))))) (pss_one (ps_ret pe_bl)) pss_nil)
      (pss_one (ps_ret (pe_cmpR (ko_in K (u65 hr)) (pv 1) (pv 0) (by with_unfolding_all rfl))))), fun xs d hR => ?_⟩)⟩
  obtain ⟨a0, a1, rfl, hR⟩ := hR
  obtain ⟨ls, l, rfl, rfl, hm, rfl⟩ := hR
  refine q_no (et_is (et_or (et_not (et_B (ev_isi (ev_var rfl) rfl))) fun _ => et_not (et_B (ev_allM (lc1 [l.1, l.2.1, l.2.2] PyData.int (fun _ => .bool true) (eI_tup (ev_var rfl)).r (by show 3 ≤ 90000; decide) fun i _ => ev_call (ea_cons (ev_var rfl) ea_nil) ⟨_, rfl, ⟨i, rfl⟩, rfl⟩).rl))) rfl) ?_
  refine sx_ret (ev_is (ev_op (ev_var rfl) (ev_var rfl) (rd_inT rfl (sh_eLs ls))) ?_) rfl
  rw [in_eLs]
  simp [hm]
theorem ok_is_match (T : Fx K mg) : Ok Pr w K mg base "is_match" 3 ["likes", "value"] (spD K rIsMatch) := by
  obtain ⟨f, fd, F, b, g⟩ := T.f_is_match
  have c_is_one_of := ok_is_one_of (Pr := Pr) (w := w) (base := base) T
  have c_is_behind := ok_is_behind (Pr := Pr) (w := w) (base := base) T
  refine ⟨f, fd, g, F.kp, b, fn_ok F sc_is_match (fun xs d h => by obtain ⟨_, _, rfl, _⟩ := h; rfl) (fun cdv A outer s H E hr => ⟨_, (pss_cons (ps_if (PW.pt (pw_or (pt_not (pt_val (pe_callB (kc_isi K) (by rfl) T.b_isinstance bt_isinstance (pa_cons (pv 1) (pa_cons (pe_bltn (v := .ty "tuple") (by rfl) T.b_tuple bt_tuple rfl) pa_nil))))) (pw_or1 (pt_not (pt_val (pe_callB (kc_all K rfl) (by rfl) T.b_all bt_all (pa_cons (pe_lc (own := [("like", 2)]) (g := (gName 2)) rfl sc_is_match.nd (kw_seq K (pv 1)) (blkOk_by (own := [("like", 2)]) (N := N_is_match) (sc := defScope st_is_match) (by decide +kernel)) (fun _ _ _ _ _ => (pg_name (i := 2) sc_is_match.nd rfl (by first | exact Or.inl rfl | exact Or.inr rfl))) (fun _ _ _ _ _ => pts_nil) (fun _ _ _ _ _ => (pe_own c_is_one_of (hr.mono (by decide)) (by rfl) (pa_cons (pv 0) (pa_cons (pv 2) pa_nil))))) pa_nil))))))) (pss_one (ps_ret pe_bl)) pss_nil)
      (pss_one (ps_ret (pe_callB (kc_all K rfl) (by rfl) T.b_all bt_all (pa_cons (pe_lc (own := [("one", 3), ("other", 4)]) (g := (gTup K 2 (gCons (gName 3) (gCons (gName 4) gNil)))) rfl sc_is_match.nd (kw_z2 K (by rfl) T.b_zip (pa_cons (pv 1) (pa_cons (pe_slice (ks_g K) (pv 1) (po_some pe_int) po_none) pa_nil))) (blkOk_by (own := [("one", 3), ("other", 4)]) (N := N_is_match) (sc := defScope st_is_match) (by decide +kernel)) (fun _ _ _ _ _ => (pg_tup rfl (pgs_cons (pg_name (i := 3) sc_is_match.nd rfl (by first | exact Or.inl rfl | exact Or.inr rfl)) (pgs_cons (pg_name (i := 4) sc_is_match.nd rfl (by first | exact Or.inl rfl | exact Or.inr rfl)) pgs_nil)))) (fun _ _ _ _ _ => pts_nil) (fun _ _ _ _ _ => (pe_own c_is_behind (hr.mono (by decide)) (by rfl) (pa_cons (pv 3) (pa_cons (pv 4) pa_nil))))) pa_nil))))), fun xs d hR => ?_⟩)⟩
  obtain ⟨a0, a1, rfl, hR⟩ := hR
  obtain ⟨ls, m, rfl, rfl, hl, hs, hc, rfl⟩ := hR
  refine q_no (et_is (et_or (et_not (et_B (ev_isi (ev_var rfl) rfl))) fun _ => et_not (et_B (ev_allM (lc1 m eL (fun _ => .bool true) (eI_tup (ev_var rfl)).r (by omega) fun l h => ev_call (ea_cons (ev_var rfl) (ea_cons (ev_var rfl) ea_nil)) ⟨_, _, rfl, ls, l, rfl, rfl, hs l h, rfl⟩).rl))) (by simp)) ?_
  refine sx_ret (ev_is (ev_allM (lc2 (m.zip (m.drop 1)) (fun p => eL p.1) (fun p => eL p.2) (fun p => .bool (behind p.1 p.2)) ((eIr_z2 (k1 := .t) (k2 := .t) (ev_var rfl).rt (ev_slT (ev_var rfl) (eo_some ev_int) eo_none).rt).is ?_) (by rw [List.length_zip]; omega) fun p _ => ev_call (ea_cons (ev_var rfl) (ea_cons (ev_var rfl) ea_nil)) ⟨_, _, rfl, p.1, p.2, rfl, rfl, rfl⟩).rl) (by rw [hc])) rfl
  rw [show (1 : Int) = ((1 : Nat) : Int) from rfl, cutD_from, ← List.map_drop]
  exact zipD_map _ _ _ _
theorem ok_is_count (T : Fx K mg) : Ok Pr w K mg base "is_count" 3 ["likes", "value"] (spD K rIsCount) := by
  obtain ⟨f, fd, F, b, g⟩ := T.f_is_count
  have c_is_integer := ok_is_integer (Pr := Pr) (w := w) (base := base) T
  have c_is_one_of := ok_is_one_of (Pr := Pr) (w := w) (base := base) T
  have c_is_ascending := ok_is_ascending (Pr := Pr) (w := w) (base := base) T
  have c_do_agree := ok_do_agree (Pr := Pr) (w := w) (base := base) T
  refine ⟨f, fd, g, F.kp, b, fn_ok F sc_is_count (fun xs d h => by obtain ⟨_, _, rfl, _⟩ := h; rfl) (fun cdv A outer s H E hr => ⟨_, (pss_cons (ps_if (PW.pt (pw_or (pt_not (pt_val (pe_callB (kc_isi K) (by rfl) T.b_isinstance bt_isinstance (pa_cons (pv 1) (pa_cons (pe_bltn (v := .ty "tuple") (by rfl) T.b_tuple bt_tuple rfl) pa_nil))))) (pw_or (pt_cmpR (ko_ne K (u64 hr)) (pe_callB (kc_len K) (by rfl) T.b_len bt_len (pa_cons (pv 1) pa_nil)) pe_int (nomark _)) (pw_or (pt_not (pt_val (pe_own c_is_integer (hr.mono (by decide)) (by rfl) (pa_cons (pe_ix (ki_seq K) (pv 1) pe_int (fun _ _ => rfl)) pa_nil)))) (pw_or1 (pt_cmpR (ko_lt K (u0 hr)) (pe_ix (ki_seq K) (pv 1) pe_int (fun _ _ => rfl)) pe_int (nomark _))))))) (pss_one (ps_ret pe_bl)) pss_nil)
      (pss_cons (ps_set (i := 2) sc_is_count.nd rfl (.inr rfl) (pe_ix (ki_seq K) (pv 1) pe_int (fun _ _ => rfl)))
      (pss_cons (ps_if (PW.pt (pw_or (pt_not (pt_val (pe_callB (kc_isi K) (by rfl) T.b_isinstance bt_isinstance (pa_cons (pv 2) (pa_cons (pe_bltn (v := .ty "tuple") (by rfl) T.b_tuple bt_tuple rfl) pa_nil))))) (pw_or (pt_cmpR (ko_eq K (u64 hr)) (pv 2) (pe_tup pa_nil) (nomark _)) (pw_or1 (pt_not (pt_val (pe_callB (kc_all K rfl) (by rfl) T.b_all bt_all (pa_cons (pe_lc (own := [("like", 3)]) (g := (gName 3)) rfl sc_is_count.nd (kw_seq K (pv 2)) (blkOk_by (own := [("like", 3)]) (N := N_is_count) (sc := defScope st_is_count) (by decide +kernel)) (fun _ _ _ _ _ => (pg_name (i := 3) sc_is_count.nd rfl (by first | exact Or.inl rfl | exact Or.inr rfl))) (fun _ _ _ _ _ => pts_nil) (fun _ _ _ _ _ => (pe_own c_is_one_of (hr.mono (by decide)) (by rfl) (pa_cons (pv 0) (pa_cons (pv 3) pa_nil))))) pa_nil)))))))) (pss_one (ps_ret pe_bl)) pss_nil)
      (pss_one (ps_ret (pe_and (pe_own c_is_ascending (hr.mono (by decide)) (by rfl) (pa_cons (pv 2) pa_nil)) (pe_one (pe_not (pe_callB (kc_any K rfl) (by rfl) T.b_any bt_any (pa_cons (pe_lc (own := [("one", 5)]) (g := (gName 5)) rfl sc_is_count.nd (kw_seq K (pv 2)) (blkOk_by (own := [("one", 5)]) (N := N_is_count) (sc := defScope st_is_count) (by decide +kernel)) (fun _ _ _ _ _ => (pg_name (i := 5) sc_is_count.nd rfl (by first | exact Or.inl rfl | exact Or.inr rfl))) (fun _ _ _ _ _ => pts_nil) (fun _ _ _ _ _ => (pe_callB (kc_any K rfl) (by rfl) T.b_any bt_any (pa_cons (pe_lc (own := [("other", 4)]) (g := (gName 4)) rfl sc_is_count.nd (kw_seq K (pv 2)) (blkOk_by (own := [("other", 4)]) (N := N_is_count) (by kernel_rfl)) (fun _ _ _ _ _ => (pg_name (i := 4) sc_is_count.nd rfl (by first | exact Or.inl rfl | exact Or.inr rfl))) (fun _ _ _ _ _ => pts_nil) (fun _ _ _ _ _ => (pe_own c_do_agree (hr.mono (by decide)) (by rfl) (pa_cons (pv 5) (pa_cons (pv 4) pa_nil))))) pa_nil)))) pa_nil)))))))))), fun xs d hR => ?_⟩)⟩
  obtain ⟨a0, a1, rfl, hR⟩ := hR
  obtain ⟨ls, k, rfl, rfl, g, rfl⟩ := hR
  obtain ⟨ks, n⟩ := k
  obtain ⟨ne, le, sub, up, anti, pos⟩ := g
  have pos' : ¬ n < 1 := by have := pos; show ¬ n < 1; omega
  replace le : ks.length ≤ 60 := le
  refine q_no (et_is (et_or (et_not (et_B (ev_isi (ev_var rfl) rfl))) fun _ => et_or (et_test (ev_op (ev_cb (ea_cons (ev_var rfl) ea_nil) cd_lenT) ev_int (rd_ne rfl rfl))) fun _ => et_or (et_not (et_B (ev_call (ea_cons (ev_op (ev_var rfl) ev_int (rd_ixT (atI_nat (j := 1) rfl))) ea_nil) ⟨_, rfl, ⟨n, rfl⟩, rfl⟩))) fun _ => et_test (ev_op (ev_op (ev_var rfl) ev_int (rd_ixT (atI_nat (j := 1) rfl))) ev_int rd_ltI)) (by simp [PyData.eqv, pos'])) ?_
  refine q_set (d := eLs ks) (ev_op (ev_var rfl) ev_int (rd_ixT (atI_nat (j := 0) rfl))) ?_
  refine q_no (et_is (et_or (et_not (et_B (ev_isi (ev_var rfl) rfl))) fun _ => et_or (et_test (ev_op (ev_var rfl) (ev_tup ea_nil (by decide)) (rd_eq (sh_eLs ks) rfl))) fun _ => et_not (et_B (ev_allM (lc1 ks eL (fun _ => .bool true) (eI_tup (ev_var rfl)).r (by omega) fun l h => ev_call (ea_cons (ev_var rfl) (ea_cons (ev_var rfl) ea_nil)) ⟨_, _, rfl, ls, l, rfl, rfl, sub l h, rfl⟩).rl))) ?_) ?_
  · have e : PyData.eqv (eLs ks) (.tuple []) = false := by
      cases ks with
      | nil => exact absurd rfl ne
      | cons a r => rfl
    rw [e]
    simp
  · refine sx_ret (ev_is (ev_andV (ev_call (ea_cons (ev_var rfl) ea_nil) ⟨_, rfl, .t, ks.map fun l => [l.1, l.2.1, l.2.2], ?_, by rw [List.length_map]; omega, rfl⟩) fun _ => ev_notV (ev_anyM (lc1 ks eL (fun l => .bool (ks.any fun m => agree l m)) (eI_tup (ev_var rfl)).r (by omega) fun l _ => ev_anyM (lc1 ks eL (fun m => .bool (agree l m)) (eI_tup (ev_var rfl)).r (by omega) fun m _ => ev_call (ea_cons (ev_var rfl) (ea_cons (ev_var rfl) ea_nil)) ⟨_, _, rfl, l, m, rfl, rfl, rfl⟩).rl).rl)) ?_) rfl
    · unfold eLs
      rw [List.map_map]
      rfl
    · have e : (ks.any fun l => ks.any fun m => agree l m) = false := by
        rw [List.any_eq_false]
        intro l hl
        rw [Bool.not_eq_true, List.any_eq_false]
        intro m hm
        unfold agree
        rw [anti l hl m hm, anti m hm l hl]
        exact Bool.false_ne_true
      rw [up, e]
      rfl
theorem ok_shows_best (T : Fx K mg) : Ok Pr w K mg base "shows_best" 7 ["cores", "likes", "value"] (spD K rShows) := by
  obtain ⟨f, fd, F, b, g⟩ := T.f_shows_best
  have c_check_likes := ok_check_likes (Pr := Pr) (w := w) (base := base) T
  have c_is_match := ok_is_match (Pr := Pr) (w := w) (base := base) T
  have c_is_count := ok_is_count (Pr := Pr) (w := w) (base := base) T
  refine ⟨f, fd, g, F.kp, b, fn_ok F sc_shows_best (fun xs d h => by obtain ⟨_, _, _, rfl, _⟩ := h; rfl) (fun cdv A outer s H E hr => ⟨_, (pss_cons (ps_expr (pe_own c_check_likes (hr.mono (by decide)) (by rfl) (pa_cons (pv 0) (pa_cons (pv 1) pa_nil))))
      (pss_cons (ps_if (PW.pt (pw_or (pt_not (pt_val (pe_callB (kc_isi K) (by rfl) T.b_isinstance bt_isinstance (pa_cons (pv 2) (pa_cons (pe_bltn (v := .ty "tuple") (by rfl) T.b_tuple bt_tuple rfl) pa_nil))))) (pw_or (pt_cmpR (ko_ne K (u64 hr)) (pe_callB (kc_len K) (by rfl) T.b_len bt_len (pa_cons (pv 2) pa_nil)) pe_int (nomark _)) (pw_or1 (pt_not (pt_val (pe_own c_is_match (hr.mono (by decide)) (by rfl) (pa_cons (pv 1) (pa_cons (pe_ix (ki_seq K) (pv 2) pe_int (fun _ _ => rfl)) pa_nil))))))))) (pss_one (ps_ret pe_bl)) pss_nil)
      (pss_cons (ps_asg (pv 2) (pg_tup rfl (pgs_cons (pg_name (i := 3) sc_shows_best.nd rfl (by first | exact Or.inl rfl | exact Or.inr rfl)) (pgs_cons (pg_name (i := 4) sc_shows_best.nd rfl (by first | exact Or.inl rfl | exact Or.inr rfl)) pgs_nil))))
      (pss_cons (ps_if (PW.pt (pw_or (pt_not (pt_val (pe_callB (kc_isi K) (by rfl) T.b_isinstance bt_isinstance (pa_cons (pv 4) (pa_cons (pe_bltn (v := .ty "tuple") (by rfl) T.b_tuple bt_tuple rfl) pa_nil))))) (pw_or1 (pt_not (pt_val (pe_callB (kc_all K rfl) (by rfl) T.b_all bt_all (pa_cons (pe_lc (own := [("one", 5)]) (g := (gName 5)) rfl sc_shows_best.nd (kw_seq K (pv 4)) (blkOk_by (own := [("one", 5)]) (N := N_shows_best) (sc := defScope st_shows_best) (by decide +kernel)) (fun _ _ _ _ _ => (pg_name (i := 5) sc_shows_best.nd rfl (by first | exact Or.inl rfl | exact Or.inr rfl))) (fun _ _ _ _ _ => pts_nil) (fun _ _ _ _ _ => (pe_own c_is_count (hr.mono (by decide)) (by rfl) (pa_cons (pv 1) (pa_cons (pv 5) pa_nil))))) pa_nil))))))) (pss_one (ps_ret pe_bl)) pss_nil)
      (pss_cons (ps_if (pt_cmpR (ko_ne K (u64 hr)) (pe_callB (kc_sum K rfl) (by rfl) T.b_sum bt_sum (pa_cons (pe_lc (own := [("like", 6)]) (g := (gName 6)) rfl sc_shows_best.nd (kw_seq K (pv 3)) (blkOk_by (own := [("like", 6)]) (N := N_shows_best) (sc := defScope st_shows_best) (by decide +kernel)) (fun _ _ _ _ _ => (pg_name (i := 6) sc_shows_best.nd rfl (by first | exact Or.inl rfl | exact Or.inr rfl))) (fun _ _ _ _ _ => pts_nil) (fun _ _ _ _ _ => (pe_ix (ki_seq K) (pv 6) pe_int (fun _ _ => rfl)))) pa_nil)) (pe_callB (kc_sum K rfl) (by rfl) T.b_sum bt_sum (pa_cons (pe_lc (own := [("some", 7), ("many", 8)]) (g := (gTup K 2 (gCons (gName 7) (gCons (gName 8) gNil)))) rfl sc_shows_best.nd (kw_seq K (pv 4)) (blkOk_by (own := [("some", 7), ("many", 8)]) (N := N_shows_best) (sc := defScope st_shows_best) (by decide +kernel)) (fun _ _ _ _ _ => (pg_tup rfl (pgs_cons (pg_name (i := 7) sc_shows_best.nd rfl (by first | exact Or.inl rfl | exact Or.inr rfl)) (pgs_cons (pg_name (i := 8) sc_shows_best.nd rfl (by first | exact Or.inl rfl | exact Or.inr rfl)) pgs_nil)))) (fun _ _ _ _ _ => pts_nil) (fun _ _ _ _ _ => (pv 8))) pa_nil)) (nomark _)) (pss_one (ps_ret pe_bl)) pss_nil)
      (pss_one (ps_ret (pe_callB (kc_all K rfl) (by rfl) T.b_all bt_all (pa_cons (pe_lc (own := [("like", 6)]) (g := (gName 6)) rfl sc_shows_best.nd (kw_seq K (pv 1)) (blkOk_by (own := [("like", 6)]) (N := N_shows_best) (sc := defScope st_shows_best) (by decide +kernel)) (fun _ _ _ _ _ => (pg_name (i := 6) sc_shows_best.nd rfl (by first | exact Or.inl rfl | exact Or.inr rfl))) (fun _ _ _ _ _ => pts_nil) (fun _ _ _ _ _ => (pe_cmpR op_ge (pe_callB (kc_sum K rfl) (by rfl) T.b_sum bt_sum (pa_cons (pe_lc (own := [("some", 7), ("many", 8)]) (g := (gTup K 2 (gCons (gName 7) (gCons (gName 8) gNil)))) rfl sc_shows_best.nd (kw_seq K (pv 4)) (blkOk_by (own := [("some", 7), ("many", 8)]) (N := N_shows_best) (by kernel_rfl)) (fun _ _ _ _ _ => (pg_tup rfl (pgs_cons (pg_name (i := 7) sc_shows_best.nd rfl (by first | exact Or.inl rfl | exact Or.inr rfl)) (pgs_cons (pg_name (i := 8) sc_shows_best.nd rfl (by first | exact Or.inl rfl | exact Or.inr rfl)) pgs_nil)))) (fun _ _ _ _ _ => (pts_one (pt_cmpR (ko_in K (u65 hr)) (pv 6) (pv 7) (by with_unfolding_all rfl)))) (fun _ _ _ _ _ => (pv 8))) pa_nil)) (pe_ix (ki_seq K) (pv 6) pe_int (fun _ _ => rfl)) (nomark _)))) pa_nil))))))))), fun xs d hR => ?_⟩)⟩
  obtain ⟨a0, a1, a2, rfl, hR⟩ := hR
  obtain ⟨c, ls, m, ks, rfl, rfl, rfl, h1, h2, g, rfl⟩ := hR
  have hll := h2.le
  have hkl := g.kl
  refine q_drop (ev_call (ea_cons (ev_var rfl) (ea_cons (ev_var rfl) ea_nil)) ⟨_, _, rfl, c, ls, rfl, rfl, h1, h2, rfl⟩) ?_
  refine q_no (et_is (et_or (et_not (et_B (ev_isi (ev_var rfl) rfl))) fun _ => et_or (et_test (ev_op (ev_cb (ea_cons (ev_var rfl) ea_nil) cd_lenT) ev_int (rd_ne rfl rfl))) fun _ => et_not (et_B (ev_call (ea_cons (ev_var rfl) (ea_cons (ev_op (ev_var rfl) ev_int (rd_ixT (atI_nat (j := 0) rfl))) ea_nil)) ⟨_, _, rfl, ls, m, rfl, rfl, g.le, g.sub, g.ch, rfl⟩))) rfl) ?_
  refine q_un2 (x := eLs m) (y := eK ks) (ev_var rfl) ?_
  refine q_no (et_is (et_or (et_not (et_B (ev_isi (ev_var rfl) rfl))) fun _ => et_not (et_B (ev_allM (lc1 ks (fun k => .tuple [eLs k.1, .int k.2]) (fun _ => .bool true) (eI_tup (ev_var rfl)).r (by omega) fun k hk => ev_call (ea_cons (ev_var rfl) (ea_cons (ev_var rfl) ea_nil)) ⟨_, _, rfl, ls, k, rfl, rfl, g.cnt k hk, rfl⟩).rl))) (by simp)) ?_
  refine q_no (et_is (et_test (ev_op (ev_sumM (g := fun l : Lk => l.2.2) (lc1 m eL (fun l => .int l.2.2) (eI_tup (ev_var rfl)).r (by have := g.le; omega) fun l _ => ev_op (ev_var rfl) ev_int (rd_ixT (atI_nat (j := 2) rfl))).rl) (ev_sumM (g := fun k : Cnt => k.2) (lc2 ks (fun k => eLs k.1) (fun k => .int k.2) (fun k => .int k.2) (eI_tup (ev_var rfl)).r (by omega) fun k _ => ev_var rfl).rl) (rd_ne rfl rfl))) ?_) ?_
  · have e := g.sum
    unfold wt at e
    rw [e]
    simp [PyData.eqv]
  · refine sx_ret (ev_is (ev_allM (lc1 ls eL (fun l => .bool (decide (l.2.2 ≤ over ks l))) (eI_tup (ev_var rfl)).r (by omega) fun l _ => ev_op (ev_sum (ns := (ks.filter fun k => decide (l ∈ k.1)).map (·.2)) ((lc2f ks (fun k => eLs k.1) (fun k => .int k.2) (fun k => .int k.2) (fun k => decide (l ∈ k.1)) (eI_tup (ev_var rfl)).r (by omega) (fun k _ => et_is (et_test (ev_op (ev_var rfl) (ev_var rfl) (rd_inT rfl (sh_eLs k.1)))) (in_eLs l k.1)) fun k _ _ => ev_var rfl).rl.is (by rw [List.map_map]; rfl))) (ev_op (ev_var rfl) ev_int (rd_ixT (atI_nat (j := 2) rfl))) rd_ge).rl) ?_) rfl
    have e : (ls.all fun l => decide (l.2.2 ≤ over ks l)) = true := by
      rw [List.all_eq_true]
      exact fun l hl => decide_eq_true (g.cov l hl)
    rw [e]
theorem ok_worth (T : Fx K mg) : Ok Pr w K mg base "worth" 7 ["cores", "likes"] (spD K rWorth) := by
  obtain ⟨f, fd, F, b, g⟩ := T.f_worth
  have c_check_likes := ok_check_likes (Pr := Pr) (w := w) (base := base) T
  have c_worth_of := ok_worth_of (Pr := Pr) (w := w) (base := base) T
  refine ⟨f, fd, g, F.kp, b, fn_ok F sc_worth (fun xs d h => by obtain ⟨_, _, rfl, _⟩ := h; rfl) (fun cdv A outer s H E hr => ⟨_, (pss_cons (ps_expr (pe_own c_check_likes (hr.mono (by decide)) (by rfl) (pa_cons (pv 0) (pa_cons (pv 1) pa_nil))))
      (pss_one (ps_ret (pe_own c_worth_of (hr.mono (by decide)) (by rfl) (pa_cons (pv 1) pa_nil))))), fun xs d hR => ?_⟩)⟩
  obtain ⟨a0, a1, rfl, hR⟩ := hR
  obtain ⟨c, ls, rfl, rfl, h1, h2, rfl⟩ := hR
  refine q_drop (ev_call (ea_cons (ev_var rfl) (ea_cons (ev_var rfl) ea_nil)) ⟨_, _, rfl, c, ls, rfl, rfl, h1, h2, rfl⟩) ?_
  exact sx_ret (ev_call (ea_cons (ev_var rfl) ea_nil) ⟨_, rfl, ls, rfl, h2.le, rfl⟩) rfl
theorem ok_through (T : Fx K mg) : Ok Pr w K mg base "through" 3 ["likes"] (spD K rThrough) := by
  obtain ⟨f, fd, F, b, g⟩ := T.f_through
  have c_heights := ok_heights (Pr := Pr) (w := w) (base := base) T
  have c_depths := ok_depths (Pr := Pr) (w := w) (base := base) T
  refine ⟨f, fd, g, F.kp, b, fn_ok F sc_through (fun xs d h => by obtain ⟨_, rfl, _⟩ := h; rfl) (fun cdv A outer s H E hr => ⟨_, (pss_one (ps_ret (pe_lc (own := [("like", 1), ("up", 2), ("down", 3)]) (g := (gTup K 3 (gCons (gName 1) (gCons (gName 2) (gCons (gName 3) gNil))))) rfl sc_through.nd (kw_z3 K (by rfl) T.b_zip (pa_cons (pv 0) (pa_cons (pe_own c_heights (hr.mono (by decide)) (by rfl) (pa_cons (pv 0) pa_nil)) (pa_cons (pe_own c_depths (hr.mono (by decide)) (by rfl) (pa_cons (pv 0) pa_nil)) pa_nil)))) (blkOk_by (own := [("like", 1), ("up", 2), ("down", 3)]) (N := N_through) (sc := defScope st_through) (by decide +kernel)) (fun _ _ _ _ _ => (pg_tup rfl (pgs_cons (pg_name (i := 1) sc_through.nd rfl (by first | exact Or.inl rfl | exact Or.inr rfl)) (pgs_cons (pg_name (i := 2) sc_through.nd rfl (by first | exact Or.inl rfl | exact Or.inr rfl)) (pgs_cons (pg_name (i := 3) sc_through.nd rfl (by first | exact Or.inl rfl | exact Or.inr rfl)) pgs_nil))))) (fun _ _ _ _ _ => pts_nil) (fun _ _ _ _ _ => (pe_op op_sub (pe_op (ko_add K) (pv 2) (pv 3)) (pe_ix (ki_seq K) (pv 1) pe_int (fun _ _ => rfl))))))), fun xs d hR => ?_⟩)⟩
  obtain ⟨a0, rfl, hR⟩ := hR
  obtain ⟨ls, rfl, hl, nd, rfl⟩ := hR
  refine sx_ret (ev_is (lc3 (ls.zip ((hts ls).zip (dps ls))) (fun p => eL p.1) (fun p => .int p.2.1) (fun p => .int p.2.2) (fun p => .int (p.2.1 + p.2.2 - p.1.2.2)) ((eIr_z3 (k1 := .t) (k2 := .l) (k3 := .l) (ev_var rfl).rt (ev_call (ea_cons (ev_var rfl) ea_nil) ⟨_, rfl, ls, rfl, hl, rfl⟩).rl (ev_call (ea_cons (ev_var rfl) ea_nil) ⟨_, rfl, ls, rfl, hl, nd, rfl⟩).rl).is (zip3D_map _ _ _ _ _ _)) (by rw [List.length_zip]; omega)
    fun p _ => ev_op (ev_op (ev_var rfl) (ev_var rfl) rd_addI) (ev_op (ev_var rfl) ev_int (rd_ixT (atI_nat (j := 2) rfl))) rd_sub).ev ?_) rfl
  unfold thr
  rw [List.map_map]
  rfl
theorem ok_worth_with (T : Fx K mg) : Ok Pr w K mg base "worth_with" 8 ["cores", "likes", "like"] (spD K rWorthWith) := by
  obtain ⟨f, fd, F, b, g⟩ := T.f_worth_with
  have c_check_like := ok_check_like (Pr := Pr) (w := w) (base := base) T
  have c_through := ok_through (Pr := Pr) (w := w) (base := base) T
  refine ⟨f, fd, g, F.kp, b, fn_ok F sc_worth_with (fun xs d h => by obtain ⟨_, _, _, rfl, _⟩ := h; rfl) (fun cdv A outer s H E hr => ⟨_, (pss_cons (ps_expr (pe_own c_check_like (hr.mono (by decide)) (by rfl) (pa_cons (pv 0) (pa_cons (pv 1) (pa_cons (pv 2) pa_nil)))))
      (pss_one (ps_ret (pe_dget (u1 hr) (kp_dzip K rfl (u64 hr) (by rfl) T.b_dict (by rfl) T.b_zip (pa_cons (pv 1) (pa_cons (pe_own c_through (hr.mono (by decide)) (by rfl) (pa_cons (pv 1) pa_nil)) pa_nil))) (pv 2) (fun _ _ => rfl))))), fun xs d hR => ?_⟩)⟩
  obtain ⟨a0, a1, a2, rfl, hR⟩ := hR
  obtain ⟨c, ls, l, n, rfl, rfl, rfl, h1, h2, nd, hm, rfl⟩ := hR
  have hl := h2.le
  have ml : l ∈ ls := (List.of_mem_zip hm).1
  refine q_drop (ev_call (ea_cons (ev_var rfl) (ea_cons (ev_var rfl) (ea_cons (ev_var rfl) ea_nil))) ⟨_, _, _, rfl, c, ls, l, rfl, rfl, rfl, h1, h2, ml, rfl⟩) ?_
  refine sx_ret (ev_dget (es := (ls.map kL).zip ((thr ls).map .int)) (k := kL l) (end_dzip (k2 := .l) (ks := ls.map kL) (ys := (thr ls).map .int) (ev_is (ev_var rfl) (by rw [List.map_map]; rfl)) (ev_call (ea_cons (ev_var rfl) ea_nil) ⟨_, rfl, ls, rfl, hl, nd, rfl⟩) (nodup_kL nd) (by rw [List.length_map, List.length_map, thr_len]) (by rw [List.length_map]; omega)).er (ev_var rfl) ?_) rfl
  rw [← eE_zip]
  exact valD_eE (p := (l, n)) (by rw [zip_keys (thr_len ls)]; exact nd) hm
theorem ok_sort_of (T : Fx K mg) : Ok Pr w K mg base "sort_of" 4 ["likes", "number", "weight"] (spD K rSortOf) := by
  obtain ⟨f, fd, F, b, g⟩ := T.f_sort_of
  have c_worth_of := ok_worth_of (Pr := Pr) (w := w) (base := base) T
  refine ⟨f, fd, g, F.kp, b, fn_ok F sc_sort_of (fun xs d h => by obtain ⟨_, _, _, rfl, _⟩ := h; rfl) (fun cdv A outer s H E hr => ⟨_, (pss_cons (ps_if (pt_cmpR (ko_lt K (u0 hr)) (pv 2) (pe_own c_worth_of (hr.mono (by decide)) (by rfl) (pa_cons (pv 0) pa_nil)) (nomark _)) (pss_one (ps_ret (pe_cst T.c_NEVER))) pss_nil)
      (pss_one (ps_ret (pe_ifExp (pt_cmpR (ko_eq K (u64 hr)) (pe_own c_worth_of (hr.mono (by decide)) (by rfl) (pa_cons (pe_op (ko_add K) (pe_slice (ks_g K) (pv 0) po_none (po_some (pv 1))) (pe_slice (ks_g K) (pv 0) (po_some (pe_op (ko_add K) (pv 1) pe_int)) po_none)) pa_nil)) (pv 2) (nomark _)) (pe_cst T.c_AT_TIMES) (pe_cst T.c_ALWAYS))))), fun xs d hR => ?_⟩)⟩
  obtain ⟨a0, a1, a2, rfl, hR⟩ := hR
  obtain ⟨ls, k, n, rfl, rfl, rfl, hl, rfl⟩ := hR
  have hw : Ev K (tCall (spD K rWorthOf) [] E0 (tCons (tVar 0) tNil)) (startD N_sort_of [eLs ls, .int (k : Nat), .int n]) (.int (wof ls)) := ev_call (ea_cons (ev_var rfl) ea_nil) ⟨_, rfl, ls, rfl, hl, rfl⟩
  unfold sortOf
  by_cases h : n < wof ls
  · rw [if_pos h]
    exact sx_seq (Mid := fun _ => False) (sx_if (b := true) (et_is (et_test (ev_op (ev_var rfl) hw rd_ltI)) (decide_eq_true h)) (fun _ => sx_ret (ev_str (x := "never")) rfl) fun e => nomatch e) fun _ z => z.elim
  · rw [if_neg h]
    refine q_no (et_is (et_test (ev_op (ev_var rfl) hw rd_ltI)) (decide_eq_false h)) ?_
    have e1 : cutD (ls.map eL) none (some (k : Int)) ++ cutD (ls.map eL) (some ((k : Int) + 1)) none = (ls.take k ++ ls.drop (k + 1)).map eL := by
      rw [show ((k : Int) + 1) = ((k + 1 : Nat) : Int) from rfl, cutD_to, cutD_from, List.map_append, List.map_take, List.map_drop]
    have ll : (cutD (ls.map eL) none (some (k : Int))).length + (cutD (ls.map eL) (some ((k : Int) + 1)) none).length ≤ 100000 := by
      rw [show ((k : Int) + 1) = ((k + 1 : Nat) : Int) from rfl, cutD_to, cutD_from, List.length_take, List.length_drop, List.length_map]
      omega
    refine sx_ret (ev_if (b := decide (wof (ls.take k ++ ls.drop (k + 1)) = n)) (et_is (et_test (ev_op (ev_call (ea_cons (ev_op (ev_slT (ev_var rfl) eo_none (eo_some (ev_var rfl))) (ev_slT (ev_var rfl) (eo_some (ev_op (ev_var rfl) ev_int rd_addI)) eo_none) (rd_addT ll)) ea_nil) ⟨_, rfl, ls.take k ++ ls.drop (k + 1), by rw [e1]; rfl, by rw [List.length_append, List.length_take, List.length_drop]; omega, rfl⟩) (ev_var rfl) (rd_eq rfl rfl))) (by by_cases z : wof (ls.take k ++ ls.drop (k + 1)) = n <;> simp [PyData.eqv, z])) (fun z => ?_) fun z => ?_) rfl
    · rw [if_pos (of_decide_eq_true z)]
      exact ev_str (x := "at times")
    · rw [if_neg (of_decide_eq_false z)]
      exact ev_str (x := "always")
theorem ok_sorts (T : Fx K mg) : Ok Pr w K mg base "sorts" 7 ["cores", "likes"] (spD K rSorts) := by
  obtain ⟨f, fd, F, b, g⟩ := T.f_sorts
  have c_check_likes := ok_check_likes (Pr := Pr) (w := w) (base := base) T
  have c_sort_of := ok_sort_of (Pr := Pr) (w := w) (base := base) T
  have c_through := ok_through (Pr := Pr) (w := w) (base := base) T
  refine ⟨f, fd, g, F.kp, b, fn_ok F sc_sorts (fun xs d h => by obtain ⟨_, _, rfl, _⟩ := h; rfl) (fun cdv A outer s H E hr => ⟨_, (pss_cons (ps_expr (pe_own c_check_likes (hr.mono (by decide)) (by rfl) (pa_cons (pv 0) (pa_cons (pv 1) pa_nil))))
      (pss_one (ps_ret (pe_callTy (kc_tuple K) (by rfl) T.b_tuple bt_tuple (pa_cons (pe_lc (own := [("number", 2), ("weight", 3)]) (g := (gTup K 2 (gCons (gName 2) (gCons (gName 3) gNil)))) rfl sc_sorts.nd (kw_en K (by rfl) T.b_enumerate (pa_cons (pe_own c_through (hr.mono (by decide)) (by rfl) (pa_cons (pv 1) pa_nil)) pa_nil)) (blkOk_by (own := [("number", 2), ("weight", 3)]) (N := N_sorts) (sc := defScope st_sorts) (by decide +kernel)) (fun _ _ _ _ _ => (pg_tup rfl (pgs_cons (pg_name (i := 2) sc_sorts.nd rfl (by first | exact Or.inl rfl | exact Or.inr rfl)) (pgs_cons (pg_name (i := 3) sc_sorts.nd rfl (by first | exact Or.inl rfl | exact Or.inr rfl)) pgs_nil)))) (fun _ _ _ _ _ => pts_nil) (fun _ _ _ _ _ => (pe_own c_sort_of (hr.mono (by decide)) (by rfl) (pa_cons (pv 1) (pa_cons (pv 2) (pa_cons (pv 3) pa_nil)))))) pa_nil))))), fun xs d hR => ?_⟩)⟩
  obtain ⟨a0, a1, rfl, hR⟩ := hR
  obtain ⟨c, ls, rfl, rfl, h1, h2, nd, rfl⟩ := hR
  have hl := h2.le
  refine q_drop (ev_call (ea_cons (ev_var rfl) (ea_cons (ev_var rfl) ea_nil)) ⟨_, _, rfl, c, ls, rfl, rfl, h1, h2, rfl⟩) ?_
  refine sx_ret (ev_is (ev_tupleR (lc2 (thr ls).zipIdx (fun p => .int (p.2 : Nat)) (fun p => .int p.1) (fun p => .str (sortOf ls p.2 p.1)) ((eIr_en (k := .l) (ev_call (ea_cons (ev_var rfl) ea_nil) ⟨_, rfl, ls, rfl, hl, nd, rfl⟩).rl).is (enumD_map _ _)) (by rw [List.length_zipIdx, thr_len]; omega) fun p _ => ev_call (ea_cons (ev_var rfl) (ea_cons (ev_var rfl) (ea_cons (ev_var rfl) ea_nil))) ⟨_, _, _, rfl, ls, p.2, p.1, rfl, rfl, rfl, hl, rfl⟩).rl) ?_) rfl
  unfold srts
  rw [List.map_map]
  rfl
theorem ok_least_of_best (T : Fx K mg) : Ok Pr w K mg base "least_of_best" 7 ["cores", "likes"] (spD K (rLeast true)) := by
  obtain ⟨f, fd, F, b, g⟩ := T.f_least_of_best
  have c_check_likes := ok_check_likes (Pr := Pr) (w := w) (base := base) T
  have c_match_by := ok_match_by (Pr := Pr) (w := w) (base := base) T
  refine ⟨f, fd, g, F.kp, b, fn_ok F sc_least_of_best (fun xs d h => by obtain ⟨_, _, rfl, _⟩ := h; rfl) (fun cdv A outer s H E hr => ⟨_, (pss_cons (ps_expr (pe_own c_check_likes (hr.mono (by decide)) (by rfl) (pa_cons (pv 0) (pa_cons (pv 1) pa_nil))))
      (pss_one (ps_ret (pe_own c_match_by (hr.mono (by decide)) (by rfl) (pa_cons (pv 1) (pa_cons pe_bl pa_nil)))))), fun xs d hR => ?_⟩)⟩
  obtain ⟨a0, a1, rfl, hR⟩ := hR
  obtain ⟨c, ls, m, rfl, rfl, h1, h2, nd, gr, hm, rfl⟩ := hR
  refine q_drop (ev_call (ea_cons (ev_var rfl) (ea_cons (ev_var rfl) ea_nil)) ⟨_, _, rfl, c, ls, rfl, rfl, h1, h2, rfl⟩) ?_
  exact sx_ret (ev_call (ea_cons (ev_var rfl) (ea_cons ev_bl ea_nil)) ⟨_, _, rfl, ls, true, m, rfl, rfl, h2.le, nd, gr, hm, rfl⟩) rfl
theorem ok_most_of_best (T : Fx K mg) : Ok Pr w K mg base "most_of_best" 7 ["cores", "likes"] (spD K (rLeast false)) := by
  obtain ⟨f, fd, F, b, g⟩ := T.f_most_of_best
  have c_check_likes := ok_check_likes (Pr := Pr) (w := w) (base := base) T
  have c_match_by := ok_match_by (Pr := Pr) (w := w) (base := base) T
  refine ⟨f, fd, g, F.kp, b, fn_ok F sc_most_of_best (fun xs d h => by obtain ⟨_, _, rfl, _⟩ := h; rfl) (fun cdv A outer s H E hr => ⟨_, (pss_cons (ps_expr (pe_own c_check_likes (hr.mono (by decide)) (by rfl) (pa_cons (pv 0) (pa_cons (pv 1) pa_nil))))
      (pss_one (ps_ret (pe_own c_match_by (hr.mono (by decide)) (by rfl) (pa_cons (pv 1) (pa_cons pe_bl pa_nil)))))), fun xs d hR => ?_⟩)⟩
  obtain ⟨a0, a1, rfl, hR⟩ := hR
  obtain ⟨c, ls, m, rfl, rfl, h1, h2, nd, gr, hm, rfl⟩ := hR
  refine q_drop (ev_call (ea_cons (ev_var rfl) (ea_cons (ev_var rfl) ea_nil)) ⟨_, _, rfl, c, ls, rfl, rfl, h1, h2, rfl⟩) ?_
  exact sx_ret (ev_call (ea_cons (ev_var rfl) (ea_cons ev_bl ea_nil)) ⟨_, _, rfl, ls, false, m, rfl, rfl, h2.le, nd, gr, hm, rfl⟩) rfl
theorem ok_raise_to (T : Fx K mg) : Ok Pr w K mg base "raise_to" 8 ["cores", "likes", "like"] (spD K rRaiseTo) := by
  obtain ⟨f, fd, F, b, g⟩ := T.f_raise_to
  have c_check_like := ok_check_like (Pr := Pr) (w := w) (base := base) T
  have c_worth_of := ok_worth_of (Pr := Pr) (w := w) (base := base) T
  have c_through := ok_through (Pr := Pr) (w := w) (base := base) T
  refine ⟨f, fd, g, F.kp, b, fn_ok F sc_raise_to (fun xs d h => by obtain ⟨_, _, _, rfl, _⟩ := h; rfl) (fun cdv A outer s H E hr => ⟨_, (pss_cons (ps_expr (pe_own c_check_like (hr.mono (by decide)) (by rfl) (pa_cons (pv 0) (pa_cons (pv 1) (pa_cons (pv 2) pa_nil)))))
      (pss_one (ps_ret (pe_op op_sub (pe_op (ko_add K) (pe_ix (ki_seq K) (pv 2) pe_int (fun _ _ => rfl)) (pe_own c_worth_of (hr.mono (by decide)) (by rfl) (pa_cons (pv 1) pa_nil))) (pe_dget (u1 hr) (kp_dzip K rfl (u64 hr) (by rfl) T.b_dict (by rfl) T.b_zip (pa_cons (pv 1) (pa_cons (pe_own c_through (hr.mono (by decide)) (by rfl) (pa_cons (pv 1) pa_nil)) pa_nil))) (pv 2) (fun _ _ => rfl)))))), fun xs d hR => ?_⟩)⟩
  obtain ⟨a0, a1, a2, rfl, hR⟩ := hR
  obtain ⟨c, ls, l, n, rfl, rfl, rfl, h1, h2, nd, hm, rfl⟩ := hR
  have hl := h2.le
  have ml : l ∈ ls := (List.of_mem_zip hm).1
  refine q_drop (ev_call (ea_cons (ev_var rfl) (ea_cons (ev_var rfl) (ea_cons (ev_var rfl) ea_nil))) ⟨_, _, _, rfl, c, ls, l, rfl, rfl, rfl, h1, h2, ml, rfl⟩) ?_
  refine sx_ret (ev_op (ev_op (ev_op (ev_var rfl) ev_int (rd_ixT (atI_nat (j := 2) rfl))) (ev_call (ea_cons (ev_var rfl) ea_nil) ⟨_, rfl, ls, rfl, hl, rfl⟩) rd_addI) (ev_dget (d := .int n) (es := (ls.map kL).zip ((thr ls).map .int)) (k := kL l) (end_dzip (k2 := .l) (ks := ls.map kL) (ys := (thr ls).map .int) (ev_is (ev_var rfl) (by rw [List.map_map]; rfl)) (ev_call (ea_cons (ev_var rfl) ea_nil) ⟨_, rfl, ls, rfl, hl, nd, rfl⟩) (nodup_kL nd) (by rw [List.length_map, List.length_map, thr_len]) (by rw [List.length_map]; omega)).er (ev_var rfl) ?_) rd_sub) rfl
  rw [← eE_zip]
  exact valD_eE (p := (l, n)) (by rw [zip_keys (thr_len ls)]; exact nd) hm
end
end L3
end

section
set_option Elab.async false
set_option linter.all false
set_option maxRecDepth 100000
set_option autoImplicit false
/-! The greatest weight, chains, and how they are told: plain Lean. -/
namespace L3
open PySem L2
abbrev Ch (m : List Lk) : Prop := m.Pairwise fun a b => behind a b = true
structure IsCh (ls m : List Lk) : Prop where
  sub : m.Sublist ls
  ch : Ch m
theorem nil_or_snoc {α : Type} (m : List α) : m = [] ∨ ∃ (m' : List α) (x : α), m = m' ++ [x] := by
  rcases List.eq_nil_or_concat m with e | ⟨m', x, e⟩
  · exact .inl e
  · exact .inr ⟨m', x, by rw [e, List.concat_eq_append]⟩
theorem behind_iff {l m : Lk} : behind l m = true ↔ l.1 < m.1 ∧ l.2.1 < m.2.1 := by
  unfold behind
  rw [Bool.and_eq_true, decide_eq_true_eq, decide_eq_true_eq]
theorem behind_trans {a b c : Lk} (h1 : behind a b = true) (h2 : behind b c = true) : behind a c = true := by
  rw [behind_iff] at *
  omega
theorem behind_irrefl (a : Lk) : behind a a = false := by
  cases h : behind a a with
  | false => rfl
  | true => rw [behind_iff] at h; omega
theorem wt_nil : wt [] = 0 := rfl
theorem wt_cons (l : Lk) (m : List Lk) : wt (l :: m) = l.2.2 + wt m := by
  unfold wt
  rw [List.map_cons, List.sum_cons]
theorem wt_append (a b : List Lk) : wt (a ++ b) = wt a + wt b := by
  unfold wt
  rw [List.map_append, List.sum_append]
/-! ### the greatest weight of a row that ends there, by any relation -/
section
variable (rel : Lk → Lk → Bool)
abbrev ChR (m : List Lk) : Prop := m.Pairwise fun a b => rel a b = true
def EndsR (dn : List Lk) (l : Lk) (n : Int) : Prop := (∃ m, m.Sublist dn ∧ ChR rel (m ++ [l]) ∧ wt (m ++ [l]) = n) ∧ ∀ m, m.Sublist dn → ChR rel (m ++ [l]) → wt (m ++ [l]) ≤ n
def gstep (ls : List Lk) (found : List Int) (l : Lk) : Int := l.2.2 + mx (((ls.zip found).filter fun p => rel p.1 l).map (·.2))
def gF (ls : List Lk) : List Lk → List Int → List Int
  | [], found => found
  | l :: r, found => gF ls r (found ++ [gstep rel ls found l])
theorem gF_snoc (ls : List Lk) (l : Lk) : ∀ (r : List Lk) (found : List Int), gF rel ls (r ++ [l]) found = gF rel ls r found ++ [gstep rel ls (gF rel ls r found) l]
  | [], found => rfl
  | m :: r, found => gF_snoc ls l r _
theorem gF_len (ls : List Lk) : ∀ (r : List Lk) (found : List Int), (gF rel ls r found).length = found.length + r.length
  | [], found => rfl
  | l :: r, found => by
    show (gF rel ls r _).length = _
    rw [gF_len ls r, List.length_append, List.length_cons, List.length_cons, List.length_nil]
    omega
variable {rel}
theorem chR_append {a b : List Lk} : ChR rel (a ++ b) ↔ ChR rel a ∧ ChR rel b ∧ ∀ x ∈ a, ∀ y ∈ b, rel x y = true := List.pairwise_append
theorem ch_append {a b : List Lk} : Ch (a ++ b) ↔ Ch a ∧ Ch b ∧ ∀ x ∈ a, ∀ y ∈ b, behind x y = true := List.pairwise_append
theorem chR_snoc (tr : ∀ a b c, rel a b = true → rel b c = true → rel a c = true) {m : List Lk} {x l : Lk} (h : ChR rel (m ++ [x])) (b : rel x l = true) : ChR rel (m ++ [x] ++ [l]) := by
  refine chR_append.mpr ⟨h, List.pairwise_singleton _ _, fun y hy z hz => ?_⟩
  rw [List.mem_singleton.mp hz]
  rcases List.mem_append.mp hy with q | q
  · exact tr _ _ _ ((chR_append.mp h).2.2 y q x (List.mem_singleton.mpr rfl)) b
  · rw [List.mem_singleton.mp q]; exact b
/-- a sublist that ends in x, x stands at a place -/
theorem sub_last : ∀ {ls m : List Lk} {x : Lk}, (m ++ [x]).Sublist ls → ∃ i, ls[i]? = some x ∧ m.Sublist (ls.take i)
  | [], m, x, h => by
    have := h.length_le
    simp at this
  | y :: r, [], x, h => by
    have hx : x ∈ y :: r := h.subset (by simp)
    obtain ⟨i, hi⟩ := List.getElem?_of_mem hx
    exact ⟨i, hi, List.nil_sublist _⟩
  | y :: r, a :: m, x, h => by
    cases h with
    | cons _ h' =>
      obtain ⟨i, h1, h2⟩ := sub_last (ls := r) (m := a :: m) h'
      exact ⟨i + 1, h1, by rw [List.take_succ_cons]; exact h2.cons _⟩
    | cons_cons _ h' =>
      obtain ⟨i, h1, h2⟩ := sub_last (ls := r) (m := m) h'
      exact ⟨i + 1, h1, by rw [List.take_succ_cons]; exact h2.cons_cons _⟩
theorem sub_of_last {ls m : List Lk} {x : Lk} {i : Nat} (h : ls[i]? = some x) (s : m.Sublist (ls.take i)) : (m ++ [x]).Sublist (ls.take (i + 1)) := by
  rw [List.take_add_one, h]
  exact s.append (List.Sublist.refl _)
variable (rel) in
structure HtsR (ls : List Lk) (found : List Int) : Prop where
  le : found.length ≤ ls.length
  at_ : ∀ i l n, ls[i]? = some l → found[i]? = some n → EndsR rel (ls.take i) l n
theorem gstep_ends (tr : ∀ a b c, rel a b = true → rel b c = true → rel a c = true) {ls : List Lk} {found : List Int} {l : Lk} (h : HtsR rel ls found) (hl : ls[found.length]? = some l) : EndsR rel (ls.take found.length) l (gstep rel ls found l) := by
  have zl : ∀ p ∈ ls.zip found, ∃ i, ls[i]? = some p.1 ∧ found[i]? = some p.2 := fun p hp => by
    obtain ⟨i, hi⟩ := List.getElem?_of_mem hp
    rw [List.getElem?_zip_eq_some] at hi
    exact ⟨i, hi.1, hi.2⟩
  unfold gstep
  have hm := mx_mem (((ls.zip found).filter fun p => rel p.1 l).map (·.2))
  have hle := mx_le (((ls.zip found).filter fun p => rel p.1 l).map (·.2))
  generalize mx (((ls.zip found).filter fun p => rel p.1 l).map (·.2)) = M at hm hle
  refine ⟨?_, fun m hs hc => ?_⟩
  · rcases List.mem_cons.mp hm with e | hm
    · refine ⟨[], List.nil_sublist _, List.pairwise_singleton _ _, ?_⟩
      rw [List.nil_append, wt_cons, wt_nil, e]
    · obtain ⟨p, hp, e⟩ := List.mem_map.mp hm
      rw [List.mem_filter] at hp
      obtain ⟨i, h1, h2⟩ := zl p hp.1
      have il : i < found.length := (List.getElem?_eq_some_iff.mp h2).1
      obtain ⟨⟨m, s, c, w⟩, _⟩ := h.at_ i p.1 p.2 h1 h2
      refine ⟨m ++ [p.1], (sub_of_last h1 s).trans (List.take_sublist_take_left (by omega)), chR_snoc tr c hp.2, ?_⟩
      rw [wt_append, w, wt_cons, wt_nil, ← e]
      omega
  · rcases nil_or_snoc m with e | ⟨m', x, e⟩
    · subst e
      rw [List.nil_append, wt_cons, wt_nil]
      have := hle 0 List.mem_cons_self
      omega
    · subst e
      obtain ⟨i, h1, h2⟩ := sub_last hs
      have il : i < (ls.take found.length).length := (List.getElem?_eq_some_iff.mp h1).1
      rw [List.length_take] at il
      rw [List.getElem?_take, if_pos (by omega)] at h1
      rw [List.take_take, Nat.min_eq_left (by omega)] at h2
      have hf : found[i]? = some (found[i]'(by omega)) := List.getElem?_eq_getElem _
      obtain ⟨_, up⟩ := h.at_ i x _ h1 hf
      have c1 := (chR_append.mp hc).1
      have b1 : rel x l = true := (chR_append.mp hc).2.2 x (by simp) l (by simp)
      have w1 := up m' h2 c1
      have mem : found[i]'(by omega) ∈ ((ls.zip found).filter fun p => rel p.1 l).map (·.2) := by
        refine List.mem_map.mpr ⟨(x, found[i]'(by omega)), List.mem_filter.mpr ⟨?_, b1⟩, rfl⟩
        exact List.mem_of_getElem? (i := i) (by rw [List.getElem?_zip_eq_some]; exact ⟨h1, hf⟩)
      have := hle _ (List.mem_cons_of_mem _ mem)
      rw [wt_append, wt_cons, wt_nil]
      omega
theorem gF_ok (tr : ∀ a b c, rel a b = true → rel b c = true → rel a c = true) (ls : List Lk) : ∀ n, n ≤ ls.length → HtsR rel ls (gF rel ls (ls.take n) []) ∧ (gF rel ls (ls.take n) []).length = n
  | 0, _ => ⟨⟨Nat.zero_le _, fun i l n h1 h2 => by simp [gF] at h2⟩, rfl⟩
  | n + 1, hn => by
    obtain ⟨ih, il⟩ := gF_ok tr ls n (by omega)
    have hl : ls[n]? = some (ls[n]'(by omega)) := List.getElem?_eq_getElem _
    have tk : ls.take (n + 1) = ls.take n ++ [ls[n]'(by omega)] := by rw [List.take_add_one, hl]; rfl
    rw [tk, gF_snoc]
    refine ⟨⟨by rw [List.length_append, il]; exact hn, fun i l k h1 h2 => ?_⟩, by rw [List.length_append, il]; rfl⟩
    by_cases hi : i < n
    · rw [List.getElem?_append_left (by omega)] at h2
      exact ih.at_ i l k h1 h2
    · have hi2 : i < n + 1 := by have := (List.getElem?_eq_some_iff.mp h2).1; rw [List.length_append, il] at this; exact this
      have e : i = n := by omega
      subst e
      rw [List.getElem?_append_right (by omega), il, Nat.sub_self] at h2
      have e2 := Option.some.inj h2
      rw [h1] at hl
      have e1 := Option.some.inj hl
      subst e1
      rw [← e2]
      have q := gstep_ends tr ih (by rw [il]; exact h1)
      rw [il] at q
      exact q
end
theorem tr_b : ∀ a b c : Lk, behind a b = true → behind b c = true → behind a c = true := fun _ _ _ => behind_trans
def dnhib (a b : Lk) : Bool := behind b a
theorem tr_d : ∀ a b c : Lk, dnhib a b = true → dnhib b c = true → dnhib a c = true := fun _ _ _ h1 h2 => behind_trans h2 h1
theorem htsF_gF (ls : List Lk) : ∀ (r : List Lk) (found : List Int), htsF ls r found = gF behind ls r found
  | [], _ => rfl
  | l :: r, found => htsF_gF ls r _
abbrev EndsAt (dn : List Lk) (l : Lk) (n : Int) : Prop := EndsR behind dn l n
theorem hts_at {ls : List Lk} {i : Nat} {l : Lk} {n : Int} (h1 : ls[i]? = some l) (h2 : (hts ls)[i]? = some n) : EndsAt (ls.take i) l n := by
  have q := (gF_ok tr_b ls ls.length (Nat.le_refl _)).1
  rw [List.take_length, ← htsF_gF] at q
  exact q.at_ i l n h1 h2
theorem hts_get (ls : List Lk) {i : Nat} (h : i < ls.length) : ∃ n, (hts ls)[i]? = some n := ⟨_, List.getElem?_eq_getElem (by rw [hts_len]; exact h)⟩
/-! depths -/
theorem zip_take {α β : Type} (l : List α) (m : List β) : l.zip m = (l.take m.length).zip m := by
  induction m generalizing l with
  | nil => simp
  | cons b r ih =>
    cases l with
    | nil => rfl
    | cons a l => rw [List.zip_cons_cons, List.length_cons, List.take_succ_cons, List.zip_cons_cons, ← ih l]
theorem dpsF_gF (r : List Lk) : ∀ n, n ≤ r.length → dpsF (r.take n) [] = (r.take n).zip (gF dnhib r (r.take n) [])
  | 0, _ => rfl
  | n + 1, hn => by
    have hl : r[n]? = some (r[n]'(by omega)) := List.getElem?_eq_getElem _
    have tk : r.take (n + 1) = r.take n ++ [r[n]'(by omega)] := by rw [List.take_add_one, hl]; rfl
    have gl : (gF dnhib r (r.take n) []).length = n := by rw [gF_len, List.length_take]; show 0 + _ = _; omega
    have ih := dpsF_gF r n (by omega)
    rw [tk, dpsF_snoc, gF_snoc, List.zip_append (by rw [gl, List.length_take]; omega), ih]
    congr 1
    show [(_, dstep _ _)] = [(_, _)]
    congr 2
    unfold dstep gstep
    rw [zip_take r, gl]
    rfl
theorem dps_rev (ls : List Lk) : (dps ls).reverse = gF dnhib ls.reverse ls.reverse [] := by
  have h := dpsF_gF ls.reverse ls.reverse.length (Nat.le_refl _)
  rw [List.take_length] at h
  unfold dps dpsE
  rw [List.reverse_reverse, h]
  exact List.map_snd_zip (by rw [gF_len]; exact Nat.le_of_eq (Nat.zero_add _))
def StartsAt (sf : List Lk) (l : Lk) (n : Int) : Prop := (∃ m, m.Sublist sf ∧ Ch (l :: m) ∧ wt (l :: m) = n) ∧ ∀ m, m.Sublist sf → Ch (l :: m) → wt (l :: m) ≤ n
theorem wt_perm {a b : List Lk} (h : a.Perm b) : wt a = wt b := by
  induction h with
  | nil => rfl
  | cons x _ ih => rw [wt_cons, wt_cons, ih]
  | swap x y l => rw [wt_cons, wt_cons, wt_cons, wt_cons]; omega
  | trans _ _ ih1 ih2 => rw [ih1, ih2]
theorem ch_rev {m : List Lk} : ChR dnhib m ↔ Ch m.reverse := (List.pairwise_reverse (R := fun a b => behind a b = true)).symm
theorem dps_at {ls : List Lk} {i : Nat} {l : Lk} {n : Int} (h1 : ls[i]? = some l) (h2 : (dps ls)[i]? = some n) : StartsAt (ls.drop (i + 1)) l n := by
  have il : i < ls.length := (List.getElem?_eq_some_iff.mp h1).1
  have q := (gF_ok tr_d ls.reverse ls.reverse.length (Nat.le_refl _)).1
  rw [List.take_length, ← dps_rev] at q
  have r1 : ls.reverse[ls.length - 1 - i]? = some l := by
    rw [List.getElem?_reverse (by omega)]
    rw [show ls.length - 1 - (ls.length - 1 - i) = i by omega]
    exact h1
  have r2 : (dps ls).reverse[ls.length - 1 - i]? = some n := by
    rw [List.getElem?_reverse (by rw [dps_len]; omega), dps_len]
    rw [show ls.length - 1 - (ls.length - 1 - i) = i by omega]
    exact h2
  obtain ⟨⟨m, s, c, w⟩, up⟩ := q.at_ _ l n r1 r2
  have tk : ls.reverse.take (ls.length - 1 - i) = (ls.drop (i + 1)).reverse := by
    rw [List.take_reverse]
    congr 2
    omega
  rw [tk] at s up
  refine ⟨⟨m.reverse, ?_, ?_, ?_⟩, fun m' hs hc => ?_⟩
  · have := s.reverse
    rw [List.reverse_reverse] at this
    exact this
  · have := ch_rev.mp c
    rw [List.reverse_append] at this
    exact this
  · rw [← w]
    refine wt_perm ?_
    have : (m ++ [l]).reverse = l :: m.reverse := by rw [List.reverse_append]; rfl
    rw [← this]
    exact List.reverse_perm _
  · have e : (m'.reverse ++ [l]).reverse = l :: m' := by rw [List.reverse_append, List.reverse_reverse]; rfl
    have := up m'.reverse hs.reverse (ch_rev.mpr (by rw [e]; exact hc))
    rw [← e, wt_perm (List.reverse_perm _)]
    exact this
theorem dps_get (ls : List Lk) {i : Nat} (h : i < ls.length) : ∃ n, (dps ls)[i]? = some n := ⟨_, List.getElem?_eq_getElem (by rw [dps_len]; exact h)⟩
/-! ### the greatest weight of all -/
theorem wof_ge {ls m : List Lk} (h : IsCh ls m) : wt m ≤ wof ls := by
  unfold wof
  rcases nil_or_snoc m with e | ⟨m', x, e⟩
  · subst e
    exact mx_le _ 0 List.mem_cons_self
  · subst e
    obtain ⟨i, h1, h2⟩ := sub_last h.sub
    obtain ⟨n, hn⟩ := hts_get ls (List.getElem?_eq_some_iff.mp h1).1
    have := (hts_at h1 hn).2 m' h2 h.ch
    have := mx_le (hts ls) n (List.mem_cons_of_mem _ (List.mem_of_getElem? hn))
    omega
theorem wof_ex (ls : List Lk) : ∃ m, IsCh ls m ∧ wt m = wof ls := by
  unfold wof
  rcases List.mem_cons.mp (mx_mem (hts ls)) with e | hm
  · exact ⟨[], ⟨List.nil_sublist _, List.Pairwise.nil⟩, by rw [e, wt_nil]⟩
  · obtain ⟨i, hi⟩ := List.getElem?_of_mem hm
    have il : i < ls.length := by rw [← hts_len]; exact (List.getElem?_eq_some_iff.mp hi).1
    have hl : ls[i]? = some ls[i] := List.getElem?_eq_getElem il
    obtain ⟨⟨m, s, c, w⟩, _⟩ := hts_at hl hi
    exact ⟨m ++ [ls[i]], ⟨(sub_of_last hl s).trans (List.take_sublist _ _), c⟩, w⟩
theorem wof_unique {ls : List Lk} {n : Int} (h1 : ∃ m, IsCh ls m ∧ wt m = n) (h2 : ∀ m, IsCh ls m → wt m ≤ n) : wof ls = n := by
  obtain ⟨m, h, e⟩ := h1
  obtain ⟨m', h', e'⟩ := wof_ex ls
  have := wof_ge h
  have := h2 m' h'
  omega
theorem wof_nonneg (ls : List Lk) : 0 ≤ wof ls := mx_le _ 0 List.mem_cons_self
end L3
end

section
set_option Elab.async false
set_option linter.all false
set_option maxRecDepth 100000
set_option autoImplicit false
/-! The order of data; the match that is told is the first one, or the last. -/
namespace L3
open PySem L2 PySem.W
/-! ### orders -/
theorem dl_irrefl (x : PyData) : dataLt x x = false := (PyProof.Rows.listOrd PyProof.Rows.itemOrd).irrefl _
theorem dl_trans {x y z : PyData} (h1 : dataLt x y = true) (h2 : dataLt y z = true) : dataLt x z = true := (PyProof.Rows.listOrd PyProof.Rows.itemOrd).trans _ _ _ h1 h2
theorem dl_neg {x y z : PyData} (h : dataLt x z = true) : dataLt x y = true ∨ dataLt y z = true := (PyProof.Rows.listOrd PyProof.Rows.itemOrd).negTrans _ _ _ h
theorem dl_total {x y : PyData} (h1 : dataLt x y = false) (h2 : dataLt y x = false) : keyToks x = keyToks y := (PyProof.Rows.listOrd PyProof.Rows.itemOrd).total _ _ h1 h2
/-- the first best of a row -/
theorem fold_best {α : Type} (lt : α → α → Bool) (tr : ∀ a b c, lt a b = true → lt b c = true → lt a c = true) (ng : ∀ a b c, lt a c = true → lt a b = true ∨ lt b c = true) (ir : ∀ a, lt a a = false) : ∀ (cs : List α) (c : α),
    (cs.foldl (fun a y => if lt y a then y else a) c) ∈ c :: cs ∧ ∀ y ∈ c :: cs, lt y (cs.foldl (fun a y => if lt y a then y else a) c) = false
  | [], c => ⟨List.mem_singleton.mpr rfl, fun y hy => by rw [List.mem_singleton.mp hy]; exact ir c⟩
  | d :: cs, c => by
    rw [List.foldl_cons]
    by_cases h : lt d c = true
    · rw [if_pos h]
      obtain ⟨h1, h2⟩ := fold_best lt tr ng ir cs d
      refine ⟨List.mem_cons_of_mem _ h1, fun y hy => ?_⟩
      rcases List.mem_cons.mp hy with e | hy
      · subst e
        cases q : lt y (cs.foldl (fun a y => if lt y a then y else a) d) with
        | false => rfl
        | true =>
          have := h2 d List.mem_cons_self
          rw [tr _ _ _ h q] at this
          cases this
      · exact h2 y hy
    · rw [if_neg h]
      obtain ⟨h1, h2⟩ := fold_best lt tr ng ir cs c
      refine ⟨?_, fun y hy => ?_⟩
      · rcases List.mem_cons.mp h1 with e | h1
        · rw [e]; exact List.mem_cons_self
        · exact List.mem_cons_of_mem _ (List.mem_cons_of_mem _ h1)
      · rcases List.mem_cons.mp hy with e | hy
        · subst e; exact h2 _ List.mem_cons_self
        · rcases List.mem_cons.mp hy with e | hy
          · subst e
            cases q : lt y (cs.foldl (fun a y => if lt y a then y else a) c) with
            | false => rfl
            | true =>
              rcases ng _ c _ q with a | a
              · exact absurd a h
              · rw [h2 c List.mem_cons_self] at a
                cases a
          · exact h2 y (List.mem_cons_of_mem _ hy)
theorem minD_best (x : PyData) (xs : List PyData) : minD x xs ∈ x :: xs ∧ ∀ y ∈ x :: xs, dataLt y (minD x xs) = false := fold_best dataLt (fun _ _ _ => dl_trans) (fun _ _ _ => dl_neg) dl_irrefl xs x
theorem maxD_best (x : PyData) (xs : List PyData) : maxD x xs ∈ x :: xs ∧ ∀ y ∈ x :: xs, dataLt (maxD x xs) y = false := fold_best (fun a b => dataLt b a) (fun _ _ _ h1 h2 => dl_trans h2 h1) (fun _ _ _ h => (dl_neg h).symm) dl_irrefl xs x
/-- which of two is nearer to what is told -/
def nearer (f : Bool) (a b : PyData) : Bool := if f then dataLt a b else dataLt b a
theorem pick_best (f : Bool) (c : Lk) (cs : List Lk) : pick f c cs ∈ c :: cs ∧ ∀ y ∈ c :: cs, nearer f (eL y) (eL (pick f c cs)) = false := by
  cases f with
  | true => exact fold_best (fun a b => dataLt (eL a) (eL b)) (fun _ _ _ => dl_trans) (fun _ _ _ => dl_neg) (fun _ => dl_irrefl _) cs c
  | false => exact fold_best (fun a b => dataLt (eL b) (eL a)) (fun _ _ _ h1 h2 => dl_trans h2 h1) (fun _ _ _ h => (dl_neg h).symm) (fun _ => dl_irrefl _) cs c
theorem toks_eL (l : Lk) : keyToks (eL l) = [.inl 1, .inl l.1, .inl 1, .inl l.2.1, .inl 1, .inl l.2.2, .inl 0] := rfl
theorem eL_inj {l m : Lk} (h : keyToks (eL l) = keyToks (eL m)) : l = m := by
  rw [toks_eL, toks_eL] at h
  obtain ⟨a, b, c⟩ := l
  obtain ⟨a', b', c'⟩ := m
  simp only [List.cons.injEq, Sum.inl.injEq, and_true, true_and] at h
  obtain ⟨h1, h2, h3⟩ := h
  subst h1 h2 h3
  rfl
theorem eLs_inj : ∀ {l m : List Lk}, keyToks (eLs l) = keyToks (eLs m) → l = m
  | [], [], _ => rfl
  | [], b :: m, h => by
    have h' : ([.inl 0] : List (Int ⊕ List Nat)) = .inl 1 :: (keyToks (eL b) ++ keyToksAll (m.map eL)) := h
    simp at h'
  | a :: l, [], h => by
    have h' : (.inl 1 :: (keyToks (eL a) ++ keyToksAll (l.map eL)) : List (Int ⊕ List Nat)) = [.inl 0] := h
    simp at h'
  | a :: l, b :: m, h => by
    have h' : (.inl 1 :: (keyToks (eL a) ++ keyToksAll (l.map eL)) : List (Int ⊕ List Nat)) = .inl 1 :: (keyToks (eL b) ++ keyToksAll (m.map eL)) := h
    have h2 := (List.cons.inj h').2
    obtain ⟨e1, e2⟩ := List.append_inj h2 rfl
    rw [eL_inj e1, eLs_inj (l := l) (m := m) e2]
theorem lt_cons_eq (l : Lk) (a b : List Lk) : dataLt (eLs (l :: a)) (eLs (l :: b)) = dataLt (eLs a) (eLs b) := by
  unfold eLs
  rw [dataLt_tuple, dataLt_tuple, List.map_cons, List.map_cons]
  exact dataLt_all_yes rfl (by rw [eqv_eL]; exact decide_eq_true rfl)
theorem lt_cons_ne {l m : Lk} (h : l ≠ m) (a b : List Lk) : dataLt (eLs (l :: a)) (eLs (m :: b)) = dataLt (eL l) (eL m) := by
  unfold eLs
  rw [dataLt_tuple, List.map_cons, List.map_cons]
  exact dataLt_all_no rfl (by rw [eqv_eL]; exact decide_eq_false h)
theorem nearer_cons_eq (f : Bool) (l : Lk) (a b : List Lk) : nearer f (eLs (l :: a)) (eLs (l :: b)) = nearer f (eLs a) (eLs b) := by
  cases f with
  | true => exact lt_cons_eq l a b
  | false => exact lt_cons_eq l b a
theorem nearer_cons_ne (f : Bool) {l m : Lk} (h : l ≠ m) (a b : List Lk) : nearer f (eLs (l :: a)) (eLs (m :: b)) = nearer f (eL l) (eL m) := by
  cases f with
  | true => exact lt_cons_ne h a b
  | false => exact lt_cons_ne (fun z => h z.symm) b a
/-- two that are both nearest are one -/
theorem nearest_unique {f : Bool} {a b : List Lk} (h1 : nearer f (eLs a) (eLs b) = false) (h2 : nearer f (eLs b) (eLs a) = false) : a = b := by
  cases f with
  | true => exact eLs_inj (dl_total h1 h2)
  | false => exact eLs_inj (dl_total h2 h1)
/-! ### chains of an ordered list -/
structure Nice (ls : List Lk) : Prop where
  nd : ls.Nodup
  ord : ls.Pairwise fun a b => behind b a = false
  w : ∀ l ∈ ls, 1 ≤ l.2.2
theorem sub_of_mem : ∀ {ls m : List Lk}, ls.Pairwise (fun a b => behind b a = false) → Ch m → (∀ x ∈ m, x ∈ ls) → m.Sublist ls
  | [], m, _, _, h => by
    cases m with
    | nil => exact List.Sublist.slnil
    | cons a r => exact absurd (h a List.mem_cons_self) (by simp)
  | y :: r, [], _, _, _ => List.nil_sublist _
  | y :: r, a :: m, ho, hc, h => by
    obtain ⟨o1, o2⟩ := List.pairwise_cons.mp ho
    obtain ⟨c1, c2⟩ := List.pairwise_cons.mp hc
    have tail : ∀ x ∈ m, x ∈ r := fun x hx => by
      rcases List.mem_cons.mp (h x (List.mem_cons_of_mem _ hx)) with e | q
      · subst e
        rcases List.mem_cons.mp (h a List.mem_cons_self) with e | q
        · subst e
          have := c1 a hx
          rw [behind_irrefl] at this
          cases this
        · have := o1 a q
          rw [c1 x hx] at this
          cases this
      · exact q
    rcases List.mem_cons.mp (h a List.mem_cons_self) with e | q
    · subst e
      exact (sub_of_mem o2 c2 tail).cons_cons _
    · exact (sub_of_mem (m := a :: m) o2 hc fun x hx => by
        rcases List.mem_cons.mp hx with e | hx
        · rw [e]; exact q
        · exact tail x hx).cons _
theorem isCh_of {ls m : List Lk} (n : Nice ls) (hc : Ch m) (h : ∀ x ∈ m, x ∈ ls) : IsCh ls m := ⟨sub_of_mem n.ord hc h, hc⟩
theorem IsCh.mem {ls m : List Lk} (h : IsCh ls m) : ∀ x ∈ m, x ∈ ls := fun x hx => h.sub.subset hx
/-- the depth at a place: the greatest weight of a chain from there -/
theorem dps_max {ls : List Lk} (n : Nice ls) {p : Lk × Int} (hp : p ∈ ls.zip (dps ls)) : (∃ m, Ch (p.1 :: m) ∧ (∀ x ∈ m, x ∈ ls) ∧ wt (p.1 :: m) = p.2) ∧ ∀ m, Ch (p.1 :: m) → (∀ x ∈ m, x ∈ ls) → wt (p.1 :: m) ≤ p.2 := by
  obtain ⟨i, hi⟩ := List.getElem?_of_mem hp
  rw [List.getElem?_zip_eq_some] at hi
  obtain ⟨⟨m, s, c, w⟩, up⟩ := dps_at hi.1 hi.2
  refine ⟨⟨m, c, fun x hx => List.mem_of_mem_drop (s.subset hx), w⟩, fun m' hc hm => up m' ?_ hc⟩
  have spl : ls = ls.take i ++ (p.1 :: ls.drop (i + 1)) := by
    have il := (List.getElem?_eq_some_iff.mp hi.1).1
    have e := List.drop_eq_getElem_cons il
    have e1 : ls[i] = p.1 := (List.getElem?_eq_some_iff.mp hi.1).2
    rw [e1] at e
    rw [← e, List.take_append_drop]
  have ho := n.ord
  rw [spl] at ho
  obtain ⟨_, o2, o3⟩ := List.pairwise_append.mp ho
  obtain ⟨c1, c2⟩ := List.pairwise_cons.mp hc
  refine sub_of_mem (List.pairwise_cons.mp o2).2 c2 fun x hx => ?_
  have hb := c1 x hx
  have hx' := hm x hx
  rw [spl] at hx'
  rcases List.mem_append.mp hx' with q | q
  · have := o3 x q p.1 List.mem_cons_self
    rw [hb] at this
    cases this
  · rcases List.mem_cons.mp q with e | q
    · rw [e, behind_irrefl] at hb
      cases hb
    · exact q
theorem dps_mem {ls : List Lk} {l : Lk} (h : l ∈ ls) : ∃ n, (l, n) ∈ ls.zip (dps ls) := by
  obtain ⟨i, hi⟩ := List.getElem?_of_mem h
  obtain ⟨n, hn⟩ := dps_get ls (List.getElem?_eq_some_iff.mp hi).1
  exact ⟨n, List.mem_of_getElem? (i := i) (by rw [List.getElem?_zip_eq_some]; exact ⟨hi, hn⟩)⟩
/-! ### the match that is told -/
def Beh (prev : Option Lk) (m : List Lk) : Prop := Ch m ∧ ∀ p, prev = some p → ∀ x ∈ m, behind p x = true
theorem okp_iff {prev : Option Lk} {l : Lk} : okp prev l = true ↔ ∀ p, prev = some p → behind p l = true := by
  cases prev with
  | none => exact ⟨(fun _ p e => nomatch e), fun _ => rfl⟩
  | some q => exact ⟨fun h p e => by cases e; exact h, fun h => h q rfl⟩
structure Most (ls : List Lk) (prev : Option Lk) (most : Int) : Prop where
  ex : ∃ m, Beh prev m ∧ (∀ x ∈ m, x ∈ ls) ∧ wt m = most
  up : ∀ m, Beh prev m → (∀ x ∈ m, x ∈ ls) → wt m ≤ most
theorem wt_pos {m : List Lk} (h : ∀ l ∈ m, 1 ≤ l.2.2) : 0 ≤ wt m ∧ (wt m ≤ 0 → m = []) := by
  induction m with
  | nil => exact ⟨Int.le_refl 0, fun _ => rfl⟩
  | cons a r ih =>
    obtain ⟨h1, h2⟩ := ih fun l hl => h l (List.mem_cons_of_mem _ hl)
    have ha := h a List.mem_cons_self
    rw [wt_cons]
    exact ⟨by omega, fun z => by omega⟩
theorem mem_cands {ls : List Lk} {prev : Option Lk} {most : Int} {l : Lk} : l ∈ cands ls prev most ↔ (l, most) ∈ ls.zip (dps ls) ∧ okp prev l = true := by
  unfold cands
  rw [List.mem_map]
  constructor
  · rintro ⟨p, hp, e⟩
    rw [List.mem_filter, Bool.and_eq_true, decide_eq_true_eq] at hp
    obtain ⟨h1, h2, h3⟩ := hp
    subst e
    exact ⟨by rw [← h2]; exact h1, h3⟩
  · rintro ⟨h1, h2⟩
    exact ⟨(l, most), List.mem_filter.mpr ⟨h1, by rw [Bool.and_eq_true]; exact ⟨decide_eq_true rfl, h2⟩⟩, rfl⟩
theorem beh_cons {prev : Option Lk} {x : Lk} {m : List Lk} (h : Ch (x :: m)) (o : okp prev x = true) : Beh prev (x :: m) := by
  refine ⟨h, fun p e y hy => ?_⟩
  have b := okp_iff.mp o p e
  rcases List.mem_cons.mp hy with q | q
  · rw [q]; exact b
  · exact behind_trans b ((List.pairwise_cons.mp h).1 y q)
/-- any candidate goes on -/
theorem most_next {ls : List Lk} (n : Nice ls) {prev : Option Lk} {most : Int} {x : Lk} (hx : x ∈ cands ls prev most) : Most ls (some x) (most - x.2.2) := by
  obtain ⟨h1, h2⟩ := mem_cands.mp hx
  have q := dps_max n h1
  simp only at q
  obtain ⟨⟨m, c, s, w⟩, up⟩ := q
  refine ⟨⟨m, ⟨(List.pairwise_cons.mp c).2, fun p e y hy => by cases e; exact (List.pairwise_cons.mp c).1 y hy⟩, s, ?_⟩, fun m' hb hs => ?_⟩
  · rw [wt_cons] at w
    omega
  · have := up m' (List.pairwise_cons.mpr ⟨fun y hy => hb.2 x rfl y hy, hb.1⟩) hs
    rw [wt_cons] at this
    omega
/-- the first of a best one is a candidate -/
theorem first_cand {ls : List Lk} (n : Nice ls) {prev : Option Lk} {most : Int} (g : Most ls prev most) {x : Lk} {m : List Lk} (hb : Beh prev (x :: m)) (hs : ∀ y ∈ x :: m, y ∈ ls) (hw : wt (x :: m) = most) : x ∈ cands ls prev most := by
  obtain ⟨d, hd⟩ := dps_mem (hs x List.mem_cons_self)
  have o : okp prev x = true := okp_iff.mpr fun p e => hb.2 p e x List.mem_cons_self
  obtain ⟨⟨m', c, s, w⟩, up⟩ := dps_max n hd
  have h1 := up m hb.1 fun y hy => hs y (List.mem_cons_of_mem _ hy)
  have h2 := g.up (x :: m') (beh_cons c o) fun y hy => by
    rcases List.mem_cons.mp hy with e | hy
    · rw [e]; exact hs x List.mem_cons_self
    · exact s y hy
  have e : d = most := by
    simp only at h1 w
    omega
  subst e
  exact mem_cands.mpr ⟨hd, o⟩
theorem greedy_ex (f : Bool) {ls : List Lk} (n : Nice ls) : ∀ (k : Nat) (prev : Option Lk) (most : Int), most.toNat ≤ k → Most ls prev most →
    ∃ m, Greedy f ls prev most m ∧ Beh prev m ∧ (∀ x ∈ m, x ∈ ls) ∧ wt m = most ∧ ∀ m', Beh prev m' → (∀ x ∈ m', x ∈ ls) → wt m' = most → nearer f (eLs m') (eLs m) = false := by
  intro k
  induction k with
  | zero =>
    intro prev most hk g
    obtain ⟨m, hb, hs, hw⟩ := g.ex
    obtain ⟨p1, p2⟩ := wt_pos fun l hl => n.w l (hs l hl)
    have e0 : most = 0 := by omega
    refine ⟨[], .done (by omega), ⟨List.Pairwise.nil, fun p e x hx => nomatch hx⟩, (fun x hx => nomatch hx), by rw [wt_nil, e0], fun m' hb' hs' hw' => ?_⟩
    obtain ⟨_, q2⟩ := wt_pos fun l hl => n.w l (hs' l hl)
    rw [q2 (by omega)]
    cases f <;> exact dl_irrefl _
  | succ k ih =>
    intro prev most hk g
    obtain ⟨m, hb, hs, hw⟩ := g.ex
    obtain ⟨p1, p2⟩ := wt_pos fun l hl => n.w l (hs l hl)
    by_cases h0 : 0 < most
    · cases m with
      | nil => rw [wt_nil] at hw; omega
      | cons x t =>
        have hx := first_cand n g hb hs hw
        obtain ⟨c, cs, hc⟩ : ∃ c cs, cands ls prev most = c :: cs := by
          cases hq : cands ls prev most with
          | nil => rw [hq] at hx; exact nomatch hx
          | cons c cs => exact ⟨c, cs, rfl⟩
        obtain ⟨b1, b2⟩ := pick_best f c cs
        have hp : pick f c cs ∈ cands ls prev most := by rw [hc]; exact b1
        obtain ⟨q1, q2⟩ := mem_cands.mp hp
        have pm : pick f c cs ∈ ls := (List.of_mem_zip q1).1
        have pw := n.w _ pm
        obtain ⟨m2, g2, hb2, hs2, hw2, best⟩ := ih (some (pick f c cs)) (most - (pick f c cs).2.2) (by omega) (most_next n hp)
        have c2 : Ch (pick f c cs :: m2) := List.pairwise_cons.mpr ⟨fun y hy => hb2.2 _ rfl y hy, hb2.1⟩
        refine ⟨pick f c cs :: m2, .step h0 hc g2, beh_cons c2 q2, fun y hy => ?_, by rw [wt_cons, hw2]; omega, fun m' hb' hs' hw' => ?_⟩
        · rcases List.mem_cons.mp hy with e | hy
          · rw [e]; exact pm
          · exact hs2 y hy
        · cases m' with
          | nil => rw [wt_nil] at hw'; omega
          | cons y t' =>
            have hy := first_cand n g hb' hs' hw'
            by_cases e : y = pick f c cs
            · rw [e, nearer_cons_eq]
              refine best t' ⟨(List.pairwise_cons.mp hb'.1).2, (fun p ep z hz => ?_)⟩ (fun z hz => hs' z (List.mem_cons_of_mem _ hz)) ?_
              · cases ep
                rw [← e]
                exact (List.pairwise_cons.mp hb'.1).1 z hz
              · rw [wt_cons, e] at hw'
                omega
            · rw [nearer_cons_ne f e]
              exact b2 y (by rw [← hc]; exact hy)
    · have e0 : most = 0 := by omega
      refine ⟨[], .done h0, ⟨List.Pairwise.nil, fun p e x hx => nomatch hx⟩, (fun x hx => nomatch hx), by rw [wt_nil, e0], fun m' hb' hs' hw' => ?_⟩
      obtain ⟨_, q2⟩ := wt_pos fun l hl => n.w l (hs' l hl)
      rw [q2 (by omega)]
      cases f <;> exact dl_irrefl _
/-- the match that is told: a best one, the nearest of all -/
structure Told (f : Bool) (ls m : List Lk) : Prop where
  g : Greedy f ls none (wof ls) m
  ch : IsCh ls m
  w : wt m = wof ls
  best : ∀ m', IsCh ls m' → wt m' = wof ls → nearer f (eLs m') (eLs m) = false
theorem told_ex (f : Bool) {ls : List Lk} (n : Nice ls) : ∃ m, Told f ls m := by
  obtain ⟨m0, h0, w0⟩ := wof_ex ls
  obtain ⟨m, g, hb, hs, hw, best⟩ := greedy_ex f n (wof ls).toNat none (wof ls) (Nat.le_refl _) ⟨⟨m0, ⟨h0.ch, (fun p e => nomatch e)⟩, h0.mem, w0⟩, fun m hb hs => wof_ge (isCh_of n hb.1 hs)⟩
  exact ⟨m, g, isCh_of n hb.1 hs, hw, fun m' h' w' => best m' ⟨h'.ch, (fun p e => nomatch e)⟩ h'.mem w'⟩
theorem Told.len {f : Bool} {ls m : List Lk} (h : Told f ls m) : m.length ≤ ls.length := h.ch.sub.length_le
end L3
end

section
set_option Elab.async false
set_option linter.all false
set_option maxRecDepth 100000
set_option autoImplicit false
/-! All matches; marks and counts. -/
namespace L3
open PySem L2 PySem.W
/-! ### all matches -/
def ag (m : List Lk) (l : Lk) : Bool := match m.getLast? with
  | none => true
  | some p => behind p l
def mtsF : List Lk → List (List Lk) → List (List Lk)
  | [], fd => fd
  | l :: r, fd => mtsF r (fd ++ (fd.filter fun m => ag m l).map (· ++ [l]))
def mts (ls : List Lk) : List (List Lk) := mtsF ls [[]]
theorem mtsF_snoc (l : Lk) : ∀ (r : List Lk) (fd : List (List Lk)), mtsF (r ++ [l]) fd = mtsF r fd ++ ((mtsF r fd).filter fun m => ag m l).map (· ++ [l])
  | [], _ => rfl
  | m :: r, _ => mtsF_snoc l r _
theorem mtsF_len : ∀ (r : List Lk) (fd : List (List Lk)), (mtsF r fd).length ≤ fd.length * 2 ^ r.length
  | [], fd => by show fd.length ≤ fd.length * 1; omega
  | l :: r, fd => by
    refine Nat.le_trans (mtsF_len r _) ?_
    rw [List.length_append, List.length_map, List.length_cons, Nat.pow_succ]
    have h := List.length_filter_le (fun m => ag m l) fd
    calc (fd.length + (fd.filter fun m => ag m l).length) * 2 ^ r.length ≤ (fd.length + fd.length) * 2 ^ r.length := Nat.mul_le_mul_right _ (by omega)
      _ = fd.length * (2 ^ r.length * 2) := by rw [← Nat.two_mul, Nat.mul_comm 2, Nat.mul_assoc, Nat.mul_comm 2]
theorem ag_snoc {m : List Lk} {l : Lk} (h : Ch m) : ag m l = true ↔ Ch (m ++ [l]) := by
  rcases nil_or_snoc m with e | ⟨m', x, e⟩
  · subst e
    exact ⟨fun _ => List.pairwise_singleton _ _, fun _ => rfl⟩
  · subst e
    unfold ag
    rw [List.getLast?_concat]
    exact ⟨fun b => chR_snoc tr_b h b, fun c => (ch_append.mp c).2.2 x (by simp) l (by simp)⟩
theorem sub_snoc_iff {m ls : List Lk} {l : Lk} : m.Sublist (ls ++ [l]) ↔ m.Sublist ls ∨ ∃ m', m = m' ++ [l] ∧ m'.Sublist ls := by
  constructor
  · intro h
    have h' : m.reverse.Sublist (l :: ls.reverse) := by
      have q := h.reverse
      rw [List.reverse_append] at q
      exact q
    rcases List.sublist_cons_iff.mp h' with q | ⟨r, e, q⟩
    · left
      have := q.reverse
      rw [List.reverse_reverse, List.reverse_reverse] at this
      exact this
    · right
      refine ⟨r.reverse, ?_, ?_⟩
      · have := congrArg List.reverse e
        rw [List.reverse_reverse, List.reverse_cons] at this
        exact this
      · have := q.reverse
        rw [List.reverse_reverse] at this
        exact this
  · rintro (h | ⟨m', e, h⟩)
    · exact h.trans (List.sublist_append_left _ _)
    · rw [e]
      exact h.append (List.Sublist.refl _)
theorem mts_take (ls : List Lk) : ∀ n, n ≤ ls.length → ∀ m, m ∈ mtsF (ls.take n) [[]] ↔ IsCh (ls.take n) m
  | 0, _, m => by
    rw [List.take_zero]
    show m ∈ [[]] ↔ _
    rw [List.mem_singleton]
    exact ⟨fun e => by subst e; exact ⟨List.Sublist.slnil, List.Pairwise.nil⟩, fun h => List.sublist_nil.mp h.sub⟩
  | n + 1, hn, m => by
    have hl : ls[n]? = some (ls[n]'(by omega)) := List.getElem?_eq_getElem _
    have tk : ls.take (n + 1) = ls.take n ++ [ls[n]'(by omega)] := by rw [List.take_add_one, hl]; rfl
    have ih := mts_take ls n (by omega)
    rw [tk, mtsF_snoc, List.mem_append, List.mem_map]
    constructor
    · rintro (h | ⟨m', h, e⟩)
      · have q := (ih m).mp h
        exact ⟨sub_snoc_iff.mpr (.inl q.sub), q.ch⟩
      · rw [List.mem_filter] at h
        have q := (ih m').mp h.1
        subst e
        exact ⟨sub_snoc_iff.mpr (.inr ⟨m', rfl, q.sub⟩), (ag_snoc q.ch).mp h.2⟩
    · intro h
      rcases sub_snoc_iff.mp h.sub with q | ⟨m', e, q⟩
      · exact .inl ((ih m).mpr ⟨q, h.ch⟩)
      · right
        have c := h.ch
        rw [e] at c
        have c' := (ch_append.mp c).1
        exact ⟨m', List.mem_filter.mpr ⟨(ih m').mpr ⟨q, c'⟩, (ag_snoc c').mpr c⟩, e.symm⟩
theorem mts_mem (ls : List Lk) (m : List Lk) : m ∈ mts ls ↔ IsCh ls m := by
  have := mts_take ls ls.length (Nat.le_refl _) m
  rw [List.take_length] at this
  exact this
/-! ### rows -/
theorem mem_rows {ls : List Lk} {r : Rw} (h : r ∈ rows ls) : ∃ i : Nat, ls[i]? = some r.l ∧ (hts ls)[i]? = some r.e ∧ r.b = r.e - r.l.2.2 := by
  unfold rows at h
  obtain ⟨p, hp, e⟩ := List.mem_map.mp h
  obtain ⟨i, hi⟩ := List.getElem?_of_mem hp
  rw [List.getElem?_zip_eq_some] at hi
  subst e
  exact ⟨i, hi.1, hi.2, rfl⟩
theorem rows_of {ls : List Lk} {i : Nat} {l : Lk} {n : Int} (h1 : ls[i]? = some l) (h2 : (hts ls)[i]? = some n) : (⟨n - l.2.2, n, l⟩ : Rw) ∈ rows ls := by
  unfold rows
  exact List.mem_map.mpr ⟨(l, n), List.mem_of_getElem? (i := i) (by rw [List.getElem?_zip_eq_some]; exact ⟨h1, h2⟩), rfl⟩
theorem rows_l (ls : List Lk) : (rows ls).map (·.l) = ls := by
  unfold rows
  rw [List.map_map]
  exact List.map_fst_zip (by rw [hts_len]; exact Nat.le_refl _)
theorem row_ex {ls : List Lk} {l : Lk} (h : l ∈ ls) : ∃ r ∈ rows ls, r.l = l := by
  rw [← rows_l ls] at h
  obtain ⟨r, hr, e⟩ := List.mem_map.mp h
  exact ⟨r, hr, e⟩
theorem row_unique {ls : List Lk} (nd : ls.Nodup) {r r' : Rw} (h : r ∈ rows ls) (h' : r' ∈ rows ls) (e : r.l = r'.l) : r = r' := by
  obtain ⟨i, h1, h2, h3⟩ := mem_rows h
  obtain ⟨j, g1, g2, g3⟩ := mem_rows h'
  obtain ⟨a, a'⟩ := List.getElem?_eq_some_iff.mp h1
  obtain ⟨b, b'⟩ := List.getElem?_eq_some_iff.mp g1
  have ij : i = j := (List.getElem_inj nd (h₀ := a) (h₁ := b)).mp (by rw [a', b', e])
  subst ij
  rw [h2] at g2
  have e2 := Option.some.inj g2
  obtain ⟨rb, re, rl⟩ := r
  obtain ⟨sb, se, sl⟩ := r'
  simp only at *
  subst e e2
  rw [h3, g3]
theorem row_b0 {ls : List Lk} {r : Rw} (h : r ∈ rows ls) : 0 ≤ r.b := by
  obtain ⟨i, h1, h2, h3⟩ := mem_rows h
  have := (hts_at h1 h2).2 [] (List.nil_sublist _) (List.pairwise_singleton _ _)
  rw [List.nil_append, wt_cons, wt_nil] at this
  omega
theorem row_e (ls : List Lk) {r : Rw} (h : r ∈ rows ls) : r.e ≤ wof ls := by
  obtain ⟨i, h1, h2, h3⟩ := mem_rows h
  exact mx_le _ _ (List.mem_cons_of_mem _ (List.mem_of_getElem? h2))
theorem row_lt {ls : List Lk} (n : Nice ls) {r : Rw} (h : r ∈ rows ls) : r.b < r.e := by
  obtain ⟨i, h1, h2, h3⟩ := mem_rows h
  have := n.w _ (List.mem_of_getElem? h1)
  omega
/-- what begins above the foot begins where another one ends -/
theorem row_from {ls : List Lk} (n : Nice ls) {r : Rw} (h : r ∈ rows ls) (hb : 0 < r.b) : ∃ r' ∈ rows ls, r'.e = r.b := by
  obtain ⟨i, h1, h2, h3⟩ := mem_rows h
  obtain ⟨⟨m, s, c, w⟩, up⟩ := hts_at h1 h2
  rw [wt_append, wt_cons, wt_nil] at w
  rcases nil_or_snoc m with e | ⟨m', x, e⟩
  · subst e
    rw [wt_nil] at w
    omega
  · subst e
    obtain ⟨j, g1, g2⟩ := sub_last s
    have jl : j < (ls.take i).length := (List.getElem?_eq_some_iff.mp g1).1
    rw [List.length_take] at jl
    rw [List.getElem?_take, if_pos (by omega)] at g1
    rw [List.take_take, Nat.min_eq_left (by omega)] at g2
    obtain ⟨k, hk⟩ := hts_get ls (i := j) (by omega)
    obtain ⟨⟨m2, s2, c2, w2⟩, up2⟩ := hts_at g1 hk
    have a1 := up2 m' g2 (ch_append.mp c).1
    have bx : behind x r.l = true := (ch_append.mp c).2.2 x (by simp) r.l (by simp)
    have a2 := up (m2 ++ [x]) ((sub_of_last g1 s2).trans (List.take_sublist_take_left (by omega))) (chR_snoc tr_b c2 bx)
    rw [wt_append, wt_cons, wt_nil, w2] at a2
    refine ⟨_, rows_of g1 hk, ?_⟩
    show k = r.b
    omega
theorem row_below {ls : List Lk} (n : Nice ls) {r r' : Rw} (h : r ∈ rows ls) (h' : r' ∈ rows ls) (b : behind r.l r'.l = true) : r.e ≤ r'.b := by
  obtain ⟨i, h1, h2, h3⟩ := mem_rows h
  obtain ⟨j, g1, g2, g3⟩ := mem_rows h'
  obtain ⟨⟨m, s, c, w⟩, _⟩ := hts_at h1 h2
  obtain ⟨_, up⟩ := hts_at g1 g2
  have ij : i < j := by
    obtain ⟨a, a'⟩ := List.getElem?_eq_some_iff.mp h1
    obtain ⟨q, q'⟩ := List.getElem?_eq_some_iff.mp g1
    rcases Nat.lt_trichotomy i j with z | z | z
    · exact z
    · subst z
      rw [← a', ← q', behind_irrefl] at b
      cases b
    · have := List.pairwise_iff_getElem.mp n.ord j i q a z
      rw [a', q', b] at this
      cases this
  have := up (m ++ [r.l]) ((sub_of_last h1 s).trans (List.take_sublist_take_left (by omega))) (chR_snoc tr_b c b)
  rw [wt_append, wt_cons, wt_nil, w] at this
  omega
/-! ### marks -/
theorem tele : ∀ (ms : List Int) (a b : Int), ms.Pairwise (· < ·) → a ∈ ms → b ∈ ms → a ≤ b → (((ms.zip (ms.drop 1)).filter fun p => decide (a ≤ p.1) && decide (p.2 ≤ b)).map fun p => p.2 - p.1).sum = b - a
  | [], a, b, _, h, _, _ => nomatch h
  | [x], a, b, _, h1, h2, _ => by
    rw [List.mem_singleton.mp h1, List.mem_singleton.mp h2]
    simp
  | x :: y :: r, a, b, hp, h1, h2, hab => by
    obtain ⟨p1, p2⟩ := List.pairwise_cons.mp hp
    have xy : x < y := p1 y List.mem_cons_self
    have yr : ∀ z ∈ y :: r, y ≤ z := fun z hz => by
      rcases List.mem_cons.mp hz with e | hz
      · omega
      · have := (List.pairwise_cons.mp p2).1 z hz
        omega
    have zp : ∀ p ∈ (y :: r).zip ((y :: r).drop 1), y ≤ p.1 ∧ y ≤ p.2 := fun p hp => by
      obtain ⟨q1, q2⟩ := List.of_mem_zip hp
      exact ⟨yr _ q1, yr _ (List.mem_of_mem_drop q2)⟩
    have spl : (x :: y :: r).zip ((x :: y :: r).drop 1) = (x, y) :: (y :: r).zip ((y :: r).drop 1) := rfl
    rw [spl, List.filter_cons]
    rcases List.mem_cons.mp h1 with e | h1
    · subst e
      rcases List.mem_cons.mp h2 with e | h2
      · subst e
        have e0 : (decide (b ≤ (b, y).1) && decide ((b, y).2 ≤ b)) = false := by simp; omega
        rw [e0, if_neg Bool.false_ne_true]
        have : ((y :: r).zip ((y :: r).drop 1)).filter (fun p => decide (b ≤ p.1) && decide (p.2 ≤ b)) = [] := by
          rw [List.filter_eq_nil_iff]
          intro p hp
          have := zp p hp
          simp
          omega
        rw [this]
        simp
      · have yb := yr b h2
        have e0 : (decide (a ≤ (a, y).1) && decide ((a, y).2 ≤ b)) = true := by simp; omega
        rw [e0, if_pos rfl, List.map_cons, List.sum_cons]
        have ih := tele (y :: r) y b p2 List.mem_cons_self h2 yb
        have ef : ((y :: r).zip ((y :: r).drop 1)).filter (fun p => decide (a ≤ p.1) && decide (p.2 ≤ b)) = ((y :: r).zip ((y :: r).drop 1)).filter (fun p => decide (y ≤ p.1) && decide (p.2 ≤ b)) := by
          apply List.filter_congr
          intro p hp
          have := zp p hp
          have c1 : decide (a ≤ p.1) = true := decide_eq_true (by omega)
          have c2 : decide (y ≤ p.1) = true := decide_eq_true (by omega)
          rw [c1, c2]
        rw [ef, ih]
        show y - a + (b - y) = b - a
        omega
    · have ya := yr a h1
      have h2' : b ∈ y :: r := by
        rcases List.mem_cons.mp h2 with e | h2
        · omega
        · exact h2
      have e0 : (decide (a ≤ (x, y).1) && decide ((x, y).2 ≤ b)) = false := by simp; omega
      rw [e0, if_neg Bool.false_ne_true]
      exact tele (y :: r) a b p2 h1 h2' hab
theorem consec : ∀ {ms : List Int} {p : Int × Int}, ms.Pairwise (· < ·) → p ∈ ms.zip (ms.drop 1) → p.1 ∈ ms ∧ p.2 ∈ ms ∧ p.1 < p.2 ∧ ∀ k ∈ ms, k ≤ p.1 ∨ p.2 ≤ k
  | [], p, _, h => nomatch h
  | [x], p, _, h => nomatch h
  | x :: y :: r, p, hp, h => by
    obtain ⟨p1, p2⟩ := List.pairwise_cons.mp hp
    have xy : x < y := p1 y List.mem_cons_self
    have spl : (x :: y :: r).zip ((x :: y :: r).drop 1) = (x, y) :: (y :: r).zip ((y :: r).drop 1) := rfl
    rw [spl] at h
    rcases List.mem_cons.mp h with e | h
    · subst e
      refine ⟨List.mem_cons_self, List.mem_cons_of_mem _ List.mem_cons_self, xy, fun k hk => ?_⟩
      rcases List.mem_cons.mp hk with e | hk
      · exact .inl (Int.le_of_eq e)
      · right
        rcases List.mem_cons.mp hk with e | hk
        · exact Int.le_of_eq e.symm
        · have := (List.pairwise_cons.mp p2).1 k hk
          exact Int.le_of_lt this
    · obtain ⟨a, b, c, d⟩ := consec (ms := y :: r) p2 h
      refine ⟨List.mem_cons_of_mem _ a, List.mem_cons_of_mem _ b, c, fun k hk => ?_⟩
      rcases List.mem_cons.mp hk with e | hk
      · left
        have := p1 _ a
        omega
      · exact d k hk
def insM (k : Int) : List Int → List Int
  | [] => [k]
  | x :: r => if k < x then k :: x :: r else if k = x then x :: r else x :: insM k r
theorem insM_mem (k z : Int) : ∀ l : List Int, z ∈ insM k l ↔ z = k ∨ z ∈ l
  | [] => by show z ∈ [k] ↔ _; simp
  | x :: r => by
    unfold insM
    split
    · simp
    · split
      · rename_i h1 h2
        subst h2
        simp
      · rw [List.mem_cons, insM_mem k z r, List.mem_cons]
        constructor
        · rintro (h | h | h)
          · exact .inr (.inl h)
          · exact .inl h
          · exact .inr (.inr h)
        · rintro (h | h | h)
          · exact .inr (.inl h)
          · exact .inl h
          · exact .inr (.inr h)
theorem insM_up (k : Int) : ∀ l : List Int, l.Pairwise (· < ·) → (insM k l).Pairwise (· < ·)
  | [], _ => List.pairwise_singleton _ _
  | x :: r, h => by
    obtain ⟨h1, h2⟩ := List.pairwise_cons.mp h
    unfold insM
    split
    · rename_i hk
      refine List.pairwise_cons.mpr ⟨fun z hz => ?_, h⟩
      rcases List.mem_cons.mp hz with e | hz
      · omega
      · have := h1 z hz
        omega
    · split
      · exact h
      · refine List.pairwise_cons.mpr ⟨fun z hz => ?_, insM_up k r h2⟩
        rcases (insM_mem k z r).mp hz with e | hz
        · omega
        · exact h1 z hz
theorem marks_ex (ls : List Lk) : ∃ ms, Marks ls ms := by
  have gen : ∀ l : List Int, ∃ ms : List Int, ms.Pairwise (· < ·) ∧ ∀ k, k ∈ ms ↔ k ∈ l := fun l => by
    induction l with
    | nil => exact ⟨[], List.Pairwise.nil, fun k => Iff.rfl⟩
    | cons a r ih =>
      obtain ⟨ms, h1, h2⟩ := ih
      exact ⟨insM a ms, insM_up a ms h1, fun k => (insM_mem a k ms).trans (by rw [h2 k, List.mem_cons])⟩
  obtain ⟨ms, h1, h2⟩ := gen ((rows ls).map (·.b) ++ (rows ls).map (·.e))
  exact ⟨ms, h1, h2⟩
/-! ### counts -/
structure CtOk (ls : List Lk) (ks : List Cnt) : Prop where
  sum : (ks.map (·.2)).sum = wof ls
  cov : ∀ l ∈ ls, over ks l = l.2.2
  each : ∀ k ∈ ks, k.1.Sublist ls ∧ k.1 ≠ [] ∧ 1 ≤ k.2 ∧ ∀ l ∈ k.1, ∀ m ∈ k.1, behind l m = false
theorem mark_b {ls : List Lk} {ms : List Int} (mk : Marks ls ms) {r : Rw} (h : r ∈ rows ls) : r.b ∈ ms := (mk.mem _).mpr (List.mem_append_left _ (List.mem_map_of_mem h))
theorem mark_e {ls : List Lk} {ms : List Int} (mk : Marks ls ms) {r : Rw} (h : r ∈ rows ls) : r.e ∈ ms := (mk.mem _).mpr (List.mem_append_right _ (List.mem_map_of_mem h))
theorem mark_at {ls : List Lk} {ms : List Int} (mk : Marks ls ms) {k : Int} (h : k ∈ ms) : ∃ r ∈ rows ls, k = r.b ∨ k = r.e := by
  rcases List.mem_append.mp ((mk.mem k).mp h) with q | q
  · obtain ⟨r, hr, e⟩ := List.mem_map.mp q
    exact ⟨r, hr, .inl e.symm⟩
  · obtain ⟨r, hr, e⟩ := List.mem_map.mp q
    exact ⟨r, hr, .inr e.symm⟩
theorem mark_range {ls : List Lk} (n : Nice ls) {ms : List Int} (mk : Marks ls ms) {k : Int} (h : k ∈ ms) : 0 ≤ k ∧ k ≤ wof ls := by
  obtain ⟨r, hr, e | e⟩ := mark_at mk h
  · have := row_b0 hr
    have := row_lt n hr
    have := row_e ls hr
    omega
  · have := row_b0 hr
    have := row_lt n hr
    have := row_e ls hr
    omega
theorem cts_sum {ls : List Lk} (n : Nice ls) {ms : List Int} (mk : Marks ls ms) : ((cts ls ms).map (·.2)).sum = wof ls := by
  unfold cts
  rw [List.map_map]
  cases ls with
  | nil =>
    have e : ms = [] := by
      cases ms with
      | nil => rfl
      | cons a r => exact absurd ((mk.mem a).mp List.mem_cons_self) (by simp [rows])
    subst e
    rfl
  | cons l0 r =>
    have z0 : (0 : Int) ∈ ms := by
      obtain ⟨k, hk⟩ := hts_get (l0 :: r) (i := 0) (by simp)
      obtain ⟨⟨m, s, c, w⟩, _⟩ := hts_at (ls := l0 :: r) (i := 0) rfl hk
      have e : m = [] := List.sublist_nil.mp s
      subst e
      have hr := rows_of (ls := l0 :: r) (i := 0) rfl hk
      have := mark_b mk hr
      rw [List.nil_append, wt_cons, wt_nil] at w
      have e0 : k - l0.2.2 = 0 := by omega
      simp only at this
      rw [e0] at this
      exact this
    have zw : wof (l0 :: r) ∈ ms := by
      rcases List.mem_cons.mp (mx_mem (hts (l0 :: r))) with e | h
      · have : wof (l0 :: r) = 0 := e
        rw [this]; exact z0
      · obtain ⟨i, hi⟩ := List.getElem?_of_mem h
        have il : i < (l0 :: r).length := by rw [← hts_len]; exact (List.getElem?_eq_some_iff.mp hi).1
        exact mark_e mk (rows_of (List.getElem?_eq_getElem il) hi)
    have t := tele ms 0 (wof (l0 :: r)) mk.up z0 zw (wof_nonneg _)
    have ef : (ms.zip (ms.drop 1)).filter (fun p => decide (0 ≤ p.1) && decide (p.2 ≤ wof (l0 :: r))) = ms.zip (ms.drop 1) := by
      rw [List.filter_eq_self]
      intro p hp
      obtain ⟨q1, q2⟩ := List.of_mem_zip hp
      have h1 := mark_range n mk q1
      have h2 := mark_range n mk (List.mem_of_mem_drop q2)
      simp [h1.1, h2.2]
    rw [ef] at t
    rw [show ((fun x : Cnt => x.2) ∘ fun p : Int × Int => ((((rows (l0 :: r)).filter fun r => decide (r.b ≤ p.1) && decide (p.2 ≤ r.e)).map (·.l), p.2 - p.1) : Cnt)) = fun p => p.2 - p.1 from rfl, t]
    omega
theorem mem_cnt {ls : List Lk} (n : Nice ls) {p : Int × Int} {r : Rw} (hr : r ∈ rows ls) : r.l ∈ ((rows ls).filter fun r => decide (r.b ≤ p.1) && decide (p.2 ≤ r.e)).map (·.l) ↔ (r.b ≤ p.1 ∧ p.2 ≤ r.e) := by
  rw [List.mem_map]
  constructor
  · rintro ⟨r', h, e⟩
    rw [List.mem_filter, Bool.and_eq_true, decide_eq_true_eq, decide_eq_true_eq] at h
    have := row_unique n.nd h.1 hr e
    subst this
    exact h.2
  · intro h
    exact ⟨r, List.mem_filter.mpr ⟨hr, by rw [Bool.and_eq_true, decide_eq_true_eq, decide_eq_true_eq]; exact h⟩, rfl⟩
theorem cts_ok {ls : List Lk} (n : Nice ls) {ms : List Int} (mk : Marks ls ms) : CtOk ls (cts ls ms) := by
  refine ⟨cts_sum n mk, fun l hl => ?_, fun k hk => ?_⟩
  · obtain ⟨r, hr, e⟩ := row_ex hl
    subst e
    obtain ⟨i, h1, h2, h3⟩ := mem_rows hr
    have t := tele ms r.b r.e mk.up (mark_b mk hr) (mark_e mk hr) (Int.le_of_lt (row_lt n hr))
    unfold over cts
    rw [List.filter_map, List.map_map]
    have ef : (ms.zip (ms.drop 1)).filter ((fun k : Cnt => decide (r.l ∈ k.1)) ∘ fun p : Int × Int => ((((rows ls).filter fun r => decide (r.b ≤ p.1) && decide (p.2 ≤ r.e)).map (·.l), p.2 - p.1) : Cnt)) = (ms.zip (ms.drop 1)).filter fun p => decide (r.b ≤ p.1) && decide (p.2 ≤ r.e) := by
      apply List.filter_congr
      intro p _
      show decide (r.l ∈ ((rows ls).filter fun r => decide (r.b ≤ p.1) && decide (p.2 ≤ r.e)).map (·.l)) = _
      rw [decide_eq_decide.mpr (mem_cnt n hr), Bool.decide_and]
    rw [ef]
    rw [show ((fun x : Cnt => x.2) ∘ fun p : Int × Int => ((((rows ls).filter fun r => decide (r.b ≤ p.1) && decide (p.2 ≤ r.e)).map (·.l), p.2 - p.1) : Cnt)) = fun p => p.2 - p.1 from rfl, t]
    omega
  · unfold cts at hk
    obtain ⟨p, hp, e⟩ := List.mem_map.mp hk
    subst e
    obtain ⟨c1, c2, c3, c4⟩ := consec mk.up hp
    refine ⟨?_, ?_, by show 1 ≤ p.2 - p.1; omega, fun l hl m hm => ?_⟩
    · have := (List.filter_sublist (l := rows ls) (p := fun r => decide (r.b ≤ p.1) && decide (p.2 ≤ r.e))).map (·.l)
      rw [rows_l] at this
      exact this
    · have hp0 := mark_range n mk c1
      have ex : ∃ r ∈ rows ls, r.e = p.2 := by
        obtain ⟨r, hr, e | e⟩ := mark_at mk c2
        · obtain ⟨r', hr', e'⟩ := row_from n hr (by omega)
          exact ⟨r', hr', by omega⟩
        · exact ⟨r, hr, e.symm⟩
      obtain ⟨r, hr, e⟩ := ex
      have lt := row_lt n hr
      have hb : r.b ≤ p.1 := by
        rcases c4 r.b (mark_b mk hr) with q | q
        · exact q
        · omega
      intro z
      have : r.l ∈ ([] : List Lk) := by
        rw [← z]
        exact (mem_cnt n hr).mpr ⟨hb, by omega⟩
      exact nomatch this
    · obtain ⟨r, hr, e⟩ := List.mem_map.mp hl
      obtain ⟨r', hr', e'⟩ := List.mem_map.mp hm
      rw [List.mem_filter, Bool.and_eq_true, decide_eq_true_eq, decide_eq_true_eq] at hr hr'
      cases hb : behind l m with
      | false => rfl
      | true =>
        subst e e'
        have := row_below n hr.1 hr'.1 hb
        omega
end L3
end

section
set_option Elab.async false
set_option linter.all false
set_option maxRecDepth 100000
set_option autoImplicit false
/-! Parts, cuts, what goes through a like; moved, scaled. -/
namespace L3
open PySem L2 PySem.W
def lx (a b : Lk) : Prop := a.1 < b.1 ∨ (a.1 = b.1 ∧ a.2.1 < b.2.1)
abbrev Srt (ls : List Lk) : Prop := ls.Pairwise lx
theorem nice_of {ls : List Lk} (s : Srt ls) (w : ∀ l ∈ ls, 1 ≤ l.2.2) : Nice ls where
  nd := s.imp fun h e => by
    subst e
    rcases h with h | h <;> omega
  ord := s.imp fun {a b} h => by
    cases q : behind b a with
    | false => rfl
    | true =>
      rw [behind_iff] at q
      rcases h with h | h <;> omega
  w := w
theorem Nice.sub {ls ms : List Lk} (n : Nice ls) (s : ms.Sublist ls) : Nice ms := ⟨n.nd.sublist s, n.ord.sublist s, fun l hl => n.w l (s.subset hl)⟩
/-! ### parts -/
def part (ls : List Lk) (i0 j0 i1 j1 : Int) : List Lk := ls.filter fun l => (decide (i0 ≤ l.1) && decide (l.1 < i1)) && (decide (j0 ≤ l.2.1) && decide (l.2.1 < j1))
theorem mem_part {ls : List Lk} {i0 j0 i1 j1 : Int} {l : Lk} : l ∈ part ls i0 j0 i1 j1 ↔ l ∈ ls ∧ (i0 ≤ l.1 ∧ l.1 < i1) ∧ (j0 ≤ l.2.1 ∧ l.2.1 < j1) := by
  unfold part
  rw [List.mem_filter, Bool.and_eq_true, Bool.and_eq_true, Bool.and_eq_true, decide_eq_true_eq, decide_eq_true_eq, decide_eq_true_eq, decide_eq_true_eq]
theorem part_sub (ls : List Lk) (i0 j0 i1 j1 : Int) : (part ls i0 j0 i1 j1).Sublist ls := List.filter_sublist
/-- two chains, one beyond the other -/
theorem join_ch {ls a b : List Lk} (n : Nice ls) (ha : IsCh ls a) (hb : IsCh ls b) (h : ∀ x ∈ a, ∀ y ∈ b, behind x y = true) : IsCh ls (a ++ b) := isCh_of n (ch_append.mpr ⟨ha.ch, hb.ch, h⟩) fun x hx => by
  rcases List.mem_append.mp hx with q | q
  · exact ha.mem x q
  · exact hb.mem x q
theorem IsCh.up {ls ms m : List Lk} (h : IsCh ms m) (s : ms.Sublist ls) : IsCh ls m := ⟨h.sub.trans s, h.ch⟩
theorem cut_join {ls : List Lk} (n : Nice ls) {a t n0 n1 : Int} {x y : List Lk} (hx : IsCh (part ls 0 0 a t) x) (hy : IsCh (part ls a t n0 n1) y) : IsCh ls (x ++ y) :=
  join_ch n (hx.up (part_sub ..)) (hy.up (part_sub ..)) fun u hu v hv => by
    have h1 := (mem_part.mp (hx.mem u hu)).2
    have h2 := (mem_part.mp (hy.mem v hv)).2
    rw [behind_iff]
    omega
theorem cut_le {ls : List Lk} (n : Nice ls) (a t n0 n1 : Int) : wof (part ls 0 0 a t) + wof (part ls a t n0 n1) ≤ wof ls := by
  obtain ⟨x, hx, wx⟩ := wof_ex (part ls 0 0 a t)
  obtain ⟨y, hy, wy⟩ := wof_ex (part ls a t n0 n1)
  have := wof_ge (cut_join n hx hy)
  rw [wt_append, wx, wy] at this
  exact this
theorem split_at {m : List Lk} (hc : Ch m) (a : Int) : ∃ x y, m = x ++ y ∧ (∀ u ∈ x, u.1 < a) ∧ ∀ v ∈ y, a ≤ v.1 := by
  induction m with
  | nil => exact ⟨[], [], rfl, (fun u hu => nomatch hu), fun v hv => nomatch hv⟩
  | cons l r ih =>
    obtain ⟨c1, c2⟩ := List.pairwise_cons.mp hc
    by_cases h : l.1 < a
    · obtain ⟨x, y, e, h1, h2⟩ := ih c2
      refine ⟨l :: x, y, by rw [e]; rfl, fun u hu => ?_, h2⟩
      rcases List.mem_cons.mp hu with q | q
      · rw [q]; exact h
      · exact h1 u q
    · refine ⟨[], l :: r, rfl, (fun u hu => nomatch hu), fun v hv => ?_⟩
      rcases List.mem_cons.mp hv with q | q
      · rw [q]; omega
      · have := (behind_iff.mp (c1 v q)).1
        omega
theorem cutEx {ls : List Lk} (n : Nice ls) {n0 n1 : Nat} (hr : ∀ l ∈ ls, 0 ≤ l.1 ∧ l.1 < n0 ∧ 0 ≤ l.2.1 ∧ l.2.1 < n1) (a : Int) : ∃ t : Nat, t ≤ n1 ∧ wof (part ls 0 0 a t) + wof (part ls a t n0 n1) = wof ls := by
  obtain ⟨m, hm, wm⟩ := wof_ex ls
  obtain ⟨x, y, e, h1, h2⟩ := split_at hm.ch a
  subst e
  obtain ⟨cx, cy, cxy⟩ := ch_append.mp hm.ch
  have hx : ∀ u ∈ x, u ∈ ls := fun u hu => hm.mem u (List.mem_append_left _ hu)
  have hy : ∀ v ∈ y, v ∈ ls := fun v hv => hm.mem v (List.mem_append_right _ hv)
  have ex : ∃ t : Nat, t ≤ n1 ∧ (∀ u ∈ x, u.2.1 < t) ∧ ∀ v ∈ y, (t : Int) ≤ v.2.1 := by
    cases y with
    | nil => exact ⟨n1, Nat.le_refl _, fun u hu => (hr u (hx u hu)).2.2.2, fun v hv => nomatch hv⟩
    | cons v r =>
      have rv := hr v (hy v List.mem_cons_self)
      refine ⟨v.2.1.toNat, by omega, fun u hu => ?_, fun z hz => ?_⟩
      · have := (behind_iff.mp (cxy u hu v List.mem_cons_self)).2
        omega
      · rcases List.mem_cons.mp hz with q | q
        · rw [q]; omega
        · have := (behind_iff.mp ((List.pairwise_cons.mp cy).1 z q)).2
          omega
  obtain ⟨t, ht, t1, t2⟩ := ex
  refine ⟨t, ht, ?_⟩
  have k1 := wof_ge (isCh_of (ls := part ls 0 0 a t) (n.sub (part_sub ..)) cx fun u hu => mem_part.mpr ⟨hx u hu, ⟨(hr u (hx u hu)).1, h1 u hu⟩, (hr u (hx u hu)).2.2.1, t1 u hu⟩)
  have k2 := wof_ge (isCh_of (ls := part ls a t n0 n1) (n.sub (part_sub ..)) cy fun v hv => mem_part.mpr ⟨hy v hv, ⟨h2 v hv, (hr v (hy v hv)).2.1⟩, t2 v hv, (hr v (hy v hv)).2.2.2⟩)
  have k3 := cut_le n a t n0 n1
  rw [wt_append] at wm
  omega
/-! ### through a like -/
def below (ls : List Lk) (l : Lk) : List Lk := ls.filter fun m => behind m l
def above (ls : List Lk) (l : Lk) : List Lk := ls.filter fun m => behind l m
theorem part_below {ls : List Lk} (h : ∀ l ∈ ls, 0 ≤ l.1 ∧ 0 ≤ l.2.1) (l : Lk) : part ls 0 0 l.1 l.2.1 = below ls l := by
  unfold part below
  apply List.filter_congr
  intro m hm
  obtain ⟨h1, h2⟩ := h m hm
  unfold behind
  rw [decide_eq_true h1, decide_eq_true h2, Bool.true_and, Bool.true_and]
theorem part_above {ls : List Lk} {n0 n1 : Int} (h : ∀ l ∈ ls, l.1 < n0 ∧ l.2.1 < n1) (l : Lk) : part ls (l.1 + 1) (l.2.1 + 1) n0 n1 = above ls l := by
  unfold part above
  apply List.filter_congr
  intro m hm
  obtain ⟨h1, h2⟩ := h m hm
  unfold behind
  rw [decide_eq_true h1, decide_eq_true h2, Bool.and_true, Bool.and_true]
  rfl
theorem hts_val {ls : List Lk} (n : Nice ls) {i : Nat} {l : Lk} {k : Int} (h1 : ls[i]? = some l) (h2 : (hts ls)[i]? = some k) : k = wof (below ls l) + l.2.2 := by
  obtain ⟨⟨m, s, c, w⟩, up⟩ := hts_at h1 h2
  obtain ⟨m2, g2, w2⟩ := wof_ex (below ls l)
  have hm := List.mem_of_getElem? h1
  have a1 : wt m ≤ wof (below ls l) := wof_ge (isCh_of (n.sub List.filter_sublist) (ch_append.mp c).1 fun x hx => List.mem_filter.mpr ⟨List.mem_of_mem_take (s.subset hx), (ch_append.mp c).2.2 x hx l (by simp)⟩)
  have bl : ∀ x ∈ m2, x ∈ ls ∧ behind x l = true := fun x hx => by
    have := g2.mem x hx
    unfold below at this
    rw [List.mem_filter] at this
    exact this
  have c2 : Ch (m2 ++ [l]) := ch_append.mpr ⟨g2.ch, List.pairwise_singleton _ _, fun x hx y hy => by rw [List.mem_singleton.mp hy]; exact (bl x hx).2⟩
  have s2 : IsCh ls (m2 ++ [l]) := isCh_of n c2 fun x hx => by
    rcases List.mem_append.mp hx with q | q
    · exact (bl x q).1
    · rw [List.mem_singleton.mp q]; exact hm
  obtain ⟨j, g1, s3⟩ := sub_last s2.sub
  have ij : j = i := by
    obtain ⟨a, a'⟩ := List.getElem?_eq_some_iff.mp h1
    obtain ⟨b, b'⟩ := List.getElem?_eq_some_iff.mp g1
    exact (List.getElem_inj n.nd (h₀ := b) (h₁ := a)).mp (b'.trans a'.symm)
  subst ij
  have a2 := up m2 s3 c2
  rw [wt_append, wt_cons, wt_nil] at w a2
  omega
theorem dps_val {ls : List Lk} (n : Nice ls) {l : Lk} {k : Int} (h : (l, k) ∈ ls.zip (dps ls)) : k = l.2.2 + wof (above ls l) := by
  have q := dps_max n h
  simp only at q
  obtain ⟨⟨m, c, s, w⟩, up⟩ := q
  obtain ⟨m2, g2, w2⟩ := wof_ex (above ls l)
  have a1 : wt m ≤ wof (above ls l) := wof_ge (isCh_of (n.sub List.filter_sublist) (List.pairwise_cons.mp c).2 fun x hx => List.mem_filter.mpr ⟨s x hx, (List.pairwise_cons.mp c).1 x hx⟩)
  have bl : ∀ x ∈ m2, x ∈ ls ∧ behind l x = true := fun x hx => by
    have := g2.mem x hx
    unfold above at this
    rw [List.mem_filter] at this
    exact this
  have a2 := up m2 (List.pairwise_cons.mpr ⟨fun x hx => (bl x hx).2, g2.ch⟩) fun x hx => (bl x hx).1
  rw [wt_cons] at w a2
  omega
theorem thr_at {ls : List Lk} {i : Nat} {n : Int} (h : (thr ls)[i]? = some n) : ∃ l u d, ls[i]? = some l ∧ (hts ls)[i]? = some u ∧ (dps ls)[i]? = some d ∧ n = u + d - l.2.2 := by
  unfold thr at h
  rw [List.getElem?_map] at h
  obtain ⟨⟨l, u, d⟩, hp, e⟩ := Option.map_eq_some_iff.mp h
  rw [List.getElem?_zip_eq_some, List.getElem?_zip_eq_some] at hp
  exact ⟨l, u, d, hp.1, hp.2.1, hp.2.2, e.symm⟩
theorem thr_val {ls : List Lk} (n : Nice ls) {i : Nat} {l : Lk} {k : Int} (h1 : ls[i]? = some l) (h2 : (thr ls)[i]? = some k) : k = wof (below ls l) + l.2.2 + wof (above ls l) := by
  obtain ⟨l', u, d, g1, g2, g3, e⟩ := thr_at h2
  rw [h1] at g1
  cases g1
  have hu := hts_val n h1 g2
  have hd := dps_val n (List.mem_of_getElem? (i := i) (by rw [List.getElem?_zip_eq_some]; exact ⟨h1, g3⟩))
  omega
/-- the greatest weight of a chain that has l -/
theorem thr_max {ls : List Lk} (n : Nice ls) {l : Lk} (hl : l ∈ ls) : (∃ m, IsCh ls m ∧ l ∈ m ∧ wt m = wof (below ls l) + l.2.2 + wof (above ls l)) ∧ ∀ m, IsCh ls m → l ∈ m → wt m ≤ wof (below ls l) + l.2.2 + wof (above ls l) := by
  constructor
  · obtain ⟨x, gx, wx⟩ := wof_ex (below ls l)
    obtain ⟨y, gy, wy⟩ := wof_ex (above ls l)
    have bx : ∀ u ∈ x, u ∈ ls ∧ behind u l = true := fun u hu => by
      have := gx.mem u hu
      unfold below at this
      rw [List.mem_filter] at this
      exact this
    have by' : ∀ u ∈ y, u ∈ ls ∧ behind l u = true := fun u hu => by
      have := gy.mem u hu
      unfold above at this
      rw [List.mem_filter] at this
      exact this
    refine ⟨x ++ l :: y, isCh_of n (ch_append.mpr ⟨gx.ch, List.pairwise_cons.mpr ⟨fun u hu => (by' u hu).2, gy.ch⟩, fun u hu v hv => ?_⟩) fun u hu => ?_, by simp, ?_⟩
    · rcases List.mem_cons.mp hv with q | q
      · rw [q]; exact (bx u hu).2
      · exact behind_trans (bx u hu).2 (by' v q).2
    · rcases List.mem_append.mp hu with q | q
      · exact (bx u q).1
      · rcases List.mem_cons.mp q with e | q
        · rw [e]; exact hl
        · exact (by' u q).1
    · rw [wt_append, wt_cons, wx, wy]
      omega
  · intro m hm hlm
    obtain ⟨a, b, e⟩ := List.append_of_mem hlm
    subst e
    obtain ⟨ca, cb, cab⟩ := ch_append.mp hm.ch
    obtain ⟨cb1, cb2⟩ := List.pairwise_cons.mp cb
    have k1 := wof_ge (isCh_of (ls := below ls l) (n.sub List.filter_sublist) ca fun u hu => List.mem_filter.mpr ⟨hm.mem u (by simp [hu]), cab u hu l (by simp)⟩)
    have k2 := wof_ge (isCh_of (ls := above ls l) (n.sub List.filter_sublist) cb2 fun u hu => List.mem_filter.mpr ⟨hm.mem u (by simp [hu]), cb1 u hu⟩)
    rw [wt_append, wt_cons]
    omega
/-! ### in which of the best -/
def topOf (ls : List Lk) : List (List Lk) := (mts ls).filter fun m => decide (wt m = wof ls)
theorem mem_top {ls m : List Lk} : m ∈ topOf ls ↔ IsCh ls m ∧ wt m = wof ls := by
  unfold topOf
  rw [List.mem_filter, mts_mem, decide_eq_true_eq]
theorem top_ne (ls : List Lk) : topOf ls ≠ [] := by
  obtain ⟨m, h, w⟩ := wof_ex ls
  intro z
  have := mem_top.mpr ⟨h, w⟩
  rw [z] at this
  exact nomatch this
theorem mem_without {ls : List Lk} (nd : ls.Nodup) {k : Nat} {l x : Lk} (h : ls[k]? = some l) : x ∈ ls.take k ++ ls.drop (k + 1) ↔ x ∈ ls ∧ x ≠ l := by
  obtain ⟨hk, hl⟩ := List.getElem?_eq_some_iff.mp h
  have spl : ls = ls.take k ++ (l :: ls.drop (k + 1)) := by
    have e := List.drop_eq_getElem_cons hk
    rw [hl] at e
    rw [← e, List.take_append_drop]
  have nd' := nd
  rw [spl, List.nodup_append] at nd'
  obtain ⟨n1, n2, n3⟩ := nd'
  rw [List.nodup_cons] at n2
  constructor
  · intro hx
    rcases List.mem_append.mp hx with q | q
    · exact ⟨List.mem_of_mem_take q, fun e => n3 x q l List.mem_cons_self e⟩
    · exact ⟨List.mem_of_mem_drop q, fun e => n2.1 (e ▸ q)⟩
  · rintro ⟨hx, ne⟩
    rw [spl] at hx
    rcases List.mem_append.mp hx with q | q
    · exact List.mem_append_left _ q
    · rcases List.mem_cons.mp q with e | q
      · exact absurd e ne
      · exact List.mem_append_right _ q
theorem without_sub (ls : List Lk) (k : Nat) : (ls.take k ++ ls.drop (k + 1)).Sublist ls := by
  have h : (ls.drop (k + 1)).Sublist (ls.drop k) := by
    rw [show k + 1 = k + 1 from rfl, ← List.drop_drop]
    exact List.drop_sublist _ _
  have := (List.Sublist.refl (ls.take k)).append h
  rw [List.take_append_drop] at this
  exact this
theorem sort_word {ls : List Lk} (n : Nice ls) {k : Nat} {l : Lk} {t : Int} (h1 : ls[k]? = some l) (h2 : (thr ls)[k]? = some t) :
    sortOf ls k t = if ((topOf ls).filter fun m => decide (l ∈ m)).length = (topOf ls).length then ("always" : Str) else if ((topOf ls).filter fun m => decide (l ∈ m)).length = 0 then ("never" : Str) else ("at times" : Str) := by
  have hl := List.mem_of_getElem? h1
  have hv := thr_val n h1 h2
  obtain ⟨⟨m0, g0, l0, w0⟩, up⟩ := thr_max n hl
  rw [← hv] at w0 up
  have tw : t ≤ wof ls := by have := wof_ge g0; omega
  have pos : 0 < (topOf ls).length := List.length_pos_iff.mpr (top_ne ls)
  unfold sortOf
  by_cases c1 : t < wof ls
  · rw [if_pos c1]
    have z : ((topOf ls).filter fun m => decide (l ∈ m)) = [] := by
      rw [List.filter_eq_nil_iff]
      intro m hm
      obtain ⟨a, b⟩ := mem_top.mp hm
      rw [decide_eq_true_eq]
      intro hlm
      have := up m a hlm
      omega
    rw [z, if_neg (by show ¬ 0 = _; omega), if_pos List.length_nil]
  · rw [if_neg c1]
    have et : t = wof ls := by omega
    have m0t : m0 ∈ topOf ls := mem_top.mpr ⟨g0, by omega⟩
    have nz : ((topOf ls).filter fun m => decide (l ∈ m)).length ≠ 0 := by
      have : m0 ∈ (topOf ls).filter fun m => decide (l ∈ m) := List.mem_filter.mpr ⟨m0t, decide_eq_true l0⟩
      have := List.length_pos_of_mem this
      omega
    by_cases c2 : wof (ls.take k ++ ls.drop (k + 1)) = t
    · rw [if_pos c2]
      obtain ⟨m1, g1, w1⟩ := wof_ex (ls.take k ++ ls.drop (k + 1))
      have m1t : m1 ∈ topOf ls := mem_top.mpr ⟨g1.up (without_sub ls k), by omega⟩
      have nl : l ∉ m1 := fun z => ((mem_without n.nd h1).mp (g1.mem l z)).2 rfl
      have lt : ((topOf ls).filter fun m => decide (l ∈ m)).length ≠ (topOf ls).length := fun z => by
        have := List.filter_sublist (l := topOf ls) (p := fun m => decide (l ∈ m))
        have e := this.eq_of_length z
        rw [← e] at m1t
        have := (List.mem_filter.mp m1t).2
        rw [decide_eq_true_eq] at this
        exact nl this
      rw [if_neg lt, if_neg nz]
    · rw [if_neg c2]
      have all : ((topOf ls).filter fun m => decide (l ∈ m)) = topOf ls := by
        rw [List.filter_eq_self]
        intro m hm
        obtain ⟨a, b⟩ := mem_top.mp hm
        rw [decide_eq_true_eq]
        by_cases hlm : l ∈ m
        · exact hlm
        · exfalso
          have s : IsCh (ls.take k ++ ls.drop (k + 1)) m := isCh_of (n.sub (without_sub ls k)) a.ch fun x hx => (mem_without n.nd h1).mpr ⟨a.mem x hx, fun e => hlm (e ▸ hx)⟩
          have k1 := wof_ge s
          obtain ⟨m2, g2, w2⟩ := wof_ex (ls.take k ++ ls.drop (k + 1))
          have k2 := wof_ge (g2.up (without_sub ls k))
          omega
      rw [all, if_pos rfl]
/-! ### the first and the last of the best -/
theorem told_min {ls m : List Lk} (h : Told true ls m) {c : List Lk} {cs : List (List Lk)} (e : topOf ls = c :: cs) : PySem.W.minD (eLs c) (cs.map eLs) = eLs m := by
  obtain ⟨b1, b2⟩ := minD_best (eLs c) (cs.map eLs)
  have b1' : PySem.W.minD (eLs c) (cs.map eLs) ∈ (topOf ls).map eLs := by rw [e]; exact b1
  obtain ⟨m1, hm1, e1⟩ := List.mem_map.mp b1'
  obtain ⟨g1, w1⟩ := mem_top.mp hm1
  have hm : eLs m ∈ eLs c :: cs.map eLs := by
    have : eLs m ∈ (topOf ls).map eLs := List.mem_map_of_mem (mem_top.mpr ⟨h.ch, h.w⟩)
    rw [e] at this
    exact this
  have k2 := b2 _ hm
  rw [← e1] at k2
  rw [← e1, nearest_unique (f := true) (h.best m1 g1 w1) k2]
theorem told_max {ls m : List Lk} (h : Told false ls m) {c : List Lk} {cs : List (List Lk)} (e : topOf ls = c :: cs) : PySem.W.maxD (eLs c) (cs.map eLs) = eLs m := by
  obtain ⟨b1, b2⟩ := maxD_best (eLs c) (cs.map eLs)
  have b1' : PySem.W.maxD (eLs c) (cs.map eLs) ∈ (topOf ls).map eLs := by rw [e]; exact b1
  obtain ⟨m1, hm1, e1⟩ := List.mem_map.mp b1'
  obtain ⟨g1, w1⟩ := mem_top.mp hm1
  have hm : eLs m ∈ eLs c :: cs.map eLs := by
    have : eLs m ∈ (topOf ls).map eLs := List.mem_map_of_mem (mem_top.mpr ⟨h.ch, h.w⟩)
    rw [e] at this
    exact this
  have k2 := b2 _ hm
  rw [← e1] at k2
  rw [← e1, nearest_unique (f := false) (h.best m1 g1 w1) k2]
/-! ### moved and scaled -/
section
variable (f : Lk → Lk) (hb : ∀ a b, behind (f a) (f b) = behind a b)
include hb
theorem zip_map_l {β : Type} (ls : List Lk) (ns : List β) : (ls.map f).zip ns = (ls.zip ns).map fun p => (f p.1, p.2) := by
  rw [← List.map_id ns, List.zip_map, List.map_id]
  rfl
end
section
variable (f : Lk → Lk) (c : Int) (hc : 0 ≤ c) (hb : ∀ a b, behind (f a) (f b) = behind a b) (hw : ∀ a, (f a).2.2 = c * a.2.2)
include hc hb hw
omit hb hw in
theorem mx_scale : ∀ xs : List Int, mx (xs.map (c * ·)) = c * mx xs
  | [] => (Int.mul_zero c).symm
  | x :: r => by
    show max (c * x) (mx (r.map (c * ·))) = c * max x (mx r)
    rw [mx_scale r]
    rcases Int.le_total x (mx r) with h | h
    · rw [Int.max_eq_right h, Int.max_eq_right (Int.mul_le_mul_of_nonneg_left h hc)]
    · rw [Int.max_eq_left h, Int.max_eq_left (Int.mul_le_mul_of_nonneg_left h hc)]
theorem hstep_map (ls : List Lk) (found : List Int) (l : Lk) : hstep (ls.map f) (found.map (c * ·)) (f l) = c * hstep ls found l := by
  unfold hstep
  have e : (((ls.map f).zip (found.map (c * ·))).filter fun p => behind p.1 (f l)).map (·.2) = (((ls.zip found).filter fun p => behind p.1 l).map (·.2)).map (c * ·) := by
    rw [List.zip_map, List.filter_map, List.map_map, List.map_map]
    congr 1
    apply List.filter_congr
    intro p _
    exact hb p.1 l
  rw [e, mx_scale c hc, hw, Int.mul_add]
theorem htsF_map (ls : List Lk) : ∀ (r : List Lk) (found : List Int), htsF (ls.map f) (r.map f) (found.map (c * ·)) = (htsF ls r found).map (c * ·)
  | [], _ => rfl
  | l :: r, found => by
    show htsF (ls.map f) (r.map f) (found.map (c * ·) ++ [hstep (ls.map f) (found.map (c * ·)) (f l)]) = _
    rw [hstep_map f c hc hb hw]
    have := htsF_map ls r (found ++ [hstep ls found l])
    rw [List.map_append] at this
    exact this
theorem hts_map (ls : List Lk) : hts (ls.map f) = (hts ls).map (c * ·) := htsF_map f c hc hb hw ls ls []
theorem wof_map (ls : List Lk) : wof (ls.map f) = c * wof ls := by
  unfold wof
  rw [hts_map f c hc hb hw, mx_scale c hc]
theorem dpsF_map : ∀ (r : List Lk) (acc : List (Lk × Int)), dpsF (r.map f) (acc.map fun p => (f p.1, c * p.2)) = (dpsF r acc).map fun p => (f p.1, c * p.2)
  | [], _ => rfl
  | l :: r, acc => by
    show dpsF (r.map f) (acc.map (fun p => (f p.1, c * p.2)) ++ [(f l, dstep (acc.map fun p => (f p.1, c * p.2)) (f l))]) = _
    have e : dstep (acc.map fun p => (f p.1, c * p.2)) (f l) = c * dstep acc l := by
      unfold dstep
      have e1 : ((acc.map fun p => (f p.1, c * p.2)).filter fun p => behind (f l) p.1).map (·.2) = ((acc.filter fun p => behind l p.1).map (·.2)).map (c * ·) := by
        rw [List.filter_map, List.map_map, List.map_map]
        congr 1
        apply List.filter_congr
        intro p _
        exact hb l p.1
      rw [e1, mx_scale c hc, hw, Int.mul_add]
    rw [e]
    have := dpsF_map r (acc ++ [(l, dstep acc l)])
    rw [List.map_append] at this
    exact this
theorem dps_map (ls : List Lk) : dps (ls.map f) = (dps ls).map (c * ·) := by
  unfold dps dpsE
  have e : (ls.map f).reverse = ls.reverse.map f := List.map_reverse.symm
  have := dpsF_map f c hc hb hw ls.reverse []
  rw [List.map_nil] at this
  rw [e, this, List.map_map, List.map_reverse, List.map_map]
  rfl
theorem thr_map (ls : List Lk) : thr (ls.map f) = (thr ls).map (c * ·) := by
  unfold thr
  rw [hts_map f c hc hb hw, dps_map f c hc hb hw, List.zip_map, List.zip_map, List.map_map, List.map_map]
  apply List.map_congr_left
  intro p _
  show c * p.2.1 + c * p.2.2 - (f p.1).2.2 = c * (p.2.1 + p.2.2 - p.1.2.2)
  rw [hw, Int.mul_sub, Int.mul_add]
end
theorem srts_map (f : Lk → Lk) (hb : ∀ a b, behind (f a) (f b) = behind a b) (hw : ∀ a, (f a).2.2 = a.2.2) (ls : List Lk) : srts (ls.map f) = srts ls := by
  have hw1 : ∀ a, (f a).2.2 = 1 * a.2.2 := fun a => by rw [hw, Int.one_mul]
  have w1 : ∀ l, wof (l.map f) = wof l := fun l => by rw [wof_map f 1 (by decide) hb hw1, Int.one_mul]
  unfold srts
  rw [thr_map f 1 (by decide) hb hw1]
  have e : (thr ls).map (1 * ·) = thr ls := by
    have : (fun x : Int => 1 * x) = id := by funext x; exact Int.one_mul x
    rw [this, List.map_id]
  rw [e]
  apply List.map_congr_left
  intro p _
  unfold sortOf
  rw [w1, ← List.map_take, ← List.map_drop, ← List.map_append, w1]
/-! ### weak duality: chains against counts -/
theorem cover_le {ls : List Lk} {m : List Lk} (hc : Ch m) (q : Lk → Bool) (hq : ∀ l ∈ m, q l = true) : ∀ ks : List Cnt, (∀ k ∈ ks, 0 ≤ k.2 ∧ ∀ l ∈ k.1, ∀ x ∈ k.1, behind l x = false) →
    (m.map (over ks)).sum ≤ ((ks.filter fun k => k.1.any q).map (·.2)).sum
  | [], _ => by
    have e : m.map (over []) = m.map fun _ => (0 : Int) := rfl
    rw [e]
    clear hc hq e
    induction m with
    | nil => exact Int.le_refl _
    | cons a r ih => rw [List.map_cons, List.sum_cons]; show 0 + _ ≤ _; omega
  | k :: ks, h => by
    have ih := cover_le (ls := ls) hc q hq ks fun k' hk => h k' (List.mem_cons_of_mem _ hk)
    obtain ⟨k0, ka⟩ := h k List.mem_cons_self
    -- how often k counts along the chain: at most once
    have one : ∀ m : List Lk, Ch m → (∀ l ∈ m, q l = true) → (m.map (over (k :: ks))).sum ≤ (m.map (over ks)).sum + (if k.1.any q then k.2 else 0) ∧ ((∀ l ∈ m, l ∉ k.1) → (m.map (over (k :: ks))).sum = (m.map (over ks)).sum) := by
      intro m
      induction m with
      | nil =>
        intro _ _
        refine ⟨?_, fun _ => rfl⟩
        show (0 : Int) ≤ 0 + _
        split <;> omega
      | cons a r ihm =>
        intro hc hq
        obtain ⟨c1, c2⟩ := List.pairwise_cons.mp hc
        obtain ⟨i1, i2⟩ := ihm c2 fun l hl => hq l (List.mem_cons_of_mem _ hl)
        have ov : over (k :: ks) a = (if a ∈ k.1 then k.2 else 0) + over ks a := by
          unfold over
          rw [List.filter_cons]
          by_cases hak : a ∈ k.1
          · rw [if_pos (by rw [decide_eq_true hak]), if_pos hak, List.map_cons, List.sum_cons]
          · rw [if_neg (by rw [decide_eq_false hak]; exact Bool.false_ne_true), if_neg hak]; omega
        rw [List.map_cons, List.sum_cons, List.map_cons, List.sum_cons, ov]
        by_cases hak : a ∈ k.1
        · have any : k.1.any q = true := List.any_eq_true.mpr ⟨a, hak, hq a List.mem_cons_self⟩
          have none : ∀ l ∈ r, l ∉ k.1 := fun l hl z => by
            have := c1 l hl
            rw [ka a hak l z] at this
            cases this
          have e := i2 none
          rw [if_pos hak, e, any, if_pos rfl]
          refine ⟨by omega, fun z => absurd hak (z a List.mem_cons_self)⟩
        · rw [if_neg hak]
          refine ⟨by omega, fun z => ?_⟩
          have := i2 fun l hl => z l (List.mem_cons_of_mem _ hl)
          omega
    have := (one m hc hq).1
    rw [List.filter_cons]
    by_cases any : k.1.any q = true
    · rw [if_pos any] at this ⊢
      rw [List.map_cons, List.sum_cons]
      omega
    · rw [if_neg any] at this ⊢
      omega
theorem part_le {ls : List Lk} {ks : List Cnt} (h : CtOk ls ks) {ps : List Lk} (s : ps.Sublist ls) : wof ps ≤ ((ks.filter fun k => k.1.any fun l => decide (l ∈ ps)).map (·.2)).sum := by
  obtain ⟨m, g, w⟩ := wof_ex ps
  have c := cover_le (ls := ls) g.ch (fun l => decide (l ∈ ps)) (fun l hl => decide_eq_true (g.mem l hl)) ks fun k hk => ⟨by have := (h.each k hk).2.2.1; omega, (h.each k hk).2.2.2⟩
  have e : m.map (over ks) = m.map (·.2.2) := List.map_congr_left fun l hl => h.cov l (s.subset (g.mem l hl))
  rw [e] at c
  unfold wt at w
  omega
end L3
end

section
set_option Elab.async false
set_option linter.all false
set_option maxRecDepth 100000
set_option autoImplicit false
/-! The law's own defs. -/
namespace L3
open PySem L2
structure Dr (c : Cores) (ls : List Lk) : Prop where
  gc : GoodC c
  each : ∀ l ∈ ls, GoodL c l
  srt : Srt ls
  le : ls.length ≤ 9
  w9 : ∀ l ∈ ls, l.2.2 ≤ 9
theorem lexLt2 (a b c d : Int) : HT.lexLt [a, b] [c, d] = true ↔ a < c ∨ (a = c ∧ b < d) := by
  rw [HT.lexLt_cons, HT.lexLt_cons, HT.lexLt_nil_nil]
  by_cases h1 : a = c
  · rw [if_pos h1]
    by_cases h2 : b = d
    · rw [if_pos h2]
      constructor
      · intro h; cases h
      · intro h; omega
    · rw [if_neg h2, decide_eq_true_eq]
      omega
  · rw [if_neg h1, decide_eq_true_eq]
    omega
theorem asc_of {α : Type} (e : α → List Int) : ∀ ls : List α, ls.Pairwise (fun a b => HT.lexLt (e a) (e b) = true) → asc (ls.map e) = true
  | [], _ => rfl
  | [a], _ => rfl
  | a :: b :: r, h => by
    obtain ⟨h1, h2⟩ := List.pairwise_cons.mp h
    show (HT.lexLt (e a) (e b) && asc ((b :: r).map e)) = true
    rw [h1 b List.mem_cons_self, asc_of e (b :: r) h2]
    rfl
theorem asc_ij {ls : List Lk} (s : Srt ls) : asc (ls.map fun l => [l.1, l.2.1]) = true := asc_of _ ls (s.imp fun {a b} h => (lexLt2 _ _ _ _).mpr h)
theorem asc_ijw {ls : List Lk} (s : Srt ls) : asc (ls.map fun l => [l.1, l.2.1, l.2.2]) = true := asc_of _ ls (s.imp fun {a b} h => by
  rw [HT.lexLt_cons, HT.lexLt_cons]
  rcases h with h | ⟨h1, h2⟩
  · rw [if_neg (by omega), decide_eq_true_eq]; exact h
  · rw [if_pos h1, if_neg (by omega), decide_eq_true_eq]; exact h2)
section
variable {c : Cores} {ls : List Lk}
theorem Dr.nice (d : Dr c ls) : Nice ls := nice_of d.srt fun l hl => (d.each l hl).w0
theorem Dr.good (d : Dr c ls) : GoodLs c ls := ⟨by have := d.le; omega, d.each, asc_ij d.srt⟩
theorem Dr.sub {ms : List Lk} (d : Dr c ls) (s : ms.Sublist ls) : Dr c ms := ⟨d.gc, fun l hl => d.each l (s.subset hl), d.srt.sublist s, Nat.le_trans s.length_le d.le, fun l hl => d.w9 l (s.subset hl)⟩
theorem Dr.range (d : Dr c ls) : ∀ l ∈ ls, 0 ≤ l.1 ∧ l.1 < (c.1.length : Nat) ∧ 0 ≤ l.2.1 ∧ l.2.1 < (c.2.length : Nat) := fun l hl => by
  obtain ⟨a, b, e, f, _, _⟩ := d.each l hl
  omega
end
theorem adj_all {m : List Lk} (h : Ch m) : ((m.zip (m.drop 1)).all fun p => behind p.1 p.2) = true := by
  rw [List.all_eq_true]
  intro p hp
  obtain ⟨i, hi⟩ := List.getElem?_of_mem hp
  rw [List.getElem?_zip_eq_some, List.getElem?_drop] at hi
  obtain ⟨a, a'⟩ := List.getElem?_eq_some_iff.mp hi.1
  obtain ⟨b, b'⟩ := List.getElem?_eq_some_iff.mp hi.2
  have := List.pairwise_iff_getElem.mp h i (1 + i) a b (by omega)
  rw [a', b'] at this
  exact this
theorem ag_one (x l : Lk) : ag [x] l = behind x l := rfl
theorem dep_eLs (m : List Lk) : (eLs m).depth ≤ 2 := by
  show PyData.depthAll (m.map eL) + 1 ≤ 2
  have := dep_map eL 1 (fun _ => Nat.le_refl _) m
  omega
theorem can_eLs (m : List Lk) : (eLs m).canLay0 = true := can_map eL (fun _ => rfl) m
theorem alike_eLs : ∀ a b : List Lk, PySem.W.alike (eLs a) (eLs b) = true := fun a b => by
  show PySem.W.alikeAll (a.map eL) (b.map eL) = true
  induction a generalizing b with
  | nil => cases b <;> rfl
  | cons x r ih =>
    cases b with
    | nil => rfl
    | cons y t =>
      show (PySem.W.alike (eL x) (eL y) && PySem.W.alikeAll (r.map eL) (t.map eL)) = true
      rw [ih t]
      rfl
theorem alikeAll_eLs (ms : List (List Lk)) : PySem.W.AlikeAll (ms.map eLs) := by
  refine ⟨fun x hx y hy => ?_, fun x hx => ?_⟩
  · obtain ⟨l, _, e⟩ := List.mem_map.mp hx
    obtain ⟨m, _, e'⟩ := List.mem_map.mp hy
    subst e e'
    exact alike_eLs l m
  · obtain ⟨l, _, e⟩ := List.mem_map.mp hx
    subst e
    exact fun z => nomatch z
theorem eqv_eLs (a b : List Lk) : PyData.eqv (eLs a) (eLs b) = decide (a = b) := by
  show PyData.eqvAll (a.map eL) (b.map eL) = _
  induction a generalizing b with
  | nil => cases b <;> simp [PyData.eqvAll]
  | cons x r ih =>
    cases b with
    | nil => simp [PyData.eqvAll]
    | cons y t =>
      rw [List.map_cons, List.map_cons]
      show (PyData.eqv (eL x) (eL y) && PyData.eqvAll (r.map eL) (t.map eL)) = _
      rw [ih t, eqv_eL]
      by_cases h1 : x = y <;> by_cases h2 : r = t <;> simp [h1, h2]
theorem in_mts (m : List Lk) (ms : List (List Lk)) : ((ms.map eLs).any fun z => PyData.eqv z (eLs m)) = decide (m ∈ ms) := by
  rw [List.any_map]
  induction ms with
  | nil => simp
  | cons a r ih =>
    rw [List.any_cons, ih]
    show (PyData.eqv (eLs a) (eLs m) || _) = _
    rw [eqv_eLs]
    by_cases h : a = m
    · simp [h]
    · have h' : m ≠ a := fun z => h z.symm
      simp [h, h']
theorem sh_sort (ls : List Lk) (k : Nat) (n : Int) : SeqAt.shaped (.str (sortOf ls k n)) = true := by
  unfold sortOf
  split
  · decide +kernel
  · split <;> decide +kernel
theorem sh_ms (ms : List (List Lk)) : SeqAt.shaped (.list (ms.map eLs)) = true := sh_lst (can_map eLs can_eLs ms) (Nat.le_trans (dep_map eLs 2 dep_eLs ms) (by decide))
theorem mts_len {ls : List Lk} (h : ls.length ≤ 9) : (mts ls).length ≤ 512 := by
  refine Nat.le_trans (mtsF_len _ _) ?_
  rw [List.length_singleton, Nat.one_mul]
  exact Nat.le_trans (Nat.pow_le_pow_right (by decide) h) (by decide)
/-! promises -/
def rAgrees : List PyData → PyData → Prop := R2' fun a b d => ∃ m l, a = eLs m ∧ b = eL l ∧ m.length ≤ 60 ∧ d = .bool (ag m l)
def rWeight : List PyData → PyData → Prop := R1 fun a d => ∃ m, a = eLs m ∧ m.length ≤ 60 ∧ d = .int (wt m)
def rPart : List PyData → PyData → Prop := R3' fun a b e d => ∃ ls i0 j0 i1 j1, a = eLs ls ∧ b = .tuple [.int i0, .int j0] ∧ e = .tuple [.int i1, .int j1] ∧ ls.length ≤ 60 ∧ d = eLs (part ls i0 j0 i1 j1)
def rMatches : List PyData → PyData → Prop := R1 fun a d => ∃ ls, a = eLs ls ∧ ls.length ≤ 9 ∧ d = .list ((mts ls).map eLs)
def rCuts : List PyData → PyData → Prop := R3' fun a b e d => ∃ c ls, a = eC c ∧ b = eLs ls ∧ e = .int (wof ls) ∧ Dr c ls ∧ d = .bool true
def rLikesRight : List PyData → PyData → Prop := R4' fun a b e g d => ∃ c ls, a = eC c ∧ b = eLs ls ∧ e = .int (wof ls) ∧ g = .list ((mts ls).map eLs) ∧ Dr c ls ∧ d = .bool true
def rCountsRight : List PyData → PyData → Prop := R4' fun a b e g d => ∃ c ls ks, a = eC c ∧ b = eLs ls ∧ e = eK ks ∧ g = .int (wof ls) ∧ Dr c ls ∧ CtOk ls ks ∧ ks.length ≤ 1000 ∧ d = .bool true
end L3
end

section
set_option Elab.async false
set_option linter.all false
set_option maxRecDepth 100000
set_option maxHeartbeats 1000000
set_option autoImplicit false
namespace L3
open PySem L2
section
variable {Pr : Program} {w : World} {K : PySem.W.Frag} {mg : Str → Option Value} {base : Heap}
theorem ok__law_agrees (T : Fx K mg) : Ok Pr w K mg base "_law_agrees" 1 ["match", "like"] (spD K rAgrees) := by
  obtain ⟨f, fd, F, b, g⟩ := T.f__law_agrees
  refine ⟨f, fd, g, F.kp, b, fn_ok F sc__law_agrees (fun xs d h => by obtain ⟨_, _, rfl, _⟩ := h; rfl) (fun cdv A outer s H E hr => ⟨_, (pss_one (ps_ret (pe_or (pe_cmpR (ko_eq K (u64 hr)) (pv 0) (pe_tup pa_nil) (nomark _)) (pe_one (pe_and (pe_cmpR (ko_lt K (u0 hr)) (pe_ix (ki_seq K) (pe_ix (ki_seq K) (pv 0) (pe_un un_neg pe_int) (fun _ _ => rfl)) pe_int (fun _ _ => rfl)) (pe_ix (ki_seq K) (pv 1) pe_int (fun _ _ => rfl)) (nomark _)) (pe_one (pe_cmpR (ko_lt K (u0 hr)) (pe_ix (ki_seq K) (pe_ix (ki_seq K) (pv 0) (pe_un un_neg pe_int) (fun _ _ => rfl)) pe_int (fun _ _ => rfl)) (pe_ix (ki_seq K) (pv 1) pe_int (fun _ _ => rfl)) (nomark _)))))))), fun xs d hR => ?_⟩)⟩
  obtain ⟨a0, a1, rfl, hR⟩ := hR
  obtain ⟨m, l, rfl, rfl, hl, rfl⟩ := hR
  rcases nil_or_snoc m with e | ⟨m', x, e⟩
  · subst e
    exact sx_ret (ev_is (ev_orV (b := true) (ev_op (ev_var rfl) (ev_tup ea_nil (by decide)) (rd_eq (sh_eLs []) rfl)) fun h => nomatch h) rfl) rfl
  · have ea : ag m l = behind x l := by
      rw [e]
      unfold ag
      rw [List.getLast?_concat]
    have ef : PyData.eqv (eLs m) (.tuple []) = false := by
      rw [e]
      cases m' <;> rfl
    have hx : Ev K (tOp (rIx K) (tVar 0) (tUn (rU fun i => .int (-i)) (tC (.int 1)))) (startD N__law_agrees [eLs m, eL l]) (eL x) := ev_op (ev_var rfl) (ev_un ev_int ud_neg) (rd_ixT (by rw [e, List.map_append]; exact atI_last _ _))
    rw [ea]
    refine sx_ret (ev_is (ev_orV (ev_op (ev_var rfl) (ev_tup ea_nil (by decide)) (rd_eq (sh_eLs m) rfl)) fun _ => ev_andV (ev_op (ev_op hx ev_int (rd_ixT (atI_nat (j := 0) rfl))) (ev_op (ev_var rfl) ev_int (rd_ixT (atI_nat (j := 0) rfl))) rd_ltI) fun _ => ev_op (ev_op hx ev_int (rd_ixT (atI_nat (j := 1) rfl))) (ev_op (ev_var rfl) ev_int (rd_ixT (atI_nat (j := 1) rfl))) rd_ltI) ?_) rfl
    rw [ef]
    rfl
theorem ok__law_weight (T : Fx K mg) : Ok Pr w K mg base "_law_weight" 1 ["match"] (spD K rWeight) := by
  obtain ⟨f, fd, F, b, g⟩ := T.f__law_weight
  refine ⟨f, fd, g, F.kp, b, fn_ok F sc__law_weight (fun xs d h => by obtain ⟨_, rfl, _⟩ := h; rfl) (fun cdv A outer s H E hr => ⟨_, (pss_one (ps_ret (pe_callB (kc_sum K rfl) (by rfl) T.b_sum bt_sum (pa_cons (pe_lc (own := [("like", 1)]) (g := (gName 1)) rfl sc__law_weight.nd (kw_seq K (pv 0)) (blkOk_by (own := [("like", 1)]) (N := N__law_weight) (sc := defScope st__law_weight) (by decide +kernel)) (fun _ _ _ _ _ => (pg_name (i := 1) sc__law_weight.nd rfl (by first | exact Or.inl rfl | exact Or.inr rfl))) (fun _ _ _ _ _ => pts_nil) (fun _ _ _ _ _ => (pe_ix (ki_seq K) (pv 1) pe_int (fun _ _ => rfl)))) pa_nil)))), fun xs d hR => ?_⟩)⟩
  obtain ⟨a0, rfl, hR⟩ := hR
  obtain ⟨m, rfl, hl, rfl⟩ := hR
  exact sx_ret (ev_sumM (g := fun l : Lk => l.2.2) (lc1 m eL (fun l => .int l.2.2) (eI_tup (ev_var rfl)).r (by omega) fun l _ => ev_op (ev_var rfl) ev_int (rd_ixT (atI_nat (j := 2) rfl))).rl) rfl
theorem ok__law_part (T : Fx K mg) : Ok Pr w K mg base "_law_part" 1 ["likes", "low", "high"] (spD K rPart) := by
  obtain ⟨f, fd, F, b, g⟩ := T.f__law_part
  refine ⟨f, fd, g, F.kp, b, fn_ok F sc__law_part (fun xs d h => by obtain ⟨_, _, _, rfl, _⟩ := h; rfl) (fun cdv A outer s H E hr => ⟨_, (pss_one (ps_ret (pe_callTy (kc_tuple K) (by rfl) T.b_tuple bt_tuple (pa_cons (pe_lc (own := [("like", 3)]) (g := (gName 3)) rfl sc__law_part.nd (kw_seq K (pv 0)) (blkOk_by (own := [("like", 3)]) (N := N__law_part) (sc := defScope st__law_part) (by decide +kernel)) (fun _ _ _ _ _ => (pg_name (i := 3) sc__law_part.nd rfl (by first | exact Or.inl rfl | exact Or.inr rfl))) (fun _ _ _ _ _ => (pts_one (PW.pt (pw_and (pt_chain op_le (ko_lt K (u0 hr)) (pe_ix (ki_seq K) (pv 1) pe_int (fun _ _ => rfl)) (pe_ix (ki_seq K) (pv 3) pe_int (fun _ _ => rfl)) (pe_ix (ki_seq K) (pv 2) pe_int (fun _ _ => rfl))) (pw_and1 (pt_chain op_le (ko_lt K (u0 hr)) (pe_ix (ki_seq K) (pv 1) pe_int (fun _ _ => rfl)) (pe_ix (ki_seq K) (pv 3) pe_int (fun _ _ => rfl)) (pe_ix (ki_seq K) (pv 2) pe_int (fun _ _ => rfl)))))))) (fun _ _ _ _ _ => (pv 3))) pa_nil)))), fun xs d hR => ?_⟩)⟩
  obtain ⟨a0, a1, a2, rfl, hR⟩ := hR
  obtain ⟨ls, i0, j0, i1, j1, rfl, rfl, rfl, hl, rfl⟩ := hR
  exact sx_ret (ev_tupleR (lc1f ls eL eL (fun l => (decide (i0 ≤ l.1) && decide (l.1 < i1)) && (decide (j0 ≤ l.2.1) && decide (l.2.1 < j1))) (eI_tup (ev_var rfl)).r (by omega) (fun l _ => et_and
    (et_chain (ev_op (ev_var rfl) ev_int (rd_ixT (atI_nat (j := 0) rfl))) (ev_op (ev_var rfl) ev_int (rd_ixT (atI_nat (j := 0) rfl))) rd_le (fun _ => ev_op (ev_var rfl) ev_int (rd_ixT (atI_nat (j := 0) rfl))) fun _ => rd_ltI) fun _ =>
    et_chain (ev_op (ev_var rfl) ev_int (rd_ixT (atI_nat (j := 1) rfl))) (ev_op (ev_var rfl) ev_int (rd_ixT (atI_nat (j := 1) rfl))) rd_le (fun _ => ev_op (ev_var rfl) ev_int (rd_ixT (atI_nat (j := 1) rfl))) fun _ => rd_ltI) fun l _ _ => ev_var rfl).rl) rfl
theorem ok__law_matches (T : Fx K mg) : Ok Pr w K mg base "_law_matches" 2 ["likes"] (spD K rMatches) := by
  obtain ⟨f, fd, F, b, g⟩ := T.f__law_matches
  have c__law_agrees := ok__law_agrees (Pr := Pr) (w := w) (base := base) T
  refine ⟨f, fd, g, F.kp, b, fn_ok F sc__law_matches (fun xs d h => by obtain ⟨_, rfl, _⟩ := h; rfl) (fun cdv A outer s H E hr => ⟨_, (pss_cons (ps_set (i := 1) sc__law_matches.nd rfl (.inl rfl) (pe_lst (pa_cons (pe_tup pa_nil) pa_nil)))
      (pss_cons (ps_for PassesOwn.never rfl (kw_seq K (pv 0)) (pg_name (i := 2) sc__law_matches.nd rfl (by first | exact Or.inl rfl | exact Or.inr rfl)) (pss_one (ps_set (i := 1) sc__law_matches.nd rfl (.inl rfl) (pe_op (ko_add K) (pv 1) (pe_lc (own := [("match", 3)]) (g := (gName 3)) rfl sc__law_matches.nd (kw_seq K (pv 1)) (blkOk_by (own := [("match", 3)]) (N := N__law_matches) (sc := defScope st__law_matches) (by decide +kernel)) (fun _ _ _ _ _ => (pg_name (i := 3) sc__law_matches.nd rfl (by first | exact Or.inl rfl | exact Or.inr rfl))) (fun _ _ _ _ _ => (pts_one (pt_val (pe_own c__law_agrees (hr.mono (by decide)) (by rfl) (pa_cons (pv 3) (pa_cons (pv 2) pa_nil)))))) (fun _ _ _ _ _ => (pe_op (ko_add K) (pv 3) (pe_tup (pa_cons (pv 2) pa_nil)))))))))
      (pss_one (ps_ret (pv 1))))), fun xs d hR => ?_⟩)⟩
  obtain ⟨a0, rfl, hR⟩ := hR
  obtain ⟨ls, rfl, hl, rfl⟩ := hR
  refine q_set (d := .list [eLs []]) (en_lst (ea_cons (ev_tup ea_nil (by decide)) ea_nil) (by decide)).ev ?_
  refine q_for ls eL (fun i ds => ∃ s2, ds = [.pu (eLs ls), .pu (.list ((mtsF (ls.take i) [[]]).map eLs)), s2, .un]) (fun l ds => ds.set 2 (.pu (eL l))) (eI_tup (ev_var rfl)) ⟨_, rfl⟩ (fun i l ds _ ⟨s2, e⟩ => by subst e; exact tg1) ?_ ?_
  · rintro i l _ hi ⟨s2, rfl⟩
    have il : i < ls.length := (List.getElem?_eq_some_iff.mp hi).1
    have tk : ls.take (i + 1) = ls.take i ++ [l] := by rw [List.take_add_one, hi]; rfl
    have lm : (mtsF (ls.take i) [[]]).length ≤ 512 := by
      refine Nat.le_trans (mtsF_len _ _) ?_
      rw [List.length_singleton, Nat.one_mul]
      refine Nat.le_trans (Nat.pow_le_pow_right (by decide) (show (ls.take i).length ≤ 9 by rw [List.length_take]; omega)) (by decide)
    have hs : ∀ m ∈ mtsF (ls.take i) [[]], m.length ≤ 60 := fun m hm => by
      have := ((mts_take ls i (by omega) m).mp hm).sub.length_le
      rw [List.length_take] at this
      omega
    generalize hF : mtsF (ls.take i) [[]] = fd at lm hs
    refine sx_set (d := .list (fd.map eLs ++ (fd.filter fun m => ag m l).map fun m => eLs (m ++ [l]))) (ev_op (ev_var rfl) (lc1f fd eLs (fun m => eLs (m ++ [l])) (fun m => ag m l) (eI_list (ev_var rfl)).r (by omega)
      (fun m hm => et_B (ev_call (ea_cons (ev_var rfl) (ea_cons (ev_var rfl) ea_nil)) ⟨_, _, rfl, m, l, rfl, rfl, hs m hm, rfl⟩))
      fun m hm _ => ev_is (ev_op (ev_var rfl) (ev_tup (ea_cons (ev_var rfl) ea_nil) (by show 1 ≤ 100000; decide)) (rd_addT (by have := hs m hm; rw [List.length_map]; show _ + 1 ≤ _; omega))) (by unfold eLs; rw [List.map_append]; rfl)).ev (rd_addL ?_)) (lt_of_some rfl) ?_
    · rw [List.length_map, List.length_map]
      have := List.length_filter_le (fun m => ag m l) fd
      omega
    · show ∃ s2, _ = _
      rw [tk, mtsF_snoc, hF, List.map_append, List.map_map]
      exact ⟨_, rfl⟩
  · rintro _ ⟨s2, rfl⟩
    rw [List.take_length]
    exact sx_ret (ev_var rfl) rfl
end
end L3
end

section
set_option Elab.async false
set_option linter.all false
set_option maxRecDepth 100000
set_option maxHeartbeats 1000000
set_option autoImplicit false
namespace L3
open PySem L2
section
variable {Pr : Program} {w : World} {K : PySem.W.Frag} {mg : Str → Option Value} {base : Heap}
theorem ok__law_are_cuts_right (T : Fx K mg) : Ok Pr w K mg base "_law_are_cuts_right" 8 ["cores", "likes", "whole"] (spD K rCuts) := by
  obtain ⟨f, fd, F, b, g⟩ := T.f__law_are_cuts_right
  have c__law_part := ok__law_part (Pr := Pr) (w := w) (base := base) T
  have c_worth := ok_worth (Pr := Pr) (w := w) (base := base) T
  have c_best := ok_best (Pr := Pr) (w := w) (base := base) T
  have c__law_weight := ok__law_weight (Pr := Pr) (w := w) (base := base) T
  have c__law_agrees := ok__law_agrees (Pr := Pr) (w := w) (base := base) T
  refine ⟨f, fd, g, F.kp, b, fn_ok F sc__law_are_cuts_right (fun xs d h => by obtain ⟨_, _, _, rfl, _⟩ := h; rfl) (fun cdv A outer s H E hr => ⟨_, (pss_cons (ps_set (i := 3) sc__law_are_cuts_right.nd rfl (.inl rfl) (pe_tup (pa_cons (pe_callB (kc_len K) (by rfl) T.b_len bt_len (pa_cons (pe_ix (ki_seq K) (pv 0) pe_int (fun _ _ => rfl)) pa_nil)) (pa_cons (pe_callB (kc_len K) (by rfl) T.b_len bt_len (pa_cons (pe_ix (ki_seq K) (pv 0) pe_int (fun _ _ => rfl)) pa_nil)) pa_nil))))
      (pss_cons (ps_for PassesOwn.never rfl (pi_range1 (by rfl) T.b_range (pa_cons (pe_op (ko_add K) (pe_ix (ki_seq K) (pv 3) pe_int (fun _ _ => rfl)) pe_int) pa_nil)) (pg_name (i := 4) sc__law_are_cuts_right.nd rfl (by first | exact Or.inl rfl | exact Or.inr rfl)) (pss_cons (ps_set (i := 5) sc__law_are_cuts_right.nd rfl (.inl rfl) (pe_lst pa_nil))
      (pss_cons (ps_for PassesOwn.never rfl (pi_range1 (by rfl) T.b_range (pa_cons (pe_op (ko_add K) (pe_ix (ki_seq K) (pv 3) pe_int (fun _ _ => rfl)) pe_int) pa_nil)) (pg_name (i := 6) sc__law_are_cuts_right.nd rfl (by first | exact Or.inl rfl | exact Or.inr rfl)) (pss_cons (ps_par (i := 7) (j := 8) rfl sc__law_are_cuts_right.nd rfl rfl (by decide) rfl rfl (pa_cons (pe_own c__law_part (hr.mono (by decide)) (by rfl) (pa_cons (pv 1) (pa_cons (pe_tup (pa_cons pe_int (pa_cons pe_int pa_nil))) (pa_cons (pe_tup (pa_cons (pv 4) (pa_cons (pv 6) pa_nil))) pa_nil)))) (pa_cons (pe_own c__law_part (hr.mono (by decide)) (by rfl) (pa_cons (pv 1) (pa_cons (pe_tup (pa_cons (pv 4) (pa_cons (pv 6) pa_nil))) (pa_cons (pv 3) pa_nil)))) pa_nil)) (by rfl))
      (pss_cons (ps_expr (pe_bm PySem.F.plainAttrs_list PySem.F.slot_list_append PySem.F.type_list_append mt_append (pv 5) (pa_cons (pe_op (ko_add K) (pe_own c_worth (hr.mono (by decide)) (by rfl) (pa_cons (pv 0) (pa_cons (pv 7) pa_nil))) (pe_own c_worth (hr.mono (by decide)) (by rfl) (pa_cons (pv 0) (pa_cons (pv 8) pa_nil)))) pa_nil)))
      (pss_cons (ps_set (i := 9) sc__law_are_cuts_right.nd rfl (.inl rfl) (pe_op (ko_add K) (pe_ix (ki_seq K) (pe_own c_best (hr.mono (by decide)) (by rfl) (pa_cons (pv 0) (pa_cons (pv 7) pa_nil))) pe_int (fun _ _ => rfl)) (pe_ix (ki_seq K) (pe_own c_best (hr.mono (by decide)) (by rfl) (pa_cons (pv 0) (pa_cons (pv 8) pa_nil))) pe_int (fun _ _ => rfl))))
      (pss_cons (ps_if (pt_not (pt_chain (ko_eq K (u64 hr)) op_le (pe_own c__law_weight (hr.mono (by decide)) (by rfl) (pa_cons (pv 9) pa_nil)) (pe_ix (ki_seq K) (pv 5) (pe_un un_neg pe_int) (fun _ _ => rfl)) (pv 2))) (pss_one (ps_ret pe_bl)) pss_nil)
      (pss_one (ps_if (pt_not (pt_val (pe_callB (kc_all K rfl) (by rfl) T.b_all bt_all (pa_cons (pe_lc (own := [("one", 10), ("other", 11)]) (g := (gTup K 2 (gCons (gName 10) (gCons (gName 11) gNil)))) rfl sc__law_are_cuts_right.nd (kw_z2 K (by rfl) T.b_zip (pa_cons (pv 9) (pa_cons (pe_slice (ks_g K) (pv 9) (po_some pe_int) po_none) pa_nil))) (blkOk_by (own := [("one", 10), ("other", 11)]) (N := N__law_are_cuts_right) (sc := defScope st__law_are_cuts_right) (by decide +kernel)) (fun _ _ _ _ _ => (pg_tup rfl (pgs_cons (pg_name (i := 10) sc__law_are_cuts_right.nd rfl (by first | exact Or.inl rfl | exact Or.inr rfl)) (pgs_cons (pg_name (i := 11) sc__law_are_cuts_right.nd rfl (by first | exact Or.inl rfl | exact Or.inr rfl)) pgs_nil)))) (fun _ _ _ _ _ => pts_nil) (fun _ _ _ _ _ => (pe_own c__law_agrees (hr.mono (by decide)) (by rfl) (pa_cons (pe_tup (pa_cons (pv 10) pa_nil)) (pa_cons (pv 11) pa_nil))))) pa_nil)))) (pss_one (ps_ret pe_bl)) pss_nil)))))))
      (pss_one (ps_if (pt_cmpR (ko_ne K (u64 hr)) (pe_callB (kc_max K rfl) (by rfl) T.b_max bt_max (pa_cons (pv 5) pa_nil)) (pv 2) (nomark _)) (pss_one (ps_ret pe_bl)) pss_nil)))))
      (pss_one (ps_ret pe_bl)))), fun xs d hR => ?_⟩)⟩
  obtain ⟨a0, a1, a2, rfl, hR⟩ := hR
  obtain ⟨c, ls, rfl, rfl, rfl, dr, rfl⟩ := hR
  have n := dr.nice
  have l60 : ls.length ≤ 60 := by have := dr.le; omega
  have c0 := dr.gc.1.le
  have c1 := dr.gc.2.le
  have lenC0 : ∀ ds : List Sl, ds[0]? = some (.pu (eC c)) → Ev K (tCB (gLen K) (tCons (tOp (rIx K) (tVar 0) (tC (.int 0))) tNil)) ds (.int c.1.length) := fun ds h => ev_is (ev_cb (ea_cons (ev_op (ev_var h) ev_int (rd_ixT (atI_nat (j := 0) rfl))) ea_nil) cd_lenT) (by rw [List.length_map])
  have lenC1 : ∀ ds : List Sl, ds[0]? = some (.pu (eC c)) → Ev K (tCB (gLen K) (tCons (tOp (rIx K) (tVar 0) (tC (.int 1))) tNil)) ds (.int c.2.length) := fun ds h => ev_is (ev_cb (ea_cons (ev_op (ev_var h) ev_int (rd_ixT (atI_nat (j := 1) rfl))) ea_nil) cd_lenT) (by rw [List.length_map])
  refine q_set (d := .tuple [.int (c.1.length : Nat), .int (c.2.length : Nat)]) (ev_tup (ea_cons (lenC0 _ rfl) (ea_cons (lenC1 _ rfl) ea_nil)) (by show 2 ≤ 100000; decide)) ?_
  refine q_for (List.range (c.1.length + 1)) (fun (i : Nat) => PyData.int i) (fun _ ds => ∃ s4 s5 s6 s7 s8 s9, ds = [.pu (eC c), .pu (eLs ls), .pu (.int (wof ls)), .pu (.tuple [.int (c.1.length : Nat), .int (c.2.length : Nat)]), s4, s5, s6, s7, s8, s9, .un, .un]) (fun i ds => ds.set 4 (.pu (.int (i : Nat))))
    (eI_rng1 (n := ((c.1.length + 1 : Nat) : Int)) (ea_cons (ev_op (ev_op (ev_var rfl) ev_int (rd_ixT (atI_nat (j := 0) rfl))) ev_int rd_addI) ea_nil) (by omega)) ⟨_, _, _, _, _, _, rfl⟩ (fun i l ds _ ⟨s4, s5, s6, s7, s8, s9, e⟩ => by subst e; exact tg1) ?_ ?_
  · rintro i at' _ hi ⟨s4, s5, s6, s7, s8, s9, rfl⟩
    have cutv : ∀ t : Nat, Dr c (part ls 0 0 at' t) ∧ Dr c (part ls at' t (c.1.length : Nat) (c.2.length : Nat)) := fun t => ⟨dr.sub (part_sub ..), dr.sub (part_sub ..)⟩
    refine q_new (en_lst ea_nil (by decide)) ?_
    refine q_for (List.range (c.2.length + 1)) (fun (i : Nat) => PyData.int i) (fun k ds => ∃ s6 s7 s8 s9, ds = [.pu (eC c), .pu (eLs ls), .pu (.int (wof ls)), .pu (.tuple [.int (c.1.length : Nat), .int (c.2.length : Nat)]), .pu (.int (at' : Nat)), .ol (((List.range k).map fun (t : Nat) => wof (part ls 0 0 at' t) + wof (part ls at' t (c.1.length : Nat) (c.2.length : Nat))).map .int), s6, s7, s8, s9, .un, .un]) (fun i ds => ds.set 6 (.pu (.int (i : Nat))))
      (eI_rng1 (n := ((c.2.length + 1 : Nat) : Int)) (ea_cons (ev_op (ev_op (ev_var rfl) ev_int (rd_ixT (atI_nat (j := 1) rfl))) ev_int rd_addI) ea_nil) (by omega)) ⟨_, _, _, _, rfl⟩ (fun i l ds _ ⟨s6, s7, s8, s9, e⟩ => by subst e; exact tg1) ?_ ?_
    · rintro k t _ hk ⟨s6, s7, s8, s9, rfl⟩
      have ek : t = k ∧ k < c.2.length + 1 := by
        obtain ⟨a, b⟩ := List.getElem?_eq_some_iff.mp hk
        rw [List.getElem_range] at b
        rw [List.length_range] at a
        exact ⟨b.symm, a⟩
      obtain ⟨ek, kl⟩ := ek
      subst ek
      obtain ⟨d1, d2⟩ := cutv t
      obtain ⟨m1, t1⟩ := told_ex true d1.nice
      obtain ⟨m2, t2⟩ := told_ex true d2.nice
      obtain ⟨k1, mk1⟩ := marks_ex (part ls 0 0 at' t)
      obtain ⟨k2, mk2⟩ := marks_ex (part ls at' t (c.1.length : Nat) (c.2.length : Nat))
      have b1 := t1.len
      have b2 := t2.len
      have b3 := d1.le
      have b4 := d2.le
      refine q_par (s1 := .pu (eLs (part ls 0 0 at' t))) (s2 := .pu (eLs (part ls at' t (c.1.length : Nat) (c.2.length : Nat)))) (ev_call (ea_cons (ev_var rfl) (ea_cons (ev_tup (ea_cons ev_int (ea_cons ev_int ea_nil)) (by show 2 ≤ 100000; decide)) (ea_cons (ev_tup (ea_cons (ev_var rfl) (ea_cons (ev_var rfl) ea_nil)) (by show 2 ≤ 100000; decide)) ea_nil))) ⟨_, _, _, rfl, ls, 0, 0, at', t, rfl, rfl, rfl, l60, rfl⟩).ek
        (ev_call (ea_cons (ev_var rfl) (ea_cons (ev_tup (ea_cons (ev_var rfl) (ea_cons (ev_var rfl) ea_nil)) (by show 2 ≤ 100000; decide)) (ea_cons (ev_var rfl) ea_nil))) ⟨_, _, _, rfl, ls, at', t, c.1.length, c.2.length, rfl, rfl, rfl, l60, rfl⟩).ek ?_
      refine q_app (xs := ((List.range t).map fun (t : Nat) => wof (part ls 0 0 at' t) + wof (part ls at' t (c.1.length : Nat) (c.2.length : Nat))).map .int) (d := .int (wof (part ls 0 0 at' t) + wof (part ls at' t (c.1.length : Nat) (c.2.length : Nat)))) rfl
        (ev_op (ev_call (ea_cons (ev_var rfl) (ea_cons (ev_var rfl) ea_nil)) ⟨_, _, rfl, c, part ls 0 0 at' t, rfl, rfl, d1.gc, d1.good, rfl⟩) (ev_call (ea_cons (ev_var rfl) (ea_cons (ev_var rfl) ea_nil)) ⟨_, _, rfl, c, part ls at' t (c.1.length : Nat) (c.2.length : Nat), rfl, rfl, d2.gc, d2.good, rfl⟩) rd_addI) (by rw [List.length_map, List.length_map, List.length_range]; omega) ?_
      refine q_set (d := eLs (m1 ++ m2)) (ev_is (ev_op (ev_op (ev_call (ea_cons (ev_var rfl) (ea_cons (ev_var rfl) ea_nil)) ⟨_, _, rfl, c, part ls 0 0 at' t, m1, k1, rfl, rfl, d1.gc, d1.good, by omega, d1.nice.nd, t1.g, by omega, mk1, rfl⟩) ev_int (rd_ixT (atI_nat (j := 0) rfl))) (ev_op (ev_call (ea_cons (ev_var rfl) (ea_cons (ev_var rfl) ea_nil)) ⟨_, _, rfl, c, part ls at' t (c.1.length : Nat) (c.2.length : Nat), m2, k2, rfl, rfl, d2.gc, d2.good, by omega, d2.nice.nd, t2.g, by omega, mk2, rfl⟩) ev_int (rd_ixT (atI_nat (j := 0) rfl))) (rd_addT (by rw [List.length_map, List.length_map]; omega))) (by unfold eLs; rw [List.map_append])) ?_
      have jn := cut_join n t1.ch t2.ch
      have wv : wt (m1 ++ m2) = wof (part ls 0 0 at' t) + wof (part ls at' t (c.1.length : Nat) (c.2.length : Nat)) := by rw [wt_append, t1.w, t2.w]
      have le := cut_le n at' t (c.1.length : Nat) (c.2.length : Nat)
      refine q_no (et_is (et_not (et_chain (ev_call (ea_cons (ev_var rfl) ea_nil) ⟨_, rfl, m1 ++ m2, rfl, by rw [List.length_append]; omega, rfl⟩) (ev_ixR (er_own rfl) (ev_un ev_int ud_neg) (atI_last _ _)) (rd_eq rfl rfl) (fun _ => ev_var rfl) fun _ => rd_le)) ?_) ?_
      · rw [wv]
        simp [PyData.eqv, le]
      · refine q_no (et_is (et_not (et_B (ev_allM (lc2 ((m1 ++ m2).zip ((m1 ++ m2).drop 1)) (fun p => eL p.1) (fun p => eL p.2) (fun p => .bool (behind p.1 p.2)) ((eIr_z2 (k1 := .t) (k2 := .t) (ev_var rfl).rt (ev_slT (ev_var rfl) (eo_some ev_int) eo_none).rt).is ?_) (by rw [List.length_zip, List.length_append]; omega) fun p _ => ev_call (ea_cons (ev_tup (ea_cons (ev_var rfl) ea_nil) (by show 1 ≤ 100000; decide)) (ea_cons (ev_var rfl) ea_nil)) ⟨_, _, rfl, [p.1], p.2, rfl, rfl, by show 1 ≤ 60; decide, rfl⟩).rl))) (by rw [adj_all jn.ch]; rfl)) ?_
        · rw [show (1 : Int) = ((1 : Nat) : Int) from rfl, cutD_from, ← List.map_drop]
          exact zipD_map _ _ _ _
        · refine sx_next ?_
          show ∃ s6 s7 s8 s9, _ = _
          rw [List.range_succ, List.map_append, List.map_append]
          exact ⟨_, _, _, _, rfl⟩
    · rintro _ ⟨s6, s7, s8, s9, rfl⟩
      rw [List.length_range]
      obtain ⟨t0, ht0, e0⟩ := cutEx n dr.range at'
      refine q_no (et_is (et_test (ev_op (ev_max (m := wof ls) (ns := (List.range (c.2.length + 1)).map fun (t : Nat) => wof (part ls 0 0 at' t) + wof (part ls at' t (c.1.length : Nat) (c.2.length : Nat))) (er_own rfl) ?_ ?_) (ev_var rfl) (rd_ne rfl rfl))) (by simp [PyData.eqv])) (sx_next ⟨_, _, _, _, _, _, rfl⟩)
      · exact List.mem_map.mpr ⟨t0, List.mem_range.mpr (by omega), e0⟩
      · intro y hy
        obtain ⟨t, _, e⟩ := List.mem_map.mp hy
        rw [← e]
        exact cut_le n _ _ _ _
  · rintro _ ⟨s4, s5, s6, s7, s8, s9, rfl⟩
    exact sx_ret ev_bl rfl
end
end L3
end

section
set_option Elab.async false
set_option linter.all false
set_option maxRecDepth 100000
set_option maxHeartbeats 1000000
set_option autoImplicit false
namespace L3
open PySem L2
section
variable {Pr : Program} {w : World} {K : PySem.W.Frag} {mg : Str → Option Value} {base : Heap}
theorem ok__law_are_likes_right (T : Fx K mg) : Ok Pr w K mg base "_law_are_likes_right" 9 ["cores", "likes", "whole", "every"] (spD K rLikesRight) := by
  obtain ⟨f, fd, F, b, g⟩ := T.f__law_are_likes_right
  have c__law_weight := ok__law_weight (Pr := Pr) (w := w) (base := base) T
  have c_sorts := ok_sorts (Pr := Pr) (w := w) (base := base) T
  have c__law_part := ok__law_part (Pr := Pr) (w := w) (base := base) T
  have c_worth := ok_worth (Pr := Pr) (w := w) (base := base) T
  have c_worth_with := ok_worth_with (Pr := Pr) (w := w) (base := base) T
  have c_raise_to := ok_raise_to (Pr := Pr) (w := w) (base := base) T
  have c_least_of_best := ok_least_of_best (Pr := Pr) (w := w) (base := base) T
  have c_most_of_best := ok_most_of_best (Pr := Pr) (w := w) (base := base) T
  refine ⟨f, fd, g, F.kp, b, fn_ok F sc__law_are_likes_right (fun xs d h => by obtain ⟨_, _, _, _, rfl, _⟩ := h; rfl) (fun cdv A outer s H E hr => ⟨_, (pss_cons (ps_set (i := 4) sc__law_are_likes_right.nd rfl (.inl rfl) (pe_tup (pa_cons (pe_callB (kc_len K) (by rfl) T.b_len bt_len (pa_cons (pe_ix (ki_seq K) (pv 0) pe_int (fun _ _ => rfl)) pa_nil)) (pa_cons (pe_callB (kc_len K) (by rfl) T.b_len bt_len (pa_cons (pe_ix (ki_seq K) (pv 0) pe_int (fun _ _ => rfl)) pa_nil)) pa_nil))))
      (pss_cons (ps_setLc (i := 5) (own := [("match", 6)]) (g := (gName 6)) rfl sc__law_are_likes_right.nd rfl rfl (sw_true rfl rfl rfl (by decide +kernel)) (kw_seq K (pv 3)) (blkOk_by (own := [("match", 6)]) (N := N__law_are_likes_right) (sc := defScope st__law_are_likes_right) (by decide +kernel)) (fun _ _ _ _ _ => (pg_name (i := 6) sc__law_are_likes_right.nd rfl (by first | exact Or.inl rfl | exact Or.inr rfl))) (fun _ _ _ _ _ => (pts_one (pt_cmpR (ko_eq K (u64 hr)) (pe_own c__law_weight (hr.mono (by decide)) (by rfl) (pa_cons (pv 6) pa_nil)) (pv 2) (nomark _)))) (fun _ _ _ _ _ => (pv 6)))
      (pss_cons (ps_set (i := 7) sc__law_are_likes_right.nd rfl (.inl rfl) (pe_own c_sorts (hr.mono (by decide)) (by rfl) (pa_cons (pv 0) (pa_cons (pv 1) pa_nil))))
      (pss_cons (ps_for PassesOwn.never rfl (kw_en K (by rfl) T.b_enumerate (pa_cons (pv 1) pa_nil)) (pg_tup rfl (pgs_cons (pg_name (i := 8) sc__law_are_likes_right.nd rfl (by first | exact Or.inl rfl | exact Or.inr rfl)) (pgs_cons (pg_name (i := 9) sc__law_are_likes_right.nd rfl (by first | exact Or.inl rfl | exact Or.inr rfl)) pgs_nil))) (pss_cons (ps_set (i := 10) sc__law_are_likes_right.nd rfl (.inl rfl) (pe_own c__law_part (hr.mono (by decide)) (by rfl) (pa_cons (pv 1) (pa_cons (pe_tup (pa_cons pe_int (pa_cons pe_int pa_nil))) (pa_cons (pe_slice (ks_g K) (pv 9) po_none (po_some pe_int)) pa_nil)))))
      (pss_cons (ps_set (i := 11) sc__law_are_likes_right.nd rfl (.inl rfl) (pe_own c__law_part (hr.mono (by decide)) (by rfl) (pa_cons (pv 1) (pa_cons (pe_tup (pa_cons (pe_op (ko_add K) (pe_ix (ki_seq K) (pv 9) pe_int (fun _ _ => rfl)) pe_int) (pa_cons (pe_op (ko_add K) (pe_ix (ki_seq K) (pv 9) pe_int (fun _ _ => rfl)) pe_int) pa_nil))) (pa_cons (pv 4) pa_nil)))))
      (pss_cons (ps_set (i := 12) sc__law_are_likes_right.nd rfl (.inl rfl) (pe_op (ko_add K) (pe_op (ko_add K) (pe_own c_worth (hr.mono (by decide)) (by rfl) (pa_cons (pv 0) (pa_cons (pv 10) pa_nil))) (pe_ix (ki_seq K) (pv 9) pe_int (fun _ _ => rfl))) (pe_own c_worth (hr.mono (by decide)) (by rfl) (pa_cons (pv 0) (pa_cons (pv 11) pa_nil)))))
      (pss_cons (ps_if (PW.pt (pw_or (pt_cmpR (ko_ne K (u64 hr)) (pe_own c_worth_with (hr.mono (by decide)) (by rfl) (pa_cons (pv 0) (pa_cons (pv 1) (pa_cons (pv 9) pa_nil)))) (pv 12) (nomark _)) (pw_or1 (pt_cmpR (ko_ne K (u64 hr)) (pe_own c_raise_to (hr.mono (by decide)) (by rfl) (pa_cons (pv 0) (pa_cons (pv 1) (pa_cons (pv 9) pa_nil)))) (pe_op op_sub (pe_op (ko_add K) (pe_ix (ki_seq K) (pv 9) pe_int (fun _ _ => rfl)) (pv 2)) (pv 12)) (nomark _))))) (pss_one (ps_ret pe_bl)) pss_nil)
      (pss_cons (ps_set (i := 13) sc__law_are_likes_right.nd rfl (.inl rfl) (pe_callB (kc_len K) (by rfl) T.b_len bt_len (pa_cons (pe_lc (own := [("match", 6)]) (g := (gName 6)) rfl sc__law_are_likes_right.nd (kw_seq K (pv 5)) (blkOk_by (own := [("match", 6)]) (N := N__law_are_likes_right) (sc := defScope st__law_are_likes_right) (by decide +kernel)) (fun _ _ _ _ _ => (pg_name (i := 6) sc__law_are_likes_right.nd rfl (by first | exact Or.inl rfl | exact Or.inr rfl))) (fun _ _ _ _ _ => (pts_one (pt_cmpR (ko_in K (u65 hr)) (pv 9) (pv 6) (by with_unfolding_all rfl)))) (fun _ _ _ _ _ => (pv 6))) pa_nil)))
      (pss_one (ps_if (pt_cmpR (ko_ne K (u64 hr)) (pe_ix (ki_seq K) (pv 7) (pv 8) (fun _ _ => rfl)) (pe_ifExp (pt_cmpR (ko_eq K (u64 hr)) (pv 13) (pe_callB (kc_len K) (by rfl) T.b_len bt_len (pa_cons (pv 5) pa_nil)) (nomark _)) pe_str (pe_ifExp (pt_cmpR (ko_eq K (u64 hr)) (pv 13) pe_int (nomark _)) pe_str pe_str)) (nomark _)) (pss_one (ps_ret pe_bl)) pss_nil))))))))
      (pss_one (ps_ret (pe_and (pe_cmpR (ko_eq K (u64 hr)) (pe_own c_least_of_best (hr.mono (by decide)) (by rfl) (pa_cons (pv 0) (pa_cons (pv 1) pa_nil))) (pe_callB (kc_minD K rfl (u64 hr)) (by rfl) T.b_min bt_min (pa_cons (pv 5) pa_nil)) (nomark _)) (pe_one (pe_cmpR (ko_eq K (u64 hr)) (pe_own c_most_of_best (hr.mono (by decide)) (by rfl) (pa_cons (pv 0) (pa_cons (pv 1) pa_nil))) (pe_callB (kc_maxD K rfl (u64 hr)) (by rfl) T.b_max bt_max (pa_cons (pv 5) pa_nil)) (nomark _)))))))))), fun xs d hR => ?_⟩)⟩
  obtain ⟨a0, a1, a2, a3, rfl, hR⟩ := hR
  obtain ⟨c, ls, rfl, rfl, rfl, rfl, dr, rfl⟩ := hR
  have n := dr.nice
  have l9 := dr.le
  have l60 : ls.length ≤ 60 := by omega
  have c0 := dr.gc.1.le
  have c1 := dr.gc.2.le
  have ml := mts_len l9
  have hs : ∀ m ∈ mts ls, m.length ≤ 60 := fun m hm => by
    have := ((mts_mem ls m).mp hm).sub.length_le
    omega
  have tl : (topOf ls).length ≤ 512 := Nat.le_trans (List.length_filter_le _ _) ml
  have ht : ∀ m ∈ topOf ls, m.length ≤ 60 := fun m hm => hs m (List.mem_filter.mp hm).1
  have lenC0 : ∀ ds : List Sl, ds[0]? = some (.pu (eC c)) → Ev K (tCB (gLen K) (tCons (tOp (rIx K) (tVar 0) (tC (.int 0))) tNil)) ds (.int c.1.length) := fun ds h => ev_is (ev_cb (ea_cons (ev_op (ev_var h) ev_int (rd_ixT (atI_nat (j := 0) rfl))) ea_nil) cd_lenT) (by rw [List.length_map])
  have lenC1 : ∀ ds : List Sl, ds[0]? = some (.pu (eC c)) → Ev K (tCB (gLen K) (tCons (tOp (rIx K) (tVar 0) (tC (.int 1))) tNil)) ds (.int c.2.length) := fun ds h => ev_is (ev_cb (ea_cons (ev_op (ev_var h) ev_int (rd_ixT (atI_nat (j := 1) rfl))) ea_nil) cd_lenT) (by rw [List.length_map])
  refine q_set (d := .tuple [.int (c.1.length : Nat), .int (c.2.length : Nat)]) (ev_tup (ea_cons (lenC0 _ rfl) (ea_cons (lenC1 _ rfl) ea_nil)) (by show 2 ≤ 100000; decide)) ?_
  refine q_set (d := .list ((topOf ls).map eLs)) (lc1f (mts ls) eLs eLs (fun m => decide (wt m = wof ls)) (eI_list (ev_var rfl)).r (by omega) (fun m hm => et_is (et_test (ev_op (ev_call (ea_cons (ev_var rfl) ea_nil) ⟨_, rfl, m, rfl, hs m hm, rfl⟩) (ev_var rfl) (rd_eq rfl rfl))) (by by_cases z : wt m = wof ls <;> simp [PyData.eqv, z])) fun m _ _ => ev_var rfl).ev ?_
  refine q_set (d := .tuple ((srts ls).map .str)) (ev_call (ea_cons (ev_var rfl) (ea_cons (ev_var rfl) ea_nil)) ⟨_, _, rfl, c, ls, rfl, rfl, dr.gc, dr.good, n.nd, rfl⟩) ?_
  refine q_for ls.zipIdx (fun p => .tuple [.int (p.2 : Nat), eL p.1]) (fun _ ds => ∃ s8 s9 s10 s11 s12 s13, ds = [.pu (eC c), .pu (eLs ls), .pu (.int (wof ls)), .pu (.list ((mts ls).map eLs)), .pu (.tuple [.int (c.1.length : Nat), .int (c.2.length : Nat)]), .pu (.list ((topOf ls).map eLs)), .un, .pu (.tuple ((srts ls).map .str)), s8, s9, s10, s11, s12, s13]) (fun p ds => (ds.set 8 (.pu (.int (p.2 : Nat)))).set 9 (.pu (eL p.1)))
    ((eI_en (k := .t) (ev_var rfl)).is (enumD_map _ _)) ⟨_, _, _, _, _, _, rfl⟩ (fun i l ds _ ⟨s8, s9, s10, s11, s12, s13, e⟩ => by subst e; exact tg2) ?_ ?_
  · rintro i ⟨l, k⟩ _ hi ⟨s8, s9, s10, s11, s12, s13, rfl⟩
    have hk : ls[k]? = some l ∧ k < ls.length := by
      rw [List.getElem?_zipIdx] at hi
      obtain ⟨x, h1, h2⟩ := Option.map_eq_some_iff.mp hi
      cases h2
      rw [Nat.zero_add]
      exact ⟨h1, (List.getElem?_eq_some_iff.mp h1).1⟩
    obtain ⟨hk, kl⟩ := hk
    have hl := List.mem_of_getElem? hk
    have rg := dr.range l hl
    obtain ⟨t, ht'⟩ : ∃ t, (thr ls)[k]? = some t := get_lt (by rw [thr_len]; exact kl)
    have tv := thr_val n hk ht'
    have zt : (l, t) ∈ ls.zip (thr ls) := List.mem_of_getElem? (i := k) (by rw [List.getElem?_zip_eq_some]; exact ⟨hk, ht'⟩)
    have pb := part_below (fun x hx => ⟨(dr.range x hx).1, (dr.range x hx).2.2.1⟩) l
    have pa := part_above (n0 := (c.1.length : Nat)) (n1 := (c.2.length : Nat)) (fun x hx => ⟨(dr.range x hx).2.1, (dr.range x hx).2.2.2⟩) l
    have db : Dr c (below ls l) := dr.sub List.filter_sublist
    have da : Dr c (above ls l) := dr.sub List.filter_sublist
    refine q_set (d := eLs (below ls l)) (ev_call (ea_cons (ev_var rfl) (ea_cons (ev_tup (ea_cons ev_int (ea_cons ev_int ea_nil)) (by show 2 ≤ 100000; decide)) (ea_cons (ev_is (ev_slT (ev_var rfl) eo_none (eo_some ev_int)) rfl) ea_nil))) ⟨_, _, _, rfl, ls, 0, 0, l.1, l.2.1, rfl, rfl, rfl, l60, by rw [pb]⟩) ?_
    refine q_set (d := eLs (above ls l)) (ev_call (ea_cons (ev_var rfl) (ea_cons (ev_tup (ea_cons (ev_op (ev_op (ev_var rfl) ev_int (rd_ixT (atI_nat (j := 0) rfl))) ev_int rd_addI) (ea_cons (ev_op (ev_op (ev_var rfl) ev_int (rd_ixT (atI_nat (j := 1) rfl))) ev_int rd_addI) ea_nil)) (by show 2 ≤ 100000; decide)) (ea_cons (ev_var rfl) ea_nil))) ⟨_, _, _, rfl, ls, l.1 + 1, l.2.1 + 1, c.1.length, c.2.length, rfl, rfl, rfl, l60, by rw [pa]⟩) ?_
    refine q_set (d := .int t) (ev_is (ev_op (ev_op (ev_call (ea_cons (ev_var rfl) (ea_cons (ev_var rfl) ea_nil)) ⟨_, _, rfl, c, below ls l, rfl, rfl, dr.gc, db.good, rfl⟩) (ev_op (ev_var rfl) ev_int (rd_ixT (atI_nat (j := 2) rfl))) rd_addI) (ev_call (ea_cons (ev_var rfl) (ea_cons (ev_var rfl) ea_nil)) ⟨_, _, rfl, c, above ls l, rfl, rfl, dr.gc, da.good, rfl⟩) rd_addI) (by rw [tv])) ?_
    refine q_no (et_is (et_or (et_test (ev_op (ev_call (ea_cons (ev_var rfl) (ea_cons (ev_var rfl) (ea_cons (ev_var rfl) ea_nil))) ⟨_, _, _, rfl, c, ls, l, t, rfl, rfl, rfl, dr.gc, dr.good, n.nd, zt, rfl⟩) (ev_var rfl) (rd_ne rfl rfl))) fun _ => et_test (ev_op (ev_call (ea_cons (ev_var rfl) (ea_cons (ev_var rfl) (ea_cons (ev_var rfl) ea_nil))) ⟨_, _, _, rfl, c, ls, l, t, rfl, rfl, rfl, dr.gc, dr.good, n.nd, zt, rfl⟩) (ev_op (ev_op (ev_op (ev_var rfl) ev_int (rd_ixT (atI_nat (j := 2) rfl))) (ev_var rfl) rd_addI) (ev_var rfl) rd_sub) (rd_ne rfl rfl))) (by simp [PyData.eqv])) ?_
    refine q_set (d := .int (((topOf ls).filter fun m => decide (l ∈ m)).length : Nat)) (ev_is (ev_lenR (lc1f (topOf ls) eLs eLs (fun m => decide (l ∈ m)) (eI_list (ev_var rfl)).r (by omega) (fun m _ => et_is (et_test (ev_op (ev_var rfl) (ev_var rfl) (rd_inT rfl (sh_eLs m)))) (in_eLs l m)) fun m _ _ => ev_var rfl).rl) (by rw [List.length_map])) ?_
    have sw : (srts ls)[k]? = some (sortOf ls k t) := by
      unfold srts
      rw [List.getElem?_map, List.getElem?_zipIdx, ht', Nat.zero_add]
      rfl
    have word := sort_word n hk ht'
    generalize hC : ((topOf ls).filter fun m => decide (l ∈ m)).length = cnt at word
    generalize hT : (topOf ls).length = tn at word
    refine q_no (et_is (et_test (ev_op (ev_op (ev_var rfl) (ev_var rfl) (rd_ixT (d := .str (sortOf ls k t)) (atI_nat (by rw [List.getElem?_map, sw]; rfl)))) (ev_if (b := decide (cnt = tn)) (d := .str (sortOf ls k t)) (et_is (et_test (ev_op (ev_var rfl) (ev_is (ev_cb (ea_cons (ev_var rfl) ea_nil) cd_lenL) (by rw [List.length_map, hT])) (rd_eq rfl rfl))) ?_) (fun h => ?_) fun h => ev_if (b := decide (cnt = 0)) (et_is (et_test (ev_op (ev_var rfl) ev_int (rd_eq rfl rfl))) ?_) (fun h2 => ?_) fun h2 => ?_) (rd_ne (sh_sort ls k t) (sh_sort ls k t)))) ?_) ?_
    · by_cases z : cnt = tn
      · simp [PyData.eqv, z]
      · have z' : ¬ ((cnt : Int) = (tn : Int)) := by omega
        simp [PyData.eqv, z, z']
    · rw [word, if_pos (of_decide_eq_true h)]
      exact ev_str
    · by_cases z : cnt = 0
      · simp [PyData.eqv, z]
      · have z' : ¬ ((cnt : Int) = 0) := by omega
        simp [PyData.eqv, z, z']
    · rw [word, if_neg (of_decide_eq_false h), if_pos (of_decide_eq_true h2)]
      exact ev_str
    · rw [word, if_neg (of_decide_eq_false h), if_neg (of_decide_eq_false h2)]
      exact ev_str
    · simp [PyData.eqv]
    · exact sx_next ⟨_, _, _, _, _, _, rfl⟩
  · rintro _ ⟨s8, s9, s10, s11, s12, s13, rfl⟩
    obtain ⟨m1, t1⟩ := told_ex true n
    obtain ⟨m2, t2⟩ := told_ex false n
    obtain ⟨q0, qs, eq⟩ : ∃ q0 qs, topOf ls = q0 :: qs := by
      cases hq : topOf ls with
      | nil => exact absurd hq (top_ne ls)
      | cons a b => exact ⟨a, b, rfl⟩
    have cl := can_map eLs can_eLs (q0 :: qs)
    have al := alikeAll_eLs (q0 :: qs)
    have dp := Nat.le_trans (dep_map eLs 2 dep_eLs (q0 :: qs)) (show 2 ≤ 60 by decide)
    have b1 := t1.len
    have b2 := t2.len
    rw [eq]
    refine sx_ret (ev_is (ev_andV (ev_op (ev_call (ea_cons (ev_var rfl) (ea_cons (ev_var rfl) ea_nil)) ⟨_, _, rfl, c, ls, m1, rfl, rfl, dr.gc, dr.good, n.nd, t1.g, by omega, rfl⟩) (ev_best (d := eLs q0) (xs := qs.map eLs) (Ev.rl (ev_var rfl)) cl al dp) (rd_eq (sh_eLs m1) (by rw [told_min t1 eq]; exact sh_eLs m1))) fun _ => ev_op (ev_call (ea_cons (ev_var rfl) (ea_cons (ev_var rfl) ea_nil)) ⟨_, _, rfl, c, ls, m2, rfl, rfl, dr.gc, dr.good, n.nd, t2.g, by omega, rfl⟩) (ev_best (d := eLs q0) (xs := qs.map eLs) (Ev.rl (ev_var rfl)) cl al dp) (rd_eq (sh_eLs m2) (by rw [told_max t2 eq]; exact sh_eLs m2))) ?_) rfl
    rw [told_min t1 eq, told_max t2 eq, eqv_eLs, eqv_eLs]
    simp
theorem ok__law_are_counts_right (T : Fx K mg) : Ok Pr w K mg base "_law_are_counts_right" 8 ["cores", "likes", "counts", "whole"] (spD K rCountsRight) := by
  obtain ⟨f, fd, F, b, g⟩ := T.f__law_are_counts_right
  have c__law_agrees := ok__law_agrees (Pr := Pr) (w := w) (base := base) T
  have c__law_part := ok__law_part (Pr := Pr) (w := w) (base := base) T
  have c_worth := ok_worth (Pr := Pr) (w := w) (base := base) T
  refine ⟨f, fd, g, F.kp, b, fn_ok F sc__law_are_counts_right (fun xs d h => by obtain ⟨_, _, _, _, rfl, _⟩ := h; rfl) (fun cdv A outer s H E hr => ⟨_, (pss_cons (ps_if (pt_cmpR (ko_ne K (u64 hr)) (pe_callB (kc_sum K rfl) (by rfl) T.b_sum bt_sum (pa_cons (pe_lc (own := [("some", 4), ("many", 5)]) (g := (gTup K 2 (gCons (gName 4) (gCons (gName 5) gNil)))) rfl sc__law_are_counts_right.nd (kw_seq K (pv 2)) (blkOk_by (own := [("some", 4), ("many", 5)]) (N := N__law_are_counts_right) (sc := defScope st__law_are_counts_right) (by decide +kernel)) (fun _ _ _ _ _ => (pg_tup rfl (pgs_cons (pg_name (i := 4) sc__law_are_counts_right.nd rfl (by first | exact Or.inl rfl | exact Or.inr rfl)) (pgs_cons (pg_name (i := 5) sc__law_are_counts_right.nd rfl (by first | exact Or.inl rfl | exact Or.inr rfl)) pgs_nil)))) (fun _ _ _ _ _ => pts_nil) (fun _ _ _ _ _ => (pv 5))) pa_nil)) (pv 3) (nomark _)) (pss_one (ps_ret pe_bl)) pss_nil)
      (pss_cons (ps_for PassesOwn.never rfl (kw_seq K (pv 1)) (pg_name (i := 6) sc__law_are_counts_right.nd rfl (by first | exact Or.inl rfl | exact Or.inr rfl)) (pss_one (ps_if (pt_cmpR (ko_lt K (u0 hr)) (pe_callB (kc_sum K rfl) (by rfl) T.b_sum bt_sum (pa_cons (pe_lc (own := [("some", 4), ("many", 5)]) (g := (gTup K 2 (gCons (gName 4) (gCons (gName 5) gNil)))) rfl sc__law_are_counts_right.nd (kw_seq K (pv 2)) (blkOk_by (own := [("some", 4), ("many", 5)]) (N := N__law_are_counts_right) (sc := defScope st__law_are_counts_right) (by decide +kernel)) (fun _ _ _ _ _ => (pg_tup rfl (pgs_cons (pg_name (i := 4) sc__law_are_counts_right.nd rfl (by first | exact Or.inl rfl | exact Or.inr rfl)) (pgs_cons (pg_name (i := 5) sc__law_are_counts_right.nd rfl (by first | exact Or.inl rfl | exact Or.inr rfl)) pgs_nil)))) (fun _ _ _ _ _ => (pts_one (pt_cmpR (ko_in K (u65 hr)) (pv 6) (pv 4) (by with_unfolding_all rfl)))) (fun _ _ _ _ _ => (pv 5))) pa_nil)) (pe_ix (ki_seq K) (pv 6) pe_int (fun _ _ => rfl)) (nomark _)) (pss_one (ps_ret pe_bl)) pss_nil)))
      (pss_cons (ps_for PassesOwn.never rfl (kw_seq K (pv 2)) (pg_tup rfl (pgs_cons (pg_name (i := 4) sc__law_are_counts_right.nd rfl (by first | exact Or.inl rfl | exact Or.inr rfl)) (pgs_cons (pg_name (i := 5) sc__law_are_counts_right.nd rfl (by first | exact Or.inl rfl | exact Or.inr rfl)) pgs_nil))) (pss_one (ps_if (PW.pt (pw_or (pt_val (pe_callB (kc_any K rfl) (by rfl) T.b_any bt_any (pa_cons (pe_lc (own := [("one", 8)]) (g := (gName 8)) rfl sc__law_are_counts_right.nd (kw_seq K (pv 4)) (blkOk_by (own := [("one", 8)]) (N := N__law_are_counts_right) (sc := defScope st__law_are_counts_right) (by decide +kernel)) (fun _ _ _ _ _ => (pg_name (i := 8) sc__law_are_counts_right.nd rfl (by first | exact Or.inl rfl | exact Or.inr rfl))) (fun _ _ _ _ _ => pts_nil) (fun _ _ _ _ _ => (pe_callB (kc_any K rfl) (by rfl) T.b_any bt_any (pa_cons (pe_lc (own := [("other", 7)]) (g := (gName 7)) rfl sc__law_are_counts_right.nd (kw_seq K (pv 4)) (blkOk_by (own := [("other", 7)]) (N := N__law_are_counts_right) (by kernel_rfl)) (fun _ _ _ _ _ => (pg_name (i := 7) sc__law_are_counts_right.nd rfl (by first | exact Or.inl rfl | exact Or.inr rfl))) (fun _ _ _ _ _ => pts_nil) (fun _ _ _ _ _ => (pe_own c__law_agrees (hr.mono (by decide)) (by rfl) (pa_cons (pe_tup (pa_cons (pv 8) pa_nil)) (pa_cons (pv 7) pa_nil))))) pa_nil)))) pa_nil))) (pw_or1 (pt_cmpR (ko_lt K (u0 hr)) (pv 5) pe_int (nomark _))))) (pss_one (ps_ret pe_bl)) pss_nil)))
      (pss_cons (ps_set (i := 9) sc__law_are_counts_right.nd rfl (.inl rfl) (pe_tup (pa_cons (pe_callB (kc_len K) (by rfl) T.b_len bt_len (pa_cons (pe_ix (ki_seq K) (pv 0) pe_int (fun _ _ => rfl)) pa_nil)) (pa_cons (pe_callB (kc_len K) (by rfl) T.b_len bt_len (pa_cons (pe_ix (ki_seq K) (pv 0) pe_int (fun _ _ => rfl)) pa_nil)) pa_nil))))
      (pss_cons (ps_set (i := 10) sc__law_are_counts_right.nd rfl (.inr rfl) (pe_own c__law_part (hr.mono (by decide)) (by rfl) (pa_cons (pv 1) (pa_cons (pe_tup (pa_cons pe_int (pa_cons pe_int pa_nil))) (pa_cons (pe_tup (pa_cons (pe_op (ko_add K) (pe_op op_fdiv (pe_ix (ki_seq K) (pv 9) pe_int (fun _ _ => rfl)) pe_int) pe_int) (pa_cons (pe_ix (ki_seq K) (pv 9) pe_int (fun _ _ => rfl)) pa_nil))) pa_nil)))))
      (pss_cons (ps_set (i := 11) sc__law_are_counts_right.nd rfl (.inl rfl) (pe_callB (kc_sum K rfl) (by rfl) T.b_sum bt_sum (pa_cons (pe_lc (own := [("some", 4), ("many", 5)]) (g := (gTup K 2 (gCons (gName 4) (gCons (gName 5) gNil)))) rfl sc__law_are_counts_right.nd (kw_seq K (pv 2)) (blkOk_by (own := [("some", 4), ("many", 5)]) (N := N__law_are_counts_right) (sc := defScope st__law_are_counts_right) (by decide +kernel)) (fun _ _ _ _ _ => (pg_tup rfl (pgs_cons (pg_name (i := 4) sc__law_are_counts_right.nd rfl (by first | exact Or.inl rfl | exact Or.inr rfl)) (pgs_cons (pg_name (i := 5) sc__law_are_counts_right.nd rfl (by first | exact Or.inl rfl | exact Or.inr rfl)) pgs_nil)))) (fun _ _ _ _ _ => (pts_one (pt_val (pe_callB (kc_any K rfl) (by rfl) T.b_any bt_any (pa_cons (pe_lc (own := [("like", 6)]) (g := (gName 6)) rfl sc__law_are_counts_right.nd (kw_seq K (pv 4)) (blkOk_by (own := [("like", 6)]) (N := N__law_are_counts_right) (by kernel_rfl)) (fun _ _ _ _ _ => (pg_name (i := 6) sc__law_are_counts_right.nd rfl (by first | exact Or.inl rfl | exact Or.inr rfl))) (fun _ _ _ _ _ => pts_nil) (fun _ _ _ _ _ => (pe_cmpR (ko_in K (u65 hr)) (pv 6) (pv 10) (by with_unfolding_all rfl)))) pa_nil))))) (fun _ _ _ _ _ => (pv 5))) pa_nil)))
      (pss_one (ps_ret (pe_cmpR op_ge (pv 11) (pe_own c_worth (hr.mono (by decide)) (by rfl) (pa_cons (pv 0) (pa_cons (pv 10) pa_nil))) (nomark _)))))))))), fun xs d hR => ?_⟩)⟩
  obtain ⟨a0, a1, a2, a3, rfl, hR⟩ := hR
  obtain ⟨c, ls, ks, rfl, rfl, rfl, rfl, dr, ok, kl, rfl⟩ := hR
  have n := dr.nice
  have l9 := dr.le
  have c0 := dr.gc.1.le
  have c1 := dr.gc.2.le
  have k9 : ∀ k ∈ ks, k.1.length ≤ 60 := fun k hk => by
    have := (ok.each k hk).1.length_le
    omega
  have lenC0 : ∀ ds : List Sl, ds[0]? = some (.pu (eC c)) → Ev K (tCB (gLen K) (tCons (tOp (rIx K) (tVar 0) (tC (.int 0))) tNil)) ds (.int c.1.length) := fun ds h => ev_is (ev_cb (ea_cons (ev_op (ev_var h) ev_int (rd_ixT (atI_nat (j := 0) rfl))) ea_nil) cd_lenT) (by rw [List.length_map])
  have lenC1 : ∀ ds : List Sl, ds[0]? = some (.pu (eC c)) → Ev K (tCB (gLen K) (tCons (tOp (rIx K) (tVar 0) (tC (.int 1))) tNil)) ds (.int c.2.length) := fun ds h => ev_is (ev_cb (ea_cons (ev_op (ev_var h) ev_int (rd_ixT (atI_nat (j := 1) rfl))) ea_nil) cd_lenT) (by rw [List.length_map])
  refine q_no (et_is (et_test (ev_op (ev_sumM (g := fun k : Cnt => k.2) (lc2 ks (fun k => eLs k.1) (fun k => .int k.2) (fun k => .int k.2) (eI_tup (ev_var rfl)).r (by omega) fun k _ => ev_var rfl).rl) (ev_var rfl) (rd_ne rfl rfl))) (by rw [ok.sum]; simp [PyData.eqv])) ?_
  refine q_for ls eL (fun _ ds => ∃ s6, ds = [.pu (eC c), .pu (eLs ls), .pu (eK ks), .pu (.int (wof ls)), .un, .un, s6, .un, .un, .un, .un, .un]) (fun l ds => ds.set 6 (.pu (eL l))) (eI_tup (ev_var rfl)) ⟨_, rfl⟩ (fun i l ds _ ⟨s6, e⟩ => by subst e; exact tg1) ?_ ?_
  · rintro i l _ hi ⟨s6, rfl⟩
    have hl := List.mem_of_getElem? hi
    refine sx_if (b := false) (et_is (et_test (ev_op (ev_sum (ns := (ks.filter fun k => decide (l ∈ k.1)).map (·.2)) ((lc2f ks (fun k => eLs k.1) (fun k => .int k.2) (fun k => .int k.2) (fun k => decide (l ∈ k.1)) (eI_tup (ev_var rfl)).r (by omega) (fun k _ => et_is (et_test (ev_op (ev_var rfl) (ev_var rfl) (rd_inT rfl (sh_eLs k.1)))) (in_eLs l k.1)) fun k _ _ => ev_var rfl).rl.is (by rw [List.map_map]; rfl))) (ev_op (ev_var rfl) ev_int (rd_ixT (atI_nat (j := 2) rfl))) rd_ltI)) ?_) (fun h => nomatch h) fun _ => sx_next ⟨_, rfl⟩
    have := ok.cov l hl
    unfold over at this
    rw [this]
    simp
  · rintro _ ⟨s6, rfl⟩
    refine q_for ks (fun k => .tuple [eLs k.1, .int k.2]) (fun _ ds => ∃ s4 s5 s6, ds = [.pu (eC c), .pu (eLs ls), .pu (eK ks), .pu (.int (wof ls)), s4, s5, s6, .un, .un, .un, .un, .un]) (fun k ds => (ds.set 4 (.pu (eLs k.1))).set 5 (.pu (.int k.2))) (eI_tup (ev_var rfl)) ⟨_, _, _, rfl⟩ (fun i l ds _ ⟨s4, s5, s6, e⟩ => by subst e; exact tg2) ?_ ?_
    · rintro i k _ hi ⟨s4, s5, s6, rfl⟩
      have hk := List.mem_of_getElem? hi
      have kk := k9 k hk
      obtain ⟨_, _, pos, anti⟩ := ok.each k hk
      refine sx_if (b := false) (et_is (et_or (et_B (ev_anyM (lc1 k.1 eL (fun l => .bool (k.1.any fun m => behind l m)) (eI_tup (ev_var rfl)).r (by omega) fun l _ => ev_anyM (lc1 k.1 eL (fun m => .bool (behind l m)) (eI_tup (ev_var rfl)).r (by omega) fun m _ => ev_call (ea_cons (ev_tup (ea_cons (ev_var rfl) ea_nil) (by show 1 ≤ 100000; decide)) (ea_cons (ev_var rfl) ea_nil)) ⟨_, _, rfl, [l], m, rfl, rfl, by show 1 ≤ 60; decide, rfl⟩).rl).rl)) fun _ => et_test (ev_op (ev_var rfl) ev_int rd_ltI)) ?_) (fun h => nomatch h) fun _ => sx_next ⟨_, _, _, rfl⟩
      have e : (k.1.any fun l => k.1.any fun m => behind l m) = false := by
        rw [List.any_eq_false]
        intro l hl
        rw [Bool.not_eq_true, List.any_eq_false]
        intro m hm
        rw [anti l hl m hm]
        exact Bool.false_ne_true
      have e2 : ¬ k.2 < 1 := by omega
      rw [e]
      simp [e2]
    · rintro _ ⟨s4, s5, s6, rfl⟩
      refine q_set (d := .tuple [.int (c.1.length : Nat), .int (c.2.length : Nat)]) (ev_tup (ea_cons (lenC0 _ rfl) (ea_cons (lenC1 _ rfl) ea_nil)) (by show 2 ≤ 100000; decide)) ?_
      refine q_set (d := eLs (part ls 0 0 ((c.1.length : Nat) / 2 + 1) (c.2.length : Nat))) (ev_call (ea_cons (ev_var rfl) (ea_cons (ev_tup (ea_cons ev_int (ea_cons ev_int ea_nil)) (by show 2 ≤ 100000; decide)) (ea_cons (ev_tup (ea_cons (ev_op (ev_op (ev_op (ev_var rfl) ev_int (rd_ixT (atI_nat (j := 0) rfl))) ev_int (rd_div ⟨by decide, by decide⟩)) ev_int rd_addI) (ea_cons (ev_op (ev_var rfl) ev_int (rd_ixT (atI_nat (j := 1) rfl))) ea_nil)) (by show 2 ≤ 100000; decide)) ea_nil))) ⟨_, _, _, rfl, ls, 0, 0, _, _, rfl, rfl, rfl, by omega, rfl⟩) ?_
      have sb : (part ls 0 0 ((c.1.length : Nat) / 2 + 1) (c.2.length : Nat)).Sublist ls := part_sub ..
      have dp := dr.sub sb
      have le := part_le ok sb
      generalize part ls 0 0 ((c.1.length : Nat) / 2 + 1) (c.2.length : Nat) = ps at sb dp le
      refine q_set (d := .int ((ks.filter fun k => k.1.any fun l => decide (l ∈ ps)).map (·.2)).sum) (ev_sum (ns := (ks.filter fun k => k.1.any fun l => decide (l ∈ ps)).map (·.2)) ((lc2f ks (fun k => eLs k.1) (fun k => .int k.2) (fun k => .int k.2) (fun k => k.1.any fun l => decide (l ∈ ps)) (eI_tup (ev_var rfl)).r (by omega) (fun k hk => et_B (ev_anyM (lc1 k.1 eL (fun l => .bool (decide (l ∈ ps))) (eI_tup (ev_var rfl)).r (by have := k9 k hk; omega) fun l _ => ev_is (ev_op (ev_var rfl) (ev_var rfl) (rd_inT rfl (sh_eLs ps))) (by rw [in_eLs])).rl)) fun k _ _ => ev_var rfl).rl.is (by rw [List.map_map]; rfl))) ?_
      exact sx_ret (ev_is (ev_op (ev_var rfl) (ev_call (ea_cons (ev_var rfl) (ea_cons (ev_var rfl) ea_nil)) ⟨_, _, rfl, c, ps, rfl, rfl, dr.gc, dp.good, rfl⟩) rd_ge) (by rw [decide_eq_true le])) rfl
end
end L3
end

section
set_option Elab.async false
set_option linter.all false
set_option maxRecDepth 100000
set_option autoImplicit false
/-! the script, the pot -/
namespace L3
open PySem L2
def PotOk (n : Nat) (p : List PyData) : Prop := ∃ a b c : Int, p = [.int a, .int b, .int c] ∧ 0 ≤ a ∧ 0 ≤ b ∧ b < 2305843009213693951 ∧ 0 ≤ c ∧ c ≤ (n : Int)
theorem PotOk.mono {n m : Nat} {p : List PyData} (h : PotOk n p) (l : n ≤ m) : PotOk m p := by
  obtain ⟨a, b, c, e, h1, h2, h3, h4, h5⟩ := h
  exact ⟨a, b, c, e, h1, h2, h3, h4, by omega⟩
/-- the pot moves on by at most k -/
def Moves (k : Nat) (p p' : List PyData) : Prop := ∀ n, PotOk n p → PotOk (n + k) p'
theorem Moves.trans {k l : Nat} {p q r : List PyData} (a : Moves k p q) (b : Moves l q r) : Moves (k + l) p r := fun n h => by
  have := b _ (a n h)
  rwa [Nat.add_assoc] at this
def tPre (ps xs : List PyData) : Prop := ∃ q, xs = [q] ∧ ∃ u n : Nat, q = .int (u : Int) ∧ 1 ≤ u ∧ u ≤ 1000 ∧ n ≤ 1000 ∧ PotOk n ps
def tPo (ps xs : List PyData) (d : PyData) (ps' : List PyData) : Prop := ∃ u k : Nat, xs = [.int (u : Int)] ∧ d = .int (k : Int) ∧ k < u ∧ Moves 1 ps ps'
def absI (i : Int) : Int := if i < 0 then -i else i
def cellOf (is : List Int) (p : Nat) : Int := if p < is.length then is.getD p 0 else (is.take 1).sum % 1000003 + 7227 * p + 18859
def potOf (is : List Int) (p : Nat) : List PyData :=
  [.int (absI (cellOf is p) % ((10 : Int) ^ (60 : Int).toNat) ^ (5 : Int).toNat * (if decide ((10 : Int) ^ (18 : Int).toNat ≤ absI (cellOf is p)) then 1 else 0)),
   .int ((cellOf is p % 2305843009213693951 * 48847 + 88978 * p * p + 58803) % 2305843009213693921), .int 0]
theorem b01 (b : Bool) : -(2 ^ 64) < (if b then (1 : Int) else 0) ∧ (if b then (1 : Int) else 0) < 2 ^ 64 := by cases b <;> decide
theorem pot_ok (is : List Int) (p : Nat) : PotOk 0 (potOf is p) := by
  refine ⟨_, _, _, rfl, ?_, Int.emod_nonneg _ (by decide), by have := Int.emod_lt_of_pos (cellOf is p % 2305843009213693951 * 48847 + 88978 * p * p + 58803) (show (0 : Int) < 2305843009213693921 by decide); omega, Int.le_refl _, Int.le_refl _⟩
  refine Int.mul_nonneg (Int.emod_nonneg _ (by decide +kernel)) ?_
  split <;> decide
def rPot (ns xs d : List PyData) : Prop := ∃ a, xs = [a] ∧ ∃ (is : List Int) (p : Nat), ns = is.map .int ∧ a = .int (p : Int) ∧ p < 3 ∧ d = potOf is p
def cellsN (n : Nat) : Int := if (if (n : Int) < 3 then (n : Int) else 3) > 1 then (if (n : Int) < 3 then (n : Int) else 3) else 1
theorem cells_n (n : Nat) : 1 ≤ cellsN n ∧ cellsN n ≤ 3 := by
  unfold cellsN
  split <;> split at * <;> omega
def rCells (ns xs d : List PyData) : Prop := ∃ a, xs = [a] ∧ a = .int 3 ∧ d = intsTo (cellsN ns.length).toNat
def primes : List PyData := [.int 2147483647, .int 2147483629, .int 2147483587, .int 2147483579, .int 2147483563]
theorem primes_at {c : Int} (h : 0 ≤ c) : ∃ p, atI primes (c % 5) = some (.int p) ∧ 0 < p ∧ p < 2147483648 := by
  have : c % 5 = 0 ∨ c % 5 = 1 ∨ c % 5 = 2 ∨ c % 5 = 3 ∨ c % 5 = 4 := by omega
  rcases this with z | z | z | z | z <;> rw [z]
  · exact ⟨_, rfl, by decide, by decide⟩
  · exact ⟨_, rfl, by decide, by decide⟩
  · exact ⟨_, rfl, by decide, by decide⟩
  · exact ⟨_, rfl, by decide, by decide⟩
  · exact ⟨_, rfl, by decide, by decide⟩
theorem take_po {u : Nat} {ps ps' : List PyData} {z : Int} (hu : 1 ≤ u) (m : Moves 1 ps ps') : tPo ps [.int (u : Int)] (.int (z % (u : Int))) ps' := by
  have h0 : 0 ≤ z % (u : Int) := Int.emod_nonneg _ (by omega)
  have h1 : z % (u : Int) < u := Int.emod_lt_of_pos _ (by omega)
  exact ⟨u, (z % (u : Int)).toNat, rfl, by rw [Int.toNat_of_nonneg h0], by omega, m⟩
end L3
end

section
set_option Elab.async false
set_option linter.all false
set_option maxRecDepth 100000
set_option maxHeartbeats 1000000
set_option autoImplicit false
namespace L3
open PySem L2
section
variable {Pr : Program} {w : World} {K : PySem.W.Frag} {mg : Str → Option Value} {base : Heap}
theorem ok__law_cells (T : Fx K mg) : Ok Pr w K mg base "_law_cells" 1 ["script", "most"] (spS K rCells) := by
  obtain ⟨f, fd, F, b, g⟩ := T.f__law_cells
  refine ⟨f, fd, g, F.kp, b, fn_okS F sc__law_cells (fun ns xs d h => by obtain ⟨_, rfl, _⟩ := h; rfl) (fun cdv A outer s H E hr => ⟨_, (pss_one (ps_ret (pe_listRg rfl (by rfl) T.b_list (prg_1 (by rfl) T.b_range (pe_callB (call_max2 rfl) (by rfl) T.b_max bt_max (pa_cons pe_int (pa_cons (pe_callB (call_min2 rfl) (by rfl) T.b_min bt_min (pa_cons (pv 1) (pa_cons (pe_callB (kc_len K) (by rfl) T.b_len bt_len (pa_cons (pv 0) pa_nil)) pa_nil))) pa_nil))))))), fun ns xs d hR => ?_⟩)⟩
  obtain ⟨a1, rfl, hR⟩ := hR
  obtain ⟨rfl, rfl⟩ := hR
  have h := cells_n ns.length
  exact sx_retN (en_listRg (ev_cb (ea_cons ev_int (ea_cons (ev_cb (ea_cons (ev_var rfl) (ea_cons (ev_lenR (er_rl rfl)) ea_nil)) cd_min2) ea_nil)) cd_max2) (show 0 ≤ cellsN ns.length by omega) (show cellsN ns.length ≤ 100000 by omega)) rfl
theorem ok__law_pot (T : Fx K mg) : Ok Pr w K mg base "_law_pot" 1 ["script", "place"] (spS K rPot) := by
  obtain ⟨f, fd, F, b, g⟩ := T.f__law_pot
  refine ⟨f, fd, g, F.kp, b, fn_okS F sc__law_pot (fun ns xs d h => by obtain ⟨_, rfl, _⟩ := h; rfl) (fun cdv A outer s H E hr => ⟨_, (pss_cons (ps_set (i := 2) sc__law_pot.nd rfl (.inl rfl) (pe_ifExp (pt_cmpR (ko_lt K (u0 hr)) (pv 1) (pe_callB (kc_len K) (by rfl) T.b_len bt_len (pa_cons (pv 0) pa_nil)) (nomark _)) (pe_ix (ki_seq K) (pv 0) (pv 1) (fun _ _ => rfl)) (pe_op (ko_add K) (pe_op (ko_add K) (pe_op op_mod (pe_callB (kc_sum K rfl) (by rfl) T.b_sum bt_sum (pa_cons (pe_slice (ks_g K) (pv 0) po_none (po_some pe_int)) pa_nil)) pe_int) (pe_op op_gMul pe_int (pv 1))) pe_int)))
      (pss_cons (ps_set (i := 3) sc__law_pot.nd rfl (.inl rfl) (pe_op op_gMul (pe_op op_mod (pe_callTy cr_gInt (by rfl) T.b_int bt_int (pa_cons (pe_callB call_abs (by rfl) T.b_abs bt_abs (pa_cons (pv 2) pa_nil)) pa_nil)) (pe_op op_gPow (pe_op op_gPow pe_int pe_int) pe_int)) (pe_callTy cr_gInt (by rfl) T.b_int bt_int (pa_cons (pe_cmpR op_ge (pe_callB call_abs (by rfl) T.b_abs bt_abs (pa_cons (pv 2) pa_nil)) (pe_op op_gPow pe_int pe_int) (nomark _)) pa_nil))))
      (pss_cons (ps_set (i := 4) sc__law_pot.nd rfl (.inl rfl) (pe_op op_mod (pe_callTy cr_gInt (by rfl) T.b_int bt_int (pa_cons (pv 2) pa_nil)) pe_int))
      (pss_one (ps_ret (pe_lst (pa_cons (pv 3) (pa_cons (pe_op op_mod (pe_callTy cr_gInt (by rfl) T.b_int bt_int (pa_cons (pe_op (ko_add K) (pe_op (ko_add K) (pe_op op_gMul (pv 4) pe_int) (pe_op op_gMul (pe_op op_gMul pe_int (pv 1)) (pv 1))) pe_int) pa_nil)) pe_int) (pa_cons pe_int pa_nil))))))))), fun ns xs d hR => ?_⟩)⟩
  obtain ⟨a1, rfl, hR⟩ := hR
  obtain ⟨is, p, rfl, rfl, hp, rfl⟩ := hR
  refine q_set (d := .int (cellOf is p)) (ev_if (b := decide ((p : Int) < is.length)) (et_is (et_test (ev_op (ev_var rfl) (ev_lenR (er_rl rfl)) rd_ltI)) (by rw [List.length_map])) (fun h => ?_) fun h => ?_) ?_
  · have h' : p < is.length := by have := of_decide_eq_true h; omega
    unfold cellOf
    rw [if_pos h']
    exact ev_ixR (er_rl rfl) (ev_var rfl) (atI_nat (by rw [List.getElem?_map, List.getElem?_eq_getElem h', List.getD_eq_getElem?_getD, List.getElem?_eq_getElem h']; rfl))
  · have h' : ¬ p < is.length := by have := of_decide_eq_false h; omega
    unfold cellOf
    rw [if_neg h']
    refine ev_op (ev_op (ev_op (ev_sum ((en_slR (er_rl rfl) eo_none (eo_some ev_int)).rl.is ?_)) ev_int (rd_mod (by decide))) (ev_op ev_int (ev_var rfl) (rd_mul (.inl (by decide)))) rd_addI) ev_int rd_addI
    rw [show (1 : Int) = ((1 : Nat) : Int) from rfl, cutD_to, List.map_take]
  refine q_set (d := .int (absI (cellOf is p) % ((10 : Int) ^ (60 : Int).toNat) ^ (5 : Int).toNat * (if decide ((10 : Int) ^ (18 : Int).toNat ≤ absI (cellOf is p)) then 1 else 0)))
    (ev_op (ev_op (ev_cb (ea_cons (ev_cb (ea_cons (ev_var rfl) ea_nil) cd_abs) ea_nil) cd_intI) (ev_op (ev_op ev_int ev_int (rd_pow ⟨by decide, by decide +kernel⟩)) ev_int (rd_pow ⟨by decide, by decide +kernel⟩)) (rd_mod (by decide +kernel)))
      (ev_cb (ea_cons (ev_op (ev_cb (ea_cons (ev_var rfl) ea_nil) cd_abs) (ev_op ev_int ev_int (rd_pow ⟨by decide, by decide +kernel⟩)) rd_ge) ea_nil) cd_intB) (rd_mul (.inr (b01 _)))) ?_
  refine q_set (d := .int (cellOf is p % 2305843009213693951)) (ev_op (ev_cb (ea_cons (ev_var rfl) ea_nil) cd_intI) ev_int (rd_mod (by decide))) ?_
  exact sx_retN (en_lst (ea_cons (ev_var rfl) (ea_cons (ev_op (ev_cb (ea_cons (ev_op (ev_op (ev_op (ev_var rfl) ev_int (rd_mul (.inr (by decide)))) (ev_op (ev_op ev_int (ev_var rfl) (rd_mul (.inl (by decide)))) (ev_var rfl) (rd_mul (.inr (by omega)))) rd_addI) ev_int rd_addI) ea_nil) cd_intI) ev_int (rd_mod (by decide))) (ea_cons ev_int ea_nil))) (by show 3 ≤ 100000; decide)) rfl
theorem ok__law_take (T : Fx K mg) : Ok Pr w K mg base "_law_take" 1 ["pot", "upto"] (spB K tPre tPo) := by
  obtain ⟨f, fd, F, b, g⟩ := T.f__law_take
  refine ⟨f, fd, g, F.kp, b, fn_okB F sc__law_take (fun qs xs h => by obtain ⟨_, rfl, _⟩ := h; rfl) (fun cdv A outer s H E hr => ⟨_, (pss_cons (ps_if (pt_cmpR op_gt (pe_ix (ki_seq K) (pv 0) pe_int (fun _ _ => rfl)) pe_int (nomark _)) (pss_cons (ps_set (i := 2) sc__law_take.nd rfl (.inl rfl) (pe_op op_mod (pe_callTy cr_gInt (by rfl) T.b_int bt_int (pa_cons (pe_ix (ki_seq K) (pv 0) pe_int (fun _ _ => rfl)) pa_nil)) (pv 1)))
      (pss_cons (ps_asg (pe_op op_fdiv (pe_ix (ki_seq K) (pv 0) pe_int (fun _ _ => rfl)) (pv 1)) (pg_sub (pv 0) pe_int set_list))
      (pss_one (ps_ret (pv 2))))) pss_nil)
      (pss_cons (ps_asg (pe_op (ko_add K) (pe_ix (ki_seq K) (pv 0) pe_int (fun _ _ => rfl)) pe_int) (pg_sub (pv 0) pe_int set_list))
      (pss_cons (ps_set (i := 3) sc__law_take.nd rfl (.inl rfl) (pe_ix (ki_seq K) (pe_lst (pa_cons pe_int (pa_cons pe_int (pa_cons pe_int (pa_cons pe_int (pa_cons pe_int pa_nil)))))) (pe_op op_mod (pe_callTy cr_gInt (by rfl) T.b_int bt_int (pa_cons (pe_ix (ki_seq K) (pv 0) pe_int (fun _ _ => rfl)) pa_nil)) pe_int) (fun _ _ => rfl)))
      (pss_cons (ps_set (i := 4) sc__law_take.nd rfl (.inl rfl) (pe_op op_mod (pe_callTy cr_gInt (by rfl) T.b_int bt_int (pa_cons (pe_op op_gPow (pe_callTy cr_gInt (by rfl) T.b_int bt_int (pa_cons (pe_op (ko_add K) (pe_op (ko_add K) (pe_ix (ki_seq K) (pv 0) pe_int (fun _ _ => rfl)) (pe_op op_gMul (pe_op op_gMul pe_int (pe_ix (ki_seq K) (pv 0) pe_int (fun _ _ => rfl))) (pe_ix (ki_seq K) (pv 0) pe_int (fun _ _ => rfl)))) pe_int) pa_nil)) pe_int) pa_nil)) (pv 3)))
      (pss_cons (ps_set (i := 4) sc__law_take.nd rfl (.inl rfl) (pe_op op_mod (pe_callTy cr_gInt (by rfl) T.b_int bt_int (pa_cons (pe_op op_gMul (pv 4) (pe_op (ko_add K) (pe_op op_mod (pe_callTy cr_gInt (by rfl) T.b_int bt_int (pa_cons (pv 4) pa_nil)) pe_int) (pe_op op_gMul pe_int (pe_ix (ki_seq K) (pv 0) pe_int (fun _ _ => rfl))))) pa_nil)) pe_int))
      (pss_one (ps_ret (pe_op op_mod (pe_callTy cr_gInt (by rfl) T.b_int bt_int (pa_cons (pe_op op_fdiv (pv 4) pe_int) pa_nil)) (pv 1))))))))), fun qs xs hP => ?_⟩)⟩
  obtain ⟨_, rfl, u, n, rfl, hu1, hu2, hn, a, b, c, rfl, ha, hb0, hb1, hc0, hc1⟩ := hP
  by_cases z : 0 < a
  · refine sx_seq (Mid := fun _ => False) (sx_if (b := true) (et_is (et_test (ev_op (ev_ixR (er_bl rfl) ev_int (atI_nat (j := 0) rfl)) ev_int rd_gt)) (decide_eq_true z)) (fun _ => ?_) (fun e => nomatch e)) (fun _ e => e.elim)
    refine q_set (ev_op (ev_cb (ea_cons (ev_ixR (er_bl rfl) ev_int (atI_nat (j := 0) rfl)) ea_nil) cd_intI) (ev_var rfl) (rd_mod (by omega))) ?_
    refine sx_seq1 (sx_setB (j := 0) rfl (ev_op (ev_ixR (er_bl rfl) ev_int (atI_nat (j := 0) rfl)) (ev_var rfl) (rd_div ⟨by omega, by omega⟩)) ev_int (by show 0 < 3; decide) rfl) ?_
    refine sx_ret (ev_var rfl) ⟨_, rfl, take_po hu1 fun m hm => ?_⟩
    obtain ⟨a', b', c', e, h1, h2, h3, h4, h5⟩ := hm
    injection e with e1 e; injection e with e2 e; injection e with e3 e
    cases e1; cases e2; cases e3
    exact ⟨_, _, _, rfl, Int.ediv_nonneg h1 (by omega), h2, h3, h4, by omega⟩
  · refine sx_seq1 (sx_if (b := false) (et_is (et_test (ev_op (ev_ixR (er_bl rfl) ev_int (atI_nat (j := 0) rfl)) ev_int rd_gt)) (decide_eq_false z)) (fun e => nomatch e) fun _ => sx_next rfl) ?_
    refine sx_seq1 (sx_setB (j := 2) rfl (ev_op (ev_ixR (er_bl rfl) ev_int (atI_nat (j := 2) rfl)) ev_int rd_addI) ev_int (by show 2 < 3; decide) rfl) ?_
    obtain ⟨pr, hpr, p0, p1⟩ := primes_at (c := c + 1) (by omega)
    have cc : (22482 * (c + 1)) * (c + 1) ≤ 22482 * 1001 * 1001 := Int.mul_le_mul (by omega) (by omega) (by omega) (by omega)
    have cc0 : 0 ≤ (22482 * (c + 1)) * (c + 1) := Int.mul_nonneg (by omega) (by omega)
    refine q_set (d := .int pr) (ev_ixR (en_lst (ea_cons ev_int (ea_cons ev_int (ea_cons ev_int (ea_cons ev_int (ea_cons ev_int ea_nil))))) (by show 5 ≤ 100000; decide)).rl (ev_op (ev_cb (ea_cons (ev_ixR (er_bl rfl) ev_int (atI_nat (j := 2) rfl)) ea_nil) cd_intI) ev_int (rd_mod (by decide))) hpr) ?_
    refine q_set (ev_op (ev_cb (ea_cons (ev_op (ev_cb (ea_cons (ev_op (ev_op (ev_ixR (er_bl rfl) ev_int (atI_nat (j := 1) rfl)) (ev_op (ev_op ev_int (ev_ixR (er_bl rfl) ev_int (atI_nat (j := 2) rfl)) (rd_mul (.inl (by decide)))) (ev_ixR (er_bl rfl) ev_int (atI_nat (j := 2) rfl)) (rd_mul (.inr (by omega)))) rd_addI) ev_int rd_addI) ea_nil) cd_intI) ev_int (rd_pow ⟨by decide, ?_⟩)) ea_nil) cd_intI) (ev_var rfl) (rd_mod p0)) ?_
    · have := intBits_le_64 (k := b + (22482 * (c + 1)) * (c + 1) + 55026) (by omega) (by omega)
      omega
    generalize (b + 22482 * (c + 1) * (c + 1) + 55026) ^ (3 : Int).toNat = w3
    have g0 : 0 ≤ w3 % pr := Int.emod_nonneg _ (by omega)
    have g1 : w3 % pr < pr := Int.emod_lt_of_pos _ p0
    refine q_set (ev_op (ev_cb (ea_cons (ev_op (ev_var rfl) (ev_op (ev_op (ev_cb (ea_cons (ev_var rfl) ea_nil) cd_intI) ev_int (rd_mod (by decide))) (ev_op ev_int (ev_ixR (er_bl rfl) ev_int (atI_nat (j := 2) rfl)) (rd_mul (.inl (by decide)))) rd_addI) (rd_mul (.inl (by omega)))) ea_nil) cd_intI) ev_int (rd_mod (by decide))) ?_
    refine sx_ret (ev_op (ev_cb (ea_cons (ev_op (ev_var rfl) ev_int (rd_div ⟨by decide, by decide⟩)) ea_nil) cd_intI) (ev_var rfl) (rd_mod (by omega))) ⟨_, rfl, take_po hu1 fun m hm => ?_⟩
    obtain ⟨a', b', c', e, h1, h2, h3, h4, h5⟩ := hm
    injection e with e1 e; injection e with e2 e; injection e with e3 e
    cases e1; cases e2; cases e3
    exact ⟨_, _, _, rfl, h1, h2, h3, by omega, by omega⟩
end
end L3
end

section
set_option Elab.async false
set_option linter.all false
set_option maxRecDepth 100000
set_option autoImplicit false
/-! what is drawn -/
namespace L3
open PySem L2 PySem.W
section
variable {K : PySem.W.Frag} {ds : List Sl} {tr : TA} {i : Nat} {E : XK}
theorem es_takeB {u n : Nat} {ps : List PyData} {P : PyData → List Sl → Prop} (h0 : ds[i]? = some (.bl ps)) (hr : Ea K tr ds [.int (u : Int)]) (h1 : 1 ≤ u) (h2 : u ≤ 1000) (hn : n ≤ 1000) (pk : PotOk n ps)
    (k : ∀ (k : Nat) ps', k < u → Moves 1 ps ps' → P (.int (k : Int)) (ds.set i (.bl ps'))) : Es K (tCall (spB K tPre tPo) [] E (tCons (tVar i) tr)) ds P :=
  es_callB (eas_ea hr ⟨ps, ⟨_, rfl, u, n, rfl, h1, h2, hn, pk⟩, .inl ⟨h0, fun d ps' po => by
    obtain ⟨u', k', e, rfl, hk, mv⟩ := po
    injection e with e _
    injection e with e
    have : u' = u := by omega
    subst this
    exact k k' ps' hk mv⟩⟩) ⟨ps, .inl h0⟩
end
def sPre (ps xs : List PyData) : Prop := ∃ q1 q2, xs = [q1, q2] ∧ ∃ (pool : List Str) (m n : Nat), q1 = .list (pool.map .str) ∧ q2 = .int (m : Int) ∧ m ≤ pool.length ∧ pool.length ≤ 900 ∧ n + m ≤ 1000 ∧ PotOk n ps
def sPo (ps xs : List PyData) (d : PyData) (ps' : List PyData) : Prop := ∃ (pool found left : List Str) (m : Nat), xs = [.list (pool.map .str), .int (m : Int)] ∧ d = .list (found.map .str) ∧ found.length = m ∧ (found ++ left).Perm pool ∧ Moves m ps ps'
theorem perm_erase {α : Type} : ∀ {l : List α} {k : Nat} {x : α}, l[k]? = some x → (x :: l.eraseIdx k).Perm l
  | [], k, x, h => by simp at h
  | a :: r, 0, x, h => by cases h; exact List.Perm.refl _
  | a :: r, k + 1, x, h => by
    have ih := perm_erase (l := r) (k := k) (x := x) h
    exact (List.Perm.swap a x (r.eraseIdx k)).trans (ih.cons a)
theorem erase_map {α β : Type} (f : α → β) : ∀ (l : List α) (k : Nat), (l.map f).eraseIdx k = (l.eraseIdx k).map f
  | [], k => by simp
  | a :: r, 0 => rfl
  | a :: r, k + 1 => congrArg (f a :: ·) (erase_map f r k)
theorem str_inj : ∀ {a b : List Str}, a.map PyData.str = b.map PyData.str → a = b
  | [], [], _ => rfl
  | [], _ :: _, h => by simp at h
  | _ :: _, [], h => by simp at h
  | x :: a, y :: b, h => by
    rw [List.map_cons, List.map_cons] at h
    injection h with h1 h2
    injection h1 with h1
    rw [h1, str_inj h2]
/-- keys -/
def kP (l : Lk) : List L2.Key := [.inl l.1, .inl l.2.1]
def dPre (ps xs : List PyData) : Prop := xs = [] ∧ ∃ n, n ≤ 900 ∧ PotOk n ps
def dPo (ps xs : List PyData) (d : PyData) (ps' : List PyData) : Prop := ∃ c ls, Dr c ls ∧ c.1.length ≤ 6 ∧ ("fresh" : Str) ∉ c.1 ∧ d = .tuple [eC c, eLs ls] ∧ Moves 42 ps ps'
/-- what stands in the dict -/
structure DOk (c : Cores) (k : Nat) (es : List (List L2.Key × PyData)) : Prop where
  nd : (es.map (·.1)).Nodup
  le : es.length ≤ k
  each : ∀ p ∈ es, ∃ l : Lk, p = (kP l, eL l) ∧ GoodL c l ∧ l.2.2 ≤ 9
theorem dok_nil (c : Cores) : DOk c 0 [] := ⟨List.nodup_nil, Nat.le_refl _, fun p h => nomatch h⟩
theorem dok_put {c : Cores} {k : Nat} {es : List (List L2.Key × PyData)} (h : DOk c k es) {l : Lk} (g : GoodL c l) (w : l.2.2 ≤ 9) : DOk c (k + 1) (putD es (kP l) (eL l)) := by
  unfold putD
  by_cases q : (es.any fun p => decide (p.1 = kP l)) = true
  · rw [if_pos q]
    have ek : (es.map fun p => if p.1 = kP l then (p.1, eL l) else p).map (·.1) = es.map (·.1) := by
      rw [List.map_map]
      refine List.map_congr_left fun p _ => ?_
      show (if p.1 = kP l then (p.1, eL l) else p).1 = p.1
      by_cases z : p.1 = kP l
      · rw [if_pos z]
      · rw [if_neg z]
    refine ⟨by rw [ek]; exact h.nd, by rw [List.length_map]; exact Nat.le_succ_of_le h.le, fun p hp => ?_⟩
    obtain ⟨x, hx, e⟩ := List.mem_map.mp hp
    by_cases z : x.1 = kP l
    · rw [if_pos z] at e
      exact ⟨l, by rw [← e, z], g, w⟩
    · rw [if_neg z] at e
      rw [← e]
      exact h.each x hx
  · rw [if_neg q]
    refine ⟨?_, by rw [List.length_append]; show es.length + 1 ≤ k + 1; have := h.le; omega, fun p hp => ?_⟩
    · rw [List.map_append]
      refine List.nodup_append.mpr ⟨h.nd, by simp, fun a ha b hb e => q ?_⟩
      have hb' : b = kP l := by simpa using hb
      obtain ⟨x, hx, ex⟩ := List.mem_map.mp ha
      rw [List.any_eq_true]
      exact ⟨x, hx, decide_eq_true (by rw [ex, e, hb'])⟩
    · rcases List.mem_append.mp hp with z | z
      · exact h.each p z
      · exact ⟨l, by simpa using z, g, w⟩
theorem exists_map {α β : Type} {f : β → α} {Q : β → Prop} : ∀ {ks : List α}, (∀ k ∈ ks, ∃ l, k = f l ∧ Q l) → ∃ ls : List β, ks = ls.map f ∧ ∀ l ∈ ls, Q l
  | [], _ => ⟨[], rfl, fun _ h => nomatch h⟩
  | k :: r, h => by
    obtain ⟨l, e, q⟩ := h k List.mem_cons_self
    obtain ⟨ls, e', q'⟩ := exists_map (ks := r) fun x hx => h x (List.mem_cons_of_mem _ hx)
    refine ⟨l :: ls, by rw [e, e']; rfl, fun x hx => ?_⟩
    rcases List.mem_cons.mp hx with z | z
    · rw [z]; exact q
    · exact q' x z
theorem valD_mem {es : List (List L2.Key × PyData)} (nd : (es.map (·.1)).Nodup) {k : List L2.Key} {d : PyData} (h : (k, d) ∈ es) : valD es k = some d := by
  induction es with
  | nil => exact nomatch h
  | cons a r ih =>
    rw [List.map_cons, List.nodup_cons] at nd
    unfold valD
    rw [List.find?_cons]
    rcases List.mem_cons.mp h with e | h
    · subst e; simp
    · have ne : a.1 ≠ k := fun z => nd.1 (by rw [z]; exact List.mem_map_of_mem (f := (·.1)) h)
      simp only [ne, decide_false]
      exact ih nd.2 h
theorem kLe_lx {a b : Lk} (h : kLe (kP a) (kP b) = true) (n : kP a ≠ kP b) : lx a b := by
  have h' : (!(PyProof.Rows.lexLt PyProof.Rows.itemOrd [.inl 1, .inl b.1, .inl 1, .inl b.2.1, .inl 0] [.inl 1, .inl a.1, .inl 1, .inl a.2.1, .inl 0])) = true := h
  simp only [PyProof.Rows.lexLt, PyProof.Rows.itemOrd, PyProof.Rows.itemLt] at h'
  have n' : ¬ (a.1 = b.1 ∧ a.2.1 = b.2.1) := fun z => n (by unfold kP; rw [z.1, z.2])
  unfold lx
  simp at h'
  omega
theorem nodup_map {α β : Type} {f : α → β} : ∀ {l : List α}, (l.map f).Nodup → l.Pairwise fun a b => f a ≠ f b
  | [], _ => List.Pairwise.nil
  | a :: r, h => by
    rw [List.map_cons, List.nodup_cons] at h
    exact List.Pairwise.cons (fun b hb e => h.1 (by rw [e]; exact List.mem_map_of_mem hb)) (nodup_map h.2)
theorem drawn_ls {c : Cores} {k : Nat} {es : List (List L2.Key × PyData)} (gc : GoodC c) (h : DOk c k es) (hk : k ≤ 9) : ∃ ls, (es.map (·.1)).mergeSort kLe = ls.map kP ∧ (∀ l ∈ ls, valD es (kP l) = some (eL l)) ∧ Dr c ls := by
  have pm := List.mergeSort_perm (es.map (·.1)) kLe
  obtain ⟨ls, e, q⟩ := exists_map (f := kP) (Q := fun l => (kP l, eL l) ∈ es ∧ GoodL c l ∧ l.2.2 ≤ 9) (ks := (es.map (·.1)).mergeSort kLe) fun x hx => by
    have hx' := pm.mem_iff.mp hx
    obtain ⟨p, hp, ep⟩ := List.mem_map.mp hx'
    obtain ⟨l, el, g⟩ := h.each p hp
    exact ⟨l, by rw [← ep, el], by rw [← el]; exact hp, g⟩
  have nd : (ls.map kP).Nodup := by rw [← e]; exact pm.nodup_iff.mpr h.nd
  have so := List.pairwise_mergeSort (le := kLe) (fun a b c h1 h2 => (sortLe_total (PyProof.Rows.listOrd PyProof.Rows.itemOrd) false fun b => keyToks (kD b)).trans a b c h1 h2) (fun a b => Bool.or_eq_true_iff.mpr ((sortLe_total (PyProof.Rows.listOrd PyProof.Rows.itemOrd) false fun b => keyToks (kD b)).total a b)) (es.map (·.1))
  rw [e] at so
  have so' : ls.Pairwise fun a b => kLe (kP a) (kP b) = true := List.pairwise_map.mp so
  have ll : ls.length = es.length := by
    have := congrArg List.length e
    rw [List.length_mergeSort, List.length_map, List.length_map] at this
    exact this.symm
  refine ⟨ls, e, fun l hl => valD_mem h.nd (q l hl).1, gc, fun l hl => (q l hl).2.1, ?_, by rw [ll]; exact Nat.le_trans h.le hk, fun l hl => (q l hl).2.2⟩
  exact (so'.and (nodup_map nd)).imp fun {a b} z => kLe_lx z.1 z.2
theorem dok_alike {c : Cores} {k : Nat} {es : List (List L2.Key × PyData)} (h : DOk c k es) : AllAlike (es.map fun p => kD p.1) := fun d hd d' hd' => by
  obtain ⟨p, hp, e⟩ := List.mem_map.mp hd
  obtain ⟨p', hp', e'⟩ := List.mem_map.mp hd'
  obtain ⟨l, el, _⟩ := h.each p hp
  obtain ⟨l', el', _⟩ := h.each p' hp'
  rw [← e, ← e', el, el']
  rfl
theorem dok_sortable {c : Cores} {k : Nat} {es : List (List L2.Key × PyData)} (h : DOk c k es) : PySem.W.Sortable (es.map fun p => kD p.1) := .inl fun d hd => by
  obtain ⟨p, hp, e⟩ := List.mem_map.mp hd
  obtain ⟨l, el, _⟩ := h.each p hp
  rw [← e, el]
  exact ⟨_, _, rfl⟩
theorem core_of {found left pool : List Str} (p : (found ++ left).Perm pool) (h1 : 1 ≤ found.length) (h6 : found.length ≤ 24) (nd : pool.Nodup) (nm : ∀ s ∈ pool, IsNm s) : GoodCore found where
  pos := h1
  le := h6
  nd := (List.nodup_append.mp (p.nodup_iff.mpr nd)).1
  nm := fun s hs => nm s (p.mem_iff.mp (List.mem_append_left _ hs))
def poolA : List Str := ["a", "b", "c", "d", "e", "f"]
def poolB : List Str := ["u", "v", "w", "x", "y", "z"]
theorem poolA_nd : poolA.Nodup := by decide +kernel
theorem poolB_nd : poolB.Nodup := by decide +kernel
def nmB (s : Str) : Bool := decide (0 < s.length) && decide (s.length ≤ 8) && s.cps.toList.all fun c => decide (c ∈ letters.cps.toList)
theorem nm_of {s : Str} (h : nmB s = true) : IsNm s := by
  unfold nmB at h
  rw [Bool.and_eq_true, Bool.and_eq_true, decide_eq_true_eq, decide_eq_true_eq, List.all_eq_true] at h
  exact ⟨h.1.1, h.1.2, fun c hc => of_decide_eq_true (h.2 c (List.mem_of_getElem? hc)), fun c hc => .inl (of_decide_eq_true (h.2 c hc))⟩
theorem poolA_nm : ∀ s ∈ poolA, IsNm s := fun s hs => nm_of (List.all_eq_true.mp (show poolA.all nmB = true by decide +kernel) s hs)
theorem poolB_nm : ∀ s ∈ poolB, IsNm s := fun s hs => nm_of (List.all_eq_true.mp (show poolB.all nmB = true by decide +kernel) s hs)
theorem cd_tupL {K : PySem.W.Frag} {xs : List PyData} : CD K (gTuple K) [.list xs] (.tuple xs) := fun W H vs A r Q q => by
  cases r with
  | cons r1 r =>
    cases r
    cases r1 with
    | lst hs r1 => exact ⟨_, _, rfl, .inl ⟨.inl (.inl (cut_ex _ _ hs)), fun l hl => q _ _ (Ex.new hl) (.tup (cut_new A hl) (r1.mono (cut_mono (Ex.new hl))))⟩⟩
section
variable {K : PySem.W.Frag} {ds : List Sl} {tr : TA} {i : Nat} {E : XK}
theorem es_someB {P : PyData → List Sl → Prop} (h0 : ∃ ps, ds[i]? = some (.bl ps)) (h : Eas K tr ds fun xs ds1 => ∃ (ps : List PyData) (pool : List Str) (m n : Nat), ds1[i]? = some (.bl ps) ∧ xs = [.list (pool.map .str), .int (m : Int)] ∧ m ≤ pool.length ∧ pool.length ≤ 900 ∧ n + m ≤ 1000 ∧ PotOk n ps ∧
    ∀ (found left : List Str) ps', found.length = m → (found ++ left).Perm pool → Moves m ps ps' → P (.list (found.map .str)) (ds1.set i (.bl ps'))) : Es K (tCall (spB K sPre sPo) [] E (tCons (tVar i) tr)) ds P :=
  es_callB (Pre := sPre) (Po := sPo) (fun B W0 M N H0 W σ H F Q q => h B W0 M N H0 W σ H F Q fun vs H' W' xs ds1 ⟨ps, pool, m, n, hs, ex, hm, hp, hn, pk, k⟩ F' r => q vs H' W' xs ds1 ⟨ps, by subst ex; exact ⟨_, _, rfl, pool, m, n, rfl, rfl, hm, hp, hn, pk⟩, .inl ⟨hs, fun d ps' ⟨pool', found, left, m', e, ed, hl, pm, mv⟩ => by
    rw [ex] at e
    injection e with e1 e
    injection e with e2 _
    injection e1 with e1
    injection e2 with e2
    have e1 := str_inj e1
    have : m' = m := by omega
    subst this ed
    rw [← e1] at pm
    exact k found left ps' hl pm mv⟩⟩ F' r) (h0.elim fun ps e => ⟨ps, .inl e⟩)
end
end L3
end

section
set_option Elab.async false
set_option linter.all false
set_option maxRecDepth 100000
set_option maxHeartbeats 1000000
set_option autoImplicit false
namespace L3
open PySem L2
section
variable {Pr : Program} {w : World} {K : PySem.W.Frag} {mg : Str → Option Value} {base : Heap}
theorem ok__law_some (T : Fx K mg) : Ok Pr w K mg base "_law_some" 2 ["pot", "pool", "amount"] (spB K sPre sPo) := by
  obtain ⟨f, fd, F, b, g⟩ := T.f__law_some
  have c__law_take := ok__law_take (Pr := Pr) (w := w) (base := base) T
  refine ⟨f, fd, g, F.kp, b, fn_okB F sc__law_some (fun qs xs h => by obtain ⟨_, _, rfl, _⟩ := h; rfl) (fun cdv A outer s H E hr => ⟨_, (pss_cons (ps_par (i := 3) (j := 4) rfl sc__law_some.nd rfl rfl (by decide) rfl rfl (pa_cons (pe_callTy (kc_list K) (by rfl) T.b_list bt_list (pa_cons (pv 1) pa_nil)) (pa_cons (pe_lst pa_nil) pa_nil)) (by rfl))
      (pss_cons (ps_for PassesOwn.never rfl (pi_range1 (by rfl) T.b_range (pa_cons (pv 2) pa_nil)) (pg_name (i := 5) sc__law_some.nd rfl (by first | exact Or.inl rfl | exact Or.inr rfl)) (pss_one (ps_expr (pe_bm PySem.F.plainAttrs_list PySem.F.slot_list_append PySem.F.type_list_append mt_append (pv 4) (pa_cons (pe_bm PySem.F.plainAttrs_list PySem.F.slot_list_pop PySem.F.type_list_pop mt_popAt (pv 3) (pa_cons (pe_own c__law_take (hr.mono (by decide)) (by rfl) (pa_cons (pv 0) (pa_cons (pe_callB (kc_len K) (by rfl) T.b_len bt_len (pa_cons (pv 3) pa_nil)) pa_nil))) pa_nil)) pa_nil)))))
      (pss_one (ps_ret (pv 4))))), fun qs xs hP => ?_⟩)⟩
  obtain ⟨_, _, rfl, pool, m, n, rfl, rfl, hm, hp, hn, pk⟩ := hP
  refine q_par (s1 := .ol (pool.map .str)) (s2 := .ol []) (EnL.ek (en_listR (Ev.rl (ev_var rfl)))) (EnL.ek (en_lst ea_nil (by decide))) ?_
  refine q_for (List.range m) (fun (i : Nat) => .int (i : Int)) (fun i ds => ∃ (left found : List Str) (ps : List PyData) (s5 : Sl), ds = [.bl ps, .pu (.list (pool.map .str)), .pu (.int (m : Int)), .ol (left.map .str), .ol (found.map .str), s5] ∧ found.length = i ∧ (found ++ left).Perm pool ∧ Moves i qs ps) (fun i ds => ds.set 5 (.pu (.int (i : Int))))
    (eI_rng1 (n := (m : Int)) (ea_cons (ev_var rfl) ea_nil) (by omega)) ⟨pool, [], qs, _, rfl, rfl, List.Perm.refl _, fun _ h => h⟩ (fun i l ds _ ⟨left, found, ps, s5, e, _⟩ => by subst e; exact tg1) ?_ ?_
  · rintro i _ _ hi ⟨left, found, ps, s5, rfl, hf, pm, mv⟩
    have him : i < m := by
      have := (List.getElem?_eq_some_iff.mp hi).1
      rwa [List.length_range] at this
    have ll : left.length = pool.length - i := by
      have := pm.length_eq
      rw [List.length_append, hf] at this
      omega
    refine sx_appE ⟨_, rfl⟩ (es_pop ⟨_, rfl⟩ (es_takeB (u := left.length) (n := n + i) rfl (ea_cons (ev_is (ev_lenR (er_own rfl)) (by rw [List.length_map])) ea_nil) (by omega) (by omega) (by omega) (mv n pk) fun k ps' hk mv' => ?_))
    obtain ⟨x, hx⟩ := get_lt hk
    refine ⟨left.map .str, k, .str x, rfl, rfl, by rw [List.getElem?_map, hx]; rfl, by rw [List.length_map]; omega, found.map .str, rfl, by rw [List.length_map]; omega, ?_⟩
    refine ⟨left.eraseIdx k, found ++ [x], ps', _, by rw [erase_map, List.map_append]; rfl, by rw [List.length_append, hf]; rfl, ?_, mv.trans mv'⟩
    rw [List.append_assoc]
    exact ((perm_erase hx).append_left found).trans pm
  · rintro _ ⟨left, found, ps, s5, rfl, hf, pm, mv⟩
    rw [List.length_range] at hf mv
    exact sx_retO rfl ⟨ps, rfl, pool, found, left, m, rfl, rfl, hf, pm, mv⟩
end
end L3
end

section
set_option Elab.async false
set_option linter.all false
set_option maxRecDepth 100000
set_option maxHeartbeats 1000000
set_option autoImplicit false
namespace L3
open PySem L2
section
variable {Pr : Program} {w : World} {K : PySem.W.Frag} {mg : Str → Option Value} {base : Heap}
theorem ok__law_drawn (T : Fx K mg) : Ok Pr w K mg base "_law_drawn" 3 ["pot"] (spB K dPre dPo) := by
  obtain ⟨f, fd, F, b, g⟩ := T.f__law_drawn
  have c__law_some := ok__law_some (Pr := Pr) (w := w) (base := base) T
  have c__law_take := ok__law_take (Pr := Pr) (w := w) (base := base) T
  refine ⟨f, fd, g, F.kp, b, fn_okB F sc__law_drawn (fun qs xs h => by obtain ⟨rfl, _⟩ := h; rfl) (fun cdv A outer s H E hr => ⟨_, (pss_cons (ps_set (i := 1) sc__law_drawn.nd rfl (.inl rfl) (pe_callTy (kc_tuple K) (by rfl) T.b_tuple bt_tuple (pa_cons (pe_own c__law_some (hr.mono (by decide)) (by rfl) (pa_cons (pv 0) (pa_cons (pe_lst (pa_cons pe_str (pa_cons pe_str (pa_cons pe_str (pa_cons pe_str (pa_cons pe_str (pa_cons pe_str pa_nil))))))) (pa_cons (pe_op (ko_add K) pe_int (pe_own c__law_take (hr.mono (by decide)) (by rfl) (pa_cons (pv 0) (pa_cons pe_int pa_nil)))) pa_nil)))) pa_nil)))
      (pss_cons (ps_set (i := 2) sc__law_drawn.nd rfl (.inl rfl) (pe_callTy (kc_tuple K) (by rfl) T.b_tuple bt_tuple (pa_cons (pe_own c__law_some (hr.mono (by decide)) (by rfl) (pa_cons (pv 0) (pa_cons (pe_lst (pa_cons pe_str (pa_cons pe_str (pa_cons pe_str (pa_cons pe_str (pa_cons pe_str (pa_cons pe_str pa_nil))))))) (pa_cons (pe_op (ko_add K) pe_int (pe_own c__law_take (hr.mono (by decide)) (by rfl) (pa_cons (pv 0) (pa_cons pe_int pa_nil)))) pa_nil)))) pa_nil)))
      (pss_cons (ps_set (i := 3) sc__law_drawn.nd rfl (.inr rfl) pe_dnewT)
      (pss_cons (ps_for PassesOwn.never rfl (pi_range1 (by rfl) T.b_range (pa_cons (pe_own c__law_take (hr.mono (by decide)) (by rfl) (pa_cons (pv 0) (pa_cons pe_int pa_nil))) pa_nil)) (pg_name (i := 4) sc__law_drawn.nd rfl (by first | exact Or.inl rfl | exact Or.inr rfl)) (pss_cons (ps_set (i := 5) sc__law_drawn.nd rfl (.inl rfl) (pe_tup (pa_cons (pe_callTy cr_gInt (by rfl) T.b_int bt_int (pa_cons (pe_own c__law_take (hr.mono (by decide)) (by rfl) (pa_cons (pv 0) (pa_cons (pe_callB (kc_len K) (by rfl) T.b_len bt_len (pa_cons (pv 1) pa_nil)) pa_nil))) pa_nil)) (pa_cons (pe_callTy cr_gInt (by rfl) T.b_int bt_int (pa_cons (pe_own c__law_take (hr.mono (by decide)) (by rfl) (pa_cons (pv 0) (pa_cons (pe_callB (kc_len K) (by rfl) T.b_len bt_len (pa_cons (pv 2) pa_nil)) pa_nil))) pa_nil)) pa_nil))))
      (pss_one (ps_dput (u1 hr) (pv 3) (pv 5) (pe_op (ko_add K) (pv 5) (pe_tup (pa_cons (pe_callTy cr_gInt (by rfl) T.b_int bt_int (pa_cons (pe_op (ko_add K) pe_int (pe_own c__law_take (hr.mono (by decide)) (by rfl) (pa_cons (pv 0) (pa_cons pe_int pa_nil)))) pa_nil)) pa_nil))) rfl))))
      (pss_one (ps_ret (pe_tup (pa_cons (pe_tup (pa_cons (pv 1) (pa_cons (pv 2) pa_nil))) (pa_cons (pe_callTy (kc_tuple K) (by rfl) T.b_tuple bt_tuple (pa_cons (pe_lc (own := [("pair", 5)]) (g := (gName 5)) rfl sc__law_drawn.nd (kw_seq K (pe_callB (cr_sortT rfl (u64 hr)) (by rfl) T.b_sorted bt_sorted (pa_cons (pv 3) pa_nil))) (blkOk_by (own := [("pair", 5)]) (N := N__law_drawn) (sc := defScope st__law_drawn) (by decide +kernel)) (fun _ _ _ _ _ => (pg_name (i := 5) sc__law_drawn.nd rfl (by first | exact Or.inl rfl | exact Or.inr rfl))) (fun _ _ _ _ _ => pts_nil) (fun _ _ _ _ _ => (pe_dget (u1 hr) (pv 3) (pv 5) (fun _ _ => rfl)))) pa_nil)) pa_nil))))))))), fun qs xs hP => ?_⟩)⟩
  obtain ⟨rfl, n, hn, pk⟩ := hP
  refine sx_seq (Mid := fun ds' => ∃ (one : List Str) (ps : List PyData), GoodCore one ∧ one.length ≤ 6 ∧ (∀ s ∈ one, s ∈ poolA) ∧ Moves 7 qs ps ∧ ds' = [.bl ps, .pu (eTx one), .un, .un, .un, .un])
    (sx_setE (es_cb (eas_one (es_someB ⟨_, rfl⟩ (eas_cons (P1 := fun x ds1 => x = .list (poolA.map .str) ∧ ds1 = [.bl qs, .un, .un, .un, .un, .un]) (es_ev (en_lst (ea_cons ev_str (ea_cons ev_str (ea_cons ev_str (ea_cons ev_str (ea_cons ev_str (ea_cons ev_str ea_nil)))))) (by show 6 ≤ 100000; decide)).ev ⟨rfl, rfl⟩) ?_))))) ?_
  · rintro _ _ ⟨rfl, rfl⟩
    refine eas_one (es_op (P1 := fun x ds1 => x = .int 1 ∧ ds1 = [.bl qs, .un, .un, .un, .un, .un]) (es_ev ev_int ⟨rfl, rfl⟩) ?_)
    rintro _ _ ⟨rfl, rfl⟩
    refine es_takeB (u := 6) (n := n) rfl (ea_cons ev_int ea_nil) (by omega) (by omega) (by omega) pk fun k ps1 hk mv1 => ⟨_, rd_addI, ps1, poolA, k + 1, n + 1, rfl, by rw [show (1 + (k : Int)) = ((k + 1 : Nat) : Int) by omega], by show k + 1 ≤ 6; omega, by show 6 ≤ 900; decide, by omega, mv1 n pk, fun found left ps2 hl pm mv2 => ⟨_, cd_tupL, by show 1 < 6; decide, found, ps2, ?_, by omega, fun s hs => pm.mem_iff.mp (List.mem_append_left _ hs), fun m hm => (mv1.trans mv2 m hm).mono (by omega), rfl⟩⟩
    exact core_of pm (by omega) (by omega) poolA_nd poolA_nm
  rintro _ ⟨one, ps, g1, l1, inA, mv, rfl⟩
  refine sx_seq (Mid := fun ds' => ∃ (other : List Str) (ps' : List PyData), GoodCore other ∧ other.length ≤ 6 ∧ Moves 14 qs ps' ∧ ds' = [.bl ps', .pu (eTx one), .pu (eTx other), .un, .un, .un])
    (sx_setE (es_cb (eas_one (es_someB ⟨_, rfl⟩ (eas_cons (P1 := fun x ds1 => x = .list (poolB.map .str) ∧ ds1 = [.bl ps, .pu (eTx one), .un, .un, .un, .un]) (es_ev (en_lst (ea_cons ev_str (ea_cons ev_str (ea_cons ev_str (ea_cons ev_str (ea_cons ev_str (ea_cons ev_str ea_nil)))))) (by show 6 ≤ 100000; decide)).ev ⟨rfl, rfl⟩) ?_))))) ?_
  · rintro _ _ ⟨rfl, rfl⟩
    refine eas_one (es_op (P1 := fun x ds1 => x = .int 1 ∧ ds1 = [.bl ps, .pu (eTx one), .un, .un, .un, .un]) (es_ev ev_int ⟨rfl, rfl⟩) ?_)
    rintro _ _ ⟨rfl, rfl⟩
    refine es_takeB (u := 6) (n := n + 7) rfl (ea_cons ev_int ea_nil) (by omega) (by omega) (by omega) (mv n pk) fun k ps1 hk mv1 => ⟨_, rd_addI, ps1, poolB, k + 1, n + 8, rfl, by rw [show (1 + (k : Int)) = ((k + 1 : Nat) : Int) by omega], by show k + 1 ≤ 6; omega, by show 6 ≤ 900; decide, by omega, mv1 _ (mv n pk), fun found left ps2 hl pm mv2 => ⟨_, cd_tupL, by show 2 < 6; decide, found, ps2, ?_, by omega, fun m hm => ((mv.trans mv1).trans mv2 m hm).mono (by omega), rfl⟩⟩
    exact core_of pm (by omega) (by omega) poolB_nd poolB_nm
  rintro _ ⟨other, ps', g2, l2, mv', rfl⟩
  refine q_dict end_new ?_
  refine sx_seq (Mid := fun ds' => ∃ (k : Nat) (es : List (List L2.Key × PyData)) (p : List PyData) (s4 s5 : Sl), k ≤ 9 ∧ DOk (one, other) k es ∧ Moves 42 qs p ∧ ds' = [.bl p, .pu (eTx one), .pu (eTx other), .od es, s4, s5])
    (sx_forR (ta' := tNil) (eas_one (es_takeB (u := 10) (n := n + 14) rfl (ea_cons ev_int ea_nil) (by omega) (by omega) (by omega) (mv' n pk) fun k p1 hk mv1 => ⟨(k : Int), rfl, by omega, by omega, ?_⟩))) ?_
  · have mv2 := mv'.trans mv1
    refine sx_for (List.range k) (fun (i : Nat) => .int (i : Int)) (fun i ds => ∃ (es : List (List L2.Key × PyData)) (p : List PyData) (s4 s5 : Sl), DOk (one, other) i es ∧ Moves (15 + 3 * i) qs p ∧ ds = [.bl p, .pu (eTx one), .pu (eTx other), .od es, s4, s5]) (fun i ds => ds.set 4 (.pu (.int (i : Int))))
      (eI_rng1 (n := (k : Int)) (ea_cons ev_int ea_nil) (by omega)) ⟨_, _, _, _, dok_nil _, mv2, rfl⟩ (fun i l ds _ ⟨es, p, s4, s5, _, _, e⟩ => by subst e; exact tg1) ?_ ?_
    · rintro i _ _ hi ⟨es, p, s4, s5, dk, mp, rfl⟩
      have hik : i < k := by
        have := (List.getElem?_eq_some_iff.mp hi).1
        rwa [List.length_range] at this
      have hl : (List.range k)[i]? = some i := by
        rw [List.getElem?_range hik]
      rename_i lap
      refine sx_seq (Mid := fun ds' => ∃ (a b : Nat) (p' : List PyData), a < one.length ∧ b < other.length ∧ Moves (17 + 3 * i) qs p' ∧ ds' = [.bl p', .pu (eTx one), .pu (eTx other), .od es, .pu (.int (lap : Int)), .pu (.tuple [.int (a : Int), .int (b : Int)])])
        (sx_setE (es_tup (eas_cons (P1 := fun x ds1 => ∃ (a : Nat) (p' : List PyData), a < one.length ∧ Moves (16 + 3 * i) qs p' ∧ x = .int (a : Int) ∧ ds1 = [.bl p', .pu (eTx one), .pu (eTx other), .od es, .pu (.int (lap : Int)), s5])
          (es_cb (eas_one (es_takeB (u := one.length) (n := n + (15 + 3 * i)) rfl (ea_cons (ev_is (ev_cb (ea_cons (ev_var rfl) ea_nil) cd_lenT) (by rw [List.length_map])) ea_nil) g1.pos (by omega) (by omega) (mp n pk) fun a p2 ha mv3 => ⟨_, cd_intI, a, p2, ha, fun m hm => (mp.trans mv3 m hm).mono (by omega), rfl, rfl⟩))) ?_))) ?_
      · rintro _ _ ⟨a, p2, ha, mv3, rfl, rfl⟩
        exact eas_one (es_cb (eas_one (es_takeB (u := other.length) (n := n + (16 + 3 * i)) rfl (ea_cons (ev_is (ev_cb (ea_cons (ev_var rfl) ea_nil) cd_lenT) (by rw [List.length_map])) ea_nil) g2.pos (by omega) (by omega) (mv3 n pk) fun b p3 hb mv4 => ⟨_, cd_intI, by show 2 ≤ 100000; decide, by show 5 < 6; decide, a, b, p3, ha, hb, fun m hm => (mv3.trans mv4 m hm).mono (by omega), rfl⟩)))
      · rintro _ ⟨a, b, p2, ha, hb, mv3, rfl⟩
        refine sx_dputE (k := kP ((a : Int), (b : Int), 0)) (es_op (P1 := fun x ds1 => x = .tuple [.int (a : Int), .int (b : Int)] ∧ ds1 = [.bl p2, .pu (eTx one), .pu (eTx other), .od es, .pu (.int (lap : Int)), .pu (.tuple [.int (a : Int), .int (b : Int)])]) (es_ev (ev_var rfl) ⟨rfl, rfl⟩) ?_)
        rintro _ _ ⟨rfl, rfl⟩
        refine es_tup (eas_one (es_cb (eas_one (es_op (P1 := fun x ds1 => x = .int 1 ∧ ds1 = [.bl p2, .pu (eTx one), .pu (eTx other), .od es, .pu (.int (lap : Int)), .pu (.tuple [.int (a : Int), .int (b : Int)])]) (es_ev ev_int ⟨rfl, rfl⟩) ?_))))
        rintro _ _ ⟨rfl, rfl⟩
        refine es_takeB (u := 9) (n := n + (17 + 3 * i)) rfl (ea_cons ev_int ea_nil) (by omega) (by omega) (by omega) (mv3 n pk) fun v p3 hv mv4 => ⟨_, rd_addI, _, cd_intI, by show 1 ≤ 100000; decide, _, rd_addT (by show 2 + 1 ≤ 100000; decide), es, rfl, ev_var rfl, by have := dk.le; omega, ?_⟩
        exact ⟨_, p3, _, _, dok_put (l := ((a : Int), (b : Int), 1 + (v : Int))) dk ⟨by show 0 ≤ (a : Int); omega, by show (a : Int) ≤ (one.length : Int) - 1; omega, by show 0 ≤ (b : Int); omega, by show (b : Int) ≤ (other.length : Int) - 1; omega, by show 1 ≤ 1 + (v : Int); omega, by show 1 + (v : Int) ≤ 99; omega⟩ (by show 1 + (v : Int) ≤ 9; omega), fun m hm => (mv3.trans mv4 m hm).mono (by omega), rfl⟩
    · rintro _ ⟨es, p, s4, s5, dk, mp, rfl⟩
      rw [List.length_range] at dk mp
      exact ⟨k, es, p, s4, s5, by omega, dk, fun m hm => (mp m hm).mono (by omega), rfl⟩
  rintro _ ⟨k, es, p, s4, s5, hk, dk, mp, rfl⟩
  obtain ⟨ls, e, hv, dr⟩ := drawn_ls ⟨g1, g2⟩ dk hk
  have l9 := dr.le
  have el := dk.le
  exact sx_ret (ev_tup (ea_cons (ev_tup (ea_cons (ev_var rfl) (ea_cons (ev_var rfl) ea_nil)) (by show 2 ≤ 100000; decide)) (ea_cons (ev_tupleR (lc1 ls (fun l => kD (kP l)) eL (eIr_list ((en_sortT rfl (dok_alike dk) (dok_sortable dk) (by omega)).rl.is (by rw [e, List.map_map]; rfl))) (by omega) (fun l hl => ev_dget (erd_own rfl) (ev_var rfl) (hv l hl))).rl) ea_nil)) (by show 2 ≤ 100000; decide)) ⟨p, rfl, (one, other), ls, dr, l1, fun z => absurd (inA _ z) (by decide +kernel), rfl, mp⟩
end
end L3
end

section
set_option Elab.async false
set_option linter.all false
set_option maxRecDepth 100000
set_option autoImplicit false
/-! moved, scaled -/
namespace L3
open PySem L2
def mv (t : Int) (l : Lk) : Lk := (l.1 + (if decide (t ≤ l.1) then 1 else 0), l.2.1, l.2.2)
def sc (b : Int) (l : Lk) : Lk := (l.1, l.2.1, b * l.2.2)
theorem mv_lt (t : Int) (a b : Lk) : (mv t a).1 < (mv t b).1 ↔ a.1 < b.1 := by
  unfold mv
  simp only [decide_eq_true_eq]
  split <;> split <;> omega
theorem mv_eq (t : Int) (a b : Lk) : (mv t a).1 = (mv t b).1 ↔ a.1 = b.1 := by
  unfold mv
  simp only [decide_eq_true_eq]
  split <;> split <;> omega
theorem mv_b (t : Int) (a b : Lk) : behind (mv t a) (mv t b) = behind a b := by
  rw [Bool.eq_iff_iff, behind_iff, behind_iff, mv_lt]
  exact Iff.rfl
theorem sc_b (b : Int) (x y : Lk) : behind (sc b x) (sc b y) = behind x y := rfl
def fresh : Str := "fresh"
theorem fresh_nm : IsNm fresh := nm_of (by decide +kernel)
def longC (c : Cores) (t : Nat) : Cores := (c.1.take t ++ [fresh] ++ c.1.drop t, c.2)
theorem dr_mv {c : Cores} {ls : List Lk} (d : Dr c ls) {t : Nat} (ht : t ≤ c.1.length) (h6 : c.1.length ≤ 6) (hf : fresh ∉ c.1) : Dr (longC c t) (ls.map (mv t)) := by
  have pm : (c.1.take t ++ [fresh] ++ c.1.drop t).Perm (fresh :: c.1) := by
    have h := List.perm_middle (a := fresh) (l₁ := c.1.take t) (l₂ := c.1.drop t)
    rw [List.take_append_drop] at h
    rw [List.append_assoc]
    exact h
  have ln : (longC c t).1.length = c.1.length + 1 := pm.length_eq
  refine ⟨⟨⟨by omega, by omega, pm.nodup_iff.mpr (List.nodup_cons.mpr ⟨hf, d.gc.1.nd⟩), fun s hs => ?_⟩, d.gc.2⟩, fun l hl => ?_, ?_, by rw [List.length_map]; exact d.le, fun l hl => ?_⟩
  · rcases List.mem_cons.mp (pm.mem_iff.mp hs) with z | z
    · rw [z]; exact fresh_nm
    · exact d.gc.1.nm s z
  · obtain ⟨x, hx, e⟩ := List.mem_map.mp hl
    subst e
    obtain ⟨a1, a2, a3, a4, a5, a6⟩ := d.each x hx
    refine ⟨?_, ?_, a3, a4, a5, a6⟩
    · show 0 ≤ x.1 + _
      split <;> omega
    · rw [ln]
      show x.1 + _ ≤ _
      split <;> omega
  · refine List.pairwise_map.mpr (d.srt.imp fun {a b} h => ?_)
    rcases h with h | ⟨h1, h2⟩
    · exact .inl ((mv_lt _ _ _).mpr h)
    · exact .inr ⟨(mv_eq _ _ _).mpr h1, h2⟩
  · obtain ⟨x, hx, e⟩ := List.mem_map.mp hl
    subst e
    exact d.w9 x hx
theorem wof_mv (t : Int) (ls : List Lk) : wof (ls.map (mv t)) = wof ls := by
  rw [wof_map (mv t) 1 (by decide) (mv_b t) (fun a => (Int.one_mul _).symm), Int.one_mul]
theorem srts_mv (t : Int) (ls : List Lk) : srts (ls.map (mv t)) = srts ls := srts_map (mv t) (mv_b t) (fun _ => rfl) ls
theorem wof_sc {b : Int} (h : 2 ≤ b) (ls : List Lk) : wof (ls.map (sc b)) = b * wof ls := wof_map (sc b) b (by omega) (sc_b b) (fun _ => rfl) ls
theorem srt_sc (b : Int) {ls : List Lk} (s : Srt ls) : Srt (ls.map (sc b)) := List.pairwise_map.mpr (s.imp fun {_ _} h => h)
theorem gl_sc {c : Cores} {ls : List Lk} (d : Dr c ls) {b : Int} (h1 : 2 ≤ b) (h2 : b ≤ 10) : GoodLs c (ls.map (sc b)) := by
  refine ⟨by rw [List.length_map]; have := d.le; omega, fun l hl => ?_, asc_ij (srt_sc b d.srt)⟩
  obtain ⟨x, hx, e⟩ := List.mem_map.mp hl
  subst e
  obtain ⟨a1, a2, a3, a4, a5, a6⟩ := d.each x hx
  have w := d.w9 x hx
  have p : 0 < b * x.2.2 := Int.mul_pos (by omega) (by omega)
  have q : b * x.2.2 ≤ 10 * 9 := Int.mul_le_mul h2 w (by omega) (by decide)
  exact ⟨a1, a2, a3, a4, by show 1 ≤ b * x.2.2; omega, by show b * x.2.2 ≤ 99; omega⟩
theorem sc_inj {b : Int} (h : 2 ≤ b) {x y : Lk} (e : sc b x = sc b y) : x = y := by
  obtain ⟨x1, x2, x3⟩ := x
  obtain ⟨y1, y2, y3⟩ := y
  injection e with e1 e
  injection e with e2 e3
  have e3 : b * x3 = b * y3 := e3
  have e4 := Int.eq_of_mul_eq_mul_left (by omega) e3
  have e1 : x1 = y1 := e1
  have e2 : x2 = y2 := e2
  rw [e1, e2, e4]
theorem sum_scale (b : Int) : ∀ xs : List Int, (xs.map (b * ·)).sum = b * xs.sum
  | [] => by simp
  | x :: r => by rw [List.map_cons, List.sum_cons, List.sum_cons, sum_scale b r, Int.mul_add]
def scK (b : Int) (k : Cnt) : Cnt := (k.1.map (sc b), b * k.2)
theorem mem_sc {b : Int} (h : 2 ≤ b) {x : Lk} {ls : List Lk} : sc b x ∈ ls.map (sc b) ↔ x ∈ ls := by
  constructor
  · intro m
    obtain ⟨y, hy, e⟩ := List.mem_map.mp m
    rwa [sc_inj h e] at hy
  · exact fun m => List.mem_map_of_mem m
theorem over_sc {b : Int} (h : 2 ≤ b) (ks : List Cnt) (x : Lk) : over (ks.map (scK b)) (sc b x) = b * over ks x := by
  unfold over
  rw [← sum_scale, List.filter_map, List.map_map, List.map_map]
  have e : (ks.filter ((fun k : Cnt => decide (sc b x ∈ k.1)) ∘ scK b)) = ks.filter fun k => decide (x ∈ k.1) := by
    apply List.filter_congr
    intro k _
    show decide (sc b x ∈ k.1.map (sc b)) = _
    rw [decide_eq_decide]
    exact mem_sc h
  rw [e]
  rfl
theorem shows_sc {c : Cores} {ls m : List Lk} {ks : List Cnt} (d : Dr c ls) (h : IsCh ls m) (w : wt m = wof ls) (ct : CtOk ls ks) (kl : ks.length ≤ 1000) {b : Int} (h1 : 2 ≤ b) : Shows (ls.map (sc b)) (m.map (sc b)) (ks.map (scK b)) := by
  have l9 := d.le
  refine ⟨by rw [List.length_map]; have := h.sub.length_le; omega, fun l hl => ?_, adj_all (List.pairwise_map.mpr (h.ch.imp fun {_ _} z => z)), by rw [List.length_map]; exact kl, fun k hk => ?_, ?_, fun l hl => ?_⟩
  · obtain ⟨x, hx, e⟩ := List.mem_map.mp hl
    subst e
    exact List.mem_map_of_mem (h.sub.subset hx)
  · obtain ⟨k0, hk0, e⟩ := List.mem_map.mp hk
    subst e
    obtain ⟨s, ne, pos, anti⟩ := ct.each k0 hk0
    refine ⟨fun z => ne (List.map_eq_nil_iff.mp z), by show (k0.1.map _).length ≤ 60; rw [List.length_map]; have := s.length_le; omega, fun l hl => ?_, asc_ijw (srt_sc b (d.srt.sublist s)), fun l hl m hm => ?_, ?_⟩
    · obtain ⟨x, hx, e⟩ := List.mem_map.mp hl
      subst e
      exact List.mem_map_of_mem (s.subset hx)
    · obtain ⟨x, hx, e⟩ := List.mem_map.mp hl
      obtain ⟨y, hy, e'⟩ := List.mem_map.mp hm
      subst e e'
      exact anti x hx y hy
    · have : 0 < b * k0.2 := Int.mul_pos (by omega) (by omega)
      show 1 ≤ b * k0.2
      omega
  · have e1 : wt (m.map (sc b)) = b * wt m := by
      unfold wt
      rw [← sum_scale, List.map_map, List.map_map]
      rfl
    have e2 : ((ks.map (scK b)).map (·.2)).sum = b * (ks.map (·.2)).sum := by
      rw [← sum_scale, List.map_map, List.map_map]
      rfl
    rw [e1, e2, w, ct.sum]
  · obtain ⟨x, hx, e⟩ := List.mem_map.mp hl
    subst e
    rw [over_sc h1, ct.cov x hx]
    exact Int.le_refl _
theorem sh_srts (ls : List Lk) : SeqAt.shaped (.tuple ((srts ls).map .str)) = true := by
  unfold srts
  rw [List.map_map]
  have can : ∀ p : Int × Nat, (PyData.str (sortOf ls p.2 p.1)).canLay0 = true := fun p => by
    have := sh_sort ls p.2 p.1
    unfold SeqAt.shaped at this
    exact (Bool.and_eq_true_iff.mp this).1
  exact sh_tup (can_map (fun p : Int × Nat => PyData.str (sortOf ls p.2 p.1)) can _) (Nat.le_trans (dep_map (fun p : Int × Nat => PyData.str (sortOf ls p.2 p.1)) 1 (fun _ => by simp [PyData.depth]) _) (by decide))
theorem eqv_strs : ∀ xs : List Str, PyData.eqv (.tuple (xs.map .str)) (.tuple (xs.map .str)) = true := fun xs => by
  show PyData.eqvAll (xs.map .str) (xs.map .str) = true
  induction xs with
  | nil => rfl
  | cons x r ih =>
    rw [List.map_cons]
    show (PyData.eqv (.str x) (.str x) && PyData.eqvAll (r.map .str) (r.map .str)) = true
    rw [ih]
    simp [PyData.eqv]
def lPre (ps xs : List PyData) : Prop := xs = [] ∧ ∃ n, n ≤ 800 ∧ PotOk n ps
def lPo (ps xs : List PyData) (d : PyData) (ps' : List PyData) : Prop := d = .bool true ∧ Moves 44 ps ps'
end L3
end

section
set_option Elab.async false
set_option linter.all false
set_option maxRecDepth 100000
set_option maxHeartbeats 1000000
set_option autoImplicit false
namespace L3
open PySem L2
section
variable {Pr : Program} {w : World} {K : PySem.W.Frag} {mg : Str → Option Value} {base : Heap}
theorem ok__law_right (T : Fx K mg) : Ok Pr w K mg base "_law_right" 10 ["pot"] (spB K lPre lPo) := by
  obtain ⟨f, fd, F, b, g⟩ := T.f__law_right
  have c__law_drawn := ok__law_drawn (Pr := Pr) (w := w) (base := base) T
  have c__law_matches := ok__law_matches (Pr := Pr) (w := w) (base := base) T
  have c_worth := ok_worth (Pr := Pr) (w := w) (base := base) T
  have c__law_weight := ok__law_weight (Pr := Pr) (w := w) (base := base) T
  have c_best := ok_best (Pr := Pr) (w := w) (base := base) T
  have c__law_are_counts_right := ok__law_are_counts_right (Pr := Pr) (w := w) (base := base) T
  have c__law_are_cuts_right := ok__law_are_cuts_right (Pr := Pr) (w := w) (base := base) T
  have c__law_are_likes_right := ok__law_are_likes_right (Pr := Pr) (w := w) (base := base) T
  have c__law_take := ok__law_take (Pr := Pr) (w := w) (base := base) T
  have c_sorts := ok_sorts (Pr := Pr) (w := w) (base := base) T
  have c_shows_best := ok_shows_best (Pr := Pr) (w := w) (base := base) T
  refine ⟨f, fd, g, F.kp, b, fn_okB F sc__law_right (fun qs xs h => by obtain ⟨rfl, _⟩ := h; rfl) (fun cdv A outer s H E hr => ⟨_, (pss_cons (ps_asg (pe_own c__law_drawn (hr.mono (by decide)) (by rfl) (pa_cons (pv 0) pa_nil)) (pg_tup rfl (pgs_cons (pg_name (i := 1) sc__law_right.nd rfl (by first | exact Or.inl rfl | exact Or.inr rfl)) (pgs_cons (pg_name (i := 2) sc__law_right.nd rfl (by first | exact Or.inl rfl | exact Or.inr rfl)) pgs_nil))))
      (pss_cons (ps_set (i := 3) sc__law_right.nd rfl (.inl rfl) (pe_own c__law_matches (hr.mono (by decide)) (by rfl) (pa_cons (pv 2) pa_nil)))
      (pss_cons (ps_set (i := 4) sc__law_right.nd rfl (.inl rfl) (pe_own c_worth (hr.mono (by decide)) (by rfl) (pa_cons (pv 1) (pa_cons (pv 2) pa_nil))))
      (pss_cons (ps_if (pt_cmpR (ko_ne K (u64 hr)) (pv 4) (pe_callB (kc_max K rfl) (by rfl) T.b_max bt_max (pa_cons (pe_lc (own := [("match", 5)]) (g := (gName 5)) rfl sc__law_right.nd (kw_seq K (pv 3)) (blkOk_by (own := [("match", 5)]) (N := N__law_right) (sc := defScope st__law_right) (by decide +kernel)) (fun _ _ _ _ _ => (pg_name (i := 5) sc__law_right.nd rfl (by first | exact Or.inl rfl | exact Or.inr rfl))) (fun _ _ _ _ _ => pts_nil) (fun _ _ _ _ _ => (pe_own c__law_weight (hr.mono (by decide)) (by rfl) (pa_cons (pv 5) pa_nil)))) pa_nil)) (nomark _)) (pss_one (ps_ret pe_bl)) pss_nil)
      (pss_cons (ps_asg (pe_own c_best (hr.mono (by decide)) (by rfl) (pa_cons (pv 1) (pa_cons (pv 2) pa_nil))) (pg_tup rfl (pgs_cons (pg_name (i := 5) sc__law_right.nd rfl (by first | exact Or.inl rfl | exact Or.inr rfl)) (pgs_cons (pg_name (i := 6) sc__law_right.nd rfl (by first | exact Or.inl rfl | exact Or.inr rfl)) pgs_nil))))
      (pss_cons (ps_if (PW.pt (pw_or (pt_cmpR (ko_nin K (u65 hr)) (pv 5) (pv 3) (by with_unfolding_all rfl)) (pw_or (pt_cmpR (ko_ne K (u64 hr)) (pe_own c__law_weight (hr.mono (by decide)) (by rfl) (pa_cons (pv 5) pa_nil)) (pv 4) (nomark _)) (pw_or1 (pt_not (pt_val (pe_own c__law_are_counts_right (hr.mono (by decide)) (by rfl) (pa_cons (pv 1) (pa_cons (pv 2) (pa_cons (pv 6) (pa_cons (pv 4) pa_nil))))))))))) (pss_one (ps_ret pe_bl)) pss_nil)
      (pss_cons (ps_if (PW.pt (pw_or (pt_not (pt_val (pe_own c__law_are_cuts_right (hr.mono (by decide)) (by rfl) (pa_cons (pv 1) (pa_cons (pv 2) (pa_cons (pv 4) pa_nil)))))) (pw_or1 (pt_not (pt_val (pe_own c__law_are_likes_right (hr.mono (by decide)) (by rfl) (pa_cons (pv 1) (pa_cons (pv 2) (pa_cons (pv 4) (pa_cons (pv 3) pa_nil)))))))))) (pss_one (ps_ret pe_bl)) pss_nil)
      (pss_cons (ps_asg (pe_tup (pa_cons (pe_own c__law_take (hr.mono (by decide)) (by rfl) (pa_cons (pv 0) (pa_cons (pe_op (ko_add K) (pe_callB (kc_len K) (by rfl) T.b_len bt_len (pa_cons (pe_ix (ki_seq K) (pv 1) pe_int (fun _ _ => rfl)) pa_nil)) pe_int) pa_nil))) (pa_cons (pe_callTy cr_gInt (by rfl) T.b_int bt_int (pa_cons (pe_op (ko_add K) pe_int (pe_own c__law_take (hr.mono (by decide)) (by rfl) (pa_cons (pv 0) (pa_cons pe_int pa_nil)))) pa_nil)) pa_nil))) (pg_tup rfl (pgs_cons (pg_name (i := 7) sc__law_right.nd rfl (by first | exact Or.inl rfl | exact Or.inr rfl)) (pgs_cons (pg_name (i := 8) sc__law_right.nd rfl (by first | exact Or.inl rfl | exact Or.inr rfl)) pgs_nil))))
      (pss_cons (ps_set (i := 9) sc__law_right.nd rfl (.inl rfl) (pe_tup (pa_cons (pe_op (ko_add K) (pe_op (ko_add K) (pe_slice (ks_g K) (pe_ix (ki_seq K) (pv 1) pe_int (fun _ _ => rfl)) po_none (po_some (pv 7))) (pe_tup (pa_cons pe_str pa_nil))) (pe_slice (ks_g K) (pe_ix (ki_seq K) (pv 1) pe_int (fun _ _ => rfl)) (po_some (pv 7)) po_none)) (pa_cons (pe_ix (ki_seq K) (pv 1) pe_int (fun _ _ => rfl)) pa_nil))))
      (pss_cons (ps_set (i := 10) sc__law_right.nd rfl (.inl rfl) (pe_callTy (kc_tuple K) (by rfl) T.b_tuple bt_tuple (pa_cons (pe_lc (own := [("like", 11)]) (g := (gName 11)) rfl sc__law_right.nd (kw_seq K (pv 2)) (blkOk_by (own := [("like", 11)]) (N := N__law_right) (sc := defScope st__law_right) (by decide +kernel)) (fun _ _ _ _ _ => (pg_name (i := 11) sc__law_right.nd rfl (by first | exact Or.inl rfl | exact Or.inr rfl))) (fun _ _ _ _ _ => pts_nil) (fun _ _ _ _ _ => (pe_op (ko_add K) (pe_tup (pa_cons (pe_op (ko_add K) (pe_ix (ki_seq K) (pv 11) pe_int (fun _ _ => rfl)) (pe_callTy cr_gInt (by rfl) T.b_int bt_int (pa_cons (pe_cmpR op_ge (pe_ix (ki_seq K) (pv 11) pe_int (fun _ _ => rfl)) (pv 7) (nomark _)) pa_nil))) pa_nil)) (pe_slice (ks_g K) (pv 11) (po_some pe_int) po_none)))) pa_nil)))
      (pss_cons (ps_if (PW.pt (pw_or (pt_cmpR (ko_ne K (u64 hr)) (pe_own c_worth (hr.mono (by decide)) (by rfl) (pa_cons (pv 9) (pa_cons (pv 10) pa_nil))) (pv 4) (nomark _)) (pw_or1 (pt_cmpR (ko_ne K (u64 hr)) (pe_own c_sorts (hr.mono (by decide)) (by rfl) (pa_cons (pv 9) (pa_cons (pv 10) pa_nil))) (pe_own c_sorts (hr.mono (by decide)) (by rfl) (pa_cons (pv 1) (pa_cons (pv 2) pa_nil))) (nomark _))))) (pss_one (ps_ret pe_bl)) pss_nil)
      (pss_cons (ps_set (i := 12) sc__law_right.nd rfl (.inl rfl) (pe_callTy (kc_tuple K) (by rfl) T.b_tuple bt_tuple (pa_cons (pe_lc (own := [("like", 11)]) (g := (gName 11)) rfl sc__law_right.nd (kw_seq K (pv 2)) (blkOk_by (own := [("like", 11)]) (N := N__law_right) (sc := defScope st__law_right) (by decide +kernel)) (fun _ _ _ _ _ => (pg_name (i := 11) sc__law_right.nd rfl (by first | exact Or.inl rfl | exact Or.inr rfl))) (fun _ _ _ _ _ => pts_nil) (fun _ _ _ _ _ => (pe_op (ko_add K) (pe_slice (ks_g K) (pv 11) po_none (po_some pe_int)) (pe_tup (pa_cons (pe_op op_gMul (pv 8) (pe_ix (ki_seq K) (pv 11) pe_int (fun _ _ => rfl))) pa_nil))))) pa_nil)))
      (pss_cons (ps_set (i := 13) sc__law_right.nd rfl (.inl rfl) (pe_tup (pa_cons (pe_callTy (kc_tuple K) (by rfl) T.b_tuple bt_tuple (pa_cons (pe_lc (own := [("like", 11)]) (g := (gName 11)) rfl sc__law_right.nd (kw_seq K (pv 5)) (blkOk_by (own := [("like", 11)]) (N := N__law_right) (sc := defScope st__law_right) (by decide +kernel)) (fun _ _ _ _ _ => (pg_name (i := 11) sc__law_right.nd rfl (by first | exact Or.inl rfl | exact Or.inr rfl))) (fun _ _ _ _ _ => pts_nil) (fun _ _ _ _ _ => (pe_op (ko_add K) (pe_slice (ks_g K) (pv 11) po_none (po_some pe_int)) (pe_tup (pa_cons (pe_op op_gMul (pv 8) (pe_ix (ki_seq K) (pv 11) pe_int (fun _ _ => rfl))) pa_nil))))) pa_nil)) (pa_cons (pe_callTy (kc_tuple K) (by rfl) T.b_tuple bt_tuple (pa_cons (pe_lc (own := [("some", 14), ("many", 15)]) (g := (gTup K 2 (gCons (gName 14) (gCons (gName 15) gNil)))) rfl sc__law_right.nd (kw_seq K (pv 6)) (blkOk_by (own := [("some", 14), ("many", 15)]) (N := N__law_right) (sc := defScope st__law_right) (by decide +kernel)) (fun _ _ _ _ _ => (pg_tup rfl (pgs_cons (pg_name (i := 14) sc__law_right.nd rfl (by first | exact Or.inl rfl | exact Or.inr rfl)) (pgs_cons (pg_name (i := 15) sc__law_right.nd rfl (by first | exact Or.inl rfl | exact Or.inr rfl)) pgs_nil)))) (fun _ _ _ _ _ => pts_nil) (fun _ _ _ _ _ => (pe_tup (pa_cons (pe_callTy (kc_tuple K) (by rfl) T.b_tuple bt_tuple (pa_cons (pe_lc (own := [("like", 11)]) (g := (gName 11)) rfl sc__law_right.nd (kw_seq K (pv 14)) (blkOk_by (own := [("like", 11)]) (N := N__law_right) (by kernel_rfl)) (fun _ _ _ _ _ => (pg_name (i := 11) sc__law_right.nd rfl (by first | exact Or.inl rfl | exact Or.inr rfl))) (fun _ _ _ _ _ => pts_nil) (fun _ _ _ _ _ => (pe_op (ko_add K) (pe_slice (ks_g K) (pv 11) po_none (po_some pe_int)) (pe_tup (pa_cons (pe_op op_gMul (pv 8) (pe_ix (ki_seq K) (pv 11) pe_int (fun _ _ => rfl))) pa_nil))))) pa_nil)) (pa_cons (pe_op op_gMul (pv 8) (pv 15)) pa_nil))))) pa_nil)) pa_nil))))
      (pss_one (ps_ret (pe_and (pe_cmpR (ko_eq K (u64 hr)) (pe_own c_worth (hr.mono (by decide)) (by rfl) (pa_cons (pv 1) (pa_cons (pv 12) pa_nil))) (pe_op op_gMul (pv 8) (pv 4)) (nomark _)) (pe_one (pe_cmpR op_isBl (pe_own c_shows_best (hr.mono (by decide)) (by rfl) (pa_cons (pv 1) (pa_cons (pv 12) (pa_cons (pv 13) pa_nil)))) pe_bl (nomark _))))))))))))))))))), fun qs xs hP => ?_⟩)⟩
  obtain ⟨rfl, n, hn, pk⟩ := hP
  refine sx_seq (Mid := fun ds' => ∃ (c : Cores) (ls : List Lk) (ps : List PyData), Dr c ls ∧ c.1.length ≤ 6 ∧ fresh ∉ c.1 ∧ Moves 42 qs ps ∧ ds' = [.bl ps, .pu (eC c), .pu (eLs ls), .un, .un, .un, .un, .un, .un, .un, .un, .un, .un, .un, .un, .un])
    (sx_un2E (es_callB (Pre := dPre) (Po := dPo) (eas_ea ea_nil ⟨qs, ⟨rfl, n, by omega, pk⟩, .inl ⟨rfl, fun d ps' ⟨c, ls, dr, h6, hf, ed, mv⟩ => ⟨eC c, eLs ls, ed, by show 1 < 16; decide, by show 2 < 16; decide, c, ls, ps', dr, h6, hf, mv, rfl⟩⟩⟩) ⟨qs, .inl rfl⟩)) ?_
  rintro _ ⟨c, ls, ps, dr, h6, hf, mv1, rfl⟩
  have nc := dr.nice
  have l9 := dr.le
  have ml := mts_len l9
  have hs : ∀ m ∈ mts ls, m.length ≤ 60 := fun m hm => by
    have := ((mts_mem ls m).mp hm).sub.length_le
    omega
  refine q_set (d := .list ((mts ls).map eLs)) (ev_call (ea_cons (ev_var rfl) ea_nil) ⟨_, rfl, ls, rfl, l9, rfl⟩) ?_
  refine q_set (d := .int (wof ls)) (ev_call (ea_cons (ev_var rfl) (ea_cons (ev_var rfl) ea_nil)) ⟨_, _, rfl, c, ls, rfl, rfl, dr.gc, dr.good, rfl⟩) ?_
  refine q_no (et_is (et_test (ev_op (ev_var rfl) (ev_max (ns := (mts ls).map wt) (m := wof ls) ((lc1 (mts ls) eLs (fun m => .int (wt m)) (eI_list (ev_var rfl)).r (by omega) (fun m hm => ev_call (ea_cons (ev_var rfl) ea_nil) ⟨_, rfl, m, rfl, hs m hm, rfl⟩)).rl.is (by rw [List.map_map]; rfl)) ?_ ?_) (rd_ne rfl rfl))) (by simp [PyData.eqv])) ?_
  · obtain ⟨m, hm, e⟩ := wof_ex ls
    rw [← e]
    exact List.mem_map_of_mem ((mts_mem ls m).mpr hm)
  · intro y hy
    obtain ⟨m, hm, e⟩ := List.mem_map.mp hy
    rw [← e]
    exact wof_ge ((mts_mem ls m).mp hm)
  obtain ⟨m, tm⟩ := told_ex true nc
  obtain ⟨ms, mk⟩ := marks_ex ls
  have m60 : m.length ≤ 60 := by have := tm.len; omega
  have ct := cts_ok nc mk
  have kl : (cts ls ms).length ≤ 1000 := by
    have := marks_len mk (by omega)
    unfold cts
    rw [List.length_map, List.length_zip]
    omega
  refine q_un2 (x := eLs m) (y := eK (cts ls ms)) (ev_call (ea_cons (ev_var rfl) (ea_cons (ev_var rfl) ea_nil)) ⟨_, _, rfl, c, ls, m, ms, rfl, rfl, dr.gc, dr.good, by omega, nc.nd, tm.g, m60, mk, rfl⟩) ?_
  generalize hks : cts ls ms = ks at ct kl
  refine q_no (et_is (et_or (et_test (ev_op (ev_var rfl) (ev_var rfl) (rd_ninL (sh_eLs m) (sh_ms _)))) fun _ => et_or (et_test (ev_op (ev_call (ea_cons (ev_var rfl) ea_nil) ⟨_, rfl, m, rfl, m60, rfl⟩) (ev_var rfl) (rd_ne rfl rfl))) fun _ => et_not (et_test (ev_call (ea_cons (ev_var rfl) (ea_cons (ev_var rfl) (ea_cons (ev_var rfl) (ea_cons (ev_var rfl) ea_nil)))) ⟨_, _, _, _, rfl, c, ls, ks, rfl, rfl, rfl, rfl, dr, ct, kl, rfl⟩))) ?_) ?_
  · rw [in_mts, tm.w, decide_eq_true ((mts_mem ls m).mpr tm.ch)]
    simp [PyData.eqv]
  refine q_no (et_is (et_or (et_not (et_test (ev_call (ea_cons (ev_var rfl) (ea_cons (ev_var rfl) (ea_cons (ev_var rfl) ea_nil))) ⟨_, _, _, rfl, c, ls, rfl, rfl, rfl, dr, rfl⟩))) fun _ => et_not (et_test (ev_call (ea_cons (ev_var rfl) (ea_cons (ev_var rfl) (ea_cons (ev_var rfl) (ea_cons (ev_var rfl) ea_nil)))) ⟨_, _, _, _, rfl, c, ls, rfl, rfl, rfl, rfl, dr, rfl⟩))) rfl) ?_
  refine sx_seq (Mid := fun ds' => ∃ (t b : Nat) (p : List PyData), t ≤ c.1.length ∧ 2 ≤ b ∧ b ≤ 10 ∧ Moves 44 qs p ∧ ds' = [.bl p, .pu (eC c), .pu (eLs ls), .pu (.list ((mts ls).map eLs)), .pu (.int (wof ls)), .pu (eLs m), .pu (eK ks), .pu (.int (t : Int)), .pu (.int (b : Int)), .un, .un, .un, .un, .un, .un, .un])
    (sx_tpar2E (eas_cons (P1 := fun x ds1 => ∃ (t : Nat) (p : List PyData), t ≤ c.1.length ∧ Moves 43 qs p ∧ x = .int (t : Int) ∧ ds1 = [.bl p, .pu (eC c), .pu (eLs ls), .pu (.list ((mts ls).map eLs)), .pu (.int (wof ls)), .pu (eLs m), .pu (eK ks), .un, .un, .un, .un, .un, .un, .un, .un, .un])
      (es_takeB (u := c.1.length + 1) (n := n + 42) rfl (ea_cons (ev_is (ev_op (ev_cb (ea_cons (ev_op (ev_var rfl) ev_int (rd_ixT (d := eTx c.1) (atI_nat (j := 0) rfl))) ea_nil) cd_lenT) ev_int rd_addI) (by rw [List.length_map]; rfl)) ea_nil) (by omega) (by omega) (by omega) (mv1 n pk) fun t p ht mv2 => ⟨t, p, by omega, mv1.trans mv2, rfl, rfl⟩) ?_)) ?_
  · rintro _ _ ⟨t, p, ht, mv2, rfl, rfl⟩
    refine eas_one (es_cb (eas_one (es_op (P1 := fun x ds1 => x = .int 2 ∧ ds1 = [.bl p, .pu (eC c), .pu (eLs ls), .pu (.list ((mts ls).map eLs)), .pu (.int (wof ls)), .pu (eLs m), .pu (eK ks), .un, .un, .un, .un, .un, .un, .un, .un, .un]) (es_ev ev_int ⟨rfl, rfl⟩) ?_)))
    rintro _ _ ⟨rfl, rfl⟩
    exact es_takeB (u := 9) (n := n + 43) rfl (ea_cons ev_int ea_nil) (by omega) (by omega) (by omega) (mv2 n pk) fun b p' hb mv3 => ⟨_, rd_addI, _, cd_intI, _, _, rfl, by show 7 < 16; decide, by show 8 < 16; decide, t, b + 2, p', ht, by omega, by omega, mv2.trans mv3, by rw [show (2 + (b : Int)) = ((b + 2 : Nat) : Int) by omega]; rfl⟩
  rintro _ ⟨t, b, p, ht, hb2, hb10, mv2, rfl⟩
  have dm := dr_mv dr ht h6 hf
  have c24 := dr.gc.1.le
  have lt1 : ∀ j, (c.1.take j).length ≤ 24 := fun j => by rw [List.length_take]; omega
  have lt2 : ∀ j, (c.1.drop j).length ≤ 24 := fun j => by rw [List.length_drop]; omega
  refine q_set (d := eC (longC c t)) (ev_is (ev_tup (ea_cons (ev_op (ev_op (ev_is (ev_slT (ev_op (ev_var rfl) ev_int (rd_ixT (d := eTx c.1) (atI_nat (j := 0) rfl))) eo_none (eo_some (ev_var rfl))) (y := eTx (c.1.take t)) (by rw [cutD_to, ← List.map_take]; rfl)) (ev_tup (ea_cons ev_str ea_nil) (by show 1 ≤ 100000; decide)) (rd_addT (by rw [List.length_map]; show _ + 1 ≤ _; have := lt1 t; omega)))
    (ev_is (ev_slT (ev_op (ev_var rfl) ev_int (rd_ixT (d := eTx c.1) (atI_nat (j := 0) rfl))) (eo_some (ev_var rfl)) eo_none) (y := eTx (c.1.drop t)) (by rw [cutD_from, ← List.map_drop]; rfl)) (rd_addT (by rw [List.length_append, List.length_map, List.length_map]; show _ + 1 + _ ≤ _; have := lt1 t; have := lt2 t; omega))) (ea_cons (ev_op (ev_var rfl) ev_int (rd_ixT (d := eTx c.2) (atI_nat (j := 1) rfl))) ea_nil)) (by show 2 ≤ 100000; decide)) ?_) ?_
  · unfold longC eC eTx
    rw [List.map_append, List.map_append]
    rfl
  refine q_set (d := eLs (ls.map (mv t))) (ev_is (ev_tupleR (lc1 ls eL (fun l => eL (mv t l)) (eI_tup (ev_var rfl)).r (by omega) (fun l _ => ev_is (ev_op (ev_tup (ea_cons (ev_op (ev_op (ev_var rfl) ev_int (rd_ixT (d := .int l.1) (atI_nat (j := 0) rfl))) (ev_cb (ea_cons (ev_op (ev_op (ev_var rfl) ev_int (rd_ixT (d := .int l.1) (atI_nat (j := 0) rfl))) (ev_var rfl) rd_ge) ea_nil) cd_intB) rd_addI) ea_nil) (by show 1 ≤ 100000; decide)) (ev_is (ev_slT (ev_var rfl) (eo_some ev_int) eo_none) (y := .tuple [.int l.2.1, .int l.2.2]) rfl) (rd_addT (by show 1 + 2 ≤ 100000; decide))) rfl)).rl) (by unfold eLs; rw [List.map_map]; rfl)) ?_
  refine q_no (et_is (et_or (et_test (ev_op (ev_call (ea_cons (ev_var rfl) (ea_cons (ev_var rfl) ea_nil)) ⟨_, _, rfl, longC c t, ls.map (mv t), rfl, rfl, dm.gc, dm.good, rfl⟩) (ev_var rfl) (rd_ne rfl rfl))) fun _ => et_test (ev_op (ev_call (ea_cons (ev_var rfl) (ea_cons (ev_var rfl) ea_nil)) ⟨_, _, rfl, longC c t, ls.map (mv t), rfl, rfl, dm.gc, dm.good, dm.nice.nd, rfl⟩) (ev_call (ea_cons (ev_var rfl) (ea_cons (ev_var rfl) ea_nil)) ⟨_, _, rfl, c, ls, rfl, rfl, dr.gc, dr.good, nc.nd, rfl⟩) (rd_ne (sh_srts _) (sh_srts _)))) ?_) ?_
  · rw [wof_mv, srts_mv, eqv_strs]
    simp [PyData.eqv]
  have hb2' : (2 : Int) ≤ (b : Int) := by omega
  have hb10' : (b : Int) ≤ 10 := by omega
  have scl : ∀ {ds : List Sl} (l : Lk), ds[11]? = some (.pu (eL l)) → ds[8]? = some (.pu (.int (b : Int))) → Ev K (tOp (gAddT K) (tSl (gSl K) (tVar 11) tNoPart (tPart (tC (.int 2)))) (tTup (tCons (tOp gMul (tVar 8) (tOp (rIx K) (tVar 11) (tC (.int 2)))) tNil))) ds (eL (sc b l)) := fun l e1 e2 => ev_is (ev_op (ev_is (ev_slT (ev_var e1) eo_none (eo_some ev_int)) (y := .tuple [.int l.1, .int l.2.1]) rfl) (ev_tup (ea_cons (ev_op (ev_var e2) (ev_op (ev_var e1) ev_int (rd_ixT (d := .int l.2.2) (atI_nat (j := 2) rfl))) (rd_mul (.inl (by omega)))) ea_nil) (by show 1 ≤ 100000; decide)) (rd_addT (by show 2 + 1 ≤ 100000; decide))) rfl
  refine q_set (d := eLs (ls.map (sc b))) (ev_is (ev_tupleR (lc1 ls eL (fun l => eL (sc b l)) (eI_tup (ev_var rfl)).r (by omega) (fun l _ => scl l rfl rfl)).rl) (by unfold eLs; rw [List.map_map]; rfl)) ?_
  refine q_set (d := eB (m.map (sc b)) (ks.map (scK b))) (ev_is (ev_tup (ea_cons (ev_is (ev_tupleR (lc1 m eL (fun l => eL (sc b l)) (eI_tup (ev_var rfl)).r (by omega) (fun l _ => scl l rfl rfl)).rl) (y := eLs (m.map (sc b))) (by unfold eLs; rw [List.map_map]; rfl))
    (ea_cons (ev_is (ev_tupleR (lc2 ks (fun k => eLs k.1) (fun k => .int k.2) (fun k => .tuple [eLs (k.1.map (sc b)), .int (b * k.2)]) (eI_tup (ev_var rfl)).r (by omega) (fun k hk => ev_tup (ea_cons (ev_is (ev_tupleR (lc1 k.1 eL (fun l => eL (sc b l)) (eI_tup (ev_var rfl)).r (by have := (ct.each k hk).1.length_le; omega) (fun l _ => scl l rfl rfl)).rl) (y := eLs (k.1.map (sc b))) (by unfold eLs; rw [List.map_map]; rfl)) (ea_cons (ev_op (ev_var rfl) (ev_var rfl) (rd_mul (.inl (by omega)))) ea_nil)) (by show 2 ≤ 100000; decide))).rl) (y := eK (ks.map (scK b))) (by unfold eK; rw [List.map_map]; rfl)) ea_nil)) (by show 2 ≤ 100000; decide)) rfl) ?_
  refine sx_ret (ev_is (ev_andV (ev_op (ev_call (ea_cons (ev_var rfl) (ea_cons (ev_var rfl) ea_nil)) ⟨_, _, rfl, c, ls.map (sc b), rfl, rfl, dr.gc, gl_sc dr hb2' hb10', rfl⟩) (ev_op (ev_var rfl) (ev_var rfl) (rd_mul (.inl (by omega)))) (rd_eq rfl rfl)) fun _ => ev_op (ev_call (ea_cons (ev_var rfl) (ea_cons (ev_var rfl) (ea_cons (ev_var rfl) ea_nil))) ⟨_, _, _, rfl, c, ls.map (sc b), m.map (sc b), ks.map (scK b), rfl, rfl, rfl, dr.gc, gl_sc dr hb2' hb10', shows_sc dr tm.ch tm.w ct kl hb2', rfl⟩) ev_bl rd_isB) (y := .bool true) ?_) ⟨p, rfl, rfl, mv2⟩
  rw [wof_sc hb2']
  simp [PyData.eqv]
end
end L3
end

section
set_option Elab.async false
set_option linter.all false
set_option maxRecDepth 100000
set_option maxHeartbeats 1000000
set_option autoImplicit false
namespace L3
open PySem L2
section
variable {Pr : Program} {w : World} {K : PySem.W.Frag} {mg : Str → Option Value} {base : Heap}
theorem ok_law (T : Fx K mg) {f : Addr} {fd : FuncData} (F : Fun K "law" "law" st_law f fd) : FnOk Pr w K mg base CX0 11 f fd ["script"] (spLaw K) := by
  have c__law_cells := ok__law_cells (Pr := Pr) (w := w) (base := base) T
  have c__law_pot := ok__law_pot (Pr := Pr) (w := w) (base := base) T
  have c__law_right := ok__law_right (Pr := Pr) (w := w) (base := base) T
  refine fn_okL F sc_law (fun cdv A outer s H E hr => ⟨_, (pss_cons (ps_for PassesOwn.never rfl (kw_seq K (pe_own c__law_cells (hr.mono (by decide)) (by rfl) (pa_cons (pv 0) (pa_cons pe_int pa_nil)))) (pg_name (i := 1) sc_law.nd rfl (by first | exact Or.inl rfl | exact Or.inr rfl)) (pss_cons (ps_set (i := 2) sc_law.nd rfl (.inr rfl) (pe_own c__law_pot (hr.mono (by decide)) (by rfl) (pa_cons (pv 0) (pa_cons (pv 1) pa_nil))))
      (pss_one (ps_if (pt_not (pt_val (pe_callB (kc_all K rfl) (by rfl) T.b_all bt_all (pa_cons (pe_lc (own := [("lap", 3)]) (g := (gName 3)) rfl sc_law.nd (pi_range1 (by rfl) T.b_range (pa_cons pe_int pa_nil)) (blkOk_by (own := [("lap", 3)]) (N := N_law) (sc := defScope st_law) (by decide +kernel)) (fun _ _ _ _ _ => (pg_name (i := 3) sc_law.nd rfl (by first | exact Or.inl rfl | exact Or.inr rfl))) (fun _ _ _ _ _ => pts_nil) (fun _ _ _ _ _ => (pe_own c__law_right (hr.mono (by decide)) (by rfl) (pa_cons (pv 2) pa_nil)))) pa_nil)))) (pss_one (ps_ret pe_bl)) pss_nil))))
      (pss_one (ps_ret pe_bl))), fun ns hl => ?_⟩)
  refine q_for (List.range (cellsN (ns.map PyData.int).length).toNat) (fun (i : Nat) => .int (i : Int)) (fun _ ds => ∃ s1 s2 s3, ds = [.rl (ns.map .int), s1, s2, s3]) (fun i ds => ds.set 1 (.pu (.int (i : Int))))
    (eI_list (ev_callS (R := rCells) (er_rl rfl) (rl_var rfl) (ea_cons ev_int ea_nil) ⟨_, rfl, rfl, rfl⟩).ev) ⟨_, _, _, rfl⟩ (fun i l ds _ ⟨s1, s2, s3, e⟩ => by subst e; exact tg1) ?_ ?_
  · rintro i p _ hi ⟨s1, s2, s3, rfl⟩
    have hp : p < 3 := by
      have h1 := List.mem_range.mp (List.mem_of_getElem? hi)
      have := cells_n (ns.map PyData.int).length
      omega
    refine q_new (ev_callS (R := rPot) (er_rl rfl) (rl_var rfl) (ea_cons (ev_var rfl) ea_nil) ⟨_, rfl, ns, p, rfl, rfl, hp, rfl⟩) ?_
    refine sx_ifE (ets_not (ets_B (es_cb (eas_one (es_lc (List.range 2) (fun (i : Nat) => .int (i : Int)) (fun i ds => ds.set 3 (.pu (.int (i : Int)))) (fun i ds acc => ∃ (ps : List PyData) (s1 s3 : Sl), ds = [.rl (ns.map .int), s1, .ol ps, s3] ∧ Moves (44 * i) (potOf ns p) ps ∧ acc = List.replicate i (.bool true)) (js := [3])
      ((eI_rng1 (n := 2) (ea_cons ev_int ea_nil) (by decide)).is rfl) (by decide) (fun j h => h) ⟨_, _, _, rfl, fun _ h => h, rfl⟩ (fun i l ds acc _ ⟨ps, s1, s3, e, _⟩ => by subst e; exact tg1) ?_ ?_)))))
    · rintro i l _ acc hi ⟨ps, s1, s3, rfl, mv, rfl⟩
      have hi2 : i < 2 := (List.getElem?_eq_some_iff.mp hi).1
      exact es_callB (Pre := lPre) (Po := lPo) (eas_ea ea_nil ⟨ps, ⟨rfl, 0 + 44 * i, by omega, mv 0 (pot_ok ns p)⟩, .inr ⟨rfl, fun d ps' ⟨ed, mv'⟩ => ⟨ps', _, _, rfl, mv.trans mv', by rw [ed, List.replicate_succ']⟩⟩⟩) ⟨ps, .inr rfl⟩
    · rintro _ acc ⟨ps, s1, s3, rfl, mv, rfl⟩
      exact ⟨_, cd_all (bs := [true, true]), true, rfl, fun e => absurd e (by decide), fun _ => sx_next ⟨_, _, _, rfl⟩⟩
  · rintro _ ⟨s1, s2, s3, rfl⟩
    exact sx_ret ev_bl rfl
end
end L3
end

section
set_option Elab.async false
set_option linter.all false
set_option maxRecDepth 100000
set_option autoImplicit false
/-! What the top has written; the head. -/
namespace L3
open PySem L2
section
variable {K : PySem.W.Frag} {h : Heap} {mg : Str → Option Value}
theorem at_mk {x : Str} {st : Stmt} {ps : List Str} {f : Addr} {od an : Option Addr} {sl : Array (Option Value)} {oc kV dc pm cd ct : Value} (X : K.In h) (G : h.Ns mainGlobals mg)
    (a : PySem.W.nsIn K mainGlobals x = some (some (.ref f))) (l : K.lookup f = some ⟨oc, od, .func (PySem.W.fnOf x x (defArgs st) (defBody st) (defScope st) .none kV dc pm an cd ct), sl⟩) (c : PySem.W.codeIn K cd x = true) (k : PySem.W.keepIn K (.ref f) = true)
    (b : ∀ (kV doc pm : Value) (an : Option Addr) (cdv ct : Value) (us : List Value), us.length = ps.length → bindArgs (PySem.W.fnOf x x (defArgs st) (defBody st) (defScope st) .none kV doc pm an cdv ct) ⟨us, []⟩ = pure (ps.zip us)) : At K mg x st ps :=
  ⟨f, _, fun_mk (st := st) l c k, (fun_mk (st := st) l c k).binds b, PySem.W.mg_of X G a⟩
theorem cst_mk {x : Str} {v : V} {u : Value} (X : K.In h) (G : h.Ns mainGlobals mg) (a : PySem.W.nsIn K mainGlobals x = some (some u)) (r : RelV v u) : Cst mg x v := ⟨u, PySem.W.mg_of X G a, r⟩
theorem fin_mk {l : PySem.W.OpenLaw} {w : World} {fa f : Addr} {od an : Option Addr} {sl : Array (Option Value)} {oc kV dc pm cd ct : Value} (X : K.In h) (G : h.Ns mainGlobals mg) (hfa : mg "law" = some (.ref fa)) (T : Fx K mg)
    (a : PySem.W.nsIn K mainGlobals "law" = some (some (.ref f))) (lk : K.lookup f = some ⟨oc, od, .func (PySem.W.fnOf "law" "law" (defArgs st_law) (defBody st_law) (defScope st_law) .none kV dc pm an cd ct), sl⟩) (c : PySem.W.codeIn K cd "law" = true) (k : PySem.W.keepIn K (.ref f) = true) :
    ∃ fd : FuncData, (∀ (s : Shared) (v : Value), BindsTo s fd ⟨[v], []⟩ [("script", v)]) ∧ ∀ base : Heap, K.In base → base.Ns mainGlobals mg → FnOk l.prog w K mg base CX0 11 fa fd ["script"] (spLaw K) := by
  have e := hfa.symm.trans (PySem.W.mg_of X G a)
  cases e
  exact ⟨PySem.W.fnOf "law" "law" (defArgs st_law) (defBody st_law) (defScope st_law) .none kV dc pm an cd ct, fun s v => .of_eq rfl, fun base _ _ => ok_law T (fun_mk (st := st_law) lk c k)⟩
end
end L3
open PySem PySem.W PyProof.Rows
set_option maxHeartbeats 0 in
theorem PySem.Challenge.cw_laidbefore_k44_whole_cores_cut_at_a_laye_holds : PySem.Challenge.rw_laidbefore_k44_whole_cores_cut_at_a_laye.Holds := by
  w_on; o_law; k_head; (case hw => w_witness2)
  k_fill
  refine L2.walk_of (l := PySem.Challenge.rw_laidbefore_k44_whole_cores_cut_at_a_laye) (n := 63) (k := 11) (x := "script") (CX := fun _ => L2.CX0) (sp := fun w => L3.spLaw _) rfl (by decide) rfl ⟨rfl, by decide, by decide⟩ (fun w h Y => PySem.W.kIn_of Y) ?F (fun _ _ a ns hl _ hS => ⟨a, ns, rfl, hS, hl, fun _ => rfl⟩) (fun _ _ _ _ _ h => h)
  case F =>
    intro w mg fa h KX G hmg
    refine' L3.fin_mk KX G hmg (L3.Fx.mk
      (L3.at_mk KX G ?a0 ?l0 ?c0 ?k0 fun _ _ _ _ _ _ us hl => match us, hl with | [_], _ => rfl)
      (L3.at_mk KX G ?a1 ?l1 ?c1 ?k1 fun _ _ _ _ _ _ us hl => match us, hl with | [_, _, _], _ => rfl)
      (L3.at_mk KX G ?a2 ?l2 ?c2 ?k2 fun _ _ _ _ _ _ us hl => match us, hl with | [_], _ => rfl)
      (L3.at_mk KX G ?a3 ?l3 ?c3 ?k3 fun _ _ _ _ _ _ us hl => match us, hl with | [_], _ => rfl)
      (L3.at_mk KX G ?a4 ?l4 ?c4 ?k4 fun _ _ _ _ _ _ us hl => match us, hl with | [_], _ => rfl)
      (L3.at_mk KX G ?a5 ?l5 ?c5 ?k5 fun _ _ _ _ _ _ us hl => match us, hl with | [_], _ => rfl)
      (L3.at_mk KX G ?a6 ?l6 ?c6 ?k6 fun _ _ _ _ _ _ us hl => match us, hl with | [_], _ => rfl)
      (L3.at_mk KX G ?a7 ?l7 ?c7 ?k7 fun _ _ _ _ _ _ us hl => match us, hl with | [_, _], _ => rfl)
      (L3.at_mk KX G ?a8 ?l8 ?c8 ?k8 fun _ _ _ _ _ _ us hl => match us, hl with | [_, _], _ => rfl)
      (L3.at_mk KX G ?a9 ?l9 ?c9 ?k9 fun _ _ _ _ _ _ us hl => match us, hl with | [_], _ => rfl)
      (L3.at_mk KX G ?a10 ?l10 ?c10 ?k10 fun _ _ _ _ _ _ us hl => match us, hl with | [_, _], _ => rfl)
      (L3.at_mk KX G ?a11 ?l11 ?c11 ?k11 fun _ _ _ _ _ _ us hl => match us, hl with | [_, _, _], _ => rfl)
      (L3.at_mk KX G ?a12 ?l12 ?c12 ?k12 fun _ _ _ _ _ _ us hl => match us, hl with | [_, _], _ => rfl)
      (L3.at_mk KX G ?a13 ?l13 ?c13 ?k13 fun _ _ _ _ _ _ us hl => match us, hl with | [_, _], _ => rfl)
      (L3.at_mk KX G ?a14 ?l14 ?c14 ?k14 fun _ _ _ _ _ _ us hl => match us, hl with | [_], _ => rfl)
      (L3.at_mk KX G ?a15 ?l15 ?c15 ?k15 fun _ _ _ _ _ _ us hl => match us, hl with | [_], _ => rfl)
      (L3.at_mk KX G ?a16 ?l16 ?c16 ?k16 fun _ _ _ _ _ _ us hl => match us, hl with | [_], _ => rfl)
      (L3.at_mk KX G ?a17 ?l17 ?c17 ?k17 fun _ _ _ _ _ _ us hl => match us, hl with | [_, _], _ => rfl)
      (L3.at_mk KX G ?a18 ?l18 ?c18 ?k18 fun _ _ _ _ _ _ us hl => match us, hl with | [_], _ => rfl)
      (L3.at_mk KX G ?a19 ?l19 ?c19 ?k19 fun _ _ _ _ _ _ us hl => match us, hl with | [_, _], _ => rfl)
      (L3.at_mk KX G ?a20 ?l20 ?c20 ?k20 fun _ _ _ _ _ _ us hl => match us, hl with | [_, _], _ => rfl)
      (L3.at_mk KX G ?a21 ?l21 ?c21 ?k21 fun _ _ _ _ _ _ us hl => match us, hl with | [_, _], _ => rfl)
      (L3.at_mk KX G ?a22 ?l22 ?c22 ?k22 fun _ _ _ _ _ _ us hl => match us, hl with | [_, _], _ => rfl)
      (L3.at_mk KX G ?a23 ?l23 ?c23 ?k23 fun _ _ _ _ _ _ us hl => match us, hl with | [_, _, _], _ => rfl)
      (L3.at_mk KX G ?a24 ?l24 ?c24 ?k24 fun _ _ _ _ _ _ us hl => match us, hl with | [_, _], _ => rfl)
      (L3.at_mk KX G ?a25 ?l25 ?c25 ?k25 fun _ _ _ _ _ _ us hl => match us, hl with | [_], _ => rfl)
      (L3.at_mk KX G ?a26 ?l26 ?c26 ?k26 fun _ _ _ _ _ _ us hl => match us, hl with | [_, _, _], _ => rfl)
      (L3.at_mk KX G ?a27 ?l27 ?c27 ?k27 fun _ _ _ _ _ _ us hl => match us, hl with | [_, _, _], _ => rfl)
      (L3.at_mk KX G ?a28 ?l28 ?c28 ?k28 fun _ _ _ _ _ _ us hl => match us, hl with | [_, _], _ => rfl)
      (L3.at_mk KX G ?a29 ?l29 ?c29 ?k29 fun _ _ _ _ _ _ us hl => match us, hl with | [_, _], _ => rfl)
      (L3.at_mk KX G ?a30 ?l30 ?c30 ?k30 fun _ _ _ _ _ _ us hl => match us, hl with | [_, _], _ => rfl)
      (L3.at_mk KX G ?a31 ?l31 ?c31 ?k31 fun _ _ _ _ _ _ us hl => match us, hl with | [_, _, _], _ => rfl)
      (L3.at_mk KX G ?a32 ?l32 ?c32 ?k32 fun _ _ _ _ _ _ us hl => match us, hl with | [_, _], _ => rfl)
      (L3.at_mk KX G ?a33 ?l33 ?c33 ?k33 fun _ _ _ _ _ _ us hl => match us, hl with | [_, _], _ => rfl)
      (L3.at_mk KX G ?a34 ?l34 ?c34 ?k34 fun _ _ _ _ _ _ us hl => match us, hl with | [_, _], _ => rfl)
      (L3.at_mk KX G ?a35 ?l35 ?c35 ?k35 fun _ _ _ _ _ _ us hl => match us, hl with | [_, _, _], _ => rfl)
      (L3.at_mk KX G ?a36 ?l36 ?c36 ?k36 fun _ _ _ _ _ _ us hl => match us, hl with | [_], _ => rfl)
      (L3.at_mk KX G ?a37 ?l37 ?c37 ?k37 fun _ _ _ _ _ _ us hl => match us, hl with | [_], _ => rfl)
      (L3.at_mk KX G ?a38 ?l38 ?c38 ?k38 fun _ _ _ _ _ _ us hl => match us, hl with | [_, _], _ => rfl)
      (L3.at_mk KX G ?a39 ?l39 ?c39 ?k39 fun _ _ _ _ _ _ us hl => match us, hl with | [_], _ => rfl)
      (L3.at_mk KX G ?a40 ?l40 ?c40 ?k40 fun _ _ _ _ _ _ us hl => match us, hl with | [_, _, _], _ => rfl)
      (L3.at_mk KX G ?a41 ?l41 ?c41 ?k41 fun _ _ _ _ _ _ us hl => match us, hl with | [_, _, _], _ => rfl)
      (L3.at_mk KX G ?a42 ?l42 ?c42 ?k42 fun _ _ _ _ _ _ us hl => match us, hl with | [_, _, _, _], _ => rfl)
      (L3.at_mk KX G ?a43 ?l43 ?c43 ?k43 fun _ _ _ _ _ _ us hl => match us, hl with | [_, _, _, _], _ => rfl)
      (L3.at_mk KX G ?a44 ?l44 ?c44 ?k44 fun _ _ _ _ _ _ us hl => match us, hl with | [_], _ => rfl)
      (L3.at_mk KX G ?a45 ?l45 ?c45 ?k45 fun _ _ _ _ _ _ us hl => match us, hl with | [_], _ => rfl)
      (PySem.W.mg_none_of KX G ?z0)
      (PySem.W.mg_none_of KX G ?z1)
      (PySem.W.mg_none_of KX G ?z2)
      (PySem.W.mg_none_of KX G ?z3)
      (PySem.W.mg_none_of KX G ?z4)
      (PySem.W.mg_none_of KX G ?z5)
      (PySem.W.mg_none_of KX G ?z6)
      (PySem.W.mg_none_of KX G ?z7)
      (PySem.W.mg_none_of KX G ?z8)
      (PySem.W.mg_none_of KX G ?z9)
      (PySem.W.mg_none_of KX G ?z10)
      (PySem.W.mg_none_of KX G ?z11)
      (PySem.W.mg_none_of KX G ?z12)
      (PySem.W.mg_none_of KX G ?z13)
      (PySem.W.mg_none_of KX G ?z14)
      (PySem.W.mg_none_of KX G ?z15)
      (PySem.W.mg_none_of KX G ?z16)
      (PySem.W.mg_none_of KX G ?z17)
      (PySem.W.mg_none_of KX G ?z18)
      (L3.cst_mk KX G ?u0 ?r0)
      (L3.cst_mk KX G ?u1 ?r1)
      (L3.cst_mk KX G ?u2 ?r2)
      (L3.cst_mk KX G ?u3 ?r3)
      (L3.cst_mk KX G ?u4 ?r4)
      (L3.cst_mk KX G ?u5 ?r5)
      (L3.cst_mk KX G ?u6 ?r6)
      (L3.cst_mk KX G ?u7 ?r7)
      (L3.cst_mk KX G ?u8 ?r8)) ?a ?l ?c ?k
    (case a0 => k_is)
    (case l0 => k_is)
    (case c0 => k_is)
    (case k0 => k_is)
    (case a1 => k_is)
    (case l1 => k_is)
    (case c1 => k_is)
    (case k1 => k_is)
    (case a2 => k_is)
    (case l2 => k_is)
    (case c2 => k_is)
    (case k2 => k_is)
    (case a3 => k_is)
    (case l3 => k_is)
    (case c3 => k_is)
    (case k3 => k_is)
    (case a4 => k_is)
    (case l4 => k_is)
    (case c4 => k_is)
    (case k4 => k_is)
    (case a5 => k_is)
    (case l5 => k_is)
    (case c5 => k_is)
    (case k5 => k_is)
    (case a6 => k_is)
    (case l6 => k_is)
    (case c6 => k_is)
    (case k6 => k_is)
    (case a7 => k_is)
    (case l7 => k_is)
    (case c7 => k_is)
    (case k7 => k_is)
    (case a8 => k_is)
    (case l8 => k_is)
    (case c8 => k_is)
    (case k8 => k_is)
    (case a9 => k_is)
    (case l9 => k_is)
    (case c9 => k_is)
    (case k9 => k_is)
    (case a10 => k_is)
    (case l10 => k_is)
    (case c10 => k_is)
    (case k10 => k_is)
    (case a11 => k_is)
    (case l11 => k_is)
    (case c11 => k_is)
    (case k11 => k_is)
    (case a12 => k_is)
    (case l12 => k_is)
    (case c12 => k_is)
    (case k12 => k_is)
    (case a13 => k_is)
    (case l13 => k_is)
    (case c13 => k_is)
    (case k13 => k_is)
    (case a14 => k_is)
    (case l14 => k_is)
    (case c14 => k_is)
    (case k14 => k_is)
    (case a15 => k_is)
    (case l15 => k_is)
    (case c15 => k_is)
    (case k15 => k_is)
    (case a16 => k_is)
    (case l16 => k_is)
    (case c16 => k_is)
    (case k16 => k_is)
    (case a17 => k_is)
    (case l17 => k_is)
    (case c17 => k_is)
    (case k17 => k_is)
    (case a18 => k_is)
    (case l18 => k_is)
    (case c18 => k_is)
    (case k18 => k_is)
    (case a19 => k_is)
    (case l19 => k_is)
    (case c19 => k_is)
    (case k19 => k_is)
    (case a20 => k_is)
    (case l20 => k_is)
    (case c20 => k_is)
    (case k20 => k_is)
    (case a21 => k_is)
    (case l21 => k_is)
    (case c21 => k_is)
    (case k21 => k_is)
    (case a22 => k_is)
    (case l22 => k_is)
    (case c22 => k_is)
    (case k22 => k_is)
    (case a23 => k_is)
    (case l23 => k_is)
    (case c23 => k_is)
    (case k23 => k_is)
    (case a24 => k_is)
    (case l24 => k_is)
    (case c24 => k_is)
    (case k24 => k_is)
    (case a25 => k_is)
    (case l25 => k_is)
    (case c25 => k_is)
    (case k25 => k_is)
    (case a26 => k_is)
    (case l26 => k_is)
    (case c26 => k_is)
    (case k26 => k_is)
    (case a27 => k_is)
    (case l27 => k_is)
    (case c27 => k_is)
    (case k27 => k_is)
    (case a28 => k_is)
    (case l28 => k_is)
    (case c28 => k_is)
    (case k28 => k_is)
    (case a29 => k_is)
    (case l29 => k_is)
    (case c29 => k_is)
    (case k29 => k_is)
    (case a30 => k_is)
    (case l30 => k_is)
    (case c30 => k_is)
    (case k30 => k_is)
    (case a31 => k_is)
    (case l31 => k_is)
    (case c31 => k_is)
    (case k31 => k_is)
    (case a32 => k_is)
    (case l32 => k_is)
    (case c32 => k_is)
    (case k32 => k_is)
    (case a33 => k_is)
    (case l33 => k_is)
    (case c33 => k_is)
    (case k33 => k_is)
    (case a34 => k_is)
    (case l34 => k_is)
    (case c34 => k_is)
    (case k34 => k_is)
    (case a35 => k_is)
    (case l35 => k_is)
    (case c35 => k_is)
    (case k35 => k_is)
    (case a36 => k_is)
    (case l36 => k_is)
    (case c36 => k_is)
    (case k36 => k_is)
    (case a37 => k_is)
    (case l37 => k_is)
    (case c37 => k_is)
    (case k37 => k_is)
    (case a38 => k_is)
    (case l38 => k_is)
    (case c38 => k_is)
    (case k38 => k_is)
    (case a39 => k_is)
    (case l39 => k_is)
    (case c39 => k_is)
    (case k39 => k_is)
    (case a40 => k_is)
    (case l40 => k_is)
    (case c40 => k_is)
    (case k40 => k_is)
    (case a41 => k_is)
    (case l41 => k_is)
    (case c41 => k_is)
    (case k41 => k_is)
    (case a42 => k_is)
    (case l42 => k_is)
    (case c42 => k_is)
    (case k42 => k_is)
    (case a43 => k_is)
    (case l43 => k_is)
    (case c43 => k_is)
    (case k43 => k_is)
    (case a44 => k_is)
    (case l44 => k_is)
    (case c44 => k_is)
    (case k44 => k_is)
    (case a45 => k_is)
    (case l45 => k_is)
    (case c45 => k_is)
    (case k45 => k_is)
    (case z0 => k_is)
    (case z1 => k_is)
    (case z2 => k_is)
    (case z3 => k_is)
    (case z4 => k_is)
    (case z5 => k_is)
    (case z6 => k_is)
    (case z7 => k_is)
    (case z8 => k_is)
    (case z9 => k_is)
    (case z10 => k_is)
    (case z11 => k_is)
    (case z12 => k_is)
    (case z13 => k_is)
    (case z14 => k_is)
    (case z15 => k_is)
    (case z16 => k_is)
    (case z17 => k_is)
    (case z18 => k_is)
    (case u0 => k_is)
    (case r0 => exact ⟨_, rfl⟩)
    (case u1 => k_is)
    (case r1 => exact ⟨_, rfl⟩)
    (case u2 => k_is)
    (case r2 => exact ⟨_, rfl⟩)
    (case u3 => k_is)
    (case r3 => exact ⟨_, rfl⟩)
    (case u4 => k_is)
    (case r4 => exact ⟨_, rfl⟩)
    (case u5 => k_is)
    (case r5 => exact ⟨_, rfl⟩)
    (case u6 => k_is)
    (case r6 => exact ⟨_, rfl⟩)
    (case u7 => k_is)
    (case r7 => exact ⟨_, rfl⟩)
    (case u8 => k_is)
    (case r8 => exact ⟨_, rfl⟩)
    (case a => k_is)
    (case l => k_is)
    (case c => k_is)
    (case k => k_is)
end
