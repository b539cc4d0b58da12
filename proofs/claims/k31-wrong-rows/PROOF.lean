import PyProof.Rows.All
import Wide.All
import OpenK.AllK
import Wide.FinOn
import HandS.ForMost
import HandS.Deep
import HandS.Zip
import HandS.Style
import HandS.TupAny
import HandS.Conv
import HandS.Wide
import HandS.IsInst
import HandS.Walk
import HandS.Property
import KE.GoesMore
import KE.GoesEnum
import KE.GoesZip
import HandS.SetFor
import HandS.Strs
import HandS.Set
import KE.DataMinMax
import KE.SortData
import KE.KDictZip
import KE.KDictCopyH
import HandS.Text
import HandS.Star
import HandS.Small
import HandS.RaiseMore
import HandS.Codes
import PySem.Challenge.RW_laidbefore_k31_whole_wrong_rows_side_by
section
set_option Elab.async false
set_option linter.all false
set_option maxRecDepth 100000
set_option autoImplicit false
/-! A layer of pure data over HandS, with a store: slots hold pure data or a label; what may change stands in the store under its label. -/
namespace L4
open PySem L2

/-! ### heaps -/
def Ex (H H' : Hp) : Prop := ∀ a o, H a = some o → H' a = some o
theorem Ex.refl (H : Hp) : Ex H H := fun _ _ h => h
theorem Ex.trans {H H1 H2 : Hp} (a : Ex H H1) (b : Ex H1 H2) : Ex H H2 := fun x o h => b x o (a x o h)
theorem Ex.new {H : Hp} {p : Addr} {o : HO} (h : H p = none) : Ex H (upd H p o) := fun a u e => by
  rw [upd_ne (ne_of_none e h)]
  exact e
theorem Ex.back {H H' : Hp} {p : Addr} (e : Ex H H') (h : H' p = none) : H p = none := by
  cases h1 : H p with
  | none => rfl
  | some o =>
    rw [e p o h1] at h
    cases h
/-- the heap without what may change -/
def cut (H : Hp) (W : List Addr) : Hp := fun a => if a ∈ W then none else H a
theorem cut_in {H : Hp} {W : List Addr} {a : Addr} (h : a ∈ W) : cut H W a = none := by unfold cut; rw [if_pos h]
theorem cut_out {H : Hp} {W : List Addr} {a : Addr} (h : a ∉ W) : cut H W a = H a := by unfold cut; rw [if_neg h]
theorem cut_ex {H : Hp} {W : List Addr} : Ex (cut H W) H := fun a o h => by
  by_cases k : a ∈ W
  · rw [cut_in k] at h; cases h
  · rw [cut_out k] at h; exact h
theorem cut_mono {H H' : Hp} {W : List Addr} (e : Ex H H') : Ex (cut H W) (cut H' W) := fun a o h => by
  by_cases k : a ∈ W
  · rw [cut_in k] at h; cases h
  · rw [cut_out k] at h ⊢; exact e a o h
theorem cut_cons {H H' : Hp} {W : List Addr} {a : Addr} (n : H a = none) (e : Ex H H') : Ex (cut H W) (cut H' (a :: W)) := fun b o h => by
  by_cases k : b ∈ W
  · rw [cut_in k] at h; cases h
  · rw [cut_out k] at h
    have nb : b ≠ a := ne_of_none h n
    rw [cut_out (fun z => (List.mem_cons.mp z).elim nb k)]
    exact e b o h
/-- an object that may change has changed -/
theorem cut_upd {H : Hp} {W : List Addr} {a : Addr} {o : HO} (h : a ∈ W) : cut (upd H a o) W = cut H W := by
  funext b
  by_cases k : b ∈ W
  · rw [cut_in k, cut_in k]
  · rw [cut_out k, cut_out k, upd_ne (fun e => k (by rw [e]; exact h))]
theorem cut_sub {H : Hp} {W W' : List Addr} (s : ∀ a ∈ W', a ∈ W) : Ex (cut H W) (cut H W') := fun a o h => by
  by_cases k : a ∈ W
  · rw [cut_in k] at h; cases h
  · rw [cut_out k] at h; rw [cut_out fun z => k (s a z)]; exact h
/-- there, and no tuple -/
structure NT (o : Option HO) : Prop where
  ne : o ≠ none
  nt : ∀ xs, o ≠ some (.tup xs)
theorem NT.ex {H H' : Hp} {a : Addr} (h : NT (H a)) (e : Ex H H') : NT (H' a) := by
  cases q : H a with
  | none => exact absurd q h.ne
  | some o => rw [e a o q, ← q]; exact h
theorem nt_lst {xs : List V} : NT (some (.lst xs)) := ⟨(fun q => nomatch q), fun _ q => nomatch q⟩
theorem nt_dct {kvs : List (List Key × V)} : NT (some (.dT kvs)) := ⟨(fun q => nomatch q), fun _ q => nomatch q⟩
theorem nt_frz {ob : Obj} {u : HO} : NT (some (.frz ob u)) := ⟨(fun q => nomatch q), fun _ q => nomatch q⟩
def Al (W : List Addr) (H : Hp) : Prop := ∀ a ∈ W, NT (H a)
theorem Al.mono {W : List Addr} {H H' : Hp} (h : Al W H) (e : Ex H H') : Al W H' := fun a k => (h a k).ex e
theorem Al.fresh {W : List Addr} {H : Hp} {p : Addr} (h : Al W H) (hp : H p = none) : p ∉ W := fun k => (h p k).ne hp
theorem Al.tup {W : List Addr} {H : Hp} {p : Addr} {xs : List V} (h : Al W H) (hp : H p = some (.tup xs)) : p ∉ W := fun k => (h p k).nt xs hp

theorem ex_rd {H H' : Hp} {a : Addr} {u : HO} (e : Ex H H') (h : Rd H a u) : Rd H' a u := by
  rcases h with h | ⟨o, h⟩
  · exact Or.inl (e a _ h)
  · exact Or.inr ⟨o, e a _ h⟩
theorem ex_l {K : PySem.W.Frag} {H H' : Hp} {a : Addr} {xs : List V} (e : Ex H H') (h : SqL K H a xs) : SqL K H' a xs := by
  rcases h with h | h
  · exact Or.inl (ex_rd e h)
  · exact Or.inr h
theorem ex_t {K : PySem.W.Frag} {H H' : Hp} {a : Addr} {xs : List V} (e : Ex H H') (h : SqT K H a xs) : SqT K H' a xs := by
  rcases h with h | h
  · exact Or.inl (ex_rd e h)
  · exact Or.inr h
theorem sz_of {n : Nat} (h : n ≤ 100000) : n ≤ sizeLine := Nat.le_trans h (by decide)
theorem sz_lt {n : Nat} (h : n < 100000) : n < sizeLine := Nat.lt_of_lt_of_le h (by decide)

/-! ### what a value stands for -/
def keyD : Key → PyData
  | .inl i => .int i
  | .inr x => .str x
def kD (k : List Key) : PyData := .tuple (k.map keyD)
/-- a dict by its keys' kind, an instance: as data -/
def dtD (es : List (List Key × PyData)) : PyData := .dict ((.bool false, .none) :: es.map fun p => (kD p.1, p.2))
def dkD (es : List (Key × PyData)) : PyData := .dict ((.bool true, .none) :: es.map fun p => (keyD p.1, p.2))
def inD (C : Addr) (fs : List (Str × PyData)) : PyData := .dict ((.none, .int (C : Nat)) :: fs.map fun p => (.str p.1, p.2))
mutual
inductive Rp (K : PySem.W.Frag) (I : Hp) : V → PyData → Prop
  | non : Rp K I .non .none
  | bl (b : Bool) : Rp K I (.bl b) (.bool b)
  | int (i : Int) : Rp K I (.int i) (.int i)
  | str (x : Str) : Rp K I (.str x) (.str x)
  | lst {a : Addr} {xs : List V} {ds : List PyData} : I a = some (.lst xs) → RpAll K I xs ds → Rp K I (.ref a) (.list ds)
  | tup {a : Addr} {xs : List V} {ds : List PyData} : I a = some (.tup xs) → RpAll K I xs ds → Rp K I (.ref a) (.tuple ds)
  | dct {a : Addr} {kvs : List (List Key × V)} {es : List (List Key × PyData)} {ds : List (PyData × PyData)} : I a = some (.dT kvs) → RpKV K I (List Key) kvs es → PyData.dict ds = dtD es → Rp K I (.ref a) (.dict ds)
  | dck {a : Addr} {kvs : List (Key × V)} {es : List (Key × PyData)} {ds : List (PyData × PyData)} : I a = some (.dK kvs) → RpKV K I Key kvs es → PyData.dict ds = dkD es → Rp K I (.ref a) (.dict ds)
  | ins {a C dx : Addr} {fvs : List (Str × V)} {fs : List (Str × PyData)} {ds : List (PyData × PyData)} : I a = some (.ins C dx fvs) → RpKV K I Str fvs fs → PyData.dict ds = inD C fs → Rp K I (.ref a) (.dict ds)
inductive RpAll (K : PySem.W.Frag) (I : Hp) : List V → List PyData → Prop
  | nil : RpAll K I [] []
  | cons {v : V} {vs : List V} {d : PyData} {ds : List PyData} : Rp K I v d → RpAll K I vs ds → RpAll K I (v :: vs) (d :: ds)
inductive RpKV (K : PySem.W.Frag) (I : Hp) : (κ : Type) → List (κ × V) → List (κ × PyData) → Prop
  | nil {κ : Type} : RpKV K I κ [] []
  | cons {κ : Type} {k : κ} {v : V} {vs : List (κ × V)} {d : PyData} {ds : List (κ × PyData)} : Rp K I v d → RpKV K I κ vs ds → RpKV K I κ ((k, v) :: vs) ((k, d) :: ds)
end
section
variable {K : PySem.W.Frag} {I I' : Hp}
mutual
theorem Rp.mono (e : Ex I I') : ∀ {v : V} {d : PyData}, Rp K I v d → Rp K I' v d
  | _, _, .non => .non
  | _, _, .bl b => .bl b
  | _, _, .int i => .int i
  | _, _, .str x => .str x
  | _, _, .lst h r => .lst (e _ _ h) (RpAll.mono e r)
  | _, _, .tup h r => .tup (e _ _ h) (RpAll.mono e r)
  | _, _, .dct h r q => .dct (e _ _ h) (RpKV.mono e r) q
  | _, _, .dck h r q => .dck (e _ _ h) (RpKV.mono e r) q
  | _, _, .ins h r q => .ins (e _ _ h) (RpKV.mono e r) q
theorem RpAll.mono (e : Ex I I') : ∀ {vs : List V} {ds : List PyData}, RpAll K I vs ds → RpAll K I' vs ds
  | _, _, .nil => .nil
  | _, _, .cons h r => .cons (Rp.mono e h) (RpAll.mono e r)
theorem RpKV.mono (e : Ex I I') : ∀ {κ : Type} {vs : List (κ × V)} {ds : List (κ × PyData)}, RpKV K I κ vs ds → RpKV K I' κ vs ds
  | _, _, _, .nil => .nil
  | _, _, _, .cons h r => .cons (Rp.mono e h) (RpKV.mono e r)
end
theorem canLay_list (xs : List PyData) : (PyData.list xs).canLay0 = PyData.canLayAll0 xs := rfl
mutual
theorem Rp.dp : ∀ {d : PyData} {v : V}, Rp K I v d → d.canLay0 = true → Dp K I v d
  | .none, _, .non, _ => .non
  | .bool b, _, .bl _, _ => .bl b
  | .int i, _, .int _, _ => .int i
  | .str x, _, .str _, _ => .str x
  | .list ds, _, .lst h r, c => .lst (.inl (.inl h)) (RpAll.dp r c)
  | .tuple ds, _, .tup h r, c => .tup (.inl (.inl h)) (RpAll.dp r c)
  | .dict es, _, _, c => by simp [PyData.canLay0] at c
theorem RpAll.dp : ∀ {ds : List PyData} {vs : List V}, RpAll K I vs ds → PyData.canLayAll0 ds = true → DpAll K I vs ds
  | [], _, .nil, _ => .nil
  | d :: ds, _, .cons h r, c => by
    have c' : (d.canLay0 && PyData.canLayAll0 ds) = true := c
    rw [Bool.and_eq_true] at c'
    exact .cons (Rp.dp h c'.1) (RpAll.dp r c'.2)
end
theorem RpAll.length : ∀ {vs : List V} {ds : List PyData}, RpAll K I vs ds → vs.length = ds.length
  | _, _, .nil => rfl
  | _, _, .cons _ r => congrArg (· + 1) (RpAll.length r)
theorem RpAll.get : ∀ {vs : List V} {ds : List PyData} {i : Nat} {v : V}, RpAll K I vs ds → vs[i]? = some v → ∃ d, ds[i]? = some d ∧ Rp K I v d
  | _, _, _, _, .nil, e => by simp at e
  | _, _, 0, _, .cons h _, e => by
    have e' := Option.some.inj e
    subst e'
    exact ⟨_, rfl, h⟩
  | _, _, i + 1, _, .cons _ r, e => RpAll.get (i := i) r e
theorem RpAll.get' : ∀ {vs : List V} {ds : List PyData} {i : Nat} {d : PyData}, RpAll K I vs ds → ds[i]? = some d → ∃ v, vs[i]? = some v ∧ Rp K I v d
  | _, _, _, _, .nil, e => by simp at e
  | _, _, 0, _, .cons h _, e => by
    have e' := Option.some.inj e
    subst e'
    exact ⟨_, rfl, h⟩
  | _, _, i + 1, _, .cons _ r, e => RpAll.get' (i := i) r e
theorem RpAll.append : ∀ {vs ws : List V} {ds es : List PyData}, RpAll K I vs ds → RpAll K I ws es → RpAll K I (vs ++ ws) (ds ++ es)
  | _, _, _, _, .nil, s => s
  | _, _, _, _, .cons h r, s => .cons h (RpAll.append r s)
theorem RpAll.one {v : V} {d : PyData} (h : Rp K I v d) : RpAll K I [v] [d] := .cons h .nil
theorem RpAll.drop : ∀ {vs : List V} {ds : List PyData} (n : Nat), RpAll K I vs ds → RpAll K I (vs.drop n) (ds.drop n)
  | _, _, 0, r => r
  | _, _, _ + 1, .nil => .nil
  | _, _, n + 1, .cons _ r => RpAll.drop n r
theorem RpAll.take : ∀ {vs : List V} {ds : List PyData} (n : Nat), RpAll K I vs ds → RpAll K I (vs.take n) (ds.take n)
  | _, _, 0, _ => .nil
  | _, _, _ + 1, .nil => .nil
  | _, _, n + 1, .cons h r => .cons h (RpAll.take n r)
theorem RpAll.set {v : V} {d : PyData} (h : Rp K I v d) : ∀ {vs : List V} {ds : List PyData} (n : Nat), RpAll K I vs ds → RpAll K I (vs.set n v) (ds.set n d)
  | _, _, _, .nil => .nil
  | _, _, 0, .cons _ r => .cons h r
  | _, _, n + 1, .cons g r => .cons g (RpAll.set h n r)
theorem RpAll.erase : ∀ {vs : List V} {ds : List PyData} (n : Nat), RpAll K I vs ds → RpAll K I (vs.eraseIdx n) (ds.eraseIdx n)
  | _, _, _, .nil => .nil
  | _, _, 0, .cons _ r => r
  | _, _, n + 1, .cons g r => .cons g (RpAll.erase n r)
theorem RpAll.reverse : ∀ {vs : List V} {ds : List PyData}, RpAll K I vs ds → RpAll K I vs.reverse ds.reverse
  | _, _, .nil => .nil
  | _, _, .cons h r => by
    rw [List.reverse_cons, List.reverse_cons]
    exact RpAll.append (RpAll.reverse r) (.one h)
theorem RpAll.of_get : ∀ {vs : List V} {ds : List PyData}, vs.length = ds.length → (∀ (i : Nat) (v : V) (d : PyData), vs[i]? = some v → ds[i]? = some d → Rp K I v d) → RpAll K I vs ds
  | [], [], _, _ => .nil
  | v :: vs, d :: ds, hl, h => .cons (h 0 v d rfl rfl) (RpAll.of_get (Nat.succ.inj hl) fun i w e hw he => h (i + 1) w e hw he)
theorem RpAll.ints : ∀ {vs : List V} {ns : List Int}, RpAll K I vs (ns.map PyData.int) → vs = ns.map V.int
  | _, [], .nil => rfl
  | _, n :: ns, .cons h r => by
    cases h
    rw [RpAll.ints (ns := ns) r]
    rfl
theorem RpAll.bls : ∀ {vs : List V} {bs : List Bool}, RpAll K I vs (bs.map PyData.bool) → vs = bs.map V.bl
  | _, [], .nil => rfl
  | _, n :: ns, .cons h r => by
    cases h
    rw [RpAll.bls (bs := ns) r]
    rfl
theorem RpAll.strs : ∀ {vs : List V} {bs : List Str}, RpAll K I vs (bs.map PyData.str) → vs = bs.map V.str
  | _, [], .nil => rfl
  | _, n :: ns, .cons h r => by
    cases h
    rw [RpAll.strs (bs := ns) r]
    rfl
theorem RpAll.of_ints : ∀ (ns : List Int), RpAll K I (ns.map V.int) (ns.map PyData.int)
  | [] => .nil
  | n :: ns => .cons (.int n) (RpAll.of_ints ns)
end

/-! ### slots, the store -/
inductive Sl where
  | un
  | pu (d : PyData)
  | lo (l : Nat)
  | rl (xs : List PyData)
/-- a field: pure, or a label -/
inductive Fv where
  | pu (d : PyData)
  | lo (l : Nat)
inductive Ob where
  | gone
  | lst (xs : List PyData)
  | dt (es : List (List Key × PyData))
  | dk (es : List (Key × PyData))
  | ft (es : List (List Key × PyData))
  | fk (es : List (Key × PyData))
  | ins (C : Addr) (fs : List (Str × Fv))
structure D4 where
  sl : List Sl
  st : List Ob
def D4.set (ds : D4) (i : Nat) (s : Sl) : D4 := ⟨ds.sl.set i s, ds.st⟩
def D4.put (ds : D4) (l : Nat) (o : Ob) : D4 := ⟨ds.sl, ds.st.set l o⟩
def D4.length (ds : D4) : Nat := ds.sl.length
/-- a new label -/
def D4.new (ds : D4) (i : Nat) (o : Ob) : D4 := ⟨ds.sl.set i (.lo ds.st.length), ds.st ++ [o]⟩
def FvOk (K : PySem.W.Frag) (I : Hp) (adr : List Addr) (v : V) : Fv → Prop
  | .pu d => Rp K I v d
  | .lo l => ∃ a, adr[l]? = some a ∧ v = .ref a
inductive FsOk (K : PySem.W.Frag) (I : Hp) (adr : List Addr) : List (Str × V) → List (Str × Fv) → Prop
  | nil : FsOk K I adr [] []
  | cons {f : Str} {v : V} {vs : List (Str × V)} {d : Fv} {ds : List (Str × Fv)} : FvOk K I adr v d → FsOk K I adr vs ds → FsOk K I adr ((f, v) :: vs) ((f, d) :: ds)
/-- what the heap has for an object -/
def ObAt (K : PySem.W.Frag) (I : Hp) (adr : List Addr) (u : HO) : Ob → Prop
  | .gone => True
  | .lst xs => ∃ vs, u = .lst vs ∧ RpAll K I vs xs
  | .dt es => ∃ kvs, u = .dT kvs ∧ RpKV K I (List Key) kvs es
  | .dk es => ∃ kvs, u = .dK kvs ∧ RpKV K I Key kvs es
  | .ft es => ∃ kvs ob, u = .frz ob (.dT kvs) ∧ RpKV K I (List Key) kvs es
  | .fk es => ∃ kvs ob, u = .frz ob (.dK kvs) ∧ RpKV K I Key kvs es
  | .ins C fs => ∃ dx fvs, u = .ins C dx fvs ∧ FsOk K I adr fvs fs
def Ob.live : Ob → Bool
  | .gone => false
  | _ => true
def SlOk (K : PySem.W.Frag) (I : Hp) (adr : List Addr) (o : Option V) : Sl → Prop
  | .un => True
  | .pu d => ∃ v, o = some v ∧ Rp K I v d
  | .lo l => ∃ a, adr[l]? = some a ∧ o = some (.ref a)
  | .rl xs => ∃ a vs, o = some (.ref a) ∧ SqL K I a vs ∧ RpAll K I vs xs
/-- the state, its labels at these addresses -/
structure StA (K : PySem.W.Frag) (W N : List Addr) (H : Hp) (σ : L2.St) (adr : List Addr) (ds : D4) : Prop where
  len : σ.length = ds.sl.length
  al : Al W H
  la : adr.length = ds.st.length
  nd : adr.Nodup
  there : ∀ a ∈ adr, H a ≠ none
  sl : ∀ (i : Nat) (s : Sl), ds.sl[i]? = some s → SlOk K (cut H W) adr (σ[i]?.getD none) s
  ob : ∀ (l : Nat) (a : Addr) (o : Ob), adr[l]? = some a → ds.st[l]? = some o → o.live = true → a ∈ W ∧ a ∉ N ∧ ∃ u, H a = some u ∧ ObAt K (cut H W) adr u o
def Stt (K : PySem.W.Frag) (W N : List Addr) (H : Hp) (σ : L2.St) (ds : D4) : Prop := ∃ adr, StA K W N H σ adr ds
section
variable {K : PySem.W.Frag} {W N : List Addr} {H H' I I' : Hp} {σ : L2.St} {adr : List Addr} {ds : D4} {v : V} {u : HO} {o : Option V}
theorem FvOk.mono (e : Ex I I') {f : Fv} (h : FvOk K I adr v f) : FvOk K I' adr v f := by
  cases f with
  | pu d => exact Rp.mono e h
  | lo l => exact h
theorem FsOk.mono (e : Ex I I') : ∀ {vs : List (Str × V)} {fs : List (Str × Fv)}, FsOk K I adr vs fs → FsOk K I' adr vs fs
  | _, _, .nil => .nil
  | _, _, .cons h r => .cons (h.mono e) (FsOk.mono e r)
theorem ObAt.mono (e : Ex I I') {ob : Ob} (h : ObAt K I adr u ob) : ObAt K I' adr u ob := by
  cases ob with
  | gone => trivial
  | lst xs => obtain ⟨vs, h1, h2⟩ := h; exact ⟨vs, h1, h2.mono e⟩
  | dt xs => obtain ⟨vs, h1, h2⟩ := h; exact ⟨vs, h1, h2.mono e⟩
  | dk xs => obtain ⟨vs, h1, h2⟩ := h; exact ⟨vs, h1, h2.mono e⟩
  | ft xs => obtain ⟨vs, ob, h1, h2⟩ := h; exact ⟨vs, ob, h1, h2.mono e⟩
  | fk xs => obtain ⟨vs, ob, h1, h2⟩ := h; exact ⟨vs, ob, h1, h2.mono e⟩
  | ins C fs => obtain ⟨dx, fvs, h1, h2⟩ := h; exact ⟨dx, fvs, h1, h2.mono e⟩
theorem SlOk.mono (e : Ex I I') {s : Sl} (h : SlOk K I adr o s) : SlOk K I' adr o s := by
  cases s with
  | un => trivial
  | pu d => obtain ⟨v, h1, h2⟩ := h; exact ⟨v, h1, h2.mono e⟩
  | lo l => exact h
  | rl xs => obtain ⟨a, vs, h1, h2, h3⟩ := h; exact ⟨a, vs, h1, ex_l e h2, h3.mono e⟩
theorem StA.mono (h : StA K W N H σ adr ds) (e : Ex H H') : StA K W N H' σ adr ds :=
  ⟨h.len, h.al.mono e, h.la, h.nd, fun a ha => by
    cases q : H a with
    | none => exact absurd q (h.there a ha)
    | some o => rw [e a o q]; exact (fun z => nomatch z), fun i s q => (h.sl i s q).mono (cut_mono e), fun l a o h1 h2 h3 => by
    obtain ⟨aW, aN, u, hu, r⟩ := h.ob l a o h1 h2 h3
    exact ⟨aW, aN, u, e _ _ hu, r.mono (cut_mono e)⟩⟩
theorem Stt.mono (h : Stt K W N H σ ds) (e : Ex H H') : Stt K W N H' σ ds := by
  obtain ⟨adr, h⟩ := h
  exact ⟨adr, h.mono e⟩
theorem Stt.al (h : Stt K W N H σ ds) : Al W H := by
  obtain ⟨adr, h⟩ := h
  exact h.al
theorem Stt.len (h : Stt K W N H σ ds) : σ.length = ds.sl.length := by
  obtain ⟨adr, h⟩ := h
  exact h.len
/-- what stands in a slot's own object -/
theorem Stt.own (h : Stt K W N H σ ds) {i l : Nat} {ob : Ob} (h1 : ds.sl[i]? = some (.lo l)) (h2 : ds.st[l]? = some ob) (h3 : ob.live = true) : ∃ a u adr, σ[i]?.getD none = some (.ref a) ∧ a ∈ W ∧ a ∉ N ∧ H a = some u ∧ ObAt K (cut H W) adr u ob := by
  obtain ⟨adr, h⟩ := h
  obtain ⟨a, e1, e2⟩ := h.sl i _ h1
  obtain ⟨aW, aN, u, hu, r⟩ := h.ob l a ob e1 h2 h3
  exact ⟨a, u, adr, e2, aW, aN, hu, r⟩
end

/-! ### evaluation, leaving all as it was -/
def Ev (K : PySem.W.Frag) (te : TE) (ds : D4) (d : PyData) : Prop :=
  ∀ W N σ H, Stt K W N H σ ds → ∀ Q : VK, (∀ v H', Ex H H' → Rp K (cut H' W) v d → Q v H') → te σ H Q
/-- a list that is read, not kept -/
def ErL (K : PySem.W.Frag) (te : TE) (ds : D4) (xs : List PyData) : Prop :=
  ∀ W N σ H, Stt K W N H σ ds → ∀ Q : VK, (∀ a vs H', Ex H H' → SqL K H' a vs → RpAll K (cut H' W) vs xs → Q (.ref a) H') → te σ H Q
def ErT (K : PySem.W.Frag) (te : TE) (ds : D4) (xs : List PyData) : Prop :=
  ∀ W N σ H, Stt K W N H σ ds → ∀ Q : VK, (∀ a vs H', Ex H H' → SqT K H' a vs → RpAll K (cut H' W) vs xs → Q (.ref a) H') → te σ H Q
/-- a new list -/
def EnL (K : PySem.W.Frag) (te : TE) (ds : D4) (xs : List PyData) : Prop :=
  ∀ W N σ H, Stt K W N H σ ds → ∀ Q : VK, (∀ a vs H', Ex H H' → H a = none → H' a = some (.lst vs) → RpAll K (cut H' (a :: W)) vs xs → Q (.ref a) H') → te σ H Q
/-- a test -/
def Et (K : PySem.W.Frag) (tt : TT) (ds : D4) (b : Bool) : Prop :=
  ∀ W N σ H, Stt K W N H σ ds → ∀ Q : Bool → Hp → Prop, (∀ H', Ex H H' → Q b H') → tt σ H Q
/-- arguments -/
def Ea (K : PySem.W.Frag) (ta : TA) (ds : D4) (xs : List PyData) : Prop :=
  ∀ W N σ H, Stt K W N H σ ds → ∀ Q : List V → Hp → Prop, (∀ vs H', Ex H H' → RpAll K (cut H' W) vs xs → Q vs H') → ta σ H Q
/-- a part of a slice -/
def Eo (K : PySem.W.Frag) (to : TO) (ds : D4) (o : Option Int) : Prop :=
  ∀ W N σ H, Stt K W N H σ ds → ∀ Q : Option Int → Hp → Prop, (∀ H', Ex H H' → Q o H') → to σ H Q

/-! ### operations on data -/
def RD (K : PySem.W.Frag) (r : R2) (x y z : PyData) : Prop :=
  ∀ W H v u, Al W H → Rp K (cut H W) v x → Rp K (cut H W) u y → ∀ Q : VK, (∀ w H', Ex H H' → Rp K (cut H' W) w z → Q w H') → r v u H Q
def UD (K : PySem.W.Frag) (r : V → Hp → VK → Prop) (x z : PyData) : Prop :=
  ∀ W H v, Al W H → Rp K (cut H W) v x → ∀ Q : VK, (∀ w H', Ex H H' → Rp K (cut H' W) w z → Q w H') → r v H Q
def CD (K : PySem.W.Frag) (r : List V → Hp → VK → Prop) (xs : List PyData) (z : PyData) : Prop :=
  ∀ W H vs, Al W H → RpAll K (cut H W) vs xs → ∀ Q : VK, (∀ w H', Ex H H' → Rp K (cut H' W) w z → Q w H') → r vs H Q

section
variable {K : PySem.W.Frag} {ds : D4} {ta tb te tc : TE} {t u : TT} {x y z d : PyData} {r : R2}
theorem ev_var {i : Nat} (h : ds.sl[i]? = some (.pu d)) : Ev K (tVar i) ds d := fun W N σ H S Q q => by
  obtain ⟨adr, S⟩ := S
  obtain ⟨v, e, hv⟩ := S.sl i _ h
  have e' : σ[i]? = some (some v) := by
    cases k : σ[i]? with
    | none => rw [k] at e; cases e
    | some o => rw [k] at e; exact congrArg some e
  exact ⟨v, e', q v H (Ex.refl H) hv⟩
theorem ev_int {i : Int} : Ev K (tC (.int i)) ds (.int i) := fun W N σ H S Q q => q _ H (Ex.refl H) (.int i)
theorem ev_bl {b : Bool} : Ev K (tC (.bl b)) ds (.bool b) := fun W N σ H S Q q => q _ H (Ex.refl H) (.bl b)
theorem ev_str {x : Str} : Ev K (tC (.str x)) ds (.str x) := fun W N σ H S Q q => q _ H (Ex.refl H) (.str x)
theorem ev_non : Ev K (tC .non) ds .none := fun W N σ H S Q q => q _ H (Ex.refl H) .non
theorem ev_op (ha : Ev K ta ds x) (hb : Ev K tb ds y) (hr : RD K r x y z) : Ev K (tOp r ta tb) ds z := fun W N σ H S Q q =>
  ha W N σ H S _ fun v H1 e1 r1 => hb W N σ H1 (S.mono e1) _ fun u H2 e2 r2 =>
    hr W H2 v u ((S.al.mono e1).mono e2) (r1.mono (cut_mono e2)) r2 Q fun w H3 e3 r3 => q w H3 ((e1.trans e2).trans e3) r3
theorem ev_un {r : V → Hp → VK → Prop} (ha : Ev K ta ds x) (hr : UD K r x z) : Ev K (tUn r ta) ds z := fun W N σ H S Q q =>
  ha W N σ H S _ fun v H1 e1 r1 => hr W H1 v (S.al.mono e1) r1 Q fun w H3 e3 r3 => q w H3 (e1.trans e3) r3
theorem ea_nil : Ea K tNil ds [] := fun W N σ H S Q q => q [] H (Ex.refl H) .nil
theorem ea_cons {tr : TA} {xs : List PyData} (ha : Ev K ta ds x) (hr : Ea K tr ds xs) : Ea K (tCons ta tr) ds (x :: xs) := fun W N σ H S Q q =>
  ha W N σ H S _ fun v H1 e1 r1 => hr W N σ H1 (S.mono e1) _ fun vs H2 e2 r2 => q (v :: vs) H2 (e1.trans e2) (.cons (r1.mono (cut_mono e2)) r2)
theorem ev_cb {c : List V → Hp → VK → Prop} {tr : TA} {xs : List PyData} (ha : Ea K tr ds xs) (hr : CD K c xs z) : Ev K (tCB c tr) ds z := fun W N σ H S Q q =>
  ha W N σ H S _ fun vs H1 e1 r1 => hr W H1 vs (S.al.mono e1) r1 Q fun w H2 e2 r2 => q w H2 (e1.trans e2) r2
theorem cut_new {W : List Addr} {H : Hp} {p : Addr} {o : HO} (A : Al W H) (hp : H p = none) : cut (upd H p o) W p = some o := by
  rw [cut_out (A.fresh hp), upd_same]
theorem ev_tup {tr : TA} {xs : List PyData} (ha : Ea K tr ds xs) (hl : xs.length ≤ 100000) : Ev K (tTup tr) ds (.tuple xs) := fun W N σ H S Q q =>
  ha W N σ H S _ fun vs H1 e1 r1 => ⟨by rw [r1.length]; exact sz_of hl, fun p hp =>
    q _ _ (e1.trans (Ex.new hp)) (.tup (cut_new (S.al.mono e1) hp) (r1.mono (cut_mono (Ex.new hp))))⟩
theorem en_lst {tr : TA} {xs : List PyData} (ha : Ea K tr ds xs) (hl : xs.length ≤ 100000) : EnL K (tLst tr) ds xs := fun W N σ H S Q q =>
  ha W N σ H S _ fun vs H1 e1 r1 => ⟨by rw [r1.length]; exact sz_of hl, fun p hp =>
    q p vs _ (e1.trans (Ex.new hp)) (e1.back hp) upd_same (r1.mono (cut_cons hp (Ex.new hp)))⟩
theorem EnL.ev {xs : List PyData} (h : EnL K te ds xs) : Ev K te ds (.list xs) := fun W N σ H S Q q =>
  h W N σ H S _ fun a vs H' e n h1 r => q _ _ e (.lst (by rw [cut_out (S.al.fresh n)]; exact h1) (r.mono (cut_sub fun b hb => List.mem_cons_of_mem _ hb)))
theorem Ev.rl {xs : List PyData} (h : Ev K te ds (.list xs)) : ErL K te ds xs := fun W N σ H S Q q =>
  h W N σ H S _ fun v H' e r => by
    cases r with
    | lst h1 r1 => exact q _ _ H' e (.inl (.inl (cut_ex _ _ h1))) r1
theorem Ev.rt {xs : List PyData} (h : Ev K te ds (.tuple xs)) : ErT K te ds xs := fun W N σ H S Q q =>
  h W N σ H S _ fun v H' e r => by
    cases r with
    | tup h1 r1 => exact q _ _ H' e (.inl (.inl (cut_ex _ _ h1))) r1
theorem EnL.rl {xs : List PyData} (h : EnL K te ds xs) : ErL K te ds xs := h.ev.rl
theorem getD_of {o : Option (Option V)} {v : V} (e : o.getD none = some v) : o = some (some v) := by
  cases o with
  | none => cases e
  | some o => exact congrArg some e
theorem er_own {i l : Nat} {xs : List PyData} (h : ds.sl[i]? = some (.lo l)) (h' : ds.st[l]? = some (.lst xs)) : ErL K (tVar i) ds xs := fun W N σ H S Q q => by
  obtain ⟨a, u, adr, e, h2, h3, h4, vs, e', h5⟩ := S.own h h' rfl
  subst e'
  exact ⟨.ref a, getD_of e, q a vs H (Ex.refl H) (.inl (.inl h4)) h5⟩
theorem er_rl {i : Nat} {xs : List PyData} (h : ds.sl[i]? = some (.rl xs)) : ErL K (tVar i) ds xs := fun W N σ H S Q q => by
  obtain ⟨adr, S⟩ := S
  obtain ⟨a, vs, e, h4, h5⟩ := S.sl i _ h
  exact ⟨.ref a, getD_of e, q a vs H (Ex.refl H) (ex_l cut_ex h4) h5⟩
/-! dicts as data -/
section
variable {κ : Type} [DecidableEq κ]
def putD (es : List (κ × PyData)) (k : κ) (d : PyData) : List (κ × PyData) :=
  if (es.any fun p => decide (p.1 = k)) = true then es.map (fun p => if p.1 = k then (p.1, d) else p) else es ++ [(k, d)]
def valD (es : List (κ × PyData)) (k : κ) : Option PyData := (es.find? fun p => decide (p.1 = k)).map (·.2)
omit [DecidableEq κ] in
theorem RpKV.length {I : Hp} : ∀ {kvs : List (κ × V)} {es : List (κ × PyData)}, RpKV K I κ kvs es → kvs.length = es.length
  | _, _, .nil => rfl
  | _, _, .cons _ r => congrArg (· + 1) (RpKV.length r)
omit [DecidableEq κ] in
theorem RpKV.keys {I : Hp} : ∀ {kvs : List (κ × V)} {es : List (κ × PyData)}, RpKV K I κ kvs es → kvs.map (·.1) = es.map (·.1)
  | _, _, .nil => rfl
  | _, _, .cons _ r => by rw [List.map_cons, List.map_cons, RpKV.keys r]
theorem RpKV.any {I : Hp} (k : κ) : ∀ {kvs : List (κ × V)} {es : List (κ × PyData)}, RpKV K I κ kvs es → (kvs.any fun p => decide (p.1 = k)) = es.any fun p => decide (p.1 = k)
  | _, _, .nil => rfl
  | _, _, .cons _ r => by rw [List.any_cons, List.any_cons, RpKV.any k r]
theorem RpKV.val {I : Hp} {k : κ} {d : PyData} : ∀ {kvs : List (κ × V)} {es : List (κ × PyData)}, RpKV K I κ kvs es → valD es k = some d → ∃ v, valV kvs k = some v ∧ Rp K I v d
  | _, _, .nil, h => by simp [valD] at h
  | _, _, .cons (k := k') (vs := vs) (ds := ds) (v := v) (d := d') hr r, h => by
    by_cases e : k' = k
    · have h' : some d' = some d := by simpa [valD, List.find?_cons, e] using h
      cases h'
      exact ⟨v, valV_pos (p := (k', v)) e, hr⟩
    · have h' : valD ds k = some d := by simpa [valD, List.find?_cons, e] using h
      obtain ⟨w, hw, rw'⟩ := RpKV.val r h'
      exact ⟨w, by rw [valV_neg (p := (k', v)) e]; exact hw, rw'⟩
theorem RpKV.none {I : Hp} {k : κ} : ∀ {kvs : List (κ × V)} {es : List (κ × PyData)}, RpKV K I κ kvs es → valD es k = Option.none → valV kvs k = Option.none
  | _, _, .nil, h => rfl
  | _, _, .cons (k := k') (vs := vs) (ds := ds) (v := v) (d := d') hr r, h => by
    by_cases e : k' = k
    · have h' : some d' = Option.none := by simpa [valD, List.find?_cons, e] using h
      cases h'
    · have h' : valD ds k = Option.none := by simpa [valD, List.find?_cons, e] using h
      rw [valV_neg (p := (k', v)) e]
      exact RpKV.none r h'
theorem RpKV.map {I : Hp} {k : κ} {v : V} {d : PyData} (hv : Rp K I v d) : ∀ {kvs : List (κ × V)} {es : List (κ × PyData)}, RpKV K I κ kvs es → RpKV K I κ (kvs.map fun p => if p.1 = k then (p.1, v) else p) (es.map fun p => if p.1 = k then (p.1, d) else p)
  | _, _, .nil => .nil
  | _, _, .cons (k := k') hr r => by
    rw [List.map_cons, List.map_cons]
    by_cases e : k' = k
    · simp only [e, if_true]
      exact .cons hv (RpKV.map hv r)
    · simp only [e, if_false]
      exact .cons hr (RpKV.map hv r)
omit [DecidableEq κ] in
theorem RpKV.snoc {I : Hp} {k : κ} {v : V} {d : PyData} (hv : Rp K I v d) : ∀ {kvs : List (κ × V)} {es : List (κ × PyData)}, RpKV K I κ kvs es → RpKV K I κ (kvs ++ [(k, v)]) (es ++ [(k, d)])
  | _, _, .nil => .cons hv .nil
  | _, _, .cons hr r => .cons hr (RpKV.snoc hv r)
theorem RpKV.put {I : Hp} {k : κ} {v : V} {d : PyData} (hv : Rp K I v d) {kvs : List (κ × V)} {es : List (κ × PyData)} (r : RpKV K I κ kvs es) : RpKV K I κ (putK kvs k v) (putD es k d) := by
  unfold putK putD
  rw [r.any k]
  by_cases q : (es.any fun p => decide (p.1 = k)) = true
  · rw [if_pos q, if_pos q]; exact r.map hv
  · rw [if_neg q, if_neg q]; exact r.snoc hv
end
theorem RpAll.key {I : Hp} : ∀ {vs : List V} {k : List Key}, RpAll K I vs (k.map keyD) → vs = k.map kV
  | _, [], .nil => rfl
  | _, .inl i :: r, .cons h t => by
    cases h
    rw [RpAll.key (k := r) t]
    rfl
  | _, .inr x :: r, .cons h t => by
    cases h
    rw [RpAll.key (k := r) t]
    rfl
theorem RpAll.of_key {I : Hp} : ∀ k : List Key, RpAll K I (k.map kV) (k.map keyD)
  | [] => .nil
  | .inl i :: r => .cons (.int i) (RpAll.of_key r)
  | .inr x :: r => .cons (.str x) (RpAll.of_key r)
/-- a dict that is read; a new one -/
def ErD (K : PySem.W.Frag) (te : TE) (ds : D4) (es : List (List Key × PyData)) : Prop :=
  ∀ W N σ H, Stt K W N H σ ds → ∀ Q : VK, (∀ a kvs H', Ex H H' → Rd H' a (.dT kvs) → RpKV K (cut H' W) (List Key) kvs es → Q (.ref a) H') → te σ H Q
def ErK (K : PySem.W.Frag) (te : TE) (ds : D4) (es : List (Key × PyData)) : Prop :=
  ∀ W N σ H, Stt K W N H σ ds → ∀ Q : VK, (∀ a kvs H', Ex H H' → Rd H' a (.dK kvs) → RpKV K (cut H' W) Key kvs es → Q (.ref a) H') → te σ H Q
def EnD (K : PySem.W.Frag) (te : TE) (ds : D4) (es : List (List Key × PyData)) : Prop :=
  ∀ W N σ H, Stt K W N H σ ds → ∀ Q : VK, (∀ a kvs H', Ex H H' → H a = none → H' a = some (.dT kvs) → RpKV K (cut H' (a :: W)) (List Key) kvs es → Q (.ref a) H') → te σ H Q
def EnK (K : PySem.W.Frag) (te : TE) (ds : D4) (es : List (Key × PyData)) : Prop :=
  ∀ W N σ H, Stt K W N H σ ds → ∀ Q : VK, (∀ a kvs H', Ex H H' → H a = none → H' a = some (.dK kvs) → RpKV K (cut H' (a :: W)) Key kvs es → Q (.ref a) H') → te σ H Q
theorem EnD.ev {es : List (List Key × PyData)} (h : EnD K te ds es) : Ev K te ds (dtD es) := fun W N σ H S Q q =>
  h W N σ H S _ fun a kvs H' e n h1 r => q _ H' e (.dct (by rw [cut_out (S.al.fresh n)]; exact h1) (r.mono (cut_sub fun b hb => List.mem_cons_of_mem _ hb)) rfl)
theorem EnK.ev {es : List (Key × PyData)} (h : EnK K te ds es) : Ev K te ds (dkD es) := fun W N σ H S Q q =>
  h W N σ H S _ fun a kvs H' e n h1 r => q _ H' e (.dck (by rw [cut_out (S.al.fresh n)]; exact h1) (r.mono (cut_sub fun b hb => List.mem_cons_of_mem _ hb)) rfl)
theorem kD_inj : ∀ {k l : List Key}, kD k = kD l → k = l
  | [], [], _ => rfl
  | [], _ :: _, h => by injection h with h; cases h
  | _ :: _, [], h => by injection h with h; cases h
  | x :: k, y :: l, h => by
    injection h with h
    injection h with h1 h2
    have e : k = l := kD_inj (congrArg PyData.tuple h2)
    have e' : x = y := by
      cases x <;> cases y
      · injection h1 with h1; rw [h1]
      · cases h1
      · cases h1
      · injection h1 with h1; rw [h1]
    rw [e, e']
theorem keyD_inj {x y : Key} (h1 : keyD x = keyD y) : x = y := by
  cases x <;> cases y
  · injection h1 with h1; rw [h1]
  · cases h1
  · cases h1
  · injection h1 with h1; rw [h1]
theorem map_inj {α β : Type} {f : α → β} (hf : ∀ {x y}, f x = f y → x = y) : ∀ {l m : List α}, l.map f = m.map f → l = m
  | [], [], _ => rfl
  | [], _ :: _, h => by cases h
  | _ :: _, [], h => by cases h
  | x :: l, y :: m, h => by
    rw [List.map_cons, List.map_cons] at h
    injection h with h1 h2
    rw [hf h1, map_inj hf h2]
theorem dtD_inj {es fs : List (List Key × PyData)} (h : dtD es = dtD fs) : es = fs := by
  injection h with h
  injection h with _ h
  exact map_inj (f := fun p : List Key × PyData => (kD p.1, p.2)) (fun {x y} z => by
    injection z with z1 z2
    exact Prod.ext (kD_inj z1) z2) h
theorem dkD_inj {es fs : List (Key × PyData)} (h : dkD es = dkD fs) : es = fs := by
  injection h with h
  injection h with _ h
  exact map_inj (f := fun p : Key × PyData => (keyD p.1, p.2)) (fun {x y} z => by
    injection z with z1 z2
    exact Prod.ext (keyD_inj z1) z2) h
theorem inD_inj {C C' : Addr} {es fs : List (Str × PyData)} (h : inD C es = inD C' fs) : C = C' ∧ es = fs := by
  injection h with h
  injection h with h0 h
  injection h0 with _ h0
  injection h0 with h0
  refine ⟨Int.ofNat.inj h0, map_inj (f := fun p : Str × PyData => (PyData.str p.1, p.2)) (fun {x y} z => ?_) h⟩
  injection z with z1 z2
  injection z1 with z1
  exact Prod.ext z1 z2
theorem Rp.dt {I : Hp} {v : V} {es : List (List Key × PyData)} (h : Rp K I v (dtD es)) : ∃ a kvs, v = .ref a ∧ I a = some (.dT kvs) ∧ RpKV K I (List Key) kvs es := by
  generalize hd : dtD es = d at h
  cases h with
  | dct h1 h2 h3 =>
    have e := dtD_inj (hd.trans h3)
    subst e
    exact ⟨_, _, rfl, h1, h2⟩
  | dck h1 h2 h3 => have e := hd.trans h3; injection e with e; injection e with e _; cases e
  | ins h1 h2 h3 => have e := hd.trans h3; injection e with e; injection e with e _; cases e
  | _ => cases hd
theorem Rp.dk {I : Hp} {v : V} {es : List (Key × PyData)} (h : Rp K I v (dkD es)) : ∃ a kvs, v = .ref a ∧ I a = some (.dK kvs) ∧ RpKV K I Key kvs es := by
  generalize hd : dkD es = d at h
  cases h with
  | dck h1 h2 h3 =>
    have e := dkD_inj (hd.trans h3)
    subst e
    exact ⟨_, _, rfl, h1, h2⟩
  | dct h1 h2 h3 => have e := hd.trans h3; injection e with e; injection e with e _; cases e
  | ins h1 h2 h3 => have e := hd.trans h3; injection e with e; injection e with e _; cases e
  | _ => cases hd
theorem Rp.inst {I : Hp} {v : V} {C : Addr} {fs : List (Str × PyData)} (h : Rp K I v (inD C fs)) : ∃ a dx fvs, v = .ref a ∧ I a = some (.ins C dx fvs) ∧ RpKV K I Str fvs fs := by
  generalize hd : inD C fs = d at h
  cases h with
  | ins h1 h2 h3 =>
    obtain ⟨e1, e2⟩ := inD_inj (hd.trans h3)
    subst e1 e2
    exact ⟨_, _, _, rfl, h1, h2⟩
  | dct h1 h2 h3 => have e := hd.trans h3; injection e with e; injection e with e _; cases e
  | dck h1 h2 h3 => have e := hd.trans h3; injection e with e; injection e with e _; cases e
  | _ => cases hd
theorem Ev.rd {es : List (List Key × PyData)} (h : Ev K te ds (dtD es)) : ErD K te ds es := fun W N σ H S Q q =>
  h W N σ H S _ fun v H' e r => by
    obtain ⟨a, kvs, e', h1, h2⟩ := r.dt
    subst e'
    exact q a kvs H' e (.inl (cut_ex _ _ h1)) h2
theorem Ev.rk {es : List (Key × PyData)} (h : Ev K te ds (dkD es)) : ErK K te ds es := fun W N σ H S Q q =>
  h W N σ H S _ fun v H' e r => by
    obtain ⟨a, kvs, e', h1, h2⟩ := r.dk
    subst e'
    exact q a kvs H' e (.inl (cut_ex _ _ h1)) h2
theorem erd_own {i l : Nat} {es : List (List Key × PyData)} (h : ds.sl[i]? = some (.lo l)) (h' : ds.st[l]? = some (.dt es)) : ErD K (tVar i) ds es := fun W N σ H S Q q => by
  obtain ⟨a, u, adr, e, h2, h3, h4, vs, e', h5⟩ := S.own h h' rfl
  subst e'
  exact ⟨.ref a, getD_of e, q a vs H (Ex.refl H) (.inl h4) h5⟩
theorem erd_frz {i l : Nat} {es : List (List Key × PyData)} (h : ds.sl[i]? = some (.lo l)) (h' : ds.st[l]? = some (.ft es)) : ErD K (tVar i) ds es := fun W N σ H S Q q => by
  obtain ⟨a, u, adr, e, h2, h3, h4, vs, ob, e', h5⟩ := S.own h h' rfl
  subst e'
  exact ⟨.ref a, getD_of e, q a vs H (Ex.refl H) (.inr ⟨ob, h4⟩) h5⟩
theorem erk_own {i l : Nat} {es : List (Key × PyData)} (h : ds.sl[i]? = some (.lo l)) (h' : ds.st[l]? = some (.dk es)) : ErK K (tVar i) ds es := fun W N σ H S Q q => by
  obtain ⟨a, u, adr, e, h2, h3, h4, vs, e', h5⟩ := S.own h h' rfl
  subst e'
  exact ⟨.ref a, getD_of e, q a vs H (Ex.refl H) (.inl h4) h5⟩
theorem erk_frz {i l : Nat} {es : List (Key × PyData)} (h : ds.sl[i]? = some (.lo l)) (h' : ds.st[l]? = some (.fk es)) : ErK K (tVar i) ds es := fun W N σ H S Q q => by
  obtain ⟨a, u, adr, e, h2, h3, h4, vs, ob, e', h5⟩ := S.own h h' rfl
  subst e'
  exact ⟨.ref a, getD_of e, q a vs H (Ex.refl H) (.inr ⟨ob, h4⟩) h5⟩
theorem ev_dget {es : List (List Key × PyData)} {k : List Key} (h : ErD K ta ds es) (hk : Ev K tb ds (kD k)) (hv : valD es k = some d) : Ev K (tDGet ta tb) ds d := fun W N σ H S Q q =>
  h W N σ H S _ fun a kvs H1 e1 h1 r1 => hk W N σ H1 (S.mono e1) _ fun u H2 e2 r2 => by
    cases r2 with
    | @tup b vs _ hb rb =>
      have eb := rb.key
      subst eb
      obtain ⟨v, hv', rv⟩ := r1.val hv
      exact ⟨a, v, rfl, .inr ⟨kvs, k, b, ex_rd e2 h1, rfl, cut_ex _ _ hb, hv'.symm⟩, q v H2 (e1.trans e2) (rv.mono (cut_mono e2))⟩
theorem Rp.key {I : Hp} {v : V} {k : Key} (h : Rp K I v (keyD k)) : v = kV k := by
  cases k <;> cases h <;> rfl
theorem ev_kget {es : List (Key × PyData)} {k : Key} (h : ErK K ta ds es) (hk : Ev K tb ds (keyD k)) (hv : valD es k = some d) : Ev K (tDGet ta tb) ds d := fun W N σ H S Q q =>
  h W N σ H S _ fun a kvs H1 e1 h1 r1 => hk W N σ H1 (S.mono e1) _ fun u H2 e2 r2 => by
    have eb := r2.key
    subst eb
    obtain ⟨v, hv', rv⟩ := r1.val hv
    exact ⟨a, v, rfl, .inl ⟨kvs, k, ex_rd e2 h1, rfl, hv'.symm⟩, q v H2 (e1.trans e2) (rv.mono (cut_mono e2))⟩
theorem end_new : EnD K tDNewT ds [] := fun W N σ H S Q q p hp => q p [] _ (Ex.new hp) hp upd_same .nil
/-! tests -/
theorem et_test {b : Bool} (h : Ev K te ds (.bool b)) : Et K (tTest te) ds b := fun W N σ H S Q q =>
  h W N σ H S _ fun v H' e r => by
    cases r
    exact ⟨b, rfl, q H' e⟩
theorem et_B {b : Bool} (h : Ev K te ds (.bool b)) : Et K (tB te) ds b := fun W N σ H S Q q =>
  h W N σ H S _ fun v H' e r => by
    cases r
    exact ⟨b, rfl, q H' e⟩
theorem et_yes : Et K tYes ds true := fun W N σ H S Q q => q H (Ex.refl H)
theorem et_and {a b : Bool} (h1 : Et K t ds a) (h2 : a = true → Et K u ds b) : Et K (tAnd t u) ds (a && b) := fun W N σ H S Q q =>
  h1 W N σ H S _ fun H1 e1 => by
    cases a with
    | true =>
      show u σ H1 Q
      exact h2 rfl W N σ H1 (S.mono e1) Q fun H2 e2 => q H2 (e1.trans e2)
    | false =>
      show Q false H1
      exact q H1 e1
theorem et_or {a b : Bool} (h1 : Et K t ds a) (h2 : a = false → Et K u ds b) : Et K (tOr t u) ds (a || b) := fun W N σ H S Q q =>
  h1 W N σ H S _ fun H1 e1 => by
    cases a with
    | false =>
      show u σ H1 Q
      exact h2 rfl W N σ H1 (S.mono e1) Q fun H2 e2 => q H2 (e1.trans e2)
    | true =>
      show Q true H1
      exact q H1 e1
theorem et_not {a : Bool} (h1 : Et K t ds a) : Et K (tNot t) ds (!a) := fun W N σ H S Q q => h1 W N σ H S _ fun H1 e1 => q H1 e1
theorem et_is {a b : Bool} (h : Et K t ds a) (e : a = b) : Et K t ds b := e ▸ h
theorem ev_is (h : Ev K te ds x) (e : x = y) : Ev K te ds y := e ▸ h
theorem ev_andV {a b : Bool} (h1 : Ev K ta ds (.bool a)) (h2 : a = true → Ev K tb ds (.bool b)) : Ev K (tAndV ta tb) ds (.bool (a && b)) := fun W N σ H S Q q =>
  h1 W N σ H S _ fun v H1 e1 r1 => by
    cases r1
    refine ⟨a, rfl, ?_⟩
    cases a with
    | true =>
      show tb σ H1 Q
      exact h2 rfl W N σ H1 (S.mono e1) Q fun w H2 e2 r2 => q w H2 (e1.trans e2) r2
    | false =>
      show Q (.bl false) H1
      exact q _ H1 e1 (.bl false)
theorem ev_orV {a b : Bool} (h1 : Ev K ta ds (.bool a)) (h2 : a = false → Ev K tb ds (.bool b)) : Ev K (tOrV ta tb) ds (.bool (a || b)) := fun W N σ H S Q q =>
  h1 W N σ H S _ fun v H1 e1 r1 => by
    cases r1
    refine ⟨a, rfl, ?_⟩
    cases a with
    | false =>
      show tb σ H1 Q
      exact h2 rfl W N σ H1 (S.mono e1) Q fun w H2 e2 r2 => q w H2 (e1.trans e2) r2
    | true =>
      show Q (.bl true) H1
      exact q _ H1 e1 (.bl true)
theorem ev_notV {a : Bool} (h1 : Ev K ta ds (.bool a)) : Ev K (tNotV ta) ds (.bool (!a)) := fun W N σ H S Q q =>
  h1 W N σ H S _ fun v H1 e1 r1 => by
    cases r1
    exact ⟨a, rfl, q _ H1 e1 (.bl _)⟩
theorem ev_if {b : Bool} (h : Et K t ds b) (h1 : b = true → Ev K ta ds d) (h2 : b = false → Ev K tb ds d) : Ev K (tIf t ta tb) ds d := fun W N σ H S Q q =>
  h W N σ H S _ fun H1 e1 => by
    cases b with
    | true =>
      show ta σ H1 Q
      exact h1 rfl W N σ H1 (S.mono e1) Q fun w H2 e2 r2 => q w H2 (e1.trans e2) r2
    | false =>
      show tb σ H1 Q
      exact h2 rfl W N σ H1 (S.mono e1) Q fun w H2 e2 r2 => q w H2 (e1.trans e2) r2
theorem eo_none : Eo K tNoPart ds none := fun W N σ H S Q q => q H (Ex.refl H)
theorem eo_some {i : Int} (h : Ev K te ds (.int i)) : Eo K (tPart te) ds (some i) := fun W N σ H S Q q =>
  h W N σ H S _ fun v H1 e1 r1 => by
    cases r1
    exact ⟨i, rfl, q H1 e1⟩
end
end L4
end

section
set_option Elab.async false
set_option linter.all false
set_option maxRecDepth 100000
set_option autoImplicit false
/-! Statements over pure data and a store. -/
namespace L4
open PySem L2

/-- what a def gives back: pure data, or new objects, of which it is the first; their labels among themselves -/
inductive Rs where
  | pu (d : PyData)
  | nw (os : List Ob)
def shFv (n : Nat) : Fv → Fv
  | .lo l => .lo (n + l)
  | .pu d => .pu d
def shOb (n : Nat) : Ob → Ob
  | .ins C fs => .ins C (fs.map fun p => (p.1, shFv n p.2))
  | o => o
structure Grp (K : PySem.W.Frag) (I H : Hp) (as : List Addr) (os : List Ob) : Prop where
  len : as.length = os.length
  nd : as.Nodup
  ob : ∀ (l : Nat) (a : Addr) (o : Ob), as[l]? = some a → os[l]? = some o → o.live = true ∧ ∃ u, H a = some u ∧ ObAt K I as u o
/-- what comes out of a def; the new objects are among those that may change -/
def RsAt (K : PySem.W.Frag) (W : List Addr) (H0 H : Hp) (v : V) (as : List Addr) : Rs → Prop
  | .pu d => as = [] ∧ Rp K (cut H W) v d
  | .nw os => ∃ a, v = .ref a ∧ as[0]? = some a ∧ (∀ b ∈ as, b ∈ W ∧ H0 b = none) ∧ Grp K (cut H W) H as os
/-! ### the state in a def: entered at H0 with W0 that may change, of which M (the first labels) are ours to change -/
structure FrA (K : PySem.W.Frag) (B : Hp) (W0 M N : List Addr) (H0 : Hp) (W : List Addr) (σ : L2.St) (H : Hp) (adr : List Addr) (ds : D4) : Prop where
  st : StA K W N H σ adr ds
  sub : ∀ a ∈ W0, a ∈ W
  new : ∀ a ∈ W, a ∉ W0 → H0 a = none
  keep : ∀ b o, b ∉ M → H0 b = some o → H b = some o
  oth : ∀ b ∈ W0, b ∉ M → b ∈ N
  nsub : ∀ b ∈ N, b ∈ W0
  msub : ∀ b ∈ M, b ∈ W0
  loc : ∀ (l : Nat) (a : Addr), M.length ≤ l → adr[l]? = some a → a ∉ W0
  base : Ex B (cut H W)
  bor : ∀ (l : Nat) (a : Addr), M[l]? = some a → adr[l]? = some a
def Fr (K : PySem.W.Frag) (B : Hp) (W0 M N : List Addr) (H0 : Hp) (W : List Addr) (σ : L2.St) (H : Hp) (ds : D4) : Prop := ∃ adr, FrA K B W0 M N H0 W σ H adr ds
structure Post where
  /-- so many labels are borrowed -/
  m : Nat := 0
  nx : D4 → Prop
  rt : Rs → D4 → Prop
  bk : D4 → Prop := fun _ => False
  ct : D4 → Prop := fun _ => False
structure Meets (K : PySem.W.Frag) (B : Hp) (W0 M N : List Addr) (H0 : Hp) (P : Post) (D : Ends) : Prop where
  nx : ∀ W σ H ds, P.nx ds → Fr K B W0 M N H0 W σ H ds → D.nx σ H
  rt : ∀ W σ H ds v d as, P.rt d ds → Fr K B W0 M N H0 W σ H ds → RsAt K W H0 H v as d → D.rt v H
  bk : ∀ W σ H ds, P.bk ds → Fr K B W0 M N H0 W σ H ds → D.bk σ H
  ct : ∀ W σ H ds, P.ct ds → Fr K B W0 M N H0 W σ H ds → D.ct σ H
def Sx (K : PySem.W.Frag) (ts : TS) (ds : D4) (P : Post) : Prop :=
  ∀ (B : Hp) (W0 M N : List Addr) (H0 : Hp) (W : List Addr) (σ : L2.St) (H : Hp), M.length = P.m → Fr K B W0 M N H0 W σ H ds → ∀ D : Ends, Meets K B W0 M N H0 P D → ts D σ H

theorem set_get {α : Type} {l : List α} {i j : Nat} {x y : α} (h : (l.set i x)[j]? = some y) : (j = i ∧ y = x) ∨ (j ≠ i ∧ l[j]? = some y) := by
  by_cases e : i = j
  · subst e
    by_cases hl : i < l.length
    · rw [List.getElem?_set_self hl] at h
      exact .inl ⟨rfl, (Option.some.inj h).symm⟩
    · rw [List.getElem?_eq_none (by simpa using hl)] at h; cases h
  · rw [List.getElem?_set_ne e] at h
    exact .inr ⟨fun z => e z.symm, h⟩
theorem nodup_get {α : Type} : ∀ {l : List α} {i j : Nat} {x : α}, l.Nodup → l[i]? = some x → l[j]? = some x → i = j
  | [], _, _, _, _, h, _ => by simp at h
  | a :: r, 0, 0, _, _, _, _ => rfl
  | a :: r, 0, j + 1, x, nd, h1, h2 => by
    have e : a = x := Option.some.inj h1
    subst e
    exact absurd (List.mem_of_getElem? (l := r) (i := j) h2) (List.nodup_cons.mp nd).1
  | a :: r, i + 1, 0, x, nd, h1, h2 => by
    have e : a = x := Option.some.inj h2
    subst e
    exact absurd (List.mem_of_getElem? (l := r) (i := i) h1) (List.nodup_cons.mp nd).1
  | a :: r, i + 1, j + 1, x, nd, h1, h2 => congrArg (· + 1) (nodup_get (l := r) (List.nodup_cons.mp nd).2 h1 h2)
theorem snoc_get {α : Type} {l : List α} {x y : α} {j : Nat} (h : (l ++ [x])[j]? = some y) : (j = l.length ∧ y = x) ∨ (j < l.length ∧ l[j]? = some y) := by
  by_cases e : j < l.length
  · rw [List.getElem?_append_left e] at h
    exact .inr ⟨e, h⟩
  · rw [List.getElem?_append_right (by omega)] at h
    by_cases z : j = l.length
    · subst z
      rw [Nat.sub_self] at h
      exact .inl ⟨rfl, (Option.some.inj h).symm⟩
    · rw [List.getElem?_eq_none (by simp; omega)] at h; cases h
section
variable {K : PySem.W.Frag} {B : Hp} {W0 M N W : List Addr} {H0 H H' I : Hp} {σ : L2.St} {adr : List Addr} {ds ds1 : D4} {P : Post} {D : Ends} {t u : TS} {te ta tb : TE} {tt : TT} {d x y : PyData} {v : V}
theorem Fr.st (F : Fr K B W0 M N H0 W σ H ds) : Stt K W N H σ ds := by
  obtain ⟨adr, F⟩ := F
  exact ⟨adr, F.st⟩
theorem FrA.ex (F : FrA K B W0 M N H0 W σ H adr ds) (e : Ex H H') : FrA K B W0 M N H0 W σ H' adr ds :=
  ⟨F.st.mono e, F.sub, F.new, fun b o h q => e _ _ (F.keep b o h q), F.oth, F.nsub, F.msub, F.loc, F.base.trans (cut_mono e), F.bor⟩
theorem Fr.ex (F : Fr K B W0 M N H0 W σ H ds) (e : Ex H H') : Fr K B W0 M N H0 W σ H' ds := by
  obtain ⟨adr, F⟩ := F
  exact ⟨adr, F.ex e⟩
theorem Fr.rebase {B' : Hp} (F : Fr K B W0 M N H0 W σ H ds) (e : Ex B' (cut H W)) : Fr K B' W0 M N H0 W σ H ds := by
  obtain ⟨adr, F⟩ := F
  exact ⟨adr, F.st, F.sub, F.new, F.keep, F.oth, F.nsub, F.msub, F.loc, e, F.bor⟩
/-- more labels than before -/
theorem FvOk.more {f : Fv} (h : FvOk K I adr v f) (xs : List Addr) : FvOk K I (adr ++ xs) v f := by
  cases f with
  | pu d => exact h
  | lo l =>
    obtain ⟨a, h1, h2⟩ := h
    exact ⟨a, by rw [List.getElem?_append_left (List.getElem?_eq_some_iff.mp h1).1]; exact h1, h2⟩
theorem FsOk.more (xs : List Addr) : ∀ {vs : List (Str × V)} {fs : List (Str × Fv)}, FsOk K I adr vs fs → FsOk K I (adr ++ xs) vs fs
  | _, _, .nil => .nil
  | _, _, .cons h r => .cons (h.more xs) (FsOk.more xs r)
theorem ObAt.more {u : HO} {ob : Ob} (h : ObAt K I adr u ob) (xs : List Addr) : ObAt K I (adr ++ xs) u ob := by
  cases ob with
  | ins C fs => obtain ⟨dx, fvs, h1, h2⟩ := h; exact ⟨dx, fvs, h1, h2.more xs⟩
  | _ => exact h
theorem SlOk.more {s : Sl} {o : Option V} (h : SlOk K I adr o s) (xs : List Addr) : SlOk K I (adr ++ xs) o s := by
  cases s with
  | lo l =>
    obtain ⟨a, h1, h2⟩ := h
    exact ⟨a, by rw [List.getElem?_append_left (List.getElem?_eq_some_iff.mp h1).1]; exact h1, h2⟩
  | _ => exact h
/-- a slot is set -/
theorem FrA.setS (F : FrA K B W0 M N H0 W σ H adr ds) {i : Nat} {s : Sl} (hi : i < ds.length) (e : Ex H H') (r : SlOk K (cut H' W) adr (some v) s) : FrA K B W0 M N H0 W (σ.set i (some v)) H' adr (ds.set i s) := by
  have hiσ : i < σ.length := by rw [F.st.len]; exact hi
  have F' := F.ex e
  refine ⟨⟨?_, F'.st.al, F'.st.la, F.st.nd, F'.st.there, fun j t h => ?_, F'.st.ob⟩, F.sub, F.new, F'.keep, F.oth, F.nsub, F.msub, F.loc, F'.base, F.bor⟩
  · show (σ.set i (some v)).length = (ds.sl.set i s).length
    rw [List.length_set, List.length_set]; exact F.st.len
  · have h' : (ds.sl.set i s)[j]? = some t := h
    rcases set_get h' with ⟨rfl, rfl⟩ | ⟨ne, h'⟩
    · rw [List.getElem?_set_self hiσ]; exact r
    · rw [List.getElem?_set_ne (Ne.symm ne)]; exact F'.st.sl j t h'
theorem Fr.set (F : Fr K B W0 M N H0 W σ H ds) {i : Nat} (hi : i < ds.length) (e : Ex H H') (r : Rp K (cut H' W) v d) : Fr K B W0 M N H0 W (σ.set i (some v)) H' (ds.set i (.pu d)) := by
  obtain ⟨adr, F⟩ := F
  exact ⟨adr, F.setS hi e ⟨v, rfl, r⟩⟩
theorem Stt.wider (S : Stt K W N H σ ds) {a : Addr} (n : H a = none) (e : Ex H H') (h : NT (H' a)) : Stt K (a :: W) N H' σ ds := by
  obtain ⟨adr, S⟩ := S
  have S' := S.mono e
  refine ⟨adr, S.len, fun b hb => (List.mem_cons.mp hb).elim (fun z => by rw [z]; exact h) fun z => S'.al b z, S.la, S.nd, S'.there, fun i s q => (S.sl i s q).mono (cut_cons n e), fun l b o h1 h2 h3 => ?_⟩
  obtain ⟨aW, aN, u, hu, r⟩ := S.ob l b o h1 h2 h3
  exact ⟨List.mem_cons_of_mem _ aW, aN, u, e _ _ hu, r.mono (cut_cons n e)⟩
theorem shFs {as : List Addr} (adr : List Addr) : ∀ {vs : List (Str × V)} {fs : List (Str × Fv)}, FsOk K I as vs fs → FsOk K I (adr ++ as) vs (fs.map fun p => (p.1, shFv adr.length p.2))
  | _, _, .nil => .nil
  | _, _, .cons (d := d) h r => by
    refine .cons ?_ (shFs adr r)
    cases d with
    | pu d => exact h
    | lo l =>
      obtain ⟨a, h1, h2⟩ := h
      exact ⟨a, by rw [List.getElem?_append_right (Nat.le_add_right _ _), Nat.add_sub_cancel_left]; exact h1, h2⟩
theorem shAt {as : List Addr} {u : HO} {o : Ob} (adr : List Addr) (h : ObAt K I as u o) : ObAt K I (adr ++ as) u (shOb adr.length o) := by
  cases o with
  | ins C fs => obtain ⟨dx, fvs, h1, h2⟩ := h; exact ⟨dx, fvs, h1, shFs adr h2⟩
  | _ => exact h
theorem sh_live {n : Nat} {o : Ob} : (shOb n o).live = o.live := by cases o <;> rfl
theorem cut_many {as : List Addr} (n : ∀ a ∈ as, H a = none) (e : Ex H H') : Ex (cut H W) (cut H' (as ++ W)) := fun b o h => by
  by_cases k : b ∈ W
  · rw [cut_in k] at h; cases h
  · rw [cut_out k] at h
    have nb : b ∉ as := fun z => by rw [n b z] at h; cases h
    rw [cut_out (fun z => (List.mem_append.mp z).elim nb k)]
    exact e b o h
theorem app_get {α : Type} {l m : List α} {x : α} {j : Nat} (h : (l ++ m)[j]? = some x) : (j < l.length ∧ l[j]? = some x) ∨ (l.length ≤ j ∧ m[j - l.length]? = some x) := by
  by_cases e : j < l.length
  · rw [List.getElem?_append_left e] at h; exact .inl ⟨e, h⟩
  · rw [List.getElem?_append_right (by omega)] at h; exact .inr ⟨by omega, h⟩
theorem nt_of {K : PySem.W.Frag} {I : Hp} {adr : List Addr} {u : HO} {o : Ob} (h : ObAt K I adr u o) (lv : o.live = true) : NT (some u) := by
  cases o with
  | gone => cases lv
  | lst xs => obtain ⟨vs, h1, _⟩ := h; subst h1; exact ⟨(fun z => nomatch z), fun _ z => nomatch z⟩
  | dt xs => obtain ⟨vs, h1, _⟩ := h; subst h1; exact ⟨(fun z => nomatch z), fun _ z => nomatch z⟩
  | dk xs => obtain ⟨vs, h1, _⟩ := h; subst h1; exact ⟨(fun z => nomatch z), fun _ z => nomatch z⟩
  | ft xs => obtain ⟨vs, ob, h1, _⟩ := h; subst h1; exact ⟨(fun z => nomatch z), fun _ z => nomatch z⟩
  | fk xs => obtain ⟨vs, ob, h1, _⟩ := h; subst h1; exact ⟨(fun z => nomatch z), fun _ z => nomatch z⟩
  | ins C fs => obtain ⟨dx, fvs, h1, _⟩ := h; subst h1; exact ⟨(fun z => nomatch z), fun _ z => nomatch z⟩
/-- wider by new objects -/
theorem StA.many (S : StA K W N H σ adr ds) {as : List Addr} {os : List Ob} (n : ∀ a ∈ as, H a = none) (e : Ex H H') (g : Grp K (cut H' (as ++ W)) H' as os) : StA K (as ++ W) N H' σ adr ds := by
  have S' := S.mono e
  refine ⟨S.len, fun b hb => ?_, S.la, S.nd, S'.there, fun i s q => (S.sl i s q).mono (cut_many n e), fun l b o h1 h2 h3 => ?_⟩
  · rcases List.mem_append.mp hb with z | z
    · obtain ⟨l, hl⟩ := List.getElem?_of_mem z
      obtain ⟨o, ho⟩ : ∃ o, os[l]? = some o := ⟨_, List.getElem?_eq_getElem (by rw [← g.len]; exact (List.getElem?_eq_some_iff.mp hl).1)⟩
      obtain ⟨lv, u, hu, ok⟩ := g.ob l b o hl ho
      rw [hu]; exact nt_of ok lv
    · exact S'.al b z
  · obtain ⟨aW, aN, u, hu, r⟩ := S.ob l b o h1 h2 h3
    exact ⟨List.mem_append_right _ aW, aN, u, e _ _ hu, r.mono (cut_many n e)⟩
theorem Stt.many (S : Stt K W N H σ ds) {as : List Addr} {os : List Ob} (n : ∀ a ∈ as, H a = none) (e : Ex H H') (g : Grp K (cut H' (as ++ W)) H' as os) : Stt K (as ++ W) N H' σ ds := by
  obtain ⟨adr, S⟩ := S
  exact ⟨adr, S.many n e g⟩
/-- wider, no label -/
theorem FrA.widen (F : FrA K B W0 M N H0 W σ H adr ds) {as : List Addr} {os : List Ob} (n : ∀ a ∈ as, H a = none) (e : Ex H H') (g : Grp K (cut H' (as ++ W)) H' as os) : FrA K B W0 M N H0 (as ++ W) σ H' adr ds := by
  have F' := F.ex e
  have n0 : ∀ a ∈ as, a ∉ W0 := fun a h z => F.st.al.fresh (n a h) (F.sub a z)
  refine ⟨F.st.many n e g, fun b hb => List.mem_append_right _ (F.sub b hb), fun b hb nb => ?_, F'.keep, F.oth, F.nsub, F.msub, F.loc, F.base.trans (cut_many n e), F.bor⟩
  rcases List.mem_append.mp hb with z | z
  · cases q : H0 b with
    | none => rfl
    | some o =>
      by_cases m : b ∈ M
      · exact absurd (F.msub _ m) (n0 b z)
      · have := n b z; rw [F.keep b o m q] at this; cases this
  · exact F.new b z nb
/-- new objects, with labels of their own -/
theorem FrA.grow (F : FrA K B W0 M N H0 W σ H adr ds) {as : List Addr} {os : List Ob} (n : ∀ a ∈ as, H a = none) (e : Ex H H') (g : Grp K (cut H' (as ++ W)) H' as os) :
    FrA K B W0 M N H0 (as ++ W) σ H' (adr ++ as) ⟨ds.sl, ds.st ++ os.map (shOb ds.st.length)⟩ := by
  have F' := F.ex e
  have S := F.st.many n e g
  have nW : ∀ a ∈ as, a ∉ W := fun a h => F.st.al.fresh (n a h)
  have nA : ∀ a ∈ as, a ∉ adr := fun a h z => F.st.there a z (n a h)
  have n0 : ∀ a ∈ as, a ∉ W0 := fun a h z => nW a h (F.sub a z)
  refine ⟨⟨F.st.len, S.al, ?_, ?_, fun b hb => ?_, fun j t q => (S.sl j t q).more as, fun l b ob h1 h2 h3 => ?_⟩, fun b hb => List.mem_append_right _ (F.sub b hb), fun b hb nb => ?_, F'.keep, F.oth, F.nsub, F.msub, fun l b hl hb => ?_, F.base.trans (cut_many n e), fun l b hb => ?_⟩
  · show (adr ++ as).length = (ds.st ++ os.map _).length
    rw [List.length_append, List.length_append, F.st.la, List.length_map, g.len]
  · exact List.nodup_append.mpr ⟨F.st.nd, g.nd, fun x hx y hy z => nA y hy (z ▸ hx)⟩
  · rcases List.mem_append.mp hb with z | z
    · exact F'.st.there b z
    · exact (S.al b (List.mem_append_left _ z)).ne
  · have h2' : (ds.st ++ os.map (shOb ds.st.length))[l]? = some ob := h2
    rcases app_get h1 with ⟨l1, h1⟩ | ⟨l1, h1⟩
    · rcases app_get h2' with ⟨l2, h2'⟩ | ⟨l2, _⟩
      · obtain ⟨bW, bN, u', hu, r⟩ := S.ob l b ob h1 h2' h3
        exact ⟨bW, bN, u', hu, r.more as⟩
      · exfalso; rw [F.st.la] at l1; omega
    · rcases app_get h2' with ⟨l2, _⟩ | ⟨l2, h2'⟩
      · exfalso; rw [F.st.la] at l1; omega
      · rw [List.getElem?_map] at h2'
        obtain ⟨o, ho, eo⟩ := Option.map_eq_some_iff.mp h2'
        rw [F.st.la] at h1
        obtain ⟨lv, u, hu, ok⟩ := g.ob _ b o h1 ho
        have bm := List.mem_of_getElem? h1
        refine ⟨List.mem_append_left _ bm, fun z => n0 b bm (F.nsub _ z), u, hu, ?_⟩
        rw [← eo, ← F.st.la]
        exact shAt adr ok
  · rcases List.mem_append.mp hb with z | z
    · cases q : H0 b with
      | none => rfl
      | some o =>
        by_cases m : b ∈ M
        · exact absurd (F.msub _ m) (n0 b z)
        · have := n b z; rw [F.keep b o m q] at this; cases this
    · exact F.new b z nb
  · rcases app_get hb with ⟨_, hb⟩ | ⟨_, hb⟩
    · exact F.loc l b hl hb
    · exact n0 b (List.mem_of_getElem? hb)
  · have q := F.bor l b hb
    rw [List.getElem?_append_left (List.getElem?_eq_some_iff.mp q).1]; exact q
/-- an object is changed, and something may have become -/
theorem FrA.mutE (F : FrA K B W0 M N H0 W σ H adr ds) {l : Nat} {a : Addr} {u : HO} {o o' : Ob} (hl : adr[l]? = some a) (ho : ds.st[l]? = some o) (lv : o.live = true) (e : Ex (upd H a u) H') (ok : ObAt K (cut H' W) adr u o') (lv' : o'.live = true) (hu : H' a = some u) :
    FrA K B W0 M N H0 W σ H' adr (ds.put l o') := by
  obtain ⟨aW, aN, u0, hu0, _⟩ := F.st.ob l a o hl ho lv
  have ce : Ex (cut H W) (cut H' W) := by
    have q := cut_mono (W := W) e
    rw [cut_upd aW] at q
    exact q
  have keep : ∀ b o', b ≠ a → H b = some o' → H' b = some o' := fun b o' n q => e b o' (by rw [upd_ne n]; exact q)
  refine ⟨⟨F.st.len, fun b hb => ?_, ?_, F.st.nd, fun b hb => ?_, fun j t q => (F.st.sl j t q).mono ce, fun k b ob h1 h2 h3 => ?_⟩, F.sub, F.new, fun b ob nM q => ?_, F.oth, F.nsub, F.msub, F.loc, F.base.trans ce, F.bor⟩
  · by_cases z : b = a
    · rw [z, hu]; exact nt_of ok lv'
    · have q := F.st.al b hb
      cases hq : H b with
      | none => exact absurd hq q.ne
      | some x => rw [keep b x z hq, ← hq]; exact q
  · show adr.length = (ds.st.set l o').length
    rw [List.length_set]; exact F.st.la
  · by_cases z : b = a
    · rw [z, hu]; exact fun z => nomatch z
    · cases hq : H b with
      | none => exact absurd hq (F.st.there b hb)
      | some x => rw [keep b x z hq]; exact fun z => nomatch z
  · have h2' : (ds.st.set l o')[k]? = some ob := h2
    rcases set_get h2' with ⟨rfl, rfl⟩ | ⟨ne, h2'⟩
    · rw [hl] at h1
      cases h1
      exact ⟨aW, aN, u, hu, ok⟩
    · obtain ⟨bW, bN, u', hb, r⟩ := F.st.ob k b ob h1 h2' h3
      have nb : b ≠ a := fun z => by
        subst z
        exact ne (nodup_get F.st.nd h1 hl)
      exact ⟨bW, bN, u', keep b u' nb hb, r.mono ce⟩
  · by_cases z : b = a
    · subst z
      exfalso
      by_cases w0 : b ∈ W0
      · exact aN (F.oth b w0 nM)
      · rw [F.new b aW w0] at q; cases q
    · exact keep b ob z (F.keep b ob nM q)
end
end L4
end

section
set_option Elab.async false
set_option linter.all false
set_option maxRecDepth 100000
set_option autoImplicit false
/-! The rules of statements. -/
namespace L4
open PySem L2

/-- a value for a slot, as an expression gives it -/
def RsN (K : PySem.W.Frag) (W : List Addr) (H H' : Hp) (v : V) (as : List Addr) : Rs → Prop
  | .pu d => as = [] ∧ Rp K (cut H' W) v d
  | .nw os => ∃ a, v = .ref a ∧ as[0]? = some a ∧ (∀ b ∈ as, H b = none) ∧ Grp K (cut H' (as ++ W)) H' as os
def D4.asg (ds : D4) (i : Nat) : Rs → D4
  | .pu d => ds.set i (.pu d)
  | .nw os => ⟨ds.sl.set i (.lo ds.st.length), ds.st ++ os.map (shOb ds.st.length)⟩
def Ek (K : PySem.W.Frag) (te : TE) (ds : D4) (s : Rs) : Prop :=
  ∀ W N σ H, Stt K W N H σ ds → ∀ Q : VK, (∀ v H' as, Ex H H' → RsN K W H H' v as s → Q v H') → te σ H Q
theorem grp_one {K : PySem.W.Frag} {I H : Hp} {a : Addr} {u : HO} {o : Ob} (h : H a = some u) (ok : ObAt K I [a] u o) (lv : o.live = true) : Grp K I H [a] [o] := ⟨rfl, by simp, fun l b ob h1 h2 => by
  cases l with
  | zero => cases h1; cases h2; exact ⟨lv, u, h, ok⟩
  | succ l => simp at h1⟩
/-- labels below m only -/
def below (m : Nat) : Ob → Bool
  | .ins _ fs => fs.all fun p => match p.2 with | .lo l => decide (l < m) | .pu _ => true
  | _ => true
section
variable {K : PySem.W.Frag} {B : Hp} {W0 M N W : List Addr} {H0 H H' I : Hp} {σ : L2.St} {adr : List Addr} {ds ds1 : D4} {P : Post} {D : Ends} {t u : TS} {te ta tb : TE} {tt : TT} {d x y : PyData} {v : V}
theorem fs_below {m : Nat} {vs : List (Str × V)} {fs : List (Str × Fv)} (b : (fs.all fun p => match p.2 with | .lo l => decide (l < m) | .pu _ => true) = true) (r : FsOk K I adr vs fs) : FsOk K I (adr.take m) vs fs := by
  induction r with
  | nil => exact .nil
  | @cons f v vs d ds h _ ih =>
    rw [List.all_cons, Bool.and_eq_true] at b
    refine .cons ?_ (ih b.2)
    cases d with
    | pu d => exact h
    | lo l =>
      obtain ⟨a, h1, h2⟩ := h
      have lm : l < m := of_decide_eq_true b.1
      exact ⟨a, by rw [List.getElem?_take_of_lt lm]; exact h1, h2⟩
theorem at_below {m : Nat} {u : HO} {o : Ob} (b : below m o = true) (h : ObAt K I adr u o) : ObAt K I (adr.take m) u o := by
  cases o with
  | ins C fs => obtain ⟨dx, fvs, h1, h2⟩ := h; exact ⟨dx, fvs, h1, fs_below b h2⟩
  | _ => exact h
end
section
variable {K : PySem.W.Frag} {B : Hp} {W0 M N W : List Addr} {H0 H H' I : Hp} {σ : L2.St} {adr : List Addr} {ds ds1 : D4} {P : Post} {D : Ends} {t u : TS} {te ta tb : TE} {tt : TT} {d x y : PyData} {v : V}
theorem Ev.ek (h : Ev K te ds d) : Ek K te ds (.pu d) := fun W N σ H S Q q => h W N σ H S _ fun v H' e r => q v H' [] e ⟨rfl, r⟩
theorem ek_one {a : Addr} {u : HO} {o : Ob} (n : H a = none) (h : H' a = some u) (ok : ObAt K (cut H' (a :: W)) [a] u o) (lv : o.live = true) : RsN K W H H' (.ref a) [a] (.nw [o]) :=
  ⟨a, rfl, rfl, fun b hb => by rw [List.mem_singleton.mp hb]; exact n, grp_one h ok lv⟩
theorem EnL.ek {xs : List PyData} (h : EnL K te ds xs) : Ek K te ds (.nw [.lst xs]) := fun W N σ H S Q q =>
  h W N σ H S _ fun a vs H' e n h1 r => q _ H' [a] e (ek_one n h1 ⟨vs, rfl, r⟩ rfl)
theorem EnD.ek {es : List (List Key × PyData)} (h : EnD K te ds es) : Ek K te ds (.nw [.dt es]) := fun W N σ H S Q q =>
  h W N σ H S _ fun a vs H' e n h1 r => q _ H' [a] e (ek_one n h1 ⟨vs, rfl, r⟩ rfl)
theorem EnK.ek {es : List (Key × PyData)} (h : EnK K te ds es) : Ek K te ds (.nw [.dk es]) := fun W N σ H S Q q =>
  h W N σ H S _ fun a vs H' e n h1 r => q _ H' [a] e (ek_one n h1 ⟨vs, rfl, r⟩ rfl)
theorem Fr.asg (F : Fr K B W0 M N H0 W σ H ds) {i : Nat} {s : Rs} {as : List Addr} (hi : i < ds.length) (e : Ex H H') (r : RsN K W H H' v as s) : Fr K B W0 M N H0 (as ++ W) (σ.set i (some v)) H' (ds.asg i s) := by
  cases s with
  | pu d =>
    obtain ⟨rfl, r⟩ := r
    exact F.set hi e r
  | nw os =>
    obtain ⟨a, rfl, h0, n, g⟩ := r
    obtain ⟨adr, F⟩ := F
    have G := F.grow n e g
    exact ⟨adr ++ as, G.setS (i := i) (v := .ref a) (s := .lo ds.st.length) hi (Ex.refl H') ⟨a, by rw [← F.st.la, List.getElem?_append_right (Nat.le_refl _), Nat.sub_self]; exact h0, rfl⟩⟩
theorem Stt.puts (S : Stt K W N H σ ds) {s : Rs} {as : List Addr} (e : Ex H H') (r : RsN K W H H' v as s) : Stt K (as ++ W) N H' σ ds := by
  cases s with
  | pu d => obtain ⟨rfl, _⟩ := r; exact S.mono e
  | nw os =>
    obtain ⟨a, rfl, h0, n, g⟩ := r
    exact S.many n e g
theorem D4.asg_length {i : Nat} {s : Rs} : (ds.asg i s).length = ds.length := by
  cases s <;> exact List.length_set
theorem sx_asg {i : Nat} {s : Rs} (h : Ek K te ds s) (hi : i < ds.length) (k : P.nx (ds.asg i s)) : Sx K (tAsg te (gName i)) ds P := fun B W0 M N H0 W σ H hM F D m =>
  h W N σ H F.st _ fun v H' as e p => m.nx _ _ H' _ k (F.asg hi e p)
theorem sx_par {i j : Nat} {s1 s2 : Rs} (h1 : Ek K ta ds s1) (h2 : Ek K tb ds s2) (hi : i < ds.length) (hj : j < ds.length) (k : P.nx ((ds.asg i s1).asg j s2)) :
    Sx K (tPar i j (tCons ta (tCons tb tNil))) ds P := fun B W0 M N H0 W σ H hM F D m =>
  h1 W N σ H F.st _ fun v H1 as1 e1 p1 => h2 _ N σ H1 (F.st.puts e1 p1) _ fun w H2 as2 e2 p2 => ⟨v, w, rfl, m.nx _ _ H2 _ k ((F.asg hi e1 p1).asg (by rw [D4.asg_length]; exact hj) e2 p2)⟩
theorem sx_par3 {i j l : Nat} {s1 s2 s3 : Rs} (h1 : Ek K ta ds s1) (h2 : Ek K tb ds s2) (h3 : Ek K te ds s3) (hi : i < ds.length) (hj : j < ds.length) (hl : l < ds.length) (k : P.nx (((ds.asg i s1).asg j s2).asg l s3)) :
    Sx K (tPar3 i j l (tCons ta (tCons tb (tCons te tNil)))) ds P := fun B W0 M N H0 W σ H hM F D m =>
  h1 W N σ H F.st _ fun v H1 as1 e1 p1 => h2 _ N σ H1 (F.st.puts e1 p1) _ fun w H2 as2 e2 p2 => h3 _ N σ H2 ((F.st.puts e1 p1).puts e2 p2) _ fun u H3 as3 e3 p3 => ⟨v, w, u, rfl,
    m.nx _ _ H3 _ k (((F.asg hi e1 p1).asg (by rw [D4.asg_length]; exact hj) e2 p2).asg (by rw [D4.asg_length, D4.asg_length]; exact hl) e3 p3)⟩
theorem D4.set_length {i : Nat} {s : Sl} : (ds.set i s).length = ds.length := List.length_set
/-- a, b = a tuple -/
theorem sx_un2 {i j : Nat} (h : Ev K te ds (.tuple [x, y])) (hi : i < ds.length) (hj : j < ds.length) (k : P.nx ((ds.set i (.pu x)).set j (.pu y))) :
    Sx K (tAsg te (gTup K 2 (gCons (gName i) (gCons (gName j) gNil)))) ds P := fun B W0 M N H0 W σ H hM F D m =>
  h W N σ H F.st _ fun v H1 e1 r => by
    cases r with
    | tup hs r =>
      cases r with
      | cons r1 r =>
        cases r with
        | cons r2 r =>
          cases r
          refine ⟨_, _, rfl, .inl (.inl (cut_ex _ _ hs)), rfl, _, _, rfl, _, _, rfl, rfl, ?_⟩
          exact m.nx _ _ H1 _ k ((F.set hi e1 r1).set (by rw [D4.set_length]; exact hj) (Ex.refl H1) r2)
theorem sx_ret (h : Ev K te ds d) (k : P.rt (.pu d) ds) : Sx K (tRet te) ds P := fun B W0 M N H0 W σ H hM F D m =>
  h W N σ H F.st _ fun v H' e r => m.rt W σ H' ds v _ [] k (F.ex e) ⟨rfl, r⟩
theorem sx_retN {os : List Ob} (h : Ek K te ds (.nw os)) (k : P.rt (.nw os) ds) : Sx K (tRet te) ds P := fun B W0 M N H0 W σ H hM ⟨adr, F⟩ D m =>
  h W N σ H ⟨adr, F.st⟩ _ fun v H' as e ⟨a, ev, h0, n, g⟩ => m.rt (as ++ W) σ H' ds v _ as k ⟨adr, F.widen n e g⟩ ⟨a, ev, h0, fun b hb => ⟨List.mem_append_left _ hb, (by
    cases q : H0 b with
    | none => rfl
    | some o =>
      by_cases hm : b ∈ M
      · exact absurd (n b hb) (F.st.al b (F.sub b (F.msub b hm))).ne
      · have := n b hb; rw [F.keep b o hm q] at this; cases this)⟩, g⟩
/-- return of an own object -/
theorem sx_retO {i l : Nat} {o : Ob} (h : ds.sl[i]? = some (.lo l)) (h' : ds.st[l]? = some o) (lv : o.live = true) (nl : below 0 o = true) (hl : P.m ≤ l) (k : P.rt (.nw [o]) (ds.put l .gone)) : Sx K (tRet (tVar i)) ds P := fun B W0 M N H0 W σ H hM ⟨adr, F⟩ D m => by
  obtain ⟨a, e1, e2⟩ := F.st.sl i _ h
  obtain ⟨aW, aN, u, hu, ok⟩ := F.st.ob l a o e1 h' lv
  have a0 := F.loc l a (by omega) e1
  refine ⟨.ref a, getD_of e2, m.rt W σ H _ _ _ [a] k ⟨adr, ⟨⟨F.st.len, F.st.al, ?_, F.st.nd, F.st.there, F.st.sl, fun k b ob h1 h2 h3 => ?_⟩, F.sub, F.new, F.keep, F.oth, F.nsub, F.msub, F.loc, F.base, F.bor⟩⟩ ⟨a, rfl, rfl, fun b hb => by rw [List.mem_singleton.mp hb]; exact ⟨aW, F.new a aW a0⟩, grp_one hu ?_ lv⟩⟩
  · show adr.length = (ds.st.set l .gone).length
    rw [List.length_set]; exact F.st.la
  · have h2' : (ds.st.set l .gone)[k]? = some ob := h2
    rcases set_get h2' with ⟨_, rfl⟩ | ⟨_, h2'⟩
    · cases h3
    · exact F.st.ob k b ob h1 h2' h3
  · have := (at_below (m := 0) nl ok).more [a]
    rwa [List.take_zero, List.nil_append] at this
theorem sx_if {b : Bool} (h : Et K tt ds b) (h1 : b = true → Sx K t ds P) (h2 : b = false → Sx K u ds P) : Sx K (tIfS tt t u) ds P := fun B W0 M N H0 W σ H hM F D m =>
  h W N σ H F.st _ fun H' e => by
    cases b with
    | true =>
      show t D σ H'
      exact h1 rfl B W0 M N H0 W σ H' hM (F.ex e) D m
    | false =>
      show u D σ H'
      exact h2 rfl B W0 M N H0 W σ H' hM (F.ex e) D m
theorem sx_next (k : P.nx ds) : Sx K tNext ds P := fun B W0 M N H0 W σ H hM F D m => m.nx W σ H ds k F
theorem sx_drop (h : Ev K te ds d) (k : P.nx ds) : Sx K (tDrop te) ds P := fun B W0 M N H0 W σ H hM F D m =>
  h W N σ H F.st _ fun v H' e r => m.nx W σ H' ds k (F.ex e)
theorem sx_seq {Mid : D4 → Prop} (h : Sx K t ds { P with nx := Mid }) (k : ∀ ds', Mid ds' → Sx K u ds' P) : Sx K (tSeq t u) ds P := fun B W0 M N H0 W σ H hM F D m =>
  h B W0 M N H0 W σ H hM F { D with nx := u D } ⟨fun W' σ' H' ds' q F' => k ds' q B W0 M N H0 W' σ' H' hM F' D m, m.rt, m.bk, m.ct⟩
theorem sx_seq1 (h : Sx K t ds { P with nx := (· = ds1) }) (k : Sx K u ds1 P) : Sx K (tSeq t u) ds P := sx_seq h fun ds' e => e ▸ k
/-- while -/
theorem sx_while {Inv : Nat → D4 → Prop} (n0 : Nat) (h0 : Inv n0 ds)
    (hs : ∀ n ds, Inv n ds → ∃ b, Et K tt ds b ∧ (b = true → Sx K t ds { P with nx := fun ds' => ∃ m, m < n ∧ Inv m ds', ct := fun ds' => ∃ m, m < n ∧ Inv m ds', bk := P.nx }) ∧ (b = false → P.nx ds)) : Sx K (tWhile tt t) ds P := fun B W0 M N H0 W σ H hM F D m => by
  refine ⟨fun n σ' H' => ∃ W' ds', Inv n ds' ∧ Fr K B W0 M N H0 W' σ' H' ds', ⟨n0, W, ds, h0, F⟩, ?_⟩
  rintro n σ' H' ⟨W', ds', hi, F'⟩
  obtain ⟨b, hb, h1, h2⟩ := hs n ds' hi
  refine hb W' N σ' H' F'.st _ fun H1 e => ?_
  cases b with
  | true =>
    show ∃ N' : L2.St → Hp → Prop, _ ∧ t { D with nx := N', ct := N', bk := D.nx } σ' H1
    refine ⟨fun σ2 H2 => ∃ m, m < n ∧ ∃ W2 ds2, Inv m ds2 ∧ Fr K B W0 M N H0 W2 σ2 H2 ds2, fun σ2 H2 q => q, ?_⟩
    exact h1 rfl B W0 M N H0 W' σ' H1 hM (F'.ex e) _ ⟨fun W σ H ds q F => let ⟨m, hm, hi⟩ := q; ⟨m, hm, W, ds, hi, F⟩, m.rt, m.nx, fun W σ H ds q F => let ⟨m, hm, hi⟩ := q; ⟨m, hm, W, ds, hi, F⟩⟩
  | false =>
    show D.nx σ' H1
    exact m.nx W' σ' H1 ds' (h2 rfl) (F'.ex e)
/-! ### a label becomes pure -/
def frzSl (l : Nat) (d : PyData) : Sl → Sl
  | .lo k => if k = l then .pu d else .lo k
  | s => s
def frzFv (l : Nat) (d : PyData) : Fv → Fv
  | .lo k => if k = l then .pu d else .lo k
  | s => s
def frzOb (l : Nat) (d : PyData) : Ob → Ob
  | .ins C fs => .ins C (fs.map fun p => (p.1, frzFv l d p.2))
  | o => o
def D4.frz (ds : D4) (l : Nat) (d : PyData) : D4 := ⟨ds.sl.map (frzSl l d), (ds.st.map (frzOb l d)).set l .gone⟩
def PuOb : Ob → PyData → Prop
  | .lst xs, d => d = .list xs
  | .dt es, d => d = dtD es
  | .dk es, d => d = dkD es
  | .ins C fs, d => ∃ gs : List (Str × PyData), fs = gs.map (fun p => (p.1, Fv.pu p.2)) ∧ d = inD C gs
  | _, _ => False
theorem fs_pure {I : Hp} {adr : List Addr} : ∀ {gs : List (Str × PyData)} {vs : List (Str × V)}, FsOk K I adr vs (gs.map fun p => (p.1, Fv.pu p.2)) → RpKV K I Str vs gs
  | [], _, .nil => .nil
  | g :: gs, _, .cons h r => .cons h (fs_pure r)
theorem pu_rp {u : HO} {o : Ob} {a : Addr} (p : PuOb o d) (h : I a = some u) (ok : ObAt K I adr u o) : Rp K I (.ref a) d := by
  cases o with
  | lst xs => obtain ⟨vs, e, r⟩ := ok; have p' : d = .list xs := p; subst e p'; exact .lst h r
  | dt xs => obtain ⟨vs, e, r⟩ := ok; have p' : d = dtD xs := p; subst e p'; exact .dct h r rfl
  | dk xs => obtain ⟨vs, e, r⟩ := ok; have p' : d = dkD xs := p; subst e p'; exact .dck h r rfl
  | ins C fs =>
    obtain ⟨dx, fvs, e, r⟩ := ok
    obtain ⟨gs, e1, e2⟩ := p
    subst e e1 e2
    exact .ins h (fs_pure r) rfl
  | gone => exact p.elim
  | ft es => exact p.elim
  | fk es => exact p.elim
theorem FrA.frz (F : FrA K B W0 M N H0 W σ H adr ds) {l : Nat} {o : Ob} (ho : ds.st[l]? = some o) (lv : o.live = true) (p : PuOb o d) (hM : M.length ≤ l) : ∃ W', FrA K B W0 M N H0 W' σ H adr (ds.frz l d) ∧ Ex (cut H W) (cut H W') := by
  have ll : l < adr.length := by rw [F.st.la]; exact (List.getElem?_eq_some_iff.mp ho).1
  obtain ⟨a, ha⟩ : ∃ a, adr[l]? = some a := ⟨_, List.getElem?_eq_getElem ll⟩
  obtain ⟨aW, aN, u, hu, ok⟩ := F.st.ob l a o ha ho lv
  have a0 := F.loc l a hM ha
  have sub : ∀ b ∈ W.filter (fun c => decide (c ≠ a)), b ∈ W := fun b hb => (List.mem_filter.mp hb).1
  have ce : Ex (cut H W) (cut H (W.filter fun c => decide (c ≠ a))) := cut_sub sub
  have stay : ∀ b, b ∈ W → b ≠ a → b ∈ W.filter (fun c => decide (c ≠ a)) := fun b hb n => List.mem_filter.mpr ⟨hb, decide_eq_true n⟩
  have out : a ∉ W.filter (fun c => decide (c ≠ a)) := fun q => of_decide_eq_true (List.mem_filter.mp q).2 rfl
  have rp : Rp K (cut H (W.filter fun c => decide (c ≠ a))) (.ref a) d := pu_rp p (by rw [cut_out out]; exact hu) (ok.mono ce)
  have fv : ∀ {v : V} {f : Fv}, FvOk K (cut H W) adr v f → FvOk K (cut H (W.filter fun c => decide (c ≠ a))) adr v (frzFv l d f) := fun {v f} h => by
    cases f with
    | pu d => exact Rp.mono ce h
    | lo k =>
      obtain ⟨b, h1, h2⟩ := h
      by_cases z : k = l
      · subst z
        rw [ha] at h1
        cases h1
        show FvOk K _ adr v (if k = k then .pu d else .lo k)
        rw [if_pos rfl, h2]
        exact rp
      · show FvOk K _ adr v (if k = l then .pu d else .lo k)
        rw [if_neg z]
        exact ⟨b, h1, h2⟩
  have fs : ∀ {vs : List (Str × V)} {gs : List (Str × Fv)}, FsOk K (cut H W) adr vs gs → FsOk K (cut H (W.filter fun c => decide (c ≠ a))) adr vs (gs.map fun p => (p.1, frzFv l d p.2)) := fun {vs gs} h => by
    induction h with
    | nil => exact .nil
    | cons h _ ih => exact .cons (fv h) ih
  refine ⟨W.filter fun c => decide (c ≠ a), ⟨⟨?_, fun b hb => F.st.al b (sub b hb), ?_, F.st.nd, F.st.there, fun j t h => ?_, fun k b ob h1 h2 h3 => ?_⟩, fun b hb => stay b (F.sub b hb) fun q => a0 (q ▸ hb), fun b hb => F.new b (sub b hb), F.keep, F.oth, F.nsub, F.msub, F.loc, F.base.trans ce, F.bor⟩, ce⟩
  · show σ.length = (ds.sl.map _).length
    rw [List.length_map]; exact F.st.len
  · show adr.length = ((ds.st.map _).set l Ob.gone).length
    rw [List.length_set, List.length_map]; exact F.st.la
  · have h' : (ds.sl.map (frzSl l d))[j]? = some t := h
    rw [List.getElem?_map] at h'
    obtain ⟨s, hs, e⟩ := Option.map_eq_some_iff.mp h'
    subst e
    have q := F.st.sl j s hs
    cases s with
    | un => trivial
    | pu d => exact SlOk.mono ce q
    | rl xs => exact SlOk.mono ce q
    | lo k =>
      obtain ⟨b, h1, h2⟩ := q
      by_cases z : k = l
      · subst z
        rw [ha] at h1
        cases h1
        show SlOk K _ adr _ (if k = k then .pu d else .lo k)
        rw [if_pos rfl]
        exact ⟨_, h2, rp⟩
      · show SlOk K _ adr _ (if k = l then .pu d else .lo k)
        rw [if_neg z]
        exact ⟨b, h1, h2⟩
  · have h2' : ((ds.st.map (frzOb l d)).set l Ob.gone)[k]? = some ob := h2
    rcases set_get h2' with ⟨_, rfl⟩ | ⟨ne, h2'⟩
    · cases h3
    · rw [List.getElem?_map] at h2'
      obtain ⟨ob0, hob, e⟩ := Option.map_eq_some_iff.mp h2'
      subst e
      have lv0 : ob0.live = true := by cases ob0 <;> first | exact h3 | rfl
      obtain ⟨bW, bN, u', hu', r⟩ := F.st.ob k b ob0 h1 hob lv0
      have nb : b ≠ a := fun z => by
        subst z
        exact ne (nodup_get F.st.nd h1 ha)
      refine ⟨stay b bW nb, bN, u', hu', ?_⟩
      cases ob0 with
      | ins C gs =>
        obtain ⟨dx, fvs, e1, e2⟩ := r
        exact ⟨dx, fvs, e1, fs e2⟩
      | _ => exact ObAt.mono ce r
/-- the ghost step -/
theorem sx_frz {l : Nat} {o : Ob} (ho : ds.st[l]? = some o) (p : PuOb o d) (hl : P.m ≤ l) (k : Sx K t (ds.frz l d) P) (lv : o.live = true := by rfl) : Sx K t ds P := fun B W0 M N H0 W σ H hM F D m => by
  obtain ⟨adr, F⟩ := F
  obtain ⟨W', F', _⟩ := F.frz ho lv p (by omega)
  exact k B W0 M N H0 W' σ H hM ⟨adr, F'⟩ D m
end
end L4
end

section
set_option Elab.async false
set_option linter.all false
set_option maxRecDepth 100000
set_option autoImplicit false
/-! Operators and calls over pure data, each by one reading whatever the kinds are. -/
namespace L4
open PySem L2

/-! ### readings -/
def gAdd : R2 := fun x y H Q => rI0 (fun i j => .int (i + j)) x y H Q ∨ rCat x y H Q ∨ (∃ i j, x = .str i ∧ y = .str j ∧ i.length + j.length ≤ sizeLine ∧ Q (.str (i ++ j)) H)
def gAddT (K : PySem.W.Frag) : R2 := fun x y H Q => gAdd x y H Q ∨ rCatA K x y H Q
def gMul : R2 := fun x y H Q => rI CMul (fun i j => .int (i * j)) x y H Q ∨ rI CMulW (fun i j => .int (i * j)) x y H Q
def CPowB (i j : Int) : Prop := 0 ≤ j ∧ (Builtin.Int.intBits i : Int) * j ≤ 2 ^ 27
section
variable {X : Cx}
theorem op_gAdd : OpR X (binaryOp .Add) (gAddT X.K) := (op_add.or (op_cat.or op_add_str)).or op_catA
theorem op_gMul : OpR X (binaryOp .Mult) gMul := op_mul.or op_mulW
theorem op_gPow : OpR X (binaryOp .Pow) (rI CPowB fun i j => .int (i ^ j.toNat)) := opI fun _ _ _ _ _ _ _ hc q => PyProof.Rows.pow_int hc.1 hc.2 q
theorem op_gLt (hu : X.A.units < cLine) : OpR X (compareOp .Lt) (fun x y H Q => rI0 (fun i j => .bl (decide (i < j))) x y H Q ∨ rLtT X.K x y H Q) := op_lt.or (op_ltT hu)
def rInT (K : PySem.W.Frag) : R2 := fun x y H Q => ∃ d ds, Dp K H x d ∧ Dp K H y (.tuple ds) ∧ SeqAt.shaped d = true ∧ SeqAt.shaped (.tuple ds) = true ∧ Q (.bl (ds.any fun z => PyData.eqv z d)) H
def rNotInT (K : PySem.W.Frag) : R2 := fun x y H Q => ∃ d ds, Dp K H x d ∧ Dp K H y (.tuple ds) ∧ SeqAt.shaped d = true ∧ SeqAt.shaped (.tuple ds) = true ∧ Q (.bl (!ds.any fun z => PyData.eqv z d)) H
theorem room_in_sh {A : Around} {d : PyData} {ds : List PyData} (sd : SeqAt.shaped d = true) (hu : A.units + 65 < cLine) : A.units + 1 + min (PyData.depthAll ds) d.depth < cLine := by
  have h1 := SeqAt.depth_of_shaped sd
  have h2 : min (PyData.depthAll ds) d.depth ≤ d.depth := Nat.min_le_right _ _
  omega
theorem op_inT (hu : X.A.units + 65 < cLine) : OpR X (compareOp .In) (rInT X.K) := by
  intro pins s σ H x y v u Q I rx ry h
  obtain ⟨d, ds, hd, he, sd, se, q⟩ := h
  obtain ⟨as, r1⟩ := Dp.reads I d x v hd rx
  obtain ⟨bs, r2⟩ := Dp.reads I (.tuple ds) y u he ry
  exact SeqAt.in_tuple_reads r2 r1 (SeqAt.canLay_of_shaped se) (SeqAt.canLay_of_shaped sd) (room_in_sh sd hu) ⟨.bl _, H, I, rfl, q⟩
theorem op_notInT (hu : X.A.units + 65 < cLine) : OpR X (compareOp .NotIn) (rNotInT X.K) := by
  intro pins s σ H x y v u Q I rx ry h
  obtain ⟨d, ds, hd, he, sd, se, q⟩ := h
  obtain ⟨as, r1⟩ := Dp.reads I d x v hd rx
  obtain ⟨bs, r2⟩ := Dp.reads I (.tuple ds) y u he ry
  exact SeqAt.notIn_tuple_reads r2 r1 (SeqAt.canLay_of_shaped se) (SeqAt.canLay_of_shaped sd) (room_in_sh sd hu) ⟨.bl _, H, I, rfl, q⟩
def gSign (neg : Bool) : R2 := fun x y H Q => ∃ (c : Nat) (z : Str), x = .str ⟨#[c]⟩ ∧ y = .str z ∧ Q (.bl (if neg then !decide (c ∈ z.cps.toList) else decide (c ∈ z.cps.toList))) H
def gIn (K : PySem.W.Frag) : R2 := fun x y H Q => gSign false x y H Q ∨ rInD K x y H Q ∨ rInT K x y H Q
def gNotIn (K : PySem.W.Frag) : R2 := fun x y H Q => gSign true x y H Q ∨ rNotInD K x y H Q ∨ rNotInT K x y H Q
theorem op_sgn : OpR X (compareOp .In) (gSign false) := op_in_sign
theorem op_nsgn : OpR X (compareOp .NotIn) (gSign true) := op_notIn_sign
theorem op_gIn (hu : X.A.units + 65 < cLine) : OpR X (compareOp .In) (gIn X.K) := op_sgn.or ((op_inD hu).or (op_inT hu))
theorem op_gNotIn (hu : X.A.units + 65 < cLine) : OpR X (compareOp .NotIn) (gNotIn X.K) := op_nsgn.or ((op_notInD hu).or (op_notInT hu))
theorem u64 {k : Nat} {A : Around} (r : Room k A) : A.units + 64 < cLine := by have := r.un; omega
theorem u65 {k : Nat} {A : Around} (r : Room k A) : A.units + 65 < cLine := by have := r.un; omega
theorem u0 {k : Nat} {A : Around} (r : Room k A) : A.units < cLine := by have := r.un; omega
theorem u1 {k : Nat} {A : Around} (r : Room k A) : A.units + 1 < cLine := by have := r.un; omega
end

/-! ### by data -/
section
variable {K : PySem.W.Frag} {d e : PyData} {xs ys : List PyData} {i j : Int}
theorem rd_addI : RD K (gAddT K) (.int i) (.int j) (.int (i + j)) := fun W H v u A r1 r2 Q q => by
  cases r1; cases r2
  exact .inl (.inl ⟨i, j, rfl, rfl, q _ H (Ex.refl H) (.int _)⟩)
theorem rd_addS {x y : Str} (h : x.length + y.length ≤ 100000) : RD K (gAddT K) (.str x) (.str y) (.str (x ++ y)) := fun W H v u A r1 r2 Q q => by
  cases r1; cases r2
  exact .inl (.inr (.inr ⟨x, y, rfl, rfl, sz_of h, q _ H (Ex.refl H) (.str _)⟩))
theorem rd_addL (h : xs.length + ys.length ≤ 100000) : RD K (gAddT K) (.list xs) (.list ys) (.list (xs ++ ys)) := fun W H v u A r1 r2 Q q => by
  cases r1 with
  | lst h1 r1 =>
    cases r2 with
    | lst h2 r2 =>
      refine .inl (.inr (.inl ⟨_, _, _, _, rfl, rfl, cut_ex _ _ h1, cut_ex _ _ h2, by rw [r1.length, r2.length]; exact sz_of h, fun p hp => ?_⟩))
      exact q _ _ (Ex.new hp) (.lst (cut_new A hp) ((r1.append r2).mono (cut_mono (Ex.new hp))))
theorem rd_addT (h : xs.length + ys.length ≤ 100000) : RD K (gAddT K) (.tuple xs) (.tuple ys) (.tuple (xs ++ ys)) := fun W H v u A r1 r2 Q q => by
  cases r1 with
  | @tup a vs _ h1 r1 =>
    cases r2 with
    | @tup b ws _ h2 r2 =>
      refine .inr ⟨_, _, _, _, rfl, rfl, .inl (.inl (cut_ex _ _ h1)), .inl (.inl (cut_ex _ _ h2)), by rw [r1.length, r2.length]; exact sz_of h, fun e => ?_, fun _ e => ?_, fun _ _ p hp => ?_⟩
      · subst e
        cases r1
        exact q _ H (Ex.refl H) (.tup h2 r2)
      · subst e
        cases r2
        rw [List.append_nil] at q
        exact q _ H (Ex.refl H) (.tup h1 r1)
      · exact q _ _ (Ex.new hp) (.tup (cut_new A hp) ((r1.append r2).mono (cut_mono (Ex.new hp))))
theorem rd_I0 {g : Int → Int → V} {z : PyData} (h : ∀ I : Hp, Rp K I (g i j) z) : RD K (rI0 g) (.int i) (.int j) z := fun W H v u A r1 r2 Q q => by
  cases r1; cases r2
  exact ⟨i, j, rfl, rfl, q _ H (Ex.refl H) (h _)⟩
theorem rd_I {C : Int → Int → Prop} {g : Int → Int → V} {z : PyData} (c : C i j) (h : ∀ I : Hp, Rp K I (g i j) z) : RD K (rI C g) (.int i) (.int j) z := fun W H v u A r1 r2 Q q => by
  cases r1; cases r2
  exact ⟨i, j, rfl, rfl, c, q _ H (Ex.refl H) (h _)⟩
theorem rd_sub : RD K (rI0 fun i j => .int (i - j)) (.int i) (.int j) (.int (i - j)) := rd_I0 fun _ => .int _
theorem rd_mul (h : CMul i j) : RD K gMul (.int i) (.int j) (.int (i * j)) := fun W H v u A r1 r2 Q q => .inl (rd_I h (fun _ => .int _) W H v u A r1 r2 Q q)
theorem rd_mulW (h : CMulW i j) : RD K gMul (.int i) (.int j) (.int (i * j)) := fun W H v u A r1 r2 Q q => .inr (rd_I h (fun _ => .int _) W H v u A r1 r2 Q q)
theorem rd_div (h : CDiv i j) : RD K (rI CDiv fun i j => .int (i / j)) (.int i) (.int j) (.int (i / j)) := rd_I h fun _ => .int _
theorem rd_mod (h : 0 < j) : RD K (rI (fun _ j => 0 < j) fun i j => .int (i % j)) (.int i) (.int j) (.int (i % j)) := rd_I (C := fun _ j => 0 < j) h fun _ => .int _
theorem rd_pow (h : CPowB i j) : RD K (rI CPowB fun i j => .int (i ^ j.toNat)) (.int i) (.int j) (.int (i ^ j.toNat)) := rd_I h fun _ => .int _
theorem rd_ltI : RD K (fun x y H Q => rI0 (fun i j => .bl (decide (i < j))) x y H Q ∨ rLtT K x y H Q) (.int i) (.int j) (.bool (decide (i < j))) := fun W H v u A r1 r2 Q q => .inl (rd_I0 (fun _ => .bl _) W H v u A r1 r2 Q q)
theorem rd_ltT {ns ms : List Int} : RD K (fun x y H Q => rI0 (fun i j => .bl (decide (i < j))) x y H Q ∨ rLtT K x y H Q) (.tuple (ns.map .int)) (.tuple (ms.map .int)) (.bool (HT.lexLt ns ms)) := fun W H v u A r1 r2 Q q => by
  cases r1 with
  | tup h1 r1 =>
    cases r2 with
    | tup h2 r2 =>
      have e1 := r1.ints
      have e2 := r2.ints
      subst e1 e2
      exact .inr ⟨_, _, ns, ms, rfl, rfl, .inl (.inl (cut_ex _ _ h1)), .inl (.inl (cut_ex _ _ h2)), q _ H (Ex.refl H) (.bl _)⟩
theorem rd_le : RD K (rI0 fun i j => .bl (decide (i ≤ j))) (.int i) (.int j) (.bool (decide (i ≤ j))) := rd_I0 fun _ => .bl _
theorem rd_gt : RD K (rI0 fun i j => .bl (decide (j < i))) (.int i) (.int j) (.bool (decide (j < i))) := rd_I0 fun _ => .bl _
theorem rd_ge : RD K (rI0 fun i j => .bl (decide (j ≤ i))) (.int i) (.int j) (.bool (decide (j ≤ i))) := rd_I0 fun _ => .bl _
theorem Rp.dpH {W : List Addr} {H : Hp} {v : V} (r : Rp K (cut H W) v d) (c : SeqAt.shaped d = true) : Dp K H v d := (r.mono cut_ex).dp (SeqAt.canLay_of_shaped c)
theorem rd_eq (h1 : SeqAt.shaped d = true) (h2 : SeqAt.shaped e = true) : RD K (rEqD K) d e (.bool (PyData.eqv d e)) := fun W H v u A r1 r2 Q q => ⟨d, e, r1.dpH h1, r2.dpH h2, h1, h2, q _ H (Ex.refl H) (.bl _)⟩
theorem rd_ne (h1 : SeqAt.shaped d = true) (h2 : SeqAt.shaped e = true) : RD K (rNeD K) d e (.bool (!PyData.eqv d e)) := fun W H v u A r1 r2 Q q => ⟨d, e, r1.dpH h1, r2.dpH h2, h1, h2, q _ H (Ex.refl H) (.bl _)⟩
theorem rd_inS {c : Nat} {z : Str} : RD K (gIn K) (.str ⟨#[c]⟩) (.str z) (.bool (decide (c ∈ z.cps.toList))) := fun W H v u A r1 r2 Q q => by
  cases r1; cases r2
  exact .inl ⟨c, z, rfl, rfl, q _ H (Ex.refl H) (.bl _)⟩
theorem rd_ninS {c : Nat} {z : Str} : RD K (gNotIn K) (.str ⟨#[c]⟩) (.str z) (.bool (!decide (c ∈ z.cps.toList))) := fun W H v u A r1 r2 Q q => by
  cases r1; cases r2
  exact .inl ⟨c, z, rfl, rfl, q _ H (Ex.refl H) (.bl _)⟩
theorem rd_inL (h1 : SeqAt.shaped d = true) (h2 : SeqAt.shaped (.list xs) = true) : RD K (gIn K) d (.list xs) (.bool (xs.any fun z => PyData.eqv z d)) := fun W H v u A r1 r2 Q q => .inr (.inl ⟨d, xs, r1.dpH h1, r2.dpH h2, h1, h2, q _ H (Ex.refl H) (.bl _)⟩)
theorem rd_ninL (h1 : SeqAt.shaped d = true) (h2 : SeqAt.shaped (.list xs) = true) : RD K (gNotIn K) d (.list xs) (.bool (!xs.any fun z => PyData.eqv z d)) := fun W H v u A r1 r2 Q q => .inr (.inl ⟨d, xs, r1.dpH h1, r2.dpH h2, h1, h2, q _ H (Ex.refl H) (.bl _)⟩)
theorem rd_inT (h1 : SeqAt.shaped d = true) (h2 : SeqAt.shaped (.tuple xs) = true) : RD K (gIn K) d (.tuple xs) (.bool (xs.any fun z => PyData.eqv z d)) := fun W H v u A r1 r2 Q q => .inr (.inr ⟨d, xs, r1.dpH h1, r2.dpH h2, h1, h2, q _ H (Ex.refl H) (.bl _)⟩)
theorem rd_ninT (h1 : SeqAt.shaped d = true) (h2 : SeqAt.shaped (.tuple xs) = true) : RD K (gNotIn K) d (.tuple xs) (.bool (!xs.any fun z => PyData.eqv z d)) := fun W H v u A r1 r2 Q q => .inr (.inr ⟨d, xs, r1.dpH h1, r2.dpH h2, h1, h2, q _ H (Ex.refl H) (.bl _)⟩)
theorem rd_isB {a b : Bool} : RD K rIsB (.bool a) (.bool b) (.bool (decide (a = b))) := fun W H v u A r1 r2 Q q => by
  cases r1; cases r2
  exact ⟨a, b, rfl, rfl, q _ H (Ex.refl H) (.bl _)⟩
theorem ud_neg : UD K (rU fun i => .int (-i)) (.int i) (.int (-i)) := fun W H v A r1 Q q => by
  cases r1
  exact ⟨i, rfl, q _ H (Ex.refl H) (.int _)⟩
/-! subscripts -/
theorem rd_ixL {k : Int} (h : atI xs k = some d) : RD K (rIx K) (.list xs) (.int k) d := fun W H v u A r1 r2 Q q => by
  cases r1 with
  | lst h1 r1 =>
    cases r2
    obtain ⟨j, e1, e2⟩ := Option.bind_eq_some_iff.mp h
    obtain ⟨w, hw, rw'⟩ := r1.get' e2
    refine .inl ⟨_, _, k, w, rfl, rfl, .inl (.inl (cut_ex _ _ h1)), ?_, q _ H (Ex.refl H) rw'⟩
    unfold atI
    rw [r1.length, e1]
    exact hw
theorem rd_ixT {k : Int} (h : atI xs k = some d) : RD K (rIx K) (.tuple xs) (.int k) d := fun W H v u A r1 r2 Q q => by
  cases r1 with
  | tup h1 r1 =>
    cases r2
    obtain ⟨j, e1, e2⟩ := Option.bind_eq_some_iff.mp h
    obtain ⟨w, hw, rw'⟩ := r1.get' e2
    refine .inr (.inl ⟨_, _, k, w, rfl, rfl, .inl (.inl (cut_ex _ _ h1)), ?_, q _ H (Ex.refl H) rw'⟩)
    unfold atI
    rw [r1.length, e1]
    exact hw
theorem rd_ixS {k : Int} {z : Str} {c : Nat} (h : atI z.cps.toList k = some c) (hl : z.length ≤ 100000) : RD K (rIx K) (.str z) (.int k) (.str ⟨#[c]⟩) := fun W H v u A r1 r2 Q q => by
  cases r1; cases r2
  exact .inr (.inr ⟨z, k, c, rfl, rfl, sz_of hl, h, q _ H (Ex.refl H) (.str _)⟩)
/-- of a list that is read -/
theorem ev_ixR {ta tb : TE} {ds : D4} {k : Int} (ha : ErL K ta ds xs) (hb : Ev K tb ds (.int k)) (h : atI xs k = some d) : Ev K (tOp (rIx K) ta tb) ds d := fun W N σ H S Q q =>
  ha W N σ H S _ fun a vs H1 e1 hs r1 => hb W N σ H1 (S.mono e1) _ fun u H2 e2 r2 => by
    cases r2
    obtain ⟨j, q1, q2⟩ := Option.bind_eq_some_iff.mp h
    obtain ⟨w, hw, rw'⟩ := r1.get' q2
    refine .inl ⟨a, vs, k, w, rfl, rfl, ex_l e2 hs, ?_, q _ H2 (e1.trans e2) (rw'.mono (cut_mono e2))⟩
    unfold atI
    rw [r1.length, q1]
    exact hw
/-! slices -/
def cutD (xs : List PyData) (lo hi : Option Int) : List PyData := (xs.drop (HT.sIx xs.length 0 lo)).take (HT.sIx xs.length xs.length hi - HT.sIx xs.length 0 lo)
def gSl (K : PySem.W.Frag) : V → Option Int → Option Int → Hp → VK → Prop := fun x lo hi H Q => rSlL K x lo hi H Q ∨ rSlA K x lo hi H Q
theorem sl_g {X : Cx} : SlR X (gSl X.K) := sl_list.or sl_tupA
theorem RpAll.cutV {I : Hp} {vs : List V} (r : RpAll K I vs xs) (lo hi : Option Int) : RpAll K I (L2.cutV vs lo hi) (cutD xs lo hi) := by
  unfold L2.cutV cutD
  rw [r.length]
  exact (r.drop _).take _
theorem ev_slT {te : TE} {tl th : TO} {ds : D4} {lo hi : Option Int} (h : Ev K te ds (.tuple xs)) (h1 : Eo K tl ds lo) (h2 : Eo K th ds hi) : Ev K (tSl (gSl K) te tl th) ds (.tuple (cutD xs lo hi)) := fun W N σ H S Q q =>
  h W N σ H S _ fun v H1 e1 r1 => h1 W N σ H1 (S.mono e1) _ fun H2 e2 => h2 W N σ H2 ((S.mono e1).mono e2) _ fun H3 e3 => by
    cases r1 with
    | @tup a vs _ hs r1 =>
      have A3 : Al W H3 := ((S.al.mono e1).mono e2).mono e3
      have r3 : RpAll K (cut H3 W) vs xs := (r1.mono (cut_mono e2)).mono (cut_mono e3)
      have hs3 : cut H3 W a = some (.tup vs) := cut_mono e3 _ _ (cut_mono e2 _ _ hs)
      refine .inr ⟨a, vs, rfl, .inl (.inl (cut_ex _ _ hs3)), fun ⟨w1, w2⟩ => q _ H3 ((e1.trans e2).trans e3) (.tup hs3 ?_), fun _ p hp => q _ _ (((e1.trans e2).trans e3).trans (Ex.new hp)) (.tup (cut_new A3 hp) ((r3.cutV lo hi).mono (cut_mono (Ex.new hp))))⟩
      have c := r3.cutV lo hi
      have ev : L2.cutV vs lo hi = vs := by
        unfold L2.cutV
        rw [w1, w2]
        simp
      rw [ev] at c
      exact c
theorem en_slR {te : TE} {tl th : TO} {ds : D4} {lo hi : Option Int} (h : ErL K te ds xs) (h1 : Eo K tl ds lo) (h2 : Eo K th ds hi) : EnL K (tSl (gSl K) te tl th) ds (cutD xs lo hi) := fun W N σ H S Q q =>
  h W N σ H S _ fun a vs H1 e1 hs r1 => h1 W N σ H1 (S.mono e1) _ fun H2 e2 => h2 W N σ H2 ((S.mono e1).mono e2) _ fun H3 e3 =>
    .inl ⟨a, vs, rfl, ex_l e3 (ex_l e2 hs), fun p hp => q p _ _ (((e1.trans e2).trans e3).trans (Ex.new hp)) (((e1.trans e2).trans e3).back hp) upd_same
      ((((r1.mono (cut_mono e2)).mono (cut_mono e3)).cutV lo hi).mono (cut_cons hp (Ex.new hp)))⟩

/-! ### calls of built-ins -/
def gLen (K : PySem.W.Frag) : List V → Hp → VK → Prop := fun xs H Q => ∃ x n, xs = [x] ∧ LenV K x H n ∧ Q (.int n) H
theorem cr_gLen {X : Cx} : CallR X (.builtin "len") (gLen X.K) := call_len
theorem cd_lenT : CD K (gLen K) [.tuple xs] (.int xs.length) := fun W H vs A r Q q => by
  cases r with
  | cons r1 r =>
    cases r
    cases r1 with
    | tup hs r1 => exact ⟨_, _, rfl, .inr ⟨_, .inl (.inl (cut_ex _ _ hs)), rfl⟩, by rw [r1.length]; exact q _ H (Ex.refl H) (.int _)⟩
theorem cd_lenL : CD K (gLen K) [.list xs] (.int xs.length) := fun W H vs A r Q q => by
  cases r with
  | cons r1 r =>
    cases r
    cases r1 with
    | lst hs r1 => exact ⟨_, _, rfl, .inl ⟨_, .inl (.inl (cut_ex _ _ hs)), rfl⟩, by rw [r1.length]; exact q _ H (Ex.refl H) (.int _)⟩
theorem cd_lenS {z : Str} (h : z.length ≤ 100000) : CD K (gLen K) [.str z] (.int z.length) := fun W H vs A r Q q => by
  cases r with
  | cons r1 r =>
    cases r
    cases r1
    exact ⟨_, _, rfl, ⟨sz_of h, rfl⟩, q _ H (Ex.refl H) (.int _)⟩
/-- one argument that is a list that is read -/
theorem ev_cbR {c : List V → Hp → VK → Prop} {ta : TE} {ds : D4} (h : ErL K ta ds xs)
    (k : ∀ W H a vs, Al W H → SqL K H a vs → RpAll K (cut H W) vs xs → ∀ Q : VK, (∀ v H', Ex H H' → Rp K (cut H' W) v d → Q v H') → c [.ref a] H Q) : Ev K (tCB c (tCons ta tNil)) ds d := fun W N σ H S Q q =>
  h W N σ H S _ fun a vs H1 e1 hs r => k W H1 a vs (S.al.mono e1) hs r Q fun v H' e2 r2 => q v H' (e1.trans e2) r2
theorem ev_lenR {ta : TE} {ds : D4} (h : ErL K ta ds xs) : Ev K (tCB (gLen K) (tCons ta tNil)) ds (.int xs.length) := ev_cbR h fun W H a vs A hs r Q q =>
  ⟨_, _, rfl, .inl ⟨_, hs, rfl⟩, by rw [r.length]; exact q _ H (Ex.refl H) (.int _)⟩
theorem ev_sum {ta : TE} {ds : D4} {ns : List Int} (h : ErL K ta ds (ns.map .int)) : Ev K (tCB (rSum K) (tCons ta tNil)) ds (.int ns.sum) := ev_cbR h fun W H a vs A hs r Q q => by
  have e := r.ints
  subst e
  exact ⟨a, ns, rfl, hs, q _ H (Ex.refl H) (.int _)⟩
theorem ev_max {ta : TE} {ds : D4} {ns : List Int} {m : Int} (h : ErL K ta ds (ns.map .int)) (hm : m ∈ ns) (hle : ∀ y ∈ ns, y ≤ m) : Ev K (tCB (rMax K) (tCons ta tNil)) ds (.int m) := ev_cbR h fun W H a vs A hs r Q q => by
  have e := r.ints
  subst e
  refine ⟨a, ns, rfl, hs, List.length_pos_of_mem hm, fun m' h1 h2 => ?_⟩
  have e : m' = m := Int.le_antisymm (hle m' h1) (h2 m hm)
  subst e
  exact q _ H (Ex.refl H) (.int _)
theorem ev_all {ta : TE} {ds : D4} {bs : List Bool} (h : ErL K ta ds (bs.map .bool)) : Ev K (tCB (rAll K) (tCons ta tNil)) ds (.bool (bs.all id)) := ev_cbR h fun W H a vs A hs r Q q => by
  have e := r.bls
  subst e
  exact ⟨a, bs, rfl, hs, q _ H (Ex.refl H) (.bl _)⟩
theorem ev_any {ta : TE} {ds : D4} {bs : List Bool} (h : ErL K ta ds (bs.map .bool)) : Ev K (tCB (rAny K) (tCons ta tNil)) ds (.bool (bs.any id)) := ev_cbR h fun W H a vs A hs r Q q => by
  have e := r.bls
  subst e
  exact ⟨a, bs, rfl, hs, q _ H (Ex.refl H) (.bl _)⟩
def gMax2 : List V → Hp → VK → Prop := fun xs H Q => ∃ i j, xs = [.int i, .int j] ∧ Q (.int (if j > i then j else i)) H
def gMin2 : List V → Hp → VK → Prop := fun xs H Q => ∃ i j, xs = [.int i, .int j] ∧ Q (.int (if j < i then j else i)) H
theorem cd_max2 : CD K gMax2 [.int i, .int j] (.int (if j > i then j else i)) := fun W H vs A r Q q => by
  cases r with
  | cons r1 r =>
    cases r with
    | cons r2 r =>
      cases r; cases r1; cases r2
      exact ⟨i, j, rfl, q _ H (Ex.refl H) (.int _)⟩
theorem cd_min2 : CD K gMin2 [.int i, .int j] (.int (if j < i then j else i)) := fun W H vs A r Q q => by
  cases r with
  | cons r1 r =>
    cases r with
    | cons r2 r =>
      cases r; cases r1; cases r2
      exact ⟨i, j, rfl, q _ H (Ex.refl H) (.int _)⟩
def gAbs : List V → Hp → VK → Prop := fun xs H Q => ∃ i, xs = [.int i] ∧ Q (.int (if i < 0 then -i else i)) H
theorem cd_abs : CD K gAbs [.int i] (.int (if i < 0 then -i else i)) := fun W H vs A r Q q => by
  cases r with
  | cons r1 r =>
    cases r; cases r1
    exact ⟨i, rfl, q _ H (Ex.refl H) (.int _)⟩
def gInt : List V → Hp → VK → Prop := fun xs H Q => (∃ i, xs = [.int i] ∧ Q (.int i) H) ∨ ∃ k, xs = [.bl k] ∧ Q (.int (if k then 1 else 0)) H
theorem cr_gInt {X : Cx} : CallR X (.type "int") gInt := call_int1
theorem cd_intI : CD K gInt [.int i] (.int i) := fun W H vs A r Q q => by
  cases r with
  | cons r1 r =>
    cases r; cases r1
    exact .inl ⟨i, rfl, q _ H (Ex.refl H) (.int _)⟩
theorem cd_intB {b : Bool} : CD K gInt [.bool b] (.int (if b then 1 else 0)) := fun W H vs A r Q q => by
  cases r with
  | cons r1 r =>
    cases r; cases r1
    exact .inr ⟨b, rfl, q _ H (Ex.refl H) (.int _)⟩
def gTuple (K : PySem.W.Frag) : List V → Hp → VK → Prop := fun xs H Q => ∃ p ys, xs = [.ref p] ∧ ((SqL K H p ys ∧ ∀ l, H l = none → Q (.ref l) (upd H l (.tup ys))) ∨ (SqT K H p ys ∧ Q (.ref p) H))
theorem cr_gTuple {X : Cx} : CallR X (.type "tuple") (gTuple X.K) := call_tuple_of
theorem ev_tupleR {ta : TE} {ds : D4} (h : ErL K ta ds xs) : Ev K (tCB (gTuple K) (tCons ta tNil)) ds (.tuple xs) := ev_cbR h fun W H a vs A hs r Q q =>
  ⟨a, vs, rfl, .inl ⟨hs, fun l hl => q _ _ (Ex.new hl) (.tup (cut_new A hl) (r.mono (cut_mono (Ex.new hl))))⟩⟩
def gList (K : PySem.W.Frag) : List V → Hp → VK → Prop := fun xs H Q => ∃ p ys, xs = [.ref p] ∧ (SqL K H p ys ∨ SqT K H p ys) ∧ ∀ l, H l = none → Q (.ref l) (upd H l (.lst ys))
theorem cr_gList {X : Cx} : CallR X (.type "list") (gList X.K) := call_list_of
theorem en_listR {ta : TE} {ds : D4} (h : ErL K ta ds xs) : EnL K (tCB (gList K) (tCons ta tNil)) ds xs := fun W N σ H S Q q =>
  h W N σ H S _ fun a vs H1 e1 hs r => ⟨a, vs, rfl, .inl hs, fun l hl => q l _ _ (e1.trans (Ex.new hl)) (e1.back hl) upd_same (r.mono (cut_cons hl (Ex.new hl)))⟩
/-! isinstance -/
def tyD : PyData → String
  | .none => "NoneType"
  | .bool _ => "bool"
  | .int _ => "int"
  | .str _ => "str"
  | .list _ => "list"
  | .tuple _ => "tuple"
  | .dict _ => "dict"
theorem tyx {I : Hp} {v : V} (r : Rp K I v d) (nd : ∀ es, d ≠ .dict es) : TyX K I v (.type (tyD d)) := by
  cases r with
  | non => exact .base .non
  | bl b => exact .base (.bl b)
  | int i => exact .base (.int i)
  | str x => exact .base (.str x)
  | lst h _ => exact .base (.lst h)
  | tup h _ => exact .base (.tup h)
  | dct h _ _ => exact absurd rfl (nd _)
  | dck h _ _ => exact absurd rfl (nd _)
  | ins h _ _ => exact absurd rfl (nd _)
theorem ev_isi {te : TE} {ds : D4} {n : String} {b : Bool} (h : Ev K te ds d) (hk : kitB (tyD d) n = some b) (nd : ∀ es, d ≠ .dict es := by exact fun _ h => nomatch h) : Ev K (tCB (rIsi K) (tCons te (tCons (tC (.ty n)) tNil))) ds (.bool b) := fun W N σ H S Q q =>
  h W N σ H S _ fun v H1 e1 r => ⟨v, .ty n, .type (tyD d), .type n, b, rfl, .ty n, tyx (r.mono cut_ex) nd, kit_ty hk, q _ H1 e1 (.bl b)⟩
/-! calls of defs: a promise over data -/
def spD (K : PySem.W.Frag) (R : List PyData → PyData → Prop) : Sp := fun vs H Q _ => ∃ W xs d, Al W H ∧ RpAll K (cut H W) vs xs ∧ R xs d ∧ ∀ v H', Ex H H' → Rp K (cut H' W) v d → Q v H'
theorem ev_call {R : List PyData → PyData → Prop} {E : XK} {ta : TA} {ds : D4} (h : Ea K ta ds xs) (hr : R xs d) : Ev K (tCall (spD K R) [] E ta) ds d := fun W N σ H S Q q =>
  h W N σ H S _ fun vs H1 e1 r => by
    show spD K R (vs ++ []) H1 Q E
    rw [List.append_nil]
    exact ⟨W, xs, d, S.al.mono e1, r, hr, fun v H' e2 r2 => q v H' (e1.trans e2) r2⟩
end
end L4
end

section
set_option Elab.async false
set_option linter.all false
set_option maxRecDepth 100000
set_option autoImplicit false
/-! What is walked; comprehensions, for; defs. -/
namespace L4
open PySem L2

/-! ### wiped slots -/
theorem wipe_get (σ : L2.St) (i : Nat) : ∀ vs : List Nat, (wipe σ vs)[i]? = if i ∈ vs then σ[i]?.map (fun _ => none) else σ[i]?
  | [] => by simp [wipe]
  | v :: vs => by
    unfold wipe
    by_cases e : v = i
    · subst e
      rw [if_pos List.mem_cons_self]
      by_cases hl : v < σ.length
      · rw [List.getElem?_set_self (by rw [wipe_length]; exact hl), List.getElem?_eq_getElem hl]; rfl
      · rw [List.getElem?_eq_none (by rw [List.length_set, wipe_length]; omega), List.getElem?_eq_none (by omega)]; rfl
    · rw [List.getElem?_set_ne e, wipe_get σ i vs]
      have : (i ∈ v :: vs) ↔ i ∈ vs := ⟨fun h => (List.mem_cons.mp h).elim (fun z => absurd z.symm e) id, List.mem_cons_of_mem _⟩
      simp only [this]
theorem wipe_set {σ : L2.St} {j : Nat} {x : Option V} {vs : List Nat} (h : j ∈ vs) : wipe (σ.set j x) vs = wipe σ vs := by
  apply List.ext_getElem?
  intro i
  rw [wipe_get, wipe_get]
  by_cases hi : i ∈ vs
  · rw [if_pos hi, if_pos hi]
    by_cases e : j = i
    · subst e
      by_cases hl : j < σ.length
      · rw [List.getElem?_set_self hl, List.getElem?_eq_getElem hl]; rfl
      · rw [List.getElem?_eq_none (by rw [List.length_set]; omega), List.getElem?_eq_none (by omega)]
    · rw [List.getElem?_set_ne e]
  · rw [if_neg hi, if_neg hi, List.getElem?_set_ne (fun e => hi (by rw [← e]; exact h))]
theorem wipe_wipe {σ : L2.St} {vs : List Nat} : wipe (wipe σ vs) vs = wipe σ vs := by
  apply List.ext_getElem?
  intro i
  rw [wipe_get, wipe_get]
  by_cases hi : i ∈ vs
  · rw [if_pos hi, if_pos hi]
    cases σ[i]? <;> rfl
  · rw [if_neg hi, if_neg hi]
def wipeL (ds : List Sl) : List Nat → List Sl
  | [] => ds
  | v :: vs => (wipeL ds vs).set v .un
theorem wipeL_length (ds : List Sl) : ∀ vs : List Nat, (wipeL ds vs).length = ds.length
  | [] => rfl
  | v :: vs => by unfold wipeL; rw [List.length_set, wipeL_length ds vs]
theorem wipeL_get {ds : List Sl} {i : Nat} {s : Sl} : ∀ {vs : List Nat}, (wipeL ds vs)[i]? = some s → s = .un ∨ (i ∉ vs ∧ ds[i]? = some s)
  | [], h => .inr ⟨by simp, h⟩
  | v :: vs, h => by
    unfold wipeL at h
    rcases set_get h with ⟨_, e⟩ | ⟨ne, h⟩
    · exact .inl e
    · rcases wipeL_get h with e | ⟨n, h⟩
      · exact .inl e
      · exact .inr ⟨fun q => (List.mem_cons.mp q).elim ne n, h⟩
def wipeD (ds : D4) (vs : List Nat) : D4 := ⟨wipeL ds.sl vs, ds.st⟩
theorem wipeD_length (ds : D4) (vs : List Nat) : (wipeD ds vs).length = ds.length := wipeL_length ds.sl vs
section
variable {K : PySem.W.Frag} {B : Hp} {W0 M N W : List Addr} {H0 H H' : Hp} {σ : L2.St} {adr : List Addr} {ds ds1 : D4} {P : Post} {D : Ends} {t u : TS} {te ta tb : TE} {tt : TT} {d x y : PyData}
theorem StA.wipe (S : StA K W N H σ adr ds) (vs : List Nat) : StA K W N H (L2.wipe σ vs) adr (wipeD ds vs) := by
  refine ⟨?_, S.al, S.la, S.nd, S.there, fun i s h => ?_, S.ob⟩
  · show (L2.wipe σ vs).length = (wipeL ds.sl vs).length
    rw [wipe_length, wipeL_length]; exact S.len
  · have h' : (wipeL ds.sl vs)[i]? = some s := h
    rcases wipeL_get h' with e | ⟨n, h'⟩
    · subst e; trivial
    · rw [wipe_get, if_neg n]; exact S.sl i s h'
theorem Stt.wipe (S : Stt K W N H σ ds) (vs : List Nat) : Stt K W N H (L2.wipe σ vs) (wipeD ds vs) := by
  obtain ⟨adr, S⟩ := S
  exact ⟨adr, S.wipe vs⟩
theorem StA.setPu (S : StA K W N H σ adr ds) {i : Nat} {v : V} (hi : i < ds.length) (r : Rp K (cut H W) v d) : StA K W N H (σ.set i (some v)) adr (ds.set i (.pu d)) := by
  have hiσ : i < σ.length := by rw [S.len]; exact hi
  refine ⟨?_, S.al, S.la, S.nd, S.there, fun j s h => ?_, S.ob⟩
  · show (σ.set i (some v)).length = (ds.sl.set i _).length
    rw [List.length_set, List.length_set]; exact S.len
  · have h' : (ds.sl.set i (.pu d))[j]? = some s := h
    rcases set_get h' with ⟨rfl, rfl⟩ | ⟨ne, h'⟩
    · rw [List.getElem?_set_self hiσ]; exact ⟨v, rfl, r⟩
    · rw [List.getElem?_set_ne (Ne.symm ne)]; exact S.sl j s h'

/-! ### targets -/
structure Kept (js : List Nat) (σ σ' : L2.St) : Prop where
  wp : ∀ vs : List Nat, (∀ j ∈ js, j ∈ vs) → wipe σ' vs = wipe σ vs
def Tg (K : PySem.W.Frag) (g : TG) (d : PyData) (ds ds' : D4) (js : List Nat) : Prop :=
  ∀ W N σ H v adr, StA K W N H σ adr ds → Rp K (cut H W) v d → ∀ Q : L2.St → Hp → Prop, (∀ σ', StA K W N H σ' adr ds' → Kept js σ σ' → Q σ' H) → g v σ H Q
theorem kept_set {i : Nat} {v : V} : Kept [i] σ (σ.set i (some v)) :=
  ⟨fun vs h => wipe_set (h i List.mem_cons_self)⟩
theorem Kept.trans {js ks : List Nat} {σ1 σ2 σ3 : L2.St} (a : Kept js σ1 σ2) (b : Kept ks σ2 σ3) : Kept (js ++ ks) σ1 σ3 :=
  ⟨fun vs h => (b.wp vs fun j hj => h j (List.mem_append_right _ hj)).trans (a.wp vs fun j hj => h j (List.mem_append_left _ hj))⟩
theorem set_lt {i j : Nat} {s : Sl} (h : j < ds.length) : j < (ds.set i s).length := by rw [D4.set_length]; exact h
theorem tg_name {i : Nat} (hi : i < ds.length) : Tg K (gName i) d ds (ds.set i (.pu d)) [i] := fun W N σ H v adr S r Q q => q _ (S.setPu hi r) kept_set
theorem tg_two {i j : Nat} (hi : i < ds.length) (hj : j < ds.length) : Tg K (gTup K 2 (gCons (gName i) (gCons (gName j) gNil))) (.tuple [x, y]) ds ((ds.set i (.pu x)).set j (.pu y)) ([i] ++ [j]) := fun W N σ H v adr S r Q q => by
  cases r with
  | tup hs r =>
    cases r with
    | cons r1 r =>
      cases r with
      | cons r2 r =>
        cases r
        exact ⟨_, _, rfl, .inl (.inl (cut_ex _ _ hs)), rfl, _, _, rfl, _, _, rfl, rfl, q _ ((S.setPu hi r1).setPu (set_lt hj) r2) (kept_set.trans kept_set)⟩
theorem tg_three {i j k : Nat} {z : PyData} (hi : i < ds.length) (hj : j < ds.length) (hk : k < ds.length) :
    Tg K (gTup K 3 (gCons (gName i) (gCons (gName j) (gCons (gName k) gNil)))) (.tuple [x, y, z]) ds (((ds.set i (.pu x)).set j (.pu y)).set k (.pu z)) ([i] ++ [j] ++ [k]) := fun W N σ H v adr S r Q q => by
  cases r with
  | tup hs r =>
    cases r with
    | cons r1 r =>
      cases r with
      | cons r2 r =>
        cases r with
        | cons r3 r =>
          cases r
          exact ⟨_, _, rfl, .inl (.inl (cut_ex _ _ hs)), rfl, _, _, rfl, _, _, rfl, _, _, rfl, rfl, q _ (((S.setPu hi r1).setPu (set_lt hj) r2).setPu (set_lt (set_lt hk)) r3) ((kept_set.trans kept_set).trans kept_set)⟩

/-! ### iterables -/
/-- stable while all stays as it was at H1 -/
structure ItR (K : PySem.W.Frag) (W : List Addr) (J : It) (xs : List PyData) (H1 : Hp) : Prop where
  go : ∀ (i : Nat) (H : Hp), i < xs.length → Ex H1 H → J.go i H
  stop : ∀ (H : Hp), Ex H1 H → J.stop xs.length H
  yld : ∀ (i : Nat) (H : Hp) (W' : List Addr) (x : V) (H' : Hp) (d : PyData), xs[i]? = some d → Ex H1 H → Ex (cut H1 W) (cut H W') → Al W' H → J.yld i H x H' → Ex H H' ∧ Rp K (cut H' W') x d
/-- stable while what may not change stays -/
structure ItP (K : PySem.W.Frag) (W : List Addr) (J : It) (xs : List PyData) (H1 : Hp) : Prop where
  go : ∀ (i : Nat) (H : Hp) (W' : List Addr), i < xs.length → Ex (cut H1 W) (cut H W') → J.go i H
  stop : ∀ (H : Hp) (W' : List Addr), Ex (cut H1 W) (cut H W') → J.stop xs.length H
  yld : ∀ (i : Nat) (H : Hp) (W' : List Addr) (x : V) (H' : Hp) (d : PyData), xs[i]? = some d → Ex (cut H1 W) (cut H W') → Al W' H → J.yld i H x H' → Ex H H' ∧ Rp K (cut H' W') x d
def EIr (K : PySem.W.Frag) (wi : TI) (ds : D4) (xs : List PyData) : Prop :=
  ∀ W N σ H, Stt K W N H σ ds → ∀ R : It → Hp → Prop, (∀ J H1, Ex H H1 → ItR K W J xs H1 → R J H1) → wi σ H R
def EI (K : PySem.W.Frag) (wi : TI) (ds : D4) (xs : List PyData) : Prop :=
  ∀ W N σ H, Stt K W N H σ ds → ∀ R : It → Hp → Prop, (∀ J H1, Ex H H1 → ItP K W J xs H1 → R J H1) → wi σ H R
theorem ItP.r {J : It} {xs : List PyData} {H1 : Hp} (p : ItP K W J xs H1) : ItR K W J xs H1 :=
  ⟨fun i H hi e => p.go i H W hi (cut_mono e), fun H e => p.stop H W (cut_mono e), fun i H W' x H' d h _ e A y => p.yld i H W' x H' d h e A y⟩
theorem EI.r {wi : TI} {xs : List PyData} (h : EI K wi ds xs) : EIr K wi ds xs := fun W N σ H S R q => h W N σ H S R fun J H1 e p => q J H1 e p.r
/-- a list or a tuple -/
def iSeq (K : PySem.W.Frag) (te : TE) : TI := fun σ H R => te σ H fun x H1 => ∃ a, x = .ref a ∧ (((∃ xs, SqL K H1 a xs) ∧ R (Itl K a) H1) ∨ ((∃ xs, SqT K H1 a xs) ∧ R (Itt K a) H1))
theorem pi_seq {X : Cx} {tg l : Expr} {tl : TE} (hl : PE X l tl) : PI X tg l (iSeq X.K tl) := by
  refine ⟨fun pins s σ H R I h => ?_⟩
  refine thn (hl.run pins s σ H _ I h) fun v s1 ⟨x, H1, I1, r1, q1⟩ => ?_
  obtain ⟨a, e, q⟩ := q1
  subst e
  cases r1
  rcases q with ⟨⟨xs, hq⟩, q⟩ | ⟨⟨xs, hq⟩, q⟩
  · obtain ⟨its, rv, p, hz⟩ := I1.list hq
    refine wpAny_pyIter_list p.isList ?_
    refine ⟨s1.heap.objs.size, [s1.heap.objs.size], _, _, H1, rfl, I1.kept (t' := s1.toks) fun b o e => Heap.get?_push_of_some _ e, turn_list a _, ⟨_, Heap.get?_push_size _ rfl, rfl, rfl⟩, fun b hb => ?_, q⟩
    have e : b = s1.heap.objs.size := by simpa using hb
    subst e
    exact I1.fpOk (Nat.le_refl _) (I1.hok.fresh (Nat.le_refl _))
  · obtain ⟨its, rv, p, hz⟩ := I1.tuple hq
    refine wpAny_pyIter_tuple (show s1.heap.IsTuple a its.toArray from p) ?_
    refine ⟨s1.heap.objs.size, [s1.heap.objs.size], _, _, H1, rfl, I1.kept (t' := s1.toks) fun b o e => Heap.get?_push_of_some _ e, turn_tuple a _, ⟨_, Heap.get?_push_size _ rfl, rfl, rfl⟩, fun b hb => ?_, q⟩
    have e : b = s1.heap.objs.size := by simpa using hb
    subst e
    exact I1.fpOk (Nat.le_refl _) (I1.hok.fresh (Nat.le_refl _))
theorem eI_list {xs : List PyData} (h : Ev K te ds (.list xs)) : EI K (iSeq K te) ds xs := fun W N σ H S R q =>
  h W N σ H S _ fun v H1 e r => by
    cases r with
    | @lst a vs _ h1 r =>
      have sq : ∀ {H2 : Hp} {W' : List Addr}, Ex (cut H1 W) (cut H2 W') → SqL K H2 a vs := fun e2 => .inl (.inl (cut_ex _ _ (e2 _ _ h1)))
      refine ⟨a, rfl, .inl ⟨⟨vs, .inl (.inl (cut_ex _ _ h1))⟩, q _ H1 e ⟨fun i H2 W' hi e2 => ?_, fun H2 W' e2 => ⟨vs, sq e2, by rw [r.length]; exact Nat.le_refl _⟩, fun i H2 W' x H' d hd e2 A y => ?_⟩⟩⟩
      · have hl : i < vs.length := by rw [r.length]; exact hi
        exact ⟨vs, vs[i], sq e2, List.getElem?_eq_getElem hl⟩
      · obtain ⟨e', f⟩ := y
        subst e'
        obtain ⟨w, hw, rw'⟩ := r.get' hd
        have ew : x = w := Option.some.inj ((f vs (sq e2)).symm.trans hw)
        subst ew
        exact ⟨Ex.refl _, rw'.mono e2⟩
theorem eI_tup {xs : List PyData} (h : Ev K te ds (.tuple xs)) : EI K (iSeq K te) ds xs := fun W N σ H S R q =>
  h W N σ H S _ fun v H1 e r => by
    cases r with
    | @tup a vs _ h1 r =>
      have sq : ∀ {H2 : Hp} {W' : List Addr}, Ex (cut H1 W) (cut H2 W') → SqT K H2 a vs := fun e2 => .inl (.inl (cut_ex _ _ (e2 _ _ h1)))
      refine ⟨a, rfl, .inr ⟨⟨vs, .inl (.inl (cut_ex _ _ h1))⟩, q _ H1 e ⟨fun i H2 W' hi e2 => ?_, fun H2 W' e2 => ⟨vs, sq e2, by rw [r.length]; exact Nat.le_refl _⟩, fun i H2 W' x H' d hd e2 A y => ?_⟩⟩⟩
      · have hl : i < vs.length := by rw [r.length]; exact hi
        exact ⟨vs, vs[i], sq e2, List.getElem?_eq_getElem hl⟩
      · obtain ⟨e', f⟩ := y
        subst e'
        obtain ⟨w, hw, rw'⟩ := r.get' hd
        have ew : x = w := Option.some.inj ((f vs (sq e2)).symm.trans hw)
        subst ew
        exact ⟨Ex.refl _, rw'.mono e2⟩
theorem eIr_list {xs : List PyData} (h : ErL K te ds xs) : EIr K (iSeq K te) ds xs := fun W N σ H S R q =>
  h W N σ H S _ fun a vs H1 e h1 r => by
    refine ⟨a, rfl, .inl ⟨⟨vs, h1⟩, q _ H1 e ⟨fun i H2 hi e2 => ?_, fun H2 e2 => ⟨vs, ex_l e2 h1, by rw [r.length]; exact Nat.le_refl _⟩, fun i H2 W' x H' d hd e2 e3 A y => ?_⟩⟩⟩
    · have hl : i < vs.length := by rw [r.length]; exact hi
      exact ⟨vs, vs[i], ex_l e2 h1, List.getElem?_eq_getElem hl⟩
    · obtain ⟨e', f⟩ := y
      subst e'
      obtain ⟨w, hw, rw'⟩ := r.get' hd
      have ew : x = w := Option.some.inj ((f vs (ex_l e2 h1)).symm.trans hw)
      subst ew
      exact ⟨Ex.refl _, rw'.mono e3⟩
def intsTo (n : Nat) : List PyData := (List.range n).map fun (i : Nat) => PyData.int i
theorem eI_rng1 {ta : TA} {n : Int} (h : Ea K ta ds [.int n]) (hn : -100000 ≤ n ∧ n ≤ 100000) : EI K (iRng1 ta) ds (intsTo n.toNat) := fun W N σ H S R q =>
  h W N σ H S _ fun vs H1 e r => by
    cases r with
    | cons r1 r =>
      cases r; cases r1
      have hl : (intsTo n.toNat).length = n.toNat := by unfold intsTo; rw [List.length_map, List.length_range]
      refine ⟨n, rfl, by omega, by omega, q _ H1 e ⟨fun i H2 W' hi _ => by rw [hl] at hi; exact hi, fun H2 W' _ => by rw [hl]; exact Nat.le_refl _, fun i H2 W' x H' d hd e2 A y => ?_⟩⟩
      obtain ⟨e', y⟩ := y
      subst e' y
      unfold intsTo at hd
      rw [List.getElem?_map] at hd
      obtain ⟨k, hk, e⟩ := Option.map_eq_some_iff.mp hd
      obtain ⟨hk1, hk2⟩ := List.getElem?_eq_some_iff.mp hk
      rw [List.getElem_range] at hk2
      subst hk2
      subst e
      rw [Int.zero_add]
      exact ⟨Ex.refl _, .int _⟩

/-! ### comprehensions -/
theorem Ex.mut {H H' : Hp} {p : Addr} {o : HO} (e : Ex H H') (h : H p = none) : Ex H (upd H' p o) := fun a u ha => by
  rw [upd_ne (ne_of_none ha h)]
  exact e a u ha
theorem en_lc {α : Type} {wi : TI} {g : TG} {vs js : List Nat} (ls : List α) (enc : α → PyData) (T : α → D4) (p : α → Bool) (f : α → PyData)
    (hi : EIr K wi ds (ls.map enc)) (hl : ls.length ≤ 90000) (hj : ∀ j ∈ js, j ∈ vs) (hg : ∀ l ∈ ls, Tg K g (enc l) (wipeD ds vs) (T l) js)
    (ht : ∀ l ∈ ls, Et K tt (T l) (p l)) (he : ∀ l ∈ ls, p l = true → Ev K te (T l) (f l)) : EnL K (tLc wi g tt te vs) ds ((ls.filter p).map f) := fun W N σ H S Q q =>
  hi W N σ H S _ fun J H1 e1 it => fun Dl hD => by
    have S1 := S.mono e1
    have n : (ls.map enc).length = ls.length := List.length_map _
    have wk : Walk J ls.length (fun H2 => Ex H1 H2) (fun i H2 x H' => J.yld i H2 x H') :=
      ⟨fun i H2 hi e => it.go i H2 (by rw [n]; exact hi) e, fun H2 e => by have := it.stop H2 e; rw [n] at this; exact this, fun i H2 x H' _ _ y => y⟩
    refine lc_it wk (fun i H2 => Ex H1 H2 ∧ ∃ acc, H2 Dl = some (.lst acc) ∧ RpAll K (cut H2 (Dl :: W)) acc (((ls.take i).filter p).map f)) ⟨Ex.new hD, [], upd_same, .nil⟩ (fun i H2 _ h => h.1) ?_ ?_
    · rintro i x H2 H3 hi ⟨e2, acc, hacc, racc⟩ y
      have hli : ls[i]? = some ls[i] := List.getElem?_eq_getElem hi
      have hm : ls[i] ∈ ls := List.getElem_mem hi
      have A2 : Al (Dl :: W) H2 := fun b hb => (List.mem_cons.mp hb).elim (fun z => by rw [z, hacc]; exact nt_lst) fun z => S1.al.mono e2 b z
      obtain ⟨e3, rx⟩ := it.yld i H2 (Dl :: W) x H3 (enc ls[i]) (by rw [List.getElem?_map, hli]; rfl) e2 (cut_cons hD e2) A2 y
      have S3 : Stt K (Dl :: W) N H3 (wipe σ vs) (wipeD ds vs) := (S1.wider hD (e2.trans e3) (by rw [e3 _ _ hacc]; exact nt_lst)).wipe vs
      obtain ⟨adr3, S3⟩ := S3
      refine hg ls[i] hm _ N _ H3 x adr3 S3 rx _ fun σ2 S4 kp => ⟨(kp.wp vs hj).trans wipe_wipe, ?_⟩
      have S4 : Stt K (Dl :: W) N H3 σ2 (T ls[i]) := ⟨adr3, S4⟩
      refine ht ls[i] hm _ N σ2 H3 S4 _ fun H4 e4 => ?_
      have take : (ls.take (i + 1)) = ls.take i ++ [ls[i]] := by rw [List.take_add_one, hli]; rfl
      have hacc4 : H4 Dl = some (.lst acc) := e4 _ _ (e3 _ _ hacc)
      have racc4 : RpAll K (cut H4 (Dl :: W)) acc (((ls.take i).filter p).map f) := racc.mono (cut_mono (e3.trans e4))
      cases hp : p ls[i] with
      | true =>
        rw [if_pos rfl]
        refine he ls[i] hm hp _ N σ2 H4 (S4.mono e4) _ fun v H5 e5 rv => ⟨acc, e5 _ _ hacc4, ?_, ?_⟩
        · rw [racc4.length, List.length_map]
          refine sz_lt (Nat.lt_of_le_of_lt (List.length_filter_le _ _) ?_)
          rw [List.length_take]
          omega
        · refine ⟨Ex.mut (((e2.trans e3).trans e4).trans e5) hD, _, upd_same, ?_⟩
          rw [cut_upd List.mem_cons_self, take, List.filter_append, List.map_append, List.filter_cons, if_pos hp]
          exact (racc4.mono (cut_mono e5)).append (.one rv)
      | false =>
        rw [if_neg Bool.false_ne_true]
        refine ⟨(e2.trans e3).trans e4, acc, hacc4, ?_⟩
        rw [take, List.filter_append, List.filter_cons, if_neg (by rw [hp]; exact Bool.false_ne_true)]
        simpa using racc4
    · rintro H2 ⟨e2, acc, hacc, racc⟩
      rw [List.take_length] at racc
      exact q Dl acc H2 (e1.trans e2) (e1.back hD) hacc racc
/-- without tests -/
theorem en_lcm {α : Type} {wi : TI} {g : TG} {vs js : List Nat} (ls : List α) (enc : α → PyData) (T : α → D4) (f : α → PyData)
    (hi : EIr K wi ds (ls.map enc)) (hl : ls.length ≤ 90000) (hj : ∀ j ∈ js, j ∈ vs) (hg : ∀ l ∈ ls, Tg K g (enc l) (wipeD ds vs) (T l) js)
    (he : ∀ l ∈ ls, Ev K te (T l) (f l)) : EnL K (tLc wi g tYes te vs) ds (ls.map f) := by
  have h := en_lc (tt := tYes) ls enc T (fun _ => true) f hi hl hj hg (fun l _ => et_yes) (fun l hl _ => he l hl)
  rw [List.filter_eq_self.mpr (fun _ _ => rfl)] at h
  exact h

/-! ### for -/
theorem Fr.base (F : Fr K B W0 M N H0 W σ H ds) : Ex B (cut H W) := by
  obtain ⟨adr, F⟩ := F
  exact F.base
theorem FrA.to {adr : List Addr} (F : FrA K B W0 M N H0 W σ H adr ds) {σ' : L2.St} {ds' : D4} (S : StA K W N H σ' adr ds') : FrA K B W0 M N H0 W σ' H adr ds' :=
  ⟨S, F.sub, F.new, F.keep, F.oth, F.nsub, F.msub, F.loc, F.base, F.bor⟩
theorem sx_for {α : Type} {wi : TI} {g : TG} {js : List Nat} (ls : List α) (enc : α → PyData) (Inv : Nat → D4 → Prop) (T : α → D4 → D4)
    (hi : EI K wi ds (ls.map enc)) (h0 : Inv 0 ds) (hg : ∀ i l ds, ls[i]? = some l → Inv i ds → Tg K g (enc l) ds (T l ds) js)
    (hs : ∀ i l ds, ls[i]? = some l → Inv i ds → Sx K t (T l ds) { P with nx := Inv (i + 1), ct := Inv (i + 1), bk := P.nx }) (hd : ∀ ds, Inv ls.length ds → P.nx ds) : Sx K (tFor wi g t) ds P := fun B W0 M N H0 W σ H hM F D m =>
  hi W N σ H F.st _ fun J H1 e1 it => by
    have n : (ls.map enc).length = ls.length := List.length_map _
    refine ⟨fun i mm σ' H' => mm = ls.length - i ∧ i ≤ ls.length ∧ ∃ W' ds', Inv i ds' ∧ Fr K (cut H1 W) W0 M N H0 W' σ' H' ds', ⟨ls.length, rfl, Nat.zero_le _, W, ds, h0, (F.ex e1).rebase (Ex.refl _)⟩, ?_⟩
    have bk : Ex B (cut H1 W) := (F.ex e1).base
    have back : ∀ {W' : List Addr} {σ' : L2.St} {H' : Hp} {ds' : D4}, Fr K (cut H1 W) W0 M N H0 W' σ' H' ds' → Fr K B W0 M N H0 W' σ' H' ds' := fun F' => F'.rebase (bk.trans F'.base)
    rintro i mm σ' H' ⟨rfl, hle, W', ds', hI, F'⟩
    by_cases hlt : i < ls.length
    · have hli : ls[i]? = some ls[i] := List.getElem?_eq_getElem hlt
      refine .inr ⟨it.go i H' W' (by rw [n]; exact hlt) F'.base, fun σ2 H2 => ∃ W2 ds2, Inv (i + 1) ds2 ∧ Fr K (cut H1 W) W0 M N H0 W2 σ2 H2 ds2, fun σ2 H2 q => ⟨ls.length - (i + 1), by omega, rfl, hlt, q⟩, fun x H2 y => ?_⟩
      obtain ⟨e2, rx⟩ := it.yld i H' W' x H2 (enc ls[i]) (by rw [List.getElem?_map, hli]; rfl) F'.base F'.st.al y
      obtain ⟨adr2, F2⟩ := F'.ex e2
      refine hg i ls[i] ds' hli hI W' N σ' H2 x adr2 F2.st rx _ fun σ3 S3 kp => ?_
      refine hs i ls[i] ds' hli hI (cut H1 W) W0 M N H0 W' σ3 H2 hM ⟨adr2, F2.to S3⟩ _ ⟨fun W2 σ2 H2 d2 q F => ⟨W2, d2, q, F⟩, fun W2 σ2 H2 d2 v d as q F r => m.rt W2 σ2 H2 d2 v d as q (back F) r, fun W2 σ2 H2 d2 q F => m.nx W2 σ2 H2 d2 q (back F), fun W2 σ2 H2 d2 q F => ⟨W2, d2, q, F⟩⟩
    · have e : i = ls.length := by omega
      subst e
      exact .inl ⟨by have := it.stop H' W' F'.base; rw [n] at this; exact this, m.nx W' σ' H' ds' (hd ds' hI) (back F')⟩

end
end L4
end

section
set_option Elab.async false
set_option linter.all false
set_option maxRecDepth 100000
set_option autoImplicit false
/-! Defs: what goes in (pure data, labels of what may change), what comes out. -/
namespace L4
open PySem L2

/-- the objects of a store that are handed in -/
structure StOk (K : PySem.W.Frag) (W : List Addr) (H : Hp) (adr : List Addr) (st : List Ob) : Prop where
  len : adr.length = st.length
  ob : ∀ (l : Nat) (a : Addr) (o : Ob), adr[l]? = some a → st[l]? = some o → o.live = true ∧ ∃ u, H a = some u ∧ ObAt K (cut H W) adr u o
structure ArOk (K : PySem.W.Frag) (I : Hp) (adr : List Addr) (vs : List V) (xs : List Sl) : Prop where
  len : vs.length = xs.length
  ar : ∀ (i : Nat) (v : V) (s : Sl), vs[i]? = some v → xs[i]? = some s → SlOk K I adr (some v) s
def spG (K : PySem.W.Frag) (Pre : List Sl → List Ob → Prop) (Po : List Sl → List Ob → Rs → List Ob → Prop) : Sp := fun vs H Q _ => ∃ W adr xs st, Al W H ∧ adr.Nodup ∧ (∀ a ∈ adr, a ∈ W) ∧ ArOk K (cut H W) adr vs xs ∧ StOk K W H adr st ∧ Pre xs st ∧
  ∀ v H' r st' as, Po xs st r st' → (∀ b o, b ∉ adr → H b = some o → H' b = some o) → StOk K (as ++ W) H' adr st' → RsN K W H H' v as r → Q v H'
def startG (Nm : List Str) (xs : List Sl) (st : List Ob) : D4 := ⟨xs ++ List.replicate (Nm.length - xs.length) Sl.un, st⟩
theorem start_len {Nm : List Str} {vs : List V} (h : vs.length ≤ Nm.length) : (L2.start Nm vs).length = Nm.length := by
  unfold L2.start
  simp only [List.length_append, List.length_map, List.length_replicate]
  omega
section
variable {Pr : Program} {w : World} {K : PySem.W.Frag} {mg : Str → Option Value} {base : Heap} {f : Addr} {fd : FuncData} {nm qual : Str} {st : Stmt} {Nm ps : List Str} {k : Nat}
/-- the post of a def: the borrowed objects as they stand then -/
def PostG (m : Nat) (Q : Rs → List Ob → Prop) : Post := { m := m, nx := fun ds => (∀ o ∈ ds.st.take m, o.live = true ∧ below m o = true) ∧ Q (.pu .none) (ds.st.take m), rt := fun r ds => (∀ o ∈ ds.st.take m, o.live = true ∧ below m o = true) ∧ Q r (ds.st.take m) }
theorem fn_okG (F : Fun K nm qual st f fd) (S : FnScope Nm ps (defScope st)) {Pre : List Sl → List Ob → Prop} {Po : List Sl → List Ob → Rs → List Ob → Prop} (len : ∀ xs st, Pre xs st → xs.length = ps.length)
    (body : ∀ (cdv : Value) (A : Around) (outer : List Env) (s : Shared) (H : Hp) (E : XK), Room k (A.deeper (PyProof.Rows.envOfC qual (defScope st) s.heap.objs.size f cdv)) →
      ∃ t, PSs (cxOf CX0 Pr w K mg base Nm qual (defScope st) f cdv A outer s H E).nox (defBody st) t ∧ ∀ xs st, Pre xs st → Sx K t (startG Nm xs st) (PostG st.length (Po xs st))) : FnOk Pr w K mg base CX0 (k + 1) f fd ps (spG K Pre Po) := by
  refine F.ok S (fun vs H Q E h => ?_) (fun cdv A outer s H vs Q E hr h => ?_)
  · obtain ⟨W, adr, xs, st, _, _, _, ar, _, pre, _⟩ := h
    rw [ar.len]; exact len xs st pre
  · obtain ⟨W, adr, xs, st, hA, nd, sub, ar, so, pre, q⟩ := h
    obtain ⟨t, ht, hb⟩ := body cdv A outer s H E hr
    refine ⟨t, ht, ?_⟩
    have hl : xs.length ≤ Nm.length := by
      rw [len xs st pre]
      have := congrArg List.length S.pre
      rw [List.length_take] at this
      omega
    have hv : vs.length ≤ Nm.length := by rw [ar.len]; exact hl
    -- what the body leaves
    have fin : ∀ (W' : List Addr) (σ' : L2.St) (H' : Hp) (ds' : D4) (v : V) (r : Rs) (as : List Addr), (∀ o ∈ ds'.st.take st.length, o.live = true ∧ below st.length o = true) → Po xs st r (ds'.st.take st.length) → Fr K (cut H W) W adr (W.filter fun a => decide (a ∉ adr)) H W' σ' H' ds' → RsAt K W' H H' v as r → Q v H' := fun W' σ' H' ds' v r as bl po F' rr => by
      obtain ⟨adr', F'⟩ := F'
      have tk : adr'.take st.length = adr := by
        apply List.ext_getElem?
        intro i
        by_cases hi : i < st.length
        · rw [List.getElem?_take_of_lt hi]
          obtain ⟨a, ha⟩ : ∃ a, adr[i]? = some a := ⟨_, List.getElem?_eq_getElem (by rw [so.len]; exact hi)⟩
          rw [ha]; exact F'.bor i a ha
        · rw [List.getElem?_eq_none (by rw [List.length_take]; omega), List.getElem?_eq_none (by rw [so.len]; omega)]
      have ll : st.length ≤ ds'.st.length := by
        rw [← F'.st.la]
        have := congrArg List.length tk
        rw [List.length_take, so.len] at this
        omega
      have asW : ∀ b ∈ as, b ∈ W' := fun b hb => by
        cases r with
        | pu d => obtain ⟨rfl, _⟩ := rr; cases hb
        | nw os => obtain ⟨a, _, _, e, _⟩ := rr; exact (e b hb).1
      have sb : ∀ b ∈ as ++ W, b ∈ W' := fun b hb => (List.mem_append.mp hb).elim (asW b) (F'.sub b)
      refine q v H' r _ as po (fun b o nb hb => F'.keep b o nb hb) ⟨by rw [List.length_take, so.len]; omega, fun l a o h1 h2 => ?_⟩ ?_
      · have lm : l < st.length := by rw [← so.len]; exact (List.getElem?_eq_some_iff.mp h1).1
        have h1' := F'.bor l a h1
        obtain ⟨lv, be⟩ := bl o (List.mem_of_getElem? h2)
        rw [List.getElem?_take_of_lt lm] at h2
        obtain ⟨_, _, u, hu, r⟩ := F'.st.ob l a o h1' h2 lv
        refine ⟨lv, u, hu, ?_⟩
        have := at_below be (r.mono (cut_sub sb))
        rwa [tk] at this
      · cases r with
        | pu d => exact ⟨rr.1, Rp.mono (cut_sub F'.sub) rr.2⟩
        | nw os =>
          obtain ⟨a, e1, e2, e3, g⟩ := rr
          refine ⟨a, e1, e2, fun b hb => (e3 b hb).2, g.len, g.nd, fun l b o h1 h2 => ?_⟩
          obtain ⟨lv, u, hu, ok⟩ := g.ob l b o h1 h2
          exact ⟨lv, u, hu, ok.mono (cut_sub sb)⟩
    have ne : ∀ a ∈ adr, H a ≠ none := fun a ha => (hA a (sub a ha)).ne
    refine hb xs st pre (cut H W) W adr (W.filter fun a => decide (a ∉ adr)) H W (L2.start Nm vs) H so.len ⟨adr, ⟨?_, hA, so.len, nd, ne, fun i s h => ?_, fun l a o h1 h2 h3 => ?_⟩, fun _ h => h, fun a h1 h2 => absurd h1 h2, fun _ _ _ h => h, fun b h1 h2 => List.mem_filter.mpr ⟨h1, decide_eq_true h2⟩, fun b hb => (List.mem_filter.mp hb).1, sub, fun l a h1 h2 => ?_, Ex.refl _, fun _ _ h => h⟩ _ ⟨fun W' σ' H' ds' ⟨bl, po⟩ F' => fin W' σ' H' ds' .non (.pu .none) [] bl po F' ⟨rfl, .non⟩, fun W' σ' H' ds' v r as ⟨bl, po⟩ F' rr => fin W' σ' H' ds' v r as bl po F' rr, fun _ _ _ _ h _ => h.elim, fun _ _ _ _ h _ => h.elim⟩
    · rw [start_len hv]
      show Nm.length = (xs ++ List.replicate (Nm.length - xs.length) Sl.un).length
      rw [List.length_append, List.length_replicate]
      omega
    · have h' : (xs ++ List.replicate (Nm.length - xs.length) Sl.un)[i]? = some s := h
      rcases app_get h' with ⟨l1, h'⟩ | ⟨_, h'⟩
      · obtain ⟨v, hv'⟩ : ∃ v, vs[i]? = some v := ⟨_, List.getElem?_eq_getElem (by rw [ar.len]; exact l1)⟩
        have r := ar.ar i v s hv' h'
        have e : (L2.start Nm vs)[i]?.getD none = some v := by
          unfold L2.start
          rw [List.getElem?_append_left (by rw [List.length_map, ar.len]; exact l1), List.getElem?_map, hv']
          rfl
        rw [e]; exact r
      · rw [List.eq_of_mem_replicate (List.mem_of_getElem? h')]
        trivial
    · obtain ⟨_, u, hu, ok⟩ := so.ob l a o h1 h2
      have am := List.mem_of_getElem? h1
      exact ⟨sub a am, fun z => of_decide_eq_true (List.mem_filter.mp z).2 am, u, hu, ok⟩
    · exact absurd (List.getElem?_eq_some_iff.mp h2).1 (by omega)
end
end L4
end

section
set_option Elab.async false
set_option linter.all false
set_option maxRecDepth 100000
set_option autoImplicit false
/-! Expressions that change the store. -/
namespace L4
open PySem L2
inductive FvsOk (K : PySem.W.Frag) (I : Hp) (adr : List Addr) : List V → List Fv → Prop
  | nil : FvsOk K I adr [] []
  | cons {v : V} {vs : List V} {f : Fv} {fs : List Fv} : FvOk K I adr v f → FvsOk K I adr vs fs → FvsOk K I adr (v :: vs) (f :: fs)
def Es (K : PySem.W.Frag) (te : TE) (ds : D4) (P : Fv → D4 → Prop) : Prop :=
  ∀ (B : Hp) (W0 M N : List Addr) (H0 : Hp) (W : List Addr) (σ : L2.St) (H : Hp) (adr : List Addr), FrA K B W0 M N H0 W σ H adr ds → ∀ Q : VK, (∀ v H' W' adr' f ds', P f ds' → adr <+: adr' → FrA K B W0 M N H0 W' σ H' adr' ds' → FvOk K (cut H' W') adr' v f → Q v H') → te σ H Q
def Eas (K : PySem.W.Frag) (ta : TA) (ds : D4) (P : List Fv → D4 → Prop) : Prop :=
  ∀ (B : Hp) (W0 M N : List Addr) (H0 : Hp) (W : List Addr) (σ : L2.St) (H : Hp) (adr : List Addr), FrA K B W0 M N H0 W σ H adr ds → ∀ Q : List V → Hp → Prop, (∀ vs H' W' adr' fs ds', P fs ds' → adr <+: adr' → FrA K B W0 M N H0 W' σ H' adr' ds' → FvsOk K (cut H' W') adr' vs fs → Q vs H') → ta σ H Q
def Ets (K : PySem.W.Frag) (tt : TT) (ds : D4) (P : Bool → D4 → Prop) : Prop :=
  ∀ (B : Hp) (W0 M N : List Addr) (H0 : Hp) (W : List Addr) (σ : L2.St) (H : Hp) (adr : List Addr), FrA K B W0 M N H0 W σ H adr ds → ∀ Q : Bool → Hp → Prop, (∀ b H' W' adr' ds', P b ds' → adr <+: adr' → FrA K B W0 M N H0 W' σ H' adr' ds' → Q b H') → tt σ H Q
theorem pre_get {α : Type} {l m : List α} {i : Nat} {x : α} (p : l <+: m) (h : l[i]? = some x) : m[i]? = some x := by
  obtain ⟨t, e⟩ := p
  rw [← e, List.getElem?_append_left (List.getElem?_eq_some_iff.mp h).1]; exact h
section
variable {K : PySem.W.Frag} {B : Hp} {W0 M N W : List Addr} {H0 H H' I I' : Hp} {σ : L2.St} {adr adr' : List Addr} {ds ds1 : D4} {P : Post} {D : Ends} {t u : TS} {te ta tb : TE} {tr : TA} {tt : TT} {d x y z : PyData} {xs : List PyData} {v : V}
theorem FvOk.wide {f : Fv} (p : adr <+: adr') (e : Ex I I') (h : FvOk K I adr v f) : FvOk K I' adr' v f := by
  cases f with
  | pu d => exact Rp.mono e h
  | lo l => obtain ⟨a, h1, h2⟩ := h; exact ⟨a, pre_get p h1, h2⟩
theorem FvsOk.pure : ∀ {vs : List V} {xs : List PyData}, FvsOk K I adr vs (xs.map Fv.pu) → RpAll K I vs xs
  | _, [], .nil => .nil
  | _, x :: xs, .cons h r => .cons h (FvsOk.pure r)
theorem RpAll.fvs : ∀ {vs : List V} {xs : List PyData}, RpAll K I vs xs → FvsOk K I adr vs (xs.map Fv.pu)
  | _, _, .nil => .nil
  | _, _, .cons h r => .cons h (RpAll.fvs r)
theorem FrA.rebase (F : FrA K B W0 M N H0 W σ H adr ds) {B' : Hp} (e : Ex B' (cut H W)) : FrA K B' W0 M N H0 W σ H adr ds := ⟨F.st, F.sub, F.new, F.keep, F.oth, F.nsub, F.msub, F.loc, e, F.bor⟩
theorem es_imp {P P' : Fv → D4 → Prop} (h : Es K te ds P) (i : ∀ f ds', P f ds' → P' f ds') : Es K te ds P' := fun B W0 M N H0 W σ H adr F Q q => h B W0 M N H0 W σ H adr F Q fun v H' W' adr' f ds' p => q v H' W' adr' f ds' (i f ds' p)
theorem es_ev {P : Fv → D4 → Prop} (h : Ev K te ds d) (p : P (.pu d) ds) : Es K te ds P := fun B W0 M N H0 W σ H adr F Q q =>
  h W N σ H ⟨adr, F.st⟩ _ fun v H' e r => q v H' W adr (.pu d) ds p (List.prefix_refl _) (F.ex e) r
theorem es_new {P : Fv → D4 → Prop} {os : List Ob} (h : Ek K te ds (.nw os)) (p : P (.lo ds.st.length) ⟨ds.sl, ds.st ++ os.map (shOb ds.st.length)⟩) : Es K te ds P := fun B W0 M N H0 W σ H adr F Q q =>
  h W N σ H ⟨adr, F.st⟩ _ fun v H' as e ⟨a, ev, h0, n, g⟩ => q v H' (as ++ W) (adr ++ as) (.lo ds.st.length) _ p (List.prefix_append _ _) (F.grow n e g) ⟨a, by rw [← F.st.la, List.getElem?_append_right (Nat.le_refl _), Nat.sub_self]; exact h0, ev⟩
theorem es_lo {P : Fv → D4 → Prop} {i l : Nat} (h : ds.sl[i]? = some (.lo l)) (p : P (.lo l) ds) : Es K (tVar i) ds P := fun B W0 M N H0 W σ H adr F Q q => by
  obtain ⟨a, e1, e2⟩ := F.st.sl i _ h
  exact ⟨.ref a, getD_of e2, q _ H W adr (.lo l) ds p (List.prefix_refl _) F ⟨a, e1, rfl⟩⟩
theorem es_op {r : R2} {P P1 : Fv → D4 → Prop} (ha : Es K ta ds P1) (hb : ∀ f ds1, P1 f ds1 → ∃ x, f = .pu x ∧ Es K tb ds1 fun g ds2 => ∃ y z, g = .pu y ∧ RD K r x y z ∧ P (.pu z) ds2) : Es K (tOp r ta tb) ds P := fun B W0 M N H0 W σ H adr F Q q =>
  ha B W0 M N H0 W σ H adr F _ fun v H1 W1 adr1 f ds1 p1 a1 F1 r1 => by
    obtain ⟨x, rfl, hb⟩ := hb f ds1 p1
    refine hb (cut H1 W1) W0 M N H0 W1 σ H1 adr1 (F1.rebase (Ex.refl _)) _ fun u H2 W2 adr2 g ds2 ⟨y, z, eg, rd, p2⟩ a2 F2 r2 => ?_
    subst eg
    exact rd W2 H2 v u F2.st.al (Rp.mono F2.base r1) r2 Q fun w H3 e3 r3 => q w H3 W2 adr2 (.pu z) ds2 p2 (a1.trans a2) ((F2.ex e3).rebase ((F1.base.trans F2.base).trans (cut_mono e3))) r3
theorem eas_ea {P : List Fv → D4 → Prop} (h : Ea K tr ds xs) (p : P (xs.map .pu) ds) : Eas K tr ds P := fun B W0 M N H0 W σ H adr F Q q =>
  h W N σ H ⟨adr, F.st⟩ _ fun v H' e r => q v H' W adr _ ds p (List.prefix_refl _) (F.ex e) r.fvs
theorem eas_nil {P : List Fv → D4 → Prop} (p : P [] ds) : Eas K tNil ds P := eas_ea (xs := []) ea_nil p
theorem FvsOk.one {f : Fv} (h : FvOk K I adr v f) : FvsOk K I adr [v] [f] := .cons h .nil
theorem FvsOk.wide (p : adr <+: adr') (e : Ex I I') : ∀ {vs : List V} {fs : List Fv}, FvsOk K I adr vs fs → FvsOk K I' adr' vs fs
  | _, _, .nil => .nil
  | _, _, .cons h r => .cons (h.wide p e) (FvsOk.wide p e r)
theorem eas_cons {P1 : Fv → D4 → Prop} {P : List Fv → D4 → Prop} (ha : Es K ta ds P1) (hb : ∀ f ds1, P1 f ds1 → Eas K tr ds1 fun fs ds2 => P (f :: fs) ds2) : Eas K (tCons ta tr) ds P := fun B W0 M N H0 W σ H adr F Q q =>
  ha B W0 M N H0 W σ H adr F _ fun v H1 W1 adr1 f ds1 p1 a1 F1 r1 => hb f ds1 p1 (cut H1 W1) W0 M N H0 W1 σ H1 adr1 (F1.rebase (Ex.refl _)) _ fun us H2 W2 adr2 fs ds2 p2 a2 F2 r2 =>
    q (v :: us) H2 W2 adr2 (f :: fs) ds2 p2 (a1.trans a2) (F2.rebase (F1.base.trans F2.base)) (.cons (r1.wide a2 F2.base) r2)
theorem eas_one {P : List Fv → D4 → Prop} (h : Es K ta ds fun f ds1 => P [f] ds1) : Eas K (tCons ta tNil) ds P := eas_cons h fun f ds1 p => eas_nil p
theorem es_cb {c : List V → Hp → VK → Prop} {P : Fv → D4 → Prop} (h : Eas K tr ds fun fs ds1 => ∃ xs z, fs = xs.map .pu ∧ CD K c xs z ∧ P (.pu z) ds1) : Es K (tCB c tr) ds P := fun B W0 M N H0 W σ H adr F Q q =>
  h B W0 M N H0 W σ H adr F _ fun vs H1 W1 adr1 fs ds1 ⟨xs, z, e, cd, p⟩ a1 F1 r1 => by
    subst e
    exact cd W1 H1 vs F1.st.al r1.pure Q fun w H2 e2 r2 => q w H2 W1 adr1 (.pu z) ds1 p a1 (F1.ex e2) r2
theorem es_tup {P : Fv → D4 → Prop} (h : Eas K tr ds fun fs ds1 => ∃ xs, fs = xs.map .pu ∧ xs.length ≤ 100000 ∧ P (.pu (.tuple xs)) ds1) : Es K (tTup tr) ds P := fun B W0 M N H0 W σ H adr F Q q =>
  h B W0 M N H0 W σ H adr F _ fun vs H1 W1 adr1 fs ds1 ⟨xs, e, hl, p⟩ a1 F1 r1 => by
    subst e
    have r2 := r1.pure
    exact ⟨by rw [r2.length]; exact sz_of hl, fun a ha => q _ _ W1 adr1 (.pu _) ds1 p a1 (F1.ex (Ex.new ha)) (.tup (cut_new F1.st.al ha) (r2.mono (cut_mono (Ex.new ha))))⟩
theorem ets_test {P : Bool → D4 → Prop} (h : Es K te ds fun f ds1 => ∃ b, f = .pu (.bool b) ∧ P b ds1) : Ets K (tTest te) ds P := fun B W0 M N H0 W σ H adr F Q q =>
  h B W0 M N H0 W σ H adr F _ fun v H' W' adr' f ds' ⟨b, e, p⟩ a F' r => by
    subst e
    have r' : Rp K (cut H' W') v (.bool b) := r
    cases r'
    exact ⟨b, rfl, q b H' W' adr' ds' p a F'⟩
theorem ets_B {P : Bool → D4 → Prop} (h : Es K te ds fun f ds1 => ∃ b, f = .pu (.bool b) ∧ P b ds1) : Ets K (tB te) ds P := fun B W0 M N H0 W σ H adr F Q q =>
  h B W0 M N H0 W σ H adr F _ fun v H' W' adr' f ds' ⟨b, e, p⟩ a F' r => by
    subst e
    have r' : Rp K (cut H' W') v (.bool b) := r
    cases r'
    exact ⟨b, rfl, q b H' W' adr' ds' p a F'⟩
theorem ets_not {P : Bool → D4 → Prop} (h : Ets K tt ds fun b ds1 => P (!b) ds1) : Ets K (tNot tt) ds P := fun B W0 M N H0 W σ H adr F Q q =>
  h B W0 M N H0 W σ H adr F _ fun b H' W' adr' ds' p a F' => q (!b) H' W' adr' ds' p a F'
theorem sx_ifE (h : Ets K tt ds fun b ds' => (b = true → Sx K t ds' P) ∧ (b = false → Sx K u ds' P)) : Sx K (tIfS tt t u) ds P := fun B W0 M N H0 W σ H hM ⟨adr, F⟩ D m =>
  h B W0 M N H0 W σ H adr F _ fun b H' W' adr' ds' ⟨h1, h2⟩ a F' => by
    cases b with
    | true =>
      show t D σ H'
      exact h1 rfl B W0 M N H0 W' σ H' hM ⟨adr', F'⟩ D m
    | false =>
      show u D σ H'
      exact h2 rfl B W0 M N H0 W' σ H' hM ⟨adr', F'⟩ D m
def slOf : Fv → Sl
  | .pu d => .pu d
  | .lo l => .lo l
theorem FvOk.sl {f : Fv} (h : FvOk K I adr v f) : SlOk K I adr (some v) (slOf f) := by
  cases f with
  | pu d => exact ⟨v, rfl, h⟩
  | lo l => obtain ⟨a, h1, h2⟩ := h; exact ⟨a, h1, by rw [h2]⟩
theorem sx_setE {i : Nat} (h : Es K te ds fun f ds' => i < ds'.length ∧ P.nx (ds'.set i (slOf f))) : Sx K (tAsg te (gName i)) ds P := fun B W0 M N H0 W σ H hM ⟨adr, F⟩ D m =>
  h B W0 M N H0 W σ H adr F _ fun v H' W' adr' f ds' ⟨hi, p⟩ a F' r => m.nx W' _ H' _ p ⟨adr', F'.setS hi (Ex.refl _) r.sl⟩
theorem sx_dropE (h : Es K te ds fun f ds' => P.nx ds') : Sx K (tDrop te) ds P := fun B W0 M N H0 W σ H hM ⟨adr, F⟩ D m =>
  h B W0 M N H0 W σ H adr F _ fun v H' W' adr' f ds' p a F' r => m.nx W' σ H' ds' p ⟨adr', F'⟩
theorem sx_retE (h : Es K te ds fun f ds' => ∃ d, f = .pu d ∧ P.rt (.pu d) ds') : Sx K (tRet te) ds P := fun B W0 M N H0 W σ H hM ⟨adr, F⟩ D m =>
  h B W0 M N H0 W σ H adr F _ fun v H' W' adr' f ds' ⟨d, e, p⟩ a F' r => by
    subst e
    exact m.rt W' σ H' ds' v _ [] p ⟨adr', F'⟩ ⟨rfl, r⟩
/-! ### some objects are changed at once -/
theorem FrA.mutS (F : FrA K B W0 M N H0 W σ H adr ds) {C : List Addr} {st' : List Ob} (hC : ∀ a ∈ C, ∃ (l : Nat) (o : Ob), adr[l]? = some a ∧ ds.st[l]? = some o ∧ o.live = true) (keep : ∀ b o, b ∉ C → H b = some o → H' b = some o) (hl : st'.length = ds.st.length)
    (ok : ∀ (l : Nat) (a : Addr) (o : Ob), adr[l]? = some a → st'[l]? = some o → a ∈ C → o.live = true ∧ ∃ u, H' a = some u ∧ ObAt K (cut H' W) adr u o) (same : ∀ (l : Nat) (a : Addr), adr[l]? = some a → a ∉ C → st'[l]? = ds.st[l]?) :
    FrA K B W0 M N H0 W σ H' adr ⟨ds.sl, st'⟩ ∧ Ex (cut H W) (cut H' W) := by
  have CW : ∀ a ∈ C, a ∈ W ∧ a ∉ N := fun a ha => by
    obtain ⟨l, o, h1, h2, h3⟩ := hC a ha
    obtain ⟨aW, aN, _⟩ := F.st.ob l a o h1 h2 h3
    exact ⟨aW, aN⟩
  have ce : Ex (cut H W) (cut H' W) := fun b o h => by
    by_cases k : b ∈ W
    · rw [cut_in k] at h; cases h
    · rw [cut_out k] at h ⊢
      exact keep b o (fun z => k (CW b z).1) h
  have at' : ∀ a ∈ C, NT (H' a) := fun a ha => by
    obtain ⟨l, o, h1, h2, h3⟩ := hC a ha
    obtain ⟨o', ho'⟩ : ∃ o', st'[l]? = some o' := ⟨_, List.getElem?_eq_getElem (by rw [hl]; exact (List.getElem?_eq_some_iff.mp h2).1)⟩
    obtain ⟨lv, u, hu, r⟩ := ok l a o' h1 ho' ha
    rw [hu]; exact nt_of r lv
  refine ⟨⟨⟨F.st.len, fun b hb => ?_, ?_, F.st.nd, fun b hb => ?_, fun j t q => (F.st.sl j t q).mono ce, fun l a o h1 h2 h3 => ?_⟩, F.sub, F.new, fun b o nM q => ?_, F.oth, F.nsub, F.msub, F.loc, F.base.trans ce, F.bor⟩, ce⟩
  · by_cases z : b ∈ C
    · exact at' b z
    · have q := F.st.al b hb
      cases hq : H b with
      | none => exact absurd hq q.ne
      | some x => rw [keep b x z hq, ← hq]; exact q
  · show adr.length = st'.length
    rw [hl]; exact F.st.la
  · by_cases z : b ∈ C
    · exact (at' b z).ne
    · cases hq : H b with
      | none => exact absurd hq (F.st.there b hb)
      | some x => rw [keep b x z hq]; exact fun z => nomatch z
  · by_cases z : a ∈ C
    · obtain ⟨_, u, hu, r⟩ := ok l a o h1 h2 z
      exact ⟨(CW a z).1, (CW a z).2, u, hu, r⟩
    · have h2' : st'[l]? = some o := h2
      rw [same l a h1 z] at h2'
      obtain ⟨aW, aN, u, hu, r⟩ := F.st.ob l a o h1 h2' h3
      exact ⟨aW, aN, u, keep a u z hu, r.mono ce⟩
  · by_cases z : b ∈ C
    · exfalso
      by_cases w0 : b ∈ W0
      · exact (CW b z).2 (F.oth b w0 nM)
      · rw [F.new b (CW b z).1 w0] at q; cases q
    · exact keep b o z (F.keep b o nM q)
end
end L4
end

section
set_option Elab.async false
set_option linter.all false
set_option maxRecDepth 100000
set_option autoImplicit false
/-! Calls that hand in labels. -/
namespace L4
open PySem L2
def reFv (es : List Nat) : Fv → Fv
  | .lo k => .lo (es.getD k 0)
  | .pu d => .pu d
def reOb (es : List Nat) : Ob → Ob
  | .ins C fs => .ins C (fs.map fun p => (p.1, reFv es p.2))
  | o => o
def fvOf (es : List Nat) : Sl → Fv
  | .lo k => .lo (es.getD k 0)
  | .pu d => .pu d
  | _ => .pu .none
def okSl (n : Nat) : Sl → Bool
  | .lo k => decide (k < n)
  | .pu _ => true
  | _ => false
def upS (full : List Nat) (s : List Ob) : List Nat → List Ob → List Ob
  | e :: es, o :: os => (upS full s es os).set e (reOb full o)
  | _, _ => s
theorem upS_len (full : List Nat) (s : List Ob) : ∀ (es : List Nat) (os : List Ob), (upS full s es os).length = s.length
  | [], _ => rfl
  | _ :: _, [] => rfl
  | e :: es, o :: os => by unfold upS; rw [List.length_set, upS_len full s es os]
theorem upS_out (full : List Nat) (s : List Ob) {l : Nat} : ∀ (es : List Nat) (os : List Ob), l ∉ es → (upS full s es os)[l]? = s[l]?
  | [], _, _ => rfl
  | _ :: _, [], _ => rfl
  | e :: es, o :: os, h => by
    unfold upS
    rw [List.getElem?_set_ne (fun z => h (by rw [z]; exact List.mem_cons_self)), upS_out full s es os fun z => h (List.mem_cons_of_mem _ z)]
theorem upS_in (full : List Nat) (s : List Ob) : ∀ (es : List Nat) (os : List Ob) {k l : Nat} {o : Ob}, es.Nodup → es[k]? = some l → os[k]? = some o → l < s.length → (upS full s es os)[l]? = some (reOb full o)
  | [], _, _, _, _, _, h, _, _ => by simp at h
  | _ :: _, [], _, _, _, _, _, h, _ => by simp at h
  | e :: es, o' :: os, 0, l, o, nd, h1, h2, hl => by
    cases h1; cases h2
    unfold upS
    rw [List.getElem?_set_self (by rw [upS_len]; exact hl)]
  | e :: es, o' :: os, k + 1, l, o, nd, h1, h2, hl => by
    have nd' := List.nodup_cons.mp nd
    have ne : e ≠ l := fun z => nd'.1 (by rw [z]; exact List.mem_of_getElem? (l := es) (i := k) h1)
    unfold upS
    rw [List.getElem?_set_ne ne]
    exact upS_in full s es os (k := k) nd'.2 h1 h2 hl
section
variable {K : PySem.W.Frag} {B : Hp} {W0 M N W : List Addr} {H0 H H' I I' : Hp} {σ : L2.St} {adr adc : List Addr} {ds ds1 : D4} {P : Post} {te ta tb : TE} {tr : TA} {d : PyData} {v : V} {es : List Nat}
theorem fs_re (h : ∀ (k l : Nat), es[k]? = some l → adc[k]? = adr[l]?) (hl : adc.length = es.length) : ∀ {vs : List (Str × V)} {fs : List (Str × Fv)}, FsOk K I adc vs fs → FsOk K I adr vs (fs.map fun p => (p.1, reFv es p.2))
  | _, _, .nil => .nil
  | _, _, .cons (d := d) q r => by
    refine .cons ?_ (fs_re h hl r)
    cases d with
    | pu d => exact q
    | lo k =>
      obtain ⟨a, h1, h2⟩ := q
      have hk : k < es.length := by rw [← hl]; exact (List.getElem?_eq_some_iff.mp h1).1
      refine ⟨a, ?_, h2⟩
      have e : es[k]? = some (es.getD k 0) := by rw [List.getD_eq_getElem?_getD, List.getElem?_eq_getElem hk]; rfl
      rw [← h k _ e]; exact h1
theorem fs_un (h : ∀ (k l : Nat), es[k]? = some l → adc[k]? = adr[l]?) {vs : List (Str × V)} : ∀ {fs : List (Str × Fv)} {vs : List (Str × V)}, (fs.all fun p => match p.2 with | .lo l => decide (l < es.length) | .pu _ => true) = true → FsOk K I adr vs (fs.map fun p => (p.1, reFv es p.2)) → FsOk K I adc vs fs
  | [], _, _, .nil => .nil
  | (f, d) :: fs, _, b, .cons q r => by
    rw [List.all_cons, Bool.and_eq_true] at b
    refine .cons ?_ (fs_un h (vs := vs) b.2 r)
    cases d with
    | pu d => exact q
    | lo k =>
      obtain ⟨a, h1, h2⟩ := q
      have hk : k < es.length := of_decide_eq_true b.1
      have e : es[k]? = some (es.getD k 0) := by rw [List.getD_eq_getElem?_getD, List.getElem?_eq_getElem hk]; rfl
      exact ⟨a, by rw [h k _ e]; exact h1, h2⟩
theorem at_re (h : ∀ (k l : Nat), es[k]? = some l → adc[k]? = adr[l]?) (hl : adc.length = es.length) {u : HO} {o : Ob} (q : ObAt K I adc u o) : ObAt K I adr u (reOb es o) := by
  cases o with
  | ins C fs => obtain ⟨dx, fvs, h1, h2⟩ := q; exact ⟨dx, fvs, h1, fs_re h hl h2⟩
  | _ => exact q
theorem at_un (h : ∀ (k l : Nat), es[k]? = some l → adc[k]? = adr[l]?) {u : HO} {o : Ob} (b : below es.length o = true) (q : ObAt K I adr u (reOb es o)) : ObAt K I adc u o := by
  cases o with
  | ins C fs => obtain ⟨dx, fvs, h1, h2⟩ := q; exact ⟨dx, fvs, h1, fs_un h (vs := fvs) b h2⟩
  | _ => exact q
theorem re_live {o : Ob} : (reOb es o).live = o.live := by cases o <;> rfl
theorem ar_of (h : ∀ (k l : Nat), es[k]? = some l → adc[k]? = adr[l]?) : ∀ {xs : List Sl} {vs : List V}, (∀ s ∈ xs, okSl es.length s = true) → FvsOk K I adr vs (xs.map (fvOf es)) → ArOk K I adc vs xs
  | [], _, _, .nil => ⟨rfl, fun i v s h _ => by simp at h⟩
  | x :: xs, v :: vs, ok, .cons q r => by
    have ih := ar_of h (xs := xs) (fun s hs => ok s (List.mem_cons_of_mem _ hs)) r
    refine ⟨congrArg (· + 1) ih.len, fun i w s h1 h2 => ?_⟩
    cases i with
    | succ i => exact ih.ar i w s h1 h2
    | zero =>
      cases h1; cases h2
      have o := ok x List.mem_cons_self
      cases x with
      | un => cases o
      | rl ys => cases o
      | pu d => exact ⟨v, rfl, q⟩
      | lo k =>
        obtain ⟨a, h1, h2⟩ := q
        have hk : k < es.length := of_decide_eq_true o
        have e : es[k]? = some (es.getD k 0) := by rw [List.getD_eq_getElem?_getD, List.getElem?_eq_getElem hk]; rfl
        exact ⟨a, by rw [h k _ e]; exact h1, by rw [h2]⟩
/-- the state behind a call -/
def D4.back (ds : D4) (es : List Nat) (st' : List Ob) : D4 := ⟨ds.sl, upS es ds.st es st'⟩
def D4.more (ds : D4) (os : List Ob) : D4 := ⟨ds.sl, ds.st ++ os.map (shOb ds.st.length)⟩
theorem es_callG {Pre : List Sl → List Ob → Prop} {Po : List Sl → List Ob → Rs → List Ob → Prop} {E : XK} {P : Fv → D4 → Prop}
    (h : Eas K tr ds fun fs ds1 => ∃ (es : List Nat) (xs : List Sl) (st : List Ob), es.Nodup ∧ fs = xs.map (fvOf es) ∧ (∀ s ∈ xs, okSl es.length s = true) ∧ es.length = st.length ∧ (∀ (k l : Nat) (o : Ob), es[k]? = some l → st[k]? = some o → o.live = true ∧ below es.length o = true ∧ ds1.st[l]? = some (reOb es o)) ∧ Pre xs st ∧
      ∀ r st', Po xs st r st' → st'.length = st.length → match r with | .pu d => P (.pu d) (ds1.back es st') | .nw os => P (.lo ds1.st.length) ((ds1.back es st').more os)) : Es K (tCall (spG K Pre Po) [] E tr) ds P := fun B W0 M N H0 W σ H adr F Q q =>
  h B W0 M N H0 W σ H adr F _ fun vs H1 W1 adr1 fs ds1 ⟨es, xs, st, nd, ef, okx, hl, hst, pre, hp⟩ a1 F1 r1 => by
    subst ef
    show spG K Pre Po (vs ++ []) H1 Q E
    rw [List.append_nil]
    let adc : List Addr := es.map fun l => adr1.getD l 0
    have la : adc.length = es.length := List.length_map _
    have lt : ∀ (k l : Nat), es[k]? = some l → l < ds1.st.length := fun k l hk => by
      obtain ⟨o, ho⟩ : ∃ o, st[k]? = some o := ⟨_, List.getElem?_eq_getElem (by rw [← hl]; exact (List.getElem?_eq_some_iff.mp hk).1)⟩
      exact (List.getElem?_eq_some_iff.mp (hst k l o hk ho).2.2).1
    have ha : ∀ (k l : Nat), es[k]? = some l → adc[k]? = adr1[l]? := fun k l hk => by
      have hl1 : l < adr1.length := by rw [F1.st.la]; exact lt k l hk
      show (es.map fun l => adr1.getD l 0)[k]? = adr1[l]?
      rw [List.getElem?_map, hk, List.getElem?_eq_getElem hl1]
      show some (adr1.getD l 0) = _
      rw [List.getD_eq_getElem?_getD, List.getElem?_eq_getElem hl1]
      rfl
    have inv : ∀ (k : Nat) (a : Addr), adc[k]? = some a → ∃ l o, es[k]? = some l ∧ adr1[l]? = some a ∧ st[k]? = some o := fun k a hk => by
      have hk1 : k < es.length := by rw [← la]; exact (List.getElem?_eq_some_iff.mp hk).1
      exact ⟨es[k], st[k]'(by omega), List.getElem?_eq_getElem hk1, by rw [← ha k _ (List.getElem?_eq_getElem hk1)]; exact hk, List.getElem?_eq_getElem _⟩
    have ndc : adc.Nodup := by
      refine List.pairwise_iff_getElem.mpr fun i j hi hj hij e => ?_
      obtain ⟨l1, o1, e1, e2, _⟩ := inv i adc[j] (by rw [← e]; exact List.getElem?_eq_getElem hi)
      obtain ⟨l2, o2, e3, e4, _⟩ := inv j adc[j] (List.getElem?_eq_getElem hj)
      have := nodup_get F1.st.nd e2 e4
      subst this
      have := nodup_get nd e1 e3
      omega
    have mem : ∀ a ∈ adc, ∃ (l : Nat) (o : Ob), adr1[l]? = some a ∧ ds1.st[l]? = some o ∧ o.live = true := fun a hm => by
      obtain ⟨k, hk⟩ := List.getElem?_of_mem hm
      obtain ⟨l, o, e1, e2, e3⟩ := inv k a hk
      obtain ⟨lv, _, e4⟩ := hst k l o e1 e3
      exact ⟨l, _, e2, e4, by rw [re_live]; exact lv⟩
    have sub : ∀ a ∈ adc, a ∈ W1 := fun a hm => by
      obtain ⟨l, o, e1, e2, e3⟩ := mem a hm
      exact (F1.st.ob l a o e1 e2 e3).1
    refine ⟨W1, adc, xs, st, F1.st.al, ndc, sub, ar_of ha okx r1, ⟨by rw [la, hl], fun k a o h1 h2 => ?_⟩, pre, fun v H2 r st' as po keep so rr => ?_⟩
    · obtain ⟨l, o', e1, e2, e3⟩ := inv k a h1
      obtain ⟨lv, be, e4⟩ := hst k l o e1 h2
      obtain ⟨_, _, u, hu, ok⟩ := F1.st.ob l a _ e2 e4 (by rw [re_live]; exact lv)
      exact ⟨lv, u, hu, at_un ha be ok⟩
    · have ls : st'.length = st.length := by rw [← so.len, la, hl]
      have hpp := hp r st' po ls
      have nas : ∀ b ∈ as, H1 b = none := fun b hb => by
        cases r with
        | pu d => obtain ⟨rfl, _⟩ := rr; cases hb
        | nw os => obtain ⟨a, _, _, e, _⟩ := rr; exact e b hb
      let Hm : Hp := fun b => if b ∈ as then none else H2 b
      have hmi : ∀ b, b ∈ as → Hm b = none := fun b hb => if_pos hb
      have hmo : ∀ b, b ∉ as → Hm b = H2 b := fun b hb => if_neg hb
      have cm : cut Hm W1 = cut H2 (as ++ W1) := by
        funext b
        by_cases h1 : b ∈ W1
        · rw [cut_in h1, cut_in (List.mem_append_right _ h1)]
        · rw [cut_out h1]
          by_cases h2 : b ∈ as
          · rw [hmi b h2, cut_in (List.mem_append_left _ h2)]
          · rw [hmo b h2, cut_out (fun z => (List.mem_append.mp z).elim h2 h1)]
      obtain ⟨F2, ce⟩ := F1.mutS (C := adc) (st' := upS es ds1.st es st') (H' := Hm) mem (fun b o hb h => by
        rw [hmo b (fun z => by rw [nas b z] at h; cases h)]
        exact keep b o hb h) (upS_len _ _ _ _) (fun l a o h1 h2 hm => by
        obtain ⟨k, hk⟩ := List.getElem?_of_mem hm
        obtain ⟨l', o', e1, e2, e3⟩ := inv k a hk
        have := nodup_get F1.st.nd h1 e2
        subst this
        obtain ⟨o1, ho1⟩ : ∃ o1, st'[k]? = some o1 := ⟨_, List.getElem?_eq_getElem (by rw [ls, ← hl]; exact (List.getElem?_eq_some_iff.mp e1).1)⟩
        rw [upS_in es ds1.st es st' nd e1 ho1 (lt k l e1)] at h2
        cases h2
        obtain ⟨lv, u, hu, ok⟩ := so.ob k a o1 hk ho1
        have na : a ∉ as := fun z => (F1.st.al a (sub a hm)).ne (nas a z)
        exact ⟨by rw [re_live]; exact lv, u, by rw [hmo a na]; exact hu, by rw [cm]; exact at_re ha la ok⟩) (fun l a h1 hm => upS_out es ds1.st es st' fun z => by
        obtain ⟨k, hk⟩ := List.getElem?_of_mem z
        exact hm (List.mem_of_getElem? (by rw [ha k l hk]; exact h1)))
      have eH : Ex Hm H2 := fun b o h => by
        by_cases z : b ∈ as
        · rw [hmi b z] at h; cases h
        · rw [hmo b z] at h; exact h
      cases r with
      | pu d =>
        obtain ⟨rfl, r⟩ := rr
        exact q v H2 W1 adr1 (.pu d) _ hpp a1 ((F2.ex eH).rebase ((F1.base.trans ce).trans (cut_mono eH))) r
      | nw os =>
        obtain ⟨a, ev, h0, _, g⟩ := rr
        have G := F2.grow (os := os) (fun b hb => hmi b hb) eH g
        have ll : (upS es ds1.st es st').length = ds1.st.length := upS_len _ _ _ _
        refine q v H2 (as ++ W1) (adr1 ++ as) (.lo ds1.st.length) _ hpp (a1.trans (List.prefix_append _ _)) ?_ ⟨a, by rw [← F1.st.la, List.getElem?_append_right (Nat.le_refl _), Nat.sub_self]; exact h0, ev⟩
        exact G.rebase (F1.base.trans (ce.trans (cut_many (fun b hb => hmi b hb) eH)))
end
end L4
end

section
set_option Elab.async false
set_option linter.all false
set_option maxRecDepth 100000
set_option autoImplicit false
/-! Objects that are read and changed by their labels. -/
namespace L4
open PySem L2
section
variable {K : PySem.W.Frag} {B : Hp} {W0 M N W : List Addr} {H0 H H' I : Hp} {σ : L2.St} {adr : List Addr} {ds ds1 : D4} {P : Post} {te ta tb tv : TE} {tr : TA} {d : PyData} {v : V} {f : Str} {C : Addr}
theorem fs_look : ∀ {vs : List (Str × V)} {fs : List (Str × Fv)} {g : Fv}, FsOk K I adr vs fs → fs.lookup f = some g → ∃ v, vs.lookup f = some v ∧ FvOk K I adr v g
  | _, _, _, .nil, h => by simp at h
  | _, _, g, .cons (f := f') (d := d) q r, h => by
    rw [List.lookup_cons] at h ⊢
    cases e : (f == f') with
    | true =>
      rw [e] at h
      have h' : d = g := Option.some.inj h
      subst h'
      exact ⟨_, rfl, q⟩
    | false =>
      rw [e] at h
      exact fs_look r h
theorem kv_look : ∀ {vs : List (Str × V)} {fs : List (Str × PyData)} {g : PyData}, RpKV K I Str vs fs → fs.lookup f = some g → ∃ v, vs.lookup f = some v ∧ Rp K I v g
  | _, _, _, .nil, h => by simp at h
  | _, _, g, .cons (k := f') (d := d) q r, h => by
    rw [List.lookup_cons] at h ⊢
    cases e : (f == f') with
    | true =>
      rw [e] at h
      have h' : d = g := Option.some.inj h
      subst h'
      exact ⟨_, rfl, q⟩
    | false =>
      rw [e] at h
      exact kv_look r h
/-- a field of a pure instance -/
theorem ev_fld {fs : List (Str × PyData)} (h : Ev K te ds (inD C fs)) (c : Cls K C) (n : NoAttr K C f) (hf : fs.lookup f = some d) : Ev K (tFld K te f) ds d := fun W N σ H S Q q =>
  h W N σ H S _ fun w H1 e1 r => by
    obtain ⟨a, dx, fvs, rfl, h1, h2⟩ := r.inst
    obtain ⟨u, hu, ru⟩ := kv_look h2 hf
    exact ⟨a, C, dx, fvs, u, rfl, cut_ex _ _ h1, c, n, hu, q u H1 e1 ru⟩
/-- fields of an own instance -/
theorem ev_fldO {i l : Nat} {fs : List (Str × Fv)} (h : ds.sl[i]? = some (.lo l)) (h' : ds.st[l]? = some (.ins C fs)) (c : Cls K C) (n : NoAttr K C f) (hf : fs.lookup f = some (.pu d)) : Ev K (tFld K (tVar i) f) ds d := fun W N σ H S Q q => by
  obtain ⟨a, u, adr, e, h2, h3, h4, dx, fvs, e', h5⟩ := S.own h h' rfl
  subst e'
  obtain ⟨w, hw, rw'⟩ := fs_look h5 hf
  exact ⟨.ref a, getD_of e, a, C, dx, fvs, w, rfl, h4, c, n, hw, q w H (Ex.refl H) rw'⟩
theorem own_fld (S : Stt K W N H σ ds) {i l k : Nat} {fs : List (Str × Fv)} {o : Ob} (h : ds.sl[i]? = some (.lo l)) (h' : ds.st[l]? = some (.ins C fs)) (hf : fs.lookup f = some (.lo k)) (hk : ds.st[k]? = some o) (lv : o.live = true) :
    ∃ a dx fvs b u adr, σ[i]? = some (some (.ref a)) ∧ H a = some (.ins C dx fvs) ∧ fvs.lookup f = some (.ref b) ∧ b ∈ W ∧ b ∉ N ∧ H b = some u ∧ ObAt K (cut H W) adr u o := by
  obtain ⟨adr, S⟩ := S
  obtain ⟨a, e1, e2⟩ := S.sl i _ h
  obtain ⟨_, _, u, hu, dx, fvs, e3, r⟩ := S.ob l a _ e1 h' rfl
  subst e3
  obtain ⟨w, hw, b, e4, e5⟩ := fs_look r hf
  subst e5
  obtain ⟨bW, bN, u2, hu2, ok⟩ := S.ob k b o e4 hk lv
  exact ⟨a, dx, fvs, b, u2, adr, getD_of e2, hu, hw, bW, bN, hu2, ok⟩
theorem er_fldO {i l k : Nat} {fs : List (Str × Fv)} {xs : List PyData} (h : ds.sl[i]? = some (.lo l)) (h' : ds.st[l]? = some (.ins C fs)) (c : Cls K C) (n : NoAttr K C f) (hf : fs.lookup f = some (.lo k)) (hk : ds.st[k]? = some (.lst xs)) : ErL K (tFld K (tVar i) f) ds xs := fun W N σ H S Q q => by
  obtain ⟨a, dx, fvs, b, u, adr, e, h1, h2, _, _, h3, vs, e', r⟩ := own_fld S h h' hf hk rfl
  subst e'
  exact ⟨.ref a, e, a, C, dx, fvs, _, rfl, h1, c, n, h2, q b vs H (Ex.refl H) (.inl (.inl h3)) r⟩
theorem erk_fldO {i l k : Nat} {fs : List (Str × Fv)} {es : List (Key × PyData)} (h : ds.sl[i]? = some (.lo l)) (h' : ds.st[l]? = some (.ins C fs)) (c : Cls K C) (n : NoAttr K C f) (hf : fs.lookup f = some (.lo k)) (hk : ds.st[k]? = some (.dk es)) : ErK K (tFld K (tVar i) f) ds es := fun W N σ H S Q q => by
  obtain ⟨a, dx, fvs, b, u, adr, e, h1, h2, _, _, h3, vs, e', r⟩ := own_fld S h h' hf hk rfl
  subst e'
  exact ⟨.ref a, e, a, C, dx, fvs, _, rfl, h1, c, n, h2, q b vs H (Ex.refl H) (.inl h3) r⟩
theorem erd_fldO {i l k : Nat} {fs : List (Str × Fv)} {es : List (List Key × PyData)} (h : ds.sl[i]? = some (.lo l)) (h' : ds.st[l]? = some (.ins C fs)) (c : Cls K C) (n : NoAttr K C f) (hf : fs.lookup f = some (.lo k)) (hk : ds.st[k]? = some (.dt es)) : ErD K (tFld K (tVar i) f) ds es := fun W N σ H S Q q => by
  obtain ⟨a, dx, fvs, b, u, adr, e, h1, h2, _, _, h3, vs, e', r⟩ := own_fld S h h' hf hk rfl
  subst e'
  exact ⟨.ref a, e, a, C, dx, fvs, _, rfl, h1, c, n, h2, q b vs H (Ex.refl H) (.inl h3) r⟩
/-- .. as a label -/
theorem es_fld {P : Fv → D4 → Prop} (h : Es K te ds fun g ds1 => ∃ l C fs fv, g = .lo l ∧ ds1.st[l]? = some (.ins C fs) ∧ Cls K C ∧ NoAttr K C f ∧ fs.lookup f = some fv ∧ P fv ds1) : Es K (tFld K te f) ds P := fun B W0 M N H0 W σ H adr F Q q =>
  h B W0 M N H0 W σ H adr F _ fun w H1 W1 adr1 g ds1 ⟨l, C, fs, fv, eg, h1, c, n, hf, p⟩ a1 F1 r1 => by
    subst eg
    obtain ⟨a, e1, rfl⟩ := r1
    obtain ⟨_, _, u, hu, dx, fvs, e3, r⟩ := F1.st.ob l a _ e1 h1 rfl
    subst e3
    obtain ⟨w, hw, rw'⟩ := fs_look r hf
    exact ⟨a, C, dx, fvs, w, rfl, hu, c, n, hw, q w H1 W1 adr1 fv ds1 p a1 F1 rw'⟩
/-- x.append(e) -/
theorem sx_app {t : TE} (h : Es K te ds fun g ds1 => ∃ l ys, g = .lo l ∧ ds1.st[l]? = some (.lst ys) ∧ Es K ta ds1 fun g2 ds2 => ∃ d xs, g2 = .pu d ∧ ds2.st[l]? = some (.lst xs) ∧ xs.length < 100000 ∧ P.nx (ds2.put l (.lst (xs ++ [d])))) :
    Sx K (tDrop (tBM K "list" rAppend te (tCons ta tNil))) ds P := fun B W0 M N H0 W σ H hM ⟨adr, F⟩ D m =>
  h B W0 M N H0 W σ H adr F _ fun w H1 W1 adr1 g ds1 ⟨l, ys, eg, hy, ha⟩ a1 F1 r1 => by
    subst eg
    obtain ⟨a, e1, rfl⟩ := r1
    obtain ⟨_, _, u, hu, vs, e3, _⟩ := F1.st.ob l a _ e1 hy rfl
    subst e3
    refine ⟨.inl ⟨rfl, vs, .inl (.inl hu)⟩, ha B W0 M N H0 W1 σ H1 adr1 F1 _ fun x H2 W2 adr2 g2 ds2 ⟨d, xs, eg2, hx, hl, p⟩ a2 F2 r2 => ?_⟩
    subst eg2
    have e2 := pre_get a2 e1
    obtain ⟨aW, _, u2, hu2, vs2, e4, rv⟩ := F2.st.ob l a _ e2 hx rfl
    subst e4
    refine ⟨a, vs2, x, rfl, rfl, hu2, by rw [rv.length]; exact sz_lt hl, ?_⟩
    refine m.nx W2 σ _ _ p ⟨adr2, F2.mutE e2 hx rfl (Ex.refl _) ⟨vs2 ++ [x], rfl, ?_⟩ rfl upd_same⟩
    rw [cut_upd aW]
    exact rv.append (.one r2)
def putFv (f : Str) (g : Fv) : List (Str × Fv) → List (Str × Fv)
  | [] => [(f, g)]
  | (f', g') :: r => if f' = f then (f', g) :: r else (f', g') :: putFv f g r
theorem FsOk.put {g : Fv} (hv : FvOk K I adr v g) : ∀ {vs : List (Str × V)} {fs : List (Str × Fv)}, FsOk K I adr vs fs → FsOk K I adr (putF f v vs) (putFv f g fs)
  | _, _, .nil => .cons hv .nil
  | _, _, .cons (f := f') q r => by
    unfold putF putFv
    by_cases e : f' = f
    · rw [if_pos e, if_pos e]; exact .cons hv r
    · rw [if_neg e, if_neg e]; exact .cons q (FsOk.put hv r)
theorem FsOk.length : ∀ {vs : List (Str × V)} {fs : List (Str × Fv)}, FsOk K I adr vs fs → vs.length = fs.length
  | _, _, .nil => rfl
  | _, _, .cons _ r => congrArg (· + 1) (FsOk.length r)
/-- x.f = e -/
theorem sx_fld (h : Es K tv ds fun g ds1 => Es K te ds1 fun g2 ds2 => ∃ l C fs, g2 = .lo l ∧ ds2 = ds1 ∧ ds1.st[l]? = some (.ins C fs) ∧ Cls K C ∧ NoAttr K C f ∧ fs.length < 1000 ∧ P.nx (ds1.put l (.ins C (putFv f g fs)))) : Sx K (sFld K te tv f) ds P := fun B W0 M N H0 W σ H hM ⟨adr, F⟩ D m =>
  h B W0 M N H0 W σ H adr F _ fun w H1 W1 adr1 g ds1 ha a1 F1 r1 => ha (cut H1 W1) W0 M N H0 W1 σ H1 adr1 (F1.rebase (Ex.refl _)) _ fun x H2 W2 adr2 g2 ds2 ⟨l, C, fs, eg, ed, hi, c, n, hl, p⟩ a2 F2 r2 => by
    subst eg ed
    obtain ⟨a, e1, rfl⟩ := r2
    obtain ⟨aW, _, u, hu, dx, fvs, e3, r⟩ := F2.st.ob l a _ e1 hi rfl
    subst e3
    refine ⟨a, C, dx, fvs, rfl, hu, c, n, by rw [r.length]; exact hl, m.nx W2 σ _ _ p ⟨adr2, (F2.rebase (F1.base.trans F2.base)).mutE e1 hi rfl (Ex.refl _) ⟨dx, _, rfl, ?_⟩ rfl upd_same⟩⟩
    rw [cut_upd aW]
    exact r.put (r1.wide a2 F2.base)
/-- d[k] = e, both kinds of keys -/
theorem sx_dputT {ty : TE} (h : Es K tv ds fun g ds1 => ∃ d, g = .pu d ∧ Es K te ds1 fun g2 ds2 => ∃ l es k, g2 = .lo l ∧ ds2.st[l]? = some (.dt es) ∧ Ev K ty ds2 (kD k) ∧ es.length < 100000 ∧ P.nx (ds2.put l (.dt (putD es k d)))) : Sx K (sDPut te ty tv) ds P := fun B W0 M N H0 W σ H hM ⟨adr, F⟩ D m =>
  h B W0 M N H0 W σ H adr F _ fun w H1 W1 adr1 g ds1 ⟨d, eg, ha⟩ a1 F1 r1 => ha (cut H1 W1) W0 M N H0 W1 σ H1 adr1 (F1.rebase (Ex.refl _)) _ fun x H2 W2 adr2 g2 ds2 ⟨l, es, k, eg2, hi, hk, hl, p⟩ a2 F2 r2 => by
    subst eg eg2
    obtain ⟨a, e1, rfl⟩ := r2
    refine hk W2 N σ H2 ⟨adr2, F2.st⟩ _ fun y H3 e3 ry => ?_
    have F3 := (F2.rebase (F1.base.trans F2.base)).ex e3
    obtain ⟨aW, _, u, hu, kvs, e4, r⟩ := F3.st.ob l a _ e1 hi rfl
    subst e4
    cases ry with
    | @tup b vs _ hb rb =>
      have eb := rb.key
      subst eb
      refine ⟨a, _, rfl, DPut.t hu (cut_ex _ _ hb) (by rw [r.length]; exact sz_lt hl), m.nx W2 σ _ _ p ⟨adr2, F3.mutE e1 hi rfl (Ex.refl _) ⟨_, rfl, ?_⟩ rfl upd_same⟩⟩
      rw [cut_upd aW]
      exact r.put ((Rp.mono F2.base r1).mono (cut_mono e3))
theorem sx_dputK {ty : TE} (h : Es K tv ds fun g ds1 => ∃ d, g = .pu d ∧ Es K te ds1 fun g2 ds2 => ∃ l es k, g2 = .lo l ∧ ds2.st[l]? = some (.dk es) ∧ Ev K ty ds2 (keyD k) ∧ es.length < 100000 ∧ P.nx (ds2.put l (.dk (putD es k d)))) : Sx K (sDPut te ty tv) ds P := fun B W0 M N H0 W σ H hM ⟨adr, F⟩ D m =>
  h B W0 M N H0 W σ H adr F _ fun w H1 W1 adr1 g ds1 ⟨d, eg, ha⟩ a1 F1 r1 => ha (cut H1 W1) W0 M N H0 W1 σ H1 adr1 (F1.rebase (Ex.refl _)) _ fun x H2 W2 adr2 g2 ds2 ⟨l, es, k, eg2, hi, hk, hl, p⟩ a2 F2 r2 => by
    subst eg eg2
    obtain ⟨a, e1, rfl⟩ := r2
    refine hk W2 N σ H2 ⟨adr2, F2.st⟩ _ fun y H3 e3 ry => ?_
    have F3 := (F2.rebase (F1.base.trans F2.base)).ex e3
    obtain ⟨aW, _, u, hu, kvs, e4, r⟩ := F3.st.ob l a _ e1 hi rfl
    subst e4
    have eb := ry.key
    subst eb
    refine ⟨a, _, rfl, DPut.k hu (by rw [r.length]; exact sz_lt hl), m.nx W2 σ _ _ p ⟨adr2, F3.mutE e1 hi rfl (Ex.refl _) ⟨_, rfl, ?_⟩ rfl upd_same⟩⟩
    rw [cut_upd aW]
    exact r.put ((Rp.mono F2.base r1).mono (cut_mono e3))
theorem ixN_nat {n j : Nat} (hj : j < n) : ixN n (j : Int) = some j := by
  unfold ixN
  rw [if_pos (by omega), if_pos (by omega)]
  simp
/-- xs[j] = e -/
theorem sx_setI {j : Nat} (h : Es K tv ds fun g ds1 => ∃ d, g = .pu d ∧ Es K te ds1 fun g2 ds2 => ∃ l xs, g2 = .lo l ∧ ds2.st[l]? = some (.lst xs) ∧ Ev K tb ds2 (.int (j : Int)) ∧ j < xs.length ∧ P.nx (ds2.put l (.lst (xs.set j d)))) : Sx K (tAsg tv (gSub te tb rSetL)) ds P := fun B W0 M N H0 W σ H hM ⟨adr, F⟩ D m =>
  h B W0 M N H0 W σ H adr F _ fun w H1 W1 adr1 g ds1 ⟨d, eg, ha⟩ a1 F1 r1 => ha (cut H1 W1) W0 M N H0 W1 σ H1 adr1 (F1.rebase (Ex.refl _)) _ fun x H2 W2 adr2 g2 ds2 ⟨l, xs, eg2, hi, hk, hl, p⟩ a2 F2 r2 => by
    subst eg eg2
    obtain ⟨a, e1, rfl⟩ := r2
    refine hk W2 N σ H2 ⟨adr2, F2.st⟩ _ fun y H3 e3 ry => ?_
    have F3 := (F2.rebase (F1.base.trans F2.base)).ex e3
    obtain ⟨aW, _, u, hu, vs, e4, r⟩ := F3.st.ob l a _ e1 hi rfl
    subst e4
    cases ry
    refine ⟨a, vs, j, j, rfl, rfl, hu, ixN_nat (by rw [r.length]; exact hl), m.nx W2 σ _ _ p ⟨adr2, F3.mutE e1 hi rfl (Ex.refl _) ⟨_, rfl, ?_⟩ rfl upd_same⟩⟩
    rw [cut_upd aW]
    exact r.set ((Rp.mono F2.base r1).mono (cut_mono e3)) j
/-- xs.pop(e) -/
theorem es_pop {P : Fv → D4 → Prop} (h : Es K te ds fun g ds1 => ∃ l ys, g = .lo l ∧ ds1.st[l]? = some (.lst ys) ∧ Es K ta ds1 fun g2 ds2 => ∃ (xs : List PyData) (k : Nat) (x : PyData), g2 = .pu (.int (k : Int)) ∧ ds2.st[l]? = some (.lst xs) ∧ xs[k]? = some x ∧ xs.length ≤ 100000 ∧ P (.pu x) (ds2.put l (.lst (xs.eraseIdx k)))) :
    Es K (tBM K "list" rPopAt te (tCons ta tNil)) ds P := fun B W0 M N H0 W σ H adr F Q q =>
  h B W0 M N H0 W σ H adr F _ fun w H1 W1 adr1 g ds1 ⟨l, ys, eg, hy, ha⟩ a1 F1 r1 => by
    subst eg
    obtain ⟨a, e1, rfl⟩ := r1
    obtain ⟨_, _, u, hu, vs, e3, _⟩ := F1.st.ob l a _ e1 hy rfl
    subst e3
    refine ⟨.inl ⟨rfl, vs, .inl (.inl hu)⟩, ha B W0 M N H0 W1 σ H1 adr1 F1 _ fun y H2 W2 adr2 g2 ds2 ⟨xs, k, x, eg2, hx, hk, hl, p⟩ a2 F2 r2 => ?_⟩
    subst eg2
    have r2' : Rp K (cut H2 W2) y (.int (k : Int)) := r2
    cases r2'
    have e2 := pre_get a2 e1
    obtain ⟨aW, _, u2, hu2, vs2, e4, rv⟩ := F2.st.ob l a _ e2 hx rfl
    subst e4
    obtain ⟨w, hw, rw'⟩ := rv.get' hk
    have kl : k < vs2.length := (List.getElem?_eq_some_iff.mp hw).1
    have sl : vs2.length ≤ 100000 := by rw [rv.length]; exact hl
    refine ⟨a, vs2, k, k, w, rfl, rfl, hu2, by omega, by omega, ?_, hw, ?_⟩
    · unfold seqIndex?
      have h0 : ¬ ((k : Int) < 0) := by omega
      simp only [if_neg h0]
      rw [if_pos (by simp only [Bool.and_eq_true, decide_eq_true_eq]; omega)]
      simp
    · refine q w _ W2 adr2 (.pu x) _ p (a1.trans a2) (F2.mutE e2 hx rfl (Ex.refl _) ⟨_, rfl, ?_⟩ rfl upd_same) ?_
      · rw [cut_upd aW]; exact rv.erase k
      · show Rp K (cut (upd H2 a _) W2) w x
        rw [cut_upd aW]; exact rw'
end
end L4
end

section
set_option Elab.async false
set_option linter.all false
set_option maxRecDepth 100000
set_option autoImplicit false
/-! Instances are made; properties; methods. -/
namespace L4
open PySem L2
section
variable {K : PySem.W.Frag} {B : Hp} {W0 M N W : List Addr} {H0 H H' I : Hp} {σ : L2.St} {adr : List Addr} {ds ds1 : D4} {P : Post} {te ta tb tv : TE} {tr : TA} {d : PyData} {v : V} {f : Str} {C : Addr}
theorem ex_two {x dx : Addr} {o u : HO} (hx : H x = none) (hd : H dx = none) : Ex H (upd (upd H dx o) x u) := fun b w h => by
  rw [upd_ne (ne_of_none h hx), upd_ne (ne_of_none h hd)]; exact h
/-- C(..), whose __init__ leaves pure fields: pure data -/
theorem es_make {Pre : List Sl → List Ob → Prop} {Po : List Sl → List Ob → Rs → List Ob → Prop} {E : XK} {P : Fv → D4 → Prop}
    (h : Eas K tr ds fun fs ds1 => ∃ xs : List PyData, fs = xs.map Fv.pu ∧ Pre (.lo 0 :: xs.map Sl.pu) [.ins C []] ∧ ∀ r st', Po (.lo 0 :: xs.map Sl.pu) [.ins C []] r st' → r = .pu .none ∧ ∃ gs : List (Str × PyData), st' = [.ins C (gs.map fun p => (p.1, Fv.pu p.2))] ∧ P (.pu (inD C gs)) ds1) :
    Es K (tMake C (spG K Pre Po) [] E tr) ds P := fun B W0 M N H0 W σ H adr F Q q =>
  h B W0 M N H0 W σ H adr F _ fun vs H1 W1 adr1 fs ds1 ⟨xs, ef, pre, hp⟩ a1 F1 r1 => fun x dx hx hd ne => by
    subst ef
    have rp := r1.pure
    have e12 : Ex H1 (upd (upd H1 dx (.own x)) x (.ins C dx [])) := ex_two hx hd
    have xW : x ∉ W1 := F1.st.al.fresh hx
    show spG K Pre Po (.ref x :: (vs ++ [])) _ _ E
    rw [List.append_nil]
    refine ⟨x :: W1, [x], _, _, fun b hb => ?_, by simp, fun b hb => by rw [List.mem_singleton.mp hb]; exact List.mem_cons_self, ⟨by rw [List.length_cons, List.length_cons, List.length_map, rp.length], fun i w s h1 h2 => ?_⟩, ⟨rfl, fun l b o h1 h2 => ?_⟩, pre, fun w H3 r st' as po keep so rr => ?_⟩
    · rcases List.mem_cons.mp hb with z | z
      · rw [z, upd_same]; exact ⟨(fun q => nomatch q), fun _ q => nomatch q⟩
      · exact F1.st.al.mono e12 b z
    · cases i with
      | zero => cases h1; cases h2; exact ⟨x, rfl, rfl⟩
      | succ i =>
        have h1' : vs[i]? = some w := h1
        have h2' : (xs.map Sl.pu)[i]? = some s := h2
        rw [List.getElem?_map] at h2'
        obtain ⟨d, hd', e⟩ := Option.map_eq_some_iff.mp h2'
        subst e
        obtain ⟨d', hd2, r⟩ := rp.get h1'
        rw [hd'] at hd2
        cases hd2
        exact ⟨w, rfl, r.mono (cut_cons hx e12)⟩
    · cases l with
      | zero => cases h1; cases h2; exact ⟨rfl, _, upd_same, dx, [], rfl, .nil⟩
      | succ l => simp at h1
    · obtain ⟨er, gs, es, p⟩ := hp r st' po
      subst er es
      obtain ⟨rfl, rv⟩ := rr
      cases rv
      obtain ⟨_, u, hu, dx', fvs, eu, ok⟩ := so.ob 0 x _ rfl rfl
      subst eu
      have e13 : Ex H1 H3 := fun b o hb => keep b o (fun z => by rw [List.mem_singleton.mp z, hx] at hb; cases hb) (e12 b o hb)
      refine ⟨rfl, q (.ref x) H3 W1 adr1 (.pu _) ds1 p a1 (F1.ex e13) ?_⟩
      exact .ins (by rw [cut_out xW]; exact hu) ((fs_pure ok).mono (cut_sub fun b hb => List.mem_cons_of_mem _ hb)) rfl
/-- x.m(..): a method of an own instance; the instance is the first argument -/
theorem es_meth {m : Str} {Pre : List Sl → List Ob → Prop} {Po : List Sl → List Ob → Rs → List Ob → Prop} {E : XK} {P : Fv → D4 → Prop} {i l : Nat} {fs0 : List (Str × Fv)} (h0 : ds.sl[i]? = some (.lo l)) (h1 : ds.st[l]? = some (.ins C fs0)) (hm : fs0.lookup m = none)
    (h : Es K (tCall (spG K Pre Po) [] E (tCons (tVar i) tr)) ds P) : Es K (tMeth C m (spG K Pre Po) [] E (tVar i) tr) ds P := fun B W0 M N H0 W σ H adr F Q q => by
  obtain ⟨a, e1, e2⟩ := F.st.sl i _ h0
  obtain ⟨_, _, u, hu, dx, fvs, e3, r⟩ := F.st.ob l a _ e1 h1 rfl
  subst e3
  have hl : fvs.lookup m = none := by
    have gen : ∀ {vs : List (Str × V)} {fs : List (Str × Fv)}, FsOk K (cut H W) adr vs fs → fs.lookup m = none → vs.lookup m = none := by
      intro vs fs r
      induction r with
      | nil => exact fun _ => rfl
      | @cons g w vs d ds _ _ ih =>
        intro h
        rw [List.lookup_cons] at h ⊢
        cases e : (m == g) with
        | true => rw [e] at h; cases h
        | false => rw [e] at h; exact ih h
    exact gen r hm
  have q2 := h B W0 M N H0 W σ H adr F Q q
  refine ⟨.ref a, getD_of e2, a, dx, fvs, rfl, hu, hl, ?_⟩
  obtain ⟨w, hw, q3⟩ := q2
  have ew : w = .ref a := by rw [getD_of e2] at hw; exact (Option.some.inj (Option.some.inj hw)).symm
  subst ew
  exact q3
/-- a property of a pure instance -/
theorem ev_prop {R : List PyData → PyData → Prop} {E : XK} {fs : List (Str × PyData)} (h : Ev K te ds (inD C fs)) (hr : R [inD C fs] d) : Ev K (tProp C (spD K R) [] E te) ds d := fun W N σ H S Q q =>
  h W N σ H S _ fun w H1 e1 r => by
    obtain ⟨a, dx, fvs, ew, h1, h2⟩ := r.inst
    subst ew
    refine ⟨a, dx, fvs, rfl, cut_ex _ _ h1, ?_⟩
    exact ⟨W, [inD C fs], d, S.al.mono e1, .one r, hr, fun v H' e2 r2 => q v H' (e1.trans e2) r2⟩
end
end L4
end

section
set_option Elab.async false
set_option linter.all false
set_option maxRecDepth 100000
set_option maxHeartbeats 1000000
set_option autoImplicit false
/-! zip of two, of three lists or tuples of any mixture; enumerate of either. -/
namespace L4
open PySem L2

inductive Kd where
  | l | t
def Kd.sq (K : PySem.W.Frag) (H : Hp) : Kd → Addr → List V → Prop
  | .l => SqL K H
  | .t => SqT K H
def Kd.it (h : Heap) : Kd → Addr → Addr → Nat → Prop
  | .l => fun i a n => h.IsListIter i a n
  | .t => fun i a n => h.IsTupleIter i a n
def Kd.is (h : Heap) : Kd → Addr → Array Value → Prop
  | .l => fun a x => h.IsList a x
  | .t => fun a x => h.IsTuple a x
def Kd.obj (a : Addr) : Kd → Obj
  | .l => { cls := .type "list_iterator", data := .fields #[.ref a, .int 0 0] }
  | .t => { cls := .type "tuple_iterator", data := .fields #[.ref a, .int 0 0] }
section
variable {prog : Program} {w : World} {A : Around}
theorem Kd.draws (k : Kd) (hh : A.handled = none) (it l : Addr) (hne : l ≠ it) (items : Array Value) : Draws prog w A it [it, l] items.size (fun i v => items[i]? = some v) (fun i h => k.it h it l i ∧ k.is h l items) := by
  cases k with
  | l => exact Draws.list hh it l hne items
  | t => exact Draws.tuple hh it l hne items
theorem Kd.begins (k : Kd) (l : Addr) (items : Array Value) : Begins (.ref l) (k.obj l) fun h => k.is h l items := by
  cases k with
  | l => exact begins_list l items
  | t => exact begins_tuple l items
theorem Kd.it_of {k : Kd} {h : Heap} {i a : Addr} (e : h.get? i = some (k.obj a)) : k.it h i a 0 := by
  cases k with
  | l => exact ⟨_, e, rfl, rfl⟩
  | t => exact ⟨_, e, rfl, rfl⟩
theorem Kd.it_at {k : Kd} {h h' : Heap} {i a : Addr} {n : Nat} (x : k.it h i a n) (e : ∀ o, h.get? i = some o → h'.get? i = some o) : k.it h' i a n := by
  cases k with
  | l => exact Heap.IsListIter.at x e
  | t => exact Heap.IsTupleIter.at x e
theorem Kd.it_obj {k : Kd} {h : Heap} {i a : Addr} {n : Nat} (x : k.it h i a n) : ∃ o, h.get? i = some o ∧ ∀ v, o.data ≠ .cell v := by
  cases k with
  | l => obtain ⟨o, e, _, d⟩ := x; exact ⟨o, e, fun v z => by rw [d] at z; cases z⟩
  | t => obtain ⟨o, e, _, d⟩ := x; exact ⟨o, e, fun v z => by rw [d] at z; cases z⟩
end
section
variable {X : Cx} {pins : List (Addr × Obj)} {σ : L2.St} {H : Hp} {s : Shared}
theorem Kd.of_inv (k : Kd) (I : Inv X pins σ H s) {a : Addr} {xs : List V} (h : k.sq X.K H a xs) : ∃ its : List Value, Vals xs its ∧ k.is s.heap a its.toArray ∧ a < s.heap.objs.size := by
  cases k with
  | l => obtain ⟨its, r, p, _⟩ := I.list h; exact ⟨its, r, p.isList, p.lt⟩
  | t => obtain ⟨its, r, p, _⟩ := I.tuple h; obtain ⟨o, ho, _⟩ := id p; exact ⟨its, r, p, Heap.lt_size ho⟩
theorem Kd.inj (k : Kd) (I : Inv X pins σ H s) {a : Addr} {xs ys : List V} (h : k.sq X.K H a xs) (h' : k.sq X.K H a ys) : xs = ys := by
  cases k with
  | l => exact I.list_inj h h'
  | t => exact I.tuple_inj h h'
end

/-! ### zip of 2 -/
def ItZ2 (K : PySem.W.Frag) (k1 : Kd) (a1 : Addr) (k2 : Kd) (a2 : Addr) : It :=
  ⟨fun i H => ∃ (xs1 xs2 : List V) (x1 x2 : V), k1.sq K H a1 xs1 ∧ k2.sq K H a2 xs2 ∧ xs1[i]? = some x1 ∧ xs2[i]? = some x2,
    fun i H v H' => ∃ T x1 x2, v = .ref T ∧ H T = none ∧ H' = upd H T (.tup [x1, x2]) ∧ (∀ xs, k1.sq K H a1 xs → xs[i]? = some x1) ∧ (∀ xs, k2.sq K H a2 xs → xs[i]? = some x2),
    fun i H => ∃ xs1 xs2 : List V, k1.sq K H a1 xs1 ∧ k2.sq K H a2 xs2 ∧ i ≤ xs1.length ∧ i ≤ xs2.length ∧ (i = xs1.length ∨ i = xs2.length)⟩
theorem turn_z2 {P : Program} {w : World} {K : PySem.W.Frag} {elts : List Expr} {kk : Nat} {tpos : Pos} {k1 k2 : Kd} {a1 a2 z TI TO i1 i2 : Addr} (D : ZipSep2 z TI TO i1 i2 [i1, a1] [i2, a2]) (n1 : a1 ≠ i1) (n2 : a2 ≠ i2) :
    Turn P w K (.Tuple elts kk tpos) (ItZ2 K k1 a1 k2 a2) [z, TI, TO, i1, i2] z (fun i h => IsZip h z TI TO .none ∧ IsTupOf2 h TI (.ref i1) (.ref i2) ∧ (∃ y1 y2, IsTupOf2 h TO y1 y2) ∧ k1.it h i1 a1 i ∧ k2.it h i2 a2 i) where
  mem := by simp
  obj := fun i h st c hc => by
    obtain ⟨hz, hTI, ⟨y1, y2, hTO⟩, h1, h2⟩ := st
    have e' : c = z ∨ c = TI ∨ c = TO ∨ c = i1 ∨ c = i2 := by simpa using hc
    rcases e' with q | q | q | q | q
    · rw [q]; exact ⟨_, hz, fun v q => nomatch q⟩
    · rw [q]; exact ⟨_, hTI, fun v q => nomatch q⟩
    · rw [q]; exact ⟨_, hTO, fun v q => nomatch q⟩
    · rw [q]; exact Kd.it_obj h1
    · rw [q]; exact Kd.it_obj h2
  keep := fun i h h' st k => by
    obtain ⟨hz, hTI, ⟨y1, y2, hTO⟩, h1, h2⟩ := st
    exact ⟨k z (by simp) _ hz, k TI (by simp) _ hTI, ⟨y1, y2, k TO (by simp) _ hTO⟩, Kd.it_at h1 fun o q => k i1 (by simp) o q, Kd.it_at h2 fun o q => k i2 (by simp) o q⟩
  item := by
    intro X hP hw hK hc i pins s σ H E I hf st hg
    subst hP hw hK
    obtain ⟨hz, hTI, ⟨y1, y2, hTO⟩, h1, h2⟩ := st
    obtain ⟨xs1, xs2, x1, x2, hq1, hq2, hx1, hx2⟩ := hg
    obtain ⟨its1, rv1, p1, _⟩ := k1.of_inv I hq1
    obtain ⟨u1, hu1, ru1⟩ := rv1.get hx1
    have lt1 : i < its1.toArray.size := by simpa using (List.getElem?_eq_some_iff.mp hu1).1
    obtain ⟨its2, rv2, p2, _⟩ := k2.of_inv I hq2
    obtain ⟨u2, hu2, ru2⟩ := rv2.get hx2
    have lt2 : i < its2.toArray.size := by simpa using (List.getElem?_eq_some_iff.mp hu2).1
    have hh : X.A.in1.handled = none := I.ok.hd hc
    refine wpAny_pyNext_zipD2_item D (k1.draws hh i1 a1 n1 its1.toArray) (k2.draws hh i2 a2 n2 its2.toArray) hz hTI hTO ⟨h1, p1⟩ ⟨h2, p2⟩ lt1 lt2 fun v1 v2 h' tk e1 e2 z' TO' d1 d2 hT hsz hk => ?_
    have ev1 : v1 = u1 := by
      have q : its1[i]? = some v1 := by simpa using e1
      exact Option.some.inj (q.symm.trans hu1)
    subst ev1
    have ev2 : v2 = u2 := by
      have q : its2[i]? = some v2 := by simpa using e2
      exact Option.some.inj (q.symm.trans hu2)
    subst ev2
    have hzl : z < s.heap.objs.size := Heap.lt_size hz
    refine ⟨_, rfl, wpAny_letOwnedTupleGo_zip (s := { s with heap := h', toks := tk }) z' fun h'' z'' sb => ?_⟩
    have hT2 : h''.get? s.heap.objs.size = some { cls := .type "tuple", data := .seq #[v1, v2] } := (sb.2 _ (Nat.ne_of_gt hzl)).trans hT
    have new : ObjOk X.prog X.w (upd H s.heap.objs.size (.tup [x1, x2])) h'' s.heap.objs.size (.tup [x1, x2]) :=
      ⟨by show 2 ≤ sizeLine; decide, [v1, v2], .cons ru1 (.cons ru2 .nil), ⟨_, hT2, rfl, _, rfl⟩⟩
    have I1 : Inv X pins σ (upd H s.heap.objs.size (.tup [x1, x2])) { s with heap := h'', toks := tk } :=
      I.turnedNew (t' := tk) (ch := [z, TI, TO, i1, i2]) (fun c o hb q => (sb.2 c (fun q' => hb (by simp [q']))).trans (hk c o (fun q' => hb (by simp [q'])) (fun q' => hb (by simp [q'])) (fun q' => hb (by simp [q'])) (fun q' => hb (by simp [q'])) q)) hf (Nat.le_refl _) new
    refine ⟨.ref s.heap.objs.size, _, I1, rfl, ⟨_, x1, x2, rfl, I.hok.fresh (Nat.le_refl _), rfl, fun l hl => by rw [k1.inj I hl hq1]; exact hx1, fun l hl => by rw [k2.inj I hl hq2]; exact hx2⟩, ⟨z'', ?_, ⟨v1, v2, ?_⟩, ?_, ?_⟩, fun c hcm => ?_⟩
    · exact (sb.2 _ D.TIz).trans (hk _ _ D.TIz D.TITO D.TIi1 D.TIi2 hTI)
    · exact (sb.2 _ D.TOz).trans TO'
    · exact Kd.it_at d1.1 fun o q => (sb.2 _ (Ne.symm D.zi1)).trans q
    · exact Kd.it_at d2.1 fun o q => (sb.2 _ (Ne.symm D.zi2)).trans q
    · have hlt : c < s.heap.objs.size := by
        have e' : c = z ∨ c = TI ∨ c = TO ∨ c = i1 ∨ c = i2 := by simpa using hcm
        rcases e' with q | q | q | q | q
        · rw [q]; exact hzl
        · rw [q]; exact Heap.lt_size hTI
        · rw [q]; exact Heap.lt_size hTO
        · rw [q]; obtain ⟨_, e, _⟩ := Kd.it_obj h1; exact Heap.lt_size e
        · rw [q]; obtain ⟨_, e, _⟩ := Kd.it_obj h2; exact Heap.lt_size e
      rw [upd_ne (Nat.ne_of_lt hlt)]
      exact (hf c hcm).1
  done := by
    intro X hP hw hK hc i pins s σ H E I hf st hg
    subst hP hw hK
    obtain ⟨hz, hTI, ⟨y1, y2, hTO⟩, h1, h2⟩ := st
    obtain ⟨xs1, xs2, hq1, hq2, le1, le2, hend⟩ := hg
    obtain ⟨its1, rv1, p1, _⟩ := k1.of_inv I hq1
    have q1 : its1.toArray.size = xs1.length := by simpa using rv1.length.symm
    obtain ⟨its2, rv2, p2, _⟩ := k2.of_inv I hq2
    have q2 : its2.toArray.size = xs2.length := by simpa using rv2.length.symm
    have hh : X.A.in1.handled = none := I.ok.hd hc
    exact wpAny_pyNext_zipD2_end D (k1.draws hh i1 a1 n1 its1.toArray) (k2.draws hh i2 a2 n2 its2.toArray) hz hTI hTO ⟨h1, p1⟩ ⟨h2, p2⟩ (by omega) (by omega) (by omega) fun h' tk hk => ⟨rfl, I.turnedL (t' := tk) (ch := [z, TI, TO, i1, i2]) (fun c o hb q => hk c o (fun q' => hb (by simp [q'])) (fun q' => hb (by simp [q'])) (fun q' => hb (by simp [q'])) (fun q' => hb (by simp [q'])) q) hf⟩
  self := fun A i s Q E st h => wpAny_pyIter_zip st.1 h
def iZip2 (K : PySem.W.Frag) (ta : TA) : TI := fun σ H R => ta σ H fun vs H1 => ∃ (k1 k2 : Kd) (a1 a2 : Addr) (xs1 xs2 : List V), vs = [.ref a1, .ref a2] ∧ k1.sq K H1 a1 xs1 ∧ k2.sq K H1 a2 xs2 ∧ R (ItZ2 K k1 a1 k2 a2) H1
theorem pi_z2 {X : Cx} {e1 e2 : Expr} {ta : TA} {p pos tpos : Pos} {elts : List Expr} {kk : Nat} (hg : Gl X "zip") (hm : X.mg "zip" = none) (ha : PA X [e1, e2] ta)
    (hs : starEach [e1, e2] X.env = (false, eval e1 X.env) :: starEach [e2] X.env := by rfl) (hpl : (backTo pos (starEach [e2] X.env)).any (·.1) = false := by rfl) :
    PI X (.Tuple elts kk tpos) (.Call (.Name "zip" p) [e1, e2] [] pos) (iZip2 X.K ta) := by
  refine ⟨fun pins s σ H R I h => ?_⟩
  refine PyProof.Rows.Call_ (ld_blt I hg hm PyProof.Rows.boot_zip (PyProof.Rows.callWith_type1 (thn (ha.run pos pins s σ H _ I h) fun us s1 ⟨vs, H1, I1, r1, q1⟩ => ?_) hs hpl))
  obtain ⟨k1, k2, a1, a2, xs1, xs2, ex, hq1, hq2, q⟩ := q1
  subst ex
  cases r1 with
  | cons rq r1 =>
    cases r1 with
    | cons rqq r1 =>
      cases r1
      cases rq
      cases rqq
      obtain ⟨its1, rv1, p1, l1⟩ := k1.of_inv I1 hq1
      obtain ⟨its2, rv2, p2, l2⟩ := k2.of_inv I1 hq2
      have fresh : ∀ c, c ∈ [s1.heap.objs.size + 4, s1.heap.objs.size + 2, s1.heap.objs.size + 3, s1.heap.objs.size, s1.heap.objs.size + 1] → FpOk X pins H1 c := fun c hcm => by
        have e' : c = s1.heap.objs.size + 4 ∨ c = s1.heap.objs.size + 2 ∨ c = s1.heap.objs.size + 3 ∨ c = s1.heap.objs.size ∨ c = s1.heap.objs.size + 1 := by simpa using hcm
        have hle : s1.heap.objs.size ≤ c := by
          rcases e' with z | z | z | z | z
          · rw [z]; exact Nat.le_add_right _ _
          · rw [z]; exact Nat.le_add_right _ _
          · rw [z]; exact Nat.le_add_right _ _
          · rw [z]; exact Nat.le_refl _
          · rw [z]; exact Nat.le_add_right _ _
        exact I1.fpOk hle (I1.hok.fresh hle)
      refine zip_begins2 (k1.begins a1 its1.toArray) (k2.begins a2 its2.toArray) p1 p2 fun h' hz hTI hTO g1 g2 hsz hk => wpAny_pyIter_zip hz ?_
      have I2 : Inv X pins σ H1 { s1 with heap := h' } := I1.kept (t' := s1.toks) hk
      exact ⟨s1.heap.objs.size + 4, [s1.heap.objs.size + 4, s1.heap.objs.size + 2, s1.heap.objs.size + 3, s1.heap.objs.size, s1.heap.objs.size + 1], _, _, H1, rfl, I2, turn_z2 (zip_sep2 (fun b hb => by rw [List.mem_singleton.mp hb]; exact l1) (fun b hb => by rw [List.mem_singleton.mp hb]; exact l2)) (Nat.ne_of_lt l1) (Nat.ne_of_lt (Nat.lt_of_lt_of_le l2 (Nat.le_add_right _ _))), ⟨hz, hTI, ⟨_, _, hTO⟩, Kd.it_of g1, Kd.it_of g2⟩, fresh, q⟩
/-! ### zip of 3 -/
def ItZ3 (K : PySem.W.Frag) (k1 : Kd) (a1 : Addr) (k2 : Kd) (a2 : Addr) (k3 : Kd) (a3 : Addr) : It :=
  ⟨fun i H => ∃ (xs1 xs2 xs3 : List V) (x1 x2 x3 : V), k1.sq K H a1 xs1 ∧ k2.sq K H a2 xs2 ∧ k3.sq K H a3 xs3 ∧ xs1[i]? = some x1 ∧ xs2[i]? = some x2 ∧ xs3[i]? = some x3,
    fun i H v H' => ∃ T x1 x2 x3, v = .ref T ∧ H T = none ∧ H' = upd H T (.tup [x1, x2, x3]) ∧ (∀ xs, k1.sq K H a1 xs → xs[i]? = some x1) ∧ (∀ xs, k2.sq K H a2 xs → xs[i]? = some x2) ∧ (∀ xs, k3.sq K H a3 xs → xs[i]? = some x3),
    fun i H => ∃ xs1 xs2 xs3 : List V, k1.sq K H a1 xs1 ∧ k2.sq K H a2 xs2 ∧ k3.sq K H a3 xs3 ∧ i ≤ xs1.length ∧ i ≤ xs2.length ∧ i ≤ xs3.length ∧ (i = xs1.length ∨ i = xs2.length ∨ i = xs3.length)⟩
theorem turn_z3 {P : Program} {w : World} {K : PySem.W.Frag} {elts : List Expr} {kk : Nat} {tpos : Pos} {k1 k2 k3 : Kd} {a1 a2 a3 z TI TO i1 i2 i3 : Addr} (D : ZipSep3 z TI TO i1 i2 i3 [i1, a1] [i2, a2] [i3, a3]) (n1 : a1 ≠ i1) (n2 : a2 ≠ i2) (n3 : a3 ≠ i3) :
    Turn P w K (.Tuple elts kk tpos) (ItZ3 K k1 a1 k2 a2 k3 a3) [z, TI, TO, i1, i2, i3] z (fun i h => IsZip h z TI TO .none ∧ IsTupOf3 h TI (.ref i1) (.ref i2) (.ref i3) ∧ (∃ y1 y2 y3, IsTupOf3 h TO y1 y2 y3) ∧ k1.it h i1 a1 i ∧ k2.it h i2 a2 i ∧ k3.it h i3 a3 i) where
  mem := by simp
  obj := fun i h st c hc => by
    obtain ⟨hz, hTI, ⟨y1, y2, y3, hTO⟩, h1, h2, h3⟩ := st
    have e' : c = z ∨ c = TI ∨ c = TO ∨ c = i1 ∨ c = i2 ∨ c = i3 := by simpa using hc
    rcases e' with q | q | q | q | q | q
    · rw [q]; exact ⟨_, hz, fun v q => nomatch q⟩
    · rw [q]; exact ⟨_, hTI, fun v q => nomatch q⟩
    · rw [q]; exact ⟨_, hTO, fun v q => nomatch q⟩
    · rw [q]; exact Kd.it_obj h1
    · rw [q]; exact Kd.it_obj h2
    · rw [q]; exact Kd.it_obj h3
  keep := fun i h h' st k => by
    obtain ⟨hz, hTI, ⟨y1, y2, y3, hTO⟩, h1, h2, h3⟩ := st
    exact ⟨k z (by simp) _ hz, k TI (by simp) _ hTI, ⟨y1, y2, y3, k TO (by simp) _ hTO⟩, Kd.it_at h1 fun o q => k i1 (by simp) o q, Kd.it_at h2 fun o q => k i2 (by simp) o q, Kd.it_at h3 fun o q => k i3 (by simp) o q⟩
  item := by
    intro X hP hw hK hc i pins s σ H E I hf st hg
    subst hP hw hK
    obtain ⟨hz, hTI, ⟨y1, y2, y3, hTO⟩, h1, h2, h3⟩ := st
    obtain ⟨xs1, xs2, xs3, x1, x2, x3, hq1, hq2, hq3, hx1, hx2, hx3⟩ := hg
    obtain ⟨its1, rv1, p1, _⟩ := k1.of_inv I hq1
    obtain ⟨u1, hu1, ru1⟩ := rv1.get hx1
    have lt1 : i < its1.toArray.size := by simpa using (List.getElem?_eq_some_iff.mp hu1).1
    obtain ⟨its2, rv2, p2, _⟩ := k2.of_inv I hq2
    obtain ⟨u2, hu2, ru2⟩ := rv2.get hx2
    have lt2 : i < its2.toArray.size := by simpa using (List.getElem?_eq_some_iff.mp hu2).1
    obtain ⟨its3, rv3, p3, _⟩ := k3.of_inv I hq3
    obtain ⟨u3, hu3, ru3⟩ := rv3.get hx3
    have lt3 : i < its3.toArray.size := by simpa using (List.getElem?_eq_some_iff.mp hu3).1
    have hh : X.A.in1.handled = none := I.ok.hd hc
    refine wpAny_pyNext_zipD3_item D (k1.draws hh i1 a1 n1 its1.toArray) (k2.draws hh i2 a2 n2 its2.toArray) (k3.draws hh i3 a3 n3 its3.toArray) hz hTI hTO ⟨h1, p1⟩ ⟨h2, p2⟩ ⟨h3, p3⟩ lt1 lt2 lt3 fun v1 v2 v3 h' tk e1 e2 e3 z' TO' d1 d2 d3 hT hsz hk => ?_
    have ev1 : v1 = u1 := by
      have q : its1[i]? = some v1 := by simpa using e1
      exact Option.some.inj (q.symm.trans hu1)
    subst ev1
    have ev2 : v2 = u2 := by
      have q : its2[i]? = some v2 := by simpa using e2
      exact Option.some.inj (q.symm.trans hu2)
    subst ev2
    have ev3 : v3 = u3 := by
      have q : its3[i]? = some v3 := by simpa using e3
      exact Option.some.inj (q.symm.trans hu3)
    subst ev3
    have hzl : z < s.heap.objs.size := Heap.lt_size hz
    refine ⟨_, rfl, wpAny_letOwnedTupleGo_zip (s := { s with heap := h', toks := tk }) z' fun h'' z'' sb => ?_⟩
    have hT2 : h''.get? s.heap.objs.size = some { cls := .type "tuple", data := .seq #[v1, v2, v3] } := (sb.2 _ (Nat.ne_of_gt hzl)).trans hT
    have new : ObjOk X.prog X.w (upd H s.heap.objs.size (.tup [x1, x2, x3])) h'' s.heap.objs.size (.tup [x1, x2, x3]) :=
      ⟨by show 3 ≤ sizeLine; decide, [v1, v2, v3], .cons ru1 (.cons ru2 (.cons ru3 .nil)), ⟨_, hT2, rfl, _, rfl⟩⟩
    have I1 : Inv X pins σ (upd H s.heap.objs.size (.tup [x1, x2, x3])) { s with heap := h'', toks := tk } :=
      I.turnedNew (t' := tk) (ch := [z, TI, TO, i1, i2, i3]) (fun c o hb q => (sb.2 c (fun q' => hb (by simp [q']))).trans (hk c o (fun q' => hb (by simp [q'])) (fun q' => hb (by simp [q'])) (fun q' => hb (by simp [q'])) (fun q' => hb (by simp [q'])) (fun q' => hb (by simp [q'])) q)) hf (Nat.le_refl _) new
    refine ⟨.ref s.heap.objs.size, _, I1, rfl, ⟨_, x1, x2, x3, rfl, I.hok.fresh (Nat.le_refl _), rfl, fun l hl => by rw [k1.inj I hl hq1]; exact hx1, fun l hl => by rw [k2.inj I hl hq2]; exact hx2, fun l hl => by rw [k3.inj I hl hq3]; exact hx3⟩, ⟨z'', ?_, ⟨v1, v2, v3, ?_⟩, ?_, ?_, ?_⟩, fun c hcm => ?_⟩
    · exact (sb.2 _ D.TIz).trans (hk _ _ D.TIz D.TITO D.TIi1 D.TIi2 D.TIi3 hTI)
    · exact (sb.2 _ D.TOz).trans TO'
    · exact Kd.it_at d1.1 fun o q => (sb.2 _ (Ne.symm D.zi1)).trans q
    · exact Kd.it_at d2.1 fun o q => (sb.2 _ (Ne.symm D.zi2)).trans q
    · exact Kd.it_at d3.1 fun o q => (sb.2 _ (Ne.symm D.zi3)).trans q
    · have hlt : c < s.heap.objs.size := by
        have e' : c = z ∨ c = TI ∨ c = TO ∨ c = i1 ∨ c = i2 ∨ c = i3 := by simpa using hcm
        rcases e' with q | q | q | q | q | q
        · rw [q]; exact hzl
        · rw [q]; exact Heap.lt_size hTI
        · rw [q]; exact Heap.lt_size hTO
        · rw [q]; obtain ⟨_, e, _⟩ := Kd.it_obj h1; exact Heap.lt_size e
        · rw [q]; obtain ⟨_, e, _⟩ := Kd.it_obj h2; exact Heap.lt_size e
        · rw [q]; obtain ⟨_, e, _⟩ := Kd.it_obj h3; exact Heap.lt_size e
      rw [upd_ne (Nat.ne_of_lt hlt)]
      exact (hf c hcm).1
  done := by
    intro X hP hw hK hc i pins s σ H E I hf st hg
    subst hP hw hK
    obtain ⟨hz, hTI, ⟨y1, y2, y3, hTO⟩, h1, h2, h3⟩ := st
    obtain ⟨xs1, xs2, xs3, hq1, hq2, hq3, le1, le2, le3, hend⟩ := hg
    obtain ⟨its1, rv1, p1, _⟩ := k1.of_inv I hq1
    have q1 : its1.toArray.size = xs1.length := by simpa using rv1.length.symm
    obtain ⟨its2, rv2, p2, _⟩ := k2.of_inv I hq2
    have q2 : its2.toArray.size = xs2.length := by simpa using rv2.length.symm
    obtain ⟨its3, rv3, p3, _⟩ := k3.of_inv I hq3
    have q3 : its3.toArray.size = xs3.length := by simpa using rv3.length.symm
    have hh : X.A.in1.handled = none := I.ok.hd hc
    exact wpAny_pyNext_zipD3_end D (k1.draws hh i1 a1 n1 its1.toArray) (k2.draws hh i2 a2 n2 its2.toArray) (k3.draws hh i3 a3 n3 its3.toArray) hz hTI hTO ⟨h1, p1⟩ ⟨h2, p2⟩ ⟨h3, p3⟩ (by omega) (by omega) (by omega) (by omega) fun h' tk hk => ⟨rfl, I.turnedL (t' := tk) (ch := [z, TI, TO, i1, i2, i3]) (fun c o hb q => hk c o (fun q' => hb (by simp [q'])) (fun q' => hb (by simp [q'])) (fun q' => hb (by simp [q'])) (fun q' => hb (by simp [q'])) (fun q' => hb (by simp [q'])) q) hf⟩
  self := fun A i s Q E st h => wpAny_pyIter_zip st.1 h
def iZip3 (K : PySem.W.Frag) (ta : TA) : TI := fun σ H R => ta σ H fun vs H1 => ∃ (k1 k2 k3 : Kd) (a1 a2 a3 : Addr) (xs1 xs2 xs3 : List V), vs = [.ref a1, .ref a2, .ref a3] ∧ k1.sq K H1 a1 xs1 ∧ k2.sq K H1 a2 xs2 ∧ k3.sq K H1 a3 xs3 ∧ R (ItZ3 K k1 a1 k2 a2 k3 a3) H1
theorem pi_z3 {X : Cx} {e1 e2 e3 : Expr} {ta : TA} {p pos tpos : Pos} {elts : List Expr} {kk : Nat} (hg : Gl X "zip") (hm : X.mg "zip" = none) (ha : PA X [e1, e2, e3] ta)
    (hs : starEach [e1, e2, e3] X.env = (false, eval e1 X.env) :: starEach [e2, e3] X.env := by rfl) (hpl : (backTo pos (starEach [e2, e3] X.env)).any (·.1) = false := by rfl) :
    PI X (.Tuple elts kk tpos) (.Call (.Name "zip" p) [e1, e2, e3] [] pos) (iZip3 X.K ta) := by
  refine ⟨fun pins s σ H R I h => ?_⟩
  refine PyProof.Rows.Call_ (ld_blt I hg hm PyProof.Rows.boot_zip (PyProof.Rows.callWith_type1 (thn (ha.run pos pins s σ H _ I h) fun us s1 ⟨vs, H1, I1, r1, q1⟩ => ?_) hs hpl))
  obtain ⟨k1, k2, k3, a1, a2, a3, xs1, xs2, xs3, ex, hq1, hq2, hq3, q⟩ := q1
  subst ex
  cases r1 with
  | cons rq r1 =>
    cases r1 with
    | cons rqq r1 =>
      cases r1 with
      | cons rqqq r1 =>
        cases r1
        cases rq
        cases rqq
        cases rqqq
        obtain ⟨its1, rv1, p1, l1⟩ := k1.of_inv I1 hq1
        obtain ⟨its2, rv2, p2, l2⟩ := k2.of_inv I1 hq2
        obtain ⟨its3, rv3, p3, l3⟩ := k3.of_inv I1 hq3
        have fresh : ∀ c, c ∈ [s1.heap.objs.size + 5, s1.heap.objs.size + 3, s1.heap.objs.size + 4, s1.heap.objs.size, s1.heap.objs.size + 1, s1.heap.objs.size + 2] → FpOk X pins H1 c := fun c hcm => by
          have e' : c = s1.heap.objs.size + 5 ∨ c = s1.heap.objs.size + 3 ∨ c = s1.heap.objs.size + 4 ∨ c = s1.heap.objs.size ∨ c = s1.heap.objs.size + 1 ∨ c = s1.heap.objs.size + 2 := by simpa using hcm
          have hle : s1.heap.objs.size ≤ c := by
            rcases e' with z | z | z | z | z | z
            · rw [z]; exact Nat.le_add_right _ _
            · rw [z]; exact Nat.le_add_right _ _
            · rw [z]; exact Nat.le_add_right _ _
            · rw [z]; exact Nat.le_refl _
            · rw [z]; exact Nat.le_add_right _ _
            · rw [z]; exact Nat.le_add_right _ _
          exact I1.fpOk hle (I1.hok.fresh hle)
        refine zip_begins3 (k1.begins a1 its1.toArray) (k2.begins a2 its2.toArray) (k3.begins a3 its3.toArray) p1 p2 p3 fun h' hz hTI hTO g1 g2 g3 hsz hk => wpAny_pyIter_zip hz ?_
        have I2 : Inv X pins σ H1 { s1 with heap := h' } := I1.kept (t' := s1.toks) hk
        exact ⟨s1.heap.objs.size + 5, [s1.heap.objs.size + 5, s1.heap.objs.size + 3, s1.heap.objs.size + 4, s1.heap.objs.size, s1.heap.objs.size + 1, s1.heap.objs.size + 2], _, _, H1, rfl, I2, turn_z3 (zip_sep3 (fun b hb => by rw [List.mem_singleton.mp hb]; exact l1) (fun b hb => by rw [List.mem_singleton.mp hb]; exact l2) (fun b hb => by rw [List.mem_singleton.mp hb]; exact l3)) (Nat.ne_of_lt l1) (Nat.ne_of_lt (Nat.lt_of_lt_of_le l2 (Nat.le_add_right _ _))) (Nat.ne_of_lt (Nat.lt_of_lt_of_le l3 (Nat.le_add_right _ _))), ⟨hz, hTI, ⟨_, _, _, hTO⟩, Kd.it_of g1, Kd.it_of g2, Kd.it_of g3⟩, fresh, q⟩
end L4
end

section
set_option Elab.async false
set_option linter.all false
set_option maxRecDepth 100000
set_option maxHeartbeats 3200000
set_option autoImplicit false
/-! set(x) of a list or a tuple, told by any table; of whole numbers, of unlike texts; sorted of it, len of it. -/
namespace L4
open PySem PySem.Spec PyProof.Rows

abbrev freshSet (w : World) : Obj := { cls := .type "set", dict := none, data := .set #[] 0 (.fresh 0 0 (!w.params.followText "set-order")) }
section
variable {P : Program} {w : World} {A : Around} {E : Value → Shared → Prop} {s : Shared}
/-- a table that is filled one by one -/
structure Fill (P : Program) (w : World) (S : Addr) (items : Array Value) (Tab : Nat → Heap → Prop) : Prop where
  new : ∀ h, h.get? S = some (freshSet w) → Tab 0 h
  keep : ∀ i h h', Tab i h → (∀ o, h.get? S = some o → h'.get? S = some o) → Tab i h'
  add : ∀ (A : Around) (E : Value → Shared → Prop) (Q : Bool → Shared → Prop) (i : Nat) (v : Value) (s : Shared), items[i]? = some v → Tab i s.heap →
    (∀ b h' tk, s.toks ≤ tk → Heap.SameBut S s.heap h' → Tab (i + 1) h' → Q b { s with heap := h', toks := tk }) → wpAny (model P w) A (setAdd S v) Q E s
theorem fill_loop {I S : Addr} {fp wr : List Addr} {G : Array GenState → Array GenState → Prop} {items : Array Value} {Tab : Nat → Heap → Prop} {St : Nat → Shared → Prop} {R : Result → Shared → Prop}
    (W : WalksS P w A.in1 I fp wr G items.size (fun i v => items[i]? = some v) St) (T : Fill P w S items Tab) (hS : S ∉ fp) :
    ∀ (k i : Nat) (s : Shared), k + i = items.size → St i s → Tab i s.heap → (∀ s', Moved (S :: wr) G s s' → Tab items.size s'.heap → R (.ok (.ret .none)) s') →
      codeAny (model P w) A (.builtin "set.update.loop" ⟨[.ref S, .ref I], []⟩) R s := by
  have hw : S ∉ wr := fun h => hS (W.sub _ h)
  intro k
  induction k with
  | zero =>
    intro i s e hst tab hR
    obtain rfl : i = items.size := by omega
    refine codeAny_builtin F.entry_set_update_loop ?_
    rw [Around.under_plainId F.plain_set_update_loop _]
    show wpAny _ A.in1 (pyNext (.ref I) >>= _) _ _ s
    exact wpAny_bind (W.done s _ _ hst fun s' m => wpAny_pure (hR s' (m.mono fun b hb => List.mem_cons_of_mem _ hb) (T.keep _ _ _ tab fun o ho => m.heap S o hw ho)))
  | succ k ih =>
    intro i s e hst tab hR
    refine codeAny_builtin F.entry_set_update_loop ?_
    rw [Around.under_plainId F.plain_set_update_loop _]
    show wpAny _ A.in1 (pyNext (.ref I) >>= _) _ _ s
    refine wpAny_bind (W.item i s _ _ (by omega) hst fun v s1 hv st1 m1 => ?_)
    show wpAny _ A.in1 (holding [v] (setAdd S v) >>= _) _ _ s1
    refine wpAny_bind (wpAny_holding (T.add _ _ _ i v s1 hv (T.keep _ _ _ tab fun o ho => m1.heap S o hw ho) fun b h2 tk le sb tab2 => ?_))
    have old : ∀ c o, c ≠ S → s1.heap.get? c = some o → h2.get? c = some o := fun c o hc ho => (sb.2 c hc).trans ho
    refine wpAny_pure ⟨plainId_quiet F.plain_set_update_loop _, ih (i + 1) _ (by omega) (W.frame _ s1 h2 tk st1 le fun c hc o ho => old c o (fun z => hS (z ▸ hc)) ho) tab2 fun s3 m3 tab3 => hR s3 (Moved.trans W.gtrans ((m1.mono fun b hb => List.mem_cons_of_mem _ hb).then_heap le fun c o hc ho => old c o (fun z => hc (z ▸ List.mem_cons_self)) ho) m3) tab3⟩

/-- set(x) -/
theorem call_set_of (k : Kd) {l : Addr} {items : Array Value} {Tab : Nat → Heap → Prop} {Q : Value → Shared → Prop} (hh : A.handled = none) (hl : k.is s.heap l items) (T : Fill P w s.heap.objs.size items Tab)
    (h : ∀ (h' : Heap) (tk : Nat), Tab items.size h' → (∀ b o, s.heap.get? b = some o → h'.get? b = some o) → Q (.ref s.heap.objs.size) { s with heap := h', toks := tk }) :
    wpAny (model P w) A (call (.type "set") [.ref l]) Q E s := by
  obtain ⟨c, tl, hmro⟩ := F.called_set.mro
  have hmade := F.called_set.made
  have hsub := F.called_set.sub
  refine wpAny_call (codeAny_of_tree ?_)
  show wpAny _ _ (callAny (.type "set") _) _ _ _
  refine wpAny_pure ⟨Code.quiet_builtin _ (by decide +kernel), codeAny_builtin F.entry_type_call ?_⟩
  rw [Around.under_plain (weight_type_call_type "set" [.ref l] []) rfl]
  have h1 := F.called_set.notType
  have h2 := F.called_set.canCreate
  have hct := F.typeCall_set_1 (.ref l)
  repeat (any_goals (first | assumption | wp_step))
  refine codeAny_mono (L2.code_set_led1 (.ref l) (E := E) (Q₁ := fun o s₁ => o = .ref s.heap.objs.size ∧ s₁ = { s with heap := s.heap.push (freshSet w) }) ⟨rfl, rfl⟩) fun r s₁ hr => ?_
  cases r with
  | error e => exact hr
  | ok fl =>
    cases fl with
    | ret obj =>
      obtain ⟨rfl, rfl⟩ := hr
      have hS : (s.heap.push (freshSet w)).get? s.heap.objs.size = some (freshSet w) := Heap.get?_push_size _ rfl
      have hT : Shared.TypeIs { s with heap := s.heap.push (freshSet w) } (.ref s.heap.objs.size) "set" := ⟨_, hS, rfl⟩
      have hli := F.called_set.init.lookup
      have hbi := F.called_set.init.bind (.ref s.heap.objs.size)
      repeat (any_goals (first | assumption | wp_step))
      refine codeAny_mono (codeAny_call_builtin (R := wants (fun r s₂ => r = .none ∧ ∃ h' tk, s₂ = { s with heap := h', toks := tk } ∧ Tab items.size h' ∧ ∀ b o, s.heap.get? b = some o → h'.get? b = some o) E) F.called_set.init.plain F.entry_set_init (check_set_init_1 hT ?_)) fun r₂ s₂ hr₂ => ?_
      · have hlt : l < s.heap.objs.size := by
          cases k with
          | l => obtain ⟨_, e, _⟩ := hl; exact Heap.lt_size e
          | t => obtain ⟨_, e, _⟩ := hl; exact Heap.lt_size e
        have hz : (s.heap.push (freshSet w)).objs.size = s.heap.objs.size + 1 := Heap.size_push ..
        have hneI : l ≠ (s.heap.push (freshSet w)).objs.size := by rw [hz]; exact Nat.ne_of_lt (Nat.lt_succ_of_lt hlt)
        have hSf : s.heap.objs.size ∉ [(s.heap.push (freshSet w)).objs.size, l] := by
          rw [hz]
          simp only [List.mem_cons, List.not_mem_nil, or_false, not_or]
          exact ⟨Nat.ne_of_lt (Nat.lt_succ_self _), Nat.ne_of_gt hlt⟩
        have hh3 : A.in1.in1.in1.handled = none := by simp [hh]
        have fin : ∀ s', Moved (s.heap.objs.size :: [(s.heap.push (freshSet w)).objs.size]) (fun a b => b = a) { s with heap := (s.heap.push (freshSet w)).push (k.obj l) } s' → Tab items.size s'.heap →
            ∃ h' tk, s' = { s with heap := h', toks := tk } ∧ Tab items.size h' ∧ ∀ b o, s.heap.get? b = some o → h'.get? b = some o := fun s' m tab => by
          refine ⟨s'.heap, s'.toks, ?_, tab, fun b o e => ?_⟩
          · obtain ⟨hp, g, d, tk, os⟩ := s'
            have eg : g = s.gens := m.gens
            have ed : d = s.drawn := m.drawn
            have eo : os = s.os := m.os
            subst eg ed eo
            rfl
          · have hb : b < s.heap.objs.size := Heap.lt_size e
            refine m.heap b o ?_ (Heap.get?_push_of_some _ (Heap.get?_push_of_some _ e))
            rw [hz]
            simp only [List.mem_cons, List.not_mem_nil, or_false, not_or]
            exact ⟨Nat.ne_of_lt hb, Nat.ne_of_lt (Nat.lt_succ_of_lt hb)⟩
        have tab0 : Tab 0 ((s.heap.push (freshSet w)).push (k.obj l)) := T.new _ (Heap.get?_push_of_some _ hS)
        cases k with
        | l =>
          obtain ⟨⟨ocls, odict, odata, oslots⟩, hol, hcl, nl, hdl⟩ := hl
          simp only at hcl hdl
          subst hcl hdl
          have hol' : (s.heap.push (freshSet w)).get? l = some { cls := .type "list", dict := odict, data := .seq items nl, slots := oslots } := Heap.get?_push_of_some _ hol
          have f1 := F.sub_list_set
          have f2 := F.sub_list_frozenset
          have f3 : (Value.type "list" == Value.type "dict") = false := by decide
          have hl1 : (s.heap.push (freshSet w)).IsList l items := ⟨_, hol', rfl, nl, rfl⟩
          unfold Builtin.«set.__init__» noKeywords Builtin.Frozenset.updateFrom
          generalize hPI : pyIter = PI
          wp_walk
          subst hPI
          refine wpAny_pyIter_list hl1 (wpAny_bind (wpAny_runValue ?_))
          refine fill_loop ((Walks.list hh3 _ l hneI items).toS) T hSf items.size 0 _ rfl ⟨⟨_, Heap.get?_push_size _ rfl, rfl, rfl⟩, hl1.push _⟩ tab0 fun s' m tab => ?_
          show wpAny _ _ _ _ _ _
          refine wpAny_pure ?_
          show wpAny _ _ (ret Value.none) _ _ _
          exact wpAny_pure ⟨rfl, fin s' (m.mono fun b hb => by simpa using hb) tab⟩
        | t =>
          obtain ⟨⟨ocls, odict, odata, oslots⟩, hol, hcl, nl, hdl⟩ := hl
          simp only at hcl hdl
          subst hcl hdl
          have hol' : (s.heap.push (freshSet w)).get? l = some { cls := .type "tuple", dict := odict, data := .seq items nl, slots := oslots } := Heap.get?_push_of_some _ hol
          have f1 := F.sub_tuple_set
          have f2 := F.sub_tuple_frozenset
          have f3 : (Value.type "tuple" == Value.type "dict") = false := by decide
          have hl1 : (s.heap.push (freshSet w)).IsTuple l items := ⟨_, hol', rfl, nl, rfl⟩
          unfold Builtin.«set.__init__» noKeywords Builtin.Frozenset.updateFrom
          generalize hPI : pyIter = PI
          wp_walk
          subst hPI
          refine wpAny_pyIter_tuple hl1 (wpAny_bind (wpAny_runValue ?_))
          refine fill_loop ((Walks.tuple hh3 _ l hneI items).toS) T hSf items.size 0 _ rfl ⟨⟨_, Heap.get?_push_size _ rfl, rfl, rfl⟩, hl1.push _⟩ tab0 fun s' m tab => ?_
          show wpAny _ _ _ _ _ _
          refine wpAny_pure ?_
          show wpAny _ _ (ret Value.none) _ _ _
          exact wpAny_pure ⟨rfl, fin s' (m.mono fun b hb => by simpa using hb) tab⟩
      · cases r₂ with
        | error e => exact hr₂
        | ok fl₂ =>
          cases fl₂ with
          | ret r =>
            obtain ⟨rfl, h', tk, rfl, tab, hk⟩ := hr₂
            repeat (any_goals (first | assumption | wp_step))
            exact h _ _ tab hk
          | _ => exact hr₂.elim
    | _ => exact hr.elim

/-! the tables -/
theorem fill_ints {S : Addr} {items : Array Value} {ns : List Int} (hi : IntsAre items.toList ns) (hb : ns.length + 1 < scanBound) : Fill P w S items (fun i h => ∃ c, c ≤ i ∧ L2.SetR w h S (fun j => decide (j ∈ ns.take i)) c) where
  new := fun h e => ⟨0, Nat.le_refl 0, L2.setR_new_at e⟩
  keep := fun i h h' ⟨c, hc, r⟩ k => ⟨c, hc, r.at k⟩
  add := fun A E Q i v s hv ⟨c, hc, r⟩ q => by
    obtain ⟨t, e⟩ := IntsAre.int_at hi i v (by rw [Array.getElem?_toList]; exact hv)
    have hlen : items.size = ns.length := by
      have z := IntsAre.length hi
      rw [Array.length_toList] at z
      exact z
    have hil : i < ns.length := by rw [← hlen]; exact (Array.getElem?_eq_some_iff.mp hv).1
    have hz : ns[i]? = some (ns.getD i 0) := by rw [List.getD_eq_getElem?_getD, List.getElem?_eq_getElem hil]; rfl
    subst e
    unfold setAdd
    refine wpAny_holding (wpAny_bind ((intKind P w).pyHash (k := ns.getD i 0) (intKind_is _ _ _ _) ?_))
    refine L2.setR_add_hashed (s := { s with toks := s.toks + 1 }) r (by omega) fun h' sb r2 => q _ h' (s.toks + 1) (Nat.le_succ _) sb ⟨_, ?_, r2.congr fun j => ?_⟩
    · split <;> omega
    · rw [List.take_add_one, hz]
      simp [List.mem_append]
theorem fill_strs {S : Addr} {items : Array Value} {xs : List Str} (hi : StrsAre items.toList xs) (nd : xs.Nodup) (hb : xs.length + 1 < scanBound) : Fill P w S items (fun i h => h.SetOf (PySem.strKind P w) S (fun k => decide (k ∈ xs.take i)) i) where
  new := fun h e => SetOf_congr ((setObjOf_fresh (knd := PySem.strKind P w) (!w.params.followText "set-order")).setOf e (by unfold scanBound; omega)) (fun _ => by simp) rfl
  keep := fun i h h' r k => by
    obtain ⟨o, es, ep, t, ho, r⟩ := r
    exact ⟨o, es, ep, t, k o ho, r⟩
  add := fun A E Q i v s hv r q => by
    obtain ⟨t, e⟩ := SS.strs_at hi i v (by rw [Array.getElem?_toList]; exact hv)
    have hlen : items.size = xs.length := by rw [← StrsAre.len_eq hi, Array.length_toList]
    have hil : i < xs.length := by rw [← hlen]; exact (Array.getElem?_eq_some_iff.mp hv).1
    have hz : xs[i]? = some (xs.getD i Str.empty) := by rw [List.getD_eq_getElem?_getD, List.getElem?_eq_getElem hil]; rfl
    have hn : xs.getD i Str.empty ∉ xs.take i := fun m => by
      obtain ⟨j, hj, ej⟩ := List.getElem_of_mem m
      rw [List.length_take] at hj
      rw [List.getElem_take] at ej
      have e1 : xs[i] = xs.getD i Str.empty := by rw [List.getD_eq_getElem?_getD, List.getElem?_eq_getElem hil]; rfl
      have := (List.getElem_inj nd (h₀ := by omega) (h₁ := hil)).mp (ej.trans e1.symm)
      omega
    subst e
    unfold setAdd
    refine wpAny_holding (wpAny_bind ((PySem.strKind P w).pyHash (k := xs.getD i Str.empty) (strKind_is _ _ _ _) ?_))
    refine wpAny_setAddHashed_of (knd := PySem.strKind P w) (s := { s with toks := s.toks + 1 }) (strKind_is _ _ _ _) rfl r (by omega) fun h' sb r2 => q _ h' (s.toks + 1) (Nat.le_succ _) sb (SetOf_congr r2 (fun k => ?_) ?_)
    · rw [List.take_add_one, hz]
      simp [List.mem_append]
    · rw [if_neg (by rw [decide_eq_false hn]; exact Bool.false_ne_true)]
end
end L4
end

section
set_option Elab.async false
set_option linter.all false
set_option maxRecDepth 100000
set_option maxHeartbeats 3200000
set_option autoImplicit false
/-! enumerate of a list or a tuple; a tuple turned about; sets as values. -/
namespace L4
open PySem L2

theorem meets_enum1 {v : Value} {o : Obj} {J : Heap → Prop} (B : Begins v o J) :
    PySem.Meets (Builtin.«enumerate.__new__» ⟨[.type "enumerate", v], []⟩) (fun _ R s => J s.heap ∧
      R (.ok (.ret (.ref (s.heap.push o).objs.size))) { s with heap := (s.heap.push o).push { cls := .type "enumerate", data := .fields #[.none, .bool false, .ref s.heap.objs.size, rawInt 0, .none, .none] } }) :=
  .of_wp fun prog w A R s h => by
    obtain ⟨hp, g, d, tk, os⟩ := s
    obtain ⟨h1, h⟩ := h
    have hsub := sub_enumerate
    have begin' : ∀ {A' : Around} {E : Value → Shared → Prop} {Q : Value → Shared → Prop}, Q (.ref hp.objs.size) ⟨hp.push o, g, d, tk, os⟩ → wpAny (model prog w) A' (pyIter v) Q E ⟨hp, g, d, tk, os⟩ :=
      fun q => B.iter prog w _ _ ⟨hp, g, d, tk, os⟩ _ h1 q
    wp_walk using begin'
    refine wpAny_stack_any fun st => wpAny_pure ?_
    split
    · rename_i c _ _ _ _ _
      cases (c == Value.type "enumerate") <;>
      · wp_walk using begin'
        exact ⟨_, rfl, h⟩
    · wp_walk using begin'
      exact ⟨_, rfl, h⟩
section
variable {prog : Program} {w : World} {A : Around} {E : Value → Shared → Prop} {s : Shared}
theorem enum1 {v : Value} {o : Obj} {J : Heap → Prop} {Q : Value → Shared → Prop} (B : Begins v o J) (h1 : J s.heap)
    (h : ∀ h', IsEnum h' (s.heap.objs.size + 1) s.heap.objs.size 0 .none → h'.get? s.heap.objs.size = some o → (∀ b u, s.heap.get? b = some u → h'.get? b = some u) → Q (.ref (s.heap.objs.size + 1)) { s with heap := h' }) :
    wpAny (model prog w) A (call (.type "enumerate") [v]) Q E s := by
  refine callType_new F.called_enumerate (by decide) (F.typeCall_enumerate_1 _) (F.newCall_enumerate_1 _) (fun obj => F.args_object_init_2 obj _) F.entry_enumerate_new (meets_enum1 B) ⟨h1, ?_⟩
  have hz : (s.heap.push o).objs.size = s.heap.objs.size + 1 := Heap.size_push ..
  show _ ∧ _
  rw [hz]
  have he : IsEnum ((s.heap.push o).push { cls := .type "enumerate", data := .fields #[.none, .bool false, .ref s.heap.objs.size, rawInt 0, .none, .none] }) (s.heap.objs.size + 1) s.heap.objs.size 0 .none := by
    have q := Heap.get?_push_size (s.heap.push o) (o := { cls := .type "enumerate", data := .fields #[.none, .bool false, .ref s.heap.objs.size, rawInt 0, .none, .none] }) rfl
    rw [hz] at q
    exact q
  exact ⟨⟨_, he, rfl⟩, h _ he (Heap.get?_push_of_some _ (Heap.get?_push_size _ B.free)) fun b u x => Heap.get?_push_of_some _ (Heap.get?_push_of_some _ x)⟩
end
def ItE (K : PySem.W.Frag) (k : Kd) (a : Addr) : It :=
  ⟨fun i H => ∃ (xs : List V) (x : V), k.sq K H a xs ∧ xs[i]? = some x,
    fun i H v H' => ∃ T x, v = .ref T ∧ H T = none ∧ H' = upd H T (.tup [.int (i : Nat), x]) ∧ ∀ xs, k.sq K H a xs → xs[i]? = some x,
    fun i H => ∃ xs : List V, k.sq K H a xs ∧ i = xs.length⟩
theorem turn_e {P : Program} {w : World} {K : PySem.W.Frag} {elts : List Expr} {kk : Nat} {tpos : Pos} {k : Kd} {a e it : Addr} (hae : a ≠ it) (hne : e ≠ it) (hea : e ≠ a) :
    Turn P w K (.Tuple elts kk tpos) (ItE K k a) [e, it] e (fun i h => (∃ old, IsEnum h e it ((i : Nat) : Int) old) ∧ k.it h it a i) where
  mem := by simp
  obj := fun i h st b hb => by
    obtain ⟨⟨old, he⟩, h1⟩ := st
    have e' : b = e ∨ b = it := by simpa using hb
    rcases e' with z | z
    · rw [z]; exact ⟨_, he, fun v q => nomatch q⟩
    · rw [z]; exact Kd.it_obj h1
  keep := fun i h h' st kp => by
    obtain ⟨⟨old, he⟩, h1⟩ := st
    exact ⟨⟨old, kp e (by simp) _ he⟩, Kd.it_at h1 fun o q => kp it (by simp) o q⟩
  item := by
    intro X hP hw hK hc i pins s σ H E I hf st hg
    subst hP hw hK
    obtain ⟨⟨old, he⟩, h1⟩ := st
    obtain ⟨xs, x, hq, hx⟩ := hg
    obtain ⟨its, rv, p, _⟩ := k.of_inv I hq
    obtain ⟨u, hu, ru⟩ := rv.get hx
    have lt : i < its.toArray.size := by simpa using (List.getElem?_eq_some_iff.mp hu).1
    have hel : e < s.heap.objs.size := Heap.lt_size he
    have hil : it < s.heap.objs.size := by obtain ⟨_, q, _⟩ := Kd.it_obj h1; exact Heap.lt_size q
    refine wpAny_pyNext_enum_itemD (k.draws (A := X.A.in1) (I.ok.hd hc) it a hae its.toArray) he ⟨h1, p⟩ lt hne (fun z => by
      rcases List.mem_cons.mp z with z | z
      · exact hne z
      · exact hea (List.mem_singleton.mp z)) fun v h' tk hv ho d1 hT hsz hk => ?_
    have ev : v = u := by
      have q : its[i]? = some v := by simpa using hv
      exact Option.some.inj (q.symm.trans hu)
    subst ev
    refine ⟨_, rfl, wpAny_letOwnedTupleGo_enum (s := { s with heap := h', toks := tk + 1 }) ho fun h'' he' sb => ?_⟩
    have hT2 : h''.get? s.heap.objs.size = some { cls := .type "tuple", data := .seq #[.int i tk, v] } := (sb.2 _ (Nat.ne_of_gt hel)).trans hT
    have new : ObjOk X.prog X.w (upd H s.heap.objs.size (.tup [.int (i : Nat), x])) h'' s.heap.objs.size (.tup [.int (i : Nat), x]) :=
      ⟨by show 2 ≤ sizeLine; decide, [.int i tk, v], .cons ⟨_, rfl⟩ (.cons ru .nil), ⟨_, hT2, rfl, _, rfl⟩⟩
    have I1 : Inv X pins σ (upd H s.heap.objs.size (.tup [.int (i : Nat), x])) { s with heap := h'', toks := tk + 1 } :=
      I.turnedNew (ch := [e, it]) (fun b ob hb q => (sb.2 b (fun z => hb (by simp [z]))).trans (hk b ob (fun z => hb (by simp [z])) (fun z => hb (by simp [z])) q)) hf (Nat.le_refl _) new
    refine ⟨.ref s.heap.objs.size, _, I1, rfl, ⟨_, x, rfl, I.hok.fresh (Nat.le_refl _), rfl, fun ys hy => by rw [k.inj I hy hq]; exact hx⟩, ⟨⟨v, ?_⟩, Kd.it_at d1.1 fun o q => (sb.2 it (Ne.symm hne)).trans q⟩, fun b hb => ?_⟩
    · have e1 : ((i + 1 : Nat) : Int) = (i : Int) + 1 := by omega
      rw [e1]
      exact he'
    · have hb' : b < s.heap.objs.size := by
        have e' : b = e ∨ b = it := by simpa using hb
        rcases e' with z | z
        · rw [z]; exact hel
        · rw [z]; exact hil
      rw [upd_ne (Nat.ne_of_lt hb')]
      exact (hf b hb).1
  done := by
    intro X hP hw hK hc i pins s σ H E I hf st hg
    subst hP hw hK
    obtain ⟨⟨old, he⟩, h1⟩ := st
    obtain ⟨xs, hq, hx⟩ := hg
    obtain ⟨its, rv, p, _⟩ := k.of_inv I hq
    have hn : its.toArray.size = i := by rw [hx, rv.length]; simp
    refine wpAny_pyNext_enum_endD (k.draws (A := X.A.in1) (I.ok.hd hc) it a hae its.toArray) he (by rw [hn]; exact ⟨h1, p⟩) fun h' eb => ⟨rfl, I.turnedL (t' := s.toks) (ch := [e, it]) (fun c o hb q => eb c o (fun z => hb (by simp [z])) q) hf⟩
  self := fun A i s Q E st h => let ⟨⟨_, he⟩, _⟩ := st; wpAny_pyIter_enum he h
def iEn (K : PySem.W.Frag) (ta : TA) : TI := fun σ H R => ta σ H fun vs H1 => ∃ (k : Kd) (a : Addr) (xs : List V), vs = [.ref a] ∧ k.sq K H1 a xs ∧ R (ItE K k a) H1
theorem pi_en {X : Cx} {e : Expr} {ta : TA} {p pos tpos : Pos} {elts : List Expr} {kk : Nat} (hg : Gl X "enumerate") (hm : X.mg "enumerate" = none) (ha : PA X [e] ta) (hs : starEach [e] X.env = [(false, eval e X.env)] := by rfl) :
    PI X (.Tuple elts kk tpos) (.Call (.Name "enumerate" p) [e] [] pos) (iEn X.K ta) := by
  refine ⟨fun pins s σ H R I h => ?_⟩
  refine PyProof.Rows.Call_ (ld_blt I hg hm PyProof.Rows.boot_enumerate (PyProof.Rows.callWith_type1 (thn (ha.run pos pins s σ H _ I h) fun us s1 ⟨vs, H1, I1, r1, q1⟩ => ?_) hs rfl))
  obtain ⟨k, a, xs, ex, hq, q⟩ := q1
  subst ex
  cases r1 with
  | cons r rr =>
    cases rr
    cases r
    obtain ⟨its, rv, p', lt⟩ := k.of_inv I1 hq
    refine enum1 (k.begins a its.toArray) p' fun h' he hit hk => wpAny_pyIter_enum he ?_
    have I2 : Inv X pins σ H1 { s1 with heap := h' } := I1.kept (t' := s1.toks) hk
    refine ⟨s1.heap.objs.size + 1, [s1.heap.objs.size + 1, s1.heap.objs.size], _, _, H1, rfl, I2, turn_e (Nat.ne_of_lt lt) (Nat.succ_ne_self _) (Nat.ne_of_gt (Nat.lt_succ_of_lt lt)), ⟨⟨.none, he⟩, Kd.it_of hit⟩, fun b hb => ?_, q⟩
    have e' : b = s1.heap.objs.size + 1 ∨ b = s1.heap.objs.size := by simpa using hb
    have hle : s1.heap.objs.size ≤ b := by
      rcases e' with z | z
      · rw [z]; exact Nat.le_add_right _ _
      · rw [z]; exact Nat.le_refl _
    exact I1.fpOk hle (I1.hok.fresh hle)

/-! ### a tuple turned about -/
def tRevT (K : PySem.W.Frag) (te : TE) : TE := fun σ H Q => te σ H fun x H1 => ∃ a xs, x = .ref a ∧ SqT K H1 a xs ∧ ∀ p, H1 p = none → Q (.ref p) (upd H1 p (.tup xs.reverse))

/-! ### set, as a value; len of a set of texts -/
def rSetI (K : PySem.W.Frag) (w : World) : List V → Hp → VK → Prop := fun vs H Q => ∃ (k : Kd) (a : Addr) (ns : List Int), vs = [.ref a] ∧ k.sq K H a (ns.map V.int) ∧ ns.length + 1 < scanBound ∧
  ∀ p c, H p = none → c ≤ ns.length → Q (.ref p) (upd H p (SetO w p (fun j => decide (j ∈ ns)) c))
theorem cr_setI {X : Cx} (hc : X.calm = true) : CallR X (.type "set") (rSetI X.K X.w) := by
  intro pins s σ H vs us Q I r h
  obtain ⟨k, a, ns, rfl, hq, hb, q⟩ := h
  rw [Vals.ref1 r]
  obtain ⟨its, rv, p, lt⟩ := k.of_inv I hq
  have hi := rv.ints
  refine call_set_of k (I.ok.hd hc) p (fill_ints (by simpa using hi) hb) fun h' tk ⟨c, hle, R⟩ hk => ?_
  have hsz : its.toArray.size = ns.length := by
    have z := PyProof.Rows.IntsAre.length hi
    simpa using z
  have R2 : SetR X.w h' s.heap.objs.size (fun j => decide (j ∈ ns)) c := R.congr fun j => by rw [hsz, List.take_length]
  exact ⟨.ref _, _, I.laid (t' := tk) (fun b u e => hk b u e) (Nat.le_refl _) (setO_new R2), rfl, q _ c (I.hok.fresh (Nat.le_refl _)) (by omega)⟩
def tLenS (K : PySem.W.Frag) (ta : TE) : TE := fun σ H Q => ta σ H fun x H1 => ∃ (k : Kd) (l : Addr) (xs : List Str), x = .ref l ∧ k.sq K H1 l (xs.map V.str) ∧ xs.Nodup ∧ xs.length ≤ 1000 ∧ Q (.int xs.length) H1
theorem pe_lenS {X : Cx} {a : Expr} {ta : TE} {p p2 q pos : Pos} (hc : X.calm = true) (hg : Gl X "len") (hm : X.mg "len" = none) (hg2 : Gl X "set") (hm2 : X.mg "set" = none) (ha : PE X a ta)
    (na : starEach [a] X.env = (false, eval a X.env) :: starEach [] X.env := by rfl) : PE X (.Call (.Name "len" p) [.Call (.Name "set" p2) [a] [] q] [] pos) (tLenS X.K ta) := by
  refine ⟨fun pins s σ H Q I h => ?_⟩
  refine PyProof.Rows.Call_ (ld_blt I hg hm PySem.boot_len (PyProof.Rows.callWith_builtin1 (PyProof.Rows.args_cons ?_ rfl) rfl rfl))
  refine PyProof.Rows.Call_ (ld_blt I hg2 hm2 PyProof.Rows.boot_set (PyProof.Rows.callWith_type1 (PyProof.Rows.args_cons (thn (ha.run pins s σ H _ I h) fun v s1 ⟨x, H1, I1, r1, q1⟩ => PyProof.Rows.args_nil ?_) na) na rfl))
  obtain ⟨k, l, xs, rfl, hq, nd, h1, q1⟩ := q1
  cases r1
  obtain ⟨its, rv, pk, lt⟩ := k.of_inv I1 hq
  have st := strsAre_of rv
  have hl : its.toArray.size = xs.length := by rw [List.size_toArray, ← rv.length, List.length_map]
  refine call_set_of k (I1.ok.hd hc) pk (fill_strs (by simpa using st) nd (by unfold scanBound; omega)) fun h' tk tab hk => PyProof.Rows.args_nil ?_
  obtain ⟨o, es, ep, t, ho, hex, hd, _, _, _, hf, hn⟩ := tab
  have I2 : Inv X pins σ H1 { s1 with heap := h', toks := tk } := I1.kept fun b o e => hk b o e
  refine call_len_set ho hex hd hf (by rw [hn, hl]; omega) ⟨.int xs.length, H1, I2.tok _, ⟨_, by rw [hn, hl]⟩, q1⟩
end L4
end

section
set_option Elab.async false
set_option linter.all false
set_option maxRecDepth 100000
set_option maxHeartbeats 3200000
set_option autoImplicit false
/-! A tuple turned about; min, max of data; sorted of a dict whose keys are tuples. -/
namespace L4
open PySem L2

theorem rev_pick (items : Array Value) : ((List.range items.size).filterMap fun (k : Nat) => items[(((items.size : Int) - 1) + (k : Int) * (-1)).toNat]?).toArray = items.toList.reverse.toArray := by
  congr 1
  apply List.ext_getElem?
  intro j
  have all : ∀ n, n ≤ items.size → ((List.range n).filterMap fun (k : Nat) => items[(((items.size : Int) - 1) + (k : Int) * (-1)).toNat]?) = items.toList.reverse.take n := by
    intro n
    induction n with
    | zero => intro _; simp
    | succ n ih =>
      intro hn
      have e1 : (((items.size : Int) - 1) + (n : Int) * (-1)).toNat = items.size - 1 - n := by omega
      have hlt : items.size - 1 - n < items.size := by omega
      have hr : n < items.toList.reverse.length := by simp; omega
      rw [List.range_succ, List.filterMap_append, ih (by omega), List.take_add_one, List.getElem?_eq_getElem hr]
      simp only [List.filterMap_cons, List.filterMap_nil, e1, Array.getElem?_eq_getElem hlt, List.getElem_reverse, Option.toList_some, Array.getElem_toList]
      congr 1
  rw [all items.size (Nat.le_refl _), List.take_of_length_le (by simp)]
section
variable {prog : Program} {w : World} {A : Around} {E : Value → Shared → Prop} {s : Shared}
theorem getItem_tuple_rev {t sl : Addr} {items : Array Value} {tk : Tok} {Q : Value → Shared → Prop} (ht : PyProof.Rows.IsTup s.heap t items) (hs : s.heap.IsSliceOf sl .none .none (.int (-1) tk)) (hsz : items.size ≤ sizeLine)
    (h : Q (.ref s.heap.objs.size) { s with heap := s.heap.push { cls := .type "tuple", data := .seq items.toList.reverse.toArray } }) : wpAny (model prog w) A (getItem (.ref t) (.ref sl)) Q E s := by
  obtain ⟨os, hos, hcs, hds⟩ := id hs
  have hTs : s.TypeIs (.ref sl) "slice" := ⟨os, hos, hcs⟩
  unfold getItem
  try with_reducible refine wpAny_holding ?_
  first | refine wpAny_bind (wpAny_pure ?_) | skip
  refine wpAny_bind (wpAny_sequenceKey ht.typeIs (by decide) ?_)
  refine wpAny_bind (wpAny_callSpecial?_slot (name := Str.ofString "__getitem__") ht.typeIs PyProof.Rows.slot_tuple_getitem
    (wpAny_call_entry PyProof.Rows.slot_tuple_getitem ht.typeIs PyProof.Rows.entry_tuple_getitem ?_ (PyProof.Rows.args_tuple_getitem _ _)))
  show wpAny _ _ (Builtin.Tuple.tupleItemsOf (.ref t) >>= _) _ _ s
  refine wpAny_bind (PyProof.Rows.tupleItemsOf_ ht (wpAny_bind (wpAny_typeOf hTs ?_)))
  rw [if_pos (by decide)]
  refine wpAny_bind ?_
  unfold Builtin.Slice.sliceApplied Builtin.Slice.sliceFields
  refine wpAny_bind (wpAny_bind (wpAny_field hos hds (x := .none) rfl (wpAny_bind (wpAny_field hos hds (x := .none) rfl (wpAny_bind (wpAny_field hos hds (x := .int (-1) tk) rfl (wpAny_pure ?_)))))))
  refine wpAny_bind (PyProof.Rows.slicePart_int ?_)
  show wpAny _ _ (if ((-1 : Int) == 0) = true then _ else _) _ _ s
  rw [if_neg (by decide)]
  refine wpAny_bind (PyProof.Rows.slicePart_none (wpAny_bind (PyProof.Rows.slicePart_none (wpAny_bind (wpAny_pure ?_)))))
  show wpAny _ _ (pure (((items.size : Nat) : Int) - 1, (-1 : Int), Builtin.Slice.slicePlaces (((items.size : Nat) : Int) - 1) (-1) (-1))) _ _ s
  have pl : Builtin.Slice.slicePlaces (((items.size : Nat) : Int) - 1) (-1) (-1) = items.size := by
    unfold Builtin.Slice.slicePlaces
    rw [if_neg (by decide)]
    by_cases z : items.size = 0
    · rw [if_neg (by omega), z]; rfl
    · rw [if_pos (by omega)]
      have : ((((items.size : Nat) : Int) - 1 - -1 - 1) / (- -1) + 1) = items.size := by
        have e : (- -1 : Int) = 1 := by decide
        rw [e, Int.ediv_one]
        omega
      rw [this]
      exact Int.toNat_natCast _
  rw [pl]
  refine wpAny_pure ?_
  have hno : ¬ (((((items.size : Nat) : Int) - 1) == 0 && (-1 : Int) == 1 && items.size == items.size) = true) := by
    simp
  show wpAny _ _ (if (((((items.size : Nat) : Int) - 1) == 0 && (-1 : Int) == 1 && items.size == items.size) = true) then _ else _) _ _ s
  rw [if_neg hno, rev_pick]
  have sz : sizeOk (.seq items.toList.reverse.toArray) := by
    show items.toList.reverse.toArray.size ≤ sizeLine
    rw [List.size_toArray, List.length_reverse, Array.length_toList]
    exact hsz
  first
    | exact wpAny_bind (m := Builtin.Tuple.tupleExact _) (wpAny_newObj_type (wpAny_pure ⟨_, rfl, wpAny_pure h⟩) sz)
    | exact wpAny_bind (m := Builtin.Tuple.tupleExact _) (wpAny_newObj_type (wpAny_bind (wpAny_pure (wpAny_pure ⟨_, rfl, wpAny_pure h⟩))) sz)
    | exact wpAny_bind (wpAny_bind (m := Builtin.Tuple.tupleExact _) (wpAny_newObj_type (wpAny_pure (wpAny_pure ⟨_, rfl, wpAny_pure h⟩)) sz))
    | exact wpAny_bind (wpAny_bind (m := Builtin.Tuple.tupleExact _) (wpAny_newObj_type (wpAny_pure ⟨_, rfl, wpAny_pure h⟩) sz))
end
theorem pe_revT {X : Cx} {e : Expr} {te : TE} {k : Nat} {p1 p2 p3 pos : Pos} (he : PE X e te) : PE X (.Subscript e (.Slice none none (some (.UnaryOp .USub (.Constant (.int 1) k p1) p2)) p3) pos) (tRevT X.K te) := by
  refine ⟨fun pins s σ H Q I h => ?_⟩
  refine PyProof.Rows.Subscript_ (thn (he.run pins s σ H _ I h) fun v s1 ⟨x, H1, I1, r1, q1⟩ => ?_)
  obtain ⟨a, xs, ex, hx, q⟩ := q1
  subst ex
  cases r1
  have part : PO X (some (.UnaryOp .USub (.Constant (.int 1) k p1) p2)) (tPart (tUn (rU fun i => .int (-i)) (tC (.int 1)))) := po_some (pe_un un_neg pe_int)
  refine wpAny_Slice (thn (po_none.run pins s1 σ H1 (fun o H2 => o = none ∧ H2 = H1) I1 ⟨rfl, rfl⟩) fun vl s2 ⟨l, H2, I2, pl, el, e2⟩ => ?_)
  subst el e2
  refine thn (po_none.run pins s2 σ H2 (fun o H3 => o = none ∧ H3 = H2) I2 ⟨rfl, rfl⟩) fun vu s3 ⟨u, H3, I3, pu, eu, e3⟩ => ?_
  subst eu e3
  refine thn (part.run pins s3 σ H3 (fun o H4 => o = some (-1) ∧ H4 = H3) I3 ⟨1, rfl, -1, rfl, rfl, rfl⟩) fun vs s4 ⟨o, H4, I4, ps, eo, e4⟩ => ?_
  subst eo e4
  cases pl
  cases pu
  cases ps with
  | int _ tk =>
    have I5 : Inv X pins σ H4 { s4 with heap := s4.heap.push { cls := .type "slice", data := .fields #[.none, .none, .int (-1) tk] } } := I4.kept (t' := s4.toks) fun b ob q => Heap.get?_push_of_some _ q
    obtain ⟨its, r, ht, hz⟩ := I5.tuple hx
    have hlen := r.length
    refine PyProof.Rows.tail_any (ops := [.ref a, .ref s4.heap.objs.size]) ht.typeIs PyProof.Rows.slot_tuple_getitem.lookup ?_ (by with_unfolding_all rfl)
    refine getItem_tuple_rev ht (Heap.IsSliceOf.new _ .none .none (.int (-1) tk)) (by rw [List.size_toArray]; omega) ?_
    refine ⟨.ref _, _, I5.laid (t' := s4.toks) (o := .tup xs.reverse) (fun b ob q => Heap.get?_push_of_some _ q) (Nat.le_refl _) ?_, rfl, q _ (I5.hok.fresh (Nat.le_refl _))⟩
    exact ⟨by rw [List.length_reverse]; exact hz, _, r.reverse, PyProof.Rows.IsTup.new _ _⟩
end L4
end

section
set_option Elab.async false
set_option linter.all false
set_option maxRecDepth 100000
set_option maxHeartbeats 3200000
set_option autoImplicit false
/-! min, max of a list of alike data. -/
namespace L4
open PySem L2 PySem.W

theorem readsAll_get {h : Heap} : ∀ {vs : List Value} {ds : List PyData} {as : List Addr} {i : Nat} {v : Value}, ReadsAll h vs ds as → vs[i]? = some v → ∃ d bs, ds[i]? = some d ∧ Reads h v d bs
  | _, _, _, _, _, .nil, e => by simp at e
  | _, _, _, 0, _, .cons (d := d) r _, e => by
    have e' := Option.some.inj e
    subst e'
    exact ⟨d, _, rfl, r⟩
  | _, _, _, i + 1, _, .cons _ r, e => readsAll_get (i := i) r e
theorem canAll_get : ∀ {ds : List PyData} {i : Nat} {d : PyData}, PyData.canLayAll0 ds = true → ds[i]? = some d → d.canLay0 = true
  | [], _, _, _, e => by simp at e
  | x :: r, 0, d, c, e => by
    have e' := Option.some.inj e
    subst e'
    have c' : (x.canLay0 && PyData.canLayAll0 r) = true := c
    rw [Bool.and_eq_true] at c'
    exact c'.1
  | x :: r, i + 1, d, c, e => by
    have c' : (x.canLay0 && PyData.canLayAll0 r) = true := c
    rw [Bool.and_eq_true] at c'
    exact canAll_get (i := i) c'.2 e
def rBestD (K : PySem.W.Frag) (best : PyData → List PyData → PyData) : List V → Hp → VK → Prop := fun vs H Q => ∃ a xs d ds, vs = [.ref a] ∧ SqL K H a xs ∧ DpAll K H xs (d :: ds) ∧ PyData.canLayAll0 (d :: ds) = true ∧ AlikeAll (d :: ds) ∧ PyData.depthAll (d :: ds) ≤ 60 ∧
  ∀ (i : Nat) (v : V), xs[i]? = some v → (d :: ds)[i]? = some (best d ds) → Q v H
section
variable {X : Cx}
theorem best_of {b : String} {best : PyData → List PyData → PyData} (hc : X.calm = true) (hu : X.A.units + 64 < cLine)
    (lib : ∀ {s : Shared} {l : Addr} {vs : Array Value} {x : PyData} {xs : List PyData} {as : List Addr} {Q : Value → Shared → Prop}, X.A.handled = none → s.heap.IsList l vs → ReadsAll s.heap vs.toList (x :: xs) as → AlikeAll (x :: xs) → X.A.units + 1 + PyData.depthAll (x :: xs) < cLine →
      (∀ (i : Nat) v h' tk bs, vs[i]? = some v → Reads h' v (best x xs) bs → (∀ b o, s.heap.get? b = some o → h'.get? b = some o) → Q v { s with heap := h', toks := tk }) → wpAny (model X.prog X.w) X.A (call (.builtin b) [.ref l]) Q X.xe s) :
    CallR X (.builtin b) (rBestD X.K best) := by
  intro pins s σ H vs us Q I r h
  obtain ⟨a, xs, d, ds, rfl, hq, dp, cl, al, dep, q⟩ := h
  rw [Vals.ref1 r]
  obtain ⟨its, rv, p, hz⟩ := I.list hq
  obtain ⟨as, ra⟩ := Dp.readsAll I (d :: ds) xs its dp rv
  refine lib (I.ok.hd hc) p.isList (by simpa using ra) al (by omega) fun i v h' tk bs hv hr hk => ?_
  have hv' : its[i]? = some v := by simpa using hv
  obtain ⟨x, hx, rx⟩ : ∃ x, xs[i]? = some x ∧ RelV x v := by
    have hl : i < xs.length := by rw [rv.length]; exact (List.getElem?_eq_some_iff.mp hv').1
    obtain ⟨u, hu', ru⟩ := rv.get (List.getElem?_eq_getElem hl)
    rw [hv'] at hu'
    cases hu'
    exact ⟨_, List.getElem?_eq_getElem hl, ru⟩
  obtain ⟨e, cs, he, re⟩ := readsAll_get ra hv'
  have ee : e = best d ds := PySem.SeqAt.Reads.unique _ _ _ _ _ (canAll_get cl he) (PyProof.Rows.Reads.keeps hk re) hr
  subst ee
  exact ⟨x, H, I.kept (t' := tk) hk, rx, q i x hx he⟩
theorem cr_minD (hc : X.calm = true) (hu : X.A.units + 64 < cLine) : CallR X (.builtin "min") (rBestD X.K minD) := best_of hc hu fun hh hl hr ha hd h => min_list_data hh hl hr ha hd h
theorem cr_maxD (hc : X.calm = true) (hu : X.A.units + 64 < cLine) : CallR X (.builtin "max") (rBestD X.K maxD) := best_of hc hu fun hh hl hr ha hd h => max_list_data hh hl hr ha hd h
end
end L4
end

section
set_option Elab.async false
set_option linter.all false
set_option maxRecDepth 100000
set_option maxHeartbeats 3200000
set_option autoImplicit false
/-! sorted(d), d a dict whose keys are tuples. -/
namespace L4
open PySem L2 PySem.W
open PyProof.Rows (seqObj)

theorem dp_key {K : PySem.W.Frag} {H : Hp} : ∀ k : List L2.Key, DpAll K H (k.map kV) (k.map keyD)
  | [] => .nil
  | .inl i :: r => .cons (.int i) (dp_key r)
  | .inr x :: r => .cons (.str x) (dp_key r)
theorem each_of_get {α β : Type} {R : α → β → Prop} : ∀ {vs : List α} {bs : List β}, vs.length = bs.length → (∀ (j : Nat) (v : α) (b : β), vs[j]? = some v → bs[j]? = some b → R v b) → EachIs R vs bs
  | [], [], _, _ => .nil
  | v :: vs, b :: bs, hl, h => .cons (h 0 v b rfl rfl) (each_of_get (Nat.succ.inj hl) fun j v b h1 h2 => h (j + 1) v b h1 h2)
  | [], _ :: _, hl, _ => by simp at hl
  | _ :: _, [], hl, _ => by simp at hl
def kLe (x y : List L2.Key) : Bool := dataLe false kD x y
def rSortT : List V → Hp → VK → Prop := fun vs H Q => ∃ a kvs, vs = [.ref a] ∧ H a = some (.dT kvs) ∧ AllAlike (kvs.map fun p => kD p.1) ∧ Sortable (kvs.map fun p => kD p.1) ∧ kvs.length ≤ 1000 ∧ (∀ p ∈ kvs, (kD p.1).depth ≤ 50) ∧
  ∀ (p : Addr) (bs : List Addr), H p = none → bs.length = kvs.length → (∀ (j : Nat) (k : List L2.Key) (b : Addr), ((kvs.map (·.1)).mergeSort kLe)[j]? = some k → bs[j]? = some b → H b = some (.tup (k.map kV))) → Q (.ref p) (upd H p (.lst (bs.map V.ref)))
theorem cr_sortT {X : Cx} (hc : X.calm = true) (hu : X.A.units + 64 < cLine) : CallR X (.builtin "sorted") rSortT := by
  intro pins s σ H vs us Q I r h
  obtain ⟨d, kvs, rfl, hd, al, so, hl, dep, q⟩ := h
  rw [Vals.ref1 r]
  obtain ⟨z, hs, ks, pr, o, es, ep, ho, hx, hdt, he, hn⟩ := (show ObjOk X.prog X.w H s.heap d (.dT kvs) from I.hok d _ hd)
  have l1 : es.size = ks.length := size_of_entries he
  have l2 : kvs.length = ks.length := Paired.length pr
  refine Calls.call_function_entry PyProof.Rows.kind_sorted PyProof.Rows.plain_sorted PyProof.Rows.entry_sorted (PyProof.Rows.args_sorted1 _) ?_
  unfold Builtin.«sorted»
  refine wpAny_bind (m := checkCount "sorted" 1 1 _) (wpAny_pure ?_)
  refine wpAny_bind (kdu_collect (A := X.A.in1) (kdl_raw hs hx hdt) (I.ok.hd hc) ho (by omega) fun h' tk acc hk it => ?_)
  have I1 : L2.Inv X pins σ H { s with heap := h', toks := tk } := I.kept hk
  let bs : List (List L2.Key × Addr) := ks.map fun x => (x.1, x.2.1)
  let enc : List L2.Key × Addr → PyData := fun p => kD p.1
  have hal : acc.toList.length = bs.length := by rw [Array.length_toList, it.1, l1]; simp [bs]
  have keys : kvs.map (·.1) = ks.map (·.1) := by
    have gen : ∀ {l : List (List L2.Key × V)} {m : List (List L2.Key × Addr × Value)}, KT H l m → l.map (·.1) = m.map (·.1) := by
      intro l m t
      induction t with
      | nil => rfl
      | cons h _ ih => rw [List.map_cons, List.map_cons, ih, h.1]
    exact gen pr
  have ekd : bs.map enc = kvs.map fun p => kD p.1 := by
    have e1 : (kvs.map fun p => kD p.1) = (kvs.map (·.1)).map kD := by rw [List.map_map]; rfl
    rw [e1, keys]
    show (ks.map fun x => (x.1, x.2.1)).map enc = _
    rw [List.map_map, List.map_map]
    rfl
  have tup : ∀ (j : Nat) (b : List L2.Key × Addr), bs[j]? = some b → H b.2 = some (.tup (b.1.map kV)) := fun j b hb => by
    have hb' : (ks.map fun x => (x.1, x.2.1))[j]? = some b := hb
    rw [List.getElem?_map] at hb'
    obtain ⟨x, hx', e⟩ := Option.map_eq_some_iff.mp hb'
    subst e
    have gen : ∀ {l : List (List L2.Key × V)} {m : List (List L2.Key × Addr × Value)}, KT H l m → ∀ x ∈ m, H x.2.1 = some (.tup (x.1.map kV)) := by
      intro l m t
      induction t with
      | nil => intro x hx; exact nomatch hx
      | cons h _ ih =>
        intro x hx
        rcases List.mem_cons.mp hx with e | hx
        · subst e
          rw [← h.1]
          exact h.2.1
        · exact ih x hx
    exact gen pr x (List.mem_of_getElem? hx')
  have each : EachIs (fun (v : Value) (b : List L2.Key × Addr) => v = .ref b.2) acc.toList bs := each_of_get hal fun j v b hv hb => by
    obtain ⟨en, hen, ev⟩ := it.2 j v (by rw [← Array.getElem?_toList]; exact hv)
    have qe := entry_at he j
    rw [hen] at qe
    have hb' : (ks.map fun x => (x.1, x.2.1))[j]? = some b := hb
    rw [List.getElem?_map] at hb'
    obtain ⟨x, hx', e⟩ := Option.map_eq_some_iff.mp hb'
    subst e
    rw [hx'] at qe
    have e2 : en = entryOfKey (tupleKind (mixKind X.prog X.w)) x := Option.some.inj qe
    rw [ev, e2]
    rfl
  have rd : ∀ (j : Nat) (b : List L2.Key × Addr), bs[j]? = some b → ∃ as, Reads h' (.ref b.2) (enc b) as := fun j b hb =>
    Dp.reads I1 (kD b.1) (.ref b.2) (.ref b.2) (.tup (.inl (.inl (tup j b hb))) (dp_key b.1)) rfl
  refine wpAny_bind (wpAny_newList ?_ (by rw [hal]; show (ks.map _).length ≤ _; rw [List.length_map]; exact Nat.le_trans (by omega) (show 1000 ≤ sizeLine by decide)))
  have hoL : (h'.push (seqObj "list" acc.toList.toArray 0)).get? h'.objs.size = some (seqObj "list" acc.toList.toArray 0) := Heap.get?_push_size _ rfl
  show wpAny _ _ _ _ _ { s with heap := h'.push (seqObj "list" acc.toList.toArray 0), toks := tk }
  have er' : EachIs (fun v b => ∃ as, Reads (sortingHeap (h'.push (seqObj "list" acc.toList.toArray 0)) h'.objs.size acc.toList) v (enc b) as) acc.toList bs := each_of_get hal fun j v b hv hb => by
    obtain ⟨as, ra⟩ := rd j b hb
    have ev : v = .ref b.2 := by
      have gen : ∀ {l : List Value} {m : List (List L2.Key × Addr)}, EachIs (fun (v : Value) (b : List L2.Key × Addr) => v = .ref b.2) l m → ∀ (j : Nat) (v : Value) (b : List L2.Key × Addr), l[j]? = some v → m[j]? = some b → v = .ref b.2 := by
        intro l m t
        induction t with
        | nil => intro j v b h; simp at h
        | cons h _ ih =>
          intro j v b h1 h2
          cases j with
          | zero =>
            cases h1
            cases h2
            exact h
          | succ j => exact ih j v b h1 h2
      exact gen each j v b hv hb
    subst ev
    refine ⟨as, PyProof.Rows.Reads.keeps (fun c u e => ?_) ra⟩
    exact sortingHeap_old (Nat.ne_of_lt (Heap.lt_size e)) (Heap.get?_push_of_some _ e)
  refine wpAny_bind (wpAny_holding (wpAny_call_entry PyProof.Rows.slot_list_sort ⟨_, hoL, rfl⟩ PyProof.Rows.entry_list_sort
    (list_sort_vals (κ := dataKind (sortingHeap (h'.push (seqObj "list" acc.toList.toArray 0)) h'.objs.size acc.toList) (bs.map enc)) (s := { s with heap := h'.push (seqObj "list" acc.toList.toArray 0), toks := tk }) hoL
      (SortsAt.data (s := { s with heap := sortingHeap (h'.push (seqObj "list" acc.toList.toArray 0)) h'.objs.size acc.toList, toks := tk }) (each_map (R := fun v d => ∃ as, Reads (sortingHeap (h'.push (seqObj "list" acc.toList.toArray 0)) h'.objs.size acc.toList) v d as) enc er') (by rw [ekd]; exact al) (by rw [ekd]; exact so) (fun d hd => by
        rw [ekd] at hd
        obtain ⟨p, hp, e⟩ := List.mem_map.mp hd
        have := dep p hp
        rw [← e]
        show X.A.units + 1 + 1 + _ < _
        omega))
      (by rw [hal]; show (ks.map _).length ≤ _; rw [List.length_map]; exact Nat.le_trans (by omega) (show 1000 ≤ sizeLine by decide)) ⟨_, rfl, ?_⟩)
    (PyProof.Rows.args_list_sort _)))
  have out := sortVals_data (h' := sortingHeap (h'.push (seqObj "list" acc.toList.toArray 0)) h'.objs.size acc.toList) (R := fun (v : Value) (b : List L2.Key × Addr) => v = .ref b.2) (enc := enc) false each er' (by rw [ekd]; exact al)
  have refs : ∀ {l : List Value} {m : List (List L2.Key × Addr)}, EachIs (fun (v : Value) (b : List L2.Key × Addr) => v = .ref b.2) l m → Vals (m.map fun b => V.ref b.2) l := by
    intro l m t
    induction t with
    | nil => exact .nil
    | cons h _ ih => exact .cons (by rw [h]; rfl) ih
  obtain ⟨e', he'⟩ := PyProof.Rows.sortedHeap_at (vs := acc.toList) (out := (sortVals (dataKind (sortingHeap (h'.push (seqObj "list" acc.toList.toArray 0)) h'.objs.size acc.toList) (bs.map enc)) false acc.toList acc.toList).toArray) hoL
  let ms := bs.mergeSort (dataLe false enc)
  have hms : ms.length = kvs.length := by
    show (bs.mergeSort (dataLe false enc)).length = _
    rw [(List.mergeSort_perm _ _).length_eq, l2]
    simp [bs]
  have e1 : ((ms.map (·.2)).map V.ref) = ms.map fun b => V.ref b.2 := by rw [List.map_map]; rfl
  have hlen : ((ms.map (·.2)).map V.ref).length ≤ sizeLine := by
    rw [List.length_map, List.length_map, hms]
    exact Nat.le_trans hl (show 1000 ≤ sizeLine by decide)
  refine wpAny_pure ⟨_, rfl, .ref h'.objs.size, upd H h'.objs.size (.lst ((ms.map (·.2)).map V.ref)), I1.laid (t' := tk) (fun b u e => ?_) (Nat.le_refl _) (show ObjOk X.prog X.w _ _ _ (.lst ((ms.map (·.2)).map V.ref)) from ⟨hlen, _, e', by rw [e1]; exact refs out, he'⟩), rfl, q _ (ms.map (·.2)) (I1.hok.fresh (Nat.le_refl _)) (by rw [List.length_map, hms]) fun j k b hk' hb => ?_⟩
  · have hb : b < h'.objs.size := Heap.lt_size e
    rw [PyProof.Rows.sortedHeap_old (Nat.ne_of_lt hb) (by rw [PyProof.Rows.size_push']; exact Nat.lt_succ_of_lt hb)]
    exact Heap.get?_push_of_some _ e
  · have em : (kvs.map (·.1)).mergeSort kLe = ms.map (·.1) := by
      have e2 : bs.map (·.1) = kvs.map (·.1) := by
        rw [keys]
        show (ks.map fun x => (x.1, x.2.1)).map (·.1) = _
        rw [List.map_map]
        rfl
      rw [← e2]
      exact (List.map_mergeSort (r := dataLe false enc) (s := kLe) (f := fun b => b.1) (l := bs) fun a _ b _ => rfl).symm
    rw [em, List.getElem?_map] at hk'
    rw [List.getElem?_map] at hb
    obtain ⟨x, hx', e3⟩ := Option.map_eq_some_iff.mp hk'
    rw [hx'] at hb
    cases hb
    subst e3
    have hm : x ∈ bs := (List.mergeSort_perm bs (dataLe false enc)).mem_iff.mp (List.mem_of_getElem? hx')
    obtain ⟨j', hj'⟩ := List.getElem?_of_mem hm
    exact tup j' x hj'
end L4
end

section
set_option Elab.async false
set_option linter.all false
set_option maxRecDepth 100000
set_option maxHeartbeats 3200000
set_option autoImplicit false
/-! dict(zip(xs, ys)): lists or tuples, the keys tuples that are all unlike. -/
namespace L4
open PySem L2 PySem.W
section
variable {prog : Program} {w : World} {A : Around} {E : Value → Shared → Prop} {s : Shared} {z TI TO i1 i2 T : Addr} {fp1 fp2 : List Addr} {n i : Nat} {P1 P2 : Nat → Value → Prop} {St1 St2 : Nat → Heap → Prop} {f : Bool} {oT : Obj}
theorem heldD_item {Q : Value → Shared → Prop} (S : ZipSep2 z TI TO i1 i2 fp1 fp2) (D1 : Draws prog w A i1 fp1 n P1 St1) (D2 : Draws prog w A i2 fp2 n P2 St2)
    (hz : IsZipHeld s.heap z TI TO T f) (hT : s.heap.get? T = some oT) (hTI : IsTupOf2 s.heap TI (.ref i1) (.ref i2)) (st1 : St1 i s.heap) (st2 : St2 i s.heap) (hi : i < n)
    (hQ : ∀ x1 x2 h' tk, P1 i x1 → P2 i x2 → IsZipHeld h' z TI TO T true → St1 (i + 1) h' → St2 (i + 1) h' → IsTupOf2 h' s.heap.objs.size x1 x2 →
      (∀ c o, c ≠ z → c ≠ i1 → c ≠ i2 → s.heap.get? c = some o → h'.get? c = some o) → Q (.ref s.heap.objs.size) { s with heap := h', toks := tk }) :
    wpAny (model prog w) A (Builtin.«zip.__next__» ⟨[.ref z], []⟩) (fun fin s' => ∃ v, fin = .done (.ret v) ∧ Q v s') E s := by
  obtain ⟨hp, g, d, tk0, os⟩ := s
  show wpAny _ _ (field (.ref z) 2 >>= _) _ _ _
  refine wpAny_bind (wpAny_field hz rfl (x := .bool false) rfl ?_)
  show wpAny _ _ (field (.ref z) 3 >>= _) _ _ _
  refine wpAny_bind (wpAny_field hz rfl (x := .ref TI) rfl (wpAny_bind (wpAny_seqItems hTI rfl ?_)))
  show wpAny _ _ (Builtin.SmallTypes.ownedTupleIsFree (.ref z) >>= _) _ _ _
  refine wpAny_bind (wpAny_tupleHeld_zip hz hT fun p0 hz0 hs0 => ?_)
  replace hs0 : Heap.SameBut z hp p0 := hs0
  simp only [Bool.false_eq_true, if_false]
  refine wpAny_bind ?_
  rw [← Array.forIn_toList]
  simp only [List.forIn_cons, List.forIn_nil]
  refine wpAny_bind (wpAny_bind (wpAny_holding ?_))
  show wpAny _ _ (Builtin.SmallTypes.nextOf (.ref i1) >>= _) _ _ ⟨p0, g, d, tk0, os⟩
  refine wpAny_bind (D1.item i _ _ _ hi (D1.over st1 hs0 S.zf1) fun x1 p1 tk1 hx1 n1 hs1 => wpAny_pure (wpAny_pure ?_))
  replace hs1 : Heap.SameBut i1 p0 p1 := hs1
  refine wpAny_bind (wpAny_bind (wpAny_holding ?_))
  show wpAny _ _ (Builtin.SmallTypes.nextOf (.ref i2) >>= _) _ _ ⟨p1, g, d, tk1, os⟩
  refine wpAny_bind (D2.item i _ _ _ hi (D2.over (D2.over st2 hs0 S.zf2) hs1 S.sep1_2) fun x2 p2 tk2 hx2 n2 hs2 => wpAny_pure (wpAny_pure (wpAny_pure ?_)))
  replace hs2 : Heap.SameBut i2 p1 p2 := hs2
  show wpAny _ _ (newTuple [x1, x2] >>= _) _ _ _
  refine wpAny_bind (wpAny_newTuple (wpAny_pure ⟨_, rfl, ?_⟩))
  have hsz : p2.objs.size = hp.objs.size := by rw [hs2.1, hs1.1, hs0.1]
  have hz2 : IsZipHeld p2 z TI TO T true := hs2.extBut _ _ S.zi2 (hs1.extBut _ _ S.zi1 hz0)
  have old : ∀ c o, c ≠ z → c ≠ i1 → c ≠ i2 → hp.get? c = some o → p2.get? c = some o := fun c o c1 c2 c3 e => hs2.extBut _ _ c3 (hs1.extBut _ _ c2 (hs0.extBut _ _ c1 e))
  show Q (.ref p2.objs.size) ⟨p2.push { cls := .type "tuple", data := .seq #[x1, x2] }, g, d, tk2, os⟩
  have hp' : IsTupOf2 (p2.push { cls := .type "tuple", data := .seq #[x1, x2] }) p2.objs.size x1 x2 := Heap.get?_push_size _ rfl
  rw [hsz] at hp' ⊢
  exact hQ x1 x2 _ tk2 hx1 hx2 (Heap.get?_push_of_some _ hz2) (D1.frame _ _ _ (D1.over n1 hs2 S.sep2_1) fun b _ o e => Heap.get?_push_of_some _ e) (D2.frame _ _ _ n2 fun b _ o e => Heap.get?_push_of_some _ e) hp' fun c o c1 c2 c3 e => Heap.get?_push_of_some _ (old c o c1 c2 c3 e)
theorem heldD_end {Q : PySem.Fin → Shared → Prop} (S : ZipSep2 z TI TO i1 i2 fp1 fp2) (D1 : Draws prog w A i1 fp1 n P1 St1)
    (hz : IsZipHeld s.heap z TI TO T f) (hT : s.heap.get? T = some oT) (hTI : IsTupOf2 s.heap TI (.ref i1) (.ref i2)) (st1 : St1 n s.heap)
    (hE : ∀ h' e, (∀ c o, c ≠ z → c ≠ i1 → s.heap.get? c = some o → h'.get? c = some o) → (∃ o, h'.get? e = some o ∧ o.cls = .type "StopIteration") → E (.ref e) { s with heap := h' }) :
    wpAny (model prog w) A (Builtin.«zip.__next__» ⟨[.ref z], []⟩) Q E s := by
  obtain ⟨hp, g, d, tk0, os⟩ := s
  show wpAny _ _ (field (.ref z) 2 >>= _) _ _ _
  refine wpAny_bind (wpAny_field hz rfl (x := .bool false) rfl ?_)
  show wpAny _ _ (field (.ref z) 3 >>= _) _ _ _
  refine wpAny_bind (wpAny_field hz rfl (x := .ref TI) rfl (wpAny_bind (wpAny_seqItems hTI rfl ?_)))
  show wpAny _ _ (Builtin.SmallTypes.ownedTupleIsFree (.ref z) >>= _) _ _ _
  refine wpAny_bind (wpAny_tupleHeld_zip hz hT fun p0 hz0 hs0 => ?_)
  replace hs0 : Heap.SameBut z hp p0 := hs0
  simp only [Bool.false_eq_true, if_false]
  refine wpAny_bind ?_
  rw [← Array.forIn_toList]
  simp only [List.forIn_cons, List.forIn_nil]
  refine wpAny_bind (wpAny_bind (wpAny_holding ?_))
  show wpAny _ _ (Builtin.SmallTypes.nextOf (.ref i1) >>= _) _ _ ⟨p0, g, d, tk0, os⟩
  exact wpAny_bind (D1.done _ _ _ (D1.over st1 hs0 S.zf1) fun h' e hx he => hE h' e (fun c o c1 c2 q => hx c o c2 (hs0.extBut _ _ c1 q)) he)
theorem next_held {Q : Option Value → Shared → Prop} (S : ZipSep2 z TI TO i1 i2 fp1 fp2) (D1 : Draws prog w A.in1 i1 fp1 n P1 St1) (D2 : Draws prog w A.in1 i2 fp2 n P2 St2)
    (hz : IsZipHeld s.heap z TI TO T f) (hT : s.heap.get? T = some oT) (hTI : IsTupOf2 s.heap TI (.ref i1) (.ref i2)) (st1 : St1 i s.heap) (st2 : St2 i s.heap) (hi : i < n)
    (hQ : ∀ x1 x2 h' tk, P1 i x1 → P2 i x2 → IsZipHeld h' z TI TO T true → St1 (i + 1) h' → St2 (i + 1) h' → IsTupOf2 h' s.heap.objs.size x1 x2 →
      (∀ c o, c ≠ z → c ≠ i1 → c ≠ i2 → s.heap.get? c = some o → h'.get? c = some o) → Q (some (.ref s.heap.objs.size)) { s with heap := h', toks := tk }) :
    wpAny (model prog w) A (pyNext (.ref z)) Q E s := by
  have hT' : s.TypeIs (.ref z) "zip" := ⟨_, hz, rfl⟩
  unfold pyNext
  exact wpAny_bind (wpAny_attempt (wpAny_callSpecial?_slot (name := Str.ofString "__next__") hT' F.slot_zip_next
    (wpAny_call_entry F.slot_zip_next hT' F.entry_zip_next
      (heldD_item S D1 D2 hz hT hTI st1 st2 hi fun x1 x2 h' tk q1 q2 q3 q4 q5 q6 q7 => wpAny_pure (hQ x1 x2 h' tk q1 q2 q3 q4 q5 q6 q7)) (F.args_zip_next_1 _))))
theorem stop_held {Q : Option Value → Shared → Prop} (S : ZipSep2 z TI TO i1 i2 fp1 fp2) (D1 : Draws prog w A.in1 i1 fp1 n P1 St1)
    (hz : IsZipHeld s.heap z TI TO T f) (hT : s.heap.get? T = some oT) (hTI : IsTupOf2 s.heap TI (.ref i1) (.ref i2)) (st1 : St1 n s.heap)
    (hQ : ∀ h', (∀ c o, c ≠ z → c ≠ i1 → s.heap.get? c = some o → h'.get? c = some o) → Q none { s with heap := h' }) : wpAny (model prog w) A (pyNext (.ref z)) Q E s := by
  have hT' : s.TypeIs (.ref z) "zip" := ⟨_, hz, rfl⟩
  unfold pyNext
  refine wpAny_bind (wpAny_attempt (wpAny_callSpecial?_slot (name := Str.ofString "__next__") hT' F.slot_zip_next
    (wpAny_call_entry F.slot_zip_next hT' F.entry_zip_next (heldD_end S D1 hz hT hTI st1 fun h' e hk he => ?_) (F.args_zip_next_1 _))))
  obtain ⟨o, ho, hc⟩ := he
  refine wpAny_bind (wpAny_isInstance (T := "StopIteration") (b := true) ⟨o, ho, hc⟩ isSubtype_stop ?_)
  exact wpAny_pure (hQ _ hk)
theorem tup_at {h : Heap} {T : Addr} {x y : Value} (e : IsTupOf2 h T x y) : PairAt h T x y := .inl ⟨_, e, rfl, _, rfl⟩
/-- zip(xs, ys), both of n items, as dict's argument -/
theorem argZip (k1 k2 : Kd) {a1 a2 : Addr} {xs ys : Array Value} (S : ZipSep2 z TI TO i1 i2 [i1, a1] [i2, a2]) (m1 : a1 ≠ i1) (m2 : a2 ≠ i2) (hx : xs.size = n) (hy : ys.size = n) (az : a1 ≠ z ∧ a2 ≠ z) :
    PairArg prog w "zip" z [z, TI, TO, i1, i2, a1, a2] [z, TO, i1, i2] n (fun i k v => xs[i]? = some k ∧ ys[i]? = some v)
      (fun h => IsZip h z TI TO .none ∧ IsTupOf2 h TI (.ref i1) (.ref i2) ∧ (∃ u1 u2, IsTupOf2 h TO u1 u2) ∧ k1.it h i1 a1 0 ∧ k2.it h i2 a2 0 ∧ k1.is h a1 xs ∧ k2.is h a2 ys) where
  type := fun s ok => ⟨_, ok.1, rfl⟩
  notDict := by decide
  keep := fun h h' ok hk => by
    obtain ⟨hz, hTI, ⟨u1, u2, hTO⟩, h1, h2, l1, l2⟩ := ok
    refine ⟨hk _ _ hz, hk _ _ hTI, ⟨u1, u2, hk _ _ hTO⟩, Kd.it_at h1 fun o e => hk _ o e, Kd.it_at h2 fun o e => hk _ o e, ?_, ?_⟩
    · exact (k1.begins a1 xs).keeps h h' l1 hk
    · exact (k2.begins a2 ys).keeps h h' l2 hk
  there := fun h ok b hb => by
    obtain ⟨hz, hTI, ⟨u1, u2, hTO⟩, h1, h2, l1, l2⟩ := ok
    have is : ∀ {k : Kd} {a : Addr} {x : Array Value}, k.is h a x → ∃ o, h.get? a = some o := fun {k a x} q => by
      cases k with
      | l => obtain ⟨o, e, _⟩ := q; exact ⟨o, e⟩
      | t => obtain ⟨o, e, _⟩ := q; exact ⟨o, e⟩
    simp only [List.mem_cons, List.not_mem_nil, or_false] at hb
    rcases hb with e | e | e | e | e | e | e
    · rw [e]; exact ⟨_, hz⟩
    · rw [e]; exact ⟨_, hTI⟩
    · rw [e]; exact ⟨_, hTO⟩
    · rw [e]; obtain ⟨o, q, _⟩ := Kd.it_obj h1; exact ⟨o, q⟩
    · rw [e]; obtain ⟨o, q, _⟩ := Kd.it_obj h2; exact ⟨o, q⟩
    · rw [e]; exact is l1
    · rw [e]; exact is l2
  sub := fun b hb => by simp at hb ⊢; rcases hb with e | e | e | e <;> simp [e]
  noKeys := fun A s Q E hA ok h => getAttrOr_miss_zip ok.1 rfl rfl rfl zip_no_keys (by decide +kernel) hA h
  iter := fun A s d Q E hA ok hd hdf h => by
    obtain ⟨hz, hTI, ⟨u1, u2, hTO⟩, h1, h2, l1, l2⟩ := ok
    simp only [List.mem_cons, List.not_mem_nil, or_false, not_or] at hdf
    obtain ⟨dz, dTI, dTO, di1, di2, da1, da2⟩ := hdf
    have hA1 : A.in1.handled = none := hA
    refine wpAny_pyIter_zip hz (h z [z, TO, i1, i2] (fun i h => IsTupOf2 h TI (.ref i1) (.ref i2) ∧ (k1.it h i1 a1 i ∧ k1.is h a1 xs) ∧ (k2.it h i2 a2 i ∧ k2.is h a2 ys) ∧
      ((IsZip h z TI TO .none ∧ ∃ u1 u2, IsTupOf2 h TO u1 u2) ∨ ∃ T f oT, IsZipHeld h z TI TO T f ∧ h.get? T = some oT ∧ T ≠ z ∧ T ≠ i1 ∧ T ≠ i2 ∧ T ≠ d)) s.heap s.toks ?_
      ⟨hTI, ⟨h1, l1⟩, ⟨h2, l2⟩, .inl ⟨hz, u1, u2, hTO⟩⟩ (fun _ _ e => e) fun b hb => .inl hb)
    have D1 := k1.draws (prog := prog) (w := w) hA1 i1 a1 m1 xs
    have D2 := k2.draws (prog := prog) (w := w) hA1 i2 a2 m2 ys
    rw [hx] at D1
    rw [hy] at D2
    exact {
      off := fun hm => by
        simp only [List.mem_cons, List.not_mem_nil, or_false] at hm
        rcases hm with e | e | e | e
        · exact dz e
        · exact dTO e
        · exact di1 e
        · exact di2 e
      frame := fun i g g' st hk => by
        obtain ⟨hTI, st1, st2, hz⟩ := st
        refine ⟨hk _ _ (Ne.symm dTI) hTI, D1.frame _ _ _ st1 fun b hb o e => hk b o (fun q => ?_) e, D2.frame _ _ _ st2 fun b hb o e => hk b o (fun q => ?_) e, ?_⟩
        · rcases List.mem_cons.mp hb with y | y
          · exact di1 (q.symm.trans y)
          · exact da1 (q.symm.trans (List.mem_singleton.mp y))
        · rcases List.mem_cons.mp hb with y | y
          · exact di2 (q.symm.trans y)
          · exact da2 (q.symm.trans (List.mem_singleton.mp y))
        · rcases hz with ⟨hz, u1, u2, hTO⟩ | ⟨T, f, oT, hz, hT, r1, r2, r3, r4⟩
          · exact .inl ⟨hk _ _ (Ne.symm dz) hz, u1, u2, hk _ _ (Ne.symm dTO) hTO⟩
          · exact .inr ⟨T, f, oT, hk _ _ (Ne.symm dz) hz, hk _ _ r4 hT, r1, r2, r3, r4⟩
      item := fun i s1 Q1 E1 hi st hds hQ => by
        obtain ⟨hTI, st1, st2, hz⟩ := st
        have lt : ∀ {c o}, s1.heap.get? c = some o → s1.heap.objs.size ≠ c := fun e => Nat.ne_of_gt (Heap.lt_size e)
        have g1 : s1.heap.objs.size ≠ i1 := by obtain ⟨_, e⟩ := D1.live _ _ st1; exact lt e
        have g2 : s1.heap.objs.size ≠ i2 := by obtain ⟨_, e⟩ := D2.live _ _ st2; exact lt e
        rcases hz with ⟨hz, u1, u2, hTO⟩ | ⟨T, f, oT, hz, hT, r1, r2, r3, r4⟩
        · refine wpAny_pyNext_zipD2_item S D1 D2 hz hTI hTO st1 st2 hi hi fun x1 x2 h' tk q1 q2 b1 b2 d1 d2 b5 b6 hk => ?_
          exact hQ s1.heap.objs.size _ _ h' tk ⟨q1, q2⟩ (tup_at b5) ⟨hk _ _ S.TIz S.TITO S.TIi1 S.TIi2 hTI, d1, d2, .inr ⟨s1.heap.objs.size, false, _, b1, b5, lt hz, g1, g2, Nat.ne_of_gt hds⟩⟩
            fun c o hc e => hk c o (fun x => hc (by simp [x])) (fun x => hc (by simp [x])) (fun x => hc (by simp [x])) (fun x => hc (by simp [x])) e
        · refine next_held S D1 D2 hz hT hTI st1 st2 hi fun x1 x2 h' tk q1 q2 b1 d1 d2 b5 hk => ?_
          exact hQ s1.heap.objs.size _ _ h' tk ⟨q1, q2⟩ (tup_at b5) ⟨hk _ _ S.TIz S.TIi1 S.TIi2 hTI, d1, d2, .inr ⟨T, true, oT, b1, hk _ _ r1 r2 r3 hT, r1, r2, r3, r4⟩⟩
            fun c o hc e => hk c o (fun x => hc (by simp [x])) (fun x => hc (by simp [x])) (fun x => hc (by simp [x])) e
      done := fun s1 Q1 E1 st hQ => by
        obtain ⟨hTI, st1, st2, hz⟩ := st
        rcases hz with ⟨hz, u1, u2, hTO⟩ | ⟨T, f, oT, hz, hT, r1, r2, r3, r4⟩
        · exact wpAny_pyNext_zipD2_end S D1 D2 hz hTI hTO st1 st2 (Nat.le_refl _) (Nat.le_refl _) (.inl rfl) fun h' tk hk => hQ h' tk fun c o hc e => hk c o (fun x => hc (by simp [x])) (fun x => hc (by simp [x])) (fun x => hc (by simp [x])) (fun x => hc (by simp [x])) e
        · exact stop_held S D1 hz hT hTI st1 fun h' hk => hQ h' s1.toks fun c o hc e => hk c o (fun x => hc (by simp [x])) (fun x => hc (by simp [x])) e }
end
end L4
end

section
set_option Elab.async false
set_option linter.all false
set_option maxRecDepth 100000
set_option maxHeartbeats 3200000
set_option autoImplicit false
/-! dict(zip(xs, ys)) as an expression. -/
namespace L4
open PySem L2 PySem.W

def tDZip (K : PySem.W.Frag) (ta : TA) : TE := fun σ H Q => ta σ H fun vs H1 => ∃ (k1 k2 : Kd) (a1 a2 : Addr) (bs : List Addr) (ks : List (List L2.Key)) (ys : List V), vs = [.ref a1, .ref a2] ∧ k1.sq K H1 a1 (bs.map V.ref) ∧ k2.sq K H1 a2 ys ∧
  ks.length = bs.length ∧ ys.length = bs.length ∧ bs.length ≤ 1000 ∧ ks.Nodup ∧ (∀ (j : Nat) (k : List L2.Key) (b : Addr), ks[j]? = some k → bs[j]? = some b → H1 b = some (.tup (k.map kV))) ∧ ∀ p, H1 p = none → Q (.ref p) (upd H1 p (.dT (ks.zip ys)))
theorem kt_zip {H : Hp} : ∀ {ks : List (List L2.Key)} {ys : List V} {bs : List Addr} {us : List Value}, ks.length = bs.length → ys.length = bs.length → Vals ys us → (∀ (j : Nat) (k : List L2.Key) (b : Addr), ks[j]? = some k → bs[j]? = some b → H b = some (.tup (k.map kV))) →
    KT H (ks.zip ys) (ks.zip (bs.zip us))
  | [], _, _, _, _, _, _, _ => by simp [List.zip]; exact .nil
  | _ :: _, _, [], _, h, _, _, _ => by simp at h
  | _ :: _, [], _ :: _, _, _, h, _, _ => by simp at h
  | k :: ks, y :: ys, b :: bs, _, h1, h2, .cons r rv, h => by
    simp only [List.zip_cons_cons]
    exact .cons ⟨rfl, h 0 k b rfl rfl, r⟩ (kt_zip (Nat.succ.inj h1) (Nat.succ.inj h2) rv fun j k b e1 e2 => h (j + 1) k b e1 e2)
theorem refs_vals : ∀ {bs : List Addr} {us : List Value}, Vals (bs.map V.ref) us → us = bs.map Value.ref
  | [], _, .nil => rfl
  | b :: bs, _, .cons r rv => by
    rw [refs_vals rv]
    cases r
    rfl
theorem pe_dzip {X : Cx} {e1 e2 : Expr} {ta : TA} {p1 p2 q1 pos : Pos} (hc : X.calm = true) (hu : X.A.units + 64 < cLine) (hg : Gl X "dict") (hm : X.mg "dict" = none) (hg2 : Gl X "zip") (hm2 : X.mg "zip" = none) (ha : PA X [e1, e2] ta)
    (hs : starEach [e1, e2] X.env = (false, eval e1 X.env) :: starEach [e2] X.env := by rfl) (hpl : (backTo q1 (starEach [e2] X.env)).any (·.1) = false := by rfl) :
    PE X (.Call (.Name "dict" p1) [.Call (.Name "zip" p2) [e1, e2] [] q1] [] pos) (tDZip X.K ta) := by
  refine ⟨fun pins s σ H Q I h => ?_⟩
  refine PyProof.Rows.Call_ (ld_blt I hg hm PyProof.Rows.boot_dict (PyProof.Rows.callWith_type1 (PyProof.Rows.args_cons ?_ rfl) rfl rfl))
  refine PyProof.Rows.Call_ (ld_blt I hg2 hm2 PyProof.Rows.boot_zip (PyProof.Rows.callWith_type1 (thn (ha.run q1 pins s σ H _ I h) fun us s1 ⟨vs, H1, I1, r1, qq⟩ => ?_) hs hpl))
  obtain ⟨k1, k2, a1, a2, bs, ks, ys, ex, hq1, hq2, lk, ly, lb, nd, tup, q⟩ := qq
  subst ex
  cases r1 with
  | cons rq r1 =>
    cases r1 with
    | cons rqq r1 =>
      cases r1
      cases rq
      cases rqq
      obtain ⟨its1, rv1, pk1, l1⟩ := k1.of_inv I1 hq1
      obtain ⟨its2, rv2, pk2, l2⟩ := k2.of_inv I1 hq2
      have e1 := refs_vals rv1
      subst e1
      have n2 : its2.length = bs.length := by rw [← rv2.length, ly]
      refine zip_begins2 (k1.begins a1 _) (k2.begins a2 _) pk1 pk2 fun h' hz hTI hTO g1 g2 hsz hk => PyProof.Rows.args_nil ?_
      have S := zip_sep2 (N := s1.heap.objs.size) (fp1 := [a1]) (fp2 := [a2]) (fun b hb => by rw [List.mem_singleton.mp hb]; exact l1) (fun b hb => by rw [List.mem_singleton.mp hb]; exact l2)
      have keep1 : k1.is h' a1 (bs.map Value.ref).toArray := (k1.begins a1 _).keeps s1.heap h' pk1 hk
      have keep2 : k2.is h' a2 its2.toArray := (k2.begins a2 _).keeps s1.heap h' pk2 hk
      have P := argZip (prog := X.prog) (w := X.w) (n := bs.length) k1 k2 S (Nat.ne_of_lt l1) (Nat.ne_of_lt (Nat.lt_of_lt_of_le l2 (Nat.le_add_right _ _))) (xs := (bs.map Value.ref).toArray) (ys := its2.toArray) (by simp) (by simp [n2])
        ⟨Nat.ne_of_lt (Nat.lt_of_lt_of_le l1 (Nat.le_add_right _ _)), Nat.ne_of_lt (Nat.lt_of_lt_of_le l2 (Nat.le_add_right _ _))⟩
      have kt : KT H1 (ks.zip ys) (ks.zip (bs.zip its2)) := kt_zip lk ly rv2 tup
      have notwr : ∀ {b : Addr}, b < s1.heap.objs.size → b ∉ [s1.heap.objs.size + 4, s1.heap.objs.size + 3, s1.heap.objs.size, s1.heap.objs.size + 1] := fun {b} hb m => by
        simp only [List.mem_cons, List.not_mem_nil, or_false] at m
        have far : ∀ k, b ≠ s1.heap.objs.size + k := fun k e => absurd (show s1.heap.objs.size + k < s1.heap.objs.size from e ▸ hb) (Nat.not_lt.mpr (Nat.le_add_right _ _))
        rcases m with m | m | m | m
        · exact far 4 m
        · exact far 3 m
        · exact far 0 m
        · exact far 1 m
      have lz : (ks.zip (bs.zip its2)).length = bs.length := by rw [List.length_zip, List.length_zip, lk, n2]; simp
      have nd2 : ((ks.zip (bs.zip its2)).map (·.1)).Nodup := by
        rw [List.map_fst_zip (by rw [List.length_zip, n2, lk]; simp)]
        exact nd
      have mem_tup : ∀ x ∈ ks.zip (bs.zip its2), H1 x.2.1 = some (.tup (x.1.map kV)) := by
        have gen : ∀ {l : List (List L2.Key × V)} {m : List (List L2.Key × Addr × Value)}, KT H1 l m → ∀ x ∈ m, H1 x.2.1 = some (.tup (x.1.map kV)) := by
          intro l m t
          induction t with
          | nil => intro x hx; exact nomatch hx
          | cons h _ ih =>
            intro x hx
            rcases List.mem_cons.mp hx with e | hx
            · subst e
              rw [← h.1]
              exact h.2.1
            · exact ih x hx
        exact gen kt
      have bsz : ∀ x ∈ ks.zip (bs.zip its2), x.2.1 < s1.heap.objs.size := fun x hx => by
        obtain ⟨o, _, _, h1, _⟩ := key_of I1.hok (mem_tup x hx)
        exact Heap.lt_size h1
      refine call_dict_pairsH (A := X.A) (s := { s1 with heap := h' }) (knd := tupleKind (mixKind X.prog X.w)) (ps := ks.zip (bs.zip its2)) P (I1.ok.hd hc) (tupleKind_room_in1 (A := X.A.in1) (by show X.A.units + 1 + 1 < cLine; omega)) ⟨hz, hTI, ⟨_, _, hTO⟩, Kd.it_of g1, Kd.it_of g2, keep1, keep2⟩ ⟨lz, fun i key v hr => ?_⟩ (fun h2 hk2 x hx => ?_) (Nat.le_trans lb (show 1000 ≤ sizeLine by decide)) fun h2 tk dd hk2 => ?_
      · obtain ⟨hr1, hr2⟩ := hr
        have hr1' : (bs.map Value.ref)[i]? = some key := by simpa using hr1
        have hr2' : its2[i]? = some v := by simpa using hr2
        rw [List.getElem?_map] at hr1'
        obtain ⟨b, hb, eb⟩ := Option.map_eq_some_iff.mp hr1'
        have il : i < ks.length := by rw [lk]; exact (List.getElem?_eq_some_iff.mp hb).1
        refine ⟨ks[i], b, ?_, eb.symm⟩
        rw [List.getElem?_zip_eq_some]
        refine ⟨List.getElem?_eq_getElem il, ?_⟩
        rw [List.getElem?_zip_eq_some]
        exact ⟨hb, hr2'⟩
      · obtain ⟨o, its, n, h1, r⟩ := key_of I1.hok (mem_tup x hx)
        have lt := Heap.lt_size h1
        refine ⟨o, its, n, hk2 _ _ (fun e => ?_) (notwr lt) (hk _ _ h1), r⟩
        exact absurd (show s1.heap.objs.size + 5 < s1.heap.objs.size from hsz ▸ e ▸ lt) (Nat.not_lt.mpr (Nat.le_add_right _ _))
      · rw [storedAllH_nil_of_nodup _ nd2] at dd
        have old : ∀ b o, s1.heap.get? b = some o → h2.get? b = some o := fun b o e => hk2 b o (notwr (Heap.lt_size e)) (hk b o e)
        have ge : s1.heap.objs.size ≤ h'.objs.size := by rw [hsz]; exact Nat.le_add_right _ _
        have ns : (h'.objs.size == sysModules) = false := beq_eq_false_iff_ne.mpr (Nat.ne_of_gt (Nat.lt_of_lt_of_le I1.big ge))
        have fresh : H1 h'.objs.size = none := I1.hok.fresh ge
        have lzy : (ks.zip ys).length ≤ sizeLine := by
          rw [List.length_zip, lk, ly, Nat.min_self]
          exact Nat.le_trans lb (show 1000 ≤ sizeLine by decide)
        obtain ⟨o, es, ep, d1, d2, d3, d4, d5, d6⟩ := dd
        have kt2 : KT (upd H1 h'.objs.size (.dT (ks.zip ys))) (ks.zip ys) (ks.zip (bs.zip its2)) := KT.keeps kt fun b zs e => by
          rw [upd_ne (ne_of_none e fresh)]
          exact e
        exact ⟨.ref h'.objs.size, upd H1 h'.objs.size (.dT (ks.zip ys)), I1.laid (t' := tk) (fun b u e => old b u e) ge (show ObjOk X.prog X.w _ _ _ (.dT (ks.zip ys)) from ⟨lzy, ns, ks.zip (bs.zip its2), kt2, o, es, ep, d1, d2, d3, d4, d6⟩), rfl, q _ fresh⟩
end L4
end

section
set_option Elab.async false
set_option linter.all false
set_option maxRecDepth 100000
set_option maxHeartbeats 1000000
set_option autoImplicit false
/-! More over pure data: dicts, sorts, what is walked. -/
namespace L4
open PySem L2
section
variable {K : PySem.W.Frag} {B : Hp} {W0 M N W : List Addr} {H0 H H' : Hp} {σ : L2.St} {ds ds1 : D4} {P : Post} {D : Ends} {t u : TS} {te ta tb tc tv ty : TE} {tr : TA} {tt : TT} {d x y z : PyData} {xs ys zs : List PyData} {es : List (List Key × PyData)}

/-! ### dicts -/
theorem depth_kD (k : List Key) : (kD k).depth ≤ 50 := by
  have h : ∀ k : List Key, PyData.depthAll (k.map keyD) ≤ 1 := fun k => by
    induction k with
    | nil => exact Nat.zero_le _
    | cons a r ih =>
      rw [List.map_cons]
      have e : PyData.depthAll (keyD a :: r.map keyD) = max (keyD a).depth (PyData.depthAll (r.map keyD)) := rfl
      rw [e]
      have d0 : (keyD a).depth ≤ 1 := by cases a <;> exact Nat.zero_le _
      omega
  have e : (kD k).depth = PyData.depthAll (k.map keyD) + 1 := rfl
  have := h k
  omega
/-- sorted(d) -/
theorem en_sortT {i l : Nat} (h : ds.sl[i]? = some (.lo l)) (h' : ds.st[l]? = some (.dt es)) (al : PySem.W.AllAlike (es.map fun p => kD p.1)) (so : PySem.W.Sortable (es.map fun p => kD p.1)) (hl : es.length ≤ 1000) : EnL K (tCB rSortT (tCons (tVar i) tNil)) ds (((es.map (·.1)).mergeSort kLe).map kD) := fun W N σ H S Q q => by
  obtain ⟨a, u, adr, e, aW, aN, ha, kvs, eu, r⟩ := S.own h h' rfl
  subst eu
  have ek : (kvs.map fun p => kD p.1) = es.map fun p => kD p.1 := by
    have e1 : (kvs.map fun p => kD p.1) = (kvs.map (·.1)).map kD := by rw [List.map_map]; rfl
    have e2 : (es.map fun p => kD p.1) = (es.map (·.1)).map kD := by rw [List.map_map]; rfl
    rw [e1, e2, r.keys]
  refine ⟨.ref a, getD_of e, a, kvs, rfl, ha, by rw [ek]; exact al, by rw [ek]; exact so, by rw [r.length]; exact hl, fun p _ => depth_kD p.1, fun p bs hp hb hk => ?_⟩
  have fr := Ex.new (o := .lst (bs.map V.ref)) hp
  rw [r.keys] at hk
  have lm : ((es.map (·.1)).mergeSort kLe).length = bs.length := by rw [List.length_mergeSort, List.length_map, hb, r.length]
  refine q p (bs.map V.ref) _ fr hp upd_same (RpAll.of_get (by rw [List.length_map, List.length_map, lm]) fun j v d hv hd => ?_)
  rw [List.getElem?_map] at hv hd
  obtain ⟨b, hb', eb⟩ := Option.map_eq_some_iff.mp hv
  obtain ⟨k, hk', ed⟩ := Option.map_eq_some_iff.mp hd
  subst eb ed
  have hb2 := hk j k b hk' hb'
  have bp : b ≠ p := ne_of_none hb2 hp
  have bW : b ∉ W := S.al.tup hb2
  have up : cut (upd H p (.lst (bs.map V.ref))) (p :: W) b = some (.tup (k.map kV)) := by
    rw [cut_out (fun m => (List.mem_cons.mp m).elim bp bW), upd_ne bp]
    exact hb2
  exact .tup up (RpAll.of_key k)
end
end L4
end

section
set_option Elab.async false
set_option linter.all false
set_option maxRecDepth 100000
set_option maxHeartbeats 1000000
set_option autoImplicit false
/-! What is walked: texts, zips, enumerate; best, sets, sorts; chains. -/
namespace L4
open PySem L2
def Kd.D : Kd → List PyData → PyData
  | .l => .list
  | .t => .tuple
section
variable {K : PySem.W.Frag} {B : Hp} {W0 M N W : List Addr} {H0 H H' : Hp} {σ : L2.St} {ds ds1 : D4} {P : Post} {D : Ends} {t u : TS} {te ta tb tc tv ty : TE} {tr : TA} {tt : TT} {d x y z : PyData} {xs ys zs : List PyData} {es : List (List Key × PyData)}
def ErS (K : PySem.W.Frag) (k : Kd) (te : TE) (ds : D4) (xs : List PyData) : Prop := match k with
  | .l => ErL K te ds xs
  | .t => ErT K te ds xs
theorem Ev.rs {k : Kd} (h : Ev K te ds (k.D xs)) : ErS K k te ds xs := by
  cases k with
  | l => exact Ev.rl h
  | t => exact Ev.rt h
theorem ErS.run {k : Kd} (h : ErS K k te ds xs) : ∀ W N σ H, Stt K W N H σ ds → ∀ Q : VK, (∀ a vs H', Ex H H' → k.sq K H' a vs → RpAll K (cut H' W) vs xs → Q (.ref a) H') → te σ H Q := by
  cases k with
  | l => exact h
  | t => exact h
theorem sq_ex {k : Kd} {a : Addr} {vs : List V} (e : Ex H H') (h : k.sq K H a vs) : k.sq K H' a vs := by
  cases k with
  | l => exact ex_l e h
  | t => exact ex_t e h
/-- stands among what may not change -/
theorem Ev.runS {k : Kd} (h : Ev K te ds (k.D xs)) : ∀ W N σ H, Stt K W N H σ ds → ∀ Q : VK, (∀ a vs H', Ex H H' → k.sq K (cut H' W) a vs → RpAll K (cut H' W) vs xs → Q (.ref a) H') → te σ H Q := fun W N σ H S Q q =>
  h W N σ H S _ fun v H' e r => by
    cases k with
    | l =>
      cases r with
      | lst h1 r1 => exact q _ _ H' e (.inl (.inl h1)) r1
    | t =>
      cases r with
      | tup h1 r1 => exact q _ _ H' e (.inl (.inl h1)) r1
theorem eI_str {s : Str} (h : Ev K te ds (.str s)) : EI K (iStr te) ds (s.cps.toList.map fun c => .str ⟨#[c]⟩) := fun W N σ H S R q =>
  h W N σ H S _ fun v H1 e r => by
    cases r
    refine ⟨s, rfl, q _ H1 e ⟨fun i H2 W' hi _ => ?_, fun H2 W' _ => ?_, fun i H2 W' x H' d hd _ A y => ?_⟩⟩
    · show i < s.cps.size
      simpa using hi
    · show s.cps.size ≤ _
      simp
    · obtain ⟨e', c, hc, ev⟩ := y
      subst e' ev
      rw [List.getElem?_map] at hd
      obtain ⟨c', hc', ed⟩ := Option.map_eq_some_iff.mp hd
      subst ed
      have : c = c' := by
        rw [Array.getElem?_toList] at hc'
        exact Option.some.inj (hc.symm.trans hc')
      subst this
      exact ⟨Ex.refl _, .str _⟩
def zipD (xs ys : List PyData) : List PyData := (xs.zip ys).map fun p => .tuple [p.1, p.2]
def zip3D (xs ys zs : List PyData) : List PyData := (xs.zip (ys.zip zs)).map fun p => .tuple [p.1, p.2.1, p.2.2]
def enumD (xs : List PyData) : List PyData := (xs.zipIdx).map fun p => .tuple [.int (p.2 : Nat), p.1]
theorem zipD_len : (zipD xs ys).length = min xs.length ys.length := by unfold zipD; rw [List.length_map, List.length_zip]
theorem zip3D_len : (zip3D xs ys zs).length = min xs.length (min ys.length zs.length) := by unfold zip3D; rw [List.length_map, List.length_zip, List.length_zip]
theorem enumD_len : (enumD xs).length = xs.length := by unfold enumD; rw [List.length_map, List.length_zipIdx]
theorem zipD_at {i : Nat} (h : (zipD xs ys)[i]? = some d) : ∃ x y, xs[i]? = some x ∧ ys[i]? = some y ∧ d = .tuple [x, y] := by
  unfold zipD at h
  rw [List.getElem?_map] at h
  obtain ⟨⟨x, y⟩, h1, h2⟩ := Option.map_eq_some_iff.mp h
  rw [List.getElem?_zip_eq_some] at h1
  exact ⟨x, y, h1.1, h1.2, h2.symm⟩
theorem zip3D_at {i : Nat} (h : (zip3D xs ys zs)[i]? = some d) : ∃ x y z, xs[i]? = some x ∧ ys[i]? = some y ∧ zs[i]? = some z ∧ d = .tuple [x, y, z] := by
  unfold zip3D at h
  rw [List.getElem?_map] at h
  obtain ⟨⟨x, y, z⟩, h1, h2⟩ := Option.map_eq_some_iff.mp h
  rw [List.getElem?_zip_eq_some, List.getElem?_zip_eq_some] at h1
  exact ⟨x, y, z, h1.1, h1.2.1, h1.2.2, h2.symm⟩
theorem enumD_at {i : Nat} (h : (enumD xs)[i]? = some d) : ∃ x, xs[i]? = some x ∧ d = .tuple [.int (i : Nat), x] := by
  unfold enumD at h
  rw [List.getElem?_map] at h
  obtain ⟨⟨x, j⟩, h1, h2⟩ := Option.map_eq_some_iff.mp h
  rw [List.getElem?_zipIdx] at h1
  obtain ⟨x', h3, h4⟩ := Option.map_eq_some_iff.mp h1
  cases h4
  exact ⟨x, h3, by rw [← h2]; simp⟩
theorem get_lt {α : Type} {l : List α} {i : Nat} (h : i < l.length) : ∃ x, l[i]? = some x := ⟨l[i], List.getElem?_eq_getElem h⟩
/-- a new tuple of what stands -/
theorem new_tup {T : Addr} {vs : List V} (A : Al W H) (hT : H T = none) (r : RpAll K (cut H W) vs xs) : Ex H (upd H T (.tup vs)) ∧ Rp K (cut (upd H T (.tup vs)) W) (.ref T) (.tuple xs) := ⟨Ex.new hT, .tup (cut_new A hT) (r.mono (cut_mono (Ex.new hT)))⟩
theorem z2_go {k1 k2 : Kd} {a1 a2 : Addr} {us vs : List V} {i : Nat} (s1 : k1.sq K H a1 us) (s2 : k2.sq K H a2 vs) (l1 : us.length = xs.length) (l2 : vs.length = ys.length) (hi : i < (zipD xs ys).length) : (ItZ2 K k1 a1 k2 a2).go i H := by
  rw [zipD_len] at hi
  obtain ⟨x, hx⟩ := get_lt (l := us) (i := i) (by omega)
  obtain ⟨y, hy⟩ := get_lt (l := vs) (i := i) (by omega)
  exact ⟨us, vs, x, y, s1, s2, hx, hy⟩
theorem z2_stop {k1 k2 : Kd} {a1 a2 : Addr} {us vs : List V} (s1 : k1.sq K H a1 us) (s2 : k2.sq K H a2 vs) (l1 : us.length = xs.length) (l2 : vs.length = ys.length) : (ItZ2 K k1 a1 k2 a2).stop (zipD xs ys).length H := by
  rw [zipD_len]
  exact ⟨us, vs, s1, s2, by omega, by omega, by omega⟩
theorem z2_yld {k1 k2 : Kd} {a1 a2 : Addr} {us vs : List V} {i : Nat} {v : V} (s1 : k1.sq K H a1 us) (s2 : k2.sq K H a2 vs) (r1 : RpAll K (cut H W) us xs) (r2 : RpAll K (cut H W) vs ys) (A : Al W H) (hd : (zipD xs ys)[i]? = some d) (y : (ItZ2 K k1 a1 k2 a2).yld i H v H') : Ex H H' ∧ Rp K (cut H' W) v d := by
  obtain ⟨T, w1, w2, e, hT, e', h1, h2⟩ := y
  subst e e'
  obtain ⟨d1, d2, g1, g2, ed⟩ := zipD_at hd
  subst ed
  obtain ⟨u1, hu1, ru1⟩ := r1.get' g1
  obtain ⟨u2, hu2, ru2⟩ := r2.get' g2
  have e1 : w1 = u1 := Option.some.inj ((h1 us s1).symm.trans hu1)
  have e2 : w2 = u2 := Option.some.inj ((h2 vs s2).symm.trans hu2)
  subst e1 e2
  exact new_tup A hT (.cons ru1 (.cons ru2 .nil))
theorem eIr_z2 {k1 k2 : Kd} (h1 : ErS K k1 ta ds xs) (h2 : ErS K k2 tb ds ys) : EIr K (iZip2 K (tCons ta (tCons tb tNil))) ds (zipD xs ys) := fun W N σ H S R q =>
  h1.run W N σ H S _ fun a1 us H1 e1 s1 r1 => h2.run W N σ H1 (S.mono e1) _ fun a2 vs H2 e2 s2 r2 =>
    ⟨k1, k2, a1, a2, us, vs, rfl, sq_ex e2 s1, s2, q _ H2 (e1.trans e2) ⟨fun i H3 hi e3 => z2_go (sq_ex e3 (sq_ex e2 s1)) (sq_ex e3 s2) r1.length r2.length hi, fun H3 e3 => z2_stop (sq_ex e3 (sq_ex e2 s1)) (sq_ex e3 s2) r1.length r2.length,
      fun i H3 W' v H4 d hd e3 c A y => z2_yld (sq_ex e3 (sq_ex e2 s1)) (sq_ex e3 s2) ((r1.mono (cut_mono e2)).mono c) (r2.mono c) A hd y⟩⟩
theorem eI_z2 {k1 k2 : Kd} (h1 : Ev K ta ds (k1.D xs)) (h2 : Ev K tb ds (k2.D ys)) : EI K (iZip2 K (tCons ta (tCons tb tNil))) ds (zipD xs ys) := fun W N σ H S R q =>
  h1.runS W N σ H S _ fun a1 us H1 e1 s1 r1 => h2.runS W N σ H1 (S.mono e1) _ fun a2 vs H2 e2 s2 r2 => by
    have s1' := sq_ex (cut_mono (W := W) e2) s1
    exact ⟨k1, k2, a1, a2, us, vs, rfl, sq_ex cut_ex s1', sq_ex cut_ex s2, q _ H2 (e1.trans e2) ⟨fun i H3 W' hi c => z2_go (sq_ex cut_ex (sq_ex c s1')) (sq_ex cut_ex (sq_ex c s2)) r1.length r2.length hi, fun H3 W' c => z2_stop (sq_ex cut_ex (sq_ex c s1')) (sq_ex cut_ex (sq_ex c s2)) r1.length r2.length,
      fun i H3 W' v H4 d hd c A y => z2_yld (sq_ex cut_ex (sq_ex c s1')) (sq_ex cut_ex (sq_ex c s2)) ((r1.mono (cut_mono e2)).mono c) (r2.mono c) A hd y⟩⟩
theorem eIr_z3 {k1 k2 k3 : Kd} (h1 : ErS K k1 ta ds xs) (h2 : ErS K k2 tb ds ys) (h3 : ErS K k3 tc ds zs) : EIr K (iZip3 K (tCons ta (tCons tb (tCons tc tNil)))) ds (zip3D xs ys zs) := fun W N σ H S R q =>
  h1.run W N σ H S _ fun a1 us H1 e1 s1 r1 => h2.run W N σ H1 (S.mono e1) _ fun a2 vs H2 e2 s2 r2 => h3.run W N σ H2 ((S.mono e1).mono e2) _ fun a3 ws H3 e3 s3 r3 => by
    have t1 := sq_ex e3 (sq_ex e2 s1)
    have t2 := sq_ex e3 s2
    have l1 := r1.length
    have l2 := r2.length
    have l3 := r3.length
    refine ⟨k1, k2, k3, a1, a2, a3, us, vs, ws, rfl, t1, t2, s3, q _ H3 ((e1.trans e2).trans e3) ⟨fun i H4 hi e4 => ?_, fun H4 e4 => ?_, fun i H4 W' v H5 d hd e4 c A y => ?_⟩⟩
    · rw [zip3D_len] at hi
      obtain ⟨x, hx⟩ := get_lt (l := us) (i := i) (by omega)
      obtain ⟨y, hy⟩ := get_lt (l := vs) (i := i) (by omega)
      obtain ⟨z, hz⟩ := get_lt (l := ws) (i := i) (by omega)
      exact ⟨us, vs, ws, x, y, z, sq_ex e4 t1, sq_ex e4 t2, sq_ex e4 s3, hx, hy, hz⟩
    · rw [zip3D_len]
      exact ⟨us, vs, ws, sq_ex e4 t1, sq_ex e4 t2, sq_ex e4 s3, by omega, by omega, by omega, by omega⟩
    · obtain ⟨T, w1, w2, w3, e, hT, e', g1, g2, g3⟩ := y
      subst e e'
      obtain ⟨d1, d2, d3, f1, f2, f3, ed⟩ := zip3D_at hd
      subst ed
      obtain ⟨u1, hu1, ru1⟩ := (((r1.mono (cut_mono e2)).mono (cut_mono e3)).mono c).get' f1
      obtain ⟨u2, hu2, ru2⟩ := ((r2.mono (cut_mono e3)).mono c).get' f2
      obtain ⟨u3, hu3, ru3⟩ := (r3.mono c).get' f3
      have q1 : w1 = u1 := Option.some.inj ((g1 us (sq_ex e4 t1)).symm.trans hu1)
      have q2 : w2 = u2 := Option.some.inj ((g2 vs (sq_ex e4 t2)).symm.trans hu2)
      have q3 : w3 = u3 := Option.some.inj ((g3 ws (sq_ex e4 s3)).symm.trans hu3)
      subst q1 q2 q3
      exact new_tup A hT (.cons ru1 (.cons ru2 (.cons ru3 .nil)))
theorem en_yld {k : Kd} {a : Addr} {us : List V} {i : Nat} {v : V} (s1 : k.sq K H a us) (r1 : RpAll K (cut H W) us xs) (A : Al W H) (hd : (enumD xs)[i]? = some d) (y : (ItE K k a).yld i H v H') : Ex H H' ∧ Rp K (cut H' W) v d := by
  obtain ⟨T, w1, e, hT, e', h1⟩ := y
  subst e e'
  obtain ⟨d1, g1, ed⟩ := enumD_at hd
  subst ed
  obtain ⟨u1, hu1, ru1⟩ := r1.get' g1
  have e1 : w1 = u1 := Option.some.inj ((h1 us s1).symm.trans hu1)
  subst e1
  exact new_tup A hT (.cons (.int _) (.cons ru1 .nil))
theorem eIr_en {k : Kd} (h1 : ErS K k ta ds xs) : EIr K (iEn K (tCons ta tNil)) ds (enumD xs) := fun W N σ H S R q =>
  h1.run W N σ H S _ fun a us H1 e1 s1 r1 => ⟨k, a, us, rfl, s1, q _ H1 e1 ⟨fun i H3 hi e3 => by
      rw [enumD_len] at hi
      obtain ⟨x, hx⟩ := get_lt (l := us) (i := i) (by rw [r1.length]; exact hi)
      exact ⟨us, x, sq_ex e3 s1, hx⟩, fun H3 e3 => ⟨us, sq_ex e3 s1, by rw [enumD_len, r1.length]⟩,
      fun i H3 W' v H4 d hd e3 c A y => en_yld (sq_ex e3 s1) (r1.mono c) A hd y⟩⟩
theorem eI_en {k : Kd} (h1 : Ev K ta ds (k.D xs)) : EI K (iEn K (tCons ta tNil)) ds (enumD xs) := fun W N σ H S R q =>
  h1.runS W N σ H S _ fun a us H1 e1 s1 r1 => ⟨k, a, us, rfl, sq_ex cut_ex s1, q _ H1 e1 ⟨fun i H3 W' hi c => by
      rw [enumD_len] at hi
      obtain ⟨x, hx⟩ := get_lt (l := us) (i := i) (by rw [r1.length]; exact hi)
      exact ⟨us, x, sq_ex cut_ex (sq_ex c s1), hx⟩, fun H3 W' c => ⟨us, sq_ex cut_ex (sq_ex c s1), by rw [enumD_len, r1.length]⟩,
      fun i H3 W' v H4 d hd c A y => en_yld (sq_ex cut_ex (sq_ex c s1)) (r1.mono c) A hd y⟩⟩

/-! ### a tuple turned about; sets; best -/
theorem ev_revT (h : Ev K te ds (.tuple xs)) : Ev K (tRevT K te) ds (.tuple xs.reverse) := fun W N σ H S Q q =>
  h W N σ H S _ fun v H1 e1 r => by
    cases r with
    | @tup a vs _ h1 r1 => exact ⟨a, vs, rfl, .inl (.inl (cut_ex _ _ h1)), fun p hp => q _ _ (e1.trans (Ex.new hp)) (.tup (cut_new (S.al.mono e1) hp) (r1.reverse.mono (cut_mono (Ex.new hp))))⟩
theorem ev_lenS {k : Kd} {ss : List Str} (h : ErS K k te ds (ss.map .str)) (nd : ss.Nodup) (hl : ss.length ≤ 1000) : Ev K (tLenS K te) ds (.int ss.length) := fun W N σ H S Q q =>
  h.run W N σ H S _ fun a vs H1 e1 s1 r => by
    have e := r.strs
    subst e
    exact ⟨k, a, ss, rfl, s1, nd, hl, q _ H1 e1 (.int _)⟩
theorem pairwise_lt_unique : ∀ {l m : List Int}, l.Pairwise (· < ·) → m.Pairwise (· < ·) → (∀ k, k ∈ l ↔ k ∈ m) → l = m
  | [], [], _, _, _ => rfl
  | [], b :: m, _, _, h => absurd ((h b).mpr List.mem_cons_self) (by simp)
  | a :: l, [], _, _, h => absurd ((h a).mp List.mem_cons_self) (by simp)
  | a :: l, b :: m, h1, h2, h => by
    obtain ⟨p1, p1'⟩ := List.pairwise_cons.mp h1
    obtain ⟨p2, p2'⟩ := List.pairwise_cons.mp h2
    have hab : a = b := by
      have ha := (h a).mp List.mem_cons_self
      have hb := (h b).mpr List.mem_cons_self
      rcases List.mem_cons.mp ha with e | ha
      · exact e
      · rcases List.mem_cons.mp hb with e | hb
        · exact e.symm
        · have := p1 b hb
          have := p2 a ha
          omega
    subst hab
    rw [pairwise_lt_unique p1' p2' fun k => ⟨fun hk => ?_, fun hk => ?_⟩]
    · have := (h k).mp (List.mem_cons_of_mem _ hk)
      rcases List.mem_cons.mp this with e | q
      · have := p1 k hk; omega
      · exact q
    · have := (h k).mpr (List.mem_cons_of_mem _ hk)
      rcases List.mem_cons.mp this with e | q
      · have := p2 k hk; omega
      · exact q
/-- sorted(set(whole numbers)) -/
theorem en_sortSet {w : World} {k : Kd} {ns ms : List Int} (h : ErS K k te ds (ns.map .int)) (hl : ns.length < 63) (hm : ms.Pairwise (· < ·)) (he : ∀ k, k ∈ ms ↔ k ∈ ns) : EnL K (tCB (rSortedSet w) (tCons (tCB (rSetI K w) (tCons te tNil)) tNil)) ds (ms.map .int) := fun W N σ H S Q q =>
  h.run W N σ H S _ fun a vs H1 e1 s1 r => by
    have e := r.ints
    subst e
    refine ⟨k, a, ns, rfl, s1, by unfold scanBound; omega, fun p c hp hc => ?_⟩
    refine ⟨p, fun j => decide (j ∈ ns), c, rfl, upd_same, by omega, fun ms' p2 h1 h2 h3 hp2 => ?_⟩
    have em : ms' = ms := pairwise_lt_unique h1 hm fun k => (h2 k).trans (by rw [he k]; simp)
    subst em
    exact q p2 _ _ ((e1.trans (Ex.new hp)).trans (Ex.new hp2)) ((e1.trans (Ex.new hp)).back hp2) upd_same (RpAll.of_ints ms')
end
end L4
end

section
set_option Elab.async false
set_option linter.all false
set_option maxRecDepth 100000
set_option maxHeartbeats 1000000
set_option autoImplicit false
/-! best of data, == of a list that is read, chains, list(range). -/
namespace L4
open PySem L2
section
variable {K : PySem.W.Frag} {B : Hp} {W0 M N W : List Addr} {H0 H H' : Hp} {σ : L2.St} {ds ds1 : D4} {P : Post} {t u : TS} {te ta tb tc tv ty : TE} {tr : TA} {tt : TT} {d x y z : PyData} {xs ys zs : List PyData} {es : List (List Key × PyData)}
theorem RpAll.dpH {W : List Addr} {H : Hp} {vs : List V} (r : RpAll K (cut H W) vs xs) (c : PyData.canLayAll0 xs = true) : DpAll K H vs xs := (r.mono cut_ex).dp c
theorem ev_best {best : PyData → List PyData → PyData} (h : ErL K te ds (d :: xs)) (c : PyData.canLayAll0 (d :: xs) = true) (al : PySem.W.AlikeAll (d :: xs)) (dp : PyData.depthAll (d :: xs) ≤ 60) : Ev K (tCB (rBestD K best) (tCons te tNil)) ds (best d xs) :=
  ev_cbR h fun W H a vs A sq r Q q => ⟨a, vs, d, xs, rfl, sq, r.dpH c, c, al, dp, fun i v hv hd => by
    obtain ⟨d', hd', rv⟩ := r.get hv
    rw [hd] at hd'
    cases hd'
    exact q v H (Ex.refl H) rv⟩
theorem ev_eqR {e : PyData} (h : ErL K ta ds xs) (hb : Ev K tb ds e) (h1 : SeqAt.shaped (.list xs) = true) (h2 : SeqAt.shaped e = true) : Ev K (tOp (rEqD K) ta tb) ds (.bool (PyData.eqv (.list xs) e)) := fun W N σ H S Q q =>
  h W N σ H S _ fun a vs H1 e1 s1 r1 => hb W N σ H1 (S.mono e1) _ fun u H2 e2 r2 => by
    have c : PyData.canLayAll0 xs = true := by
      have q := SeqAt.canLay_of_shaped h1
      rw [canLay_list] at q
      exact q
    exact ⟨.list xs, e, .lst (ex_l e2 s1) ((r1.mono (cut_mono e2)).dpH c), r2.dpH h2, h1, h2, q _ H2 (e1.trans e2) (.bl _)⟩
theorem ev_chain {r r' : R2} {b c : Bool} (ha : Ev K ta ds x) (hb : Ev K tb ds y) (h1 : RD K r x y (.bool b)) (hc : b = true → Ev K tc ds z) (h2 : b = true → RD K r' y z (.bool c)) : Ev K (tChain r r' ta tb tc) ds (.bool (b && c)) := fun W N σ H S Q q =>
  ha W N σ H S _ fun v H1 e1 r1 => hb W N σ H1 (S.mono e1) _ fun u H2 e2 r2 => h1 W H2 v u ((S.al.mono e1).mono e2) (r1.mono (cut_mono e2)) r2 _ fun w H3 e3 r3 => by
    cases r3
    refine ⟨b, rfl, ?_⟩
    cases b with
    | true =>
      show tc σ H3 _
      exact hc rfl W N σ H3 (((S.mono e1).mono e2).mono e3) _ fun v4 H4 e4 r4 => h2 rfl W H4 u v4 ((((S.al.mono e1).mono e2).mono e3).mono e4) ((r2.mono (cut_mono e3)).mono (cut_mono e4)) r4 Q fun w5 H5 e5 r5 => q w5 H5 ((((e1.trans e2).trans e3).trans e4).trans e5) r5
    | false =>
      show Q (.bl false) H3
      exact q _ H3 ((e1.trans e2).trans e3) (.bl false)
/-- a chain whose middle part is the item of a list that is read: by Ev of the item -/
theorem et_chain {r r' : R2} {b c : Bool} (ha : Ev K ta ds x) (hb : Ev K tb ds y) (h1 : RD K r x y (.bool b)) (hc : b = true → Ev K tc ds z) (h2 : b = true → RD K r' y z (.bool c)) : Et K (tTest (tChain r r' ta tb tc)) ds (b && c) := et_test (ev_chain ha hb h1 hc h2)
theorem en_listRg {n : Int} (h : Ev K te ds (.int n)) (h0 : 0 ≤ n) (h1 : n ≤ 100000) : EnL K (tLstRg (tRg1 te)) ds (intsTo n.toNat) := fun W N σ H S Q q =>
  h W N σ H S _ fun v H1 e1 r1 => by
    cases r1
    refine ⟨n, rfl, RgOk.of_le (Int.le_refl 0) (by omega) (by omega) h0, fun p hp => q p _ _ (e1.trans (Ex.new hp)) (e1.back hp) upd_same ?_⟩
    unfold rgV intsTo
    rw [Int.sub_zero]
    have gen : ∀ l : List Nat, RpAll K (cut (upd H1 p (.lst ((List.range n.toNat).map fun i => V.int (0 + (i : Nat))))) (p :: W)) (l.map fun i => V.int (0 + (i : Nat))) (l.map fun (i : Nat) => PyData.int i) := fun l => by
      induction l with
      | nil => exact .nil
      | cons a r ih =>
        refine .cons ?_ ih
        have e : (0 + (a : Int)) = a := by omega
        show Rp K _ (V.int (0 + (a : Int))) (PyData.int a)
        rw [e]
        exact .int _
    exact gen _
end
end L4
end

section
set_option Elab.async false
set_option linter.all false
set_option maxRecDepth 100000
set_option autoImplicit false
/-! The rules with K told apart (within a comprehension's block). -/
namespace L4
open PySem L2
section
variable {X : Cx} (K : PySem.W.Frag)
theorem ko_add (h : X.K = K := by rfl) : OpR X (binaryOp .Add) (gAddT K) := h ▸ op_gAdd
theorem ko_lt (hu : X.A.units < cLine) (h : X.K = K := by rfl) : OpR X (compareOp .Lt) (fun x y H Q => rI0 (fun i j => .bl (decide (i < j))) x y H Q ∨ rLtT K x y H Q) := by subst h; exact op_gLt hu
theorem ko_in (hu : X.A.units + 65 < cLine) (h : X.K = K := by rfl) : OpR X (compareOp .In) (gIn K) := h ▸ op_gIn hu
theorem ko_nin (hu : X.A.units + 65 < cLine) (h : X.K = K := by rfl) : OpR X (compareOp .NotIn) (gNotIn K) := h ▸ op_gNotIn hu
theorem ko_eq (hu : X.A.units + 64 < cLine) (h : X.K = K := by rfl) : OpR X (compareOp .Eq) (rEqD K) := h ▸ op_eqD hu
theorem ko_ne (hu : X.A.units + 64 < cLine) (h : X.K = K := by rfl) : OpR X (compareOp .NotEq) (rNeD K) := h ▸ op_neD hu
theorem ki_seq (h : X.K = K := by rfl) : IxR X (rIx K) := h ▸ ix_seq
theorem ks_g (h : X.K = K := by rfl) : SlR X (gSl K) := h ▸ sl_g
theorem kc_len (h : X.K = K := by rfl) : CallR X (.builtin "len") (gLen K) := h ▸ cr_gLen
theorem kc_isi (h : X.K = K := by rfl) : CallR X (.builtin "isinstance") (rIsi K) := h ▸ call_isi
theorem kc_sum (hc : X.calm = true) (h : X.K = K := by rfl) : CallR X (.builtin "sum") (rSum K) := h ▸ cr_sum hc
theorem kc_max (hc : X.calm = true) (h : X.K = K := by rfl) : CallR X (.builtin "max") (rMax K) := h ▸ cr_max hc
theorem kc_all (hc : X.calm = true) (h : X.K = K := by rfl) : CallR X (.builtin "all") (rAll K) := h ▸ cr_all hc
theorem kc_any (hc : X.calm = true) (h : X.K = K := by rfl) : CallR X (.builtin "any") (rAny K) := h ▸ cr_any hc
theorem kc_minD (hc : X.calm = true) (hu : X.A.units + 64 < cLine) (h : X.K = K := by rfl) : CallR X (.builtin "min") (rBestD K PySem.W.minD) := h ▸ cr_minD hc hu
theorem kc_maxD (hc : X.calm = true) (hu : X.A.units + 64 < cLine) (h : X.K = K := by rfl) : CallR X (.builtin "max") (rBestD K PySem.W.maxD) := h ▸ cr_maxD hc hu
theorem kc_tuple (h : X.K = K := by rfl) : CallR X (.type "tuple") (gTuple K) := h ▸ cr_gTuple
theorem kc_list (h : X.K = K := by rfl) : CallR X (.type "list") (gList K) := h ▸ cr_gList
theorem kc_setI (w : World) (hc : X.calm = true) (h : X.K = K := by rfl) (hw : X.w = w := by rfl) : CallR X (.type "set") (rSetI K w) := by subst h hw; exact cr_setI hc
theorem kc_sortedSet (w : World) (hc : X.calm = true) (hw : X.w = w := by rfl) : CallR X (.builtin "sorted") (rSortedSet w) := by subst hw; exact cr_sortedSet hc
theorem kp_lenS {a : Expr} {ta : TE} {p p2 q pos : Pos} (hc : X.calm = true) (hg : Gl X "len") (hm : X.mg "len" = none) (hg2 : Gl X "set") (hm2 : X.mg "set" = none) (ha : PE X a ta) (h : X.K = K := by rfl)
    (na : starEach [a] X.env = (false, eval a X.env) :: starEach [] X.env := by rfl) : PE X (.Call (.Name "len" p) [.Call (.Name "set" p2) [a] [] q] [] pos) (tLenS K ta) := h ▸ pe_lenS hc hg hm hg2 hm2 ha na
theorem kp_revT {e : Expr} {te : TE} {k : Nat} {p1 p2 p3 pos : Pos} (he : PE X e te) (h : X.K = K := by rfl) : PE X (.Subscript e (.Slice none none (some (.UnaryOp .USub (.Constant (.int 1) k p1) p2)) p3) pos) (tRevT K te) := h ▸ pe_revT he
theorem kp_dzip {e1 e2 : Expr} {ta : TA} {p1 p2 q1 pos : Pos} (hc : X.calm = true) (hu : X.A.units + 64 < cLine) (hg : Gl X "dict") (hm : X.mg "dict" = none) (hg2 : Gl X "zip") (hm2 : X.mg "zip" = none) (ha : PA X [e1, e2] ta) (h : X.K = K := by rfl)
    (hs : starEach [e1, e2] X.env = (false, eval e1 X.env) :: starEach [e2] X.env := by rfl) (hpl : (backTo q1 (starEach [e2] X.env)).any (·.1) = false := by rfl) :
    PE X (.Call (.Name "dict" p1) [.Call (.Name "zip" p2) [e1, e2] [] q1] [] pos) (tDZip K ta) := h ▸ pe_dzip hc hu hg hm hg2 hm2 ha hs hpl
theorem kw_seq {tg l : Expr} {tl : TE} (hl : PE X l tl) (h : X.K = K := by rfl) : PI X tg l (iSeq K tl) := h ▸ pi_seq hl
theorem kw_z2 {e1 e2 : Expr} {ta : TA} {p pos tpos : Pos} {elts : List Expr} {kk : Nat} (hg : Gl X "zip") (hm : X.mg "zip" = none) (ha : PA X [e1, e2] ta) (h : X.K = K := by rfl)
    (hs : starEach [e1, e2] X.env = (false, eval e1 X.env) :: starEach [e2] X.env := by rfl) (hpl : (backTo pos (starEach [e2] X.env)).any (·.1) = false := by rfl) :
    PI X (.Tuple elts kk tpos) (.Call (.Name "zip" p) [e1, e2] [] pos) (iZip2 K ta) := h ▸ pi_z2 hg hm ha hs hpl
theorem kw_z3 {e1 e2 e3 : Expr} {ta : TA} {p pos tpos : Pos} {elts : List Expr} {kk : Nat} (hg : Gl X "zip") (hm : X.mg "zip" = none) (ha : PA X [e1, e2, e3] ta) (h : X.K = K := by rfl)
    (hs : starEach [e1, e2, e3] X.env = (false, eval e1 X.env) :: starEach [e2, e3] X.env := by rfl) (hpl : (backTo pos (starEach [e2, e3] X.env)).any (·.1) = false := by rfl) :
    PI X (.Tuple elts kk tpos) (.Call (.Name "zip" p) [e1, e2, e3] [] pos) (iZip3 K ta) := h ▸ pi_z3 hg hm ha hs hpl
theorem kw_en {e : Expr} {ta : TA} {p pos tpos : Pos} {elts : List Expr} {kk : Nat} (hg : Gl X "enumerate") (hm : X.mg "enumerate" = none) (ha : PA X [e] ta) (h : X.K = K := by rfl) (hs : starEach [e] X.env = [(false, eval e X.env)] := by rfl) :
    PI X (.Tuple elts kk tpos) (.Call (.Name "enumerate" p) [e] [] pos) (iEn K ta) := h ▸ pi_en hg hm ha hs
end
end L4
end

section
set_option Elab.async false
set_option linter.all false
set_option maxRecDepth 100000
set_option autoImplicit false
/-! Statements one behind the other, in short. -/
namespace L4
open PySem L2
section
variable {K : PySem.W.Frag} {ds ds1 : D4} {P : Post} {t u v : TS} {te ta tb tc tv ty : TE} {tr : TA} {tt : TT} {d x y z : PyData} {xs ys zs : List PyData} {es : List (List Key × PyData)} {wi : TI}
theorem lt_of_some {α : Type} {l : List α} {i : Nat} (h : l[i]?.isSome = true) : i < l.length := by
  cases q : l[i]? with
  | none => rw [q] at h; cases h
  | some x => exact (List.getElem?_eq_some_iff.mp q).1
theorem q_asg {i : Nat} {s : Rs} (h : Ek K te ds s) (n : Sx K u (ds.asg i s) P) (hi : ds.sl[i]?.isSome = true := by rfl) : Sx K (tSeq (tAsg te (gName i)) u) ds P := sx_seq1 (sx_asg h (lt_of_some hi) rfl) n
theorem q_set {i : Nat} (h : Ev K te ds d) (n : Sx K u (ds.set i (.pu d)) P) (hi : ds.sl[i]?.isSome = true := by rfl) : Sx K (tSeq (tAsg te (gName i)) u) ds P := q_asg h.ek n hi
theorem q_new {i : Nat} (h : EnL K te ds xs) (n : Sx K u ⟨ds.sl.set i (.lo ds.st.length), ds.st ++ [.lst xs]⟩ P) (hi : ds.sl[i]?.isSome = true := by rfl) : Sx K (tSeq (tAsg te (gName i)) u) ds P := q_asg h.ek n hi
theorem q_dict {i : Nat} (h : EnD K te ds es) (n : Sx K u ⟨ds.sl.set i (.lo ds.st.length), ds.st ++ [.dt es]⟩ P) (hi : ds.sl[i]?.isSome = true := by rfl) : Sx K (tSeq (tAsg te (gName i)) u) ds P := q_asg h.ek n hi
theorem q_dictK {i : Nat} {es : List (Key × PyData)} (h : EnK K te ds es) (n : Sx K u ⟨ds.sl.set i (.lo ds.st.length), ds.st ++ [.dk es]⟩ P) (hi : ds.sl[i]?.isSome = true := by rfl) : Sx K (tSeq (tAsg te (gName i)) u) ds P := q_asg h.ek n hi
theorem q_par {i j : Nat} {s1 s2 : Rs} (h1 : Ek K ta ds s1) (h2 : Ek K tb ds s2) (n : Sx K u ((ds.asg i s1).asg j s2) P) (hi : ds.sl[i]?.isSome = true := by rfl) (hj : ds.sl[j]?.isSome = true := by rfl) : Sx K (tSeq (tPar i j (tCons ta (tCons tb tNil))) u) ds P := sx_seq1 (sx_par h1 h2 (lt_of_some hi) (lt_of_some hj) rfl) n
theorem q_un2 {i j : Nat} (h : Ev K te ds (.tuple [x, y])) (n : Sx K u ((ds.set i (.pu x)).set j (.pu y)) P) (hi : ds.sl[i]?.isSome = true := by rfl) (hj : ds.sl[j]?.isSome = true := by rfl) : Sx K (tSeq (tAsg te (gTup K 2 (gCons (gName i) (gCons (gName j) gNil)))) u) ds P := sx_seq1 (sx_un2 h (lt_of_some hi) (lt_of_some hj) rfl) n
/-- an if that is not taken -/
theorem q_no (h : Et K tt ds false) (n : Sx K u ds P) : Sx K (tSeq (tIfS tt t tNext) u) ds P := sx_seq1 (sx_if h (fun e => nomatch e) fun _ => sx_next rfl) n
theorem q_drop (h : Ev K te ds d) (n : Sx K u ds P) : Sx K (tSeq (tDrop te) u) ds P := sx_seq1 (sx_drop h rfl) n
theorem q_for {g : TG} {α : Type} {js : List Nat} (ls : List α) (enc : α → PyData) (Inv : Nat → D4 → Prop) (T : α → D4 → D4)
    (hi : EI K wi ds (ls.map enc)) (h0 : Inv 0 ds) (hg : ∀ i l ds, ls[i]? = some l → Inv i ds → Tg K g (enc l) ds (T l ds) js)
    (hs : ∀ i l ds, ls[i]? = some l → Inv i ds → Sx K t (T l ds) { P with nx := Inv (i + 1), ct := Inv (i + 1), bk := Inv ls.length }) (n : ∀ ds, Inv ls.length ds → Sx K u ds P) : Sx K (tSeq (tFor wi g t) u) ds P :=
  sx_seq (Mid := Inv ls.length) (sx_for ls enc Inv T hi h0 hg hs fun ds h => h) n
theorem tg1 {i : Nat} (hi : ds.sl[i]?.isSome = true := by rfl) : Tg K (gName i) d ds (ds.set i (.pu d)) [i] := tg_name (lt_of_some hi)
theorem tg2 {i j : Nat} (hi : ds.sl[i]?.isSome = true := by rfl) (hj : ds.sl[j]?.isSome = true := by rfl) : Tg K (gTup K 2 (gCons (gName i) (gCons (gName j) gNil))) (.tuple [x, y]) ds ((ds.set i (.pu x)).set j (.pu y)) ([i] ++ [j]) := tg_two (lt_of_some hi) (lt_of_some hj)
/-- comprehensions by the number of their names -/
theorem lc1 {i : Nat} {α : Type} (ls : List α) (enc f : α → PyData) (hi : EIr K wi ds (ls.map enc)) (hl : ls.length ≤ 90000) (he : ∀ l ∈ ls, Ev K te ((wipeD ds [i]).set i (.pu (enc l))) (f l)) (hx : ds.sl[i]?.isSome = true := by rfl) : EnL K (tLc wi (gName i) tYes te [i]) ds (ls.map f) :=
  en_lcm ls enc (fun l => (wipeD ds [i]).set i (.pu (enc l))) f hi hl (fun j hj => hj) (fun l _ => tg_name (by rw [wipeD_length]; exact lt_of_some hx)) he
theorem lc1f {i : Nat} {α : Type} (ls : List α) (enc f : α → PyData) (p : α → Bool) (hi : EIr K wi ds (ls.map enc)) (hl : ls.length ≤ 90000) (ht : ∀ l ∈ ls, Et K tt ((wipeD ds [i]).set i (.pu (enc l))) (p l)) (he : ∀ l ∈ ls, p l = true → Ev K te ((wipeD ds [i]).set i (.pu (enc l))) (f l)) (hx : ds.sl[i]?.isSome = true := by rfl) : EnL K (tLc wi (gName i) tt te [i]) ds ((ls.filter p).map f) :=
  en_lc ls enc (fun l => (wipeD ds [i]).set i (.pu (enc l))) p f hi hl (fun j hj => hj) (fun l _ => tg_name (by rw [wipeD_length]; exact lt_of_some hx)) ht he
theorem lc2 {i j : Nat} {α : Type} (ls : List α) (e1 e2 f : α → PyData) (hi : EIr K wi ds (ls.map fun l => .tuple [e1 l, e2 l])) (hl : ls.length ≤ 90000) (he : ∀ l ∈ ls, Ev K te (((wipeD ds [i, j]).set i (.pu (e1 l))).set j (.pu (e2 l))) (f l)) (hx : ds.sl[i]?.isSome = true := by rfl) (hy : ds.sl[j]?.isSome = true := by rfl) :
    EnL K (tLc wi (gTup K 2 (gCons (gName i) (gCons (gName j) gNil))) tYes te [i, j]) ds (ls.map f) :=
  en_lcm ls _ (fun l => ((wipeD ds [i, j]).set i (.pu (e1 l))).set j (.pu (e2 l))) f hi hl (fun j hj => hj) (fun l _ => tg_two (by rw [wipeD_length]; exact lt_of_some hx) (by rw [wipeD_length]; exact lt_of_some hy)) he
theorem lc2f {i j : Nat} {α : Type} (ls : List α) (e1 e2 f : α → PyData) (p : α → Bool) (hi : EIr K wi ds (ls.map fun l => .tuple [e1 l, e2 l])) (hl : ls.length ≤ 90000) (ht : ∀ l ∈ ls, Et K tt (((wipeD ds [i, j]).set i (.pu (e1 l))).set j (.pu (e2 l))) (p l))
    (he : ∀ l ∈ ls, p l = true → Ev K te (((wipeD ds [i, j]).set i (.pu (e1 l))).set j (.pu (e2 l))) (f l)) (hx : ds.sl[i]?.isSome = true := by rfl) (hy : ds.sl[j]?.isSome = true := by rfl) :
    EnL K (tLc wi (gTup K 2 (gCons (gName i) (gCons (gName j) gNil))) tt te [i, j]) ds ((ls.filter p).map f) :=
  en_lc ls _ (fun l => ((wipeD ds [i, j]).set i (.pu (e1 l))).set j (.pu (e2 l))) p f hi hl (fun j hj => hj) (fun l _ => tg_two (by rw [wipeD_length]; exact lt_of_some hx) (by rw [wipeD_length]; exact lt_of_some hy)) ht he
theorem lc3 {i j k : Nat} {α : Type} (ls : List α) (e1 e2 e3 f : α → PyData) (hi : EIr K wi ds (ls.map fun l => .tuple [e1 l, e2 l, e3 l])) (hl : ls.length ≤ 90000) (he : ∀ l ∈ ls, Ev K te ((((wipeD ds [i, j, k]).set i (.pu (e1 l))).set j (.pu (e2 l))).set k (.pu (e3 l))) (f l)) (hx : ds.sl[i]?.isSome = true := by rfl) (hy : ds.sl[j]?.isSome = true := by rfl) (hz : ds.sl[k]?.isSome = true := by rfl) :
    EnL K (tLc wi (gTup K 3 (gCons (gName i) (gCons (gName j) (gCons (gName k) gNil)))) tYes te [i, j, k]) ds (ls.map f) :=
  en_lcm ls _ (fun l => (((wipeD ds [i, j, k]).set i (.pu (e1 l))).set j (.pu (e2 l))).set k (.pu (e3 l))) f hi hl (fun j hj => hj) (fun l _ => tg_three (by rw [wipeD_length]; exact lt_of_some hx) (by rw [wipeD_length]; exact lt_of_some hy) (by rw [wipeD_length]; exact lt_of_some hz)) he
theorem lc3f {i j k : Nat} {α : Type} (ls : List α) (e1 e2 e3 f : α → PyData) (p : α → Bool) (hi : EIr K wi ds (ls.map fun l => .tuple [e1 l, e2 l, e3 l])) (hl : ls.length ≤ 90000) (ht : ∀ l ∈ ls, Et K tt ((((wipeD ds [i, j, k]).set i (.pu (e1 l))).set j (.pu (e2 l))).set k (.pu (e3 l))) (p l))
    (he : ∀ l ∈ ls, p l = true → Ev K te ((((wipeD ds [i, j, k]).set i (.pu (e1 l))).set j (.pu (e2 l))).set k (.pu (e3 l))) (f l)) (hx : ds.sl[i]?.isSome = true := by rfl) (hy : ds.sl[j]?.isSome = true := by rfl) (hz : ds.sl[k]?.isSome = true := by rfl) :
    EnL K (tLc wi (gTup K 3 (gCons (gName i) (gCons (gName j) (gCons (gName k) gNil)))) tt te [i, j, k]) ds ((ls.filter p).map f) :=
  en_lc ls _ (fun l => (((wipeD ds [i, j, k]).set i (.pu (e1 l))).set j (.pu (e2 l))).set k (.pu (e3 l))) p f hi hl (fun j hj => hj) (fun l _ => tg_three (by rw [wipeD_length]; exact lt_of_some hx) (by rw [wipeD_length]; exact lt_of_some hy) (by rw [wipeD_length]; exact lt_of_some hz)) ht he
theorem EnL.is (h : EnL K te ds xs) (e : xs = ys) : EnL K te ds ys := e ▸ h
theorem ErL.is (h : ErL K te ds xs) (e : xs = ys) : ErL K te ds ys := e ▸ h
theorem EI.is (h : EI K wi ds xs) (e : xs = ys) : EI K wi ds ys := e ▸ h
theorem EIr.is (h : EIr K wi ds xs) (e : xs = ys) : EIr K wi ds ys := e ▸ h
theorem ev_allM {α : Type} {ls : List α} {g : α → Bool} (h : ErL K ta ds (ls.map fun l => .bool (g l))) : Ev K (tCB (rAll K) (tCons ta tNil)) ds (.bool (ls.all g)) := by
  have q := ev_all (bs := ls.map g) (h.is (by rw [List.map_map]; rfl))
  rw [List.all_map] at q
  exact q
theorem ev_anyM {α : Type} {ls : List α} {g : α → Bool} (h : ErL K ta ds (ls.map fun l => .bool (g l))) : Ev K (tCB (rAny K) (tCons ta tNil)) ds (.bool (ls.any g)) := by
  have q := ev_any (bs := ls.map g) (h.is (by rw [List.map_map]; rfl))
  rw [List.any_map] at q
  exact q
theorem ev_sumM {α : Type} {ls : List α} {g : α → Int} (h : ErL K ta ds (ls.map fun l => .int (g l))) : Ev K (tCB (rSum K) (tCons ta tNil)) ds (.int (ls.map g).sum) := ev_sum (ns := ls.map g) (h.is (by rw [List.map_map]; rfl))
/-- zips of what is encoded -/
theorem zipD_map {α β : Type} (l : List α) (m : List β) (e : α → PyData) (e' : β → PyData) : zipD (l.map e) (m.map e') = (l.zip m).map fun p => .tuple [e p.1, e' p.2] := by
  unfold zipD
  rw [List.zip_map, List.map_map]
  rfl
theorem zip3D_map {α β γ : Type} (l : List α) (m : List β) (n : List γ) (e : α → PyData) (e' : β → PyData) (e'' : γ → PyData) : zip3D (l.map e) (m.map e') (n.map e'') = (l.zip (m.zip n)).map fun p => .tuple [e p.1, e' p.2.1, e'' p.2.2] := by
  unfold zip3D
  rw [List.zip_map, List.zip_map, List.map_map]
  rfl
theorem enumD_map {α : Type} (l : List α) (e : α → PyData) : enumD (l.map e) = l.zipIdx.map fun p => .tuple [.int (p.2 : Nat), e p.1] := by
  unfold enumD
  rw [List.zipIdx_map, List.map_map]
  rfl
theorem cutD_from (xs : List PyData) (n : Nat) : cutD xs (some (n : Int)) none = xs.drop n := by
  unfold cutD
  rw [HT.sIx_nat, HT.sIx_none]
  have e : xs.drop (min n xs.length) = xs.drop n := by
    rcases Nat.le_total n xs.length with h | h
    · rw [Nat.min_eq_left h]
    · rw [Nat.min_eq_right h, List.drop_length, List.drop_of_length_le h]
  rw [e, List.take_of_length_le (by rw [List.length_drop]; omega)]
theorem cutD_to (xs : List PyData) (n : Nat) : cutD xs none (some (n : Int)) = xs.take n := by
  unfold cutD
  rw [HT.sIx_nat, HT.sIx_none, List.drop_zero, Nat.sub_zero]
  rcases Nat.le_total n xs.length with h | h
  · rw [Nat.min_eq_left h]
  · rw [Nat.min_eq_right h, List.take_length, List.take_of_length_le h]
end
end L4
end

section
set_option Elab.async false
set_option linter.all false
set_option maxRecDepth 100000
set_option autoImplicit false
/-! Pure defs, the law's own def. -/
namespace L4
open PySem L2
theorem fnok_ex {ι : Type} {P : Program} {w : World} {K : PySem.W.Frag} {mg : Str → Option Value} {base : Heap} {CX : CXT} {k : Nat} {f : Addr} {fd : FuncData} {ps : List Str} {sp : ι → Sp} (h : ∀ i, FnOk P w K mg base CX k f fd ps (sp i)) : FnOk P w K mg base CX k f fd ps (fun vs H Q E => ∃ i, sp i vs H Q E) :=
  ⟨fun vs H Q E ⟨i, q⟩ => (h i).len vs H Q E q, fun A outer s H args us vs Q E hr he hb hv ⟨i, q⟩ => (h i).run A outer s H args us vs Q E hr he hb hv q⟩
section
variable {K : PySem.W.Frag} {t : TS} {ds : D4} {P P' : Post}
theorem sx_imp (h : Sx K t ds P') (em : P'.m = P.m) (n : ∀ ds, P'.nx ds → P.nx ds) (r : ∀ d ds, P'.rt d ds → P.rt d ds) (b : ∀ ds, P'.bk ds → P.bk ds) (c : ∀ ds, P'.ct ds → P.ct ds) : Sx K t ds P := fun B W0 M N H0 W σ H hM F D m =>
  h B W0 M N H0 W σ H (hM.trans em.symm) F D ⟨fun W σ H ds q => m.nx W σ H ds (n ds q), fun W σ H ds v d as q => m.rt W σ H ds v d as (r d ds q), fun W σ H ds q => m.bk W σ H ds (b ds q), fun W σ H ds q => m.ct W σ H ds (c ds q)⟩
end
section
variable {Pr : Program} {w : World} {K : PySem.W.Frag} {mg : Str → Option Value} {base : Heap} {nm qual : Str} {st : Stmt} {f : Addr} {fd : FuncData} {Nm ps : List Str} {k : Nat}
/-- a pure def -/
def startD (Nm : List Str) (xs : List PyData) : D4 := startG Nm (xs.map .pu) []
def Post.ret (d : PyData) : Post := { nx := fun _ => d = .none, rt := fun r _ => r = .pu d }
theorem fn_ok (F : Fun K nm qual st f fd) (S : FnScope Nm ps (defScope st)) {R : List PyData → PyData → Prop} (len : ∀ xs d, R xs d → xs.length = ps.length)
    (body : ∀ (cdv : Value) (A : Around) (outer : List Env) (s : Shared) (H : Hp) (E : XK), Room k (A.deeper (PyProof.Rows.envOfC qual (defScope st) s.heap.objs.size f cdv)) →
      ∃ t, PSs (cxOf CX0 Pr w K mg base Nm qual (defScope st) f cdv A outer s H E).nox (defBody st) t ∧ ∀ xs d, R xs d → Sx K t (startD Nm xs) (Post.ret d)) : FnOk Pr w K mg base CX0 (k + 1) f fd ps (spD K R) := by
  have all : ∀ i : { p : List PyData × PyData // R p.1 p.2 }, FnOk Pr w K mg base CX0 (k + 1) f fd ps (spG K (fun xs st => xs = i.1.1.map .pu ∧ st = []) (fun _ _ r _ => r = .pu i.1.2)) := fun i =>
    fn_okG F S (fun xs st h => by rw [h.1, List.length_map]; exact len _ _ i.2) fun cdv A outer s H E hr => by
      obtain ⟨t, ht, hb⟩ := body cdv A outer s H E hr
      refine ⟨t, ht, fun xs st ⟨e1, e2⟩ => ?_⟩
      subst e1 e2
      refine sx_imp (hb i.1.1 i.1.2 i.2) rfl (fun ds q => ⟨(fun o ho => by rw [List.length_nil, List.take_zero] at ho; cases ho), ?_⟩) (fun d ds q => ⟨(fun o ho => by rw [List.length_nil, List.take_zero] at ho; cases ho), q⟩) (fun _ q => q) (fun _ q => q)
      have q' : i.1.2 = .none := q
      rw [q']
  refine (fnok_ex all).imp fun vs H Q E ⟨W, xs, d, hA, r, hR, q⟩ => ⟨⟨(xs, d), hR⟩, W, [], xs.map .pu, [], hA, List.nodup_nil, fun a h => (nomatch h), ⟨by rw [r.length, List.length_map], fun i v s h1 h2 => ?_⟩, ⟨rfl, fun l a o h1 h2 => by simp at h1⟩, ⟨rfl, rfl⟩, fun v H' r st' as po keep so rr => ?_⟩
  · rw [List.getElem?_map] at h2
    obtain ⟨d', hd, e⟩ := Option.map_eq_some_iff.mp h2
    subst e
    obtain ⟨d2, hd2, r2⟩ := r.get h1
    rw [hd] at hd2
    cases hd2
    exact ⟨v, rfl, r2⟩
  · have e : r = .pu d := po
    subst e
    exact q v H' (fun b o hb => keep b o (fun z => nomatch z) hb) rr.2
def spLaw (K : PySem.W.Frag) : Sp := fun vs H Q _ => ∃ (a : Addr) (ns : List Int), vs = [.ref a] ∧ SqL K H a (ns.map V.int) ∧ ns.length ≤ 63 ∧ ∀ H', Q (.bl true) H'
theorem cut_none (H : Hp) : cut H [] = H := funext fun a => by unfold cut; rw [if_neg (fun z => nomatch z)]
theorem fn_okL (F : Fun K nm qual st f fd) (S : FnScope Nm ["script"] (defScope st))
    (body : ∀ (cdv : Value) (A : Around) (outer : List Env) (s : Shared) (H : Hp) (E : XK), Room k (A.deeper (PyProof.Rows.envOfC qual (defScope st) s.heap.objs.size f cdv)) →
      ∃ t, PSs (cxOf CX0 Pr w K mg base Nm qual (defScope st) f cdv A outer s H E).nox (defBody st) t ∧ ∀ ns : List Int, ns.length ≤ 63 → Sx K t (startG Nm [.rl (ns.map .int)] []) { nx := fun _ => False, rt := fun r _ => r = .pu (.bool true) }) : FnOk Pr w K mg base CX0 (k + 1) f fd ["script"] (spLaw K) := by
  have G : FnOk Pr w K mg base CX0 (k + 1) f fd ["script"] (spG K (fun xs st => ∃ ns : List Int, xs = [.rl (ns.map .int)] ∧ st = [] ∧ ns.length ≤ 63) (fun _ _ r _ => r = .pu (.bool true))) :=
    fn_okG F S (fun xs st ⟨ns, e, _⟩ => by rw [e]; rfl) fun cdv A outer s H E hr => by
      obtain ⟨t, ht, hb⟩ := body cdv A outer s H E hr
      refine ⟨t, ht, fun xs st ⟨ns, e1, e2, hl⟩ => ?_⟩
      subst e1 e2
      exact sx_imp (hb ns hl) rfl (fun ds q => q.elim) (fun d ds q => ⟨(fun o ho => by rw [List.length_nil, List.take_zero] at ho; cases ho), q⟩) (fun _ q => q) (fun _ q => q)
  refine G.imp fun vs H Q E ⟨a, ns, e, sq, hl, q⟩ => ⟨[], [], [.rl (ns.map .int)], [], fun a h => (nomatch h), List.nodup_nil, fun a h => (nomatch h), ⟨by rw [e]; rfl, fun i v s h1 h2 => ?_⟩, ⟨rfl, fun l a o h1 h2 => by simp at h1⟩, ⟨ns, rfl, rfl, hl⟩, fun v H' r st' as po keep so rr => ?_⟩
  · subst e
    cases i with
    | zero => cases h1; cases h2; exact ⟨a, _, rfl, by rw [cut_none]; exact sq, RpAll.of_ints ns⟩
    | succ i => simp at h1
  · have e' : r = .pu (.bool true) := po
    subst e'
    obtain ⟨_, rv⟩ := rr
    cases rv
    exact q H'
end
end L4
end

section
set_option Elab.async false
set_option linter.all false
set_option maxRecDepth 100000
set_option autoImplicit false
/-! Comprehensions whose items change the store. -/
namespace L4
open PySem L2
section
variable {K : PySem.W.Frag} {B : Hp} {W0 M N W : List Addr} {H0 H H' I : Hp} {σ : L2.St} {adr : List Addr} {ds ds1 : D4} {P : Post} {te ta tb tv : TE} {tr : TA} {d : PyData} {v : V}
theorem FrA.push (F : FrA K B W0 M N H0 W σ H adr ds) {a : Addr} {vl : List V} (n : H a = none) : FrA K B (a :: W0) M (a :: N) (upd H0 a (.lst vl)) (a :: W) σ (upd H a (.lst vl)) adr ds := by
  have aW : a ∉ W := F.st.al.fresh n
  have a0 : a ∉ W0 := fun z => aW (F.sub a z)
  have aM : a ∉ M := fun z => a0 (F.msub a z)
  have aA : a ∉ adr := fun z => F.st.there a z n
  have e : Ex H (upd H a (.lst vl)) := Ex.new n
  have F' := F.ex e
  refine ⟨⟨F.st.len, fun b hb => ?_, F.st.la, F.st.nd, F'.st.there, fun i s q => (F.st.sl i s q).mono (cut_cons n e), fun l b o h1 h2 h3 => ?_⟩, fun b hb => ?_, fun b hb nb => ?_, fun b o nM hb => ?_, fun b hb nM => ?_, fun b hb => ?_, fun b hb => List.mem_cons_of_mem _ (F.msub b hb), fun l b hl hb => ?_, F.base.trans (cut_cons n e), F.bor⟩
  · rcases List.mem_cons.mp hb with z | z
    · rw [z, upd_same]; exact nt_lst
    · exact F'.st.al b z
  · obtain ⟨bW, bN, u, hu, r⟩ := F.st.ob l b o h1 h2 h3
    have ba : b ≠ a := fun z => aA (z ▸ List.mem_of_getElem? h1)
    exact ⟨List.mem_cons_of_mem _ bW, fun z => (List.mem_cons.mp z).elim ba bN, u, e _ _ hu, r.mono (cut_cons n e)⟩
  · rcases List.mem_cons.mp hb with z | z
    · rw [z]; exact List.mem_cons_self
    · exact List.mem_cons_of_mem _ (F.sub b z)
  · have ba : b ≠ a := fun z => nb (by rw [z]; exact List.mem_cons_self)
    rw [upd_ne ba]
    exact F.new b ((List.mem_cons.mp hb).resolve_left ba) fun z => nb (List.mem_cons_of_mem _ z)
  · by_cases z : b = a
    · subst z; rw [upd_same] at hb ⊢; exact hb
    · rw [upd_ne z] at hb ⊢; exact F.keep b o nM hb
  · rcases List.mem_cons.mp hb with z | z
    · rw [z]; exact List.mem_cons_self
    · exact List.mem_cons_of_mem _ (F.oth b z nM)
  · rcases List.mem_cons.mp hb with z | z
    · rw [z]; exact List.mem_cons_self
    · exact List.mem_cons_of_mem _ (F.nsub b z)
  · exact fun z => (List.mem_cons.mp z).elim (fun e => aA (e ▸ List.mem_of_getElem? hb)) (F.loc l b hl hb)
/-- the hidden list grows -/
theorem FrA.under {a : Addr} {o : HO} {vl : List V} (F : FrA K B (a :: W0) M (a :: N) (upd H0 a o) W σ H adr ds) (aM : a ∉ M) : FrA K B (a :: W0) M (a :: N) (upd H0 a (.lst vl)) W σ (upd H a (.lst vl)) adr ds := by
  have aW : a ∈ W := F.sub a List.mem_cons_self
  have ce : cut (upd H a (.lst vl)) W = cut H W := cut_upd aW
  refine ⟨⟨F.st.len, fun b hb => ?_, F.st.la, F.st.nd, fun b hb => ?_, fun i s q => by rw [ce]; exact F.st.sl i s q, fun l b ob h1 h2 h3 => ?_⟩, F.sub, fun b hb nb => ?_, fun b ob nM hb => ?_, F.oth, F.nsub, F.msub, F.loc, by rw [ce]; exact F.base, F.bor⟩
  · by_cases z : b = a
    · rw [z, upd_same]; exact nt_lst
    · rw [upd_ne z]; exact F.st.al b hb
  · by_cases z : b = a
    · rw [z, upd_same]; exact fun z => nomatch z
    · rw [upd_ne z]; exact F.st.there b hb
  · obtain ⟨bW, bN, u, hu, r⟩ := F.st.ob l b ob h1 h2 h3
    have ba : b ≠ a := fun z => bN (by rw [z]; exact List.mem_cons_self)
    exact ⟨bW, bN, u, by rw [upd_ne ba]; exact hu, by rw [ce]; exact r⟩
  · have ba : b ≠ a := fun z => nb (by rw [z]; exact List.mem_cons_self)
    have := F.new b hb nb
    rw [upd_ne ba] at this ⊢
    exact this
  · by_cases z : b = a
    · subst z; rw [upd_same] at hb ⊢; exact hb
    · rw [upd_ne z] at hb ⊢
      exact F.keep b ob nM (by rw [upd_ne z]; exact hb)
/-- .. and comes out as pure data -/
theorem FrA.pop {a : Addr} {vl : List V} (F : FrA K B (a :: W0) M (a :: N) (upd H0 a (.lst vl)) W σ H adr ds) (aM : a ∉ M) (a0 : a ∉ W0) (h0 : H0 a = none) (oth : ∀ b ∈ W0, b ∉ M → b ∈ N) (nsub : ∀ b ∈ N, b ∈ W0) (msub : ∀ b ∈ M, b ∈ W0) :
    ∃ W', FrA K B W0 M N H0 W' σ H adr ds ∧ H a = some (.lst vl) ∧ a ∉ W' ∧ Ex (cut H W) (cut H W') := by
  have sub : ∀ b ∈ W.filter (fun c => decide (c ≠ a)), b ∈ W := fun b hb => (List.mem_filter.mp hb).1
  have ce : Ex (cut H W) (cut H (W.filter fun c => decide (c ≠ a))) := cut_sub sub
  have stay : ∀ b, b ∈ W → b ≠ a → b ∈ W.filter (fun c => decide (c ≠ a)) := fun b hb n => List.mem_filter.mpr ⟨hb, decide_eq_true n⟩
  have out : a ∉ W.filter (fun c => decide (c ≠ a)) := fun q => of_decide_eq_true (List.mem_filter.mp q).2 rfl
  refine ⟨W.filter fun c => decide (c ≠ a), ⟨⟨F.st.len, fun b hb => F.st.al b (sub b hb), F.st.la, F.st.nd, F.st.there, fun i s q => (F.st.sl i s q).mono ce, fun l b o h1 h2 h3 => ?_⟩, fun b hb => stay b (F.sub b (List.mem_cons_of_mem _ hb)) fun z => a0 (z ▸ hb), fun b hb nb => ?_, fun b o nM hb => ?_, oth, nsub, msub, fun l b hl hb z => F.loc l b hl hb (List.mem_cons_of_mem _ z), F.base.trans ce, F.bor⟩, F.keep a _ aM upd_same, out, ce⟩
  · obtain ⟨bW, bN, u, hu, r⟩ := F.st.ob l b o h1 h2 h3
    have ba : b ≠ a := fun z => bN (by rw [z]; exact List.mem_cons_self)
    exact ⟨stay b bW ba, fun z => bN (List.mem_cons_of_mem _ z), u, hu, r.mono ce⟩
  · have ba : b ≠ a := fun z => out (z ▸ hb)
    have := F.new b (sub b hb) fun z => (List.mem_cons.mp z).elim ba nb
    rw [upd_ne ba] at this
    exact this
  · have ba : b ≠ a := fun z => by rw [z, h0] at hb; cases hb
    exact F.keep b o nM (by rw [upd_ne ba]; exact hb)
end
end L4
end

section
set_option Elab.async false
set_option linter.all false
set_option maxRecDepth 100000
set_option autoImplicit false
/-! Comprehensions whose items change the store (2). -/
namespace L4
open PySem L2
section
variable {K : PySem.W.Frag} {B : Hp} {W0 M N W : List Addr} {H0 H H' I : Hp} {σ : L2.St} {adr : List Addr} {ds ds1 : D4} {P : Post} {te ta tb tv : TE} {tr : TA} {d : PyData} {v : V}
theorem StA.unwipe {σ' : L2.St} {vs : List Nat} (S : StA K W N H σ' adr ds) (e : L2.wipe σ' vs = L2.wipe σ vs) : StA K W N H σ adr (wipeD ds vs) := by
  have hl : σ.length = σ'.length := by
    have := congrArg List.length e
    rw [wipe_length, wipe_length] at this
    exact this.symm
  refine ⟨?_, S.al, S.la, S.nd, S.there, fun i s h => ?_, S.ob⟩
  · show σ.length = (wipeL ds.sl vs).length
    rw [wipeL_length, hl]; exact S.len
  · have h' : (wipeL ds.sl vs)[i]? = some s := h
    rcases wipeL_get h' with z | ⟨n, h'⟩
    · subst z; trivial
    · have q := S.sl i s h'
      have e2 : σ'[i]? = σ[i]? := by
        have := congrArg (·[i]?) e
        simp only [wipe_get, if_neg n] at this
        exact this
      rw [e2] at q
      exact q
theorem FrA.unwipe {σ' : L2.St} {vs : List Nat} (F : FrA K B W0 M N H0 W σ' H adr ds) (e : L2.wipe σ' vs = L2.wipe σ vs) : FrA K B W0 M N H0 W σ H adr (wipeD ds vs) := F.to (F.st.unwipe e)
theorem es_lc {α : Type} {wi : TI} {g : TG} {vs js : List Nat} {P : Fv → D4 → Prop} (ls : List α) (enc : α → PyData) (T : α → D4 → D4) (Inv : Nat → D4 → List PyData → Prop)
    (hi : EI K wi ds (ls.map enc)) (hl : ls.length ≤ 90000) (hj : ∀ j ∈ js, j ∈ vs) (h0 : Inv 0 (wipeD ds vs) []) (hg : ∀ i l ds acc, ls[i]? = some l → Inv i ds acc → Tg K g (enc l) ds (T l ds) js)
    (he : ∀ i l ds acc, ls[i]? = some l → Inv i ds acc → Es K te (T l ds) fun f ds' => ∃ d, f = .pu d ∧ Inv (i + 1) (wipeD ds' vs) (acc ++ [d])) (hd : ∀ ds acc, Inv ls.length ds acc → P (.pu (.list acc)) (wipeD ds vs)) : Es K (tLc wi g tYes te vs) ds P := fun B W0 M N H0 W σ H adr F Q q =>
  hi W N σ H ⟨adr, F.st⟩ _ fun J H1 e1 it => fun Dl hD => by
    have F1 := F.ex e1
    have n : (ls.map enc).length = ls.length := List.length_map _
    have aW : Dl ∉ W := F1.st.al.fresh hD
    have na : Dl ∉ W0 := fun z => aW (F1.sub Dl z)
    have aM : Dl ∉ M := fun z => na (F.msub Dl z)
    have n0 : H0 Dl = none := by
      cases q : H0 Dl with
      | none => rfl
      | some o => rw [F1.keep Dl o aM q] at hD; cases hD
    let I : Nat → Hp → Prop := fun i H2 => i ≤ ls.length ∧ ∃ W2 adr2 ds2 acc us, Inv i ds2 acc ∧ acc.length = i ∧ adr <+: adr2 ∧ FrA K (cut H1 W) (Dl :: W0) M (Dl :: N) (upd H0 Dl (.lst us)) W2 (L2.wipe σ vs) H2 adr2 ds2 ∧ RpAll K (cut H2 W2) us acc
    have start : I 0 (upd H1 Dl (.lst [])) := by
      refine ⟨Nat.zero_le _, Dl :: W, adr, _, [], [], h0, rfl, List.prefix_refl _, ?_, .nil⟩
      exact (F1.to (F1.st.wipe vs) |>.rebase (Ex.refl _)).push hD
    refine ⟨fun i mm H2 => mm = ls.length - i ∧ I i H2, ⟨ls.length, rfl, start⟩, ?_⟩
    rintro i mm H2 ⟨rfl, hle, W2, adr2, ds2, acc, us, hI, hac, pa, F2, rac⟩
    by_cases hlt : i < ls.length
    · have hli : ls[i]? = some ls[i] := List.getElem?_eq_getElem hlt
      refine .inr ⟨it.go i H2 W2 (by rw [n]; exact hlt) F2.base, I (i + 1), fun H3 p => ⟨ls.length - (i + 1), by omega, rfl, p⟩, fun x H3 y => ?_⟩
      obtain ⟨e3, rx⟩ := it.yld i H2 W2 x H3 (enc ls[i]) (by rw [List.getElem?_map, hli]; rfl) F2.base F2.st.al y
      have F3 := F2.ex e3
      refine hg i ls[i] ds2 acc hli hI W2 _ _ H3 x adr2 F3.st rx _ fun σ4 S4 kp => ?_
      have wp : L2.wipe σ4 vs = L2.wipe σ vs := (kp.wp vs hj).trans wipe_wipe
      refine ⟨wp, ?_⟩
      show te σ4 H3 _
      refine he i ls[i] ds2 acc hli hI (cut H3 W2) _ _ _ _ _ _ _ adr2 ((F3.to S4).rebase (Ex.refl _)) _ fun v H5 W5 adr5 f ds5 ⟨d, ef, p5⟩ a5 F5 r5 => ?_
      subst ef
      have hus : H5 Dl = some (.lst us) := F5.keep Dl _ aM upd_same
      have rl : us.length = acc.length := rac.length
      refine ⟨us, hus, by rw [rl, hac]; exact sz_lt (by omega), hlt, W5, adr5, _, _, us ++ [v], p5, by rw [List.length_append, hac]; rfl, pa.trans a5, ?_, ?_⟩
      · have F6 := (F5.under (vl := us ++ [v]) aM).unwipe (σ := L2.wipe σ vs) (vs := vs) (by rw [wp, wipe_wipe])
        have cu : cut (upd H5 Dl (.lst (us ++ [v]))) W5 = cut H5 W5 := cut_upd (F5.sub Dl List.mem_cons_self)
        exact F6.rebase (by rw [cu]; exact F3.base.trans F5.base)
      · have cu : cut (upd H5 Dl (.lst (us ++ [v]))) W5 = cut H5 W5 := cut_upd (F5.sub Dl List.mem_cons_self)
        rw [cu]
        exact ((rac.mono (cut_mono e3)).mono F5.base).append (.one r5)
    · have e : i = ls.length := by omega
      subst e
      have F6 := F2.unwipe (σ := σ) (vs := vs) wipe_wipe
      obtain ⟨W7, F7, hus, out, ce⟩ := F6.pop aM na n0 F.oth F.nsub F.msub
      refine .inl ⟨by have := it.stop H2 W2 F2.base; rw [n] at this; exact this, q _ _ W7 adr2 _ _ (hd ds2 acc hI) pa (F7.rebase (F1.base.trans F7.base)) ?_⟩
      exact .lst (by rw [cut_out out]; exact hus) (rac.mono ce)
end
end L4
end

section
set_option Elab.async false
set_option linter.all false
set_option maxRecDepth 100000
set_option autoImplicit false
/-! More statements that change the store. -/
namespace L4
open PySem L2
section
variable {K : PySem.W.Frag} {B : Hp} {W0 M N W : List Addr} {H0 H H' I : Hp} {σ : L2.St} {adr : List Addr} {ds ds1 : D4} {P : Post} {te ta tb tv : TE} {tr : TA} {t u : TS} {d : PyData} {v : V}
theorem sx_un2E {i j : Nat} (h : Es K te ds fun f ds' => ∃ x y, f = .pu (.tuple [x, y]) ∧ i < ds'.length ∧ j < ds'.length ∧ P.nx ((ds'.set i (.pu x)).set j (.pu y))) :
    Sx K (tAsg te (gTup K 2 (gCons (gName i) (gCons (gName j) gNil)))) ds P := fun B W0 M N H0 W σ H hM ⟨adr, F⟩ D m =>
  h B W0 M N H0 W σ H adr F _ fun v H' W' adr' f ds' ⟨x, y, e, hi, hj, p⟩ a F' r => by
    subst e
    have r' : Rp K (cut H' W') v (.tuple [x, y]) := r
    cases r' with
    | tup hs r =>
      cases r with
      | cons r1 r =>
        cases r with
        | cons r2 r =>
          cases r
          exact ⟨_, _, rfl, .inl (.inl (cut_ex _ _ hs)), rfl, _, _, rfl, _, _, rfl, rfl, m.nx W' _ H' _ p ⟨adr', (F'.setS hi (Ex.refl _) (s := .pu x) ⟨_, rfl, r1⟩).setS (set_lt hj) (Ex.refl _) (s := .pu y) ⟨_, rfl, r2⟩⟩⟩
theorem sx_tpar2E {i j : Nat} (h : Eas K tr ds fun fs ds' => ∃ x y, fs = [.pu x, .pu y] ∧ i < ds'.length ∧ j < ds'.length ∧ P.nx ((ds'.set i (.pu x)).set j (.pu y))) :
    Sx K (tAsg (tTup tr) (gTup K 2 (gCons (gName i) (gCons (gName j) gNil)))) ds P := sx_un2E (es_tup fun B W0 M N H0 W σ H adr F Q q => h B W0 M N H0 W σ H adr F Q fun vs H' W' adr' fs ds' ⟨x, y, e, r⟩ => q vs H' W' adr' fs ds' ⟨[x, y], by rw [e]; rfl, by show 2 ≤ 100000; decide, x, y, rfl, r⟩)
/-- for over range(n), n's value changing the store -/
theorem sx_forR {g : TG} (h : Eas K tr ds fun fs ds' => ∃ n : Int, fs = [.pu (.int n)] ∧ -100000 ≤ n ∧ n ≤ 100000 ∧ Sx K (tFor (iRng1 (tCons (tC (.int n)) tNil)) g t) ds' P) : Sx K (tFor (iRng1 tr) g t) ds P := fun B W0 M N H0 W σ H hM ⟨adr, F⟩ D m =>
  h B W0 M N H0 W σ H adr F _ fun vs H' W' adr' fs ds' ⟨n, e, l1, l2, s⟩ a F' r => by
    subst e
    cases r with
    | cons r1 r =>
      cases r
      have r1' : Rp K (cut H' W') _ (.int n) := r1
      cases r1'
      have q := s B W0 M N H0 W' σ H' hM ⟨adr', F'⟩ D m
      obtain ⟨j, e, b1, b2, q⟩ := q
      cases e
      exact ⟨n, rfl, b1, b2, q⟩
/-- all([..]) -/
theorem cd_all {bs : List Bool} : CD K (rAll K) [.list (bs.map .bool)] (.bool (bs.all id)) := fun W H vs A r Q q => by
  cases r with
  | cons r1 r =>
    cases r
    cases r1 with
    | lst hs r1 =>
      have e := r1.bls
      subst e
      exact ⟨_, bs, rfl, .inl (.inl (cut_ex _ _ hs)), q _ H (Ex.refl H) (.bl _)⟩
/-- x.extend(a list) -/
theorem sx_ext (h : Es K te ds fun g ds1 => ∃ l ys, g = .lo l ∧ ds1.st[l]? = some (.lst ys) ∧ Es K ta ds1 fun g2 ds2 => ∃ zs xs, g2 = .pu (.list zs) ∧ ds2.st[l]? = some (.lst xs) ∧ xs.length + zs.length ≤ 100000 ∧ P.nx (ds2.put l (.lst (xs ++ zs)))) :
    Sx K (tDrop (tBM K "list" rExtend te (tCons ta tNil))) ds P := fun B W0 M N H0 W σ H hM ⟨adr, F⟩ D m =>
  h B W0 M N H0 W σ H adr F _ fun w H1 W1 adr1 g ds1 ⟨l, ys, eg, hy, ha⟩ a1 F1 r1 => by
    subst eg
    obtain ⟨a, e1, rfl⟩ := r1
    obtain ⟨_, _, u, hu, vs, e3, _⟩ := F1.st.ob l a _ e1 hy rfl
    subst e3
    refine ⟨.inl ⟨rfl, vs, .inl (.inl hu)⟩, ha B W0 M N H0 W1 σ H1 adr1 F1 _ fun x H2 W2 adr2 g2 ds2 ⟨zs, xs, eg2, hx, hl, p⟩ a2 F2 r2 => ?_⟩
    subst eg2
    have r2' : Rp K (cut H2 W2) x (.list zs) := r2
    cases r2' with
    | @lst b ws _ hb rb =>
      have e2 := pre_get a2 e1
      obtain ⟨aW, _, u2, hu2, vs2, e4, rv⟩ := F2.st.ob l a _ e2 hx rfl
      subst e4
      refine ⟨a, b, vs2, ws, rfl, rfl, hu2, cut_ex _ _ hb, by rw [rv.length, rb.length]; exact sz_of hl, ?_⟩
      refine m.nx W2 σ _ _ p ⟨adr2, F2.mutE e2 hx rfl (Ex.refl _) ⟨vs2 ++ ws, rfl, ?_⟩ rfl upd_same⟩
      rw [cut_upd aW]
      exact rv.append rb
end
end L4
end

section
set_option Elab.async false
set_option linter.all false
set_option maxRecDepth 100000
set_option autoImplicit false
/-! Dicts that are asked: get with a default, in. -/
namespace L4
open PySem L2
section
variable {K : PySem.W.Frag} {W N : List Addr} {H H' I : Hp} {σ : L2.St} {ds : D4} {ta tb tc : TE} {d x : PyData}
theorem val_get {κ : Type} [DecidableEq κ] {kvs : List (κ × V)} {es : List (κ × PyData)} {k : κ} {v : V} (r : RpKV K I κ kvs es) (h : Rp K I v x) : Rp K I ((valV kvs k).getD v) ((valD es k).getD x) := by
  cases e : valD es k with
  | none => rw [r.none e]; exact h
  | some d =>
    obtain ⟨w, hw, rw'⟩ := r.val e
    rw [hw]; exact rw'
theorem val_some {κ : Type} [DecidableEq κ] {kvs : List (κ × V)} {es : List (κ × PyData)} {k : κ} (r : RpKV K I κ kvs es) : (valV kvs k).isSome = (valD es k).isSome := by
  cases e : valD es k with
  | none => rw [r.none e]; rfl
  | some d =>
    obtain ⟨w, hw, _⟩ := r.val e
    rw [hw]; rfl
theorem ev_dget2 {es : List (List Key × PyData)} {k : List Key} (h : ErD K ta ds es) (hk : Ev K tb ds (kD k)) (hx : Ev K tc ds x) : Ev K (tDGet2 ta tb tc) ds ((valD es k).getD x) := fun W N σ H S Q q =>
  h W N σ H S _ fun a kvs H1 e1 h1 r1 => ⟨a, rfl, .inr ⟨kvs, h1⟩, hk W N σ H1 (S.mono e1) _ fun u H2 e2 r2 => hx W N σ H2 ((S.mono e1).mono e2) _ fun z H3 e3 r3 => by
    cases r2 with
    | @tup b vs _ hb rb =>
      have eb := rb.key
      subst eb
      exact ⟨valV kvs k, .inr ⟨kvs, k, b, ex_rd (e2.trans e3) h1, rfl, e3 _ _ (cut_ex _ _ hb), rfl⟩, q _ H3 ((e1.trans e2).trans e3) (val_get (r1.mono (cut_mono (e2.trans e3))) r3)⟩⟩
theorem ev_kget2 {es : List (Key × PyData)} {k : Key} (h : ErK K ta ds es) (hk : Ev K tb ds (keyD k)) (hx : Ev K tc ds x) : Ev K (tDGet2 ta tb tc) ds ((valD es k).getD x) := fun W N σ H S Q q =>
  h W N σ H S _ fun a kvs H1 e1 h1 r1 => ⟨a, rfl, .inl ⟨kvs, h1⟩, hk W N σ H1 (S.mono e1) _ fun u H2 e2 r2 => hx W N σ H2 ((S.mono e1).mono e2) _ fun z H3 e3 r3 => by
    have eb := r2.key
    subst eb
    exact ⟨valV kvs k, .inl ⟨kvs, k, ex_rd (e2.trans e3) h1, rfl, rfl⟩, q _ H3 ((e1.trans e2).trans e3) (val_get (r1.mono (cut_mono (e2.trans e3))) r3)⟩⟩
theorem ev_din {es : List (List Key × PyData)} {k : List Key} (hk : Ev K tb ds (kD k)) (h : ErD K ta ds es) : Ev K (tDIn tb ta) ds (.bool (valD es k).isSome) := fun W N σ H S Q q =>
  hk W N σ H S _ fun u H1 e1 r2 => h W N σ H1 (S.mono e1) _ fun a kvs H2 e2 h1 r1 => by
    cases r2 with
    | @tup b vs _ hb rb =>
      have eb := rb.key
      subst eb
      refine ⟨a, valV kvs k, rfl, .inr ⟨kvs, k, b, h1, rfl, e2 _ _ (cut_ex _ _ hb), rfl⟩, ?_⟩
      rw [val_some r1]
      exact q _ H2 (e1.trans e2) (.bl _)
theorem ev_kin {es : List (Key × PyData)} {k : Key} (hk : Ev K tb ds (keyD k)) (h : ErK K ta ds es) : Ev K (tDIn tb ta) ds (.bool (valD es k).isSome) := fun W N σ H S Q q =>
  hk W N σ H S _ fun u H1 e1 r2 => h W N σ H1 (S.mono e1) _ fun a kvs H2 e2 h1 r1 => by
    have eb := r2.key
    subst eb
    refine ⟨a, valV kvs k, rfl, .inl ⟨kvs, k, h1, rfl, rfl⟩, ?_⟩
    rw [val_some r1]
    exact q _ H2 (e1.trans e2) (.bl _)
end
end L4
end

section
set_option Elab.async false
set_option linter.all false
set_option maxRecDepth 100000
set_option autoImplicit false
/-! Texts: split, join, str, int. -/
namespace L4
open PySem L2
section
variable {K : PySem.W.Frag} {W N : List Addr} {H H' I : Hp} {σ : L2.St} {ds : D4} {ta tb tc : TE} {d x : PyData}
def rSplit : V → List V → Hp → VK → Prop := fun x xs H Q => ∃ a b, x = .str a ∧ xs = [.str b] ∧ (b.length == 0) = false ∧ a.length + 2 ≤ sizeLine ∧ rNewStrs (Txt.split a b) H Q
def rJoin (K : PySem.W.Frag) : V → List V → Hp → VK → Prop := fun x xs H Q => ∃ a p, ∃ ys : List Str, x = .str a ∧ xs = [.ref p] ∧ (SqL K H p (ys.map V.str) ∨ SqT K H p (ys.map V.str)) ∧
      (ys.map (·.length)).sum + ys.length * a.length ≤ 16777216 ∧ Q (.str (Txt.join a ys)) H
theorem strs_rp : ∀ ys : List Str, RpAll K I (ys.map V.str) (ys.map PyData.str)
  | [] => .nil
  | y :: r => .cons (.str y) (strs_rp r)
theorem en_split {a b : Str} (h : Ev K ta ds (.str a)) (h2 : Ev K tb ds (.str b)) (hb : (b.length == 0) = false) (ha : a.length + 2 ≤ sizeLine) : EnL K (tM1 rSplit ta tb) ds ((Txt.split a b).map .str) := fun W N σ H S Q q =>
  h W N σ H S _ fun v H1 e1 r1 => by
    cases r1
    refine ⟨⟨a, rfl⟩, h2 W N σ H1 (S.mono e1) _ fun u H2 e2 r2 => ?_⟩
    cases r2
    exact ⟨a, b, rfl, rfl, hb, ha, fun p hp => q p _ _ ((e1.trans e2).trans (Ex.new hp)) ((e1.trans e2).back hp) upd_same (strs_rp _)⟩
theorem ev_join {a : Str} {ys : List Str} (h : Ev K ta ds (.str a)) (h2 : ErL K tb ds (ys.map .str)) (hl : (ys.map (·.length)).sum + ys.length * a.length ≤ 16777216) : Ev K (tM1 (rJoin K) ta tb) ds (.str (Txt.join a ys)) := fun W N σ H S Q q =>
  h W N σ H S _ fun v H1 e1 r1 => by
    cases r1
    refine ⟨⟨a, rfl⟩, h2 W N σ H1 (S.mono e1) _ fun p vs H2 e2 sq r2 => ?_⟩
    have ev := r2.strs
    subst ev
    exact ⟨a, p, ys, rfl, rfl, .inl sq, hl, q _ H2 (e1.trans e2) (.str _)⟩
def rStrI : List V → Hp → VK → Prop := fun xs H Q => ∃ i : Int, xs = [.int i] ∧ i.natAbs.log2 < 1920 ∧ Q (.str (toString i)) H
def rStrS : List V → Hp → VK → Prop := fun xs H Q => ∃ a, xs = [.str a] ∧ Q (.str a) H
def rIntS : List V → Hp → VK → Prop := fun xs H Q => ∃ a n, xs = [.str a] ∧ PySem.intText? a = some n ∧ a.length ≤ 640 ∧ Q (.int n) H
theorem cd_strI {i : Int} (h : i.natAbs.log2 < 1920) : CD K rStrI [.int i] (.str (toString i)) := fun W H vs A r Q q => by
  cases r with
  | cons r1 r =>
    cases r; cases r1
    exact ⟨i, rfl, h, q _ H (Ex.refl H) (.str _)⟩
theorem cd_strS {a : Str} : CD K rStrS [.str a] (.str a) := fun W H vs A r Q q => by
  cases r with
  | cons r1 r =>
    cases r; cases r1
    exact ⟨a, rfl, q _ H (Ex.refl H) (.str _)⟩
theorem cd_intS {a : Str} {n : Int} (h : PySem.intText? a = some n) (hl : a.length ≤ 640) : CD K rIntS [.str a] (.int n) := fun W H vs A r Q q => by
  cases r with
  | cons r1 r =>
    cases r; cases r1
    exact ⟨a, n, rfl, h, hl, q _ H (Ex.refl H) (.int _)⟩
end
end L4
end

section
set_option Elab.async false
set_option linter.all false
set_option maxRecDepth 100000
set_option maxHeartbeats 3200000
set_option autoImplicit false
/-! More rules of syntax: fields as targets, sorted lists of data, dicts of texts, isinstance of own classes; defs, makers, methods, properties with their promises. -/
namespace L4
open PySem L2 PySem.W
section
variable {X : Cx} {K : PySem.W.Frag}
def gFld (K : PySem.W.Frag) (ta : TE) (f : Str) : TG := fun v σ H Q => ta σ H fun x H1 => ∃ a C dx fs, x = .ref a ∧ H1 a = some (.ins C dx fs) ∧ Cls K C ∧ NoAttr K C f ∧ fs.length < 1000 ∧ Q σ (upd H1 a (.ins C dx (putF f v fs)))
theorem pg_fld {o : Expr} {to : TE} {f : Str} {pos : Pos} (ho : PE X o to) : PG X (.Attribute o f pos) (gFld X.K to f) := by
  refine ⟨fun pins s σ H v u Q I r h => ?_⟩
  rw [assign_Attribute]
  refine wpAny_bind (wpAny_holding (thn (ho.run pins s σ H _ I h) fun ov s1 ⟨x, H1, I1, r1, a, C, dx, fs, ex, ea, c, n, l, q⟩ => ?_))
  subst ex
  obtain rfl : ov = Value.ref a := r1
  refine wpAny_bind (wpAny_standAt (wpAny_bind (wpAny_holding (setattr_ok I1 ea c n l r fun s3 I3 => ?_))))
  exact wpAny_release ⟨σ, _, I3, q⟩
theorem kg_fld (K : PySem.W.Frag) {o : Expr} {to : TE} {f : Str} {pos : Pos} (ho : PE X o to) (h : X.K = K := by rfl) : PG X (.Attribute o f pos) (gFld K to f) := h ▸ pg_fld ho
theorem kg_tup (K : PySem.W.Frag) {es : List Expr} {k : Nat} {t : TGs} {n : Nat} {pos : Pos} (hc : X.calm = true) (hh : PGs X es t) (h : X.K = K := by rfl)
    (hn : (assignEach es X.env).length = n := by rfl) (hst : (assignEach es X.env).findIdx? (·.1) = none := by rfl) : PG X (.Tuple es k pos) (gTup K n t) := h ▸ pg_tup hc hh hn hst
theorem kps_fld (K : PySem.W.Frag) {o value : Expr} {ta tv : TE} {f : Str} {pos pos' : Pos} (ha : PE X o ta) (hv : PE X value tv) (hs : swapsWith value (some (.Attribute o f pos')) pos.line X.env = pure false) (h : X.K = K := by rfl) : PS X (.Assign [.Attribute o f pos'] value pos) (sFld K ta tv f) := h ▸ ps_fld ha hv hs
theorem kp_fld (K : PySem.W.Frag) {e : Expr} {ta : TE} {f : Str} {pos : Pos} (he : PE X e ta) (h : X.K = K := by rfl) (hb : attributeBase e f X.env (eval e X.env) = eval e X.env := by rfl) : PE X (.Attribute e f pos) (tFld K ta f) := h ▸ pe_fld he hb
theorem kp_star (K : PySem.W.Frag) {e : Expr} {es : List Expr} {te : TE} {t : TA} {p : Pos} (he : PE X e te) (hr : PA X es t) (h : X.K = K := by rfl) (hs : starEach (.Starred e p :: es) X.env = (true, eval e X.env) :: starEach es X.env := by rfl) : PA X (.Starred e p :: es) (StX.tStar K te t) := h ▸ StX.pa_star he hr hs
theorem kp_revL (K : PySem.W.Frag) {e : Expr} {te : TE} {k : Nat} {p1 p2 p3 pos : Pos} (he : PE X e te) (h : X.K = K := by rfl) : PE X (.Subscript e (.Slice none none (some (.UnaryOp .USub (.Constant (.int 1) k p1) p2)) p3) pos) (tRevL K te) := h ▸ pe_revL he
theorem kp_split (K : PySem.W.Frag) {o e : Expr} {to te : TE} {apos pos : Pos} (ho : PE X o to) (he : PE X e te) (hs : starEach [e] X.env = [(false, eval e X.env)] := by rfl) (hbase : attributeBase o "split" X.env (eval o X.env) = eval o X.env := by rfl) (hline : (apos.endLine == pos.line) = true := by rfl) :
    PE X (.Call (.Attribute o "split" apos) [e] [] pos) (tM1 rSplit to te) := pe_split ho he hs hbase hline
theorem kp_join (K : PySem.W.Frag) {o e : Expr} {to te : TE} {apos pos : Pos} (ho : PE X o to) (he : PE X e te) (h : X.K = K := by rfl) (hs : starEach [e] X.env = [(false, eval e X.env)] := by rfl) (hbase : attributeBase o "join" X.env (eval o X.env) = eval o X.env := by rfl) (hline : (apos.endLine == pos.line) = true := by rfl) :
    PE X (.Call (.Attribute o "join" apos) [e] [] pos) (tM1 (rJoin K) to te) := by subst h; exact pe_join ho he hs hbase hline
/-- isinstance(x, C) of an own instance -/
def rIsC (C : Addr) : List V → Hp → VK → Prop := fun xs H Q => ∃ a dx fs, xs = [.ref a, .ref C] ∧ H a = some (.ins C dx fs) ∧ Q (.bl true) H
theorem kc_isC (K : PySem.W.Frag) {C : Addr} (c : C8.InsC K C) (h : X.K = K := by rfl) : CallR X (.builtin "isinstance") (rIsC C) := by subst h; exact C8.call_isC c
theorem kc_intS : CallR X (.type "int") rIntS := call_int_str
def gStr : List V → Hp → VK → Prop := fun xs H Q => rStrI xs H Q ∨ rStrS xs H Q
theorem kc_str : CallR X (.type "str") gStr := fun pins s σ H vs us Q I r h => h.elim (fun h => call_str_int pins s σ H vs us Q I r h) fun h => SkE.call_str_str pins s σ H vs us Q I r h
def rDictP (K : PySem.W.Frag) : List V → Hp → VK → Prop := fun xs H Q => ∃ (a : Addr) (ps : List Addr) (kvs : List (Key × V)), xs = [.ref a] ∧ SqL K H a (ps.map V.ref) ∧ Paired (fun p kv => SqT K H p [kV kv.1, kv.2]) ps kvs ∧ ∀ p, H p = none → Q (.ref p) (upd H p (.dK (mergeK [] kvs)))
theorem kc_dictP (K : PySem.W.Frag) (hc : X.calm = true) (h : X.K = K := by rfl) : CallR X (.type "dict") (rDictP K) := by subst h; exact call_dictP hc
/-- sorted of a list of alike data -/
def rSortD (K : PySem.W.Frag) : List V → Hp → VK → Prop := fun vs H Q => ∃ a xs ds, vs = [.ref a] ∧ SqL K H a xs ∧ DpAll K H xs ds ∧ AllAlike ds ∧ Sortable ds ∧ (∀ d ∈ ds, d.depth ≤ 50) ∧ xs.length ≤ 90000 ∧
  ∀ p, H p = none → Q (.ref p) (upd H p (.lst (((xs.zip ds).mergeSort (dataLe false (·.2))).map (·.1))))
theorem dpAll_len {K : PySem.W.Frag} {H : Hp} : ∀ {vs : List V} {ds : List PyData}, DpAll K H vs ds → vs.length = ds.length
  | _, _, .nil => rfl
  | _, _, .cons _ r => congrArg (· + 1) (dpAll_len r)
theorem dpAll_zip {K : PySem.W.Frag} {H : Hp} : ∀ {vs : List V} {ds : List PyData}, DpAll K H vs ds → ∀ p ∈ vs.zip ds, Dp K H p.1 p.2
  | _, _, .nil, p, hp => by simp at hp
  | _, _, .cons h r, p, hp => by
    rw [List.zip_cons_cons] at hp
    rcases List.mem_cons.mp hp with e | e
    · subst e; exact h
    · exact dpAll_zip r p e
theorem cr_sortD (hc : X.calm = true) (hu : X.A.units + 64 < cLine) : CallR X (.builtin "sorted") (rSortD X.K) := by
  intro pins s σ H vs us Q I r h
  obtain ⟨a, xs, ds, rfl, hq, dp, al, so, dep, hl, q⟩ := h
  rw [Vals.ref1 r]
  obtain ⟨its, rv, p, hz⟩ := I.list hq
  have l2 := dpAll_len dp
  have ez : (xs.zip ds).map (·.2) = ds := List.map_snd_zip (by rw [l2]; exact Nat.le_refl _)
  have gz : ∀ (j : Nat) (b : V × PyData), (xs.zip ds)[j]? = some b → xs[j]? = some b.1 ∧ ds[j]? = some b.2 := fun j b h => by
    rw [List.getElem?_zip_eq_some] at h
    exact h
  have lz : (xs.zip ds).length = xs.length := by rw [List.length_zip, l2, Nat.min_self]
  have each : EachIs (fun (v : Value) (b : V × PyData) => RelV b.1 v) its (xs.zip ds) := each_of_get (by rw [lz, rv.length]) fun j v b hv hb => by
    obtain ⟨u, hu', ru⟩ := rv.get (gz j b hb).1
    rw [hv] at hu'
    cases hu'
    exact ru
  have er : EachIs (fun (v : Value) (b : V × PyData) => ∃ as, Reads s.heap v b.2 as) its (xs.zip ds) := each_of_get (by rw [lz, rv.length]) fun j v b hv hb => by
    obtain ⟨u, hu', ru⟩ := rv.get (gz j b hb).1
    rw [hv] at hu'
    cases hu'
    exact Dp.reads I b.2 b.1 v (dpAll_zip dp b (List.mem_of_getElem? hb)) ru
  refine sorted_data (bs := xs.zip ds) (enc := (·.2)) (p.isList) each er (by rw [ez]; exact al) (by rw [ez]; exact so) (by rw [lz]; exact Nat.le_trans hl (by decide)) (fun b hb => ?_) fun out ho hr => ?_
  · have : b.2 ∈ ds := by rw [← ez]; exact List.mem_map_of_mem hb
    have := dep _ this
    omega
  · have rel : Vals (((xs.zip ds).mergeSort (dataLe false (·.2))).map (·.1)) out := by
      have gen : ∀ {l : List Value} {m : List (V × PyData)}, EachIs (fun (v : Value) (b : V × PyData) => RelV b.1 v) l m → Vals (m.map (·.1)) l := by
        intro l m t
        induction t with
        | nil => exact .nil
        | cons h _ ih => exact .cons h ih
      exact gen hr
    have hz' : (((xs.zip ds).mergeSort (dataLe false (·.2))).map (·.1)).length ≤ sizeLine := by
      rw [List.length_map, List.length_mergeSort, lz]
      exact Nat.le_trans hl (by decide)
    obtain ⟨c, hc'⟩ : ∃ c, (PyProof.Rows.sortedAll s.heap its out.toArray).get? (s.heap.objs.size + 1) = some (PyProof.Rows.seqObj "list" out.toArray c) := PyProof.Rows.sortedAll_at _ _ _
    refine ⟨.ref (s.heap.objs.size + 1), upd H (s.heap.objs.size + 1) (.lst (((xs.zip ds).mergeSort (dataLe false (·.2))).map (·.1))), I.laid (t' := s.toks) (fun b u e => ?_) (Nat.le_succ _) (show ObjOk X.prog X.w _ _ _ (.lst _) from ⟨hz', _, c, rel, hc'⟩), rfl, q _ (I.hok.fresh (Nat.le_succ _))⟩
    exact PyProof.Rows.sortedAll_old e
theorem kc_sortD (K : PySem.W.Frag) (hc : X.calm = true) (hu : X.A.units + 64 < cLine) (h : X.K = K := by rfl) : CallR X (.builtin "sorted") (rSortD K) := by subst h; exact cr_sortD hc hu
end
end L4
end

section
set_option Elab.async false
set_option linter.all false
set_option maxRecDepth 100000
set_option maxHeartbeats 3200000
set_option autoImplicit false
/-! dict(zip(xs, ys)), xs texts; what a law's text leaves; promises. -/
namespace L4
open PySem L2 PySem.W
def tDZipK (K : PySem.W.Frag) (ta : TA) : TE := fun σ H Q => ta σ H fun vs H1 => ∃ (k1 k2 : Kd) (a1 a2 : Addr) (xs : List Str) (ys : List V), vs = [.ref a1, .ref a2] ∧ k1.sq K H1 a1 (xs.map V.str) ∧ k2.sq K H1 a2 ys ∧
  ys.length = xs.length ∧ xs.length ≤ 1000 ∧ ∀ p, H1 p = none → Q (.ref p) (upd H1 p (.dK (mergeK [] ((xs.map Sum.inr).zip ys))))
theorem kv_zip : ∀ {ks : List Key} {ys : List V} {us : List Value}, ys.length = ks.length → Vals ys us → KV (ks.zip ys) (ks.zip us)
  | [], _, _, _, _ => by simp [List.zip]; exact .nil
  | _ :: _, [], _, h, _ => by simp at h
  | k :: ks, y :: ys, u :: us, h2, .cons r rv => by
    simp only [List.zip_cons_cons]
    exact .cons ⟨rfl, r⟩ (kv_zip (Nat.succ.inj h2) rv)
theorem strs_vals : ∀ {xs : List Str} {us : List Value}, Vals (xs.map V.str) us → us.length = xs.length ∧ ∀ (i : Nat) (u : Value), us[i]? = some u → ∃ x, xs[i]? = some x ∧ RelV (.str x) u
  | [], _, .nil => ⟨rfl, fun i u h => by simp at h⟩
  | x :: xs, u :: us, .cons r rv => by
    obtain ⟨l, g⟩ := strs_vals rv
    refine ⟨congrArg (· + 1) l, fun i w h => ?_⟩
    cases i with
    | zero => cases h; exact ⟨x, rfl, r⟩
    | succ i => exact g i w h
theorem pe_dzipK {X : Cx} {e1 e2 : Expr} {ta : TA} {p1 p2 q1 pos : Pos} (hc : X.calm = true) (hu : X.A.units + 64 < cLine) (hg : Gl X "dict") (hm : X.mg "dict" = none) (hg2 : Gl X "zip") (hm2 : X.mg "zip" = none) (ha : PA X [e1, e2] ta)
    (hs : starEach [e1, e2] X.env = (false, eval e1 X.env) :: starEach [e2] X.env := by rfl) (hpl : (backTo q1 (starEach [e2] X.env)).any (·.1) = false := by rfl) :
    PE X (.Call (.Name "dict" p1) [.Call (.Name "zip" p2) [e1, e2] [] q1] [] pos) (tDZipK X.K ta) := by
  refine ⟨fun pins s σ H Q I h => ?_⟩
  refine PyProof.Rows.Call_ (ld_blt I hg hm PyProof.Rows.boot_dict (PyProof.Rows.callWith_type1 (PyProof.Rows.args_cons ?_ rfl) rfl rfl))
  refine PyProof.Rows.Call_ (ld_blt I hg2 hm2 PyProof.Rows.boot_zip (PyProof.Rows.callWith_type1 (thn (ha.run q1 pins s σ H _ I h) fun us s1 ⟨vs, H1, I1, r1, qq⟩ => ?_) hs hpl))
  obtain ⟨k1, k2, a1, a2, xs, ys, ex, hq1, hq2, ly, lb, q⟩ := qq
  subst ex
  cases r1 with
  | cons rq r1 =>
    cases r1 with
    | cons rqq r1 =>
      cases r1
      cases rq
      cases rqq
      obtain ⟨its1, rv1, pk1, l1⟩ := k1.of_inv I1 hq1
      obtain ⟨its2, rv2, pk2, l2⟩ := k2.of_inv I1 hq2
      obtain ⟨n1, g1x⟩ := strs_vals rv1
      have n2 : its2.length = xs.length := by rw [← rv2.length, ly]
      refine zip_begins2 (k1.begins a1 _) (k2.begins a2 _) pk1 pk2 fun h' hz hTI hTO g1 g2 hsz hk => PyProof.Rows.args_nil ?_
      have S := zip_sep2 (N := s1.heap.objs.size) (fp1 := [a1]) (fp2 := [a2]) (fun b hb => by rw [List.mem_singleton.mp hb]; exact l1) (fun b hb => by rw [List.mem_singleton.mp hb]; exact l2)
      have keep1 : k1.is h' a1 its1.toArray := (k1.begins a1 _).keeps s1.heap h' pk1 hk
      have keep2 : k2.is h' a2 its2.toArray := (k2.begins a2 _).keeps s1.heap h' pk2 hk
      have P := argZip (prog := X.prog) (w := X.w) (n := xs.length) k1 k2 S (Nat.ne_of_lt l1) (Nat.ne_of_lt (Nat.lt_of_lt_of_le l2 (Nat.le_add_right _ _))) (xs := its1.toArray) (ys := its2.toArray) (by simp [n1]) (by simp [n2])
        ⟨Nat.ne_of_lt (Nat.lt_of_lt_of_le l1 (Nat.le_add_right _ _)), Nat.ne_of_lt (Nat.lt_of_lt_of_le l2 (Nat.le_add_right _ _))⟩
      have kv : KV ((xs.map Sum.inr).zip ys) (((xs.map Sum.inr : List Key)).zip its2) := kv_zip (by rw [List.length_map, ly]) rv2
      have notwr : ∀ {b : Addr}, b < s1.heap.objs.size → b ∉ [s1.heap.objs.size + 4, s1.heap.objs.size + 3, s1.heap.objs.size, s1.heap.objs.size + 1] := fun {b} hb m => by
        simp only [List.mem_cons, List.not_mem_nil, or_false] at m
        have far : ∀ k, b ≠ s1.heap.objs.size + k := fun k e => absurd (show s1.heap.objs.size + k < s1.heap.objs.size from e ▸ hb) (Nat.not_lt.mpr (Nat.le_add_right _ _))
        rcases m with m | m | m | m
        · exact far 4 m
        · exact far 3 m
        · exact far 0 m
        · exact far 1 m
      have lz : (((xs.map Sum.inr : List Key)).zip its2).length = xs.length := by rw [List.length_zip, n2]; simp
      refine PySem.call_dict_pairs (A := X.A) (s := { s1 with heap := h' }) (knd := mixKind X.prog X.w) (kvs := ((xs.map Sum.inr : List Key)).zip its2) P (I1.ok.hd hc) ⟨hz, hTI, ⟨_, _, hTO⟩, Kd.it_of g1, Kd.it_of g2, keep1, keep2⟩ ⟨lz, fun i key v hr => ?_⟩ (Nat.le_trans lb (show 1000 ≤ sizeLine by decide)) fun h2 tk dd hk2 => ?_
      · obtain ⟨hr1, hr2⟩ := hr
        have hr1' : its1[i]? = some key := by simpa using hr1
        have hr2' : its2[i]? = some v := by simpa using hr2
        obtain ⟨x, hx, rx⟩ := g1x i key hr1'
        refine ⟨.inr x, ?_, kV_is (k := .inr x) rx⟩
        rw [List.getElem?_zip_eq_some]
        exact ⟨by rw [List.getElem?_map, hx]; rfl, hr2'⟩
      · have old : ∀ b o, s1.heap.get? b = some o → h2.get? b = some o := fun b o e => hk2 b o (notwr (Heap.lt_size e)) (hk b o e)
        have ge : s1.heap.objs.size ≤ h'.objs.size := by rw [hsz]; exact Nat.le_add_right _ _
        have ns : (h'.objs.size == sysModules) = false := beq_eq_false_iff_ne.mpr (Nat.ne_of_gt (Nat.lt_of_lt_of_le I1.big ge))
        have fresh : H1 h'.objs.size = none := I1.hok.fresh ge
        have lzy : (mergeK [] ((xs.map Sum.inr).zip ys)).length ≤ sizeLine := by
          refine Nat.le_trans (length_mergeK _ []) ?_
          rw [List.length_nil, Nat.zero_add, List.length_zip, List.length_map, ly, Nat.min_self]
          exact Nat.le_trans lb (show 1000 ≤ sizeLine by decide)
        exact ⟨.ref h'.objs.size, upd H1 h'.objs.size (.dK (mergeK [] ((xs.map Sum.inr).zip ys))), I1.laid (t' := tk) (fun b u e => old b u e) ge (show ObjOk X.prog X.w _ _ _ (.dK (mergeK [] ((xs.map Sum.inr).zip ys))) from ⟨lzy, ns, merged [] (((xs.map Sum.inr : List Key)).zip its2), KV.merge kv .nil, dd⟩), rfl, q _ fresh⟩
theorem kp_dzipK (K : PySem.W.Frag) {X : Cx} {e1 e2 : Expr} {ta : TA} {p1 p2 q1 pos : Pos} (hc : X.calm = true) (hu : X.A.units + 64 < cLine) (hg : Gl X "dict") (hm : X.mg "dict" = none) (hg2 : Gl X "zip") (hm2 : X.mg "zip" = none) (ha : PA X [e1, e2] ta) (h : X.K = K := by rfl)
    (hs : starEach [e1, e2] X.env = (false, eval e1 X.env) :: starEach [e2] X.env := by rfl) (hpl : (backTo q1 (starEach [e2] X.env)).any (·.1) = false := by rfl) :
    PE X (.Call (.Name "dict" p1) [.Call (.Name "zip" p2) [e1, e2] [] q1] [] pos) (tDZipK K ta) := by subst h; exact pe_dzipK hc hu hg hm hg2 hm2 ha hs hpl
end L4
namespace L4
open PySem L2
/-- a constant of the module -/
def Cst (mg : Str → Option Value) (x : Str) (v : V) : Prop := ∃ u, mg x = some u ∧ RelV v u
theorem pe_cst {X : Cx} {x : Str} {v : V} {pos : Pos} (h : Cst X.mg x v) (hg : Gl X x := by rfl) (hd : (x == ("__debug__" : Str)) = false := by decide) : PE X (.Name x pos) (tC v) := by
  obtain ⟨u, hm, r⟩ := h
  exact pe_glob hg hm r hd
/-- defs, makers, methods, properties as they stand behind the top -/
def At (K : PySem.W.Frag) (mg : Str → Option Value) (x : Str) (st : Stmt) (ps : List Str) : Prop := ∃ f fd, Fun K x x st f fd ∧ Binds K fd ps [] ∧ mg x = some (.ref f)
def AtI (K : PySem.W.Frag) (mg : Str → Option Value) (C : Addr) (x qual : Str) (st : Stmt) (ps : List Str) : Prop := ∃ f fd, Fun K "__init__" qual st f fd ∧ Binds K fd ps [] ∧ Mk K C f ∧ mg x = some (.ref C)
def AtM (K : PySem.W.Frag) (C : Addr) (m qual : Str) (st : Stmt) (ps : List Str) : Prop := ∃ f fd, Fun K m qual st f fd ∧ Binds K fd ps [] ∧ Meth K C m f
def AtP (K : PySem.W.Frag) (C : Addr) (m qual : Str) (st : Stmt) (ps : List Str) : Prop := ∃ p f fd, Fun K m qual st f fd ∧ Binds K fd ps [] ∧ PropOf K C m p f
/-- .. with their promises -/
def Ok (P : Program) (w : World) (K : PySem.W.Frag) (mg : Str → Option Value) (base : Heap) (x : Str) (k : Nat) (ps : List Str) (sp : Sp) : Prop :=
  ∃ f fd, mg x = some (.ref f) ∧ PySem.W.keepIn K (.ref f) = true ∧ Binds K fd ps [] ∧ FnOk P w K mg base CX0 k f fd ps sp
def OkI (P : Program) (w : World) (K : PySem.W.Frag) (mg : Str → Option Value) (base : Heap) (C : Addr) (x : Str) (k : Nat) (ps : List Str) (sp : Sp) : Prop :=
  ∃ f fd, Mk K C f ∧ mg x = some (.ref C) ∧ Binds K fd ps [] ∧ FnOk P w K mg base CX0 k f fd ps sp
def OkM (P : Program) (w : World) (K : PySem.W.Frag) (mg : Str → Option Value) (base : Heap) (C : Addr) (m : Str) (k : Nat) (ps : List Str) (sp : Sp) : Prop :=
  ∃ f fd, Cls K C ∧ Meth K C m f ∧ Binds K fd ps [] ∧ FnOk P w K mg base CX0 k f fd ps sp
def OkP (P : Program) (w : World) (K : PySem.W.Frag) (mg : Str → Option Value) (base : Heap) (C : Addr) (m : Str) (k : Nat) (ps : List Str) (sp : Sp) : Prop :=
  ∃ p f fd, Cls K C ∧ PropOf K C m p f ∧ Binds K fd ps [] ∧ FnOk P w K mg base CX0 k f fd ps sp
section
variable {X : Cx} {k : Nat} {ps : List Str} {sp : Sp} {x m : Str} {C : Addr} {p pos apos : Pos} {e o : Expr} {es : List Expr} {t : TA} {ta : TE}
theorem pe_own (h : Ok X.prog X.w X.K X.mg X.base x k ps sp) (hr : Room k X.A) (hg : Gl X x) (ha : PA X (e :: es) t)
    (hdb : (x == ("__debug__" : Str)) = false := by decide) (he : starEach (e :: es) X.env = (false, eval e X.env) :: starEach es X.env := by rfl) (hpl : (backTo pos (starEach es X.env)).any (·.1) = false := by rfl) :
    PE X (.Call (.Name x p) (e :: es) [] pos) (tCall sp [] E0 t) := by
  obtain ⟨f, fd, hm, hk, hb, F⟩ := h
  exact pe_call F hr hg hm hk hb .nil pass0 ha hdb he hpl
theorem pe_ownI (h : OkI X.prog X.w X.K X.mg X.base C x k ps sp) (hr : Room (k + 1) X.A) (hg : Gl X x) (ha : PA X (e :: es) t)
    (hdb : (x == ("__debug__" : Str)) = false := by decide) (he : starEach (e :: es) X.env = (false, eval e X.env) :: starEach es X.env := by rfl) (hpl : (backTo pos (starEach es X.env)).any (·.1) = false := by rfl) :
    PE X (.Call (.Name x p) (e :: es) [] pos) (tMake C sp [] E0 t) := by
  obtain ⟨f, fd, M, hm, hb, F⟩ := h
  exact pe_make M F hr hg hm hb .nil pass0 ha hdb he hpl
theorem pe_ownI0 (h : OkI X.prog X.w X.K X.mg X.base C x k ps sp) (hr : Room (k + 1) X.A) (hg : Gl X x) (hdb : (x == ("__debug__" : Str)) = false := by decide) :
    PE X (.Call (.Name x p) [] [] pos) (tMake C sp [] E0 tNil) := by
  obtain ⟨f, fd, M, hm, hb, F⟩ := h
  exact pe_make0 M F hr hg hm hb .nil pass0 hdb
theorem pe_ownM {pl : Sem Bool} (h : OkM X.prog X.w X.K X.mg X.base C m k ps sp) (hr : Room k X.A) (ho : PE X o ta) (ha : PA X (e :: es) t)
    (hst : starEach (e :: es) X.env = (false, eval e X.env) :: starEach es X.env := by rfl) (hpl : (backTo pos (starEach es X.env)).any (·.1) = false := by rfl)
    (ht : eval (.Call (.Attribute o m apos) (e :: es) [] pos) X.env = (do
      let ov ← eval o X.env
      standAt apos.atName
      let (f, first) ← holding [ov] (getMethod ov m pl)
      callWith pos f first (backTo pos (starEach (e :: es) X.env)) (backToKw pos (keywordEach [] X.env))) := by rfl) : PE X (.Call (.Attribute o m apos) (e :: es) [] pos) (tMeth C m sp [] E0 ta t) := by
  obtain ⟨f, fd, c, hm, hb, F⟩ := h
  exact pe_meth ho c hm F hr hb .nil pass0 ha hst hpl ht
theorem pe_ownM0 {pl : Sem Bool} (h : OkM X.prog X.w X.K X.mg X.base C m k ps sp) (hr : Room k X.A) (ho : PE X o ta)
    (ht : eval (.Call (.Attribute o m apos) [] [] pos) X.env = (do
      let ov ← eval o X.env
      standAt apos.atName
      let (f, first) ← holding [ov] (getMethod ov m pl)
      callWith pos f first (backTo pos (starEach [] X.env)) (backToKw pos (keywordEach [] X.env))) := by rfl) : PE X (.Call (.Attribute o m apos) [] [] pos) (tMeth C m sp [] E0 ta tNil) := by
  obtain ⟨f, fd, c, hm, hb, F⟩ := h
  exact pe_meth0 ho c hm F hr hb .nil pass0 ht
theorem pe_ownP (h : OkP X.prog X.w X.K X.mg X.base C m k ps sp) (hr : Room (k + 1) X.A) (ho : PE X o ta) (hab : attributeBase o m X.env (eval o X.env) = eval o X.env := by rfl) : PE X (.Attribute o m pos) (tProp C sp [] E0 ta) := by
  obtain ⟨p, f, fd, c, hp, hb, F⟩ := h
  exact pe_prop ho c hp F hr hb .nil pass0 hab
end
end L4
end

section
set_option Elab.async false
set_option linter.all false
set_option maxRecDepth 100000
set_option autoImplicit false
/-! Own objects looked at as pure data; more readings. -/
namespace L4
open PySem L2
mutual
/-- data without lists, dicts, instances -/
def imm : PyData → Bool
  | .none => true
  | .bool _ => true
  | .int _ => true
  | .str _ => true
  | .tuple xs => immAll xs
  | _ => false
def immAll : List PyData → Bool
  | [] => true
  | x :: xs => imm x && immAll xs
end
theorem immAll_map {α : Type} {f : α → PyData} {l : List α} (h : ∀ x ∈ l, imm (f x) = true) : immAll (l.map f) = true := by
  induction l with
  | nil => rfl
  | cons x l ih =>
    show (imm (f x) && immAll (l.map f)) = true
    rw [h x List.mem_cons_self, ih fun y hy => h y (List.mem_cons_of_mem _ hy)]
    rfl
section
variable {K : PySem.W.Frag} {B : Hp} {W0 M N W W' : List Addr} {H0 H H' I : Hp} {σ : L2.St} {adr : List Addr} {ds ds1 : D4} {P : Post} {te ta tb tc tv : TE} {tr : TA} {tt : TT} {t u : TS} {d x y z r : PyData} {xs ys : List PyData} {v : V}
mutual
theorem Rp.imm : ∀ {d : PyData} {v : V}, Rp K (cut H W') v d → L4.imm d = true → Al W H → Rp K (cut H W) v d
  | .none, _, .non, _, _ => .non
  | .bool b, _, .bl _, _, _ => .bl b
  | .int i, _, .int _, _, _ => .int i
  | .str x, _, .str _, _, _ => .str x
  | .tuple ds, _, .tup h r, c, A => .tup (by
      have h1 := cut_ex _ _ h
      rw [cut_out (A.tup h1)]; exact h1) (RpAll.imm r c A)
  | .list ds, _, _, c, _ => by cases c
  | .dict es, _, _, c, _ => by cases c
theorem RpAll.imm : ∀ {ds : List PyData} {vs : List V}, RpAll K (cut H W') vs ds → immAll ds = true → Al W H → RpAll K (cut H W) vs ds
  | [], _, .nil, _, _ => .nil
  | d :: ds, _, .cons h r, c, A => by
    have c' : (L4.imm d && immAll ds) = true := c
    rw [Bool.and_eq_true] at c'
    exact .cons (Rp.imm h c'.1 A) (RpAll.imm r c'.2 A)
end
theorem Stt.frz (S : Stt K W N H σ ds) {l : Nat} {o : Ob} (ho : ds.st[l]? = some o) (lv : o.live = true) (p : PuOb o d) : ∃ W', Stt K W' [] H σ (ds.frz l d) := by
  obtain ⟨adr, S⟩ := S
  have F : FrA K (cut H W) [] [] [] (fun _ => none) W σ H adr ds := ⟨⟨S.len, S.al, S.la, S.nd, S.there, S.sl, fun l a o h1 h2 h3 => by
    obtain ⟨aW, _, r⟩ := S.ob l a o h1 h2 h3
    exact ⟨aW, (fun z => nomatch z), r⟩⟩, fun _ h => (nomatch h), fun _ _ _ => rfl, fun _ _ _ h => (nomatch h), fun _ h => (nomatch h), fun _ h => (nomatch h), fun _ h => (nomatch h), fun _ _ _ _ h => (nomatch h), Ex.refl _, fun _ _ h => by simp at h⟩
  obtain ⟨W', F', _⟩ := F.frz ho lv p (Nat.zero_le _)
  exact ⟨W', adr, F'.st⟩
/-- an own object as pure data, while something is reckoned that does not hold it -/
theorem ev_view {l : Nat} {o : Ob} (ho : ds.st[l]? = some o) (p : PuOb o d) (h : Ev K te (ds.frz l d) r) (c : L4.imm r = true := by rfl) (lv : o.live = true := by rfl) : Ev K te ds r := fun W N σ H S Q q => by
  obtain ⟨W', S'⟩ := S.frz ho lv p
  exact h W' [] σ H S' Q fun v H' e rr => q v H' e (Rp.imm rr c (S.al.mono e))
theorem et_view {l : Nat} {o : Ob} {b : Bool} (ho : ds.st[l]? = some o) (p : PuOb o d) (h : Et K tt (ds.frz l d) b) (lv : o.live = true := by rfl) : Et K tt ds b := fun W N σ H S Q q => by
  obtain ⟨W', S'⟩ := S.frz ho lv p
  exact h W' [] σ H S' Q q
theorem ea_view {l : Nat} {o : Ob} (ho : ds.st[l]? = some o) (p : PuOb o d) (h : Ea K tr (ds.frz l d) xs) (c : immAll xs = true := by rfl) (lv : o.live = true := by rfl) : Ea K tr ds xs := fun W N σ H S Q q => by
  obtain ⟨W', S'⟩ := S.frz ho lv p
  exact h W' [] σ H S' Q fun v H' e rr => q v H' e (RpAll.imm rr c (S.al.mono e))
theorem en_view {l : Nat} {o : Ob} (ho : ds.st[l]? = some o) (p : PuOb o d) (h : EnL K te (ds.frz l d) xs) (c : immAll xs = true) (lv : o.live = true := by rfl) : EnL K te ds xs := fun W N σ H S Q q => by
  obtain ⟨W', S'⟩ := S.frz ho lv p
  exact h W' [] σ H S' Q fun a vs H' e n hs rr => q a vs H' e n hs (RpAll.imm rr c fun b hb => (List.mem_cons.mp hb).elim (fun z => by rw [z, hs]; exact nt_lst) fun z => S.al.mono e b z)
theorem eIr_view {l : Nat} {o : Ob} {wi : TI} (ho : ds.st[l]? = some o) (p : PuOb o d) (h : EI K wi (ds.frz l d) xs) (c : immAll xs = true) (lv : o.live = true := by rfl) : EIr K wi ds xs := fun W N σ H S R q => by
  obtain ⟨W', S'⟩ := S.frz ho lv p
  refine h W' [] σ H S' R fun J H1 e it => q J H1 e ⟨fun i H2 hi e2 => it.go i H2 W' hi (cut_mono e2), fun H2 e2 => it.stop H2 W' (cut_mono e2), fun i H2 W2 x H3 d2 hd e2 _ A2 y => ?_⟩
  obtain ⟨e3, r3⟩ := it.yld i H2 W' x H3 d2 hd (cut_mono e2) (S'.al.mono (e.trans e2)) y
  have im : L4.imm d2 = true := by
    have gen : ∀ {l : List PyData} {i : Nat}, immAll l = true → l[i]? = some d2 → L4.imm d2 = true := by
      intro l
      induction l with
      | nil => intro i _ h; simp at h
      | cons x l ih =>
        intro i c h
        have c' : (L4.imm x && immAll l) = true := c
        rw [Bool.and_eq_true] at c'
        cases i with
        | zero => cases h; exact c'.1
        | succ i => exact ih c'.2 h
    exact gen c hd
  exact ⟨e3, Rp.imm r3 im (A2.mono e3)⟩
/-! values -/
theorem ev_ifV {b : Bool} (h : Et K tt ds b) (h1 : b = true → Ev K ta ds x) (h2 : b = false → Ev K tb ds y) : Ev K (tIf tt ta tb) ds (if b then x else y) := by
  cases b with
  | true => exact ev_if h (fun _ => h1 rfl) (fun e => nomatch e)
  | false => exact ev_if h (fun e => nomatch e) fun _ => h2 rfl
def isN : PyData → Bool
  | .none => true
  | _ => false
theorem Rp.isN {I : Hp} : Rp K I v d → decide (v = .non) = L4.isN d := fun r => by cases r <;> first | rfl | exact decide_eq_false (fun z => nomatch z)
theorem ev_isN (h : Ev K ta ds d) : Ev K (tIsN ta) ds (.bool (isN d)) := fun W N σ H S Q q =>
  h W N σ H S _ fun v H' e r => by rw [r.isN]; exact q _ H' e (.bl _)
theorem ev_notN (h : Ev K ta ds d) : Ev K (tNotN ta) ds (.bool (!isN d)) := fun W N σ H S Q q =>
  h W N σ H S _ fun v H' e r => by rw [r.isN]; exact q _ H' e (.bl _)
theorem rd_notB {a b : Bool} : RD K rNotB (.bool a) (.bool b) (.bool (!decide (a = b))) := fun W H v u A r1 r2 Q q => by
  cases r1; cases r2
  exact ⟨a, b, rfl, rfl, q _ H (Ex.refl H) (.bl _)⟩
theorem ev_isC {C : Addr} {fs : List (Str × PyData)} (h : Ev K te ds (inD C fs)) : Ev K (tCB (rIsC C) (tCons te (tCons (tC (.ref C)) tNil))) ds (.bool true) := fun W N σ H S Q q =>
  h W N σ H S _ fun v H' e r => by
    obtain ⟨a, dx, fvs, rfl, h1, _⟩ := r.inst
    exact ⟨a, dx, fvs, rfl, cut_ex _ _ h1, q _ H' e (.bl true)⟩
theorem ev_isT {C : Addr} {Q0 : PyData → Prop} : True := trivial
theorem en_revL (h : Ev K te ds (.list xs)) : EnL K (tRevL K te) ds xs.reverse := fun W N σ H S Q q =>
  h W N σ H S _ fun v H' e r => by
    cases r with
    | @lst a vs _ h1 r =>
      exact ⟨a, vs, rfl, .inl (.inl (cut_ex _ _ h1)), fun p hp => q p _ _ (e.trans (Ex.new hp)) (e.back hp) upd_same ((r.reverse).mono (cut_cons hp (Ex.new hp)))⟩
theorem ea_star {ys : List PyData} (h : Ev K te ds (.tuple ys)) (hr : Ea K tr ds xs) : Ea K (StX.tStar K te tr) ds (ys ++ xs) := fun W N σ H S Q q =>
  h W N σ H S _ fun v H1 e r => by
    cases r with
    | @tup a vs _ h1 r =>
      exact ⟨a, vs, rfl, .inl (.inl (.inl (cut_ex _ _ h1))), hr W N σ H1 (S.mono e) _ fun us H2 e2 r2 => q _ H2 (e.trans e2) ((r.mono (cut_mono e2)).append r2)⟩
theorem ev_slS {tl th : TO} {lo hi : Option Int} {s : Str} (h : Ev K te ds (.str s)) (h1 : Eo K tl ds lo) (h2 : Eo K th ds hi) (hl : s.length ≤ 100000) : Ev K (tSl rSlS te tl th) ds (.str (cutS s lo hi)) := fun W N σ H S Q q =>
  h W N σ H S _ fun v H1 e1 r => by
    cases r
    exact h1 W N σ H1 (S.mono e1) _ fun H2 e2 => h2 W N σ H2 ((S.mono e1).mono e2) _ fun H3 e3 => ⟨s, rfl, sz_of hl, q _ H3 ((e1.trans e2).trans e3) (.str _)⟩
theorem cd_sI {i : Int} (h : i.natAbs.log2 < 1920) : CD K gStr [.int i] (.str (toString i)) := fun W H vs A r Q q => .inl (cd_strI h W H vs A r Q q)
theorem cd_sS {a : Str} : CD K gStr [.str a] (.str a) := fun W H vs A r Q q => .inr (cd_strS W H vs A r Q q)
/-- sorted -/
theorem zip_rp : ∀ {vs : List V} {ds : List PyData}, RpAll K I vs ds → ∀ p ∈ vs.zip ds, Rp K I p.1 p.2
  | _, _, .nil, p, hp => by simp at hp
  | _, _, .cons h r, p, hp => by
    rw [List.zip_cons_cons] at hp
    rcases List.mem_cons.mp hp with e | e
    · subst e; exact h
    · exact zip_rp r p e
theorem rp_zip : ∀ {l : List (V × PyData)}, (∀ p ∈ l, Rp K I p.1 p.2) → RpAll K I (l.map (·.1)) (l.map (·.2))
  | [], _ => .nil
  | p :: l, h => .cons (h p List.mem_cons_self) (rp_zip fun q hq => h q (List.mem_cons_of_mem _ hq))
theorem en_sortD (h : Ev K te ds (.list xs)) (c : PyData.canLayAll0 xs = true) (al : PySem.W.AllAlike xs) (so : PySem.W.Sortable xs) (dp : ∀ d ∈ xs, d.depth ≤ 50) (hl : xs.length ≤ 90000) : EnL K (tCB (rSortD K) (tCons te tNil)) ds (xs.mergeSort (PySem.W.dataLe false id)) := fun W N σ H S Q q =>
  h W N σ H S _ fun v H' e r => by
    cases r with
    | @lst a vs _ h1 r =>
      refine ⟨a, vs, xs, rfl, .inl (.inl (cut_ex _ _ h1)), r.dpH c, al, so, dp, by rw [r.length]; exact hl, fun p hp => q p _ _ (e.trans (Ex.new hp)) (e.back hp) upd_same ?_⟩
      have es : xs.mergeSort (PySem.W.dataLe false id) = ((vs.zip xs).mergeSort (PySem.W.dataLe false (·.2))).map (·.2) := by
        rw [List.map_mergeSort (r := PySem.W.dataLe false (·.2)) (s := PySem.W.dataLe false id) (f := fun p : V × PyData => p.2) fun a _ b _ => rfl, List.map_snd_zip (by rw [r.length]; exact Nat.le_refl _)]
      rw [es]
      exact (rp_zip fun p hp => zip_rp r p ((List.mergeSort_perm _ _).mem_iff.mp hp)).mono (cut_cons hp (Ex.new hp))
theorem en_sortTP {es : List (List Key × PyData)} (h : Ev K te ds (dtD es)) (al : PySem.W.AllAlike (es.map fun p => kD p.1)) (so : PySem.W.Sortable (es.map fun p => kD p.1)) (hl : es.length ≤ 1000) : EnL K (tCB rSortT (tCons te tNil)) ds (((es.map (·.1)).mergeSort kLe).map kD) := fun W N σ H S Q q =>
  h W N σ H S _ fun v H' e r => by
    obtain ⟨a, kvs, ev, h1, rk⟩ := r.dt
    subst ev
    have ke := rk.keys
    have e2 : (kvs.map fun p => kD p.1) = es.map fun p => kD p.1 := by
      have e1 : (kvs.map fun p => kD p.1) = (kvs.map (·.1)).map kD := by rw [List.map_map]; rfl
      rw [e1, ke, List.map_map]; rfl
    refine ⟨a, kvs, rfl, cut_ex _ _ h1, by rw [e2]; exact al, by rw [e2]; exact so, by rw [rk.length]; exact hl, fun p hp => depth_kD p.1, fun p bs hp hb hk => q p _ _ (e.trans (Ex.new hp)) (e.back hp) upd_same ?_⟩
    rw [← ke]
    have lm : bs.length = (((kvs.map (·.1)).mergeSort kLe).map kD).length := by rw [List.length_map, List.length_mergeSort, List.length_map, hb]
    have A' : Al (p :: W) (upd H' p (.lst (bs.map V.ref))) := fun b hb => (List.mem_cons.mp hb).elim (fun z => by rw [z, upd_same]; exact nt_lst) fun z => (S.al.mono (e.trans (Ex.new hp))) b z
    refine RpAll.of_get (by rw [List.length_map]; exact lm) fun i w d hw hd => ?_
    rw [List.getElem?_map] at hw hd
    obtain ⟨b, hb1, eb⟩ := Option.map_eq_some_iff.mp hw
    obtain ⟨k, hk1, ek⟩ := Option.map_eq_some_iff.mp hd
    subst eb ek
    have hb' : upd H' p (.lst (bs.map V.ref)) b = some (.tup (k.map kV)) := by
      have tb := hk i k b hk1 hb1
      rw [upd_ne (fun z => by rw [z, hp] at tb; cases tb)]
      exact tb
    exact .tup (by rw [cut_out (A'.tup hb')]; exact hb') (RpAll.of_key k)
/-! dicts made -/
def mergeD (es more : List (Key × PyData)) : List (Key × PyData) := more.foldl (fun acc kv => putD acc kv.1 kv.2) es
theorem RpKV.merge : ∀ {more : List (Key × V)} {me : List (Key × PyData)} {kvs : List (Key × V)} {es : List (Key × PyData)}, RpKV K I Key more me → RpKV K I Key kvs es → RpKV K I Key (mergeK kvs more) (mergeD es me)
  | _, _, _, _, .nil, r => r
  | _, _, kvs, es, .cons (k := k) (v := v) (vs := vs) (d := d) (ds := ds) h t, r => by
    show RpKV K I Key (mergeK (putK kvs k v) vs) (mergeD (putD es k d) ds)
    exact RpKV.merge t (r.put h)
theorem zip_kv : ∀ {ks : List Key} {vs : List V} {xs : List PyData}, RpAll K I vs xs → RpKV K I Key (ks.zip vs) (ks.zip xs)
  | ks, _, _, .nil => by rw [List.zip_nil_right, List.zip_nil_right]; exact .nil
  | [], _, _, .cons _ _ => .nil
  | k :: ks, _, _, .cons h r => by rw [List.zip_cons_cons, List.zip_cons_cons]; exact .cons h (zip_kv r)
theorem en_dzipK {k1 k2 : Kd} {ss : List Str} (h1 : Ev K ta ds (k1.D (ss.map .str))) (h2 : Ev K tb ds (k2.D ys)) (hl : ys.length = ss.length) (hb : ss.length ≤ 1000) : EnK K (tDZipK K (tCons ta (tCons tb tNil))) ds (mergeD [] ((ss.map Sum.inr).zip ys)) := fun W N σ H S Q q => by
  refine (Ev.runS h1) W N σ H S _ fun a1 vs1 H1 e1 sq1 r1 => (Ev.runS h2) W N σ H1 (S.mono e1) _ fun a2 vs2 H2 e2 sq2 r2 => ?_
  have es := r1.strs
  subst es
  refine ⟨k1, k2, a1, a2, ss, vs2, rfl, sq_ex (cut_ex.trans e2) sq1, sq_ex cut_ex sq2, by rw [r2.length]; exact hl, hb, fun p hp => q p _ _ ((e1.trans e2).trans (Ex.new hp)) ((e1.trans e2).back hp) upd_same ?_⟩
  exact (RpKV.merge (zip_kv r2) .nil).mono (cut_cons hp (Ex.new hp))
theorem en_dictP {kvs : List (Key × PyData)} (h : Ev K ta ds (.list (kvs.map fun p => .tuple [keyD p.1, p.2]))) : EnK K (tCB (rDictP K) (tCons ta tNil)) ds (mergeD [] kvs) := fun W N σ H S Q q =>
  h W N σ H S _ fun v H' e r => by
    cases r with
    | @lst a vs _ h1 r =>
      have gen : ∀ {kvs : List (Key × PyData)} {vs : List V}, RpAll K (cut H' W) vs (kvs.map fun p => PyData.tuple [keyD p.1, p.2]) → ∃ (ps : List Addr) (kws : List (Key × V)), vs = ps.map V.ref ∧ Paired (fun p kv => SqT K H' p [kV kv.1, kv.2]) ps kws ∧ RpKV K (cut H' W) Key kws kvs := by
        intro kvs
        induction kvs with
        | nil => intro vs r; cases r; exact ⟨[], [], rfl, .nil, .nil⟩
        | cons p kvs ih =>
          intro vs r
          cases r with
          | cons r1 r =>
            obtain ⟨ps, kws, e1, pr, rk⟩ := ih r
            cases r1 with
            | @tup b ws _ hb rw' =>
              cases rw' with
              | cons q1 rw' =>
                cases rw' with
                | cons q2 rw' =>
                  cases rw'
                  have ek := q1.key
                  subst ek e1
                  exact ⟨b :: ps, (p.1, _) :: kws, rfl, .cons (.inl (.inl (cut_ex _ _ hb))) pr, .cons q2 rk⟩
      obtain ⟨ps, kws, e1, pr, rk⟩ := gen r
      subst e1
      exact ⟨a, ps, kws, rfl, .inl (.inl (cut_ex _ _ h1)), pr, fun p hp => q p _ _ (e.trans (Ex.new hp)) (e.back hp) upd_same ((RpKV.merge rk .nil).mono (cut_cons hp (Ex.new hp)))⟩
/-! range(a, b) -/
def intsFrom (a : Int) (n : Nat) : List PyData := (List.range n).map fun (i : Nat) => PyData.int (a + i)
theorem eI_rng2 {a b : Int} (h : Ea K tr ds [.int a, .int b]) (ha : -100000 ≤ a ∧ a ≤ 100000) (hb : -100000 ≤ b ∧ b ≤ 100000) : EI K (iRng2 tr) ds (intsFrom a (b - a).toNat) := fun W N σ H S R q =>
  h W N σ H S _ fun vs H1 e r => by
    cases r with
    | cons r1 r =>
      cases r with
      | cons r2 r =>
        cases r; cases r1; cases r2
        have hl : (intsFrom a (b - a).toNat).length = (b - a).toNat := by unfold intsFrom; rw [List.length_map, List.length_range]
        refine ⟨a, b, rfl, ⟨by omega, by omega, by omega, by omega⟩, q _ H1 e ⟨fun i H2 W' hi _ => by rw [hl] at hi; exact hi, fun H2 W' _ => by rw [hl]; exact Nat.le_refl _, fun i H2 W' x H' d hd e2 A y => ?_⟩⟩
        obtain ⟨e', y⟩ := y
        subst e' y
        unfold intsFrom at hd
        rw [List.getElem?_map] at hd
        obtain ⟨k, hk, e⟩ := Option.map_eq_some_iff.mp hd
        obtain ⟨hk1, hk2⟩ := List.getElem?_eq_some_iff.mp hk
        rw [List.getElem_range] at hk2
        subst hk2
        subst e
        exact ⟨Ex.refl _, .int _⟩
/-! targets -/
def Tgs (K : PySem.W.Frag) (g : TGs) (xs : List PyData) (ds ds' : D4) (js : List Nat) : Prop :=
  ∀ W N σ H vs adr, StA K W N H σ adr ds → RpAll K (cut H W) vs xs → ∀ Q : L2.St → Hp → Prop, (∀ σ', StA K W N H σ' adr ds' → Kept js σ σ' → Q σ' H) → g vs σ H Q
theorem kept_nil : Kept [] σ σ := ⟨fun _ _ => rfl⟩
theorem tgs_nil : Tgs K gNil [] ds ds [] := fun W N σ H vs adr S r Q q => by
  cases r
  exact ⟨rfl, q σ S kept_nil⟩
theorem tgs_cons {g : TG} {gs : TGs} {js ks : List Nat} {ds' : D4} (h1 : Tg K g x ds ds1 js) (h2 : Tgs K gs xs ds1 ds' ks) : Tgs K (gCons g gs) (x :: xs) ds ds' (js ++ ks) := fun W N σ H vs adr S r Q q => by
  cases r with
  | cons r1 r => exact ⟨_, _, rfl, h1 W N σ H _ adr S r1 _ fun σ1 S1 k1 => h2 W N σ1 H _ adr S1 r _ fun σ2 S2 k2 => q σ2 S2 (k1.trans k2)⟩
theorem tg_tup {gs : TGs} {n : Nat} {js : List Nat} {ds' : D4} (h : Tgs K gs xs ds ds' js) (hn : xs.length = n := by rfl) : Tg K (gTup K n gs) (.tuple xs) ds ds' js := fun W N σ H v adr S r Q q => by
  cases r with
  | @tup a vs _ hs r => exact ⟨a, vs, rfl, .inl (.inl (cut_ex _ _ hs)), by rw [r.length]; exact hn, h W N σ H vs adr S r Q q⟩
theorem tg3 {i j k : Nat} (hi : ds.sl[i]?.isSome = true := by rfl) (hj : ds.sl[j]?.isSome = true := by rfl) (hk : ds.sl[k]?.isSome = true := by rfl) : Tg K (gTup K 3 (gCons (gName i) (gCons (gName j) (gCons (gName k) gNil)))) (.tuple [x, y, z]) ds (((ds.set i (.pu x)).set j (.pu y)).set k (.pu z)) ([i] ++ [j] ++ [k]) := tg_three (lt_of_some hi) (lt_of_some hj) (lt_of_some hk)
theorem sx_asgT {g : TG} {js : List Nat} {ds' : D4} (h : Ev K te ds d) (hg : Tg K g d ds ds' js) (k : P.nx ds') : Sx K (tAsg te g) ds P := fun B W0 M N H0 W σ H hM ⟨adr, F⟩ D m =>
  h W N σ H ⟨adr, F.st⟩ _ fun v H' e r => by
    have F' := F.ex e
    exact hg W N σ H' v adr F'.st r _ fun σ' S' _ => m.nx W σ' H' ds' k ⟨adr, F'.to S'⟩
theorem q_asgT {g : TG} {js : List Nat} {ds' : D4} (h : Ev K te ds d) (hg : Tg K g d ds ds' js) (n : Sx K u ds' P) : Sx K (tSeq (tAsg te g) u) ds P := sx_seq1 (sx_asgT h hg rfl) n
theorem sx_brk (k : P.bk ds) : Sx K tBreak ds P := fun B W0 M N H0 W σ H hM F D m => m.bk W σ H ds k F
theorem sx_cont (k : P.ct ds) : Sx K tCont ds P := fun B W0 M N H0 W σ H hM F D m => m.ct W σ H ds k F
/-- x.append(d), x an own list -/
theorem q_app {i l : Nat} (h : ds.sl[i]? = some (.lo l)) (h' : ds.st[l]? = some (.lst xs)) (hd : Ev K ta ds d) (hl : xs.length < 100000) (n : Sx K u (ds.put l (.lst (xs ++ [d]))) P) : Sx K (tSeq (tDrop (tBM K "list" rAppend (tVar i) (tCons ta tNil))) u) ds P :=
  sx_seq1 (sx_app (t := ta) (es_lo h ⟨l, xs, rfl, h', es_ev hd ⟨d, xs, rfl, h', hl, rfl⟩⟩)) n
theorem sx_app1 {i l : Nat} (h : ds.sl[i]? = some (.lo l)) (h' : ds.st[l]? = some (.lst xs)) (hd : Ev K ta ds d) (hl : xs.length < 100000) (n : P.nx (ds.put l (.lst (xs ++ [d])))) : Sx K (tDrop (tBM K "list" rAppend (tVar i) (tCons ta tNil))) ds P :=
  sx_app (t := ta) (es_lo h ⟨l, xs, rfl, h', es_ev hd ⟨d, xs, rfl, h', hl, n⟩⟩)
theorem sx_ext1 {i l : Nat} (h : ds.sl[i]? = some (.lo l)) (h' : ds.st[l]? = some (.lst xs)) (hd : Ev K ta ds (.list ys)) (hl : xs.length + ys.length ≤ 100000) (n : P.nx (ds.put l (.lst (xs ++ ys)))) : Sx K (tDrop (tBM K "list" rExtend (tVar i) (tCons ta tNil))) ds P :=
  sx_ext (es_lo h ⟨l, xs, rfl, h', es_ev hd ⟨ys, xs, rfl, h', hl, n⟩⟩)
theorem sx_dput1 {i l : Nat} {ty : TE} {es : List (List Key × PyData)} {k : List Key} (h : ds.sl[i]? = some (.lo l)) (h' : ds.st[l]? = some (.dt es)) (hv : Ev K tv ds d) (hk : Ev K ty ds (kD k)) (hl : es.length < 100000) (n : P.nx (ds.put l (.dt (putD es k d)))) : Sx K (sDPut (tVar i) ty tv) ds P :=
  sx_dputT (es_ev hv ⟨d, rfl, es_lo h ⟨l, es, k, rfl, h', hk, hl, n⟩⟩)
theorem sx_kput1 {i l : Nat} {ty : TE} {es : List (Key × PyData)} {k : Key} (h : ds.sl[i]? = some (.lo l)) (h' : ds.st[l]? = some (.dk es)) (hv : Ev K tv ds d) (hk : Ev K ty ds (keyD k)) (hl : es.length < 100000) (n : P.nx (ds.put l (.dk (putD es k d)))) : Sx K (sDPut (tVar i) ty tv) ds P :=
  sx_dputK (es_ev hv ⟨d, rfl, es_lo h ⟨l, es, k, rfl, h', hk, hl, n⟩⟩)
end
end L4
end

section
set_option Elab.async false
set_option linter.all false
set_option maxRecDepth 100000
set_option autoImplicit false
/-! Makers whose instance keeps own objects; comprehensions with tests that change the store; dict displays. -/
namespace L4
open PySem L2
def spM (K : PySem.W.Frag) (C : Addr) (Pre : List PyData → Prop) (Po : List PyData → List Ob → Prop) : Sp := fun vs H Q _ => ∃ W x dx ws xs, Al W H ∧ x ∈ W ∧ vs = .ref x :: ws ∧ RpAll K (cut H W) ws xs ∧ H x = some (.ins C dx []) ∧ Pre xs ∧
  ∀ H' os as, Po xs os → (∀ b o, b ≠ x → H b = some o → H' b = some o) → as[0]? = some x → (∀ a ∈ as, a = x ∨ H a = none) → Grp K (cut H' (as ++ W)) H' as os → Q .non H'
def PostM (Q : List Ob → Prop) : Post := { m := 1, nx := fun ds => (∀ o ∈ ds.st, o.live = true) ∧ Q ds.st, rt := fun r ds => r = .pu .none ∧ (∀ o ∈ ds.st, o.live = true) ∧ Q ds.st }
section
variable {Pr : Program} {w : World} {K : PySem.W.Frag} {mg : Str → Option Value} {base : Heap} {f : Addr} {fd : FuncData} {nm qual : Str} {st : Stmt} {Nm ps : List Str} {k : Nat} {C : Addr}
theorem fn_okM (F : Fun K nm qual st f fd) (S : FnScope Nm ps (defScope st)) {Pre : List PyData → Prop} {Po : List PyData → List Ob → Prop} (len : ∀ xs, Pre xs → xs.length + 1 = ps.length)
    (body : ∀ (cdv : Value) (A : Around) (outer : List Env) (s : Shared) (H : Hp) (E : XK), Room k (A.deeper (PyProof.Rows.envOfC qual (defScope st) s.heap.objs.size f cdv)) →
      ∃ t, PSs (cxOf CX0 Pr w K mg base Nm qual (defScope st) f cdv A outer s H E).nox (defBody st) t ∧ ∀ xs, Pre xs → Sx K t (startG Nm (.lo 0 :: xs.map .pu) [.ins C []]) (PostM (Po xs))) : FnOk Pr w K mg base CX0 (k + 1) f fd ps (spM K C Pre Po) := by
  refine F.ok S (fun vs H Q E h => ?_) (fun cdv A outer s H vs Q E hr h => ?_)
  · obtain ⟨W, x, dx, ws, xs, _, _, rfl, r, _, pre, _⟩ := h
    rw [List.length_cons, r.length]; exact len xs pre
  · obtain ⟨W, x, dx, ws, xs, hA, xW, rfl, ar, hx, pre, q⟩ := h
    obtain ⟨t, ht, hb⟩ := body cdv A outer s H E hr
    refine ⟨t, ht, ?_⟩
    have hl : xs.length + 1 ≤ Nm.length := by
      rw [len xs pre]
      have := congrArg List.length S.pre
      rw [List.length_take] at this
      omega
    have hv : (V.ref x :: ws).length ≤ Nm.length := by rw [List.length_cons, ar.length]; exact hl
    have fin : ∀ (W' : List Addr) (σ' : L2.St) (H' : Hp) (ds' : D4), (∀ o ∈ ds'.st, o.live = true) → Po xs ds'.st → Fr K (cut H W) W [x] (W.filter fun a => decide (a ∉ [x])) H W' σ' H' ds' → Q .non H' := fun W' σ' H' ds' lv po F' => by
      obtain ⟨adr', F'⟩ := F'
      have inW : ∀ (l : Nat) (a : Addr), adr'[l]? = some a → a ∈ W' := fun l a h => by
        obtain ⟨o, ho⟩ : ∃ o, ds'.st[l]? = some o := ⟨_, List.getElem?_eq_getElem (by rw [← F'.st.la]; exact (List.getElem?_eq_some_iff.mp h).1)⟩
        exact (F'.st.ob l a o h ho (lv o (List.mem_of_getElem? ho))).1
      have sb : ∀ b ∈ adr' ++ W, b ∈ W' := fun b hb => (List.mem_append.mp hb).elim (fun z => by
        obtain ⟨l, hl⟩ := List.getElem?_of_mem z
        exact inW l b hl) (F'.sub b)
      refine q H' ds'.st adr' po (fun b o nb hb => F'.keep b o (fun z => nb (List.mem_singleton.mp z)) hb) (F'.bor 0 x rfl) (fun a ha => ?_) ⟨F'.st.la, F'.st.nd, fun l a o h1 h2 => ?_⟩
      · obtain ⟨l, hl⟩ := List.getElem?_of_mem ha
        by_cases z : l = 0
        · subst z
          rw [F'.bor 0 x rfl] at hl
          exact .inl (Option.some.inj hl).symm
        · exact .inr (F'.new a (inW l a hl) (F'.loc l a (by show 1 ≤ l; omega) hl))
      · have l1 := lv o (List.mem_of_getElem? h2)
        obtain ⟨_, _, u, hu, r⟩ := F'.st.ob l a o h1 h2 l1
        exact ⟨l1, u, hu, r.mono (cut_sub sb)⟩
    have ne : ∀ a ∈ [x], H a ≠ none := fun a ha => (hA a (by rw [List.mem_singleton.mp ha]; exact xW)).ne
    refine hb xs pre (cut H W) W [x] (W.filter fun a => decide (a ∉ [x])) H W (L2.start Nm (V.ref x :: ws)) H rfl ⟨[x], ⟨?_, hA, rfl, by simp, ne, fun i s h => ?_, fun l a o h1 h2 h3 => ?_⟩, fun _ h => h, fun a h1 h2 => absurd h1 h2, fun _ _ _ h => h, fun b h1 h2 => List.mem_filter.mpr ⟨h1, decide_eq_true h2⟩, fun b hb => (List.mem_filter.mp hb).1, fun b hb => by rw [List.mem_singleton.mp hb]; exact xW, fun l a h1 h2 => ?_, Ex.refl _, fun _ _ h => h⟩ _
      ⟨fun W' σ' H' ds' ⟨lv, po⟩ F' => fin W' σ' H' ds' lv po F', fun W' σ' H' ds' v r as ⟨er, lv, po⟩ F' rr => by
        subst er
        obtain ⟨_, rv⟩ := rr
        cases rv
        exact fin W' σ' H' ds' lv po F', fun _ _ _ _ h _ => h.elim, fun _ _ _ _ h _ => h.elim⟩
    · rw [start_len hv]
      show Nm.length = ((Sl.lo 0 :: xs.map .pu) ++ List.replicate (Nm.length - (Sl.lo 0 :: xs.map Sl.pu).length) Sl.un).length
      rw [List.length_append, List.length_replicate, List.length_cons, List.length_map]
      omega
    · have h' : ((Sl.lo 0 :: xs.map .pu) ++ List.replicate (Nm.length - (Sl.lo 0 :: xs.map Sl.pu).length) Sl.un)[i]? = some s := h
      rcases app_get h' with ⟨l1, h'⟩ | ⟨_, h'⟩
      · obtain ⟨v, hv'⟩ : ∃ v, (V.ref x :: ws)[i]? = some v := ⟨_, List.getElem?_eq_getElem (by rw [List.length_cons, List.length_map] at l1; rw [List.length_cons, ar.length]; exact l1)⟩
        have e : (L2.start Nm (V.ref x :: ws))[i]?.getD none = some v := by
          unfold L2.start
          rw [List.getElem?_append_left (by rw [List.length_map]; exact (List.getElem?_eq_some_iff.mp hv').1), List.getElem?_map, hv']
          rfl
        rw [e]
        cases i with
        | zero => cases h'; cases hv'; exact ⟨x, rfl, rfl⟩
        | succ i =>
          have h2 : (xs.map Sl.pu)[i]? = some s := h'
          rw [List.getElem?_map] at h2
          obtain ⟨d, hd, e⟩ := Option.map_eq_some_iff.mp h2
          subst e
          obtain ⟨d', hd', rd⟩ := ar.get (show ws[i]? = some v from hv')
          rw [hd] at hd'
          cases hd'
          exact ⟨v, rfl, rd⟩
      · rw [List.eq_of_mem_replicate (List.mem_of_getElem? h')]
        trivial
    · cases l with
      | zero =>
        cases h1
        have h2' : some (Ob.ins C []) = some o := h2
        cases h2'
        exact ⟨xW, fun z => of_decide_eq_true (List.mem_filter.mp z).2 List.mem_cons_self, _, hx, dx, [], rfl, .nil⟩
      | succ l => simp at h1
    · have := (List.getElem?_eq_some_iff.mp h2).1
      simp at this h1
      omega
end
section
variable {K : PySem.W.Frag} {B : Hp} {W0 M N W : List Addr} {H0 H H' I : Hp} {σ : L2.St} {adr : List Addr} {ds ds1 : D4} {P : Post} {te ta tb tv : TE} {tr : TA} {tt : TT} {d : PyData} {v : V} {f : Str} {C : Addr}
theorem es_makeM {Pre : List PyData → Prop} {Po : List PyData → List Ob → Prop} {E : XK} {P : Fv → D4 → Prop}
    (h : Eas K tr ds fun fs ds1 => ∃ xs : List PyData, fs = xs.map Fv.pu ∧ Pre xs ∧ ∀ os, Po xs os → P (.lo ds1.st.length) (ds1.more os)) : Es K (tMake C (spM K C Pre Po) [] E tr) ds P := fun B W0 M N H0 W σ H adr F Q q =>
  h B W0 M N H0 W σ H adr F _ fun vs H1 W1 adr1 fs ds1 ⟨xs, ef, pre, hp⟩ a1 F1 r1 => fun x dx hx hd ne => by
    subst ef
    have rp := r1.pure
    have e12 : Ex H1 (upd (upd H1 dx (.own x)) x (.ins C dx [])) := ex_two hx hd
    show spM K C Pre Po (.ref x :: (vs ++ [])) _ _ E
    rw [List.append_nil]
    refine ⟨x :: W1, x, dx, vs, xs, fun b hb => ?_, List.mem_cons_self, rfl, rp.mono (cut_cons hx e12), upd_same, pre, fun H3 os as po keep a0 nw g => ?_⟩
    · rcases List.mem_cons.mp hb with z | z
      · rw [z, upd_same]; exact ⟨(fun q => nomatch q), fun _ q => nomatch q⟩
      · exact F1.st.al.mono e12 b z
    · have e13 : Ex H1 H3 := fun b o hb => keep b o (fun z => by rw [z, hx] at hb; cases hb) (e12 b o hb)
      have n1 : ∀ a ∈ as, H1 a = none := fun a ha => (nw a ha).elim (fun z => by rw [z]; exact hx) fun z => e12.back z
      have xa : x ∈ as := List.mem_of_getElem? a0
      have g' : Grp K (cut H3 (as ++ W1)) H3 as os := ⟨g.len, g.nd, fun l a o h1 h2 => by
        obtain ⟨lv, u, hu, ok⟩ := g.ob l a o h1 h2
        exact ⟨lv, u, hu, ok.mono (cut_sub fun b hb => (List.mem_append.mp hb).elim (fun z => List.mem_append_left _ z) fun z => List.mem_append_right _ (List.mem_cons_of_mem _ z))⟩⟩
      have G := F1.grow (os := os) n1 e13 g'
      refine ⟨rfl, q (.ref x) H3 (as ++ W1) (adr1 ++ as) (.lo ds1.st.length) _ (hp os po) (a1.trans (List.prefix_append _ _)) (G.rebase (F1.base.trans (cut_many n1 e13))) ⟨x, ?_, rfl⟩⟩
      rw [← F1.st.la, List.getElem?_append_right (Nat.le_refl _), Nat.sub_self]
      exact a0
/-- a comprehension whose tests and items change the store -/
theorem es_lcT {α : Type} {wi : TI} {g : TG} {vs js : List Nat} {P : Fv → D4 → Prop} (ls : List α) (enc : α → PyData) (T : α → D4 → D4) (Inv : Nat → D4 → List PyData → Prop)
    (hi : EI K wi ds (ls.map enc)) (hl : ls.length ≤ 90000) (hj : ∀ j ∈ js, j ∈ vs) (h0 : Inv 0 (wipeD ds vs) []) (hg : ∀ i l ds acc, ls[i]? = some l → Inv i ds acc → Tg K g (enc l) ds (T l ds) js)
    (he : ∀ i l ds acc, ls[i]? = some l → Inv i ds acc → Ets K tt (T l ds) fun b ds1 => (b = true → Es K te ds1 fun f ds' => ∃ d, f = .pu d ∧ Inv (i + 1) (wipeD ds' vs) (acc ++ [d])) ∧ (b = false → Inv (i + 1) (wipeD ds1 vs) acc))
    (hd : ∀ ds acc, Inv ls.length ds acc → P (.pu (.list acc)) (wipeD ds vs)) : Es K (tLc wi g tt te vs) ds P := fun B W0 M N H0 W σ H adr F Q q =>
  hi W N σ H ⟨adr, F.st⟩ _ fun J H1 e1 it => fun Dl hD => by
    have F1 := F.ex e1
    have n : (ls.map enc).length = ls.length := List.length_map _
    have aW : Dl ∉ W := F1.st.al.fresh hD
    have na : Dl ∉ W0 := fun z => aW (F1.sub Dl z)
    have aM : Dl ∉ M := fun z => na (F.msub Dl z)
    have n0 : H0 Dl = none := by
      cases q : H0 Dl with
      | none => rfl
      | some o => rw [F1.keep Dl o aM q] at hD; cases hD
    let I : Nat → Hp → Prop := fun i H2 => i ≤ ls.length ∧ ∃ W2 adr2 ds2 acc us, Inv i ds2 acc ∧ acc.length ≤ i ∧ adr <+: adr2 ∧ FrA K (cut H1 W) (Dl :: W0) M (Dl :: N) (upd H0 Dl (.lst us)) W2 (L2.wipe σ vs) H2 adr2 ds2 ∧ RpAll K (cut H2 W2) us acc
    have start : I 0 (upd H1 Dl (.lst [])) := by
      refine ⟨Nat.zero_le _, Dl :: W, adr, _, [], [], h0, Nat.le_refl _, List.prefix_refl _, ?_, .nil⟩
      exact (F1.to (F1.st.wipe vs) |>.rebase (Ex.refl _)).push hD
    refine ⟨fun i mm H2 => mm = ls.length - i ∧ I i H2, ⟨ls.length, rfl, start⟩, ?_⟩
    rintro i mm H2 ⟨rfl, hle, W2, adr2, ds2, acc, us, hI, hac, pa, F2, rac⟩
    by_cases hlt : i < ls.length
    · have hli : ls[i]? = some ls[i] := List.getElem?_eq_getElem hlt
      refine .inr ⟨it.go i H2 W2 (by rw [n]; exact hlt) F2.base, I (i + 1), fun H3 p => ⟨ls.length - (i + 1), by omega, rfl, p⟩, fun x H3 y => ?_⟩
      obtain ⟨e3, rx⟩ := it.yld i H2 W2 x H3 (enc ls[i]) (by rw [List.getElem?_map, hli]; rfl) F2.base F2.st.al y
      have F3 := F2.ex e3
      refine hg i ls[i] ds2 acc hli hI W2 _ _ H3 x adr2 F3.st rx _ fun σ4 S4 kp => ?_
      have wp : L2.wipe σ4 vs = L2.wipe σ vs := (kp.wp vs hj).trans wipe_wipe
      refine ⟨wp, ?_⟩
      refine he i ls[i] ds2 acc hli hI (cut H3 W2) _ _ _ _ _ _ _ adr2 ((F3.to S4).rebase (Ex.refl _)) _ fun b H4 W4 adr4 ds4 ⟨pt, pf⟩ a4 F4 => ?_
      cases b with
      | true =>
        rw [if_pos rfl]
        refine pt rfl (cut H4 W4) _ _ _ _ _ _ _ adr4 (F4.rebase (Ex.refl _)) _ fun v H5 W5 adr5 f ds5 ⟨d, ef, p5⟩ a5 F5 r5 => ?_
        subst ef
        have hus : H5 Dl = some (.lst us) := F5.keep Dl _ aM upd_same
        have rl : us.length = acc.length := rac.length
        refine ⟨us, hus, by rw [rl]; exact sz_lt (by omega), hlt, W5, adr5, _, _, us ++ [v], p5, by rw [List.length_append]; exact Nat.succ_le_succ hac, pa.trans (a4.trans a5), ?_, ?_⟩
        · have F6 := (F5.under (vl := us ++ [v]) aM).unwipe (σ := L2.wipe σ vs) (vs := vs) (by rw [wp, wipe_wipe])
          have cu : cut (upd H5 Dl (.lst (us ++ [v]))) W5 = cut H5 W5 := cut_upd (F5.sub Dl List.mem_cons_self)
          exact F6.rebase (by rw [cu]; exact F3.base.trans (F4.base.trans F5.base))
        · have cu : cut (upd H5 Dl (.lst (us ++ [v]))) W5 = cut H5 W5 := cut_upd (F5.sub Dl List.mem_cons_self)
          rw [cu]
          exact (((rac.mono (cut_mono e3)).mono F4.base).mono F5.base).append (.one r5)
      | false =>
        rw [if_neg Bool.false_ne_true]
        refine ⟨hlt, W4, adr4, _, _, us, pf rfl, Nat.le_succ_of_le hac, pa.trans a4, ?_, (rac.mono (cut_mono e3)).mono F4.base⟩
        exact (F4.unwipe (σ := L2.wipe σ vs) (vs := vs) (by rw [wp, wipe_wipe])).rebase (F3.base.trans F4.base)
    · have e : i = ls.length := by omega
      subst e
      have F6 := F2.unwipe (σ := σ) (vs := vs) wipe_wipe
      obtain ⟨W7, F7, hus, out, ce⟩ := F6.pop aM na n0 F.oth F.nsub F.msub
      refine .inl ⟨by have := it.stop H2 W2 F2.base; rw [n] at this; exact this, q _ _ W7 adr2 _ _ (hd ds2 acc hI) pa (F7.rebase (F1.base.trans F7.base)) ?_⟩
      exact .lst (by rw [cut_out out]; exact hus) (rac.mono ce)
end
end L4
end

section
set_option Elab.async false
set_option linter.all false
set_option maxRecDepth 100000
set_option autoImplicit false
/-! Dict displays; several targets. -/
namespace L4
open PySem L2
section
variable {K : PySem.W.Frag} {B : Hp} {W0 M N W W2 : List Addr} {H0 H H2 H' I : Hp} {σ σ' : L2.St} {adr adr2 : List Addr} {ds ds1 ds2 : D4} {P : Post} {te ta tb tc tv : TE} {tr : TA} {tt : TT} {u : TS} {d x y z : PyData} {v : V}
theorem FrA.pushO (F : FrA K B W0 M N H0 W σ H adr ds) {a : Addr} {o : HO} (no : NT (some o)) (n : H a = none) : FrA K B (a :: W0) M (a :: N) (upd H0 a o) (a :: W) σ (upd H a o) adr ds := by
  have aW : a ∉ W := F.st.al.fresh n
  have a0 : a ∉ W0 := fun z => aW (F.sub a z)
  have aM : a ∉ M := fun z => a0 (F.msub a z)
  have aA : a ∉ adr := fun z => F.st.there a z n
  have e : Ex H (upd H a o) := Ex.new n
  have F' := F.ex e
  refine ⟨⟨F.st.len, fun b hb => ?_, F.st.la, F.st.nd, F'.st.there, fun i s q => (F.st.sl i s q).mono (cut_cons n e), fun l b o h1 h2 h3 => ?_⟩, fun b hb => ?_, fun b hb nb => ?_, fun b o nM hb => ?_, fun b hb nM => ?_, fun b hb => ?_, fun b hb => List.mem_cons_of_mem _ (F.msub b hb), fun l b hl hb => ?_, F.base.trans (cut_cons n e), F.bor⟩
  · rcases List.mem_cons.mp hb with z | z
    · rw [z, upd_same]; exact no
    · exact F'.st.al b z
  · obtain ⟨bW, bN, u, hu, r⟩ := F.st.ob l b o h1 h2 h3
    have ba : b ≠ a := fun z => aA (z ▸ List.mem_of_getElem? h1)
    exact ⟨List.mem_cons_of_mem _ bW, fun z => (List.mem_cons.mp z).elim ba bN, u, e _ _ hu, r.mono (cut_cons n e)⟩
  · rcases List.mem_cons.mp hb with z | z
    · rw [z]; exact List.mem_cons_self
    · exact List.mem_cons_of_mem _ (F.sub b z)
  · have ba : b ≠ a := fun z => nb (by rw [z]; exact List.mem_cons_self)
    rw [upd_ne ba]
    exact F.new b ((List.mem_cons.mp hb).resolve_left ba) fun z => nb (List.mem_cons_of_mem _ z)
  · by_cases z : b = a
    · subst z; rw [upd_same] at hb ⊢; exact hb
    · rw [upd_ne z] at hb ⊢; exact F.keep b o nM hb
  · rcases List.mem_cons.mp hb with z | z
    · rw [z]; exact List.mem_cons_self
    · exact List.mem_cons_of_mem _ (F.oth b z nM)
  · rcases List.mem_cons.mp hb with z | z
    · rw [z]; exact List.mem_cons_self
    · exact List.mem_cons_of_mem _ (F.nsub b z)
  · exact fun z => (List.mem_cons.mp z).elim (fun e => aA (e ▸ List.mem_of_getElem? hb)) (F.loc l b hl hb)
/-- the hidden object taken out of the heap -/
def without (H : Hp) (p : Addr) : Hp := fun b => if b = p then none else H b
theorem without_ne {p b : Addr} (h : b ≠ p) : without H p b = H b := if_neg h
theorem without_eq {p : Addr} : without H p p = none := if_pos rfl
theorem FrA.unpush {p : Addr} {o : HO} (F : FrA K B (p :: W0) M (p :: N) (upd H0 p o) W σ H adr ds) (p0 : p ∉ W0) (h0 : H0 p = none) (oth : ∀ b ∈ W0, b ∉ M → b ∈ N) (nsub : ∀ b ∈ N, b ∈ W0) (msub : ∀ b ∈ M, b ∈ W0) :
    ∃ W', FrA K B W0 M N H0 W' σ (without H p) adr ds ∧ p ∉ W' ∧ cut (without H p) W' = cut H W := by
  have pM : p ∉ M := fun z => p0 (msub p z)
  have pA : p ∉ adr := fun z => by
    obtain ⟨l, hl⟩ := List.getElem?_of_mem z
    by_cases q : M.length ≤ l
    · exact F.loc l p q hl List.mem_cons_self
    · obtain ⟨a, ha⟩ : ∃ a, M[l]? = some a := ⟨_, List.getElem?_eq_getElem (by omega)⟩
      have e := F.bor l a ha
      rw [hl] at e
      cases e
      exact pM (List.mem_of_getElem? ha)
  have pW : p ∈ W := F.sub p List.mem_cons_self
  have stay : ∀ b, b ∈ W → b ≠ p → b ∈ W.filter (fun c => decide (c ≠ p)) := fun b hb n => List.mem_filter.mpr ⟨hb, decide_eq_true n⟩
  have sub : ∀ b ∈ W.filter (fun c => decide (c ≠ p)), b ∈ W ∧ b ≠ p := fun b hb => ⟨(List.mem_filter.mp hb).1, of_decide_eq_true (List.mem_filter.mp hb).2⟩
  have ce : cut (without H p) (W.filter fun c => decide (c ≠ p)) = cut H W := by
    funext b
    by_cases z : b = p
    · subst z
      rw [cut_in pW, cut_out (fun q => (sub _ q).2 rfl), without_eq]
    · by_cases k : b ∈ W
      · rw [cut_in k, cut_in (stay b k z)]
      · rw [cut_out k, cut_out (fun q => k (sub b q).1), without_ne z]
  refine ⟨W.filter fun c => decide (c ≠ p), ⟨⟨F.st.len, fun b hb => ?_, F.st.la, F.st.nd, fun a ha => ?_, fun i s q => by rw [ce]; exact F.st.sl i s q, fun l b o h1 h2 h3 => ?_⟩, fun b hb => ?_, fun b hb nb => ?_, fun b o nM hb => ?_, oth, nsub, msub, fun l b hl hb z => F.loc l b hl hb (List.mem_cons_of_mem _ z), by rw [ce]; exact F.base, F.bor⟩, fun q => (sub _ q).2 rfl, ce⟩
  · rw [without_ne (sub b hb).2]; exact F.st.al b (sub b hb).1
  · rw [without_ne (fun z => pA (by rw [← z]; exact ha))]; exact F.st.there a ha
  · obtain ⟨bW, bN, u, hu, r⟩ := F.st.ob l b o h1 h2 h3
    have bp : b ≠ p := fun z => pA (z ▸ List.mem_of_getElem? h1)
    exact ⟨stay b bW bp, fun z => bN (List.mem_cons_of_mem _ z), u, by rw [without_ne bp]; exact hu, by rw [ce]; exact r⟩
  · exact stay b (F.sub b (List.mem_cons_of_mem _ hb)) fun z => p0 (z ▸ hb)
  · obtain ⟨b1, b2⟩ := sub b hb
    have := F.new b b1 fun z => (List.mem_cons.mp z).elim b2 nb
    rwa [upd_ne b2] at this
  · have bp : b ≠ p := fun z => by rw [z, h0] at hb; cases hb
    rw [without_ne bp]
    exact F.keep b o nM (by rw [upd_ne bp]; exact hb)
theorem nt_dk {kvs : List (Key × V)} : NT (some (.dK kvs)) := ⟨(fun q => nomatch q), fun _ q => nomatch q⟩
/-- {k1: a, k2: b}: a new dict -/
theorem es_disp2 {k1 k2 : Str} {P : Fv → D4 → Prop} (hk : k1 ≠ k2) (h : Es K ta ds fun f ds1 => ∃ x, f = .pu x ∧ Es K tb ds1 fun g ds2 => ∃ y, g = .pu y ∧ P (.lo ds2.st.length) ⟨ds2.sl, ds2.st ++ [.dk [(.inr k1, x), (.inr k2, y)]]⟩) :
    Es K (tDisp [(tC (.str k1), ta), (tC (.str k2), tb)]) ds P := fun B W0 M N H0 W σ H adr F Q q => fun p hp => by
  have pW : p ∉ W := F.st.al.fresh hp
  have p0 : p ∉ W0 := fun z => pW (F.sub p z)
  have pM : p ∉ M := fun z => p0 (F.msub p z)
  have h0 : H0 p = none := by
    cases q : H0 p with
    | none => rfl
    | some o => rw [F.keep p o pM q] at hp; cases hp
  have F1 := (F.rebase (Ex.refl _)).pushO (o := .dK []) nt_dk hp
  show ta σ (upd H p (.dK [])) _
  refine h _ _ _ _ _ _ σ _ adr F1 _ fun v H1 W1 adr1 f ds1 ⟨x, ef, hb⟩ a1 F2 r1 => ?_
  subst ef
  show tb σ H1 _
  refine hb _ _ _ _ _ _ σ _ adr1 (F2.rebase (Ex.refl _)) _ fun w H2 W2 adr2 g ds2 ⟨y, eg, hP⟩ a2 F3 r2 => ?_
  subst eg
  have r1' : Rp K (cut H2 W2) v x := Rp.mono F3.base r1
  have r2' : Rp K (cut H2 W2) w y := r2
  have F4 : FrA K (cut H W) (p :: W0) M (p :: N) (upd H0 p (.dK [])) W2 σ H2 adr2 ds2 := F3.rebase (F2.base.trans F3.base)
  have hpp : H2 p = some (.dK []) := F4.keep p _ pM upd_same
  refine ⟨hpp, [(.inr k1, v), (.inr k2, w)], rfl, by show 2 ≤ 15; decide, ?_⟩
  obtain ⟨W5, F5, p5, ce⟩ := F4.unpush p0 h0 F.oth F.nsub F.msub
  have em : mergeK [] [((.inr k1 : Key), v), (.inr k2, w)] = [(.inr k1, v), (.inr k2, w)] := by
    show putK (putK [] (Sum.inr k1) v) (Sum.inr k2) w = _
    have ne : ¬ (Sum.inr k1 : Key) = Sum.inr k2 := fun z => hk (Sum.inr.inj z)
    simp [putK, ne]
  rw [em]
  have eH : Ex (without H2 p) (upd H2 p (.dK [(.inr k1, v), (.inr k2, w)])) := fun b o hb => by
    by_cases z : b = p
    · subst z; rw [without_eq] at hb; cases hb
    · rw [without_ne z] at hb; rw [upd_ne z]; exact hb
  have cn : Ex (cut H2 W2) (cut (upd H2 p (.dK [(.inr k1, v), (.inr k2, w)])) ([p] ++ W5)) := by
    rw [← ce]
    exact cut_many (as := [p]) (fun a ha => by rw [List.mem_singleton.mp ha]; exact without_eq) eH
  have g : Grp K (cut (upd H2 p (.dK [(.inr k1, v), (.inr k2, w)])) ([p] ++ W5)) (upd H2 p (.dK [(.inr k1, v), (.inr k2, w)])) [p] [.dk [(.inr k1, x), (.inr k2, y)]] :=
    grp_one upd_same ⟨_, rfl, .cons (r1'.mono cn) (.cons (r2'.mono cn) .nil)⟩ rfl
  have G := F5.grow (os := [.dk [(.inr k1, x), (.inr k2, y)]]) (fun a ha => by rw [List.mem_singleton.mp ha]; exact without_eq) eH g
  refine q (.ref p) _ ([p] ++ W5) (adr2 ++ [p]) (.lo ds2.st.length) _ hP ((a1.trans a2).trans (List.prefix_append _ _)) (G.rebase ?_) ⟨p, ?_, rfl⟩
  · exact F.base.trans (F4.base.trans cn)
  · rw [← F5.st.la, List.getElem?_append_right (Nat.le_refl _), Nat.sub_self]; rfl
/-- .. of pure parts -/
theorem en_disp2 {k1 k2 : Str} (hk : k1 ≠ k2) (h1 : Ev K ta ds x) (h2 : Ev K tb ds y) : EnK K (tDisp [(tC (.str k1), ta), (tC (.str k2), tb)]) ds [(.inr k1, x), (.inr k2, y)] := fun W N σ H S Q q p hp => by
  have S1 : Stt K (p :: W) N (upd H p (.dK [])) σ ds := S.wider hp (Ex.new hp) (by rw [upd_same]; exact nt_dk)
  show ta σ _ _
  refine h1 _ N σ _ S1 _ fun v H1 e1 r1 => ?_
  show tb σ _ _
  refine h2 _ N σ _ (S1.mono e1) _ fun w H2 e2 r2 => ?_
  have hpp : H2 p = some (.dK []) := e2 _ _ (e1 _ _ upd_same)
  refine ⟨hpp, [(.inr k1, v), (.inr k2, w)], rfl, by show 2 ≤ 15; decide, ?_⟩
  have em : mergeK [] [((.inr k1 : Key), v), (.inr k2, w)] = [(.inr k1, v), (.inr k2, w)] := by
    show putK (putK [] (Sum.inr k1) v) (Sum.inr k2) w = _
    have ne : ¬ (Sum.inr k1 : Key) = Sum.inr k2 := fun z => hk (Sum.inr.inj z)
    simp [putK, ne]
  rw [em]
  have eH : Ex H (upd H2 p (.dK [(.inr k1, v), (.inr k2, w)])) := Ex.mut (((Ex.new hp).trans e1).trans e2) hp
  refine q p _ _ eH hp upd_same ?_
  rw [cut_upd List.mem_cons_self]
  exact .cons (r1.mono (cut_mono e2)) (.cons r2 .nil)
/-- self.f, self.g = a pure pair -/
theorem putFs (S : StA K W N H σ adr ds) : True := trivial
theorem FrA.fld (F : FrA K B W0 M N H0 W σ H adr ds) {i l : Nat} {C : Addr} {fs : List (Str × Fv)} {f : Str} (h : ds.sl[i]? = some (.lo l)) (h' : ds.st[l]? = some (.ins C fs)) (r : Rp K (cut H W) v d) :
    ∃ a dx fvs, σ[i]? = some (some (.ref a)) ∧ H a = some (.ins C dx fvs) ∧ fvs.length = fs.length ∧ FrA K B W0 M N H0 W σ (upd H a (.ins C dx (putF f v fvs))) adr (ds.put l (.ins C (putFv f (.pu d) fs))) ∧ cut (upd H a (.ins C dx (putF f v fvs))) W = cut H W := by
  obtain ⟨a, e1, e2⟩ := F.st.sl i _ h
  obtain ⟨aW, _, w, hu, dx, fvs, e3, rf⟩ := F.st.ob l a _ e1 h' rfl
  subst e3
  refine ⟨a, dx, fvs, getD_of e2, hu, rf.length, F.mutE e1 h' rfl (Ex.refl _) ⟨dx, putF f v fvs, rfl, ?_⟩ rfl upd_same, cut_upd aW⟩
  rw [cut_upd aW]
  exact rf.put (g := .pu d) r
theorem sx_fld2 {i l : Nat} {C : Addr} {fs : List (Str × Fv)} {f g : Str} (h : ds.sl[i]? = some (.lo l)) (h' : ds.st[l]? = some (.ins C fs)) (c : Cls K C) (nf : NoAttr K C f) (ng : NoAttr K C g) (hl : fs.length < 999) (he : Ev K te ds (.tuple [x, y]))
    (k : P.nx (ds.put l (.ins C (putFv g (.pu y) (putFv f (.pu x) fs))))) : Sx K (tAsg te (gTup K 2 (gCons (gFld K (tVar i) f) (gCons (gFld K (tVar i) g) gNil)))) ds P := fun B W0 M N H0 W σ H hM ⟨adr, F⟩ D m =>
  he W N σ H ⟨adr, F.st⟩ _ fun v H' e r => by
    have F' := F.ex e
    cases r with
    | @tup a vs _ hs r =>
      cases r with
      | cons r1 r =>
        cases r with
        | cons r2 r =>
          cases r
          refine ⟨a, _, rfl, .inl (.inl (cut_ex _ _ hs)), rfl, _, _, rfl, ?_⟩
          obtain ⟨b, dx, fvs, e1, hb, hlen, F1, ce⟩ := F'.fld (f := f) h h' r1
          refine ⟨_, e1, b, C, dx, fvs, rfl, hb, c, nf, by omega, _, _, rfl, ?_⟩
          have h1 : (ds.put l (.ins C (putFv f (.pu x) fs))).st[l]? = some (.ins C (putFv f (.pu x) fs)) := List.getElem?_set_self (List.getElem?_eq_some_iff.mp h').1
          obtain ⟨b2, dx2, fvs2, e2, hb2, hlen2, F2, ce2⟩ := F1.fld (f := g) (ds := ds.put l (.ins C (putFv f (.pu x) fs))) (i := i) h h1 (by rw [ce]; exact r2)
          refine ⟨_, e2, b2, C, dx2, fvs2, rfl, hb2, c, ng, ?_, rfl, ?_⟩
          · have : (putFv f (.pu x) fs).length ≤ fs.length + 1 := by
              clear F F' F1 F2 h h' h1 hl hlen hlen2 k
              induction fs with
              | nil => exact Nat.le_refl _
              | cons p fs ih =>
                unfold putFv
                split
                · exact Nat.le_succ _
                · exact Nat.succ_le_succ ih
            omega
          · have q := m.nx W σ _ _ k ⟨adr, by
              have : (ds.put l (.ins C (putFv f (.pu x) fs))).put l (.ins C (putFv g (.pu y) (putFv f (.pu x) fs))) = ds.put l (.ins C (putFv g (.pu y) (putFv f (.pu x) fs))) := by
                show D4.mk _ _ = D4.mk _ _
                congr 1
                exact List.set_set ..
              rw [← this]; exact F2⟩
            exact q
/-- a[k], b[k], i = x, y, z: two own dicts -/
theorem FrA.dkput (F : FrA K B W0 M N H0 W σ H adr ds) {i l : Nat} {es : List (Key × PyData)} {k : Key} (h : ds.sl[i]? = some (.lo l)) (h' : ds.st[l]? = some (.dk es)) (r : Rp K (cut H W) v d) :
    ∃ a kvs, σ[i]? = some (some (.ref a)) ∧ H a = some (.dK kvs) ∧ kvs.length = es.length ∧ FrA K B W0 M N H0 W σ (upd H a (.dK (putK kvs k v))) adr (ds.put l (.dk (putD es k d))) ∧ cut (upd H a (.dK (putK kvs k v))) W = cut H W := by
  obtain ⟨a, e1, e2⟩ := F.st.sl i _ h
  obtain ⟨aW, _, w, hu, kvs, e3, rf⟩ := F.st.ob l a _ e1 h' rfl
  subst e3
  refine ⟨a, kvs, getD_of e2, hu, rf.length, F.mutE e1 h' rfl (Ex.refl _) ⟨_, rfl, ?_⟩ rfl upd_same, cut_upd aW⟩
  rw [cut_upd aW]
  exact rf.put r
theorem sx_trip {i1 i2 j1 l1 l2 : Nat} {i : Nat} {es1 es2 : List (Key × PyData)} {k : Key} (h1 : ds.sl[i1]? = some (.lo l1)) (g1 : ds.st[l1]? = some (.dk es1)) (h2 : ds.sl[i2]? = some (.lo l2)) (g2 : ds.st[l2]? = some (.dk es2)) (ne : l1 ≠ l2)
    (hk : ds.sl[j1]? = some (.pu (keyD k))) (hx : Ev K ta ds x) (hy : Ev K tb ds y) (hz : Ev K tc ds z) (b1 : es1.length < 100000) (b2 : es2.length < 100000) (hi : i < ds.length)
    (q : P.nx (((ds.put l1 (.dk (putD es1 k x))).put l2 (.dk (putD es2 k y))).set i (.pu z))) :
    Sx K (tAsg (tTup (tCons ta (tCons tb (tCons tc tNil)))) (gTup K 3 (gCons (gSub (tVar i1) (tVar j1) rSetD) (gCons (gSub (tVar i2) (tVar j1) rSetD) (gCons (gName i) gNil))))) ds P := fun B W0 M N H0 W σ H hM ⟨adr, F⟩ D m =>
  ev_tup (ea_cons hx (ea_cons hy (ea_cons hz ea_nil))) (by show 3 ≤ 100000; decide) W N σ H ⟨adr, F.st⟩ _ fun v H' e r => by
    have F' := F.ex e
    cases r with
    | @tup a vs _ hs r =>
      cases r with
      | cons r1 r =>
        cases r with
        | cons r2 r =>
          cases r with
          | cons r3 r =>
            cases r
            refine ⟨a, _, rfl, .inl (.inl (cut_ex _ _ hs)), rfl, _, _, rfl, ?_⟩
            obtain ⟨kv, ek, rk⟩ := F'.st.sl j1 _ hk
            have ek' := rk.key
            subst ek'
            obtain ⟨b, kvs, e1, hb, hlen, F1, ce⟩ := F'.dkput (k := k) h1 g1 r1
            refine ⟨_, e1, _, getD_of ek, b, _, rfl, .inl ⟨kvs, k, hb, rfl, by rw [hlen]; exact sz_lt b1, rfl⟩, _, _, rfl, ?_⟩
            have g2' : (ds.put l1 (.dk (putD es1 k x))).st[l2]? = some (.dk es2) := by
              show (ds.st.set l1 _)[l2]? = _
              rw [List.getElem?_set_ne ne]; exact g2
            obtain ⟨b', kvs', e2, hb', hlen', F2, ce'⟩ := F1.dkput (ds := ds.put l1 (.dk (putD es1 k x))) (i := i2) (k := k) h2 g2' (by rw [ce]; exact r2)
            refine ⟨_, e2, _, getD_of ek, b', _, rfl, .inl ⟨kvs', k, hb', rfl, by rw [hlen']; exact sz_lt b2, rfl⟩, _, _, rfl, rfl, ?_⟩
            exact m.nx W _ _ _ q ⟨adr, F2.setS (s := .pu z) hi (Ex.refl _) ⟨_, rfl, by rw [ce', ce]; exact r3⟩⟩
end
end L4
end

section
set_option Elab.async false
set_option linter.all false
set_option maxRecDepth 100000
set_option autoImplicit false
/-! Readings for programs that print them. -/
namespace L4
open PySem L2
def notDict : PyData → Bool
  | .dict _ => false
  | _ => true
section
variable {K : PySem.W.Frag} {ds : D4} {te ta tb tc : TE} {d x y z : PyData} {xs : List PyData} {tt tu : TT} {P : Post} {t u v : TS}
theorem ev_isiA {n : String} {b : Bool} (h : Ev K te ds d) (hk : kitB (tyD d) n = some b) (nd : notDict d = true) : Ev K (tCB (rIsi K) (tCons te (tCons (tC (.ty n)) tNil))) ds (.bool b) := ev_isi h hk fun es e => by subst e; cases nd
theorem ev_tupA {tr : TA} (h : Ea K tr ds xs) (hl : Nat.ble xs.length 100000 = true) : Ev K (tTup tr) ds (.tuple xs) := ev_tup h (Nat.le_of_ble_eq_true hl)
theorem en_lstA {tr : TA} (h : Ea K tr ds xs) (hl : Nat.ble xs.length 100000 = true) : EnL K (tLst tr) ds xs := en_lst h (Nat.le_of_ble_eq_true hl)
theorem ev_lstA {tr : TA} (h : Ea K tr ds xs) (hl : Nat.ble xs.length 100000 = true) : Ev K (tLst tr) ds (.list xs) := (en_lst h (Nat.le_of_ble_eq_true hl)).ev
theorem ev_tupleT {k : Kd} (h : Ev K te ds (.list xs)) : Ev K (tCB (gTuple K) (tCons te tNil)) ds (.tuple xs) := ev_tupleR h.rl
theorem ev_listT (h : Ev K te ds (.list xs)) : EnL K (tCB (gList K) (tCons te tNil)) ds xs := en_listR h.rl
theorem ev_slL {tl th : TO} {lo hi : Option Int} (h : Ev K te ds (.list xs)) (h1 : Eo K tl ds lo) (h2 : Eo K th ds hi) : Ev K (tSl (gSl K) te tl th) ds (.list (cutD xs lo hi)) := (en_slR h.rl h1 h2).ev
theorem sx_retD (h : Ev K te ds x) (e : x = d) : Sx K (tRet te) ds (Post.ret d) := sx_ret h (by rw [e]; rfl)
theorem sx_retI (h : Ev K te ds x) (e : x = d) (k : P.rt (.pu d) ds) : Sx K (tRet te) ds P := sx_ret h (by rw [e]; exact k)
theorem q_noI {b : Bool} (h : Et K tt ds b) (e : b = false) (n : Sx K u ds P) : Sx K (tSeq (tIfS tt t tNext) u) ds P := q_no (et_is h e) n
/-- an if that is taken and leaves -/
theorem q_yesI {b : Bool} (h : Et K tt ds b) (e : b = true) (k : Sx K t ds { P with nx := fun _ => False }) : Sx K (tSeq (tIfS tt t v) u) ds P :=
  sx_seq (Mid := fun _ => False) (sx_if (et_is h e) (fun _ => k) fun e => nomatch e) fun _ e => e.elim
theorem sx_noI {b : Bool} (h : Et K tt ds b) (e : b = false) (n : Sx K u ds P) : Sx K (tIfS tt t u) ds P := sx_if (et_is h e) (fun e => nomatch e) fun _ => n
theorem sx_yesI {b : Bool} (h : Et K tt ds b) (e : b = true) (n : Sx K t ds P) : Sx K (tIfS tt t u) ds P := sx_if (et_is h e) (fun _ => n) fun e => nomatch e
theorem q_setI {i : Nat} (h : Ev K te ds x) (e : x = d) (n : Sx K u (ds.set i (.pu d)) P) (hi : ds.sl[i]?.isSome = true) : Sx K (tSeq (tAsg te (gName i)) u) ds P := q_set (ev_is h e) n hi
theorem sx_retD' (h : Ev K te ds x) (e : x = d) : Sx K (tRet te) ds { Post.ret d with nx := fun _ => False } := sx_ret h (by rw [e]; rfl)
theorem q_dropI (h : Ev K te ds x) (n : Sx K u ds P) : Sx K (tSeq (tDrop te) u) ds P := q_drop h n
theorem ev_kgS {es : List (Key × PyData)} {k : Str} (h : ErK K ta ds es) (hk : Ev K tb ds (.str k)) (hv : valD es (.inr k) = some d) : Ev K (tDGet ta tb) ds d := ev_kget (k := .inr k) h hk hv
theorem ev_kgS2 {es : List (Key × PyData)} {k : Str} (h : ErK K ta ds es) (hk : Ev K tb ds (.str k)) (hx : Ev K tc ds x) : Ev K (tDGet2 ta tb tc) ds ((valD es (.inr k)).getD x) := ev_kget2 (k := .inr k) h hk hx
theorem ev_kinS {es : List (Key × PyData)} {k : Str} (hk : Ev K tb ds (.str k)) (h : ErK K ta ds es) : Ev K (tDIn tb ta) ds (.bool (valD es (.inr k)).isSome) := ev_kin (k := .inr k) hk h
theorem ev_dgS {es : List (List Key × PyData)} {a b : Str} (h : ErD K ta ds es) (hk : Ev K tb ds (.tuple [.str a, .str b])) (hv : valD es [.inr a, .inr b] = some d) : Ev K (tDGet ta tb) ds d := ev_dget (k := [.inr a, .inr b]) h hk hv
theorem ev_dgS2 {es : List (List Key × PyData)} {a b : Str} (h : ErD K ta ds es) (hk : Ev K tb ds (.tuple [.str a, .str b])) (hx : Ev K tc ds x) : Ev K (tDGet2 ta tb tc) ds ((valD es [.inr a, .inr b]).getD x) := ev_dget2 (k := [.inr a, .inr b]) h hk hx
theorem ev_dinS {es : List (List Key × PyData)} {a b : Str} (hk : Ev K tb ds (.tuple [.str a, .str b])) (h : ErD K ta ds es) : Ev K (tDIn tb ta) ds (.bool (valD es [.inr a, .inr b]).isSome) := ev_din (k := [.inr a, .inr b]) hk h
end
end L4
end

section
set_option Elab.async false
set_option linter.all false
set_option maxRecDepth 100000
set_option autoImplicit false
/-! Calls told by cases. -/
namespace L4
open PySem L2
/-- a promise by cases: what is handed in, what comes back -/
def spF (K : PySem.W.Frag) {ι : Type} (X : ι → List Sl) (Z : ι → List Ob) (Po : ι → Rs → List Ob → Prop) : Sp := fun vs H Q E => ∃ i, spG K (fun xs st => xs = X i ∧ st = Z i) (fun _ _ r st' => Po i r st') vs H Q E
section
variable {Pr : Program} {w : World} {K : PySem.W.Frag} {mg : Str → Option Value} {base : Heap} {f : Addr} {fd : FuncData} {nm qual : Str} {st : Stmt} {Nm ps : List Str} {k : Nat}
theorem fn_okF {ι : Type} {X : ι → List Sl} {Z : ι → List Ob} {Po : ι → Rs → List Ob → Prop} (F : Fun K nm qual st f fd) (S : FnScope Nm ps (defScope st)) (len : ∀ i, (X i).length = ps.length)
    (body : ∀ (cdv : Value) (A : Around) (outer : List Env) (s : Shared) (H : Hp) (E : XK), Room k (A.deeper (PyProof.Rows.envOfC qual (defScope st) s.heap.objs.size f cdv)) →
      ∃ t, PSs (cxOf CX0 Pr w K mg base Nm qual (defScope st) f cdv A outer s H E).nox (defBody st) t ∧ ∀ i, Sx K t (startG Nm (X i) (Z i)) (PostG (Z i).length (Po i))) : FnOk Pr w K mg base CX0 (k + 1) f fd ps (spF K X Z Po) :=
  fnok_ex fun i => fn_okG F S (fun xs st h => by rw [h.1]; exact len i) fun cdv A outer s H E hr => by
    obtain ⟨t, ht, hb⟩ := body cdv A outer s H E hr
    exact ⟨t, ht, fun xs st ⟨e1, e2⟩ => by subst e1 e2; exact hb i⟩
end
section
variable {K : PySem.W.Frag} {B : Hp} {W0 M N W : List Addr} {H0 H H' I I' : Hp} {σ : L2.St} {adr adc : List Addr} {ds ds1 : D4} {P : Post} {te ta tb : TE} {tr : TA} {d : PyData} {v : V} {es : List Nat}
theorem es_callF {ι : Type} {X : ι → List Sl} {Z : ι → List Ob} {Po : ι → Rs → List Ob → Prop} {E : XK} {P : Fv → D4 → Prop}
    (h : Eas K tr ds fun fs ds1 => ∃ (i : ι) (es : List Nat), es.Nodup ∧ fs = (X i).map (fvOf es) ∧ (∀ s ∈ X i, okSl es.length s = true) ∧ es.length = (Z i).length ∧ (∀ (k l : Nat) (o : Ob), es[k]? = some l → (Z i)[k]? = some o → o.live = true ∧ below es.length o = true ∧ ds1.st[l]? = some (reOb es o)) ∧
      ∀ r st', Po i r st' → st'.length = (Z i).length → match r with | .pu d => P (.pu d) (ds1.back es st') | .nw os => P (.lo ds1.st.length) ((ds1.back es st').more os)) : Es K (tCall (spF K X Z Po) [] E tr) ds P := fun B W0 M N H0 W σ H adr F Q q =>
  h B W0 M N H0 W σ H adr F _ fun vs H1 W1 adr1 fs ds1 ⟨i, es, nd, ef, okx, hl, hst, hp⟩ a1 F1 r1 => by
    obtain ⟨xs, ex⟩ : ∃ xs, xs = X i := ⟨_, rfl⟩
    obtain ⟨st, es'⟩ : ∃ st, st = Z i := ⟨_, rfl⟩
    rw [← ex] at ef okx
    rw [← es'] at hl hst hp
    subst ef
    show spF K X Z Po (vs ++ []) H1 Q E
    rw [List.append_nil]
    refine ⟨i, ?_⟩
    let adc : List Addr := es.map fun l => adr1.getD l 0
    have la : adc.length = es.length := List.length_map _
    have lt : ∀ (k l : Nat), es[k]? = some l → l < ds1.st.length := fun k l hk => by
      obtain ⟨o, ho⟩ : ∃ o, st[k]? = some o := ⟨_, List.getElem?_eq_getElem (by rw [← hl]; exact (List.getElem?_eq_some_iff.mp hk).1)⟩
      exact (List.getElem?_eq_some_iff.mp (hst k l o hk ho).2.2).1
    have ha : ∀ (k l : Nat), es[k]? = some l → adc[k]? = adr1[l]? := fun k l hk => by
      have hl1 : l < adr1.length := by rw [F1.st.la]; exact lt k l hk
      show (es.map fun l => adr1.getD l 0)[k]? = adr1[l]?
      rw [List.getElem?_map, hk, List.getElem?_eq_getElem hl1]
      show some (adr1.getD l 0) = _
      rw [List.getD_eq_getElem?_getD, List.getElem?_eq_getElem hl1]
      rfl
    have inv : ∀ (k : Nat) (a : Addr), adc[k]? = some a → ∃ l o, es[k]? = some l ∧ adr1[l]? = some a ∧ st[k]? = some o := fun k a hk => by
      have hk1 : k < es.length := by rw [← la]; exact (List.getElem?_eq_some_iff.mp hk).1
      exact ⟨es[k], st[k]'(by omega), List.getElem?_eq_getElem hk1, by rw [← ha k _ (List.getElem?_eq_getElem hk1)]; exact hk, List.getElem?_eq_getElem _⟩
    have ndc : adc.Nodup := by
      refine List.pairwise_iff_getElem.mpr fun i j hi hj hij e => ?_
      obtain ⟨l1, o1, e1, e2, _⟩ := inv i adc[j] (by rw [← e]; exact List.getElem?_eq_getElem hi)
      obtain ⟨l2, o2, e3, e4, _⟩ := inv j adc[j] (List.getElem?_eq_getElem hj)
      have := nodup_get F1.st.nd e2 e4
      subst this
      have := nodup_get nd e1 e3
      omega
    have mem : ∀ a ∈ adc, ∃ (l : Nat) (o : Ob), adr1[l]? = some a ∧ ds1.st[l]? = some o ∧ o.live = true := fun a hm => by
      obtain ⟨k, hk⟩ := List.getElem?_of_mem hm
      obtain ⟨l, o, e1, e2, e3⟩ := inv k a hk
      obtain ⟨lv, _, e4⟩ := hst k l o e1 e3
      exact ⟨l, _, e2, e4, by rw [re_live]; exact lv⟩
    have sub : ∀ a ∈ adc, a ∈ W1 := fun a hm => by
      obtain ⟨l, o, e1, e2, e3⟩ := mem a hm
      exact (F1.st.ob l a o e1 e2 e3).1
    refine ⟨W1, adc, xs, st, F1.st.al, ndc, sub, ar_of ha okx r1, ⟨by rw [la, hl], fun k a o h1 h2 => ?_⟩, ⟨ex, es'⟩, fun v H2 r st' as po keep so rr => ?_⟩
    · obtain ⟨l, o', e1, e2, e3⟩ := inv k a h1
      obtain ⟨lv, be, e4⟩ := hst k l o e1 h2
      obtain ⟨_, _, u, hu, ok⟩ := F1.st.ob l a _ e2 e4 (by rw [re_live]; exact lv)
      exact ⟨lv, u, hu, at_un ha be ok⟩
    · have ls : st'.length = st.length := by rw [← so.len, la, hl]
      have hpp := hp r st' po ls
      have nas : ∀ b ∈ as, H1 b = none := fun b hb => by
        cases r with
        | pu d => obtain ⟨rfl, _⟩ := rr; cases hb
        | nw os => obtain ⟨a, _, _, e, _⟩ := rr; exact e b hb
      let Hm : Hp := fun b => if b ∈ as then none else H2 b
      have hmi : ∀ b, b ∈ as → Hm b = none := fun b hb => if_pos hb
      have hmo : ∀ b, b ∉ as → Hm b = H2 b := fun b hb => if_neg hb
      have cm : cut Hm W1 = cut H2 (as ++ W1) := by
        funext b
        by_cases h1 : b ∈ W1
        · rw [cut_in h1, cut_in (List.mem_append_right _ h1)]
        · rw [cut_out h1]
          by_cases h2 : b ∈ as
          · rw [hmi b h2, cut_in (List.mem_append_left _ h2)]
          · rw [hmo b h2, cut_out (fun z => (List.mem_append.mp z).elim h2 h1)]
      obtain ⟨F2, ce⟩ := F1.mutS (C := adc) (st' := upS es ds1.st es st') (H' := Hm) mem (fun b o hb h => by
        rw [hmo b (fun z => by rw [nas b z] at h; cases h)]
        exact keep b o hb h) (upS_len _ _ _ _) (fun l a o h1 h2 hm => by
        obtain ⟨k, hk⟩ := List.getElem?_of_mem hm
        obtain ⟨l', o', e1, e2, e3⟩ := inv k a hk
        have := nodup_get F1.st.nd h1 e2
        subst this
        obtain ⟨o1, ho1⟩ : ∃ o1, st'[k]? = some o1 := ⟨_, List.getElem?_eq_getElem (by rw [ls, ← hl]; exact (List.getElem?_eq_some_iff.mp e1).1)⟩
        rw [upS_in es ds1.st es st' nd e1 ho1 (lt k l e1)] at h2
        cases h2
        obtain ⟨lv, u, hu, ok⟩ := so.ob k a o1 hk ho1
        have na : a ∉ as := fun z => (F1.st.al a (sub a hm)).ne (nas a z)
        exact ⟨by rw [re_live]; exact lv, u, by rw [hmo a na]; exact hu, by rw [cm]; exact at_re ha la ok⟩) (fun l a h1 hm => upS_out es ds1.st es st' fun z => by
        obtain ⟨k, hk⟩ := List.getElem?_of_mem z
        exact hm (List.mem_of_getElem? (by rw [ha k l hk]; exact h1)))
      have eH : Ex Hm H2 := fun b o h => by
        by_cases z : b ∈ as
        · rw [hmi b z] at h; cases h
        · rw [hmo b z] at h; exact h
      cases r with
      | pu d =>
        obtain ⟨rfl, r⟩ := rr
        exact q v H2 W1 adr1 (.pu d) _ hpp a1 ((F2.ex eH).rebase ((F1.base.trans ce).trans (cut_mono eH))) r
      | nw os =>
        obtain ⟨a, ev, h0, _, g⟩ := rr
        have G := F2.grow (os := os) (fun b hb => hmi b hb) eH g
        have ll : (upS es ds1.st es st').length = ds1.st.length := upS_len _ _ _ _
        refine q v H2 (as ++ W1) (adr1 ++ as) (.lo ds1.st.length) _ hpp (a1.trans (List.prefix_append _ _)) ?_ ⟨a, by rw [← F1.st.la, List.getElem?_append_right (Nat.le_refl _), Nat.sub_self]; exact h0, ev⟩
        exact G.rebase (F1.base.trans (ce.trans (cut_many (fun b hb => hmi b hb) eH)))
/-- C(..), whose __init__ leaves pure fields: pure data -/
theorem es_makeF {ι : Type} {X : ι → List Sl} {Z : ι → List Ob} {Po : ι → Rs → List Ob → Prop} {E : XK} {C : Addr} {P : Fv → D4 → Prop}
    (h : Eas K tr ds fun fs ds1 => ∃ (i : ι) (xs : List PyData), fs = xs.map Fv.pu ∧ X i = .lo 0 :: xs.map Sl.pu ∧ Z i = [.ins C []] ∧ ∀ r st', Po i r st' → r = .pu .none ∧ ∃ gs : List (Str × PyData), st' = [.ins C (gs.map fun p => (p.1, Fv.pu p.2))] ∧ P (.pu (inD C gs)) ds1) :
    Es K (tMake C (spF K X Z Po) [] E tr) ds P := fun B W0 M N H0 W σ H adr F Q q =>
  h B W0 M N H0 W σ H adr F _ fun vs H1 W1 adr1 fs ds1 ⟨i, xs, ef, ex, ez, hp⟩ a1 F1 r1 => fun x dx hx hd ne => by
    subst ef
    have rp := r1.pure
    have e12 : Ex H1 (upd (upd H1 dx (.own x)) x (.ins C dx [])) := ex_two hx hd
    have xW : x ∉ W1 := F1.st.al.fresh hx
    show spF K X Z Po (.ref x :: (vs ++ [])) _ _ E
    rw [List.append_nil]
    refine ⟨i, x :: W1, [x], _, _, fun b hb => ?_, by simp, fun b hb => by rw [List.mem_singleton.mp hb]; exact List.mem_cons_self, ⟨by rw [List.length_cons, List.length_cons, List.length_map, rp.length], fun i w s h1 h2 => ?_⟩, ⟨rfl, fun l b o h1 h2 => ?_⟩, ⟨ex.symm, ez.symm⟩, fun w H3 r st' as po keep so rr => ?_⟩
    · rcases List.mem_cons.mp hb with z | z
      · rw [z, upd_same]; exact ⟨(fun q => nomatch q), fun _ q => nomatch q⟩
      · exact F1.st.al.mono e12 b z
    · cases i with
      | zero => cases h1; cases h2; exact ⟨x, rfl, rfl⟩
      | succ i =>
        have h1' : vs[i]? = some w := h1
        have h2' : (xs.map Sl.pu)[i]? = some s := h2
        rw [List.getElem?_map] at h2'
        obtain ⟨d, hd', e⟩ := Option.map_eq_some_iff.mp h2'
        subst e
        obtain ⟨d', hd2, r⟩ := rp.get h1'
        rw [hd'] at hd2
        cases hd2
        exact ⟨w, rfl, r.mono (cut_cons hx e12)⟩
    · cases l with
      | zero => cases h1; cases h2; exact ⟨rfl, _, upd_same, dx, [], rfl, .nil⟩
      | succ l => simp at h1
    · obtain ⟨er, gs, es, p⟩ := hp r st' po
      subst er es
      obtain ⟨rfl, rv⟩ := rr
      cases rv
      obtain ⟨_, u, hu, dx', fvs, eu, ok⟩ := so.ob 0 x _ rfl rfl
      subst eu
      have e13 : Ex H1 H3 := fun b o hb => keep b o (fun z => by rw [List.mem_singleton.mp z, hx] at hb; cases hb) (e12 b o hb)
      refine ⟨rfl, q (.ref x) H3 W1 adr1 (.pu _) ds1 p a1 (F1.ex e13) ?_⟩
      exact .ins (by rw [cut_out xW]; exact hu) ((fs_pure ok).mono (cut_sub fun b hb => List.mem_cons_of_mem _ hb)) rfl
/-- a method of an own instance -/
theorem es_methS {m : Str} {sp : Sp} {E : XK} {C : Addr} {P : Fv → D4 → Prop} {i l : Nat} {fs0 : List (Str × Fv)} (h0 : ds.sl[i]? = some (.lo l)) (h1 : ds.st[l]? = some (.ins C fs0)) (hm : fs0.lookup m = none)
    (h : Es K (tCall sp [] E (tCons (tVar i) tr)) ds P) : Es K (tMeth C m sp [] E (tVar i) tr) ds P := fun B W0 M N H0 W σ H adr F Q q => by
  obtain ⟨a, e1, e2⟩ := F.st.sl i _ h0
  obtain ⟨_, _, u, hu, dx, fvs, e3, r⟩ := F.st.ob l a _ e1 h1 rfl
  subst e3
  have hl : fvs.lookup m = none := by
    have gen : ∀ {vs : List (Str × V)} {fs : List (Str × Fv)}, FsOk K (cut H W) adr vs fs → fs.lookup m = none → vs.lookup m = none := by
      intro vs fs r
      induction r with
      | nil => exact fun _ => rfl
      | @cons g w vs d ds _ _ ih =>
        intro h
        rw [List.lookup_cons] at h ⊢
        cases e : (m == g) with
        | true => rw [e] at h; cases h
        | false => rw [e] at h; exact ih h
    exact gen r hm
  have q2 := h B W0 M N H0 W σ H adr F Q q
  refine ⟨.ref a, getD_of e2, a, dx, fvs, rfl, hu, hl, ?_⟩
  obtain ⟨w, hw, q3⟩ := q2
  have ew : w = .ref a := by rw [getD_of e2] at hw; exact (Option.some.inj (Option.some.inj hw)).symm
  subst ew
  exact q3
/-- what is handed in, object by object -/
def Bor (full : List Nat) (s : List Ob) : List Nat → List Ob → Prop
  | l :: es, o :: os => (o.live = true ∧ below full.length o = true ∧ s[l]? = some (reOb full o)) ∧ Bor full s es os
  | _, _ => True
theorem Bor.get {full : List Nat} {s : List Ob} : ∀ {es : List Nat} {os : List Ob}, Bor full s es os → ∀ (k l : Nat) (o : Ob), es[k]? = some l → os[k]? = some o → o.live = true ∧ below full.length o = true ∧ s[l]? = some (reOb full o)
  | [], _, _, k, l, o, h1, _ => by simp at h1
  | _ :: _, [], _, k, l, o, _, h2 => by simp at h2
  | e :: es, x :: os, h, 0, l, o, h1, h2 => by cases h1; cases h2; exact h.1
  | e :: es, x :: os, h, k + 1, l, o, h1, h2 => Bor.get h.2 k l o h1 h2
/-- a call whose first argument is a label, the others pure -/
theorem es_callL {ι : Type} {X : ι → List Sl} {Z : ι → List Ob} {Po : ι → Rs → List Ob → Prop} {E : XK} {P : Fv → D4 → Prop} {v l : Nat} {xs : List PyData} (i : ι) (es : List Nat) (h0 : ds.sl[v]? = some (.lo l)) (hr : Ea K tr ds xs) (hX : X i = .lo 0 :: xs.map .pu) (he : es[0]? = some l) (nd : es.Nodup) (hl : es.length = (Z i).length) (b : Bor es ds.st es (Z i))
    (k : ∀ r st', Po i r st' → st'.length = (Z i).length → match r with | .pu d => P (.pu d) (ds.back es st') | .nw os => P (.lo ds.st.length) ((ds.back es st').more os)) : Es K (tCall (spF K X Z Po) [] E (tCons (tVar v) tr)) ds P := by
  have p0 : 0 < es.length := (List.getElem?_eq_some_iff.mp he).1
  refine es_callF (eas_cons (P1 := fun f ds1 => f = .lo l ∧ ds1 = ds) (es_lo h0 ⟨rfl, rfl⟩) ?_)
  rintro _ _ ⟨rfl, rfl⟩
  refine eas_ea hr ⟨i, es, nd, ?_, fun s hs => ?_, hl, b.get, k⟩
  · rw [hX, List.map_cons, List.map_map]
    show Fv.lo l :: _ = Fv.lo (es.getD 0 0) :: _
    rw [List.getD_eq_getElem?_getD, he]
    rfl
  · rw [hX] at hs
    rcases List.mem_cons.mp hs with e | e
    · subst e; exact decide_eq_true p0
    · obtain ⟨d, _, e⟩ := List.mem_map.mp e
      subst e; rfl
end
end L4
end

section
set_option Elab.async false
set_option linter.all false
set_option maxRecDepth 100000
set_option autoImplicit false
/-! Laps that raise years: what a lap that still raises tells. -/
namespace L4
open PySem L2
structure Gr (α : Type) where
  src : α → Str
  dst : α → Str
  wt : α → Int
structure Lf (α : Type) where
  far : Str → Int
  ahead : Str → Option α
  last : Option Str
section
variable {α : Type} {g : Gr α} {ps : List α}
def lstep (g : Gr α) (b : Lf α) (p : α) : Lf α :=
  if b.far (g.dst p) < b.far (g.src p) + g.wt p then
    ⟨fun u => if u = g.dst p then b.far (g.src p) + g.wt p else b.far u, fun u => if u = g.dst p then some p else b.ahead u, some (g.dst p)⟩
  else b
def lapG (g : Gr α) (ps : List α) (b : Lf α) : Lf α := ps.foldl (lstep g) ⟨b.far, b.ahead, none⟩
def Lf.zero : Lf α := ⟨fun _ => 0, fun _ => none, none⟩
def lapN (g : Gr α) (ps : List α) : Nat → Lf α
  | 0 => Lf.zero
  | n + 1 => lapG g ps (lapN g ps n)
theorem lstep_yes {b : Lf α} {p : α} (h : b.far (g.dst p) < b.far (g.src p) + g.wt p) : lstep g b p = ⟨fun u => if u = g.dst p then b.far (g.src p) + g.wt p else b.far u, fun u => if u = g.dst p then some p else b.ahead u, some (g.dst p)⟩ := if_pos h
theorem lstep_no {b : Lf α} {p : α} (h : ¬ b.far (g.dst p) < b.far (g.src p) + g.wt p) : lstep g b p = b := if_neg h
theorem lstep_some {b : Lf α} {p : α} (h : b.last ≠ none) : (lstep g b p).last ≠ none := by
  unfold lstep
  split
  · exact fun z => nomatch z
  · exact h
theorem lfold_some : ∀ (ps : List α) {b : Lf α}, b.last ≠ none → (ps.foldl (lstep g) b).last ≠ none
  | [], _, h => h
  | p :: ps, _, h => lfold_some ps (lstep_some h)
theorem lfold_none : ∀ (ps : List α) {b : Lf α}, (ps.foldl (lstep g) b).last = none → ps.foldl (lstep g) b = b ∧ ∀ p ∈ ps, b.far (g.src p) + g.wt p ≤ b.far (g.dst p)
  | [], _, _ => ⟨rfl, fun _ h => nomatch h⟩
  | p :: ps, b, h => by
    by_cases c : b.far (g.dst p) < b.far (g.src p) + g.wt p
    · exact absurd h (lfold_some ps (b := lstep g b p) (by rw [lstep_yes c]; exact fun z => nomatch z))
    · have h' : (ps.foldl (lstep g) b).last = none := by
        have h2 : (ps.foldl (lstep g) (lstep g b p)).last = none := h
        rwa [lstep_no c] at h2
      obtain ⟨h1, h2⟩ := lfold_none ps h'
      refine ⟨by show ps.foldl (lstep g) (lstep g b p) = b; rw [lstep_no c]; exact h1, fun q hq => ?_⟩
      rcases List.mem_cons.mp hq with z | z
      · rw [z]; omega
      · exact h2 q z
/-- a lap that raises none: the years keep all steps -/
theorem lap_fits {b : Lf α} (h : (lapG g ps b).last = none) : (lapG g ps b).far = b.far ∧ ∀ p ∈ ps, b.far (g.src p) + g.wt p ≤ b.far (g.dst p) := by
  obtain ⟨h1, h2⟩ := lfold_none ps (b := ⟨b.far, b.ahead, none⟩) h
  exact ⟨by show (ps.foldl (lstep g) ⟨b.far, b.ahead, none⟩).far = _; rw [h1], h2⟩
/-! ways back along what is ahead -/
def sumG (g : Gr α) (l : List α) : Int := (l.map g.wt).sum
theorem sumG_cons (p : α) (l : List α) : sumG g (p :: l) = g.wt p + sumG g l := by unfold sumG; rw [List.map_cons, List.sum_cons]
theorem sumG_append (l m : List α) : sumG g (l ++ m) = sumG g l + sumG g m := by unfold sumG; rw [List.map_append, List.sum_append]
inductive Pth (g : Gr α) (ah : Str → Option α) : Str → List α → Str → Prop
  | nil (v : Str) : Pth g ah v [] v
  | cons {v u : Str} {p : α} {l : List α} : ah v = some p → Pth g ah (g.src p) l u → Pth g ah v (p :: l) u
theorem Pth.append {ah : Str → Option α} {v u w : Str} {l m : List α} (a : Pth g ah v l u) (b : Pth g ah u m w) : Pth g ah v (l ++ m) w := by
  induction a with
  | nil v => exact b
  | cons h _ ih => exact .cons h (ih b)
theorem pth_tele {ah : Str → Option α} {far : Str → Int} (h : ∀ v p, ah v = some p → far v ≤ far (g.src p) + g.wt p) {v u : Str} {l : List α} (w : Pth g ah v l u) : far v ≤ far u + sumG g l := by
  induction w with
  | nil v => unfold sumG; simp
  | cons e _ ih =>
    rw [sumG_cons]
    have := h _ _ e
    omega
section
variable {ah : Str → Option α} {d : Str} {p : α}
abbrev updA (ah : Str → Option α) (d : Str) (p : α) : Str → Option α := fun u => if u = d then some p else ah u
theorem pth_first {ah' : Str → Option α} (hu : ∀ x q, x ≠ d → ah' x = some q → ah x = some q) {w u : Str} {l : List α} (h : Pth g ah' w l u) (e : u = d) : ∃ m rest, l = m ++ rest ∧ Pth g ah w m d ∧ Pth g ah' d rest d := by
  induction h with
  | nil v => exact ⟨[], [], rfl, e ▸ .nil v, .nil d⟩
  | @cons v u q l e1 w ih =>
    by_cases z : v = d
    · subst z
      exact ⟨[], q :: l, rfl, .nil _, by rw [← e]; exact e ▸ .cons e1 (e ▸ w)⟩
    · obtain ⟨m, rest, e2, p1, p2⟩ := ih e
      exact ⟨q :: m, rest, by rw [e2]; rfl, .cons (hu v q z e1) p1, p2⟩
theorem pth_split {v u : Str} {l : List α} (h : Pth g (updA ah d p) v l u) : Pth g ah v l u ∨ ∃ l1 l2, l = l1 ++ l2 ∧ Pth g (updA ah d p) v l1 d ∧ Pth g (updA ah d p) d l2 u ∧ l2 ≠ [] := by
  induction h with
  | nil v => exact .inl (.nil v)
  | @cons v u q l e w ih =>
    by_cases z : v = d
    · subst z
      exact .inr ⟨[], q :: l, rfl, .nil _, .cons e w, fun z => nomatch z⟩
    · have e' : ah v = some q := by have : (if v = d then some p else ah v) = some q := e; rwa [if_neg z] at this
      rcases ih with h | ⟨l1, l2, e1, p1, p2, n⟩
      · exact .inl (.cons e' h)
      · exact .inr ⟨q :: l1, l2, by rw [e1]; rfl, .cons e p1, p2, n⟩
theorem pos_upd {far : Str → Int} (h : ∀ v q, ah v = some q → far v ≤ far (g.src q) + g.wt q) (pos : ∀ v l, Pth g ah v l v → l ≠ [] → 0 < sumG g l) (c : far d < far (g.src p) + g.wt p) :
    ∀ (n : Nat) (v : Str) (l : List α), l.length ≤ n → Pth g (updA ah d p) v l v → l ≠ [] → 0 < sumG g l := by
  have atd : ∀ n, (∀ m, m < n → ∀ (v : Str) (l : List α), l.length ≤ m → Pth g (updA ah d p) v l v → l ≠ [] → 0 < sumG g l) → ∀ l : List α, l.length ≤ n → Pth g (updA ah d p) d l d → l ≠ [] → 0 < sumG g l := by
    intro n ih l hl w ne
    cases w with
    | nil => exact absurd rfl ne
    | @cons _ _ q l' e w =>
      have eq : q = p := by have : (if d = d then some p else ah d) = some q := e; rw [if_pos rfl] at this; exact (Option.some.inj this).symm
      subst eq
      obtain ⟨q', eq'⟩ : ∃ q', q' = q := ⟨_, rfl⟩
      subst eq'
      obtain ⟨m, rest, e1, p1, p2⟩ := pth_first (ah := ah) (d := d) (fun x q z e => by have : (if x = d then some q' else ah x) = some q := e; rwa [if_neg z] at this) w rfl
      have t := pth_tele h p1
      rw [sumG_cons, e1, sumG_append]
      by_cases z : rest = []
      · subst z
        have : sumG g ([] : List α) = 0 := rfl
        omega
      · have hl' : rest.length < n := by
          rw [List.length_cons, e1, List.length_append] at hl
          omega
        have := ih rest.length hl' d rest (Nat.le_refl _) p2 z
        omega
  intro n
  induction n using Nat.strongRecOn with
  | _ n ih =>
    intro v l hl w ne
    rcases pth_split w with h' | ⟨l1, l2, e, w1, w2, n2⟩
    · exact pos v l h' ne
    · have q := atd n ih (l2 ++ l1) (by rw [List.length_append]; rw [e, List.length_append] at hl; omega) (w2.append w1) (fun z => n2 (List.append_eq_nil_iff.mp z).1)
      rw [sumG_append] at q
      rw [e, sumG_append]
      omega
end
/-! when each was last raised -/
structure Gst (g : Gr α) (ps : List α) (L : Nat) (b : Lf α) (T : Str → Option Nat) (pre suf : List α) : Prop where
  ah : ∀ v p, b.ahead v = some p → p ∈ ps ∧ g.dst p = v ∧ b.far v ≤ b.far (g.src p) + g.wt p
  tt : ∀ v t, T v = some t → ∃ p, b.ahead v = some p
  le : ∀ v t, T v = some t → t ≤ L
  ch : ∀ v p t, b.ahead v = some p → T v = some t → t = 0 ∨ ∃ t', T (g.src p) = some t' ∧ t ≤ t' + 1
  pr : ∀ p ∈ pre, T (g.src p) = some L ∨ b.far (g.src p) + g.wt p ≤ b.far (g.dst p)
  su : ∀ p ∈ suf, L = 0 ∨ T (g.src p) = some L ∨ T (g.src p) = some (L - 1) ∨ b.far (g.src p) + g.wt p ≤ b.far (g.dst p)
  la : ∀ v, b.last = some v → T v = some L
  pos : ∀ v l, Pth g b.ahead v l v → l ≠ [] → 0 < sumG g l
theorem Gst.step {L : Nat} {b : Lf α} {T : Str → Option Nat} {pre suf : List α} {p : α} (h : Gst g ps L b T pre (p :: suf)) (hp : p ∈ ps) : ∃ T', Gst g ps L (lstep g b p) T' (pre ++ [p]) suf := by
  by_cases c : b.far (g.dst p) < b.far (g.src p) + g.wt p
  · have fu : ∀ u, b.far u ≤ (if u = g.dst p then b.far (g.src p) + g.wt p else b.far u) := fun u => by
      split
      · rename_i e; rw [e]; omega
      · exact Int.le_refl _
    refine ⟨fun u => if u = g.dst p then some L else T u, ?_⟩
    rw [lstep_yes c]
    refine ⟨fun v q hq => ?_, fun v t ht => ?_, fun v t ht => ?_, fun v q t hq ht => ?_, fun q hq => ?_, fun q hq => ?_, fun v hv => ?_, fun v l w ne => ?_⟩
    · by_cases z : v = g.dst p
      · have hq' : some p = some q := by have : (if v = g.dst p then some p else b.ahead v) = some q := hq; rwa [if_pos z] at this
        cases hq'
        refine ⟨hp, z.symm, ?_⟩
        show (if v = g.dst p then _ else _) ≤ (if g.src p = g.dst p then _ else _) + g.wt p
        rw [if_pos z]
        have := fu (g.src p)
        omega
      · have hq' : b.ahead v = some q := by have : (if v = g.dst p then some p else b.ahead v) = some q := hq; rwa [if_neg z] at this
        obtain ⟨h1, h2, h3⟩ := h.ah v q hq'
        refine ⟨h1, h2, ?_⟩
        show (if v = g.dst p then _ else b.far v) ≤ (if g.src q = g.dst p then _ else _) + g.wt q
        rw [if_neg z]
        have := fu (g.src q)
        omega
    · by_cases z : v = g.dst p
      · exact ⟨p, if_pos z⟩
      · have ht' : T v = some t := by have : (if v = g.dst p then some L else T v) = some t := ht; rwa [if_neg z] at this
        obtain ⟨q, hq⟩ := h.tt v t ht'
        exact ⟨q, (if_neg z).trans hq⟩
    · by_cases z : v = g.dst p
      · have : (if v = g.dst p then some L else T v) = some t := ht
        rw [if_pos z] at this
        cases this
        exact Nat.le_refl _
      · have ht' : T v = some t := by have : (if v = g.dst p then some L else T v) = some t := ht; rwa [if_neg z] at this
        exact h.le v t ht'
    · have key : ∀ x t', T x = some t' → ∃ t'', (if x = g.dst p then some L else T x) = some t'' ∧ t' ≤ t'' := fun x t' hx => by
        by_cases y : x = g.dst p
        · exact ⟨L, if_pos y, h.le x t' hx⟩
        · exact ⟨t', (if_neg y).trans hx, Nat.le_refl _⟩
      by_cases z : v = g.dst p
      · have e1 : some p = some q := by have : (if v = g.dst p then some p else b.ahead v) = some q := hq; rwa [if_pos z] at this
        have e2 : some L = some t := by have : (if v = g.dst p then some L else T v) = some t := ht; rwa [if_pos z] at this
        cases e1
        cases e2
        rcases h.su p List.mem_cons_self with e | e | e | e
        · exact .inl e
        · obtain ⟨t'', h1, h2⟩ := key _ _ e
          exact .inr ⟨t'', h1, by omega⟩
        · obtain ⟨t'', h1, h2⟩ := key _ _ e
          exact .inr ⟨t'', h1, by omega⟩
        · omega
      · have hq' : b.ahead v = some q := by have : (if v = g.dst p then some p else b.ahead v) = some q := hq; rwa [if_neg z] at this
        have ht' : T v = some t := by have : (if v = g.dst p then some L else T v) = some t := ht; rwa [if_neg z] at this
        rcases h.ch v q t hq' ht' with e | ⟨t', e1, e2⟩
        · exact .inl e
        · obtain ⟨t'', h1, h2⟩ := key _ _ e1
          exact .inr ⟨t'', h1, by omega⟩
    · show (if g.src q = g.dst p then some L else T (g.src q)) = some L ∨ (if g.src q = g.dst p then _ else b.far (g.src q)) + g.wt q ≤ if g.dst q = g.dst p then _ else _
      by_cases z : g.src q = g.dst p
      · exact .inl (if_pos z)
      · rw [if_neg z, if_neg z]
        rcases List.mem_append.mp hq with m | m
        · rcases h.pr q m with e | e
          · exact .inl e
          · have := fu (g.dst q)
            exact .inr (by omega)
        · rw [List.mem_singleton.mp m, if_pos rfl]
          exact .inr (Int.le_refl _)
    · show L = 0 ∨ (if g.src q = g.dst p then some L else T (g.src q)) = some L ∨ (if g.src q = g.dst p then some L else T (g.src q)) = some (L - 1) ∨ (if g.src q = g.dst p then _ else b.far (g.src q)) + g.wt q ≤ if g.dst q = g.dst p then _ else _
      by_cases z : g.src q = g.dst p
      · exact .inr (.inl (if_pos z))
      · rw [if_neg z, if_neg z]
        rcases h.su q (List.mem_cons_of_mem _ hq) with e | e | e | e
        · exact .inl e
        · exact .inr (.inl e)
        · exact .inr (.inr (.inl e))
        · have := fu (g.dst q)
          exact .inr (.inr (.inr (by omega)))
    · have e : g.dst p = v := Option.some.inj hv
      exact if_pos e.symm
    · exact pos_upd (fun v q hq => (h.ah v q hq).2.2) h.pos c _ v l (Nat.le_refl _) w ne
  · refine ⟨T, ?_⟩
    rw [lstep_no c]
    refine ⟨h.ah, h.tt, h.le, h.ch, fun q hq => ?_, fun q hq => h.su q (List.mem_cons_of_mem _ hq), h.la, h.pos⟩
    rcases List.mem_append.mp hq with m | m
    · exact h.pr q m
    · rw [List.mem_singleton.mp m]; exact .inr (by omega)
theorem Gst.fold {L : Nat} : ∀ (suf : List α) {b : Lf α} {T : Str → Option Nat} {pre : List α}, (∀ p ∈ suf, p ∈ ps) → Gst g ps L b T pre suf → ∃ T', Gst g ps L (suf.foldl (lstep g) b) T' (pre ++ suf) []
  | [], b, T, pre, _, h => ⟨T, by rw [List.append_nil]; exact h⟩
  | p :: suf, b, T, pre, hs, h => by
    obtain ⟨T', h'⟩ := h.step (hs p List.mem_cons_self)
    obtain ⟨T'', h''⟩ := Gst.fold suf (fun q hq => hs q (List.mem_cons_of_mem _ hq)) h'
    exact ⟨T'', by rw [List.append_assoc] at h''; exact h''⟩
theorem lap_gst (n : Nat) : ∃ T, Gst g ps n (lapN g ps (n + 1)) T ps [] := by
  induction n with
  | zero =>
    refine Gst.fold (L := 0) ps (b := ⟨Lf.zero.far, Lf.zero.ahead, none⟩) (T := fun _ => none) (pre := []) (fun p hp => hp) ⟨(fun v p h => nomatch h), (fun v t h => nomatch h), (fun v t h => nomatch h), (fun v p t h => nomatch h), (fun p h => nomatch h), fun p h => .inl rfl, (fun v h => nomatch h), fun v l w ne => ?_⟩
    cases w with
    | nil => exact absurd rfl ne
    | cons e _ => cases e
  | succ n ih =>
    obtain ⟨T, h⟩ := ih
    have q := Gst.fold (L := n + 1) ps (b := ⟨(lapN g ps (n + 1)).far, (lapN g ps (n + 1)).ahead, none⟩) (T := T) (pre := []) (fun p hp => hp) ⟨h.ah, h.tt, fun v t ht => Nat.le_succ_of_le (h.le v t ht), h.ch, (fun p h => nomatch h), fun p hp => ?_, (fun v h => nomatch h), h.pos⟩
    · exact q
    · rcases h.pr p hp with e | e
      · exact .inr (.inr (.inl e))
      · exact .inr (.inr (.inr e))
/-! ways back that never end -/
def itN (g : Gr α) (ah : Str → Option α) : Nat → Str → Option Str
  | 0, v => some v
  | n + 1, v => match ah v with
    | some p => itN g ah n (g.src p)
    | none => none
theorem itN_add {ah : Str → Option α} : ∀ (n m : Nat) (v : Str), itN g ah (n + m) v = (itN g ah n v).bind (itN g ah m)
  | 0, m, v => by rw [Nat.zero_add]; rfl
  | n + 1, m, v => by
    rw [Nat.succ_add]
    show (match ah v with | some p => itN g ah (n + m) (g.src p) | none => none) = Option.bind (match ah v with | some p => itN g ah n (g.src p) | none => none) _
    cases ah v with
    | none => rfl
    | some p => exact itN_add n m _
theorem Gst.chain {L : Nat} {b : Lf α} {T : Str → Option Nat} {pre suf : List α} (h : Gst g ps L b T pre suf) : ∀ (t : Nat) (v : Str), (∃ t', T v = some t' ∧ t ≤ t') → itN g b.ahead (t + 1) v ≠ none
  | 0, v, ⟨t', e, _⟩ => by
    obtain ⟨p, hp⟩ := h.tt v t' e
    show (match b.ahead v with | some p => some (g.src p) | none => none) ≠ none
    rw [hp]
    exact fun z => nomatch z
  | t + 1, v, ⟨t', e, hl⟩ => by
    obtain ⟨p, hp⟩ := h.tt v t' e
    show (match b.ahead v with | some p => itN g b.ahead (t + 1) (g.src p) | none => none) ≠ none
    rw [hp]
    rcases h.ch v p t' hp e with z | ⟨t'', e2, l2⟩
    · omega
    · exact Gst.chain h t (g.src p) ⟨t'', e2, by omega⟩
theorem sub_len {l m : List Str} (nd : l.Nodup) (s : ∀ x ∈ l, x ∈ m) : l.length ≤ m.length := by
  induction l generalizing m with
  | nil => exact Nat.zero_le _
  | cons x l ih =>
    have nd' := List.nodup_cons.mp nd
    have hx := s x List.mem_cons_self
    have := ih (m := m.erase x) nd'.2 fun y hy => (List.mem_erase_of_ne (fun z => nd'.1 (by rw [← z]; exact hy))).mpr (s y (List.mem_cons_of_mem _ hy))
    rw [List.length_erase_of_mem hx] at this
    have := List.length_pos_of_mem hx
    rw [List.length_cons]
    omega
theorem it_more {ah : Str → Option α} {v : Str} {n m : Nat} (h : itN g ah m v ≠ none) (l : n ≤ m) : itN g ah n v ≠ none := fun z => h (by
  rw [show m = n + (m - n) by omega, itN_add, z]; rfl)
/-- so long a way back meets itself: it never ends -/
theorem it_rep {ah : Str → Option α} {us : List Str} (hs : ∀ v p, ah v = some p → g.src p ∈ us) {v : Str} (hv : v ∈ us) (h : itN g ah us.length v ≠ none) :
    ∃ i j, i < j ∧ j ≤ us.length ∧ itN g ah i v = itN g ah j v := by
  refine Classical.byContradiction fun no => ?_
  have get : ∀ i, i ≤ us.length → ∃ x, itN g ah i v = some x := fun i hi => Option.ne_none_iff_exists'.mp (it_more h hi)
  have inn : ∀ i x, itN g ah i v = some x → x ∈ us := by
    intro i
    induction i generalizing v with
    | zero => intro x e; cases e; exact hv
    | succ i ih =>
      intro x e
      have e' : (match ah v with | some p => itN g ah i (g.src p) | none => none) = some x := e
      cases q : ah v with
      | none => rw [q] at e'; cases e'
      | some p =>
        rw [q] at e'
        clear no get ih h
        have gen : ∀ (i : Nat) (w : Str), w ∈ us → ∀ x, itN g ah i w = some x → x ∈ us := by
          intro i
          induction i with
          | zero => intro w hw x e; cases e; exact hw
          | succ i ih =>
            intro w hw x e
            have e' : (match ah w with | some p => itN g ah i (g.src p) | none => none) = some x := e
            cases q : ah w with
            | none => rw [q] at e'; cases e'
            | some p => rw [q] at e'; exact ih _ (hs w p q) x e'
        exact gen i _ (hs v p q) x e'
  let node : Nat → Str := fun i => (itN g ah i v).getD v
  have hn : ∀ i, i ≤ us.length → itN g ah i v = some (node i) := fun i hi => by
    obtain ⟨x, e⟩ := get i hi
    show itN g ah i v = some ((itN g ah i v).getD v)
    rw [e]; rfl
  have nd : ((List.range (us.length + 1)).map node).Nodup := by
    refine List.pairwise_iff_getElem.mpr fun i j hi hj hij e => ?_
    rw [List.length_map, List.length_range] at hi hj
    rw [List.getElem_map, List.getElem_map, List.getElem_range, List.getElem_range] at e
    exact no ⟨i, j, hij, by omega, by rw [hn i (by omega), hn j (by omega), e]⟩
  have := sub_len nd fun x hx => by
    obtain ⟨i, hi, e⟩ := List.mem_map.mp hx
    rw [List.mem_range] at hi
    exact inn i x (by rw [hn i (by omega), e])
  rw [List.length_map, List.length_range] at this
  omega
theorem it_inf {ah : Str → Option α} {us : List Str} (hs : ∀ v p, ah v = some p → g.src p ∈ us) {v : Str} (hv : v ∈ us) (h : itN g ah us.length v ≠ none) : ∀ m, itN g ah m v ≠ none := by
  obtain ⟨i, j, hij, hj, e⟩ := it_rep hs hv h
  intro m
  induction m using Nat.strongRecOn with
  | _ m ih =>
    by_cases z : m ≤ us.length
    · exact it_more h z
    · intro q
      refine ih (i + (m - j)) (by omega) ?_
      rw [itN_add, e, ← itN_add, show j + (m - j) = m by omega]
      exact q
/-- units from which all goes on -/
structure Clo (g : Gr α) (ah : Str → Option α) (S : List Str) : Prop where
  go : ∀ v ∈ S, ∃ p, ah v = some p ∧ g.src p ∈ S
theorem clo_of {ah : Str → Option α} {us : List Str} (hs : ∀ v p, ah v = some p → g.src p ∈ us) {v : Str} (hv : v ∈ us) (h : itN g ah us.length v ≠ none) : ∃ S, Clo g ah S ∧ v ∈ S ∧ S.length ≤ us.length ∧ ∀ u ∈ S, u ∈ us := by
  have inf := it_inf hs hv h
  open Classical in
  refine ⟨us.filter fun u => decide (∀ m, itN g ah m u ≠ none), ⟨fun u hu => ?_⟩, List.mem_filter.mpr ⟨hv, decide_eq_true inf⟩, List.length_filter_le _ _, fun u hu => (List.mem_filter.mp hu).1⟩
  obtain ⟨h1, h2⟩ := List.mem_filter.mp hu
  have h2 := of_decide_eq_true h2
  cases q : ah u with
  | none =>
    exfalso
    refine h2 1 ?_
    show (match ah u with | some p => some (g.src p) | none => none) = none
    rw [q]
  | some p =>
    refine ⟨p, rfl, List.mem_filter.mpr ⟨hs u p q, decide_eq_true fun m z => h2 (m + 1) ?_⟩⟩
    show (match ah u with | some p => itN g ah m (g.src p) | none => none) = none
    rw [q]
    exact z
/-- a lap too many: rings of what is ahead weigh more than nothing, and there is one -/
theorem lap_ring {us : List Str} (hs : ∀ p ∈ ps, g.src p ∈ us ∧ g.dst p ∈ us) {n : Nat} (hn : us.length ≤ n + 1) {v : Str} (hl : (lapN g ps (n + 1)).last = some v) :
    (∀ u p, (lapN g ps (n + 1)).ahead u = some p → p ∈ ps ∧ g.dst p = u) ∧ (∀ u l, Pth g (lapN g ps (n + 1)).ahead u l u → l ≠ [] → 0 < sumG g l) ∧ ∃ S, Clo g (lapN g ps (n + 1)).ahead S ∧ v ∈ S ∧ S.length ≤ us.length ∧ ∀ u ∈ S, u ∈ us := by
  obtain ⟨T, h⟩ := lap_gst (g := g) (ps := ps) n
  have tv := h.la v hl
  obtain ⟨p, hp⟩ := h.tt v n tv
  obtain ⟨p1, p2, _⟩ := h.ah v p hp
  refine ⟨fun u p hp => ⟨(h.ah u p hp).1, (h.ah u p hp).2.1⟩, h.pos, clo_of (fun u p hp => (hs p (h.ah u p hp).1).1) (by rw [← p2]; exact (hs p p1).2) ?_⟩
  exact it_more (h.chain n v ⟨n, tv, Nat.le_refl _⟩) hn
end
end L4
end

section
set_option Elab.async false
set_option linter.all false
set_option maxRecDepth 100000
set_option autoImplicit false
/-! Digs as data: rows, steps, texts; what their defs are to give. -/
namespace L4
open PySem L2
def R1 (R : PyData → PyData → Prop) : List PyData → PyData → Prop := fun xs d => ∃ a, xs = [a] ∧ R a d
def R2' (R : PyData → PyData → PyData → Prop) : List PyData → PyData → Prop := fun xs d => ∃ a b, xs = [a, b] ∧ R a b d
def R3' (R : PyData → PyData → PyData → PyData → Prop) : List PyData → PyData → Prop := fun xs d => ∃ a b c, xs = [a, b, c] ∧ R a b c d
def R4' (R : PyData → PyData → PyData → PyData → PyData → Prop) : List PyData → PyData → Prop := fun xs d => ∃ a b c e, xs = [a, b, c, e] ∧ R a b c e d
def letters : Str := "abcdefghijklmnopqrstuvwxyz"
def figures : Str := "0123456789"
/-- a text whose signs are signs -/
def SOk (x : Str) : Prop := (PyData.str x).canLay0 = true
instance {x : Str} : Decidable (SOk x) := inferInstanceAs (Decidable ((PyData.str x).canLay0 = true))
theorem sh_str {x : Str} (h : SOk x) : SeqAt.shaped (.str x) = true := by
  show ((PyData.str x).canLay0 && decide (0 ≤ 64)) = true
  rw [show (PyData.str x).canLay0 = true from h]; rfl
theorem can_strs : ∀ {us : List Str}, (∀ u ∈ us, SOk u) → PyData.canLayAll0 (us.map .str) = true
  | [], _ => rfl
  | u :: us, h => by
    show ((PyData.str u).canLay0 && PyData.canLayAll0 (us.map .str)) = true
    rw [show (PyData.str u).canLay0 = true from h u List.mem_cons_self, can_strs fun v hv => h v (List.mem_cons_of_mem _ hv)]; rfl
theorem dep_strs : ∀ us : List Str, PyData.depthAll (us.map .str) = 0
  | [] => rfl
  | u :: us => by
    show max 0 (PyData.depthAll (us.map .str)) = 0
    rw [dep_strs us]; rfl
theorem sh_strsL {us : List Str} (h : ∀ u ∈ us, SOk u) : SeqAt.shaped (.list (us.map .str)) = true := by
  show (PyData.canLayAll0 (us.map .str) && decide (PyData.depthAll (us.map .str) + 1 ≤ 64)) = true
  rw [can_strs h, dep_strs]; rfl
theorem sh_strsT {us : List Str} (h : ∀ u ∈ us, SOk u) : SeqAt.shaped (.tuple (us.map .str)) = true := by
  show (PyData.canLayAll0 (us.map .str) && decide (PyData.depthAll (us.map .str) + 1 ≤ 64)) = true
  rw [can_strs h, dep_strs]; rfl
structure IsNm (s : Str) : Prop where
  pos : 0 < s.length
  le : s.length ≤ 8
  first : ∀ c, s.cps.toList[0]? = some c → c ∈ letters.cps.toList
  all : ∀ c ∈ s.cps.toList, c ∈ letters.cps.toList ∨ c ∈ figures.cps.toList
theorem SOk.of {x : Str} (h : ∀ c ∈ x.cps.toList, c < 1114112) : SOk x := by
  show (x.cps.all (· < 0x110000)) = true
  rw [← Array.all_toList, List.all_eq_true]
  exact fun c hc => decide_eq_true (h c hc)
theorem IsNm.sok {x : Str} (h : IsNm x) : SOk x := .of fun c hc => by
  have k1 : ∀ c ∈ letters.cps.toList, c < 1114112 := by decide +kernel
  have k2 : ∀ c ∈ figures.cps.toList, c < 1114112 := by decide +kernel
  exact (h.all c hc).elim (k1 c) (k2 c)
theorem any_str (x : Str) (us : List Str) : ((us.map PyData.str).any fun z => PyData.eqv z (.str x)) = decide (x ∈ us) := by
  induction us with
  | nil => rfl
  | cons u us ih =>
    rw [List.map_cons, List.any_cons, ih]
    show (decide (u = x) || decide (x ∈ us)) = _
    by_cases e : u = x
    · subst e; simp
    · have e' : ¬ x = u := fun z => e z.symm
      simp [e, e']
inductive Row where
  | ab (a b : Str)
  | sa (a b : Str)
  | le (a b : Str) (n : Nat)
  | mo (a b : Str) (n : Nat)
  deriving DecidableEq
def Row.a : Row → Str
  | .ab a _ => a
  | .sa a _ => a
  | .le a _ _ => a
  | .mo a _ _ => a
def Row.b : Row → Str
  | .ab _ b => b
  | .sa _ b => b
  | .le _ b _ => b
  | .mo _ b _ => b
def Row.n : Row → Nat
  | .le _ _ n => n
  | .mo _ _ n => n
  | _ => 0
def eRow : Row → PyData
  | .ab a b => .tuple [.str "above", .str a, .str b]
  | .sa a b => .tuple [.str "same", .str a, .str b]
  | .le a b n => .tuple [.str "least", .str a, .str b, .int (n : Nat)]
  | .mo a b n => .tuple [.str "most", .str a, .str b, .int (n : Nat)]
/-- the words of its line -/
def nTx (n : Nat) : Str := toString (n : Int)
def wRow : Row → List Str
  | .ab a b => ["above", a, b]
  | .sa a b => ["same", a, b]
  | .le a b n => ["least", a, b, nTx n]
  | .mo a b n => ["most", a, b, nTx n]
def lRow (r : Row) : Str := Txt.join " " (wRow r)
def lUnit (u : Str) : Str := Txt.join " " ["unit", u]
abbrev Stp : Type := Str × Str × Int
def stepsR : Row → List Stp
  | .ab a b => [(b, a, 1)]
  | .sa a b => [(a, b, 0), (b, a, 0)]
  | .le a b n => [(b, a, (n : Int))]
  | .mo a b n => [(a, b, 0 - (n : Int))]
def eSt (s : Stp) : PyData := .tuple [.str s.1, .str s.2.1, .int s.2.2]
abbrev Td : Type := Nat × Stp
def eTd (t : Td) : PyData := .tuple [.int (t.1 : Nat), eSt t.2]
def toldR (rows : List Row) : List Td := rows.zipIdx.flatMap fun p => (stepsR p.1).map fun s => (p.2, s)
/-- a number of few figures -/
structure NumOk (n : Nat) : Prop where
  lt : n ≤ 9999
  len : (nTx n).length ≤ 4
  pos : 0 < (nTx n).length
  first : ∀ c, (nTx n).cps.toList[0]? = some c → c ≠ 45
  all : ∀ c ∈ (nTx n).cps.toList, c ∈ figures.cps.toList
  txt : PySem.intText? (nTx n) = some (n : Int)
structure RowOk (units : List Str) (r : Row) : Prop where
  ia : r.a ∈ units
  ib : r.b ∈ units
  ne : r.a ≠ r.b
  num : NumOk r.n
structure DigD where
  units : List Str
  rows : List Row
def DigD.lines (d : DigD) : List Str := d.units.map lUnit ++ d.rows.map lRow
def DigD.text (d : DigD) : Str := Txt.join "\n" d.lines
structure DigOk (d : DigD) : Prop where
  pos : 1 ≤ d.units.length
  le : d.units.length ≤ 40
  nd : d.units.Nodup
  nm : ∀ u ∈ d.units, IsNm u
  rle : d.rows.length ≤ 200
  rnd : d.rows.Nodup
  ok : ∀ r ∈ d.rows, RowOk d.units r
def digF (d : DigD) : List (Str × PyData) := [("own_text", .str d.text), ("own_units", .tuple (d.units.map .str)), ("own_rows", .tuple (d.rows.map eRow))]
def eDig (C : Addr) (d : DigD) : PyData := inD C (digF d)
def eTx (c : List Str) : PyData := .tuple (c.map .str)
theorem nTx_zero : nTx 0 = ("0" : Str) := by decide +kernel
def numB (n : Nat) : Bool := decide ((nTx n).length ≤ 4) && decide (0 < (nTx n).length) && ((nTx n).cps.toList[0]? != some 45) && ((nTx n).cps.toList.all fun c => decide (c ∈ figures.cps.toList)) && decide (PySem.intText? (nTx n) = some (n : Int))
theorem num_of {n : Nat} (l : n ≤ 9999) (h : numB n = true) : NumOk n := by
  unfold numB at h
  simp only [Bool.and_eq_true, decide_eq_true_eq, bne_iff_ne, List.all_eq_true] at h
  obtain ⟨⟨⟨⟨h1, h2⟩, h3⟩, h4⟩, h5⟩ := h
  exact ⟨l, h1, h2, fun c hc e => h3 (by rw [hc, e]), h4, h5⟩
theorem num_small : ∀ n < 100, numB n = true := by decide +kernel
theorem eqv_str (x y : Str) : PyData.eqv (.str x) (.str y) = decide (x = y) := rfl
theorem eqv_str_ne {x y : Str} (h : x ≠ y) : PyData.eqv (.str x) (.str y) = false := decide_eq_false h
theorem eqv_str_eq {x y : Str} (h : x = y) : PyData.eqv (.str x) (.str y) = true := decide_eq_true h
theorem NumOk.sok {n : Nat} (h : NumOk n) : SOk (nTx n) := .of fun c hc => by
  have k2 : ∀ c ∈ figures.cps.toList, c < 1114112 := by decide +kernel
  exact k2 c (h.all c hc)
theorem cut_sok {n : Nat} (h : NumOk n) (lo hi : Option Int) : SOk (cutS (nTx n) lo hi) := .of fun c hc => by
  have k2 : ∀ c ∈ figures.cps.toList, c < 1114112 := by decide +kernel
  refine k2 c (h.all c ?_)
  unfold cutS at hc
  rw [List.toList_toArray] at hc
  exact List.mem_of_mem_drop (List.mem_of_mem_take hc)
theorem cut_first {n : Nat} (h : NumOk n) : cutS (nTx n) none (some 1) ≠ ("-" : Str) := fun e => by
  have e1 : (cutS (nTx n) none (some 1)).cps.toList = [45] := by rw [e]; decide +kernel
  unfold cutS at e1
  rw [List.toList_toArray, show (1 : Int) = ((1 : Nat) : Int) from rfl, HT.sIx_nat, HT.sIx_none, List.drop_zero, Nat.sub_zero] at e1
  cases q : (nTx n).cps.toList with
  | nil => rw [q] at e1; simp at e1
  | cons c r =>
    have hm : min 1 (nTx n).length = 1 := by have := h.pos; omega
    rw [q, hm] at e1
    simp at e1
    exact h.first c (by rw [q]; rfl) e1
theorem log_num {n : Nat} (h : n ≤ 9999) : ((n : Nat) : Int).natAbs.log2 < 1920 := by
  rw [Int.natAbs_natCast]
  by_cases z : n = 0
  · subst z; decide
  · exact Nat.lt_trans ((Nat.log2_lt z).mpr (show n < 2 ^ 14 by omega)) (by decide)
/-- what str makes of a part of a row -/
def strD : PyData → PyData
  | .int i => .str (toString i)
  | d => d
def rowParts : Row → List PyData
  | .ab a b => [.str "above", .str a, .str b]
  | .sa a b => [.str "same", .str a, .str b]
  | .le a b n => [.str "least", .str a, .str b, .int (n : Nat)]
  | .mo a b n => [.str "most", .str a, .str b, .int (n : Nat)]
theorem eRow_parts (r : Row) : eRow r = .tuple (rowParts r) := by cases r <;> rfl
theorem parts_w (r : Row) : (rowParts r).map strD = (wRow r).map .str := by cases r <;> rfl
theorem parts_len (r : Row) : (rowParts r).length ≤ 4 := by cases r <;> exact Nat.le_of_ble_eq_true rfl
theorem parts_ok {r : Row} (h : NumOk r.n) : ∀ d ∈ rowParts r, (∃ s, d = .str s) ∨ ∃ n : Nat, d = .int (n : Nat) ∧ n ≤ 9999 := by
  cases r <;> intro d hd <;> simp only [rowParts, List.mem_cons, List.not_mem_nil, or_false] at hd
  · rcases hd with e | e | e <;> exact .inl ⟨_, e⟩
  · rcases hd with e | e | e <;> exact .inl ⟨_, e⟩
  · rcases hd with e | e | e | e
    · exact .inl ⟨_, e⟩
    · exact .inl ⟨_, e⟩
    · exact .inl ⟨_, e⟩
    · exact .inr ⟨_, e, h.lt⟩
  · rcases hd with e | e | e | e
    · exact .inl ⟨_, e⟩
    · exact .inl ⟨_, e⟩
    · exact .inl ⟨_, e⟩
    · exact .inr ⟨_, e, h.lt⟩
theorem ev_strD {K : PySem.W.Frag} {ds : D4} {te : TE} {d : PyData} (h : Ev K te ds d) (c : (∃ s, d = .str s) ∨ ∃ n : Nat, d = .int (n : Nat) ∧ n ≤ 9999) : Ev K (tCB gStr (tCons te tNil)) ds (strD d) := by
  rcases c with ⟨s, e⟩ | ⟨n, e, l⟩
  · subst e; exact ev_cb (ea_cons h ea_nil) cd_sS
  · subst e; exact ev_cb (ea_cons h ea_nil) (cd_sI (log_num l))
theorem w_len {r : Row} (h : NumOk r.n) (la : r.a.length ≤ 8) (lb : r.b.length ≤ 8) : ((wRow r).map (·.length)).sum + (wRow r).length * (" " : Str).length ≤ 40 := by
  have l1 : (" " : Str).length = 1 := by decide +kernel
  have l2 : ("above" : Str).length = 5 := by decide +kernel
  have l3 : ("same" : Str).length = 4 := by decide +kernel
  have l4 : ("least" : Str).length = 5 := by decide +kernel
  have l5 : ("most" : Str).length = 4 := by decide +kernel
  have ln := h.len
  cases r <;> simp only [Row.a, Row.b, Row.n] at la lb ln <;> simp only [wRow, List.map_cons, List.map_nil, List.sum_cons, List.sum_nil, List.length_cons, List.length_nil, l1, l2, l3, l4, l5] <;> omega
/-- ' '.join([str(part) for part in row]) -/
theorem ev_line {K : PySem.W.Frag} {ds : D4} {i j : Nat} {r : Row} (hr : ds.sl[i]? = some (.pu (eRow r))) (hj : ds.sl[j]?.isSome = true) (ok : NumOk r.n) (la : r.a.length ≤ 8) (lb : r.b.length ≤ 8) :
    Ev K (tM1 (rJoin K) (tC (.str " ")) (tLc (iSeq K (tVar i)) (gName j) tYes (tCB gStr (tCons (tVar j) tNil)) [j])) ds (.str (lRow r)) := by
  rw [eRow_parts] at hr
  refine ev_join ev_str ((lc1 (rowParts r) id strD ((eI_tup (ev_var hr)).r.is (List.map_id _).symm) (Nat.le_trans (parts_len r) (by decide)) (fun d hd => ev_strD (ev_var ?_) (parts_ok ok d hd)) hj).rl.is (parts_w r)) (Nat.le_trans (w_len ok la lb) (by decide))
  show ((wipeL ds.sl [j]).set j _)[j]? = _
  rw [List.getElem?_set_self]
  · rfl
  · rw [wipeL_length]; exact lt_of_some hj
def isStr : PyData → Bool
  | .str _ => true
  | _ => false
/-- [isinstance(part, str) for part in value[:3]] -/
theorem lcS {K : PySem.W.Frag} {ds : D4} {i j : Nat} {xs : List PyData} (h : ds.sl[i]? = some (.pu (.tuple xs))) (hj : ds.sl[j]?.isSome = true) (ok : ∀ d ∈ xs.take 3, isStr d = true) :
    EnL K (tLc (iSeq K (tSl (gSl K) (tVar i) tNoPart (tPart (tC (.int 3))))) (gName j) tYes (tCB (rIsi K) (tCons (tVar j) (tCons (tC (.ty "str")) tNil))) [j]) ds ((xs.take 3).map fun d => .bool (isStr d)) := by
  refine lc1 (xs.take 3) id (fun d => .bool (isStr d)) ((eI_tup (ev_slT (ev_var h) eo_none (eo_some ev_int))).r.is ?_) (by rw [List.length_take]; omega) (fun d hd => ?_) hj
  · rw [show (3 : Int) = ((3 : Nat) : Int) from rfl, cutD_to, List.map_id]
  · have e := ok d hd
    obtain ⟨s, rfl⟩ : ∃ s, d = .str s := by cases d <;> first | exact ⟨_, rfl⟩ | cases e
    refine ev_isiA (d := .str s) (ev_var ?_) rfl rfl
    show ((wipeL ds.sl [j]).set j _)[j]? = _
    rw [List.getElem?_set_self]
    · rfl
    · rw [wipeL_length]; exact lt_of_some hj
theorem eqv_row (r s : Row) : PyData.eqv (eRow r) (eRow s) = decide (r = s) := by
  have k1 : ¬ ("above" : Str) = "same" := by decide +kernel
  have k2 : ¬ ("above" : Str) = "least" := by decide +kernel
  have k3 : ¬ ("above" : Str) = "most" := by decide +kernel
  have k4 : ¬ ("same" : Str) = "least" := by decide +kernel
  have k5 : ¬ ("same" : Str) = "most" := by decide +kernel
  have k6 : ¬ ("least" : Str) = "most" := by decide +kernel
  cases r <;> cases s <;> simp [eRow, PyData.eqv, PyData.eqvAll, k1, k2, k3, k4, k5, k6, Ne.symm k1, Ne.symm k2, Ne.symm k3, Ne.symm k4, Ne.symm k5, Ne.symm k6, Bool.and_assoc] <;> first | rfl | (congr 1; congr 1; rw [Bool.eq_iff_iff]; simp; exact Int.ofNat_inj)
theorem any_row (r : Row) (rs : List Row) : ((rs.map eRow).any fun z => PyData.eqv z (eRow r)) = decide (r ∈ rs) := by
  induction rs with
  | nil => rfl
  | cons u us ih =>
    rw [List.map_cons, List.any_cons, ih, eqv_row]
    by_cases e : u = r
    · subst e; simp
    · have e' : ¬ r = u := fun z => e z.symm
      simp [e, e']
theorem can_row {r : Row} (ha : SOk r.a) (hb : SOk r.b) : (eRow r).canLay0 = true := by
  have k1 : SOk "above" := by decide +kernel
  have k2 : SOk "same" := by decide +kernel
  have k3 : SOk "least" := by decide +kernel
  have k4 : SOk "most" := by decide +kernel
  unfold SOk at *
  cases r <;> simp only [Row.a, Row.b] at ha hb <;> simp only [eRow, PyData.canLay0, PyData.canLayAll0] at * <;> simp [*]
theorem dep_row (r : Row) : (eRow r).depth = 1 := by cases r <;> rfl
theorem sh_row {r : Row} (ha : SOk r.a) (hb : SOk r.b) : SeqAt.shaped (eRow r) = true := by
  unfold SeqAt.shaped
  rw [can_row ha hb, dep_row]; rfl
theorem sh_rowsL {rs : List Row} (h : ∀ r ∈ rs, SOk r.a ∧ SOk r.b) : SeqAt.shaped (.list (rs.map eRow)) = true := by
  have c : ∀ {rs : List Row}, (∀ r ∈ rs, SOk r.a ∧ SOk r.b) → PyData.canLayAll0 (rs.map eRow) = true := by
    intro rs
    induction rs with
    | nil => intro _; rfl
    | cons r rs ih =>
      intro h
      show ((eRow r).canLay0 && PyData.canLayAll0 (rs.map eRow)) = true
      rw [can_row (h r List.mem_cons_self).1 (h r List.mem_cons_self).2, ih fun s hs => h s (List.mem_cons_of_mem _ hs)]; rfl
  have d : ∀ rs : List Row, PyData.depthAll (rs.map eRow) ≤ 1 := by
    intro rs
    induction rs with
    | nil => exact Nat.zero_le _
    | cons r rs ih =>
      show max (eRow r).depth (PyData.depthAll (rs.map eRow)) ≤ 1
      rw [dep_row]; omega
  show (PyData.canLayAll0 (rs.map eRow) && decide (PyData.depthAll (rs.map eRow) + 1 ≤ 64)) = true
  rw [c h, decide_eq_true (by have := d rs; omega)]; rfl
/-- no blank in a word of a line, no line feed in a line -/
theorem nm_sign {x : Str} (h : IsNm x) {c : Nat} (hc : c ∈ x.cps.toList) : c ≠ 32 ∧ c ≠ 10 := by
  have k1 : ∀ c ∈ letters.cps.toList, c ≠ 32 ∧ c ≠ 10 := by decide +kernel
  have k2 : ∀ c ∈ figures.cps.toList, c ≠ 32 ∧ c ≠ 10 := by decide +kernel
  exact (h.all c hc).elim (k1 c) (k2 c)
theorem num_sign {n : Nat} (h : NumOk n) {c : Nat} (hc : c ∈ (nTx n).cps.toList) : c ≠ 32 ∧ c ≠ 10 := by
  have k2 : ∀ c ∈ figures.cps.toList, c ≠ 32 ∧ c ≠ 10 := by decide +kernel
  exact k2 c (h.all c hc)
theorem w_sign {r : Row} (ha : IsNm r.a) (hb : IsNm r.b) (ok : NumOk r.n) : ∀ w ∈ wRow r, ∀ c ∈ w.cps.toList, c ≠ 32 ∧ c ≠ 10 := by
  have k1 : ∀ c ∈ ("above" : Str).cps.toList, c ≠ 32 ∧ c ≠ 10 := by decide +kernel
  have k2 : ∀ c ∈ ("same" : Str).cps.toList, c ≠ 32 ∧ c ≠ 10 := by decide +kernel
  have k3 : ∀ c ∈ ("least" : Str).cps.toList, c ≠ 32 ∧ c ≠ 10 := by decide +kernel
  have k4 : ∀ c ∈ ("most" : Str).cps.toList, c ≠ 32 ∧ c ≠ 10 := by decide +kernel
  cases r <;> simp only [Row.a, Row.b, Row.n] at ha hb ok <;> intro w hw <;> simp only [wRow, List.mem_cons, List.not_mem_nil, or_false] at hw
  · rcases hw with e | e | e <;> subst e
    · exact k1
    · exact fun c hc => nm_sign ha hc
    · exact fun c hc => nm_sign hb hc
  · rcases hw with e | e | e <;> subst e
    · exact k2
    · exact fun c hc => nm_sign ha hc
    · exact fun c hc => nm_sign hb hc
  · rcases hw with e | e | e | e <;> subst e
    · exact k3
    · exact fun c hc => nm_sign ha hc
    · exact fun c hc => nm_sign hb hc
    · exact fun c hc => num_sign ok hc
  · rcases hw with e | e | e | e <;> subst e
    · exact k4
    · exact fun c hc => nm_sign ha hc
    · exact fun c hc => nm_sign hb hc
    · exact fun c hc => num_sign ok hc
theorem split_w {ws : List Str} (ne : ws ≠ []) (h : ∀ w ∈ ws, ∀ c ∈ w.cps.toList, c ≠ 32 ∧ c ≠ 10) : Txt.split (Txt.join " " ws) " " = ws :=
  TL.split_join (y := (" " : Str)) (s := 32) (S := []) (by decide +kernel) (by decide +kernel) ne fun w hw c => (h w hw 32 c).1 rfl
theorem split_row {r : Row} (ha : IsNm r.a) (hb : IsNm r.b) (ok : NumOk r.n) : Txt.split (lRow r) " " = wRow r := split_w (by cases r <;> exact fun e => nomatch e) (w_sign ha hb ok)
theorem u_sign {u : Str} (h : IsNm u) : ∀ w ∈ [("unit" : Str), u], ∀ c ∈ w.cps.toList, c ≠ 32 ∧ c ≠ 10 := by
  have k1 : ∀ c ∈ ("unit" : Str).cps.toList, c ≠ 32 ∧ c ≠ 10 := by decide +kernel
  intro w hw
  simp only [List.mem_cons, List.not_mem_nil, or_false] at hw
  rcases hw with e | e <;> subst e
  · exact k1
  · exact fun c hc => nm_sign h hc
theorem split_unit {u : Str} (h : IsNm u) : Txt.split (lUnit u) " " = [("unit" : Str), u] := split_w (fun e => nomatch e) (u_sign h)
theorem mem_join {y : Str} {c : Nat} : ∀ {ws : List Str}, c ∈ (Txt.join y ws).cps.toList → c ∈ y.cps.toList ∨ ∃ w ∈ ws, c ∈ w.cps.toList := by
  intro ws
  rw [TL.join_eq]
  induction ws with
  | nil => intro h; exact absurd (show c ∈ ([] : List Nat) from h) (fun z => nomatch z)
  | cons w ws ih =>
    cases ws with
    | nil => exact fun h => .inr ⟨w, List.mem_cons_self, h⟩
    | cons v vs =>
      intro h
      have e : TL.tl (Str.join y (w :: v :: vs)) = TL.tl w ++ (TL.tl y ++ TL.tl (Str.join y (v :: vs))) := by
        show TL.tl (w ++ y ++ Str.join y (v :: vs)) = _
        rw [TL.tl_append, TL.tl_append, List.append_assoc]
      have h' : c ∈ TL.tl (Str.join y (w :: v :: vs)) := h
      rw [e] at h'
      rcases List.mem_append.mp h' with z | z
      · exact .inr ⟨w, List.mem_cons_self, z⟩
      · rcases List.mem_append.mp z with z | z
        · exact .inl z
        · rcases ih z with q | ⟨x, hx, q⟩
          · exact .inl q
          · exact .inr ⟨x, List.mem_cons_of_mem _ hx, q⟩
theorem DigOk.line10 {g : DigD} (h : DigOk g) : ∀ l ∈ g.lines, 10 ∉ l.cps.toList := by
  have b : ∀ c ∈ (" " : Str).cps.toList, c ≠ 10 := by decide +kernel
  intro l hl hc
  unfold DigD.lines at hl
  rcases List.mem_append.mp hl with m | m
  · obtain ⟨u, hu, rfl⟩ := List.mem_map.mp m
    rcases mem_join hc with z | ⟨w, hw, z⟩
    · exact b _ z rfl
    · exact (u_sign (h.nm u hu) w hw _ z).2 rfl
  · obtain ⟨r, hr, rfl⟩ := List.mem_map.mp m
    have ok := h.ok r hr
    rcases mem_join hc with z | ⟨w, hw, z⟩
    · exact b _ z rfl
    · exact (w_sign (h.nm _ ok.ia) (h.nm _ ok.ib) ok.num w hw _ z).2 rfl
theorem DigOk.split {g : DigD} (h : DigOk g) : Txt.split g.text "\n" = g.lines :=
  TL.split_join (y := ("\n" : Str)) (s := 10) (S := []) (by decide +kernel) (by decide +kernel) (by have := h.pos; unfold DigD.lines; intro e; rw [List.append_eq_nil_iff, List.map_eq_nil_iff] at e; rw [e.1] at this; simp at this) h.line10
/-! its promises -/
def rIsInteger : List PyData → PyData → Prop := R1 fun a d => (∃ i, a = .int i) ∧ d = .bool true
def rIsBetween : List PyData → PyData → Prop := R3' fun a b c d => ∃ i j k, a = .int i ∧ b = .int j ∧ c = .int k ∧ d = .bool (decide (j ≤ i) && decide (i ≤ k))
def rIsName : List PyData → PyData → Prop := R1 fun a d => ∃ s, a = .str s ∧ IsNm s ∧ d = .bool true
def rReadInteger : List PyData → PyData → Prop := R1 fun a d => ∃ n, NumOk n ∧ a = .str (nTx n) ∧ d = .int (n : Nat)
def ascI (ns : List Int) : Bool := (ns.zip (ns.drop 1)).all fun p => decide (p.1 < p.2)
def rIsAscI : List PyData → PyData → Prop := R1 fun a d => ∃ ns : List Int, a = .tuple (ns.map .int) ∧ ns.length ≤ 1000 ∧ d = .bool (ascI ns)
def rHasRowForm : List PyData → PyData → Prop := R2' fun a b d => ∃ (k : Kd) (us : List Str) (r : Row), a = k.D (us.map .str) ∧ us.length ≤ 1000 ∧ RowOk us r ∧ (∀ u ∈ us, SOk u) ∧ b = eRow r ∧ d = .bool true
def rRowLine : List PyData → PyData → Prop := R1 fun a d => ∃ r, NumOk r.n ∧ r.a.length ≤ 8 ∧ r.b.length ≤ 8 ∧ a = eRow r ∧ d = .str (lRow r)
def rRowOf : List PyData → PyData → Prop := R1 fun a d => ∃ r, NumOk r.n ∧ a = .list ((wRow r).map .str) ∧ d = eRow r
def rStepsOf : List PyData → PyData → Prop := R1 fun a d => ∃ r, a = eRow r ∧ d = .tuple ((stepsR r).map eSt)
def rPropUnits (C : Addr) : List PyData → PyData → Prop := R1 fun a d => ∃ g, a = eDig C g ∧ d = eTx g.units
def rPropRows (C : Addr) : List PyData → PyData → Prop := R1 fun a d => ∃ g, a = eDig C g ∧ d = .tuple (g.rows.map eRow)
def rCheckDig (C : Addr) : List PyData → PyData → Prop := R1 fun a d => ∃ g, a = eDig C g ∧ d = .none
/-! the reader -/
def rdO (C : Addr) (us : List Str) (rs : List Row) : List Ob := [.ins C [("own_units", .lo 1), ("own_rows", .lo 2)], .lst (us.map .str), .lst (rs.map eRow)]
def rPreInit (xs : List PyData) : Prop := xs = []
def rPoInit (C : Addr) (xs : List PyData) (os : List Ob) : Prop := os = rdO C [] []
/-- a line is taken -/
inductive Takes : Str → List Str → List Row → List Str → List Row → Prop
  | unit {u : Str} {us : List Str} (nm : IsNm u) (nms : ∀ v ∈ us, IsNm v) (nu : u ∉ us) (le : us.length < 40) : Takes (lUnit u) us [] (us ++ [u]) []
  | row {r : Row} {us : List Str} {rs : List Row} (nm : ∀ u ∈ us, IsNm u) (ul : us.length ≤ 40) (ok : RowOk us r) (oks : ∀ s ∈ rs, RowOk us s) (nr : r ∉ rs) (le : rs.length < 200) : Takes (lRow r) us rs us (rs ++ [r])
structure TkI where
  line : Str
  us : List Str
  rs : List Row
  us' : List Str
  rs' : List Row
  h : Takes line us rs us' rs'
def tkX (i : TkI) : List Sl := [.lo 0, .pu (.str i.line)]
def tkZ (C : Addr) (i : TkI) : List Ob := rdO C i.us i.rs
def tkPo (C : Addr) (i : TkI) (r : Rs) (st' : List Ob) : Prop := r = .pu (.bool true) ∧ st' = rdO C i.us' i.rs'
structure TuI where
  u : Str
  us : List Str
  nm : IsNm u
  nms : ∀ v ∈ us, IsNm v
  nu : u ∉ us
  le : us.length < 40
def tuX (i : TuI) : List Sl := [.lo 0, .pu (.list [.str "unit", .str i.u])]
def tuZ (C : Addr) (i : TuI) : List Ob := rdO C i.us []
def tuPo (C : Addr) (i : TuI) (r : Rs) (st' : List Ob) : Prop := r = .pu (.bool true) ∧ st' = rdO C (i.us ++ [i.u]) []
theorem rPreInit.len {xs : List PyData} (h : rPreInit xs) : xs.length + 1 = ["self"].length := by cases h; rfl
def rFound (C : Addr) : List PyData → PyData → Prop := R1 fun a d => ∃ us rs, a = inD C [("own_units", .list us), ("own_rows", .list rs)] ∧ d = .tuple [.tuple us, .tuple rs]
/-- Dig(text) -/
structure DgI where
  g : DigD
  ok : DigOk g
def dgX (i : DgI) : List Sl := [.lo 0, .pu (.str i.g.text)]
def dgZ (C : Addr) (_ : DgI) : List Ob := [.ins C []]
def dgPo (C : Addr) (i : DgI) (r : Rs) (st' : List Ob) : Prop := r = .pu .none ∧ st' = [.ins C ((digF i.g).map fun p => (p.1, Fv.pu p.2))]
theorem rd_live {C : Addr} {us : List Str} {rs : List Row} : ∀ o ∈ rdO C us rs, o.live = true ∧ below 3 o = true := fun o ho => by
  simp only [rdO, List.mem_cons, List.not_mem_nil, or_false] at ho
  rcases ho with e | e | e <;> subst e <;> exact ⟨rfl, rfl⟩
theorem join_len (y : Str) : ∀ ws : List Str, (Txt.join y ws).length ≤ (ws.map (·.length)).sum + ws.length * y.length := by
  intro ws
  rw [TL.join_eq]
  have len : ∀ x : Str, x.length = (TL.tl x).length := fun x => by show x.cps.size = x.cps.toList.length; rw [Array.length_toList]
  induction ws with
  | nil => exact Nat.zero_le _
  | cons w ws ih =>
    cases ws with
    | nil => show w.length ≤ _; rw [List.map_cons, List.sum_cons]; omega
    | cons v vs =>
      have e : TL.tl (Str.join y (w :: v :: vs)) = TL.tl w ++ (TL.tl y ++ TL.tl (Str.join y (v :: vs))) := by
        show TL.tl (w ++ y ++ Str.join y (v :: vs)) = _
        rw [TL.tl_append, TL.tl_append, List.append_assoc]
      rw [len, e, List.length_append, List.length_append, ← len, ← len, ← len, List.map_cons, List.sum_cons, List.length_cons, Nat.succ_mul]
      omega
theorem lu_len {u : Str} (h : IsNm u) : (lUnit u).length + 2 ≤ 100 := by
  have l1 : (" " : Str).length = 1 := by decide +kernel
  have l2 : ("unit" : Str).length = 4 := by decide +kernel
  have := join_len " " [("unit" : Str), u]
  have := h.le
  unfold lUnit
  simp only [List.map_cons, List.map_nil, List.sum_cons, List.sum_nil, List.length_cons, List.length_nil, l1, l2] at *
  omega
theorem lr_len {r : Row} (h : NumOk r.n) (la : r.a.length ≤ 8) (lb : r.b.length ≤ 8) : (lRow r).length + 2 ≤ 100 := by
  have := join_len " " (wRow r)
  have := w_len h la lb
  unfold lRow
  omega
theorem sum_le {α : Type} {f : α → Nat} {n : Nat} : ∀ {l : List α}, (∀ x ∈ l, f x ≤ n) → (l.map f).sum ≤ l.length * n
  | [], _ => Nat.zero_le _
  | x :: l, h => by
    rw [List.map_cons, List.sum_cons, List.length_cons, Nat.succ_mul]
    have := h x List.mem_cons_self
    have := sum_le (f := f) (n := n) (l := l) fun y hy => h y (List.mem_cons_of_mem _ hy)
    omega
theorem DigOk.lines_le {g : DigD} (h : DigOk g) : g.lines.length ≤ 240 := by
  have := h.le
  have := h.rle
  unfold DigD.lines
  rw [List.length_append, List.length_map, List.length_map]
  omega
theorem DigOk.lines_sum {g : DigD} (h : DigOk g) : (g.lines.map (·.length)).sum + g.lines.length * ("\n" : Str).length ≤ 24480 := by
  have l1 : ("\n" : Str).length = 1 := by decide +kernel
  have ll := h.lines_le
  have : (g.lines.map (·.length)).sum ≤ g.lines.length * 100 := sum_le fun x hx => by
    unfold DigD.lines at hx
    rcases List.mem_append.mp hx with m | m
    · obtain ⟨u, hu, rfl⟩ := List.mem_map.mp m
      have := lu_len (h.nm u hu)
      omega
    · obtain ⟨r, hr, rfl⟩ := List.mem_map.mp m
      have ok := h.ok r hr
      have := lr_len ok.num (h.nm _ ok.ia).le (h.nm _ ok.ib).le
      omega
  rw [l1]
  omega
theorem DigOk.text_le {g : DigD} (h : DigOk g) : g.text.length + 2 ≤ 24500 := by
  have := join_len "\n" g.lines
  have := h.lines_sum
  unfold DigD.text
  omega
/-- the lines are taken one behind the other -/
theorem DigOk.takes {g : DigD} (h : DigOk g) {i : Nat} {l : Str} (hl : g.lines[i]? = some l) : Takes l (g.units.take i) (g.rows.take (i - g.units.length)) (g.units.take (i + 1)) (g.rows.take (i + 1 - g.units.length)) := by
  unfold DigD.lines at hl
  rcases app_get hl with ⟨l1, hl⟩ | ⟨l1, hl⟩
  · rw [List.length_map] at l1
    rw [List.getElem?_map] at hl
    obtain ⟨u, hu, rfl⟩ := Option.map_eq_some_iff.mp hl
    have e : g.units.take (i + 1) = g.units.take i ++ [u] := by rw [List.take_add_one, hu]; rfl
    have hm := List.mem_of_getElem? hu
    have e1 : i - g.units.length = 0 := by omega
    have e2 : i + 1 - g.units.length = 0 := by omega
    rw [e, e1, e2, List.take_zero]
    refine .unit (h.nm u hm) (fun v hv => h.nm v (List.mem_of_mem_take hv)) (fun hu' => ?_) (by rw [List.length_take]; have := h.le; omega)
    obtain ⟨j, hj⟩ := List.getElem?_of_mem hu'
    have jl : j < i := by have := (List.getElem?_eq_some_iff.mp hj).1; rw [List.length_take] at this; omega
    rw [List.getElem?_take_of_lt jl] at hj
    have := nodup_get h.nd hj hu
    omega
  · rw [List.length_map] at l1 hl
    rw [List.getElem?_map] at hl
    obtain ⟨r, hr, rfl⟩ := Option.map_eq_some_iff.mp hl
    have e1 : g.units.take i = g.units := List.take_of_length_le l1
    have e2 : g.units.take (i + 1) = g.units := List.take_of_length_le (by omega)
    have e3 : i + 1 - g.units.length = i - g.units.length + 1 := by omega
    have e : g.rows.take (i - g.units.length + 1) = g.rows.take (i - g.units.length) ++ [r] := by rw [List.take_add_one, hr]; rfl
    have hm := List.mem_of_getElem? hr
    rw [e1, e2, e3, e]
    refine .row h.nm h.le (h.ok r hm) (fun s hs => h.ok s (List.mem_of_mem_take hs)) (fun hr' => ?_) (by rw [List.length_take]; have := h.rle; have := (List.getElem?_eq_some_iff.mp hr).1; omega)
    obtain ⟨j, hj⟩ := List.getElem?_of_mem hr'
    have jl : j < i - g.units.length := by have := (List.getElem?_eq_some_iff.mp hj).1; rw [List.length_take] at this; omega
    rw [List.getElem?_take_of_lt jl] at hj
    have := nodup_get h.rnd hj hr
    omega
def wd0 : Row → Str
  | .ab _ _ => "above"
  | .sa _ _ => "same"
  | .le _ _ _ => "least"
  | .mo _ _ _ => "most"
theorem w0 (r : Row) : atI ((wRow r).map PyData.str) 0 = some (PyData.str (wd0 r)) := by cases r <;> rfl
theorem wd0_ne (r : Row) : wd0 r ≠ "unit" := by
  cases r
  · show ("above" : Str) ≠ "unit"; decide +kernel
  · show ("same" : Str) ≠ "unit"; decide +kernel
  · show ("least" : Str) ≠ "unit"; decide +kernel
  · show ("most" : Str) ≠ "unit"; decide +kernel
theorem wd0_ok (r : Row) : SOk (wd0 r) := by
  cases r
  · show SOk "above"; decide +kernel
  · show SOk "same"; decide +kernel
  · show SOk "least"; decide +kernel
  · show SOk "most"; decide +kernel
end L4
end

section
set_option Elab.async false
set_option linter.all false
set_option maxRecDepth 100000
set_option autoImplicit false
/-! Years that are told wrongly: what the defs compute. -/
namespace L4
open PySem L2
section
variable {α : Type} {g : Gr α} {ps : List α}
/-! back around -/
def seekF (g : Gr α) (ah : Str → Option α) : Nat → List Str → Str → Str
  | 0, _, h => h
  | n + 1, seen, h => if h ∈ seen then h else match ah h with
    | some p => seekF g ah n (seen ++ [h]) (g.src p)
    | none => h
def cycF (g : Gr α) (ah : Str → Option α) (here : Str) : Nat → List α → Str → List α
  | 0, found, _ => found
  | n + 1, found, there => if there = here then found else match ah there with
    | some p => cycF g ah here n (found ++ [p]) (g.src p)
    | none => found
def backF (g : Gr α) (ah : Str → Option α) (n : Nat) (u : Str) : List α :=
  match ah (seekF g ah n [] u) with
  | some p => (cycF g ah (seekF g ah n [] u) n [p] (g.src p)).reverse
  | none => []
theorem it_one {ah : Str → Option α} {v : Str} {p : α} (h : ah v = some p) (k : Nat) : itN g ah (k + 1) v = itN g ah k (g.src p) := by
  show (match ah v with | some p => itN g ah k (g.src p) | none => none) = _
  rw [h]
/-- what is known while one seeks -/
structure Seek (g : Gr α) (ah : Str → Option α) (S seen : List Str) (here : Str) : Prop where
  nd : seen.Nodup
  sub : ∀ v ∈ seen, v ∈ S
  hS : here ∈ S
  bk : ∀ v ∈ seen, ∃ k, 1 ≤ k ∧ k ≤ seen.length ∧ itN g ah k v = some here
theorem Seek.start {ah : Str → Option α} {S : List Str} {u : Str} (h : u ∈ S) : Seek g ah S [] u := ⟨List.nodup_nil, fun _ h => (nomatch h), h, fun _ h => (nomatch h)⟩
theorem Seek.next {ah : Str → Option α} {S seen : List Str} {here : Str} (h : Seek g ah S seen here) (n : here ∉ seen) {p : α} (hp : ah here = some p) (hs : g.src p ∈ S) : Seek g ah S (seen ++ [here]) (g.src p) := by
  refine ⟨?_, fun v hv => ?_, hs, fun v hv => ?_⟩
  · rw [List.nodup_append]
    exact ⟨h.nd, by simp, fun a ha b hb e => n (by rw [List.mem_singleton.mp hb] at e; rw [← e]; exact ha)⟩
  · rcases List.mem_append.mp hv with m | m
    · exact h.sub v m
    · rw [List.mem_singleton.mp m]; exact h.hS
  · have one : itN g ah 1 here = some (g.src p) := by rw [it_one hp]; rfl
    rw [List.length_append]
    rcases List.mem_append.mp hv with m | m
    · obtain ⟨k, k1, k2, e⟩ := h.bk v m
      exact ⟨k + 1, by omega, Nat.succ_le_succ k2, by rw [itN_add, e]; exact one⟩
    · rw [List.mem_singleton.mp m]
      exact ⟨1, Nat.le_refl _, Nat.le_add_left _ _, one⟩
theorem Seek.lt {ah : Str → Option α} {S seen : List Str} {here : Str} (h : Seek g ah S seen here) (n : here ∉ seen) : seen.length < S.length := by
  have := sub_len (l := here :: seen) (m := S) (List.nodup_cons.mpr ⟨n, h.nd⟩) fun x hx => (List.mem_cons.mp hx).elim (fun e => by rw [e]; exact h.hS) (h.sub x)
  rw [List.length_cons] at this
  omega
theorem seek_step {ah : Str → Option α} {n : Nat} {seen : List Str} {here : Str} {p : α} (h : here ∉ seen) (hp : ah here = some p) : seekF g ah (n + 1) seen here = seekF g ah n (seen ++ [here]) (g.src p) := by
  show (if here ∈ seen then here else match ah here with | some p => seekF g ah n (seen ++ [here]) (g.src p) | none => here) = _
  rw [if_neg h, hp]
theorem seek_end {ah : Str → Option α} {n : Nat} {seen : List Str} {here : Str} (h : here ∈ seen) : seekF g ah n seen here = here := by
  cases n with
  | zero => rfl
  | succ n => exact if_pos h
theorem seek_ok {ah : Str → Option α} {S : List Str} (c : Clo g ah S) : ∀ (n : Nat) (seen : List Str) (here : Str), Seek g ah S seen here → S.length + 1 ≤ n + seen.length → seekF g ah n seen here ∈ S ∧ ∃ k, 1 ≤ k ∧ k ≤ S.length ∧ itN g ah k (seekF g ah n seen here) = some (seekF g ah n seen here)
  | 0, seen, here, h, hn => by
    have := sub_len h.nd h.sub
    omega
  | n + 1, seen, here, h, hn => by
    by_cases m : here ∈ seen
    · rw [seek_end m]
      obtain ⟨k, k1, k2, e⟩ := h.bk here m
      exact ⟨h.hS, k, k1, Nat.le_trans k2 (sub_len h.nd h.sub), e⟩
    · obtain ⟨p, hp, hs⟩ := c.go here h.hS
      rw [seek_step m hp]
      exact seek_ok c n _ _ (h.next m hp hs) (by rw [List.length_append, List.length_singleton]; omega)
theorem cyc_end {ah : Str → Option α} {here : Str} {n : Nat} {found : List α} : cycF g ah here n found here = found := by
  cases n with
  | zero => rfl
  | succ n => exact if_pos rfl
theorem cyc_step {ah : Str → Option α} {here there : Str} {n : Nat} {found : List α} {p : α} (h : there ≠ here) (hp : ah there = some p) : cycF g ah here (n + 1) found there = cycF g ah here n (found ++ [p]) (g.src p) := by
  show (if there = here then found else match ah there with | some p => cycF g ah here n (found ++ [p]) (g.src p) | none => found) = _
  rw [if_neg h, hp]
theorem it_some {ah : Str → Option α} {k : Nat} {v u : Str} (h : itN g ah (k + 1) v = some u) : ∃ p, ah v = some p ∧ itN g ah k (g.src p) = some u := by
  have h' : (match ah v with | some p => itN g ah k (g.src p) | none => none) = some u := h
  cases q : ah v with
  | none => rw [q] at h'; cases h'
  | some p => rw [q] at h'; exact ⟨p, rfl, h'⟩
theorem cyc_more {ah : Str → Option α} {here : Str} : ∀ (k n : Nat) (found : List α) (there : Str), itN g ah k there = some here → k ≤ n → cycF g ah here n found there = cycF g ah here k found there
  | 0, n, found, there, h, _ => by
    have e : there = here := Option.some.inj h
    subst e
    rw [cyc_end]; rfl
  | k + 1, n, found, there, h, hn => by
    by_cases e : there = here
    · subst e; rw [cyc_end, cyc_end]
    · obtain ⟨p, hp, h'⟩ := it_some h
      obtain ⟨n', rfl⟩ : ∃ n', n = n' + 1 := ⟨n - 1, by omega⟩
      rw [cyc_step e hp, cyc_step e hp]
      exact cyc_more k n' _ _ h' (by omega)
theorem cyc_ok {ah : Str → Option α} {here : Str} : ∀ (k : Nat) (found : List α) (there : Str), itN g ah k there = some here → ∃ l, cycF g ah here k found there = found ++ l ∧ Pth g ah there l here ∧ l.length ≤ k
  | 0, found, there, h => ⟨[], by rw [List.append_nil]; rfl, by have e : there = here := Option.some.inj h; subst e; exact .nil _, Nat.le_refl _⟩
  | k + 1, found, there, h => by
    by_cases e : there = here
    · subst e; exact ⟨[], by rw [cyc_end, List.append_nil], .nil _, Nat.zero_le _⟩
    · obtain ⟨p, hp, h'⟩ := it_some h
      obtain ⟨l, e1, w, hl⟩ := cyc_ok k (found ++ [p]) (g.src p) h'
      exact ⟨p :: l, by rw [cyc_step e hp, e1, List.append_assoc]; rfl, .cons hp w, Nat.succ_le_succ hl⟩
theorem back_ok {ah : Str → Option α} {S : List Str} (c : Clo g ah S) {n : Nat} {u : Str} (hu : u ∈ S) (hn : S.length + 1 ≤ n) : ∃ h l, backF g ah n u = l.reverse ∧ l ≠ [] ∧ Pth g ah h l h ∧ l.length ≤ S.length := by
  obtain ⟨h1, k, k1, k2, e⟩ := seek_ok c n [] u (.start hu) (by simpa using hn)
  obtain ⟨k', rfl⟩ : ∃ k', k = k' + 1 := ⟨k - 1, by omega⟩
  obtain ⟨p, hp, e'⟩ := it_some e
  obtain ⟨l, e1, w, hl⟩ := cyc_ok k' [p] (g.src p) e'
  refine ⟨_, p :: l, ?_, (fun z => nomatch z), .cons hp w, by rw [List.length_cons]; omega⟩
  unfold backF
  rw [hp]
  show (cycF g ah (seekF g ah n [] u) n [p] (g.src p)).reverse = _
  rw [cyc_more k' n [p] (g.src p) e' (by omega), e1]
  rfl
/-! raised -/
def runL (g : Gr α) (ps : List α) : Nat → Nat → Sum (Str → Int) (Lf α)
  | 0, k => .inr (lapN g ps k)
  | n + 1, k => if (lapN g ps (k + 1)).last.isNone = true then .inl (lapN g ps (k + 1)).far else runL g ps n (k + 1)
def raisedF (g : Gr α) (us : List Str) (ps : List α) : Sum (Str → Int) (List α) :=
  match runL g ps (us.length + 1) 0 with
  | .inl f => .inl f
  | .inr b => .inr (backF g b.ahead (us.length + 1) (b.last.getD ""))
def FitG (g : Gr α) (ps : List α) (y : Str → Int) : Prop := ∀ p ∈ ps, y (g.src p) + g.wt p ≤ y (g.dst p)
def FeasG (g : Gr α) (ps : List α) : Prop := ∃ y, FitG g ps y
theorem pth_le {ah : Str → Option α} {y : Str → Int} (h : ∀ v p, ah v = some p → p ∈ ps ∧ g.dst p = v) (hy : FitG g ps y) {v u : Str} {l : List α} (w : Pth g ah v l u) : y u + sumG g l ≤ y v := by
  induction w with
  | nil v => unfold sumG; simp
  | cons e _ ih =>
    rw [sumG_cons]
    obtain ⟨h1, h2⟩ := h _ _ e
    have := hy _ h1
    rw [h2] at this
    omega
theorem pth_wt (wt : α → Int) {ah : Str → Option α} {v u : Str} {l : List α} (w : Pth g ah v l u) : Pth ⟨g.src, g.dst, wt⟩ ah v l u := by
  induction w with
  | nil v => exact .nil v
  | cons e _ ih => exact .cons e ih
theorem pth_mem {ah : Str → Option α} (h : ∀ v p, ah v = some p → p ∈ ps ∧ g.dst p = v) {v u : Str} {l : List α} (w : Pth g ah v l u) : ∀ p ∈ l, p ∈ ps := by
  induction w with
  | nil v => exact fun p hp => nomatch hp
  | cons e _ ih => exact fun p hp => (List.mem_cons.mp hp).elim (fun z => by rw [z]; exact (h _ _ e).1) (ih p)
/-- a round that weighs more than nothing: closed, its steps among these -/
structure Round (g : Gr α) (ps c : List α) (n : Nat) : Prop where
  ne : c ≠ []
  mem : ∀ p ∈ c, p ∈ ps
  le : c.length ≤ n
  no : ∀ (wt : α → Int), (∃ y : Str → Int, ∀ p ∈ ps, y (g.src p) + wt p ≤ y (g.dst p)) → (c.map wt).sum ≤ 0
theorem sum_rev (f : α → Int) (l : List α) : (l.reverse.map f).sum = (l.map f).sum := by
  induction l with
  | nil => rfl
  | cons x l ih => rw [List.reverse_cons, List.map_append, List.sum_append, ih, List.map_cons, List.sum_cons]; simp; omega
theorem run_inl {n : Nat} : ∀ {k : Nat} {f : Str → Int}, runL g ps n k = .inl f → ∃ j, (lapN g ps (j + 1)).last = none ∧ f = (lapN g ps (j + 1)).far := by
  induction n with
  | zero => intro k f h; cases h
  | succ n ih =>
    intro k f h
    unfold runL at h
    split at h
    · rename_i c
      cases h
      exact ⟨k, Option.isNone_iff_eq_none.mp c, rfl⟩
    · exact ih h
theorem run_inr {n : Nat} : ∀ {k : Nat} {b : Lf α}, runL g ps n k = .inr b → b = lapN g ps (k + n) ∧ (1 ≤ n → (lapN g ps (k + n)).last ≠ none) := by
  induction n with
  | zero => intro k b h; cases h; exact ⟨rfl, fun z => by omega⟩
  | succ n ih =>
    intro k b h
    unfold runL at h
    split at h
    · cases h
    · rename_i c
      obtain ⟨h1, h2⟩ := ih h
      rw [show k + 1 + n = k + (n + 1) by omega] at h1 h2
      refine ⟨h1, fun _ => ?_⟩
      by_cases z : 1 ≤ n
      · exact h2 z
      · obtain rfl : n = 0 := by omega
        exact fun e => c (Option.isNone_iff_eq_none.mpr e)
theorem raised_inl {us : List Str} {f : Str → Int} (h : raisedF g us ps = .inl f) : FitG g ps f := by
  unfold raisedF at h
  cases q : runL g ps (us.length + 1) 0 with
  | inr b => rw [q] at h; cases h
  | inl f' =>
    rw [q] at h
    cases h
    obtain ⟨j, e, rfl⟩ := run_inl q
    obtain ⟨h1, h2⟩ := lap_fits (g := g) (ps := ps) (b := lapN g ps j) e
    have h1' : (lapN g ps (j + 1)).far = (lapN g ps j).far := h1
    rw [h1']
    exact h2
theorem raised_inr {us : List Str} {c : List α} (hs : ∀ p ∈ ps, g.src p ∈ us ∧ g.dst p ∈ us) (h : raisedF g us ps = .inr c) : Round g ps c us.length ∧ 0 < sumG g c := by
  unfold raisedF at h
  cases q : runL g ps (us.length + 1) 0 with
  | inl f => rw [q] at h; cases h
  | inr b =>
    rw [q] at h
    cases h
    obtain ⟨rfl, h2⟩ := run_inr q
    rw [Nat.zero_add] at *
    obtain ⟨v, hv⟩ := Option.ne_none_iff_exists'.mp (h2 (by omega))
    obtain ⟨a1, a2, S, cl, vS, sl, _⟩ := lap_ring hs (by omega) hv
    rw [hv]
    obtain ⟨h', l, e, ne, w, hl⟩ := back_ok cl vS (n := us.length + 1) (by omega)
    show Round g ps (backF g _ (us.length + 1) v) us.length ∧ 0 < sumG g (backF g _ (us.length + 1) v)
    rw [e]
    refine ⟨⟨fun z => ne (List.reverse_eq_nil_iff.mp z), fun p hp => pth_mem a1 w p (List.mem_reverse.mp hp), by rw [List.length_reverse]; omega, fun wt ⟨y, hy⟩ => ?_⟩, ?_⟩
    · rw [sum_rev]
      have w' := pth_wt wt w
      have := pth_le (g := ⟨g.src, g.dst, wt⟩) (ps := ps) a1 hy w'
      have e2 : sumG ⟨g.src, g.dst, wt⟩ l = (l.map wt).sum := rfl
      omega
    · have : sumG g l.reverse = sumG g l := sum_rev _ _
      rw [this]
      exact a2 _ _ w ne
/-- it settles whether there are such years -/
theorem raised_iff {us : List Str} (hs : ∀ p ∈ ps, g.src p ∈ us ∧ g.dst p ∈ us) : FeasG g ps ↔ ∃ f, raisedF g us ps = .inl f := by
  constructor
  · intro h
    cases q : raisedF g us ps with
    | inl f => exact ⟨f, rfl⟩
    | inr c =>
      obtain ⟨r, p⟩ := raised_inr hs q
      have := r.no g.wt h
      have e : sumG g c = (c.map g.wt).sum := rfl
      omega
  · rintro ⟨f, h⟩
    exact ⟨f, raised_inl h⟩
end
end L4
end

section
set_option Elab.async false
set_option linter.all false
set_option maxRecDepth 100000
set_option autoImplicit false
/-! The greatest share. -/
namespace L4
open PySem L2
def gT (wt : Td → Int) : Gr Td := ⟨fun t => t.2.1, fun t => t.2.2.1, wt⟩
def wtF (db : List Nat) (top low : Nat) (t : Td) : Int := (low : Int) * t.2.2.2 - (if t.1 ∈ db then (top : Int) else 0)
def growthF (c : List Td) : Int := (c.map fun t => t.2.2.2).sum
def doubtF (db : List Nat) (c : List Td) : Nat := (c.filter fun t => decide (t.1 ∈ db)).length
def FeasT (db : List Nat) (top low : Nat) (td : List Td) : Prop := FeasG (gT (wtF db top low)) td
def restT (db : List Nat) (td : List Td) : List Td := td.filter fun t => !decide (t.1 ∈ db)
/-- the others alone -/
def FeasR (db : List Nat) (td : List Td) : Prop := FeasG (gT fun t => t.2.2.2) (restT db td)
theorem wt_sum (db : List Nat) (top low : Nat) : ∀ c : List Td, (c.map (wtF db top low)).sum = (low : Int) * growthF c - (top : Int) * (doubtF db c : Nat)
  | [] => by unfold growthF doubtF; simp
  | t :: c => by
    rw [List.map_cons, List.sum_cons, wt_sum db top low c]
    have e1 : growthF (t :: c) = t.2.2.2 + growthF c := by unfold growthF; rw [List.map_cons, List.sum_cons]
    rw [e1, Int.mul_add]
    unfold wtF
    by_cases h : t.1 ∈ db
    · have e2 : doubtF db (t :: c) = doubtF db c + 1 := by unfold doubtF; rw [List.filter_cons, if_pos (decide_eq_true h)]; rfl
      rw [e2, if_pos h, Int.natCast_add, Int.mul_add]
      omega
    · have e2 : doubtF db (t :: c) = doubtF db c := by unfold doubtF; rw [List.filter_cons, if_neg (by simpa using h)]
      rw [e2, if_neg h]
      omega
theorem doubt_le (db : List Nat) (c : List Td) : doubtF db c ≤ c.length := List.length_filter_le _ _
theorem growth_le {B : Nat} : ∀ {c : List Td}, (∀ t ∈ c, t.2.2.2 ≤ (B : Int)) → growthF c ≤ (c.length * B : Nat)
  | [], _ => by unfold growthF; simp
  | t :: c, h => by
    have := h t List.mem_cons_self
    have := growth_le (c := c) fun u hu => h u (List.mem_cons_of_mem _ hu)
    have e1 : growthF (t :: c) = t.2.2.2 + growthF c := by unfold growthF; rw [List.map_cons, List.sum_cons]
    rw [e1, List.length_cons, Nat.succ_mul, Int.natCast_add]
    omega
theorem countP_lt {α : Type} {p q : α → Bool} : ∀ {l : List α}, (∀ x ∈ l, p x = true → q x = true) → (∃ x ∈ l, q x = true ∧ p x = false) → l.countP p < l.countP q
  | [], _, ⟨x, h, _⟩ => nomatch h
  | y :: l, h, ⟨x, hx, h1, h2⟩ => by
    have le : l.countP p ≤ l.countP q := List.countP_mono_left fun z hz => h z (List.mem_cons_of_mem _ hz)
    rw [List.countP_cons, List.countP_cons]
    rcases List.mem_cons.mp hx with e | e
    · rw [← e, if_pos h1, if_neg (by rw [h2]; exact Bool.false_ne_true)]
      omega
    · have lt := countP_lt (p := p) (q := q) (l := l) (fun z hz => h z (List.mem_cons_of_mem _ hz)) ⟨x, e, h1, h2⟩
      by_cases z : p y = true
      · rw [if_pos z, if_pos (h y List.mem_cons_self z)]; omega
      · rw [if_neg z]; omega
def pairsGD (G D : Nat) : List (Nat × Nat) := (List.range (G + 1)).flatMap fun a => (List.range (D + 1)).map fun b => (a, b)
theorem mem_pairs {G D a b : Nat} (h1 : a ≤ G) (h2 : b ≤ D) : (a, b) ∈ pairsGD G D :=
  List.mem_flatMap.mpr ⟨a, List.mem_range.mpr (by omega), List.mem_map.mpr ⟨b, List.mem_range.mpr (by omega), rfl⟩⟩
def mu (G D top low : Nat) : Nat := (pairsGD G D).countP fun x => decide (top * x.2 < x.1 * low)
theorem mu_lt {G D top low top' low' : Nat} (h : top * low' < top' * low) (l1 : 0 < low) (l2 : 0 < low') (h1 : top' ≤ G) (h2 : low' ≤ D) : mu G D top' low' < mu G D top low := by
  refine countP_lt (fun x _ hx => ?_) ⟨(top', low'), mem_pairs h1 h2, decide_eq_true h, decide_eq_false (Nat.lt_irrefl _)⟩
  have hx := of_decide_eq_true hx
  refine decide_eq_true (Nat.lt_of_mul_lt_mul_right (a := low') ?_)
  have a1 : top * x.2 * low' = x.2 * (top * low') := by rw [Nat.mul_right_comm, Nat.mul_comm]
  have a2 : x.1 * low * low' = low * (x.1 * low') := by rw [Nat.mul_right_comm, Nat.mul_comm]
  have a3 : x.2 * (top' * low) = low * (top' * x.2) := by ac_rfl
  rw [a1, a2]
  have b1 : x.2 * (top * low') ≤ x.2 * (top' * low) := Nat.mul_le_mul_left _ (Nat.le_of_lt h)
  have b2 : low * (top' * x.2) < low * (x.1 * low') := Nat.mul_lt_mul_of_pos_left hx l1
  omega
abbrev ShR : Type := Option (Nat × Nat) × List Td
def gcdC (db : List Nat) (c : List Td) : Nat := Nat.gcd (growthF c).toNat (doubtF db c)
def shareF (us : List Str) (td : List Td) (db : List Nat) : Nat → Nat → Nat → List Td → ShR
  | 0, top, low, best => (some (top, low), best)
  | n + 1, top, low, best => match raisedF (gT (wtF db top low)) us td with
    | .inl _ => (some (top, low), best)
    | .inr c => if doubtF db c = 0 then (none, c) else shareF us td db n ((growthF c).toNat / gcdC db c) (doubtF db c / gcdC db c) c
def shareR (us : List Str) (td : List Td) (db : List Nat) (B : Nat) : ShR := shareF us td db (mu (us.length * B) us.length 0 1 + 1) 0 1 []
structure TdIn (us : List Str) (td : List Td) (B : Nat) : Prop where
  sd : ∀ t ∈ td, t.2.1 ∈ us ∧ t.2.2.1 ∈ us
  le : ∀ t ∈ td, t.2.2.2 ≤ (B : Int)
/-- no years by less than this share -/
def LB (db : List Nat) (td : List Td) (top low : Nat) : Prop := ∀ p q : Nat, 0 < q → FeasT db p q td → top * q ≤ p * low
structure ShI (us : List Str) (td : List Td) (db : List Nat) (B : Nat) (top low : Nat) : Prop where
  pos : 0 < low
  cop : Nat.gcd top low = 1
  lb : LB db td top low
  tG : top ≤ us.length * B
  lD : low ≤ us.length ∨ low = 1
section
variable {us : List Str} {td : List Td} {db : List Nat} {B top low : Nat} {c : List Td}
theorem ShI.zero : ShI us td db B 0 1 := ⟨by decide, by decide, fun p q _ _ => by omega, Nat.zero_le _, .inr rfl⟩
theorem round_sum {n : Nat} {p q : Nat} {ps : List Td} {w : Td → Int} (r : Round (gT w) td c n) (h : FeasT db p q td) : (q : Int) * growthF c - (p : Int) * (doubtF db c : Nat) ≤ 0 := by
  rw [← wt_sum]
  exact r.no _ h
/-- one turn -/
theorem ShI.next (ht : TdIn us td B) (i : ShI us td db B top low) (h : raisedF (gT (wtF db top low)) us td = .inr c) (hd : doubtF db c ≠ 0) :
    ShI us td db B ((growthF c).toNat / gcdC db c) (doubtF db c / gcdC db c) ∧ mu (us.length * B) us.length ((growthF c).toNat / gcdC db c) (doubtF db c / gcdC db c) < mu (us.length * B) us.length top low ∧ 0 < growthF c ∧ growthF c ≤ (us.length * B : Nat) ∧ doubtF db c ≤ us.length ∧ 0 < gcdC db c := by
  obtain ⟨r, ps⟩ := raised_inr (g := gT (wtF db top low)) ht.sd h
  have e : sumG (gT (wtF db top low)) c = (low : Int) * growthF c - (top : Int) * (doubtF db c : Nat) := wt_sum db top low c
  rw [e] at ps
  have l1 : (0 : Int) < (low : Int) := by have := i.pos; omega
  have t0 : (0 : Int) ≤ (top : Int) * (doubtF db c : Nat) := Int.mul_nonneg (by omega) (by omega)
  have gp : 0 < growthF c := by
    refine Classical.byContradiction fun n => ?_
    have : (low : Int) * growthF c ≤ 0 := Int.mul_nonpos_of_nonneg_of_nonpos (by omega) (by omega)
    omega
  obtain ⟨gr, hg⟩ : ∃ gr : Nat, growthF c = gr := ⟨(growthF c).toNat, by omega⟩
  have dl : doubtF db c ≤ us.length := Nat.le_trans (doubt_le db c) r.le
  have gl : gr ≤ us.length * B := by
    have := growth_le (B := B) fun t ht' => ht.le t (r.mem t ht')
    have : c.length * B ≤ us.length * B := Nat.mul_le_mul_right _ r.le
    omega
  have et : (growthF c).toNat = gr := by omega
  have f0 : 0 < gcdC db c := Nat.gcd_pos_of_pos_right _ (by omega)
  have m1 : (growthF c).toNat / gcdC db c * gcdC db c = gr := by rw [← et]; exact Nat.div_mul_cancel (Nat.gcd_dvd_left _ _)
  have m2 : doubtF db c / gcdC db c * gcdC db c = doubtF db c := Nat.div_mul_cancel (Nat.gcd_dvd_right _ _)
  have cop : Nat.gcd ((growthF c).toNat / gcdC db c) (doubtF db c / gcdC db c) = 1 := by
    unfold gcdC at f0 ⊢
    rw [Nat.gcd_div (Nat.gcd_dvd_left _ _) (Nat.gcd_dvd_right _ _)]
    exact Nat.div_self f0
  generalize ht' : (growthF c).toNat / gcdC db c = t' at *
  generalize hl' : doubtF db c / gcdC db c = l' at *
  generalize gcdC db c = f at *
  have lp : 0 < l' := by
    refine Nat.pos_of_ne_zero fun z => ?_
    rw [z, Nat.zero_mul] at m2
    omega
  have inc : top * l' < t' * low := by
    refine Nat.lt_of_mul_lt_mul_right (a := f) ?_
    have h1 : top * l' * f = top * doubtF db c := by rw [Nat.mul_assoc, m2]
    have h2 : t' * low * f = low * gr := by rw [Nat.mul_right_comm, m1, Nat.mul_comm]
    rw [h1, h2]
    have h3 : ((top * doubtF db c : Nat) : Int) < ((low * gr : Nat) : Int) := by
      rw [Int.natCast_mul, Int.natCast_mul, ← hg]
      omega
    omega
  have tl : t' ≤ us.length * B := Nat.le_trans (by rw [← m1]; exact Nat.le_mul_of_pos_right _ f0) gl
  have ll : l' ≤ us.length := Nat.le_trans (by rw [← m2]; exact Nat.le_mul_of_pos_right _ f0) dl
  refine ⟨⟨lp, cop, fun p q hq hf => ?_, tl, .inl ll⟩, mu_lt inc i.pos lp tl ll, gp, by omega, dl, f0⟩
  have s := round_sum (ps := []) r hf
  refine Nat.le_of_mul_le_mul_right (c := f) ?_ f0
  have h1 : t' * q * f = q * gr := by rw [Nat.mul_right_comm, m1, Nat.mul_comm]
  have h2 : p * l' * f = p * doubtF db c := by rw [Nat.mul_assoc, m2]
  rw [h1, h2]
  have h3 : ((q * gr : Nat) : Int) ≤ ((p * doubtF db c : Nat) : Int) := by
    rw [Int.natCast_mul, Int.natCast_mul, ← hg]
    omega
  omega
theorem fdiv_le {a b n q : Int} (hq : 0 < q) (h : a + q * n ≤ b) : a / q + n ≤ b / q := by
  have : (a + q * n) / q ≤ b / q := Int.ediv_le_ediv hq h
  rwa [Int.add_mul_ediv_left _ _ (by omega)] at this
/-- less than the rows in doubt: the others alone -/
theorem feasR_of {p q : Nat} (hq : 0 < q) (h : FeasT db p q td) : FeasR db td := by
  obtain ⟨y, hy⟩ := h
  refine ⟨fun u => y u / (q : Int), fun t ht => ?_⟩
  obtain ⟨h1, h2⟩ := List.mem_filter.mp ht
  have nd : t.1 ∉ db := by simpa using h2
  have := hy t h1
  have e : (gT (wtF db p q)).wt t = (q : Int) * t.2.2.2 := by show (q : Int) * t.2.2.2 - (if t.1 ∈ db then _ else _) = _; rw [if_neg nd]; omega
  rw [e] at this
  exact fdiv_le (by omega) this
/-- by whole years, no less -/
theorem feas_more {p q k : Nat} (hq : 0 < q) (h : FeasT db p q td) (hk : p ≤ k * q) : FeasT db k 1 td := by
  obtain ⟨y, hy⟩ := h
  refine ⟨fun u => y u / (q : Int), fun t ht => ?_⟩
  have := hy t ht
  show y t.2.1 / (q : Int) + wtF db k 1 t ≤ y t.2.2.1 / (q : Int)
  refine fdiv_le (by omega) ?_
  have t1 : y t.2.1 + wtF db p q t ≤ y t.2.2.1 := this
  have : (q : Int) * wtF db k 1 t ≤ wtF db p q t := by
    unfold wtF
    rw [Int.mul_sub, Int.natCast_one, Int.one_mul]
    split
    · have : (p : Int) ≤ (q : Int) * (k : Int) := by rw [Int.mul_comm]; exact_mod_cast hk
      omega
    · omega
  omega
theorem share_ok (ht : TdIn us td B) : ∀ (n top low : Nat) (best : List Td), ShI us td db B top low → mu (us.length * B) us.length top low < n →
    match shareF us td db n top low best with
    | (some (p, q), _) => ShI us td db B p q ∧ FeasT db p q td
    | (none, c) => ¬ FeasR db td
  | 0, _, _, _, _, h => by omega
  | n + 1, top, low, best, i, h => by
    unfold shareF
    cases q : raisedF (gT (wtF db top low)) us td with
    | inl f => exact ⟨i, (raised_iff (g := gT (wtF db top low)) ht.sd).mpr ⟨f, q⟩⟩
    | inr c =>
      by_cases z : doubtF db c = 0
      · simp only [if_pos z]
        intro hf
        obtain ⟨r, ps⟩ := raised_inr (g := gT (wtF db top low)) ht.sd q
        have e : sumG (gT (wtF db top low)) c = (low : Int) * growthF c - (top : Int) * (doubtF db c : Nat) := wt_sum db top low c
        rw [e, z] at ps
        obtain ⟨y, hy⟩ := hf
        have nd : ∀ t ∈ c, t.1 ∉ db := fun t ht' hm => by
          have : t ∈ c.filter fun t => decide (t.1 ∈ db) := List.mem_filter.mpr ⟨ht', decide_eq_true hm⟩
          rw [List.length_eq_zero_iff.mp z] at this
          cases this
        have := r.no (fun t => if t.1 ∈ db then y t.2.2.1 - y t.2.1 else t.2.2.2) ⟨y, fun t ht' => by
          show y t.2.1 + (if t.1 ∈ db then _ else _) ≤ y t.2.2.1
          split
          · omega
          · rename_i hm
            exact hy t (List.mem_filter.mpr ⟨ht', by simpa using hm⟩)⟩
        have e2 : (c.map fun t => if t.1 ∈ db then y t.2.2.1 - y t.2.1 else t.2.2.2).sum = growthF c := by
          unfold growthF
          congr 1
          exact List.map_congr_left fun t ht' => if_neg (nd t ht')
        rw [e2] at this
        have : (low : Int) * growthF c ≤ 0 := Int.mul_nonpos_of_nonneg_of_nonpos (by omega) this
        simp at ps
        omega
      · simp only [if_neg z]
        obtain ⟨i', lt, _⟩ := i.next ht q z
        exact share_ok ht n _ _ c i' (by omega)
theorem share_all (ht : TdIn us td B) : match shareR us td db B with
    | (some (p, q), _) => ShI us td db B p q ∧ FeasT db p q td
    | (none, c) => ¬ FeasR db td := share_ok ht _ 0 1 [] .zero (Nat.lt_succ_self _)
/-- by so many years -/
theorem years_iff {p q k : Nat} (i : ShI us td db B p q) (f : FeasT db p q td) : FeasT db k 1 td ↔ (p + q - 1) / q ≤ k := by
  have hq := i.pos
  constructor
  · intro h
    have := i.lb k 1 (by decide) h
    rw [Nat.mul_one] at this
    refine Nat.lt_succ_iff.mp ((Nat.div_lt_iff_lt_mul hq).mpr ?_)
    rw [Nat.succ_mul]
    omega
  · intro h
    refine feas_more hq f ?_
    have h1 : (p + q - 1) / q * q ≤ k * q := Nat.mul_le_mul_right _ h
    have h2 := Nat.div_add_mod (p + q - 1) q
    have h3 := Nat.mod_lt (p + q - 1) hq
    rw [Nat.mul_comm q] at h2
    omega
end
end L4
end

section
set_option Elab.async false
set_option linter.all false
set_option maxRecDepth 100000
set_option autoImplicit false
/-! What the defs about wrong rows promise. -/
namespace L4
open PySem L2
def nat (n : Nat) : PyData := .int (n : Nat)
def eDb (db : List Nat) : PyData := .tuple (db.map nat)
structure DbOk (n : Nat) (db : List Nat) : Prop where
  lt : ∀ k ∈ db, k < n
  asc : db.Pairwise (· < ·)
theorem DbOk.nd {n : Nat} {db : List Nat} (h : DbOk n db) : db.Nodup := h.asc.imp fun h => Nat.ne_of_lt h
theorem nat_sub_len {l : List Nat} {n : Nat} (nd : l.Nodup) (s : ∀ x ∈ l, x < n) : l.length ≤ n := by
  have gen : ∀ (l m : List Nat), l.Nodup → (∀ x ∈ l, x ∈ m) → l.length ≤ m.length := by
    intro l
    induction l with
    | nil => exact fun m _ _ => Nat.zero_le _
    | cons x l ih =>
      intro m nd s
      have nd' := List.nodup_cons.mp nd
      have hx := s x List.mem_cons_self
      have := ih (m.erase x) nd'.2 fun y hy => (List.mem_erase_of_ne (fun z => nd'.1 (by rw [← z]; exact hy))).mpr (s y (List.mem_cons_of_mem _ hy))
      rw [List.length_erase_of_mem hx] at this
      have := List.length_pos_of_mem hx
      rw [List.length_cons]
      omega
  have := gen l (List.range n) nd fun x hx => List.mem_range.mpr (s x hx)
  rwa [List.length_range] at this
theorem DbOk.le {n : Nat} {db : List Nat} (h : DbOk n db) : db.length ≤ n := nat_sub_len h.nd h.lt
theorem sh_natsT : ∀ (db : List Nat), SeqAt.shaped (eDb db) = true := fun db => by
  have c : ∀ db : List Nat, PyData.canLayAll0 (db.map nat) = true := by
    intro db
    induction db with
    | nil => rfl
    | cons n db ih => show (true && PyData.canLayAll0 (db.map nat)) = true; rw [ih]; rfl
  have d : ∀ db : List Nat, PyData.depthAll (db.map nat) = 0 := by
    intro db
    induction db with
    | nil => rfl
    | cons n db ih => show max 0 (PyData.depthAll (db.map nat)) = 0; rw [ih]; rfl
  show (PyData.canLayAll0 (db.map nat) && decide (PyData.depthAll (db.map nat) + 1 ≤ 64)) = true
  rw [c, d]; rfl
theorem any_nat (n : Nat) (db : List Nat) : ((db.map nat).any fun z => PyData.eqv z (.int (n : Nat))) = decide (n ∈ db) := by
  induction db with
  | nil => rfl
  | cons u us ih =>
    rw [List.map_cons, List.any_cons, ih]
    show (decide ((u : Int) = (n : Int)) || decide (n ∈ us)) = _
    by_cases e : u = n
    · subst e; simp
    · have e' : ¬ n = u := fun z => e z.symm
      have e2 : ¬ (u : Int) = (n : Int) := by omega
      simp [e', e2]
def eTds (c : List Td) : List PyData := c.map eTd
def dkF (us : List Str) (f : Str → Int) : List (Key × PyData) := us.map fun u => (.inr u, .int (f u))
def eRaised (us : List Str) : Sum (Str → Int) (List Td) → PyData
  | .inl f => .tuple [dkD (dkF us f), .none]
  | .inr c => .tuple [.none, .tuple (eTds c)]
def eShare : ShR → PyData
  | (some (p, q), c) => .tuple [nat p, nat q, .tuple (eTds c)]
  | (none, c) => .tuple [.none, .none, .tuple (eTds c)]
def DigD.td (g : DigD) : List Td := toldR g.rows
def DigD.share (g : DigD) (db : List Nat) : ShR := shareR g.units g.td db 9999
def ceilF (p q : Nat) : Nat := (p + q - 1) / q
def DigD.loose (g : DigD) (db : List Nat) (k : Nat) : Option (List Int) := match raisedF (gT (wtF db k 1)) g.units g.td with
  | .inl f => some (g.units.map f)
  | .inr _ => none
def eInts (ns : List Int) : PyData := .tuple (ns.map .int)
def DigD.wrong (g : DigD) (db : List Nat) : PyData := match g.share db with
  | (none, c) => .tuple [.str "never", .tuple (eTds c)]
  | (some (p, q), c) => .tuple [.str "by", nat (ceilF p q), eInts ((g.loose db (ceilF p q)).getD []), .tuple (eTds c)]
theorem td_mem {rows : List Row} {t : Td} (h : t ∈ toldR rows) : ∃ r, rows[t.1]? = some r ∧ t.2 ∈ stepsR r := by
  unfold toldR at h
  obtain ⟨p, hp, ht⟩ := List.mem_flatMap.mp h
  obtain ⟨s, hs, rfl⟩ := List.mem_map.mp ht
  obtain ⟨r, i⟩ := p
  have := List.mem_zipIdx_iff_getElem?.mp hp
  exact ⟨r, this, hs⟩
theorem steps_in {us : List Str} {r : Row} (h : RowOk us r) {s : Stp} (hs : s ∈ stepsR r) : s.1 ∈ us ∧ s.2.1 ∈ us ∧ s.2.2 ≤ 9999 ∧ -9999 ≤ s.2.2 := by
  have ia := h.ia
  have ib := h.ib
  have lt := h.num.lt
  cases r <;> simp only [Row.a, Row.b, Row.n] at ia ib lt <;> simp only [stepsR, List.mem_cons, List.not_mem_nil, or_false] at hs
  · subst hs; exact ⟨ib, ia, by show (1 : Int) ≤ 9999; decide, by show (-9999 : Int) ≤ 1; decide⟩
  · rcases hs with e | e <;> subst e
    · exact ⟨ia, ib, by show (0 : Int) ≤ 9999; decide, by show (-9999 : Int) ≤ 0; decide⟩
    · exact ⟨ib, ia, by show (0 : Int) ≤ 9999; decide, by show (-9999 : Int) ≤ 0; decide⟩
  · subst hs; exact ⟨ib, ia, by dsimp only; omega, by dsimp only; omega⟩
  · subst hs; exact ⟨ia, ib, by dsimp only; omega, by dsimp only; omega⟩
theorem DigOk.tdIn {g : DigD} (h : DigOk g) : TdIn g.units g.td 9999 where
  sd t ht := by
    obtain ⟨r, hr, hs⟩ := td_mem ht
    have := steps_in (h.ok r (List.mem_of_getElem? hr)) hs
    exact ⟨this.1, this.2.1⟩
  le t ht := by
    obtain ⟨r, hr, hs⟩ := td_mem ht
    exact (steps_in (h.ok r (List.mem_of_getElem? hr)) hs).2.2.1
theorem told_len : ∀ (rows : List Row), (toldR rows).length ≤ 2 * rows.length := by
  have gen : ∀ (rows : List Row) (k : Nat), ((rows.zipIdx k).flatMap fun p => (stepsR p.1).map fun s => (p.2, s)).length ≤ 2 * rows.length := by
    intro rows
    induction rows with
    | nil => intro k; exact Nat.zero_le _
    | cons r rows ih =>
      intro k
      rw [List.zipIdx_cons, List.flatMap_cons, List.length_append, List.length_map, List.length_cons]
      dsimp only
      have := ih (k + 1)
      have : (stepsR r).length ≤ 2 := by cases r <;> exact Nat.le_of_ble_eq_true rfl
      omega
  exact fun rows => gen rows 0
theorem DigOk.td_le {g : DigD} (h : DigOk g) : g.td.length ≤ 400 := by
  have := told_len g.rows
  have := h.rle
  unfold DigD.td
  omega
theorem asc_nat : ∀ {db : List Nat}, db.Pairwise (· < ·) → ascI (db.map fun n => ((n : Nat) : Int)) = true := by
  intro db h
  unfold ascI
  rw [List.all_eq_true]
  intro p hp
  obtain ⟨i, hi⟩ := List.getElem?_of_mem hp
  rw [List.getElem?_zip_eq_some, List.getElem?_drop, List.getElem?_map, List.getElem?_map] at hi
  obtain ⟨h1, h2⟩ := hi
  obtain ⟨a, ha, e1⟩ := Option.map_eq_some_iff.mp h1
  obtain ⟨b, hb, e2⟩ := Option.map_eq_some_iff.mp h2
  obtain ⟨la, ea⟩ := List.getElem?_eq_some_iff.mp ha
  obtain ⟨lb, eb⟩ := List.getElem?_eq_some_iff.mp hb
  have := List.pairwise_iff_getElem.mp h i (1 + i) la lb (by omega)
  rw [ea, eb] at this
  rw [← e1, ← e2]
  exact decide_eq_true (by omega)
theorem zi_get {α : Type} {l : List α} {i k : Nat} {x : α} (h : l.zipIdx[i]? = some (x, k)) : i = k ∧ l[i]? = some x := by
  rw [List.getElem?_zipIdx] at h
  obtain ⟨y, h1, h2⟩ := Option.map_eq_some_iff.mp h
  cases h2
  rw [Nat.zero_add]
  exact ⟨rfl, h1⟩
theorem steps_two (r : Row) : (stepsR r).length ≤ 2 := by cases r <;> exact Nat.le_of_ble_eq_true rfl
theorem told_take {rows : List Row} {k : Nat} {r : Row} (h : rows[k]? = some r) : toldR (rows.take (k + 1)) = toldR (rows.take k) ++ (stepsR r).map fun s => (k, s) := by
  have hk := (List.getElem?_eq_some_iff.mp h).1
  unfold toldR
  rw [List.take_add_one, h, Option.toList_some, List.zipIdx_append, List.flatMap_append, List.length_take, Nat.min_eq_left (by omega)]
  simp
theorem wsub {K : PySem.W.Frag} (a i j : Int) (b : Bool) : RD K (rI0 fun i j => .int (i - j)) (.int a) (if b then .int i else .int j) (.int (a - if b then i else j)) := by
  cases b <;> exact rd_sub
theorem wt_data {db : List Nat} {top low : Nat} (t : Td) : PyData.int ((low : Int) * t.2.2.2 - if decide (t.1 ∈ db) = true then (top : Int) else 0) = .int (wtF db top low t) := by
  unfold wtF
  by_cases h : t.1 ∈ db <;> simp [h]
/-! promises -/
def rAreDoubts (C : Addr) : List PyData → PyData → Prop := R2' fun a b d => ∃ g db, DigOk g ∧ DbOk g.rows.length db ∧ a = eDig C g ∧ b = eDb db ∧ d = .bool true
def rCheckDoubts (C : Addr) : List PyData → PyData → Prop := R2' fun a b d => ∃ g db, DigOk g ∧ DbOk g.rows.length db ∧ a = eDig C g ∧ b = eDb db ∧ d = .none
def rToldSteps (C : Addr) : List PyData → PyData → Prop := R1 fun a d => ∃ g, DigOk g ∧ a = eDig C g ∧ d = .list (eTds g.td)
def rGrowthOf : List PyData → PyData → Prop := R1 fun a d => ∃ c, c.length ≤ 1000 ∧ a = .tuple (eTds c) ∧ d = .int (growthF c)
def rDoubtOf : List PyData → PyData → Prop := R2' fun a b d => ∃ db c, c.length ≤ 1000 ∧ a = eDb db ∧ b = .tuple (eTds c) ∧ d = nat (doubtF db c)
def rBackAround : List PyData → PyData → Prop := R2' fun a b d => ∃ (es : List (Key × PyData)) (wt : Td → Int) (ah : Str → Option Td) (u : Str) (S : List Str) (n : Nat), a = dkD es ∧ b = .str u ∧ (∀ v, valD es (.inr v) = (ah v).map eTd) ∧ Clo (gT wt) ah S ∧ u ∈ S ∧ S.length + 1 ≤ n ∧ n ≤ 1000 ∧ (∀ v ∈ S, SOk v) ∧ d = .tuple (eTds (backF (gT wt) ah n u))
def rRaised : List PyData → PyData → Prop := R3' fun a b c d => ∃ (us : List Str) (td : List Td) (wt : Td → Int), us.Nodup ∧ (∀ u ∈ us, SOk u) ∧ us.length ≤ 40 ∧ td.length ≤ 1000 ∧ (∀ t ∈ td, t.2.1 ∈ us ∧ t.2.2.1 ∈ us) ∧
  a = eTx us ∧ b = .list (eTds td) ∧ c = .list (td.map fun t => .int (wt t)) ∧ d = eRaised us (raisedF (gT wt) us td)
def rWeightsOf : List PyData → PyData → Prop := R4' fun a b c e d => ∃ (td : List Td) (db : List Nat) (top low : Nat), td.length ≤ 1000 ∧ low ≤ 1000000 ∧ a = .list (eTds td) ∧ b = eDb db ∧ c = nat top ∧ e = nat low ∧ d = .list (td.map fun t => .int (wtF db top low t))
def rCommonOf : List PyData → PyData → Prop := R2' fun a b d => ∃ m n : Nat, 0 < n ∧ m ≤ 100000000 ∧ n ≤ 100000000 ∧ a = nat m ∧ b = nat n ∧ d = nat (Nat.gcd m n)
def rShareOf (C : Addr) : List PyData → PyData → Prop := R2' fun a b d => ∃ g db, DigOk g ∧ DbOk g.rows.length db ∧ a = eDig C g ∧ b = eDb db ∧ d = eShare (g.share db)
def rLooseYears (C : Addr) : List PyData → PyData → Prop := R3' fun a b c d => ∃ g db k ys, DigOk g ∧ DbOk g.rows.length db ∧ g.loose db k = some ys ∧ a = eDig C g ∧ b = eDb db ∧ c = nat k ∧ d = eInts ys
def rWrong (C : Addr) : List PyData → PyData → Prop := R2' fun a b d => ∃ g db, DigOk g ∧ DbOk g.rows.length db ∧ a = eDig C g ∧ b = eDb db ∧ d = g.wrong db
/-- the year that a tuple of years tells of a unit -/
def yrOf (us : List Str) (ys : List Int) (u : Str) : Int := ((us.zip ys).find? fun p => decide (p.1 = u)).map (·.2) |>.getD 0
def DigD.isLoose (g : DigD) (db : List Nat) (k : Nat) (ys : List Int) : Bool := g.td.all fun t => !decide (yrOf g.units ys t.2.2.1 < yrOf g.units ys t.2.1 + t.2.2.2 - (if t.1 ∈ db then (k : Int) else 0))
def rIsLoose (C : Addr) : List PyData → PyData → Prop := R4' fun a b c e d => ∃ g db k ys, DigOk g ∧ DbOk g.rows.length db ∧ k ≤ 9999 ∧ ys.length = g.units.length ∧ a = eDig C g ∧ b = eDb db ∧ c = nat k ∧ e = eInts ys ∧ d = .bool (g.isLoose db k ys)
def rCheckShare (C : Addr) : List PyData → PyData → Prop := R2' fun a b d => ∃ g db, DigOk g ∧ DbOk g.rows.length db ∧ (g.share db).1 ≠ none ∧ a = eDig C g ∧ b = eDb db ∧ d = .none
def rShare (C : Addr) : List PyData → PyData → Prop := R2' fun a b d => ∃ g db, DigOk g ∧ DbOk g.rows.length db ∧ (g.share db).1 ≠ none ∧ a = eDig C g ∧ b = eDb db ∧ d = eShare (g.share db)
def eOpt : Option Nat → PyData
  | none => .none
  | some n => nat n
def DigD.due (g : DigD) (db : List Nat) : Option Nat := (g.share db).1.map fun p => ceilF p.1 p.2
def rAlone (C : Addr) : List PyData → PyData → Prop := R1 fun a d => ∃ g, DigOk g ∧ a = eDig C g ∧ d = .tuple ((List.range g.rows.length).map fun n => eOpt (g.due [n]))
def DigD.enough (g : DigD) (db : List Nat) (k : Nat) : Bool := (g.loose db k).isSome
def rIsEnough (C : Addr) : List PyData → PyData → Prop := R3' fun a b c d => ∃ g db k, DigOk g ∧ a = eDig C g ∧ b = eDb db ∧ c = nat k ∧ d = .bool (g.enough db k)
def someF (many : Nat) : Nat → List (List Nat)
  | 0 => [[]]
  | n + 1 => (someF many n).flatMap fun row => ((List.range (many - (row.getLast?.map (· + 1)).getD 0)).map fun i => row ++ [(row.getLast?.map (· + 1)).getD 0 + i])
def rSomeOf : List PyData → PyData → Prop := R2' fun a b d => ∃ many amount : Nat, many ≤ 10 ∧ amount ≤ 10 ∧ a = nat many ∧ b = nat amount ∧ d = .list ((someF many amount).map eDb)
/-- the first lot of the fewest -/
def fewF (p : List Nat → Bool) (many : Nat) : Option (List Nat) := ((List.range (many + 1)).flatMap (someF many)).find? p
def eLot : Option (List Nat) → PyData
  | none => .none
  | some l => .tuple [nat l.length, eDb l]
def rFewest (C : Addr) : List PyData → PyData → Prop := R2' fun a b d => ∃ g k, DigOk g ∧ k ≤ 9999 ∧ g.rows.length ≤ 10 ∧ a = eDig C g ∧ b = nat k ∧ d = eLot (fewF (fun db => g.enough db k) g.rows.length)
end L4
end

section
set_option Elab.async false
set_option linter.all false
set_option maxRecDepth 100000
set_option autoImplicit false
/-! Dicts of texts that are filled. -/
namespace L4
open PySem L2
theorem endk_new {K : PySem.W.Frag} {ds : D4} : EnK K tDNewK ds [] := fun W N σ H S Q q p hp => q p [] _ (Ex.new hp) hp upd_same .nil
section
variable {κ : Type} [DecidableEq κ]
theorem valD_put (es : List (κ × PyData)) (k k' : κ) (d : PyData) : valD (putD es k d) k' = if k' = k then some d else valD es k' := by
  unfold putD
  by_cases h : (es.any fun p => decide (p.1 = k)) = true
  · rw [if_pos h]
    unfold valD
    induction es with
    | nil => cases h
    | cons p es ih =>
      rw [List.map_cons, List.find?_cons, List.find?_cons]
      by_cases e : p.1 = k
      · rw [if_pos e]
        by_cases z : k' = k
        · subst z
          simp [e]
        · have n1 : ¬ p.1 = k' := fun q => z (q.symm.trans e)
          simp only [n1, decide_false]
          rw [if_neg z]
          by_cases h' : (es.any fun p => decide (p.1 = k)) = true
          · have := ih h'
            rw [if_neg z] at this
            exact this
          · have e2 : es.map (fun q => if q.1 = k then (q.1, d) else q) = es := by
              have : ∀ x ∈ es, (if x.1 = k then (x.1, d) else x) = id x := fun x hx => if_neg fun q => h' (List.any_eq_true.mpr ⟨x, hx, decide_eq_true q⟩)
              exact (List.map_congr_left this).trans (List.map_id _)
            rw [e2]
      · rw [if_neg e]
        have h' : (es.any fun p => decide (p.1 = k)) = true := by
          rw [List.any_cons] at h
          simpa [e] using h
        have := ih h'
        by_cases z : p.1 = k'
        · have nk : ¬ k' = k := fun q => e (z.trans q)
          rw [if_neg nk]
          simp [z]
        · simp only [z, decide_false]
          exact this
  · rw [if_neg h]
    unfold valD
    rw [List.find?_append]
    by_cases z : k' = k
    · subst z
      have : es.find? (fun p => decide (p.1 = k')) = none := by
        rw [List.find?_eq_none]
        exact fun x hx q => h (List.any_eq_true.mpr ⟨x, hx, q⟩)
      rw [this, if_pos rfl]
      simp
    · rw [if_neg z]
      have n1 : ¬ k = k' := fun q => z q.symm
      cases es.find? (fun p => decide (p.1 = k')) <;> simp [n1]
theorem keys_put (es : List (κ × PyData)) (k : κ) (d : PyData) : (putD es k d).map (·.1) = if k ∈ es.map (·.1) then es.map (·.1) else es.map (·.1) ++ [k] := by
  unfold putD
  have e : (es.any fun p => decide (p.1 = k)) = true ↔ k ∈ es.map (·.1) := by
    rw [List.any_eq_true, List.mem_map]
    exact ⟨fun ⟨x, h1, h2⟩ => ⟨x, h1, of_decide_eq_true h2⟩, fun ⟨x, h1, h2⟩ => ⟨x, h1, decide_eq_true h2⟩⟩
  by_cases h : (es.any fun p => decide (p.1 = k)) = true
  · rw [if_pos h, if_pos (e.mp h), List.map_map]
    refine List.map_congr_left fun x _ => ?_
    show (if x.1 = k then (x.1, d) else x).1 = x.1
    split <;> rfl
  · rw [if_neg h, if_neg (fun q => h (e.mpr q)), List.map_append]; rfl
end
/-- its keys are units, no two alike -/
structure KeysIn (us : List Str) (es : List (Key × PyData)) : Prop where
  nd : (es.map (·.1)).Nodup
  sub : ∀ k ∈ es.map (·.1), ∃ u ∈ us, k = .inr u
theorem KeysIn.nil {us : List Str} : KeysIn us [] := ⟨List.nodup_nil, fun k h => nomatch h⟩
theorem KeysIn.put {us : List Str} {es : List (Key × PyData)} (h : KeysIn us es) {u : Str} (hu : u ∈ us) (d : PyData) : KeysIn us (putD es (.inr u) d) := by
  constructor
  · rw [keys_put]
    split
    · exact h.nd
    · rename_i n
      rw [List.nodup_append]
      exact ⟨h.nd, by simp, fun a ha b hb e => n (by rw [List.mem_singleton.mp hb] at e; rw [← e]; exact ha)⟩
  · rw [keys_put]
    split
    · exact h.sub
    · intro k hk
      rcases List.mem_append.mp hk with m | m
      · exact h.sub k m
      · exact ⟨u, hu, List.mem_singleton.mp m⟩
theorem KeysIn.le {us : List Str} {es : List (Key × PyData)} (h : KeysIn us es) : es.length ≤ us.length := by
  have e : es.length = (es.map fun p => match p.1 with | .inr u => u | .inl _ => "").length := by rw [List.length_map]
  rw [e]
  refine sub_len ?_ fun x hx => ?_
  · have nd := h.nd
    have sub := h.sub
    clear e h
    induction es with
    | nil => exact List.nodup_nil
    | cons p es ih =>
      rw [List.map_cons] at nd ⊢
      obtain ⟨n1, n2⟩ := List.nodup_cons.mp nd
      refine List.nodup_cons.mpr ⟨fun hm => n1 ?_, ih n2 fun k hk => sub k (List.mem_cons_of_mem _ hk)⟩
      obtain ⟨q, hq, e⟩ := List.mem_map.mp hm
      obtain ⟨u, _, e1⟩ := sub p.1 List.mem_cons_self
      obtain ⟨v, _, e2⟩ := sub q.1 (List.mem_cons_of_mem _ (List.mem_map_of_mem hq))
      rw [e1, e2] at e
      have e' : v = u := e
      exact List.mem_map.mpr ⟨q, hq, by rw [e1, e2, e']⟩
  · obtain ⟨q, hq, e⟩ := List.mem_map.mp hx
    obtain ⟨u, hu, e1⟩ := h.sub q.1 (List.mem_map_of_mem hq)
    rw [e1] at e
    rw [← e]
    exact hu
theorem merge_nodup : ∀ {more es : List (Key × PyData)}, (es.map (·.1) ++ more.map (·.1)).Nodup → mergeD es more = es ++ more
  | [], es, _ => by rw [List.append_nil]; rfl
  | p :: more, es, nd => by
    show mergeD (putD es p.1 p.2) more = _
    have n1 : p.1 ∉ es.map (·.1) := fun h => by
      rw [List.nodup_append] at nd
      exact nd.2.2 p.1 h p.1 List.mem_cons_self rfl
    have e : putD es p.1 p.2 = es ++ [p] := by
      unfold putD
      rw [if_neg]
      intro q
      obtain ⟨x, hx, hd⟩ := List.any_eq_true.mp q
      exact n1 (List.mem_map.mpr ⟨x, hx, of_decide_eq_true hd⟩)
    rw [e, merge_nodup (by rw [List.map_append, List.append_assoc]; exact nd), List.append_assoc]
    rfl
section
variable {us : List Str} {f : Str → Int}
theorem dkF_keys : (dkF us f).map (·.1) = us.map Sum.inr := by unfold dkF; rw [List.map_map]; rfl
theorem dkF_get {u : Str} (h : u ∈ us) : valD (dkF us f) (.inr u) = some (.int (f u)) := by
  unfold dkF valD
  induction us with
  | nil => cases h
  | cons v us ih =>
    rw [List.map_cons, List.find?_cons]
    by_cases e : v = u
    · subst e; simp
    · have e' : ¬ (Sum.inr v : Key) = Sum.inr u := fun z => e (Sum.inr.inj z)
      simp only [e', decide_false]
      exact ih ((List.mem_cons.mp h).resolve_left fun z => e z.symm)
theorem dkF_put {u : Str} (h : u ∈ us) (v : Int) : putD (dkF us f) (.inr u) (.int v) = dkF us fun w => if w = u then v else f w := by
  unfold putD
  rw [if_pos]
  · unfold dkF
    rw [List.map_map]
    refine List.map_congr_left fun w _ => ?_
    show (if (Sum.inr w : Key) = Sum.inr u then ((Sum.inr w : Key), PyData.int v) else (Sum.inr w, .int (f w))) = _
    by_cases e : w = u
    · subst e; simp
    · have e' : ¬ (Sum.inr w : Key) = Sum.inr u := fun z => e (Sum.inr.inj z)
      rw [if_neg e']
      show _ = ((Sum.inr w : Key), PyData.int (if w = u then v else f w))
      rw [if_neg e]
  · exact List.any_eq_true.mpr ⟨(.inr u, .int (f u)), List.mem_map.mpr ⟨u, h, rfl⟩, decide_eq_true rfl⟩
theorem dkF_merge (nd : us.Nodup) : mergeD [] (dkF us f) = dkF us f := by
  have n : (us.map (Sum.inr : Str → Key)).Nodup := nd.map _ fun a b h e => h (Sum.inr.inj e)
  exact merge_nodup (es := []) (by rw [dkF_keys]; exact n)
end
def eLast : Option Str → PyData
  | none => .none
  | some u => .str u
/-- dict([(unit, 0) for unit in units]) -/
theorem en_zeros {K : PySem.W.Frag} {ds : D4} {i j : Nat} {us : List Str} (h : ds.sl[i]? = some (.pu (eTx us))) (hj : ds.sl[j]?.isSome = true) (nd : us.Nodup) (hl : us.length ≤ 90000) :
    EnK K (tCB (rDictP K) (tCons (tLc (iSeq K (tVar i)) (gName j) tYes (tTup (tCons (tVar j) (tCons (tC (.int 0)) tNil))) [j]) tNil)) ds (dkF us fun _ => 0) := by
  rw [← dkF_merge nd]
  refine en_dictP (ev_is (EnL.ev (lc1 us .str (fun u => .tuple [.str u, .int 0]) (eI_tup (ev_var h)).r hl (fun u _ => ev_tupA (ea_cons (ev_var ?_) (ea_cons ev_int ea_nil)) rfl) hj)) ?_)
  · show ((wipeL ds.sl [j]).set j _)[j]? = _
    rw [List.getElem?_set_self]
    rw [wipeL_length]; exact lt_of_some hj
  · unfold dkF
    rw [List.map_map]
    rfl
def aroundD : Sum (Str → Int) (List Td) → PyData
  | .inl _ => .none
  | .inr c => .tuple (eTds c)
theorem rd_around {K : PySem.W.Frag} {us : List Str} (r : Sum (Str → Int) (List Td)) : RD K (rIx K) (eRaised us r) (.int 1) (aroundD r) := by
  cases r
  · exact rd_ixT rfl
  · exact rd_ixT rfl
theorem rd_far {K : PySem.W.Frag} {us : List Str} {r : Sum (Str → Int) (List Td)} {f : Str → Int} (h : r = .inl f) : RD K (rIx K) (eRaised us r) (.int 0) (dkD (dkF us f)) := by
  subst h; exact rd_ixT rfl
/-- the call of raised -/
theorem DigOk.raised {g : DigD} (ok : DigOk g) (wt : Td → Int) : rRaised [eTx g.units, .list (eTds g.td), .list (g.td.map fun t => .int (wt t))] (eRaised g.units (raisedF (gT wt) g.units g.td)) :=
  ⟨_, _, _, rfl, g.units, g.td, wt, ok.nd, fun u hu => (ok.nm u hu).sok, ok.le, Nat.le_trans ok.td_le (by decide), ok.tdIn.sd, rfl, rfl, rfl, rfl⟩
theorem DigOk.weights {g : DigD} (ok : DigOk g) (db : List Nat) (top : Nat) {low : Nat} (hl : low ≤ 1000000) : rWeightsOf [.list (eTds g.td), eDb db, nat top, nat low] (.list (g.td.map fun t => .int (wtF db top low t))) :=
  ⟨_, _, _, _, rfl, g.td, db, top, low, Nat.le_trans ok.td_le (by decide), hl, rfl, rfl, rfl, rfl, rfl⟩
theorem prop_units {C : Addr} (g : DigD) : rPropUnits C [eDig C g] (eTx g.units) := ⟨_, rfl, g, rfl, rfl⟩
theorem prop_rows {C : Addr} (g : DigD) : rPropRows C [eDig C g] (.tuple (g.rows.map eRow)) := ⟨_, rfl, g, rfl, rfl⟩
theorem nat_div (a b : Nat) : PyData.int ((a : Int) / (b : Int)) = nat (a / b) := by rw [← Int.natCast_ediv]; rfl
end L4
end

section
set_option Elab.async false
set_option linter.all false
set_option maxRecDepth 100000
set_option autoImplicit false
/-! The text of the law: its defs, their names, what stands behind the top. -/
namespace L4
open PySem L2
def topS (i : Nat) : Stmt := PySem.Challenge.pw_laidbefore_k31_whole_wrong_rows_side_by.main.body.getD i (.Pass ⟨0, 0, 0, 0⟩)
abbrev st_is_integer : Stmt := topS 14
abbrev st_is_between : Stmt := topS 15
abbrev st_is_name : Stmt := topS 16
abbrev st_is_ascending : Stmt := topS 17
abbrev st_read_integer : Stmt := topS 18
abbrev st_has_row_form : Stmt := topS 28
abbrev st_row_line : Stmt := topS 29
abbrev st_row_of : Stmt := topS 30
abbrev st_steps_of : Stmt := topS 31
abbrev st_Reader___init__ : Stmt := inClass (topS 32) 0
abbrev st_Reader_takes : Stmt := inClass (topS 32) 1
abbrev st_Reader_takes_unit : Stmt := inClass (topS 32) 2
abbrev st_Reader_found : Stmt := inClass (topS 32) 3
abbrev st_Dig___init__ : Stmt := inClass (topS 33) 0
abbrev st_Dig_units : Stmt := inClass (topS 33) 3
abbrev st_Dig_rows : Stmt := inClass (topS 33) 4
abbrev st_check_dig : Stmt := topS 34
abbrev st_step_table : Stmt := topS 35
abbrev st_are_doubts : Stmt := topS 41
abbrev st_check_doubts : Stmt := topS 42
abbrev st_told_steps : Stmt := topS 43
abbrev st_growth_of : Stmt := topS 44
abbrev st_doubt_of : Stmt := topS 45
abbrev st_back_around : Stmt := topS 46
abbrev st_raised : Stmt := topS 47
abbrev st_weights_of : Stmt := topS 48
abbrev st_common_of : Stmt := topS 49
abbrev st_share_of : Stmt := topS 50
abbrev st_loose_years : Stmt := topS 51
abbrev st_wrong : Stmt := topS 52
abbrev st_is_loose_of : Stmt := topS 53
abbrev st_is_loose : Stmt := topS 54
abbrev st_check_share : Stmt := topS 55
abbrev st_share : Stmt := topS 56
abbrev st_alone : Stmt := topS 57
abbrev st_is_enough : Stmt := topS 58
abbrev st_some_of : Stmt := topS 59
abbrev st_fewest_in_doubt : Stmt := topS 60
abbrev st_Years___init__ : Stmt := inClass (topS 62) 0
abbrev st_Years_go : Stmt := inClass (topS 62) 1
abbrev st_Years_ring : Stmt := inClass (topS 62) 2
abbrev st_ring_of : Stmt := topS 63
abbrev st_ring : Stmt := topS 64
abbrev st__law_pot : Stmt := topS 66
abbrev st__law_take : Stmt := topS 67
abbrev st__law_of : Stmt := topS 68
abbrev st__law_cells : Stmt := topS 69
abbrev st__law_some : Stmt := topS 70
abbrev st__law_row : Stmt := topS 71
abbrev st__law_text : Stmt := topS 72
abbrev st__law_row_steps : Stmt := topS 73
abbrev st__law_drawn : Stmt := topS 74
abbrev st__law_grows : Stmt := topS 75
abbrev st__law_due : Stmt := topS 76
abbrev st__law_fewest : Stmt := topS 77
abbrev st__law_greater : Stmt := topS 78
abbrev st__law_are_lots_right : Stmt := topS 79
abbrev st__law_right : Stmt := topS 80
abbrev st_law : Stmt := topS 81
abbrev N_is_integer : List Str := ["value"]
theorem sc_is_integer : FnScope N_is_integer ["value"] (defScope st_is_integer) := ⟨rfl, rfl, rfl, by decide +kernel, rfl, by decide +kernel, by decide +kernel⟩
abbrev N_is_between : List Str := ["value", "least", "most"]
theorem sc_is_between : FnScope N_is_between ["value", "least", "most"] (defScope st_is_between) := ⟨rfl, rfl, rfl, by decide +kernel, rfl, by decide +kernel, by decide +kernel⟩
abbrev N_is_name : List Str := ["value", "sign"]
theorem sc_is_name : FnScope N_is_name ["value"] (defScope st_is_name) := ⟨rfl, rfl, rfl, by decide +kernel, rfl, by decide +kernel, by decide +kernel⟩
abbrev N_is_ascending : List Str := ["values", "one", "other"]
theorem sc_is_ascending : FnScope N_is_ascending ["values"] (defScope st_is_ascending) := ⟨rfl, rfl, rfl, by decide +kernel, rfl, by decide +kernel, by decide +kernel⟩
abbrev N_read_integer : List Str := ["word", "figures", "sign", "number"]
theorem sc_read_integer : FnScope N_read_integer ["word"] (defScope st_read_integer) := ⟨rfl, rfl, rfl, by decide +kernel, rfl, by decide +kernel, by decide +kernel⟩
abbrev N_has_row_form : List Str := ["units", "value", "part"]
theorem sc_has_row_form : FnScope N_has_row_form ["units", "value"] (defScope st_has_row_form) := ⟨rfl, rfl, rfl, by decide +kernel, rfl, by decide +kernel, by decide +kernel⟩
abbrev N_row_line : List Str := ["row", "part"]
theorem sc_row_line : FnScope N_row_line ["row"] (defScope st_row_line) := ⟨rfl, rfl, rfl, by decide +kernel, rfl, by decide +kernel, by decide +kernel⟩
abbrev N_row_of : List Str := ["words"]
theorem sc_row_of : FnScope N_row_of ["words"] (defScope st_row_of) := ⟨rfl, rfl, rfl, by decide +kernel, rfl, by decide +kernel, by decide +kernel⟩
abbrev N_steps_of : List Str := ["row"]
theorem sc_steps_of : FnScope N_steps_of ["row"] (defScope st_steps_of) := ⟨rfl, rfl, rfl, by decide +kernel, rfl, by decide +kernel, by decide +kernel⟩
abbrev N_Reader___init__ : List Str := ["self"]
theorem sc_Reader___init__ : FnScope N_Reader___init__ ["self"] (defScope st_Reader___init__) := ⟨rfl, rfl, rfl, by decide +kernel, rfl, by decide +kernel, by decide +kernel⟩
abbrev N_Reader_takes : List Str := ["self", "line", "words", "row"]
theorem sc_Reader_takes : FnScope N_Reader_takes ["self", "line"] (defScope st_Reader_takes) := ⟨rfl, rfl, rfl, by decide +kernel, rfl, by decide +kernel, by decide +kernel⟩
abbrev N_Reader_takes_unit : List Str := ["self", "words"]
theorem sc_Reader_takes_unit : FnScope N_Reader_takes_unit ["self", "words"] (defScope st_Reader_takes_unit) := ⟨rfl, rfl, rfl, by decide +kernel, rfl, by decide +kernel, by decide +kernel⟩
abbrev N_Reader_found : List Str := ["self"]
theorem sc_Reader_found : FnScope N_Reader_found ["self"] (defScope st_Reader_found) := ⟨rfl, rfl, rfl, by decide +kernel, rfl, by decide +kernel, by decide +kernel⟩
abbrev N_Dig___init__ : List Str := ["self", "text", "reader", "number", "line"]
theorem sc_Dig___init__ : FnScope N_Dig___init__ ["self", "text"] (defScope st_Dig___init__) := ⟨rfl, rfl, rfl, by decide +kernel, rfl, by decide +kernel, by decide +kernel⟩
abbrev N_Dig_units : List Str := ["self"]
theorem sc_Dig_units : FnScope N_Dig_units ["self"] (defScope st_Dig_units) := ⟨rfl, rfl, rfl, by decide +kernel, rfl, by decide +kernel, by decide +kernel⟩
abbrev N_Dig_rows : List Str := ["self"]
theorem sc_Dig_rows : FnScope N_Dig_rows ["self"] (defScope st_Dig_rows) := ⟨rfl, rfl, rfl, by decide +kernel, rfl, by decide +kernel, by decide +kernel⟩
abbrev N_check_dig : List Str := ["dig"]
theorem sc_check_dig : FnScope N_check_dig ["dig"] (defScope st_check_dig) := ⟨rfl, rfl, rfl, by decide +kernel, rfl, by decide +kernel, by decide +kernel⟩
abbrev N_step_table : List Str := ["rows", "found", "row", "one", "other", "many"]
theorem sc_step_table : FnScope N_step_table ["rows"] (defScope st_step_table) := ⟨rfl, rfl, rfl, by decide +kernel, rfl, by decide +kernel, by decide +kernel⟩
abbrev N_are_doubts : List Str := ["dig", "value", "number"]
theorem sc_are_doubts : FnScope N_are_doubts ["dig", "value"] (defScope st_are_doubts) := ⟨rfl, rfl, rfl, by decide +kernel, rfl, by decide +kernel, by decide +kernel⟩
abbrev N_check_doubts : List Str := ["dig", "doubts"]
theorem sc_check_doubts : FnScope N_check_doubts ["dig", "doubts"] (defScope st_check_doubts) := ⟨rfl, rfl, rfl, by decide +kernel, rfl, by decide +kernel, by decide +kernel⟩
abbrev N_told_steps : List Str := ["dig", "found", "number", "row", "step"]
theorem sc_told_steps : FnScope N_told_steps ["dig"] (defScope st_told_steps) := ⟨rfl, rfl, rfl, by decide +kernel, rfl, by decide +kernel, by decide +kernel⟩
abbrev N_growth_of : List Str := ["around", "number", "step"]
theorem sc_growth_of : FnScope N_growth_of ["around"] (defScope st_growth_of) := ⟨rfl, rfl, rfl, by decide +kernel, rfl, by decide +kernel, by decide +kernel⟩
abbrev N_doubt_of : List Str := ["doubts", "around", "number", "step"]
theorem sc_doubt_of : FnScope N_doubt_of ["doubts", "around"] (defScope st_doubt_of) := ⟨rfl, rfl, rfl, by decide +kernel, rfl, by decide +kernel, by decide +kernel⟩
abbrev N_back_around : List Str := ["ahead", "unit", "seen", "here", "found", "there"]
theorem sc_back_around : FnScope N_back_around ["ahead", "unit"] (defScope st_back_around) := ⟨rfl, rfl, rfl, by decide +kernel, rfl, by decide +kernel, by decide +kernel⟩
abbrev N_raised : List Str := ["units", "told", "weights", "far", "ahead", "last", "unit", "lap", "part", "weight", "one", "other", "many"]
theorem sc_raised : FnScope N_raised ["units", "told", "weights"] (defScope st_raised) := ⟨rfl, rfl, rfl, by decide +kernel, rfl, by decide +kernel, by decide +kernel⟩
abbrev N_weights_of : List Str := ["told", "doubts", "top", "low", "number", "step"]
theorem sc_weights_of : FnScope N_weights_of ["told", "doubts", "top", "low"] (defScope st_weights_of) := ⟨rfl, rfl, rfl, by decide +kernel, rfl, by decide +kernel, by decide +kernel⟩
abbrev N_common_of : List Str := ["one", "other"]
theorem sc_common_of : FnScope N_common_of ["one", "other"] (defScope st_common_of) := ⟨rfl, rfl, rfl, by decide +kernel, rfl, by decide +kernel, by decide +kernel⟩
abbrev N_share_of : List Str := ["dig", "doubts", "told", "top", "low", "best", "around", "growth", "doubt", "factor"]
theorem sc_share_of : FnScope N_share_of ["dig", "doubts"] (defScope st_share_of) := ⟨rfl, rfl, rfl, by decide +kernel, rfl, by decide +kernel, by decide +kernel⟩
abbrev N_loose_years : List Str := ["dig", "doubts", "years", "told", "far", "unit"]
theorem sc_loose_years : FnScope N_loose_years ["dig", "doubts", "years"] (defScope st_loose_years) := ⟨rfl, rfl, rfl, by decide +kernel, rfl, by decide +kernel, by decide +kernel⟩
abbrev N_wrong : List Str := ["dig", "doubts", "top", "low", "around", "years"]
theorem sc_wrong : FnScope N_wrong ["dig", "doubts"] (defScope st_wrong) := ⟨rfl, rfl, rfl, by decide +kernel, rfl, by decide +kernel, by decide +kernel⟩
abbrev N_is_loose_of : List Str := ["dig", "doubts", "years", "value", "year", "when", "number", "one", "other", "many"]
theorem sc_is_loose_of : FnScope N_is_loose_of ["dig", "doubts", "years", "value"] (defScope st_is_loose_of) := ⟨rfl, rfl, rfl, by decide +kernel, rfl, by decide +kernel, by decide +kernel⟩
abbrev N_is_loose : List Str := ["dig", "doubts", "years", "value"]
theorem sc_is_loose : FnScope N_is_loose ["dig", "doubts", "years", "value"] (defScope st_is_loose) := ⟨rfl, rfl, rfl, by decide +kernel, rfl, by decide +kernel, by decide +kernel⟩
abbrev N_check_share : List Str := ["dig", "doubts", "top", "low", "around"]
theorem sc_check_share : FnScope N_check_share ["dig", "doubts"] (defScope st_check_share) := ⟨rfl, rfl, rfl, by decide +kernel, rfl, by decide +kernel, by decide +kernel⟩
abbrev N_share : List Str := ["dig", "doubts"]
theorem sc_share : FnScope N_share ["dig", "doubts"] (defScope st_share) := ⟨rfl, rfl, rfl, by decide +kernel, rfl, by decide +kernel, by decide +kernel⟩
abbrev N_alone : List Str := ["dig", "found", "number", "top", "low", "around"]
theorem sc_alone : FnScope N_alone ["dig"] (defScope st_alone) := ⟨rfl, rfl, rfl, by decide +kernel, rfl, by decide +kernel, by decide +kernel⟩
abbrev N_is_enough : List Str := ["dig", "doubts", "years", "told"]
theorem sc_is_enough : FnScope N_is_enough ["dig", "doubts", "years"] (defScope st_is_enough) := ⟨rfl, rfl, rfl, by decide +kernel, rfl, by decide +kernel, by decide +kernel⟩
abbrev N_some_of : List Str := ["many", "amount", "rows", "lap", "longer", "row", "at"]
theorem sc_some_of : FnScope N_some_of ["many", "amount"] (defScope st_some_of) := ⟨rfl, rfl, rfl, by decide +kernel, rfl, by decide +kernel, by decide +kernel⟩
abbrev N_fewest_in_doubt : List Str := ["dig", "years", "amount", "doubts"]
theorem sc_fewest_in_doubt : FnScope N_fewest_in_doubt ["dig", "years"] (defScope st_fewest_in_doubt) := ⟨rfl, rfl, rfl, by decide +kernel, rfl, by decide +kernel, by decide +kernel⟩
abbrev N_Years___init__ : List Str := ["self", "units", "table", "begun", "one", "other", "unit", "lap"]
theorem sc_Years___init__ : FnScope N_Years___init__ ["self", "units", "table", "begun"] (defScope st_Years___init__) := ⟨rfl, rfl, rfl, by decide +kernel, rfl, by decide +kernel, by decide +kernel⟩
abbrev N_Years_go : List Str := ["self", "found", "one", "other", "many"]
theorem sc_Years_go : FnScope N_Years_go ["self"] (defScope st_Years_go) := ⟨rfl, rfl, rfl, by decide +kernel, rfl, by decide +kernel, by decide +kernel⟩
abbrev N_Years_ring : List Str := ["self", "here", "unit", "found"]
theorem sc_Years_ring : FnScope N_Years_ring ["self"] (defScope st_Years_ring) := ⟨rfl, rfl, rfl, by decide +kernel, rfl, by decide +kernel, by decide +kernel⟩
abbrev N_ring_of : List Str := ["dig"]
theorem sc_ring_of : FnScope N_ring_of ["dig"] (defScope st_ring_of) := ⟨rfl, rfl, rfl, by decide +kernel, rfl, by decide +kernel, by decide +kernel⟩
abbrev N_ring : List Str := ["dig"]
theorem sc_ring : FnScope N_ring ["dig"] (defScope st_ring) := ⟨rfl, rfl, rfl, by decide +kernel, rfl, by decide +kernel, by decide +kernel⟩
abbrev N__law_pot : List Str := ["script", "place", "cell", "own", "small"]
theorem sc__law_pot : FnScope N__law_pot ["script", "place"] (defScope st__law_pot) := ⟨rfl, rfl, rfl, by decide +kernel, rfl, by decide +kernel, by decide +kernel⟩
abbrev N__law_take : List Str := ["pot", "upto", "digit", "prime", "blend"]
theorem sc__law_take : FnScope N__law_take ["pot", "upto"] (defScope st__law_take) := ⟨rfl, rfl, rfl, by decide +kernel, rfl, by decide +kernel, by decide +kernel⟩
abbrev N__law_of : List Str := ["pot", "some"]
theorem sc__law_of : FnScope N__law_of ["pot", "some"] (defScope st__law_of) := ⟨rfl, rfl, rfl, by decide +kernel, rfl, by decide +kernel, by decide +kernel⟩
abbrev N__law_cells : List Str := ["script", "most"]
theorem sc__law_cells : FnScope N__law_cells ["script", "most"] (defScope st__law_cells) := ⟨rfl, rfl, rfl, by decide +kernel, rfl, by decide +kernel, by decide +kernel⟩
abbrev N__law_some : List Str := ["pot", "pool", "amount", "left", "found", "lap"]
theorem sc__law_some : FnScope N__law_some ["pot", "pool", "amount"] (defScope st__law_some) := ⟨rfl, rfl, rfl, by decide +kernel, rfl, by decide +kernel, by decide +kernel⟩
abbrev N__law_row : List Str := ["pot", "units", "most", "one", "other", "word"]
theorem sc__law_row : FnScope N__law_row ["pot", "units", "most"] (defScope st__law_row) := ⟨rfl, rfl, rfl, by decide +kernel, rfl, by decide +kernel, by decide +kernel⟩
abbrev N__law_text : List Str := ["own", "lines", "unit", "part", "row"]
theorem sc__law_text : FnScope N__law_text ["own"] (defScope st__law_text) := ⟨rfl, rfl, rfl, by decide +kernel, rfl, by decide +kernel, by decide +kernel⟩
abbrev N__law_row_steps : List Str := ["row"]
theorem sc__law_row_steps : FnScope N__law_row_steps ["row"] (defScope st__law_row_steps) := ⟨rfl, rfl, rfl, by decide +kernel, rfl, by decide +kernel, by decide +kernel⟩
abbrev N__law_drawn : List Str := ["pot", "names", "own", "lap", "row"]
theorem sc__law_drawn : FnScope N__law_drawn ["pot", "names"] (defScope st__law_drawn) := ⟨rfl, rfl, rfl, by decide +kernel, rfl, by decide +kernel, by decide +kernel⟩
abbrev N__law_grows : List Str := ["own", "doubts", "by", "far", "at", "row", "one", "other", "n", "many", "unit", "over"]
theorem sc__law_grows : FnScope N__law_grows ["own", "doubts", "by"] (defScope st__law_grows) := ⟨rfl, rfl, rfl, by decide +kernel, rfl, by decide +kernel, by decide +kernel⟩
abbrev N__law_due : List Str := ["own", "doubts", "rest", "at", "row", "by"]
theorem sc__law_due : FnScope N__law_due ["own", "doubts"] (defScope st__law_due) := ⟨rfl, rfl, rfl, by decide +kernel, rfl, by decide +kernel, by decide +kernel⟩
abbrev N__law_fewest : List Str := ["own", "by", "lots", "at", "lot", "fine"]
theorem sc__law_fewest : FnScope N__law_fewest ["own", "by"] (defScope st__law_fewest) := ⟨rfl, rfl, rfl, by decide +kernel, rfl, by decide +kernel, by decide +kernel⟩
abbrev N__law_greater : List Str := ["one", "other"]
theorem sc__law_greater : FnScope N__law_greater ["one", "other"] (defScope st__law_greater) := ⟨rfl, rfl, rfl, by decide +kernel, rfl, by decide +kernel, by decide +kernel⟩
abbrev N__law_are_lots_right : List Str := ["pot", "owns", "digs", "whole", "many", "lots", "own", "at", "both", "due", "lot", "told", "parts", "dig", "one", "part", "shares"]
theorem sc__law_are_lots_right : FnScope N__law_are_lots_right ["pot", "owns", "digs", "whole"] (defScope st__law_are_lots_right) := ⟨rfl, rfl, rfl, by decide +kernel, rfl, by decide +kernel, by decide +kernel⟩
abbrev N__law_right : List Str := ["pot", "owns", "rows", "digs", "whole", "own", "grows", "dig", "due", "is_other", "at", "lap", "by", "parts", "told", "moved"]
theorem sc__law_right : FnScope N__law_right ["pot"] (defScope st__law_right) := ⟨rfl, rfl, rfl, by decide +kernel, rfl, by decide +kernel, by decide +kernel⟩
abbrev N_law : List Str := ["script", "place", "pot", "lap"]
theorem sc_law : FnScope N_law ["script"] (defScope st_law) := ⟨rfl, rfl, rfl, by decide +kernel, rfl, by decide +kernel, by decide +kernel⟩
theorem bt_abs : bootBuiltins "abs" = some (.builtin "abs") := by decide +kernel
theorem bt_all : bootBuiltins "all" = some (.builtin "all") := by decide +kernel
theorem bt_any : bootBuiltins "any" = some (.builtin "any") := by decide +kernel
theorem bt_bool : bootBuiltins "bool" = some (.type "bool") := by decide +kernel
theorem bt_dict : bootBuiltins "dict" = some (.type "dict") := by decide +kernel
theorem bt_enumerate : bootBuiltins "enumerate" = some (.type "enumerate") := by decide +kernel
theorem bt_int : bootBuiltins "int" = some (.type "int") := by decide +kernel
theorem bt_isinstance : bootBuiltins "isinstance" = some (.builtin "isinstance") := by decide +kernel
theorem bt_len : bootBuiltins "len" = some (.builtin "len") := by decide +kernel
theorem bt_list : bootBuiltins "list" = some (.type "list") := by decide +kernel
theorem bt_max : bootBuiltins "max" = some (.builtin "max") := by decide +kernel
theorem bt_min : bootBuiltins "min" = some (.builtin "min") := by decide +kernel
theorem bt_range : bootBuiltins "range" = some (.type "range") := by decide +kernel
theorem bt_sorted : bootBuiltins "sorted" = some (.builtin "sorted") := by decide +kernel
theorem bt_str : bootBuiltins "str" = some (.type "str") := by decide +kernel
theorem bt_sum : bootBuiltins "sum" = some (.builtin "sum") := by decide +kernel
theorem bt_tuple : bootBuiltins "tuple" = some (.type "tuple") := by decide +kernel
theorem bt_zip : bootBuiltins "zip" = some (.type "zip") := by decide +kernel
/-- where the classes stand -/
structure Cs where
  mk ::
  Reader : Addr
  Dig : Addr
  Years : Addr
structure Fx (K : PySem.W.Frag) (mg : Str → Option Value) (cs : Cs) : Prop where
  f_is_integer : At K mg "is_integer" st_is_integer ["value"]
  f_is_between : At K mg "is_between" st_is_between ["value", "least", "most"]
  f_is_name : At K mg "is_name" st_is_name ["value"]
  f_is_ascending : At K mg "is_ascending" st_is_ascending ["values"]
  f_read_integer : At K mg "read_integer" st_read_integer ["word"]
  f_has_row_form : At K mg "has_row_form" st_has_row_form ["units", "value"]
  f_row_line : At K mg "row_line" st_row_line ["row"]
  f_row_of : At K mg "row_of" st_row_of ["words"]
  f_steps_of : At K mg "steps_of" st_steps_of ["row"]
  f_Reader___init__ : AtI K mg cs.Reader "Reader" "Reader.__init__" st_Reader___init__ ["self"]
  f_Reader_takes : AtM K cs.Reader "takes" "Reader.takes" st_Reader_takes ["self", "line"]
  f_Reader_takes_unit : AtM K cs.Reader "takes_unit" "Reader.takes_unit" st_Reader_takes_unit ["self", "words"]
  f_Reader_found : AtP K cs.Reader "found" "Reader.found" st_Reader_found ["self"]
  f_Dig___init__ : AtI K mg cs.Dig "Dig" "Dig.__init__" st_Dig___init__ ["self", "text"]
  f_Dig_units : AtP K cs.Dig "units" "Dig.units" st_Dig_units ["self"]
  f_Dig_rows : AtP K cs.Dig "rows" "Dig.rows" st_Dig_rows ["self"]
  f_check_dig : At K mg "check_dig" st_check_dig ["dig"]
  f_step_table : At K mg "step_table" st_step_table ["rows"]
  f_are_doubts : At K mg "are_doubts" st_are_doubts ["dig", "value"]
  f_check_doubts : At K mg "check_doubts" st_check_doubts ["dig", "doubts"]
  f_told_steps : At K mg "told_steps" st_told_steps ["dig"]
  f_growth_of : At K mg "growth_of" st_growth_of ["around"]
  f_doubt_of : At K mg "doubt_of" st_doubt_of ["doubts", "around"]
  f_back_around : At K mg "back_around" st_back_around ["ahead", "unit"]
  f_raised : At K mg "raised" st_raised ["units", "told", "weights"]
  f_weights_of : At K mg "weights_of" st_weights_of ["told", "doubts", "top", "low"]
  f_common_of : At K mg "common_of" st_common_of ["one", "other"]
  f_share_of : At K mg "share_of" st_share_of ["dig", "doubts"]
  f_loose_years : At K mg "loose_years" st_loose_years ["dig", "doubts", "years"]
  f_wrong : At K mg "wrong" st_wrong ["dig", "doubts"]
  f_is_loose_of : At K mg "is_loose_of" st_is_loose_of ["dig", "doubts", "years", "value"]
  f_is_loose : At K mg "is_loose" st_is_loose ["dig", "doubts", "years", "value"]
  f_check_share : At K mg "check_share" st_check_share ["dig", "doubts"]
  f_share : At K mg "share" st_share ["dig", "doubts"]
  f_alone : At K mg "alone" st_alone ["dig"]
  f_is_enough : At K mg "is_enough" st_is_enough ["dig", "doubts", "years"]
  f_some_of : At K mg "some_of" st_some_of ["many", "amount"]
  f_fewest_in_doubt : At K mg "fewest_in_doubt" st_fewest_in_doubt ["dig", "years"]
  f_Years___init__ : AtI K mg cs.Years "Years" "Years.__init__" st_Years___init__ ["self", "units", "table", "begun"]
  f_Years_go : AtM K cs.Years "go" "Years.go" st_Years_go ["self"]
  f_Years_ring : AtP K cs.Years "ring" "Years.ring" st_Years_ring ["self"]
  f_ring_of : At K mg "ring_of" st_ring_of ["dig"]
  f_ring : At K mg "ring" st_ring ["dig"]
  f__law_pot : At K mg "_law_pot" st__law_pot ["script", "place"]
  f__law_take : At K mg "_law_take" st__law_take ["pot", "upto"]
  f__law_of : At K mg "_law_of" st__law_of ["pot", "some"]
  f__law_cells : At K mg "_law_cells" st__law_cells ["script", "most"]
  f__law_some : At K mg "_law_some" st__law_some ["pot", "pool", "amount"]
  f__law_row : At K mg "_law_row" st__law_row ["pot", "units", "most"]
  f__law_text : At K mg "_law_text" st__law_text ["own"]
  f__law_row_steps : At K mg "_law_row_steps" st__law_row_steps ["row"]
  f__law_drawn : At K mg "_law_drawn" st__law_drawn ["pot", "names"]
  f__law_grows : At K mg "_law_grows" st__law_grows ["own", "doubts", "by"]
  f__law_due : At K mg "_law_due" st__law_due ["own", "doubts"]
  f__law_fewest : At K mg "_law_fewest" st__law_fewest ["own", "by"]
  f__law_greater : At K mg "_law_greater" st__law_greater ["one", "other"]
  f__law_are_lots_right : At K mg "_law_are_lots_right" st__law_are_lots_right ["pot", "owns", "digs", "whole"]
  f__law_right : At K mg "_law_right" st__law_right ["pot"]
  f_law : At K mg "law" st_law ["script"]
  k_Reader : Cls K cs.Reader
  k_Dig : Cls K cs.Dig
  g_Dig : mg "Dig" = some (.ref cs.Dig)
  i_Dig : C8.InsC K cs.Dig
  k_Years : Cls K cs.Years
  n_Reader_own_units : NoAttr K cs.Reader "own_units"
  n_Reader_own_rows : NoAttr K cs.Reader "own_rows"
  n_Dig_own_text : NoAttr K cs.Dig "own_text"
  n_Dig_own_units : NoAttr K cs.Dig "own_units"
  n_Dig_own_rows : NoAttr K cs.Dig "own_rows"
  n_Years_own_units : NoAttr K cs.Years "own_units"
  n_Years_own_rows : NoAttr K cs.Years "own_rows"
  n_Years_own_far : NoAttr K cs.Years "own_far"
  n_Years_own_ahead : NoAttr K cs.Years "own_ahead"
  n_Years_own_last : NoAttr K cs.Years "own_last"
  b_abs : mg "abs" = none
  b_all : mg "all" = none
  b_any : mg "any" = none
  b_bool : mg "bool" = none
  b_dict : mg "dict" = none
  b_enumerate : mg "enumerate" = none
  b_int : mg "int" = none
  b_isinstance : mg "isinstance" = none
  b_len : mg "len" = none
  b_list : mg "list" = none
  b_max : mg "max" = none
  b_min : mg "min" = none
  b_range : mg "range" = none
  b_sorted : mg "sorted" = none
  b_str : mg "str" = none
  b_sum : mg "sum" = none
  b_tuple : mg "tuple" = none
  b_zip : mg "zip" = none
  c_ABOVE : Cst mg "ABOVE" (.str "above")
  c_BY : Cst mg "BY" (.str "by")
  c_FIGURES : Cst mg "FIGURES" (.str "0123456789")
  c_LEAST : Cst mg "LEAST" (.str "least")
  c_LETTERS : Cst mg "LETTERS" (.str "abcdefghijklmnopqrstuvwxyz")
  c_MOST : Cst mg "MOST" (.str "most")
  c_MOST_ROWS_digs : Cst mg "MOST_ROWS_digs" (.int 200)
  c_MOST_ROWS_wrongly : Cst mg "MOST_ROWS_wrongly" (.int 10)
  c_MOST_SIGNS : Cst mg "MOST_SIGNS" (.int 8)
  c_MOST_SPAN : Cst mg "MOST_SPAN" (.int 9999)
  c_MOST_UNITS : Cst mg "MOST_UNITS" (.int 40)
  c_MOST_YEARS : Cst mg "MOST_YEARS" (.int 9999)
  c_NEVER : Cst mg "NEVER" (.str "never")
  c_SAME : Cst mg "SAME" (.str "same")
  c_UNIT : Cst mg "UNIT" (.str "unit")
end L4
end

section
set_option Elab.async false
set_option linter.all false
set_option maxRecDepth 100000
set_option maxHeartbeats 1000000
set_option autoImplicit false
namespace L4
open PySem L2
section
variable {Pr : Program} {w : World} {K : PySem.W.Frag} {mg : Str → Option Value} {base : Heap} {cs : Cs}
local macro_rules
  | `(tactic| walk_at "sh") => `(tactic| first | exact rfl | assumption | exact sh_str (by first | assumption | decide +kernel) | decide +kernel)
local macro_rules
  | `(tactic| walk_at "ix") => `(tactic| first | exact rd_ixT rfl | exact rd_ixL rfl | exact rd_ixT (by assumption) | exact rd_ixL (by assumption) | exact rd_ixT (atI_nat (by assumption)) | exact rd_ixL (atI_nat (by assumption)))
local macro_rules
  | `(tactic| walk_at "add") => `(tactic| first | exact rd_addI | exact rd_addS (by first | assumption | decide) | exact rd_addT (by first | assumption | exact Nat.le_of_ble_eq_true rfl) | exact rd_addL (by first | assumption | exact Nat.le_of_ble_eq_true rfl))
local macro_rules
  | `(tactic| walk_at "mul") => `(tactic| first | exact rd_mul (.inl (by decide)) | exact rd_mul (.inr (by decide)) | exact rd_mul (.inl (by omega)) | exact rd_mul (.inr (by omega)))
local macro_rules
  | `(tactic| walk_at "mod") => `(tactic| exact rd_mod (by first | decide | omega))
local macro_rules
  | `(tactic| walk_at "div") => `(tactic| exact rd_div ⟨by first | decide | omega, by first | decide | omega⟩)
local macro_rules
  | `(tactic| walk_at "eq") => `(tactic| exact rd_eq (by walk_at "sh") (by walk_at "sh"))
local macro_rules
  | `(tactic| walk_at "ne") => `(tactic| exact rd_ne (by walk_at "sh") (by walk_at "sh"))
local macro_rules
  | `(tactic| walk_at "in") => `(tactic| first | exact rd_inT (by walk_at "sh") (by walk_at "sh") | exact rd_inL (by walk_at "sh") (by walk_at "sh"))
local macro_rules
  | `(tactic| walk_at "nin") => `(tactic| first | exact rd_ninT (by walk_at "sh") (by walk_at "sh") | exact rd_ninL (by walk_at "sh") (by walk_at "sh"))
local macro_rules
  | `(tactic| walk_at "cd") => `(tactic| first | exact cd_lenT | exact cd_lenL | exact cd_intI | exact cd_sS | exact cd_sI (by assumption) | exact cd_lenS (by assumption) | exact cd_intB)
theorem ok_is_integer (T : Fx K mg cs) : Ok Pr w K mg base "is_integer" 1 ["value"] (spD K rIsInteger) := by
  obtain ⟨f, fd, F, b, g⟩ := T.f_is_integer
  refine ⟨f, fd, g, F.kp, b, fn_ok F sc_is_integer (fun xs d h => by obtain ⟨_, rfl, _⟩ := h; rfl) (fun cdv A outer s H E hr => ⟨_, (pss_one (ps_ret (pe_and (pe_callB (kc_isi K) (by rfl) T.b_isinstance bt_isinstance (pa_cons (pv 0) (pa_cons (pe_bltn (v := .ty "int") (by rfl) T.b_int bt_int rfl) pa_nil))) (pe_one (pe_not (pe_callB (kc_isi K) (by rfl) T.b_isinstance bt_isinstance (pa_cons (pv 0) (pa_cons (pe_bltn (v := .ty "bool") (by rfl) T.b_bool bt_bool rfl) pa_nil)))))))), fun xs d hR => ?_⟩)⟩
  obtain ⟨a0, rfl, hR⟩ := hR
  obtain ⟨⟨i, rfl⟩, rfl⟩ := hR
  exact sx_retD (ev_andV (ev_isiA (ev_var rfl) rfl rfl) fun _ => (ev_notV (ev_isiA (ev_var rfl) rfl rfl))) rfl
theorem ok_is_between (T : Fx K mg cs) : Ok Pr w K mg base "is_between" 2 ["value", "least", "most"] (spD K rIsBetween) := by
  obtain ⟨f, fd, F, b, g⟩ := T.f_is_between
  have c_is_integer := ok_is_integer (Pr := Pr) (w := w) (base := base) T
  refine ⟨f, fd, g, F.kp, b, fn_ok F sc_is_between (fun xs d h => by obtain ⟨_, _, _, rfl, _⟩ := h; rfl) (fun cdv A outer s H E hr => ⟨_, (pss_one (ps_ret (pe_and (pe_own c_is_integer (hr.mono (by decide)) (by rfl) (pa_cons (pv 0) pa_nil)) (pe_one (pe_chain op_le op_le (pv 1) (pv 0) (pv 2)))))), fun xs d hR => ?_⟩)⟩
  obtain ⟨a0, a1, a2, rfl, hR⟩ := hR
  obtain ⟨i, j, k, rfl, rfl, rfl, rfl⟩ := hR
  exact sx_retD (ev_andV (ev_call (ea_cons (ev_var rfl) ea_nil) (⟨_, rfl, ⟨i, rfl⟩, rfl⟩)) fun _ => (ev_chain (ev_var rfl) (ev_var rfl) rd_le (fun _ => (ev_var rfl)) (fun _ => rd_le))) rfl
theorem ok_is_name (T : Fx K mg cs) : Ok Pr w K mg base "is_name" 1 ["value"] (spD K rIsName) := by
  obtain ⟨f, fd, F, b, g⟩ := T.f_is_name
  refine ⟨f, fd, g, F.kp, b, fn_ok F sc_is_name (fun xs d h => by obtain ⟨_, rfl, _⟩ := h; rfl) (fun cdv A outer s H E hr => ⟨_, (pss_cons (ps_if (PW.pt (pw_or (pt_not (pt_val (pe_callB (kc_isi K) (by rfl) T.b_isinstance bt_isinstance (pa_cons (pv 0) (pa_cons (pe_bltn (v := .ty "str") (by rfl) T.b_str bt_str rfl) pa_nil))))) (pw_or (pt_not (pt_chain (ko_lt K (u0 hr)) op_le pe_int (pe_callB (kc_len K) (by rfl) T.b_len bt_len (pa_cons (pv 0) pa_nil)) (pe_cst T.c_MOST_SIGNS))) (pw_or1 (pt_cmpR (ko_nin K (u65 hr)) (pe_ix (ki_seq K) (pv 0) pe_int (fun _ _ => rfl)) (pe_cst T.c_LETTERS) (by with_unfolding_all rfl)))))) (pss_one (ps_ret pe_bl)) pss_nil)
      (pss_one (ps_ret (pe_callB (kc_all K rfl) (by rfl) T.b_all bt_all (pa_cons (pe_lc (own := [("sign", 1)]) (g := (gName 1)) rfl sc_is_name.nd (pi_str (pv 0)) (blkOk_by (own := [("sign", 1)]) (N := N_is_name) (sc := defScope st_is_name) (by decide +kernel)) (fun _ _ _ _ _ => (pg_name (i := 1) sc_is_name.nd rfl (by first | exact Or.inl rfl | exact Or.inr rfl))) (fun _ _ _ _ _ => pts_nil) (fun _ _ _ _ _ => (pe_or (pe_cmpR (ko_in K (u65 hr)) (pv 1) (pe_cst T.c_LETTERS) (by with_unfolding_all rfl)) (pe_one (pe_cmpR (ko_in K (u65 hr)) (pv 1) (pe_cst T.c_FIGURES) (by with_unfolding_all rfl)))))) pa_nil))))), fun xs d hR => ?_⟩)⟩
  obtain ⟨a0, rfl, hR⟩ := hR
  obtain ⟨z, rfl, nm, rfl⟩ := hR
  have hl : z.length ≤ 100000 := Nat.le_trans nm.le (by decide)
  have h0 : 0 < z.cps.toList.length := by have := nm.pos; simpa [Str.length] using this
  obtain ⟨c, hc⟩ := get_lt h0
  have p1 : (0 : Int) < z.length := by have := nm.pos; omega
  have p2 : (z.length : Int) ≤ 8 := by have := nm.le; omega
  refine q_no (et_is (et_or (et_not (et_B (ev_isi (ev_var rfl) rfl))) fun _ => et_or (et_not (et_chain ev_int (ev_cb (ea_cons (ev_var rfl) ea_nil) (cd_lenS hl)) rd_ltI (fun _ => ev_int) fun _ => rd_le)) fun _ => et_test (ev_op (ev_op (ev_var rfl) ev_int (rd_ixS (c := c) (atI_nat (j := 0) hc) hl)) ev_str (rd_ninS (z := letters)))) ?_) ?_
  · simp [p1, p2, nm.first c hc, nm.pos]
  · refine sx_ret (ev_is (ev_allM (lc1 z.cps.toList (fun c => .str ⟨#[c]⟩) (fun c => .bool (decide (c ∈ letters.cps.toList) || decide (c ∈ figures.cps.toList))) (eI_str (ev_var rfl)).r (by show z.cps.size ≤ _ ; exact Nat.le_trans nm.le (by decide)) fun c _ => ev_orV (ev_op (ev_var rfl) (ev_str (x := letters)) rd_inS) fun _ => ev_op (ev_var rfl) (ev_str (x := figures)) rd_inS).rl) ?_) rfl
    congr 1
    rw [List.all_eq_true]
    intro c hc
    simp only [Bool.or_eq_true, decide_eq_true_eq]
    exact nm.all c hc
theorem ok_is_ascending (T : Fx K mg cs) : Ok Pr w K mg base "is_ascending" 1 ["values"] (spD K rIsAscI) := by
  obtain ⟨f, fd, F, b, g⟩ := T.f_is_ascending
  refine ⟨f, fd, g, F.kp, b, fn_ok F sc_is_ascending (fun xs d h => by obtain ⟨_, rfl, _⟩ := h; rfl) (fun cdv A outer s H E hr => ⟨_, (pss_one (ps_ret (pe_callB (kc_all K rfl) (by rfl) T.b_all bt_all (pa_cons (pe_lc (own := [("one", 1), ("other", 2)]) (g := (gTup K 2 (gCons (gName 1) (gCons (gName 2) gNil)))) rfl sc_is_ascending.nd (kw_z2 K (by rfl) T.b_zip (pa_cons (pv 0) (pa_cons (pe_slice (ks_g K) (pv 0) (po_some pe_int) po_none) pa_nil))) (blkOk_by (own := [("one", 1), ("other", 2)]) (N := N_is_ascending) (sc := defScope st_is_ascending) (by decide +kernel)) (fun _ _ _ _ _ => (kg_tup K rfl (pgs_cons (pg_name (i := 1) sc_is_ascending.nd rfl (by first | exact Or.inl rfl | exact Or.inr rfl)) (pgs_cons (pg_name (i := 2) sc_is_ascending.nd rfl (by first | exact Or.inl rfl | exact Or.inr rfl)) pgs_nil)))) (fun _ _ _ _ _ => pts_nil) (fun _ _ _ _ _ => (pe_cmpR (ko_lt K (u0 hr)) (pv 1) (pv 2) (nomark _)))) pa_nil)))), fun xs d hR => ?_⟩)⟩
  obtain ⟨a0, rfl, hR⟩ := hR
  obtain ⟨ns, rfl, hl, rfl⟩ := hR
  refine sx_retD (ev_allM (EnL.rl (lc2 (ns.zip (ns.drop 1)) (fun p => .int p.1) (fun p => .int p.2) (fun p => .bool (decide (p.1 < p.2))) (?hz) (by rw [List.length_zip]; omega) fun p _ => (ev_op (ev_var rfl) (ev_var rfl) rd_ltI)))) rfl
  refine (eIr_z2 (k1 := .t) (k2 := .t) (ev_var rfl).rt (ev_slT (ev_var rfl) (eo_some ev_int) eo_none).rt).is ?_
  rw [show (1 : Int) = ((1 : Nat) : Int) from rfl, cutD_from, ← List.map_drop]
  exact zipD_map _ _ _ _
theorem ok_steps_of (T : Fx K mg cs) : Ok Pr w K mg base "steps_of" 1 ["row"] (spD K rStepsOf) := by
  obtain ⟨f, fd, F, b, g⟩ := T.f_steps_of
  refine ⟨f, fd, g, F.kp, b, fn_ok F sc_steps_of (fun xs d h => by obtain ⟨_, rfl, _⟩ := h; rfl) (fun cdv A outer s H E hr => ⟨_, (pss_cons (ps_if (pt_cmpR (ko_eq K (u64 hr)) (pe_ix (ki_seq K) (pv 0) pe_int (fun _ _ => rfl)) (pe_cst T.c_ABOVE) (nomark _)) (pss_one (ps_ret (pe_tup (pa_cons (pe_tup (pa_cons (pe_ix (ki_seq K) (pv 0) pe_int (fun _ _ => rfl)) (pa_cons (pe_ix (ki_seq K) (pv 0) pe_int (fun _ _ => rfl)) (pa_cons pe_int pa_nil)))) pa_nil)))) pss_nil)
      (pss_cons (ps_if (pt_cmpR (ko_eq K (u64 hr)) (pe_ix (ki_seq K) (pv 0) pe_int (fun _ _ => rfl)) (pe_cst T.c_SAME) (nomark _)) (pss_one (ps_ret (pe_tup (pa_cons (pe_tup (pa_cons (pe_ix (ki_seq K) (pv 0) pe_int (fun _ _ => rfl)) (pa_cons (pe_ix (ki_seq K) (pv 0) pe_int (fun _ _ => rfl)) (pa_cons pe_int pa_nil)))) (pa_cons (pe_tup (pa_cons (pe_ix (ki_seq K) (pv 0) pe_int (fun _ _ => rfl)) (pa_cons (pe_ix (ki_seq K) (pv 0) pe_int (fun _ _ => rfl)) (pa_cons pe_int pa_nil)))) pa_nil))))) pss_nil)
      (pss_cons (ps_if (pt_cmpR (ko_eq K (u64 hr)) (pe_ix (ki_seq K) (pv 0) pe_int (fun _ _ => rfl)) (pe_cst T.c_LEAST) (nomark _)) (pss_one (ps_ret (pe_tup (pa_cons (pe_tup (pa_cons (pe_ix (ki_seq K) (pv 0) pe_int (fun _ _ => rfl)) (pa_cons (pe_ix (ki_seq K) (pv 0) pe_int (fun _ _ => rfl)) (pa_cons (pe_ix (ki_seq K) (pv 0) pe_int (fun _ _ => rfl)) pa_nil)))) pa_nil)))) pss_nil)
      (pss_one (ps_ret (pe_tup (pa_cons (pe_tup (pa_cons (pe_ix (ki_seq K) (pv 0) pe_int (fun _ _ => rfl)) (pa_cons (pe_ix (ki_seq K) (pv 0) pe_int (fun _ _ => rfl)) (pa_cons (pe_op op_sub pe_int (pe_ix (ki_seq K) (pv 0) pe_int (fun _ _ => rfl))) pa_nil)))) pa_nil))))))), fun xs d hR => ?_⟩)⟩
  obtain ⟨a0, rfl, hR⟩ := hR
  obtain ⟨r, rfl, rfl⟩ := hR
  cases r <;> dsimp only [eRow, stepsR]
  · exact q_yesI (et_test (ev_op (ev_op (ev_var rfl) ev_int (by walk_at "ix")) ev_str (by walk_at "eq"))) (by decide) (sx_retD' (ev_tupA (ea_cons (ev_tupA (ea_cons (ev_op (ev_var rfl) ev_int (by walk_at "ix")) (ea_cons (ev_op (ev_var rfl) ev_int (by walk_at "ix")) (ea_cons ev_int ea_nil))) rfl) ea_nil) rfl) rfl)
  · refine q_noI (et_test (ev_op (ev_op (ev_var rfl) ev_int (by walk_at "ix")) ev_str (by walk_at "eq"))) (by decide) ?_
    exact q_yesI (et_test (ev_op (ev_op (ev_var rfl) ev_int (by walk_at "ix")) ev_str (by walk_at "eq"))) (by decide) (sx_retD' (ev_tupA (ea_cons (ev_tupA (ea_cons (ev_op (ev_var rfl) ev_int (by walk_at "ix")) (ea_cons (ev_op (ev_var rfl) ev_int (by walk_at "ix")) (ea_cons ev_int ea_nil))) rfl) (ea_cons (ev_tupA (ea_cons (ev_op (ev_var rfl) ev_int (by walk_at "ix")) (ea_cons (ev_op (ev_var rfl) ev_int (by walk_at "ix")) (ea_cons ev_int ea_nil))) rfl) ea_nil)) rfl) rfl)
  · refine q_noI (et_test (ev_op (ev_op (ev_var rfl) ev_int (by walk_at "ix")) ev_str (by walk_at "eq"))) (by decide) ?_
    refine q_noI (et_test (ev_op (ev_op (ev_var rfl) ev_int (by walk_at "ix")) ev_str (by walk_at "eq"))) (by decide) ?_
    exact q_yesI (et_test (ev_op (ev_op (ev_var rfl) ev_int (by walk_at "ix")) ev_str (by walk_at "eq"))) (by decide) (sx_retD' (ev_tupA (ea_cons (ev_tupA (ea_cons (ev_op (ev_var rfl) ev_int (by walk_at "ix")) (ea_cons (ev_op (ev_var rfl) ev_int (by walk_at "ix")) (ea_cons (ev_op (ev_var rfl) ev_int (by walk_at "ix")) ea_nil))) rfl) ea_nil) rfl) rfl)
  · refine q_noI (et_test (ev_op (ev_op (ev_var rfl) ev_int (by walk_at "ix")) ev_str (by walk_at "eq"))) (by decide) ?_
    refine q_noI (et_test (ev_op (ev_op (ev_var rfl) ev_int (by walk_at "ix")) ev_str (by walk_at "eq"))) (by decide) ?_
    refine q_noI (et_test (ev_op (ev_op (ev_var rfl) ev_int (by walk_at "ix")) ev_str (by walk_at "eq"))) (by decide) ?_
    exact sx_retD (ev_tupA (ea_cons (ev_tupA (ea_cons (ev_op (ev_var rfl) ev_int (by walk_at "ix")) (ea_cons (ev_op (ev_var rfl) ev_int (by walk_at "ix")) (ea_cons (ev_op ev_int (ev_op (ev_var rfl) ev_int (by walk_at "ix")) rd_sub) ea_nil))) rfl) ea_nil) rfl) rfl
theorem ok_read_integer (T : Fx K mg cs) : Ok Pr w K mg base "read_integer" 1 ["word"] (spD K rReadInteger) := by
  obtain ⟨f, fd, F, b, g⟩ := T.f_read_integer
  refine ⟨f, fd, g, F.kp, b, fn_ok F sc_read_integer (fun xs d h => by obtain ⟨_, rfl, _⟩ := h; rfl) (fun cdv A outer s H E hr => ⟨_, (pss_cons (ps_set (i := 1) sc_read_integer.nd rfl (.inl rfl) (pe_ifExp (pt_cmpR (ko_eq K (u64 hr)) (pe_slice sl_str (pv 0) po_none (po_some pe_int)) pe_str (nomark _)) (pe_slice sl_str (pv 0) (po_some pe_int) po_none) (pv 0)))
      (pss_cons (ps_if (PW.pt (pw_or (pt_cmpR (ko_eq K (u64 hr)) (pv 1) pe_str (nomark _)) (pw_or (pt_cmpR op_gt (pe_callB (kc_len K) (by rfl) T.b_len bt_len (pa_cons (pv 1) pa_nil)) pe_int (nomark _)) (pw_or1 (pt_not (pt_val (pe_callB (kc_all K rfl) (by rfl) T.b_all bt_all (pa_cons (pe_lc (own := [("sign", 2)]) (g := (gName 2)) rfl sc_read_integer.nd (pi_str (pv 1)) (blkOk_by (own := [("sign", 2)]) (N := N_read_integer) (sc := defScope st_read_integer) (by decide +kernel)) (fun _ _ _ _ _ => (pg_name (i := 2) sc_read_integer.nd rfl (by first | exact Or.inl rfl | exact Or.inr rfl))) (fun _ _ _ _ _ => pts_nil) (fun _ _ _ _ _ => (pe_cmpR (ko_in K (u65 hr)) (pv 2) (pe_cst T.c_FIGURES) (by with_unfolding_all rfl)))) pa_nil)))))))) (pss_one (ps_ret pe_non)) pss_nil)
      (pss_cons (ps_set (i := 3) sc_read_integer.nd rfl (.inl rfl) (pe_callTy kc_intS (by rfl) T.b_int bt_int (pa_cons (pv 0) pa_nil)))
      (pss_one (ps_ret (pe_ifExp (pt_cmpR (ko_eq K (u64 hr)) (pe_callTy kc_str (by rfl) T.b_str bt_str (pa_cons (pv 3) pa_nil)) (pv 0) (nomark _)) (pv 3) pe_non)))))), fun xs d hR => ?_⟩)⟩
  obtain ⟨a0, rfl, hR⟩ := hR
  obtain ⟨n, ok, rfl, rfl⟩ := hR
  have l1 := ok.len
  have l2 := ok.pos
  have e1 : cutS (nTx n) none (some 1) ≠ ("-" : Str) := cut_first ok
  have s1 : SOk (cutS (nTx n) none (some 1)) := cut_sok ok _ _
  have s2 : SOk (nTx n) := ok.sok
  have hl : (nTx n).length ≤ 100000 := by omega
  refine q_setI (ev_if (b := false) (et_is (et_test (ev_op (ev_slS (ev_var rfl) eo_none (eo_some ev_int) (hl)) ev_str (by walk_at "eq"))) (eqv_str_ne e1)) (fun e => nomatch e) fun _ => (ev_var rfl)) rfl ?_ rfl
  refine q_noI (et_or (et_test (ev_op (ev_var rfl) ev_str (by walk_at "eq"))) fun _ => (et_or (et_test (ev_op (ev_cb (ea_cons (ev_var rfl) ea_nil) (by walk_at "cd")) ev_int rd_gt)) fun _ => (et_not (et_B (ev_allM (EnL.rl (lc1 (nTx n).cps.toList (fun c => .str ⟨#[c]⟩) (fun c => .bool (decide (c ∈ figures.cps.toList))) (eI_str (ev_var rfl)).r (by show (nTx n).cps.size ≤ _; exact Nat.le_trans l1 (by decide)) fun c _ => ev_op (ev_var rfl) (ev_str (x := figures)) rd_inS))))))) ?_ ?_
  · have e2 : nTx n ≠ ("" : Str) := fun e => by rw [e] at l2; exact absurd l2 (by decide +kernel)
    have e3 : ((nTx n).cps.toList.all fun c => decide (c ∈ figures.cps.toList)) = true := by rw [List.all_eq_true]; exact fun c hc => decide_eq_true (ok.all c hc)
    have e4 : ¬ ((12 : Int) < (nTx n).length) := by omega
    rw [eqv_str_ne e2, e3]
    simp [e4]
  refine q_setI (ev_cb (ea_cons (ev_var rfl) ea_nil) (cd_intS ok.txt (by omega))) rfl ?_ rfl
  exact sx_retD (ev_if (b := true) (et_is (et_test (ev_op (ev_cb (ea_cons (ev_var rfl) ea_nil) (cd_sI (log_num ok.lt))) (ev_var rfl) (by walk_at "eq"))) (eqv_str_eq rfl)) (fun _ => (ev_var rfl)) fun e => nomatch e) rfl
theorem ok_row_line (T : Fx K mg cs) : Ok Pr w K mg base "row_line" 1 ["row"] (spD K rRowLine) := by
  obtain ⟨f, fd, F, b, g⟩ := T.f_row_line
  refine ⟨f, fd, g, F.kp, b, fn_ok F sc_row_line (fun xs d h => by obtain ⟨_, rfl, _⟩ := h; rfl) (fun cdv A outer s H E hr => ⟨_, (pss_one (ps_ret (kp_join K pe_str (pe_lc (own := [("part", 1)]) (g := (gName 1)) rfl sc_row_line.nd (kw_seq K (pv 0)) (blkOk_by (own := [("part", 1)]) (N := N_row_line) (sc := defScope st_row_line) (by decide +kernel)) (fun _ _ _ _ _ => (pg_name (i := 1) sc_row_line.nd rfl (by first | exact Or.inl rfl | exact Or.inr rfl))) (fun _ _ _ _ _ => pts_nil) (fun _ _ _ _ _ => (pe_callTy kc_str (by rfl) T.b_str bt_str (pa_cons (pv 1) pa_nil))))))), fun xs d hR => ?_⟩)⟩
  obtain ⟨a0, rfl, hR⟩ := hR
  obtain ⟨r, ok, la, lb, rfl, rfl⟩ := hR
  exact sx_retD (ev_line rfl rfl ok la lb) rfl
theorem ok_row_of (T : Fx K mg cs) : Ok Pr w K mg base "row_of" 2 ["words"] (spD K rRowOf) := by
  obtain ⟨f, fd, F, b, g⟩ := T.f_row_of
  have c_read_integer := ok_read_integer (Pr := Pr) (w := w) (base := base) T
  refine ⟨f, fd, g, F.kp, b, fn_ok F sc_row_of (fun xs d h => by obtain ⟨_, rfl, _⟩ := h; rfl) (fun cdv A outer s H E hr => ⟨_, (pss_cons (ps_if (pt_cmpR (ko_eq K (u64 hr)) (pe_callB (kc_len K) (by rfl) T.b_len bt_len (pa_cons (pv 0) pa_nil)) pe_int (nomark _)) (pss_one (ps_ret (pe_op (ko_add K) (pe_callTy (kc_tuple K) (by rfl) T.b_tuple bt_tuple (pa_cons (pe_slice (ks_g K) (pv 0) po_none (po_some pe_int)) pa_nil)) (pe_tup (pa_cons (pe_own c_read_integer (hr.mono (by decide)) (by rfl) (pa_cons (pe_ix (ki_seq K) (pv 0) pe_int (fun _ _ => rfl)) pa_nil)) pa_nil))))) pss_nil)
      (pss_one (ps_ret (pe_callTy (kc_tuple K) (by rfl) T.b_tuple bt_tuple (pa_cons (pv 0) pa_nil))))), fun xs d hR => ?_⟩)⟩
  obtain ⟨a0, rfl, hR⟩ := hR
  obtain ⟨r, ok, rfl, rfl⟩ := hR
  cases r <;> dsimp only [eRow, wRow, List.map_cons, List.map_nil, Row.n] at ok ⊢
  · refine q_noI (et_test (ev_op (ev_cb (ea_cons (ev_var rfl) ea_nil) (by walk_at "cd")) ev_int (by walk_at "eq"))) rfl ?_
    exact sx_retD (by first | exact ev_tupleT (k := .l) (ev_var rfl)) rfl
  · refine q_noI (et_test (ev_op (ev_cb (ea_cons (ev_var rfl) ea_nil) (by walk_at "cd")) ev_int (by walk_at "eq"))) rfl ?_
    exact sx_retD (by first | exact ev_tupleT (k := .l) (ev_var rfl)) rfl
  · exact q_yesI (et_test (ev_op (ev_cb (ea_cons (ev_var rfl) ea_nil) (by walk_at "cd")) ev_int (by walk_at "eq"))) rfl (sx_retD' (ev_op (by first | exact ev_tupleT (k := .l) (by first | exact ev_slT (ev_var rfl) eo_none (eo_some ev_int) | exact ev_slL (ev_var rfl) eo_none (eo_some ev_int))) (ev_tupA (ea_cons (ev_call (ea_cons (ev_op (ev_var rfl) ev_int (by walk_at "ix")) ea_nil) (⟨_, rfl, _, ok, rfl, rfl⟩)) ea_nil) rfl) (by walk_at "add")) rfl)
  · exact q_yesI (et_test (ev_op (ev_cb (ea_cons (ev_var rfl) ea_nil) (by walk_at "cd")) ev_int (by walk_at "eq"))) rfl (sx_retD' (ev_op (by first | exact ev_tupleT (k := .l) (by first | exact ev_slT (ev_var rfl) eo_none (eo_some ev_int) | exact ev_slL (ev_var rfl) eo_none (eo_some ev_int))) (ev_tupA (ea_cons (ev_call (ea_cons (ev_op (ev_var rfl) ev_int (by walk_at "ix")) ea_nil) (⟨_, rfl, _, ok, rfl, rfl⟩)) ea_nil) rfl) (by walk_at "add")) rfl)
theorem ok_has_row_form (T : Fx K mg cs) : Ok Pr w K mg base "has_row_form" 3 ["units", "value"] (spD K rHasRowForm) := by
  obtain ⟨f, fd, F, b, g⟩ := T.f_has_row_form
  have c_is_between := ok_is_between (Pr := Pr) (w := w) (base := base) T
  refine ⟨f, fd, g, F.kp, b, fn_ok F sc_has_row_form (fun xs d h => by obtain ⟨_, _, rfl, _⟩ := h; rfl) (fun cdv A outer s H E hr => ⟨_, (pss_cons (ps_if (PW.pt (pw_or (pt_not (pt_val (pe_callB (kc_isi K) (by rfl) T.b_isinstance bt_isinstance (pa_cons (pv 1) (pa_cons (pe_bltn (v := .ty "tuple") (by rfl) T.b_tuple bt_tuple rfl) pa_nil))))) (pw_or1 (pt_cmpR (ko_nin K (u65 hr)) (pe_callB (kc_len K) (by rfl) T.b_len bt_len (pa_cons (pv 1) pa_nil)) (pe_tup (pa_cons pe_int (pa_cons pe_int pa_nil))) (by with_unfolding_all rfl))))) (pss_one (ps_ret pe_bl)) pss_nil)
      (pss_cons (ps_if (pt_not (pt_val (pe_callB (kc_all K rfl) (by rfl) T.b_all bt_all (pa_cons (pe_lc (own := [("part", 2)]) (g := (gName 2)) rfl sc_has_row_form.nd (kw_seq K (pe_slice (ks_g K) (pv 1) po_none (po_some pe_int))) (blkOk_by (own := [("part", 2)]) (N := N_has_row_form) (sc := defScope st_has_row_form) (by decide +kernel)) (fun _ _ _ _ _ => (pg_name (i := 2) sc_has_row_form.nd rfl (by first | exact Or.inl rfl | exact Or.inr rfl))) (fun _ _ _ _ _ => pts_nil) (fun _ _ _ _ _ => (pe_callB (kc_isi K) (by rfl) T.b_isinstance bt_isinstance (pa_cons (pv 2) (pa_cons (pe_bltn (v := .ty "str") (by rfl) T.b_str bt_str rfl) pa_nil))))) pa_nil)))) (pss_one (ps_ret pe_bl)) pss_nil)
      (pss_cons (ps_if (PW.pt (pw_or (pt_cmpR (ko_nin K (u65 hr)) (pe_ix (ki_seq K) (pv 1) pe_int (fun _ _ => rfl)) (pv 0) (by with_unfolding_all rfl)) (pw_or (pt_cmpR (ko_nin K (u65 hr)) (pe_ix (ki_seq K) (pv 1) pe_int (fun _ _ => rfl)) (pv 0) (by with_unfolding_all rfl)) (pw_or1 (pt_cmpR (ko_eq K (u64 hr)) (pe_ix (ki_seq K) (pv 1) pe_int (fun _ _ => rfl)) (pe_ix (ki_seq K) (pv 1) pe_int (fun _ _ => rfl)) (nomark _)))))) (pss_one (ps_ret pe_bl)) pss_nil)
      (pss_cons (ps_if (pt_cmpR (ko_eq K (u64 hr)) (pe_callB (kc_len K) (by rfl) T.b_len bt_len (pa_cons (pv 1) pa_nil)) pe_int (nomark _)) (pss_one (ps_ret (pe_cmpR (ko_in K (u65 hr)) (pe_ix (ki_seq K) (pv 1) pe_int (fun _ _ => rfl)) (pe_tup (pa_cons (pe_cst T.c_ABOVE) (pa_cons (pe_cst T.c_SAME) pa_nil))) (by with_unfolding_all rfl)))) pss_nil)
      (pss_one (ps_ret (pe_and (pe_cmpR (ko_in K (u65 hr)) (pe_ix (ki_seq K) (pv 1) pe_int (fun _ _ => rfl)) (pe_tup (pa_cons (pe_cst T.c_LEAST) (pa_cons (pe_cst T.c_MOST) pa_nil))) (by with_unfolding_all rfl)) (pe_one (pe_own c_is_between (hr.mono (by decide)) (by rfl) (pa_cons (pe_ix (ki_seq K) (pv 1) pe_int (fun _ _ => rfl)) (pa_cons pe_int (pa_cons (pe_cst T.c_MOST_SPAN) pa_nil)))))))))))), fun xs d hR => ?_⟩)⟩
  obtain ⟨a0, a1, rfl, hR⟩ := hR
  obtain ⟨k, us, r, rfl, ul, ok, nm, rfl, rfl⟩ := hR
  have ia := ok.ia
  have ib := ok.ib
  have ne := ok.ne
  have sa := nm _ ia
  have sb := nm _ ib
  have lt := ok.num.lt
  have shU : SeqAt.shaped (k.D (us.map .str)) = true := by cases k <;> first | exact sh_strsL nm | exact sh_strsT nm
  have ni : ∀ (x : Str), SOk x → RD K (gNotIn K) (.str x) (k.D (us.map .str)) (.bool (!decide (x ∈ us))) := fun x hx => by
    rw [← any_str]
    cases k
    · exact rd_ninL (sh_str hx) shU
    · exact rd_ninT (sh_str hx) shU
  cases r <;> simp only [Row.a, Row.b, Row.n] at ia ib ne sa sb lt <;> dsimp only [eRow]
  · refine q_noI (et_or (et_not (et_B (ev_isiA (ev_var rfl) rfl rfl))) fun _ => (et_test (ev_op (ev_cb (ea_cons (ev_var rfl) ea_nil) (by walk_at "cd")) (ev_tupA (ea_cons ev_int (ea_cons ev_int ea_nil)) rfl) (by walk_at "nin")))) rfl ?_
    refine q_noI (et_not (et_B (ev_allM (EnL.rl (lcS rfl rfl (by intro d hd; simp only [List.take, List.mem_cons, List.not_mem_nil, or_false] at hd; rcases hd with e | e | e <;> subst e <;> rfl)))))) rfl ?_
    refine q_noI (et_or (et_test (ev_op (ev_op (ev_var rfl) ev_int (by walk_at "ix")) (ev_var rfl) (ni _ sa))) fun _ => (et_or (et_test (ev_op (ev_op (ev_var rfl) ev_int (by walk_at "ix")) (ev_var rfl) (ni _ sb))) fun _ => (et_test (ev_op (ev_op (ev_var rfl) ev_int (by walk_at "ix")) (ev_op (ev_var rfl) ev_int (by walk_at "ix")) (by walk_at "eq"))))) (by simp [ia, ib, eqv_str_ne ne]) ?_
    refine q_yesI (et_test (ev_op (ev_cb (ea_cons (ev_var rfl) ea_nil) (by walk_at "cd")) ev_int (by walk_at "eq"))) rfl (sx_retD' (ev_op (ev_op (ev_var rfl) ev_int (by walk_at "ix")) (ev_tupA (ea_cons ev_str (ea_cons ev_str ea_nil)) rfl) (by walk_at "in")) (congrArg PyData.bool (by decide +kernel)))
  · refine q_noI (et_or (et_not (et_B (ev_isiA (ev_var rfl) rfl rfl))) fun _ => (et_test (ev_op (ev_cb (ea_cons (ev_var rfl) ea_nil) (by walk_at "cd")) (ev_tupA (ea_cons ev_int (ea_cons ev_int ea_nil)) rfl) (by walk_at "nin")))) rfl ?_
    refine q_noI (et_not (et_B (ev_allM (EnL.rl (lcS rfl rfl (by intro d hd; simp only [List.take, List.mem_cons, List.not_mem_nil, or_false] at hd; rcases hd with e | e | e <;> subst e <;> rfl)))))) rfl ?_
    refine q_noI (et_or (et_test (ev_op (ev_op (ev_var rfl) ev_int (by walk_at "ix")) (ev_var rfl) (ni _ sa))) fun _ => (et_or (et_test (ev_op (ev_op (ev_var rfl) ev_int (by walk_at "ix")) (ev_var rfl) (ni _ sb))) fun _ => (et_test (ev_op (ev_op (ev_var rfl) ev_int (by walk_at "ix")) (ev_op (ev_var rfl) ev_int (by walk_at "ix")) (by walk_at "eq"))))) (by simp [ia, ib, eqv_str_ne ne]) ?_
    refine q_yesI (et_test (ev_op (ev_cb (ea_cons (ev_var rfl) ea_nil) (by walk_at "cd")) ev_int (by walk_at "eq"))) rfl (sx_retD' (ev_op (ev_op (ev_var rfl) ev_int (by walk_at "ix")) (ev_tupA (ea_cons ev_str (ea_cons ev_str ea_nil)) rfl) (by walk_at "in")) (congrArg PyData.bool (by decide +kernel)))
  · refine q_noI (et_or (et_not (et_B (ev_isiA (ev_var rfl) rfl rfl))) fun _ => (et_test (ev_op (ev_cb (ea_cons (ev_var rfl) ea_nil) (by walk_at "cd")) (ev_tupA (ea_cons ev_int (ea_cons ev_int ea_nil)) rfl) (by walk_at "nin")))) rfl ?_
    refine q_noI (et_not (et_B (ev_allM (EnL.rl (lcS rfl rfl (by intro d hd; simp only [List.take, List.mem_cons, List.not_mem_nil, or_false] at hd; rcases hd with e | e | e <;> subst e <;> rfl)))))) rfl ?_
    refine q_noI (et_or (et_test (ev_op (ev_op (ev_var rfl) ev_int (by walk_at "ix")) (ev_var rfl) (ni _ sa))) fun _ => (et_or (et_test (ev_op (ev_op (ev_var rfl) ev_int (by walk_at "ix")) (ev_var rfl) (ni _ sb))) fun _ => (et_test (ev_op (ev_op (ev_var rfl) ev_int (by walk_at "ix")) (ev_op (ev_var rfl) ev_int (by walk_at "ix")) (by walk_at "eq"))))) (by simp [ia, ib, eqv_str_ne ne]) ?_
    refine q_noI (et_test (ev_op (ev_cb (ea_cons (ev_var rfl) ea_nil) (by walk_at "cd")) ev_int (by walk_at "eq"))) rfl ?_
    refine sx_retD (ev_andV (ev_op (ev_op (ev_var rfl) ev_int (by walk_at "ix")) (ev_tupA (ea_cons ev_str (ea_cons ev_str ea_nil)) rfl) (by walk_at "in")) fun _ => (ev_call (ea_cons (ev_op (ev_var rfl) ev_int (by walk_at "ix")) (ea_cons ev_int (ea_cons ev_int ea_nil))) (⟨_, _, _, rfl, _, _, _, rfl, rfl, rfl, rfl⟩))) ?_
    rename_i n
    have e1 : ((0 : Int) ≤ (n : Int)) := by omega
    have e2 : ((n : Int) ≤ 9999) := by omega
    simp only [e1, e2]
    exact congrArg PyData.bool (by decide +kernel)
  · refine q_noI (et_or (et_not (et_B (ev_isiA (ev_var rfl) rfl rfl))) fun _ => (et_test (ev_op (ev_cb (ea_cons (ev_var rfl) ea_nil) (by walk_at "cd")) (ev_tupA (ea_cons ev_int (ea_cons ev_int ea_nil)) rfl) (by walk_at "nin")))) rfl ?_
    refine q_noI (et_not (et_B (ev_allM (EnL.rl (lcS rfl rfl (by intro d hd; simp only [List.take, List.mem_cons, List.not_mem_nil, or_false] at hd; rcases hd with e | e | e <;> subst e <;> rfl)))))) rfl ?_
    refine q_noI (et_or (et_test (ev_op (ev_op (ev_var rfl) ev_int (by walk_at "ix")) (ev_var rfl) (ni _ sa))) fun _ => (et_or (et_test (ev_op (ev_op (ev_var rfl) ev_int (by walk_at "ix")) (ev_var rfl) (ni _ sb))) fun _ => (et_test (ev_op (ev_op (ev_var rfl) ev_int (by walk_at "ix")) (ev_op (ev_var rfl) ev_int (by walk_at "ix")) (by walk_at "eq"))))) (by simp [ia, ib, eqv_str_ne ne]) ?_
    refine q_noI (et_test (ev_op (ev_cb (ea_cons (ev_var rfl) ea_nil) (by walk_at "cd")) ev_int (by walk_at "eq"))) rfl ?_
    refine sx_retD (ev_andV (ev_op (ev_op (ev_var rfl) ev_int (by walk_at "ix")) (ev_tupA (ea_cons ev_str (ea_cons ev_str ea_nil)) rfl) (by walk_at "in")) fun _ => (ev_call (ea_cons (ev_op (ev_var rfl) ev_int (by walk_at "ix")) (ea_cons ev_int (ea_cons ev_int ea_nil))) (⟨_, _, _, rfl, _, _, _, rfl, rfl, rfl, rfl⟩))) ?_
    rename_i n
    have e1 : ((0 : Int) ≤ (n : Int)) := by omega
    have e2 : ((n : Int) ≤ 9999) := by omega
    simp only [e1, e2]
    exact congrArg PyData.bool (by decide +kernel)
end
end L4
end

section
set_option Elab.async false
set_option linter.all false
set_option maxRecDepth 100000
set_option maxHeartbeats 1000000
set_option autoImplicit false
namespace L4
open PySem L2
section
variable {Pr : Program} {w : World} {K : PySem.W.Frag} {mg : Str → Option Value} {base : Heap} {cs : Cs}
local macro_rules
  | `(tactic| walk_at "sh") => `(tactic| first | exact rfl | assumption | exact sh_str (by first | assumption | decide +kernel) | decide +kernel)
local macro_rules
  | `(tactic| walk_at "ix") => `(tactic| first | exact rd_ixT rfl | exact rd_ixL rfl | exact rd_ixT (by assumption) | exact rd_ixL (by assumption) | exact rd_ixT (atI_nat (by assumption)) | exact rd_ixL (atI_nat (by assumption)))
local macro_rules
  | `(tactic| walk_at "add") => `(tactic| first | exact rd_addI | exact rd_addS (by first | assumption | decide) | exact rd_addT (by first | assumption | exact Nat.le_of_ble_eq_true rfl) | exact rd_addL (by first | assumption | exact Nat.le_of_ble_eq_true rfl))
local macro_rules
  | `(tactic| walk_at "mul") => `(tactic| first | exact rd_mul (.inl (by decide)) | exact rd_mul (.inr (by decide)) | exact rd_mul (.inl (by omega)) | exact rd_mul (.inr (by omega)))
local macro_rules
  | `(tactic| walk_at "mod") => `(tactic| exact rd_mod (by first | decide | omega))
local macro_rules
  | `(tactic| walk_at "div") => `(tactic| exact rd_div ⟨by first | decide | omega, by first | decide | omega⟩)
local macro_rules
  | `(tactic| walk_at "eq") => `(tactic| exact rd_eq (by walk_at "sh") (by walk_at "sh"))
local macro_rules
  | `(tactic| walk_at "ne") => `(tactic| exact rd_ne (by walk_at "sh") (by walk_at "sh"))
local macro_rules
  | `(tactic| walk_at "in") => `(tactic| first | exact rd_inT (by walk_at "sh") (by walk_at "sh") | exact rd_inL (by walk_at "sh") (by walk_at "sh"))
local macro_rules
  | `(tactic| walk_at "nin") => `(tactic| first | exact rd_ninT (by walk_at "sh") (by walk_at "sh") | exact rd_ninL (by walk_at "sh") (by walk_at "sh"))
local macro_rules
  | `(tactic| walk_at "cd") => `(tactic| first | exact cd_lenT | exact cd_lenL | exact cd_intI | exact cd_sS | exact cd_sI (by assumption) | exact cd_lenS (by assumption) | exact cd_intB)
theorem ok_Reader___init__ (T : Fx K mg cs) : OkI Pr w K mg base cs.Reader "Reader" 1 ["self"] (spM K cs.Reader rPreInit (rPoInit cs.Reader)) := by
  obtain ⟨f, fd, F, b, g⟩ := T.f_Reader___init__
  refine ⟨f, fd, g.1, g.2, b, fn_okM F sc_Reader___init__ (fun xs h => h.len) (fun cdv A outer s H E hr => ⟨_, (pss_cons (kps_fld K (pv 0) (pe_lst pa_nil) rfl)
      (pss_one (kps_fld K (pv 0) (pe_lst pa_nil) rfl))), fun xs hP => ?_⟩)⟩
  obtain rfl := hP
  refine sx_seq1 (sx_fld (es_new (en_lst ea_nil (by decide)).ek (es_lo (l := 0) rfl ⟨0, cs.Reader, [], rfl, rfl, rfl, T.k_Reader, T.n_Reader_own_units, by decide, rfl⟩))) ?_
  refine sx_fld (es_new (en_lst ea_nil (by decide)).ek (es_lo (l := 0) rfl ⟨0, cs.Reader, _, rfl, rfl, rfl, T.k_Reader, T.n_Reader_own_rows, Nat.le_of_ble_eq_true rfl, ?_⟩))
  refine ⟨fun o ho => ?_, rfl⟩
  have ho' : o ∈ rdO cs.Reader [] [] := ho
  simp only [rdO, List.mem_cons, List.not_mem_nil, or_false] at ho'
  rcases ho' with e | e | e <;> subst e <;> rfl
theorem ok_Reader_takes_unit (T : Fx K mg cs) : OkM Pr w K mg base cs.Reader "takes_unit" 2 ["self", "words"] (spF K tuX (tuZ cs.Reader) (tuPo cs.Reader)) := by
  obtain ⟨f, fd, F, b, g⟩ := T.f_Reader_takes_unit
  have c_is_name := ok_is_name (Pr := Pr) (w := w) (base := base) T
  refine ⟨f, fd, T.k_Reader, g, b, fn_okF F sc_Reader_takes_unit (fun i => rfl) (fun cdv A outer s H E hr => ⟨_, (pss_cons (ps_if (PW.pt (pw_or (pt_cmpR (ko_ne K (u64 hr)) (pe_callB (kc_len K) (by rfl) T.b_len bt_len (pa_cons (pv 1) pa_nil)) pe_int (nomark _)) (pw_or (pt_cmpR (ko_ne K (u64 hr)) (kp_fld K (pv 0)) (pe_lst pa_nil) (nomark _)) (pw_or1 (pt_cmpR (ko_eq K (u64 hr)) (pe_callB (kc_len K) (by rfl) T.b_len bt_len (pa_cons (kp_fld K (pv 0)) pa_nil)) (pe_cst T.c_MOST_UNITS) (nomark _)))))) (pss_one (ps_ret pe_bl)) pss_nil)
      (pss_cons (ps_if (PW.pt (pw_or (pt_not (pt_val (pe_own c_is_name (hr.mono (by decide)) (by rfl) (pa_cons (pe_ix (ki_seq K) (pv 1) pe_int (fun _ _ => rfl)) pa_nil)))) (pw_or1 (pt_cmpR (ko_in K (u65 hr)) (pe_ix (ki_seq K) (pv 1) pe_int (fun _ _ => rfl)) (kp_fld K (pv 0)) (by with_unfolding_all rfl))))) (pss_one (ps_ret pe_bl)) pss_nil)
      (pss_cons (ps_expr (pe_bm PySem.F.plainAttrs_list PySem.F.slot_list_append PySem.F.type_list_append mt_append (kp_fld K (pv 0)) (pa_cons (pe_ix (ki_seq K) (pv 1) pe_int (fun _ _ => rfl)) pa_nil)))
      (pss_one (ps_ret pe_bl))))), fun i => ?_⟩)⟩
  obtain ⟨u, us, nm, nms, nu, le⟩ := i
  have k1 : ¬ ((us.length : Int) = 40) := by omega
  have su : SOk u := nm.sok
  have sus : SeqAt.shaped (.list (us.map .str)) = true := sh_strsL fun v hv => (nms v hv).sok
  refine q_noI (et_view (l := 1) rfl rfl (et_view (l := 2) rfl rfl (et_or (et_test (ev_op (ev_cb (ea_cons (ev_var rfl) ea_nil) (by walk_at "cd")) ev_int (by walk_at "ne"))) fun _ => (et_or (et_test (ev_op (by first | exact ev_fldO rfl rfl T.k_Reader T.n_Reader_own_rows rfl | exact ev_fld (ev_var rfl) T.k_Reader T.n_Reader_own_rows rfl) (ev_lstA ea_nil rfl) (by walk_at "ne"))) fun _ => (et_test (ev_op (ev_cb (ea_cons (by first | exact ev_fldO rfl rfl T.k_Reader T.n_Reader_own_units rfl | exact ev_fld (ev_var rfl) T.k_Reader T.n_Reader_own_units rfl) ea_nil) (by walk_at "cd")) ev_int (by walk_at "eq"))))))) (by simp [PyData.eqv, PyData.eqvAll, k1, rdO]) ?_
  refine q_noI (et_view (l := 1) rfl rfl (et_or (et_not (et_B (ev_call (ea_cons (ev_op (ev_var rfl) ev_int (by walk_at "ix")) ea_nil) (⟨_, rfl, _, rfl, nm, rfl⟩)))) fun _ => (et_test (ev_op (ev_op (ev_var rfl) ev_int (by walk_at "ix")) (by first | exact ev_fldO rfl rfl T.k_Reader T.n_Reader_own_units rfl | exact ev_fld (ev_var rfl) T.k_Reader T.n_Reader_own_units rfl) (by walk_at "in"))))) (by rw [any_str]; simp [nu]) ?_
  refine sx_seq1 (sx_app (t := tVar 0) (es_fld (es_lo (l := 0) rfl ⟨0, cs.Reader, _, .lo 1, rfl, rfl, T.k_Reader, T.n_Reader_own_units, rfl, 1, _, rfl, rfl, es_ev (ev_op (ev_var rfl) ev_int (by walk_at "ix")) ⟨_, _, rfl, rfl, by show (us.map PyData.str).length < _; rw [List.length_map]; omega, rfl⟩⟩))) ?_
  have e : ∀ x : D4, x = (startG N_Reader_takes_unit (tuX ⟨u, us, nm, nms, nu, le⟩) (tuZ cs.Reader ⟨u, us, nm, nms, nu, le⟩)).put 1 (.lst (us.map .str ++ [.str u])) → x.st = rdO cs.Reader (us ++ [u]) [] := fun x hx => by
    subst hx
    show [_, _, _] = [_, _, _]
    rw [List.map_append]; rfl
  refine sx_ret ev_bl ⟨fun o ho => rd_live o (us := us ++ [u]) (rs := []) (C := cs.Reader) ?_, rfl, ?_⟩
  · have h := e _ rfl
    rw [← h]
    exact List.mem_of_mem_take ho
  · have h := e _ rfl
    exact (congrArg (List.take 3) h).trans rfl
theorem ok_Reader_found (T : Fx K mg cs) : OkP Pr w K mg base cs.Reader "found" 1 ["self"] (spD K (rFound cs.Reader)) := by
  obtain ⟨p, f, fd, F, b, g⟩ := T.f_Reader_found
  refine ⟨p, f, fd, T.k_Reader, g, b, fn_ok F sc_Reader_found (fun xs d h => by obtain ⟨_, rfl, _⟩ := h; rfl) (fun cdv A outer s H E hr => ⟨_, (pss_one (ps_ret (pe_tup (pa_cons (pe_callTy (kc_tuple K) (by rfl) T.b_tuple bt_tuple (pa_cons (kp_fld K (pv 0)) pa_nil)) (pa_cons (pe_callTy (kc_tuple K) (by rfl) T.b_tuple bt_tuple (pa_cons (kp_fld K (pv 0)) pa_nil)) pa_nil))))), fun xs d hR => ?_⟩)⟩
  obtain ⟨a0, rfl, hR⟩ := hR
  obtain ⟨us, rs, rfl, rfl⟩ := hR
  exact sx_retD (ev_tupA (ea_cons (by first | exact ev_tupleT (k := .l) (by first | exact ev_fldO rfl rfl T.k_Reader T.n_Reader_own_units rfl | exact ev_fld (ev_var rfl) T.k_Reader T.n_Reader_own_units rfl)) (ea_cons (by first | exact ev_tupleT (k := .l) (by first | exact ev_fldO rfl rfl T.k_Reader T.n_Reader_own_rows rfl | exact ev_fld (ev_var rfl) T.k_Reader T.n_Reader_own_rows rfl)) ea_nil)) rfl) rfl
end
end L4
end

section
set_option Elab.async false
set_option linter.all false
set_option maxRecDepth 100000
set_option maxHeartbeats 1000000
set_option autoImplicit false
namespace L4
open PySem L2
section
variable {Pr : Program} {w : World} {K : PySem.W.Frag} {mg : Str → Option Value} {base : Heap} {cs : Cs}
local macro_rules
  | `(tactic| walk_at "sh") => `(tactic| first | exact rfl | assumption | exact sh_str (by first | assumption | decide +kernel) | decide +kernel)
local macro_rules
  | `(tactic| walk_at "ix") => `(tactic| first | exact rd_ixT rfl | exact rd_ixL rfl | exact rd_ixT (by assumption) | exact rd_ixL (by assumption) | exact rd_ixT (atI_nat (by assumption)) | exact rd_ixL (atI_nat (by assumption)))
local macro_rules
  | `(tactic| walk_at "add") => `(tactic| first | exact rd_addI | exact rd_addS (by first | assumption | decide) | exact rd_addT (by first | assumption | exact Nat.le_of_ble_eq_true rfl) | exact rd_addL (by first | assumption | exact Nat.le_of_ble_eq_true rfl))
local macro_rules
  | `(tactic| walk_at "mul") => `(tactic| first | exact rd_mul (.inl (by decide)) | exact rd_mul (.inr (by decide)) | exact rd_mul (.inl (by omega)) | exact rd_mul (.inr (by omega)))
local macro_rules
  | `(tactic| walk_at "mod") => `(tactic| exact rd_mod (by first | decide | omega))
local macro_rules
  | `(tactic| walk_at "div") => `(tactic| exact rd_div ⟨by first | decide | omega, by first | decide | omega⟩)
local macro_rules
  | `(tactic| walk_at "eq") => `(tactic| exact rd_eq (by walk_at "sh") (by walk_at "sh"))
local macro_rules
  | `(tactic| walk_at "ne") => `(tactic| exact rd_ne (by walk_at "sh") (by walk_at "sh"))
local macro_rules
  | `(tactic| walk_at "in") => `(tactic| first | exact rd_inT (by walk_at "sh") (by walk_at "sh") | exact rd_inL (by walk_at "sh") (by walk_at "sh"))
local macro_rules
  | `(tactic| walk_at "nin") => `(tactic| first | exact rd_ninT (by walk_at "sh") (by walk_at "sh") | exact rd_ninL (by walk_at "sh") (by walk_at "sh"))
local macro_rules
  | `(tactic| walk_at "cd") => `(tactic| first | exact cd_lenT | exact cd_lenL | exact cd_intI | exact cd_sS | exact cd_sI (by assumption) | exact cd_lenS (by assumption) | exact cd_intB)
theorem ok_Reader_takes (T : Fx K mg cs) : OkM Pr w K mg base cs.Reader "takes" 4 ["self", "line"] (spF K tkX (tkZ cs.Reader) (tkPo cs.Reader)) := by
  obtain ⟨f, fd, F, b, g⟩ := T.f_Reader_takes
  have c_Reader_takes_unit := ok_Reader_takes_unit (Pr := Pr) (w := w) (base := base) T
  have c_row_of := ok_row_of (Pr := Pr) (w := w) (base := base) T
  have c_has_row_form := ok_has_row_form (Pr := Pr) (w := w) (base := base) T
  refine ⟨f, fd, T.k_Reader, g, b, fn_okF F sc_Reader_takes (fun i => rfl) (fun cdv A outer s H E hr => ⟨_, (pss_cons (ps_set (i := 2) sc_Reader_takes.nd rfl (.inl rfl) (kp_split K (pv 1) pe_str))
      (pss_cons (ps_if (pt_cmpR (ko_eq K (u64 hr)) (pe_ix (ki_seq K) (pv 2) pe_int (fun _ _ => rfl)) (pe_cst T.c_UNIT) (nomark _)) (pss_one (ps_ret (pe_ownM c_Reader_takes_unit (hr.mono (by decide)) (pv 0) (pa_cons (pv 2) pa_nil)))) pss_nil)
      (pss_cons (ps_set (i := 3) sc_Reader_takes.nd rfl (.inl rfl) (pe_own c_row_of (hr.mono (by decide)) (by rfl) (pa_cons (pv 2) pa_nil)))
      (pss_cons (ps_if (PW.pt (pw_or (pt_not (pt_val (pe_own c_has_row_form (hr.mono (by decide)) (by rfl) (pa_cons (kp_fld K (pv 0)) (pa_cons (pv 3) pa_nil))))) (pw_or (pt_cmpR (ko_in K (u65 hr)) (pv 3) (kp_fld K (pv 0)) (by with_unfolding_all rfl)) (pw_or1 (pt_cmpR (ko_eq K (u64 hr)) (pe_callB (kc_len K) (by rfl) T.b_len bt_len (pa_cons (kp_fld K (pv 0)) pa_nil)) (pe_cst T.c_MOST_ROWS_digs) (nomark _)))))) (pss_one (ps_ret pe_bl)) pss_nil)
      (pss_cons (ps_expr (pe_bm PySem.F.plainAttrs_list PySem.F.slot_list_append PySem.F.type_list_append mt_append (kp_fld K (pv 0)) (pa_cons (pv 3) pa_nil)))
      (pss_one (ps_ret pe_bl))))))), fun i => ?_⟩)⟩
  obtain ⟨line, us, rs, us', rs', h⟩ := i
  cases h with
  | unit nm nms nu le =>
    rename_i u
    have hl : (lUnit u).length + 2 ≤ sizeLine := Nat.le_trans (lu_len nm) (by decide)
    refine q_setI (EnL.ev (en_split (ev_var rfl) ev_str rfl (hl))) (by rw [split_unit nm]) ?_ rfl
    refine q_yesI (et_test (ev_op (ev_op (ev_var rfl) ev_int (by walk_at "ix")) ev_str (by walk_at "eq"))) (by decide +kernel) ?_
    refine sx_retE (es_methS (l := 0) rfl rfl rfl (es_callL (l := 0) ⟨u, us, nm, nms, nu, le⟩ [0, 1, 2] rfl (ea_cons (ev_var rfl) ea_nil) rfl rfl (by decide) rfl ⟨⟨rfl, rfl, rfl⟩, ⟨rfl, rfl, rfl⟩, ⟨rfl, rfl, rfl⟩, trivial⟩ fun r st' po _ => ?_))
    obtain ⟨rfl, rfl⟩ := po
    exact ⟨_, rfl, rd_live, rfl, rfl⟩
  | row nm ul ok oks nr le =>
    rename_i r
    have na := nm _ ok.ia
    have nb := nm _ ok.ib
    have hl : (lRow r).length + 2 ≤ sizeLine := Nat.le_trans (lr_len ok.num na.le nb.le) (by decide)
    have sw := wd0_ok r
    have k1 : ¬ ((rs.length : Int) = 200) := by omega
    have sr : SeqAt.shaped (eRow r) = true := sh_row na.sok nb.sok
    refine q_setI (EnL.ev (en_split (ev_var rfl) ev_str rfl (hl))) (by rw [split_row na nb ok.num]) ?_ rfl
    refine q_noI (b := false) (et_is (et_test (ev_op (ev_op (ev_var rfl) ev_int (rd_ixL (w0 r))) ev_str (by walk_at "eq"))) (eqv_str_ne (wd0_ne r))) rfl ?_
    refine q_setI (ev_call (ea_cons (ev_var rfl) ea_nil) (⟨_, rfl, r, ok.num, rfl, rfl⟩)) rfl ?_ rfl
    have shR : SeqAt.shaped (.list (rs.map eRow)) = true := sh_rowsL fun s hs => ⟨(nm _ (oks s hs).ia).sok, (nm _ (oks s hs).ib).sok⟩
    refine q_noI (et_view (l := 1) rfl rfl (et_view (l := 2) rfl rfl (et_or (et_not (et_B (ev_call (ea_cons (by first | exact ev_fldO rfl rfl T.k_Reader T.n_Reader_own_units rfl | exact ev_fld (ev_var rfl) T.k_Reader T.n_Reader_own_units rfl) (ea_cons (ev_var rfl) ea_nil)) (⟨_, _, rfl, .l, us, r, rfl, by omega, ok, fun u hu => (nm u hu).sok, rfl, rfl⟩)))) fun _ => (et_or (et_test (ev_op (ev_var rfl) (by first | exact ev_fldO rfl rfl T.k_Reader T.n_Reader_own_rows rfl | exact ev_fld (ev_var rfl) T.k_Reader T.n_Reader_own_rows rfl) (rd_inL sr shR))) fun _ => (et_test (ev_op (ev_cb (ea_cons (by first | exact ev_fldO rfl rfl T.k_Reader T.n_Reader_own_rows rfl | exact ev_fld (ev_var rfl) T.k_Reader T.n_Reader_own_rows rfl) ea_nil) (by walk_at "cd")) ev_int (by walk_at "eq"))))))) (by rw [any_row]; simp [nr, PyData.eqv, k1]) ?_
    refine sx_seq1 (sx_app (t := tVar 0) (es_fld (es_lo (l := 0) rfl ⟨0, cs.Reader, _, .lo 2, rfl, rfl, T.k_Reader, T.n_Reader_own_rows, rfl, 2, _, rfl, rfl, es_ev (ev_var rfl) ⟨_, _, rfl, rfl, by show (rs.map eRow).length < _; rw [List.length_map]; omega, rfl⟩⟩))) ?_
    have e : [Ob.ins cs.Reader [("own_units", .lo 1), ("own_rows", .lo 2)], .lst (us.map .str), .lst (rs.map eRow ++ [eRow r])] = rdO cs.Reader us (rs ++ [r]) := by
      show [_, _, _] = [_, _, _]
      rw [List.map_append]; rfl
    exact sx_ret ev_bl ⟨fun o ho => rd_live o (us := us) (rs := rs ++ [r]) (C := cs.Reader) (by rw [← e]; exact List.mem_of_mem_take ho), rfl, (congrArg (List.take 3) e).trans rfl⟩
theorem ok_Dig_units (T : Fx K mg cs) : OkP Pr w K mg base cs.Dig "units" 1 ["self"] (spD K (rPropUnits cs.Dig)) := by
  obtain ⟨p, f, fd, F, b, g⟩ := T.f_Dig_units
  refine ⟨p, f, fd, T.k_Dig, g, b, fn_ok F sc_Dig_units (fun xs d h => by obtain ⟨_, rfl, _⟩ := h; rfl) (fun cdv A outer s H E hr => ⟨_, (pss_one (ps_ret (kp_fld K (pv 0)))), fun xs d hR => ?_⟩)⟩
  obtain ⟨a0, rfl, hR⟩ := hR
  obtain ⟨g, rfl, rfl⟩ := hR
  exact sx_retD (by first | exact ev_fldO rfl rfl T.k_Dig T.n_Dig_own_units rfl | exact ev_fld (ev_var rfl) T.k_Dig T.n_Dig_own_units rfl) rfl
theorem ok_Dig_rows (T : Fx K mg cs) : OkP Pr w K mg base cs.Dig "rows" 1 ["self"] (spD K (rPropRows cs.Dig)) := by
  obtain ⟨p, f, fd, F, b, g⟩ := T.f_Dig_rows
  refine ⟨p, f, fd, T.k_Dig, g, b, fn_ok F sc_Dig_rows (fun xs d h => by obtain ⟨_, rfl, _⟩ := h; rfl) (fun cdv A outer s H E hr => ⟨_, (pss_one (ps_ret (kp_fld K (pv 0)))), fun xs d hR => ?_⟩)⟩
  obtain ⟨a0, rfl, hR⟩ := hR
  obtain ⟨g, rfl, rfl⟩ := hR
  exact sx_retD (by first | exact ev_fldO rfl rfl T.k_Dig T.n_Dig_own_rows rfl | exact ev_fld (ev_var rfl) T.k_Dig T.n_Dig_own_rows rfl) rfl
theorem ok_check_dig (T : Fx K mg cs) : Ok Pr w K mg base "check_dig" 1 ["dig"] (spD K (rCheckDig cs.Dig)) := by
  obtain ⟨f, fd, F, b, g⟩ := T.f_check_dig
  refine ⟨f, fd, g, F.kp, b, fn_ok F sc_check_dig (fun xs d h => by obtain ⟨_, rfl, _⟩ := h; rfl) (fun cdv A outer s H E hr => ⟨_, (pss_one (ps_if (pt_not (pt_val (pe_callB (kc_isC K T.i_Dig) (by rfl) T.b_isinstance bt_isinstance (pa_cons (pv 0) (pa_cons (pe_glob (v := .ref cs.Dig) (by rfl) T.g_Dig rfl) pa_nil))))) (pss_one ps_never) pss_nil)), fun xs d hR => ?_⟩)⟩
  obtain ⟨a0, rfl, hR⟩ := hR
  obtain ⟨g, rfl, rfl⟩ := hR
  refine sx_noI (et_not (et_B (ev_isC (ev_var rfl)))) rfl (sx_next rfl)
end
end L4
end

section
set_option Elab.async false
set_option linter.all false
set_option maxRecDepth 100000
set_option maxHeartbeats 1000000
set_option autoImplicit false
namespace L4
open PySem L2
section
variable {Pr : Program} {w : World} {K : PySem.W.Frag} {mg : Str → Option Value} {base : Heap} {cs : Cs}
local macro_rules
  | `(tactic| walk_at "sh") => `(tactic| first | exact rfl | assumption | exact sh_str (by first | assumption | decide +kernel) | decide +kernel)
local macro_rules
  | `(tactic| walk_at "ix") => `(tactic| first | exact rd_ixT rfl | exact rd_ixL rfl | exact rd_ixT (by assumption) | exact rd_ixL (by assumption) | exact rd_ixT (atI_nat (by assumption)) | exact rd_ixL (atI_nat (by assumption)))
local macro_rules
  | `(tactic| walk_at "add") => `(tactic| first | exact rd_addI | exact rd_addS (by first | assumption | decide) | exact rd_addT (by first | assumption | exact Nat.le_of_ble_eq_true rfl) | exact rd_addL (by first | assumption | exact Nat.le_of_ble_eq_true rfl))
local macro_rules
  | `(tactic| walk_at "mul") => `(tactic| first | exact rd_mul (.inl (by decide)) | exact rd_mul (.inr (by decide)) | exact rd_mul (.inl (by omega)) | exact rd_mul (.inr (by omega)))
local macro_rules
  | `(tactic| walk_at "mod") => `(tactic| exact rd_mod (by first | decide | omega))
local macro_rules
  | `(tactic| walk_at "div") => `(tactic| exact rd_div ⟨by first | decide | omega, by first | decide | omega⟩)
local macro_rules
  | `(tactic| walk_at "eq") => `(tactic| exact rd_eq (by walk_at "sh") (by walk_at "sh"))
local macro_rules
  | `(tactic| walk_at "ne") => `(tactic| exact rd_ne (by walk_at "sh") (by walk_at "sh"))
local macro_rules
  | `(tactic| walk_at "in") => `(tactic| first | exact rd_inT (by walk_at "sh") (by walk_at "sh") | exact rd_inL (by walk_at "sh") (by walk_at "sh"))
local macro_rules
  | `(tactic| walk_at "nin") => `(tactic| first | exact rd_ninT (by walk_at "sh") (by walk_at "sh") | exact rd_ninL (by walk_at "sh") (by walk_at "sh"))
local macro_rules
  | `(tactic| walk_at "cd") => `(tactic| first | exact cd_lenT | exact cd_lenL | exact cd_intI | exact cd_sS | exact cd_sI (by assumption) | exact cd_lenS (by assumption) | exact cd_intB)
theorem ok_Dig___init__ (T : Fx K mg cs) : OkI Pr w K mg base cs.Dig "Dig" 5 ["self", "text"] (spF K dgX (dgZ cs.Dig) (dgPo cs.Dig)) := by
  obtain ⟨f, fd, F, b, g⟩ := T.f_Dig___init__
  have c_Reader___init__ := ok_Reader___init__ (Pr := Pr) (w := w) (base := base) T
  have c_Reader_takes := ok_Reader_takes (Pr := Pr) (w := w) (base := base) T
  have c_Reader_found := ok_Reader_found (Pr := Pr) (w := w) (base := base) T
  refine ⟨f, fd, g.1, g.2, b, fn_okF F sc_Dig___init__ (fun i => rfl) (fun cdv A outer s H E hr => ⟨_, (pss_cons (ps_if (pt_not (pt_val (pe_callB (kc_isi K) (by rfl) T.b_isinstance bt_isinstance (pa_cons (pv 1) (pa_cons (pe_bltn (v := .ty "str") (by rfl) T.b_str bt_str rfl) pa_nil))))) (pss_one ps_never) pss_nil)
      (pss_cons (ps_set (i := 2) sc_Dig___init__.nd rfl (.inl rfl) (pe_ownI0 c_Reader___init__ (hr.mono (by decide)) (by rfl)))
      (pss_cons (ps_for PassesOwn.never rfl (kw_en K (by rfl) T.b_enumerate (pa_cons (kp_split K (pv 1) pe_str) pa_nil)) (kg_tup K rfl (pgs_cons (pg_name (i := 3) sc_Dig___init__.nd rfl (by first | exact Or.inl rfl | exact Or.inr rfl)) (pgs_cons (pg_name (i := 4) sc_Dig___init__.nd rfl (by first | exact Or.inl rfl | exact Or.inr rfl)) pgs_nil))) (pss_one (ps_if (pt_not (pt_val (pe_ownM c_Reader_takes (hr.mono (by decide)) (pv 2) (pa_cons (pv 4) pa_nil)))) (pss_one ps_never) pss_nil)))
      (pss_cons (kps_fld K (pv 0) (pv 1) rfl)
      (pss_one (ps_asg (pe_ownP c_Reader_found (hr.mono (by decide)) (pv 2)) (kg_tup K rfl (pgs_cons (kg_fld K (pv 0)) (pgs_cons (kg_fld K (pv 0)) pgs_nil))))))))), fun i => ?_⟩)⟩
  obtain ⟨g, ok⟩ := i
  have hl : g.text.length + 2 ≤ sizeLine := Nat.le_trans ok.text_le (by decide)
  have ll := ok.lines_le
  refine q_noI (et_not (et_B (ev_isiA (ev_var rfl) rfl rfl))) rfl ?_
  refine sx_seq1 (sx_setE (es_makeM (eas_nil ⟨[], rfl, rfl, fun os po => by subst po; exact ⟨by show 2 < 5; decide, rfl⟩⟩))) ?_
  refine q_for g.lines.zipIdx (fun p => .tuple [.int (p.2 : Nat), .str p.1]) (fun k ds => ∃ s3 s4, ds = ⟨[.lo 0, .pu (.str g.text), .lo 1, s3, s4], [.ins cs.Dig [], .ins cs.Reader [("own_units", .lo 2), ("own_rows", .lo 3)], .lst ((g.units.take k).map .str), .lst ((g.rows.take (k - g.units.length)).map eRow)]⟩) (fun p ds => (ds.set 3 (.pu (.int (p.2 : Nat)))).set 4 (.pu (.str p.1)))
    ((eI_en (k := .l) (EnL.ev (en_split (ev_var rfl) ev_str rfl (hl)))).is (by rw [ok.split]; exact enumD_map _ _)) ⟨.un, .un, by rw [Nat.zero_sub]; rfl⟩ (fun i l ds _ ⟨s3, s4, e⟩ => by subst e; exact tg2) ?_ ?_
  · rintro k ⟨l, k'⟩ _ hk ⟨s3, s4, rfl⟩
    have hk' : g.lines[k]? = some l := by
      rw [List.getElem?_zipIdx] at hk
      obtain ⟨x, h1, h2⟩ := Option.map_eq_some_iff.mp hk
      cases h2
      exact h1
    refine sx_ifE (ets_not (ets_B (es_methS (l := 1) rfl rfl rfl (es_callL (l := 1) ⟨_, _, _, _, _, ok.takes hk'⟩ [1, 2, 3] rfl (ea_cons (ev_var rfl) ea_nil) rfl rfl (by decide) rfl ⟨⟨rfl, rfl, rfl⟩, ⟨rfl, rfl, rfl⟩, ⟨rfl, rfl, rfl⟩, trivial⟩ fun r st' po _ => ?_))))
    obtain ⟨rfl, rfl⟩ := po
    exact ⟨true, rfl, (fun e => nomatch e), fun _ => sx_next ⟨_, _, rfl⟩⟩
  · rintro _ ⟨s3, s4, rfl⟩
    have e0 : g.lines.zipIdx.length = g.units.length + g.rows.length := by rw [List.length_zipIdx]; unfold DigD.lines; rw [List.length_append, List.length_map, List.length_map]
    have e1 : g.units.take g.lines.zipIdx.length = g.units := List.take_of_length_le (by omega)
    have e2 : g.rows.take (g.lines.zipIdx.length - g.units.length) = g.rows := List.take_of_length_le (by omega)
    rw [e1, e2]
    refine sx_seq1 (sx_fld (es_ev (ev_var rfl) (es_lo (l := 0) rfl ⟨0, cs.Dig, [], rfl, rfl, rfl, T.k_Dig, T.n_Dig_own_text, by decide, rfl⟩))) ?_
    refine sx_frz (l := 2) rfl rfl (by show 1 ≤ 2; decide) ?_
    refine sx_frz (l := 3) rfl rfl (by show 1 ≤ 3; decide) ?_
    refine sx_frz (l := 1) rfl ⟨[("own_units", .list (g.units.map .str)), ("own_rows", .list (g.rows.map eRow))], rfl, rfl⟩ (by show 1 ≤ 1; decide) ?_
    refine sx_fld2 (l := 0) rfl rfl T.k_Dig T.n_Dig_own_units T.n_Dig_own_rows (Nat.le_of_ble_eq_true rfl) (ev_prop (ev_var rfl) (⟨_, rfl, _, _, rfl, rfl⟩)) ⟨fun o ho => ?_, rfl, rfl⟩
    have ho' : o ∈ [Ob.ins cs.Dig ((digF g).map fun p => (p.1, Fv.pu p.2))] := ho
    rw [List.mem_singleton.mp ho']
    exact ⟨rfl, rfl⟩
end
end L4
end

section
set_option Elab.async false
set_option linter.all false
set_option maxRecDepth 100000
set_option maxHeartbeats 1000000
set_option autoImplicit false
namespace L4
open PySem L2
section
variable {Pr : Program} {w : World} {K : PySem.W.Frag} {mg : Str → Option Value} {base : Heap} {cs : Cs}
local macro_rules
  | `(tactic| walk_at "sh") => `(tactic| first | exact rfl | assumption | exact sh_str (by first | assumption | decide +kernel) | decide +kernel)
local macro_rules
  | `(tactic| walk_at "ix") => `(tactic| first | exact rd_ixT rfl | exact rd_ixL rfl | exact rd_ixT (by assumption) | exact rd_ixL (by assumption) | exact rd_ixT (atI_nat (by assumption)) | exact rd_ixL (atI_nat (by assumption)))
local macro_rules
  | `(tactic| walk_at "add") => `(tactic| first | exact rd_addI | exact rd_addS (by first | assumption | decide) | exact rd_addT (by first | assumption | exact Nat.le_of_ble_eq_true rfl) | exact rd_addL (by first | assumption | exact Nat.le_of_ble_eq_true rfl))
local macro_rules
  | `(tactic| walk_at "mul") => `(tactic| first | exact rd_mul (.inl (by decide)) | exact rd_mul (.inr (by decide)) | exact rd_mul (.inl (by omega)) | exact rd_mul (.inr (by omega)))
local macro_rules
  | `(tactic| walk_at "mod") => `(tactic| exact rd_mod (by first | decide | omega))
local macro_rules
  | `(tactic| walk_at "div") => `(tactic| exact rd_div ⟨by first | decide | omega, by first | decide | omega⟩)
local macro_rules
  | `(tactic| walk_at "eq") => `(tactic| exact rd_eq (by walk_at "sh") (by walk_at "sh"))
local macro_rules
  | `(tactic| walk_at "ne") => `(tactic| exact rd_ne (by walk_at "sh") (by walk_at "sh"))
local macro_rules
  | `(tactic| walk_at "in") => `(tactic| first | exact rd_inT (by walk_at "sh") (by walk_at "sh") | exact rd_inL (by walk_at "sh") (by walk_at "sh"))
local macro_rules
  | `(tactic| walk_at "nin") => `(tactic| first | exact rd_ninT (by walk_at "sh") (by walk_at "sh") | exact rd_ninL (by walk_at "sh") (by walk_at "sh"))
local macro_rules
  | `(tactic| walk_at "cd") => `(tactic| first | exact cd_lenT | exact cd_lenL | exact cd_intI | exact cd_sS | exact cd_sI (by assumption) | exact cd_lenS (by assumption) | exact cd_intB)
theorem ok_are_doubts (T : Fx K mg cs) : Ok Pr w K mg base "are_doubts" 3 ["dig", "value"] (spD K (rAreDoubts cs.Dig)) := by
  obtain ⟨f, fd, F, b, g⟩ := T.f_are_doubts
  have c_is_between := ok_is_between (Pr := Pr) (w := w) (base := base) T
  have c_Dig_rows := ok_Dig_rows (Pr := Pr) (w := w) (base := base) T
  have c_is_ascending := ok_is_ascending (Pr := Pr) (w := w) (base := base) T
  refine ⟨f, fd, g, F.kp, b, fn_ok F sc_are_doubts (fun xs d h => by obtain ⟨_, _, rfl, _⟩ := h; rfl) (fun cdv A outer s H E hr => ⟨_, (pss_cons (ps_if (PW.pt (pw_or (pt_not (pt_val (pe_callB (kc_isi K) (by rfl) T.b_isinstance bt_isinstance (pa_cons (pv 1) (pa_cons (pe_bltn (v := .ty "tuple") (by rfl) T.b_tuple bt_tuple rfl) pa_nil))))) (pw_or1 (pt_not (pt_val (pe_callB (kc_all K rfl) (by rfl) T.b_all bt_all (pa_cons (pe_lc (own := [("number", 2)]) (g := (gName 2)) rfl sc_are_doubts.nd (kw_seq K (pv 1)) (blkOk_by (own := [("number", 2)]) (N := N_are_doubts) (sc := defScope st_are_doubts) (by decide +kernel)) (fun _ _ _ _ _ => (pg_name (i := 2) sc_are_doubts.nd rfl (by first | exact Or.inl rfl | exact Or.inr rfl))) (fun _ _ _ _ _ => pts_nil) (fun _ _ _ _ _ => (pe_own c_is_between (hr.mono (by decide)) (by rfl) (pa_cons (pv 2) (pa_cons pe_int (pa_cons (pe_op op_sub (pe_callB (kc_len K) (by rfl) T.b_len bt_len (pa_cons (pe_ownP c_Dig_rows (hr.mono (by decide)) (pv 0)) pa_nil)) pe_int) pa_nil)))))) pa_nil))))))) (pss_one (ps_ret pe_bl)) pss_nil)
      (pss_one (ps_ret (pe_own c_is_ascending (hr.mono (by decide)) (by rfl) (pa_cons (pv 1) pa_nil))))), fun xs d hR => ?_⟩)⟩
  obtain ⟨a0, a1, rfl, hR⟩ := hR
  obtain ⟨g, db, ok, dk, rfl, rfl, rfl⟩ := hR
  have rl := ok.rle
  have dl := dk.le
  refine q_noI (et_or (et_not (et_B (ev_isiA (ev_var rfl) rfl rfl))) fun _ => (et_not (et_B (ev_allM (EnL.rl (lc1 db nat (fun n => .bool (decide ((0 : Int) ≤ (n : Nat)) && decide (((n : Nat) : Int) ≤ (g.rows.length : Nat) - 1))) (eI_tup (ev_var rfl)).r (by omega) fun n hn => (ev_call (ea_cons (ev_var rfl) (ea_cons ev_int (ea_cons (ev_op (ev_cb (ea_cons (ev_prop (ev_var rfl) (⟨_, rfl, g, rfl, rfl⟩)) ea_nil) (by walk_at "cd")) ev_int rd_sub) ea_nil))) (⟨_, _, _, rfl, (n : Nat), _, _, rfl, rfl, by rw [List.length_map], rfl⟩)))))))) ?_ ?_
  · have e : (db.all fun n => decide ((0 : Int) ≤ (n : Nat)) && decide (((n : Nat) : Int) ≤ (g.rows.length : Nat) - 1)) = true := by
      rw [List.all_eq_true]
      intro n hn
      have := dk.lt n hn
      rw [Bool.and_eq_true, decide_eq_true_eq, decide_eq_true_eq]
      omega
    rw [e]; rfl
  · refine sx_retD (ev_call (ea_cons (ev_var rfl) ea_nil) (⟨_, rfl, db.map fun n => ((n : Nat) : Int), by rw [List.map_map]; rfl, by rw [List.length_map]; omega, rfl⟩)) (congrArg PyData.bool (asc_nat dk.asc))
theorem ok_check_doubts (T : Fx K mg cs) : Ok Pr w K mg base "check_doubts" 4 ["dig", "doubts"] (spD K (rCheckDoubts cs.Dig)) := by
  obtain ⟨f, fd, F, b, g⟩ := T.f_check_doubts
  have c_check_dig := ok_check_dig (Pr := Pr) (w := w) (base := base) T
  have c_are_doubts := ok_are_doubts (Pr := Pr) (w := w) (base := base) T
  refine ⟨f, fd, g, F.kp, b, fn_ok F sc_check_doubts (fun xs d h => by obtain ⟨_, _, rfl, _⟩ := h; rfl) (fun cdv A outer s H E hr => ⟨_, (pss_cons (ps_expr (pe_own c_check_dig (hr.mono (by decide)) (by rfl) (pa_cons (pv 0) pa_nil)))
      (pss_one (ps_if (pt_not (pt_val (pe_own c_are_doubts (hr.mono (by decide)) (by rfl) (pa_cons (pv 0) (pa_cons (pv 1) pa_nil))))) (pss_one ps_never) pss_nil))), fun xs d hR => ?_⟩)⟩
  obtain ⟨a0, a1, rfl, hR⟩ := hR
  obtain ⟨g, db, ok, dk, rfl, rfl, rfl⟩ := hR
  refine q_dropI (ev_call (ea_cons (ev_var rfl) ea_nil) (⟨_, rfl, g, rfl, rfl⟩)) ?_
  exact sx_noI (et_not (et_B (ev_call (ea_cons (ev_var rfl) (ea_cons (ev_var rfl) ea_nil)) (⟨_, _, rfl, g, db, ok, dk, rfl, rfl, rfl⟩)))) rfl (sx_next rfl)
theorem ok_told_steps (T : Fx K mg cs) : Ok Pr w K mg base "told_steps" 3 ["dig"] (spD K (rToldSteps cs.Dig)) := by
  obtain ⟨f, fd, F, b, g⟩ := T.f_told_steps
  have c_Dig_rows := ok_Dig_rows (Pr := Pr) (w := w) (base := base) T
  have c_steps_of := ok_steps_of (Pr := Pr) (w := w) (base := base) T
  refine ⟨f, fd, g, F.kp, b, fn_ok F sc_told_steps (fun xs d h => by obtain ⟨_, rfl, _⟩ := h; rfl) (fun cdv A outer s H E hr => ⟨_, (pss_cons (ps_set (i := 1) sc_told_steps.nd rfl (.inl rfl) (pe_lst pa_nil))
      (pss_cons (ps_for PassesOwn.never rfl (kw_en K (by rfl) T.b_enumerate (pa_cons (pe_ownP c_Dig_rows (hr.mono (by decide)) (pv 0)) pa_nil)) (kg_tup K rfl (pgs_cons (pg_name (i := 2) sc_told_steps.nd rfl (by first | exact Or.inl rfl | exact Or.inr rfl)) (pgs_cons (pg_name (i := 3) sc_told_steps.nd rfl (by first | exact Or.inl rfl | exact Or.inr rfl)) pgs_nil))) (pss_one (ps_expr (pe_bm PySem.F.plainAttrs_list PySem.F.slot_list_extend PySem.F.type_list_extend mt_extend (pv 1) (pa_cons (pe_lc (own := [("step", 4)]) (g := (gName 4)) rfl sc_told_steps.nd (kw_seq K (pe_own c_steps_of (hr.mono (by decide)) (by rfl) (pa_cons (pv 3) pa_nil))) (blkOk_by (own := [("step", 4)]) (N := N_told_steps) (sc := defScope st_told_steps) (by decide +kernel)) (fun _ _ _ _ _ => (pg_name (i := 4) sc_told_steps.nd rfl (by first | exact Or.inl rfl | exact Or.inr rfl))) (fun _ _ _ _ _ => pts_nil) (fun _ _ _ _ _ => (pe_tup (pa_cons (pv 2) (pa_cons (pv 4) pa_nil))))) pa_nil)))))
      (pss_one (ps_ret (pv 1))))), fun xs d hR => ?_⟩)⟩
  obtain ⟨a0, rfl, hR⟩ := hR
  obtain ⟨g, ok, rfl, rfl⟩ := hR
  have rl := ok.rle
  have tl := ok.td_le
  refine q_new (en_lst ea_nil (by decide)) ?_
  refine q_for g.rows.zipIdx (fun p => .tuple [.int (p.2 : Nat), eRow p.1]) (fun k ds => ∃ s2 s3 s4, ds = ⟨[.pu (eDig cs.Dig g), .lo 0, s2, s3, s4], [.lst (eTds (toldR (g.rows.take k)))]⟩) (fun p ds => (ds.set 2 (.pu (.int (p.2 : Nat)))).set 3 (.pu (eRow p.1)))
    ((eI_en (k := .t) (ev_prop (ev_var rfl) (⟨_, rfl, g, rfl, rfl⟩))).is (enumD_map _ _)) ⟨.un, .un, .un, by rw [List.take_zero]; rfl⟩ (fun i l ds _ ⟨s2, s3, s4, e⟩ => by subst e; exact tg2) ?_ ?_
  · rintro k ⟨r, k'⟩ _ hk ⟨s2, s3, s4, rfl⟩
    obtain ⟨rfl, hk'⟩ := zi_get hk
    have e := told_take hk'
    have l1 : (toldR (g.rows.take k)).length ≤ 400 := Nat.le_trans (told_len _) (by rw [List.length_take]; omega)
    have l2 : (stepsR r).length ≤ 2 := steps_two r
    have e2 : eTds (toldR (g.rows.take (k + 1))) = eTds (toldR (g.rows.take k)) ++ (stepsR r).map fun s => eTd (k, s) := by
      rw [e]; unfold eTds; rw [List.map_append, List.map_map]; rfl
    exact sx_ext1 (l := 0) rfl rfl (EnL.ev (lc1 (stepsR r) eSt (fun s => eTd (k, s)) (eI_tup (ev_call (ea_cons (ev_var rfl) ea_nil) (⟨_, rfl, r, rfl, rfl⟩))).r (by omega) fun s _ => (ev_tupA (ea_cons (ev_var rfl) (ea_cons (ev_var rfl) ea_nil)) rfl))) (by unfold eTds; rw [List.length_map, List.length_map]; omega) (by show ∃ _ _ _, _; rw [e2]; exact ⟨_, _, _, rfl⟩)
  · rintro _ ⟨s2, s3, s4, rfl⟩
    rw [List.length_zipIdx, List.take_length]
    exact sx_frz (l := 0) rfl rfl (Nat.le_refl 0) (sx_retD (ev_var rfl) rfl)
theorem ok_growth_of (T : Fx K mg cs) : Ok Pr w K mg base "growth_of" 1 ["around"] (spD K rGrowthOf) := by
  obtain ⟨f, fd, F, b, g⟩ := T.f_growth_of
  refine ⟨f, fd, g, F.kp, b, fn_ok F sc_growth_of (fun xs d h => by obtain ⟨_, rfl, _⟩ := h; rfl) (fun cdv A outer s H E hr => ⟨_, (pss_one (ps_ret (pe_callB (kc_sum K rfl) (by rfl) T.b_sum bt_sum (pa_cons (pe_lc (own := [("number", 1), ("step", 2)]) (g := (gTup K 2 (gCons (gName 1) (gCons (gName 2) gNil)))) rfl sc_growth_of.nd (kw_seq K (pv 0)) (blkOk_by (own := [("number", 1), ("step", 2)]) (N := N_growth_of) (sc := defScope st_growth_of) (by decide +kernel)) (fun _ _ _ _ _ => (kg_tup K rfl (pgs_cons (pg_name (i := 1) sc_growth_of.nd rfl (by first | exact Or.inl rfl | exact Or.inr rfl)) (pgs_cons (pg_name (i := 2) sc_growth_of.nd rfl (by first | exact Or.inl rfl | exact Or.inr rfl)) pgs_nil)))) (fun _ _ _ _ _ => pts_nil) (fun _ _ _ _ _ => (pe_ix (ki_seq K) (pv 2) pe_int (fun _ _ => rfl)))) pa_nil)))), fun xs d hR => ?_⟩)⟩
  obtain ⟨a0, rfl, hR⟩ := hR
  obtain ⟨c, hl, rfl, rfl⟩ := hR
  exact sx_retD (ev_sumM (EnL.rl (lc2 c (fun t => nat t.1) (fun t => eSt t.2) (fun t => .int t.2.2.2) (eI_tup (ev_var rfl)).r (by omega) fun t _ => (ev_op (ev_var rfl) ev_int (by walk_at "ix"))))) rfl
theorem ok_doubt_of (T : Fx K mg cs) : Ok Pr w K mg base "doubt_of" 1 ["doubts", "around"] (spD K rDoubtOf) := by
  obtain ⟨f, fd, F, b, g⟩ := T.f_doubt_of
  refine ⟨f, fd, g, F.kp, b, fn_ok F sc_doubt_of (fun xs d h => by obtain ⟨_, _, rfl, _⟩ := h; rfl) (fun cdv A outer s H E hr => ⟨_, (pss_one (ps_ret (pe_callB (kc_len K) (by rfl) T.b_len bt_len (pa_cons (pe_lc (own := [("number", 2), ("step", 3)]) (g := (gTup K 2 (gCons (gName 2) (gCons (gName 3) gNil)))) rfl sc_doubt_of.nd (kw_seq K (pv 1)) (blkOk_by (own := [("number", 2), ("step", 3)]) (N := N_doubt_of) (sc := defScope st_doubt_of) (by decide +kernel)) (fun _ _ _ _ _ => (kg_tup K rfl (pgs_cons (pg_name (i := 2) sc_doubt_of.nd rfl (by first | exact Or.inl rfl | exact Or.inr rfl)) (pgs_cons (pg_name (i := 3) sc_doubt_of.nd rfl (by first | exact Or.inl rfl | exact Or.inr rfl)) pgs_nil)))) (fun _ _ _ _ _ => (pts_one (pt_cmpR (ko_in K (u65 hr)) (pv 2) (pv 0) (by with_unfolding_all rfl)))) (fun _ _ _ _ _ => (pv 2))) pa_nil)))), fun xs d hR => ?_⟩)⟩
  obtain ⟨a0, a1, rfl, hR⟩ := hR
  obtain ⟨db, c, hl, rfl, rfl, rfl⟩ := hR
  have sh := sh_natsT db
  refine sx_retD (ev_cb (ea_cons (EnL.ev (lc2f c (fun t => nat t.1) (fun t => eSt t.2) (fun t => nat t.1) (fun t => decide (t.1 ∈ db)) (eI_tup (ev_var rfl)).r (by omega) (fun t _ => et_is (et_test (ev_op (ev_var rfl) (ev_var rfl) (rd_inT rfl sh))) (any_nat _ _)) fun t _ _ => (ev_var rfl))) ea_nil) cd_lenL) ?_
  rw [List.length_map]; rfl
theorem ok_weights_of (T : Fx K mg cs) : Ok Pr w K mg base "weights_of" 1 ["told", "doubts", "top", "low"] (spD K rWeightsOf) := by
  obtain ⟨f, fd, F, b, g⟩ := T.f_weights_of
  refine ⟨f, fd, g, F.kp, b, fn_ok F sc_weights_of (fun xs d h => by obtain ⟨_, _, _, _, rfl, _⟩ := h; rfl) (fun cdv A outer s H E hr => ⟨_, (pss_one (ps_ret (pe_lc (own := [("number", 4), ("step", 5)]) (g := (gTup K 2 (gCons (gName 4) (gCons (gName 5) gNil)))) rfl sc_weights_of.nd (kw_seq K (pv 0)) (blkOk_by (own := [("number", 4), ("step", 5)]) (N := N_weights_of) (sc := defScope st_weights_of) (by decide +kernel)) (fun _ _ _ _ _ => (kg_tup K rfl (pgs_cons (pg_name (i := 4) sc_weights_of.nd rfl (by first | exact Or.inl rfl | exact Or.inr rfl)) (pgs_cons (pg_name (i := 5) sc_weights_of.nd rfl (by first | exact Or.inl rfl | exact Or.inr rfl)) pgs_nil)))) (fun _ _ _ _ _ => pts_nil) (fun _ _ _ _ _ => (pe_op op_sub (pe_op op_gMul (pv 3) (pe_ix (ki_seq K) (pv 5) pe_int (fun _ _ => rfl))) (pe_ifExp (pt_cmpR (ko_in K (u65 hr)) (pv 4) (pv 1) (by with_unfolding_all rfl)) (pv 2) pe_int)))))), fun xs d hR => ?_⟩)⟩
  obtain ⟨a0, a1, a2, a3, rfl, hR⟩ := hR
  obtain ⟨td, db, top, low, tl, ll, rfl, rfl, rfl, rfl, rfl⟩ := hR
  have sh := sh_natsT db
  refine sx_retD (EnL.ev (lc2 td (fun t => nat t.1) (fun t => eSt t.2) (fun t => .int (wtF db top low t)) (eI_list (ev_var rfl)).r (by omega) fun t _ => ev_is (ev_op (ev_op (ev_var rfl) (ev_op (ev_var rfl) ev_int (by walk_at "ix")) (by walk_at "mul")) (ev_ifV (et_is (et_test (ev_op (ev_var rfl) (ev_var rfl) (rd_inT rfl sh))) (any_nat _ _)) (fun _ => (ev_var rfl)) fun _ => ev_int) (wsub _ _ _ _)) (wt_data t))) rfl
theorem ok_common_of (T : Fx K mg cs) : Ok Pr w K mg base "common_of" 1 ["one", "other"] (spD K rCommonOf) := by
  obtain ⟨f, fd, F, b, g⟩ := T.f_common_of
  refine ⟨f, fd, g, F.kp, b, fn_ok F sc_common_of (fun xs d h => by obtain ⟨_, _, rfl, _⟩ := h; rfl) (fun cdv A outer s H E hr => ⟨_, (pss_cons (ps_while PassesOwn.never (pt_cmpR (ko_ne K (u64 hr)) (pv 0) pe_int (nomark _)) (pss_one (ps_par (i := 0) (j := 1) rfl sc_common_of.nd rfl rfl (by decide) rfl rfl (pa_cons (pe_op op_mod (pv 1) (pv 0)) (pa_cons (pv 0) pa_nil)) (by rfl))))
      (pss_one (ps_ret (pv 1)))), fun xs d hR => ?_⟩)⟩
  obtain ⟨a0, a1, rfl, hR⟩ := hR
  obtain ⟨m, n, hn, hm, hn2, rfl, rfl, rfl⟩ := hR
  refine sx_seq (Mid := fun ds => ds = ⟨[.pu (nat 0), .pu (nat (Nat.gcd m n))], []⟩) (sx_while (Inv := fun a ds => ∃ b : Nat, 0 < a + b ∧ a ≤ 100000000 ∧ b ≤ 100000000 ∧ Nat.gcd a b = Nat.gcd m n ∧ ds = ⟨[.pu (nat a), .pu (nat b)], []⟩) m ⟨n, by omega, hm, hn2, rfl, rfl⟩ ?_) ?_
  · rintro a _ ⟨b, h0, ha, hb, e, rfl⟩
    refine ⟨decide (a ≠ 0), et_is (et_test (ev_op (ev_var rfl) ev_int (by walk_at "ne"))) ?_, fun h => ?_, fun h => ?_⟩
    · show (!decide ((a : Int) = 0)) = _
      by_cases z : a = 0
      · subst z; rfl
      · have : ¬ (a : Int) = 0 := by omega
        simp [z]
    · have ha' : a ≠ 0 := of_decide_eq_true h
      refine sx_par (s1 := .pu (nat (b % a))) (s2 := .pu (nat a)) (Ev.ek (ev_is (ev_op (ev_var rfl) (ev_var rfl) (by walk_at "mod")) (by show PyData.int ((b : Int) % (a : Int)) = _; rw [← Int.natCast_emod]; rfl))) (Ev.ek (ev_var rfl)) (by show 0 < 2; decide) (by show 1 < 2; decide) ?_
      exact ⟨b % a, Nat.mod_lt _ (by omega), a, by omega, by have := Nat.mod_lt b (show 0 < a by omega); omega, ha, by rw [← e]; exact (Nat.gcd_rec a b).symm, rfl⟩
    · obtain rfl : a = 0 := by simpa using h
      rw [Nat.gcd_zero_left] at e
      subst e
      rfl
  · rintro _ rfl
    exact sx_retD (ev_var rfl) rfl
end
end L4
end

section
set_option Elab.async false
set_option linter.all false
set_option maxRecDepth 100000
set_option maxHeartbeats 1000000
set_option autoImplicit false
namespace L4
open PySem L2
section
variable {Pr : Program} {w : World} {K : PySem.W.Frag} {mg : Str → Option Value} {base : Heap} {cs : Cs}
local macro_rules
  | `(tactic| walk_at "sh") => `(tactic| first | exact rfl | assumption | exact sh_str (by first | assumption | decide +kernel) | decide +kernel)
local macro_rules
  | `(tactic| walk_at "ix") => `(tactic| first | exact rd_ixT rfl | exact rd_ixL rfl | exact rd_ixT (by assumption) | exact rd_ixL (by assumption) | exact rd_ixT (atI_nat (by assumption)) | exact rd_ixL (atI_nat (by assumption)))
local macro_rules
  | `(tactic| walk_at "add") => `(tactic| first | exact rd_addI | exact rd_addS (by first | assumption | decide) | exact rd_addT (by first | assumption | exact Nat.le_of_ble_eq_true rfl) | exact rd_addL (by first | assumption | exact Nat.le_of_ble_eq_true rfl))
local macro_rules
  | `(tactic| walk_at "mul") => `(tactic| first | exact rd_mul (.inl (by decide)) | exact rd_mul (.inr (by decide)) | exact rd_mul (.inl (by omega)) | exact rd_mul (.inr (by omega)))
local macro_rules
  | `(tactic| walk_at "mod") => `(tactic| exact rd_mod (by first | decide | omega))
local macro_rules
  | `(tactic| walk_at "div") => `(tactic| exact rd_div ⟨by first | decide | omega, by first | decide | omega⟩)
local macro_rules
  | `(tactic| walk_at "eq") => `(tactic| exact rd_eq (by walk_at "sh") (by walk_at "sh"))
local macro_rules
  | `(tactic| walk_at "ne") => `(tactic| exact rd_ne (by walk_at "sh") (by walk_at "sh"))
local macro_rules
  | `(tactic| walk_at "in") => `(tactic| first | exact rd_inT (by walk_at "sh") (by walk_at "sh") | exact rd_inL (by walk_at "sh") (by walk_at "sh"))
local macro_rules
  | `(tactic| walk_at "nin") => `(tactic| first | exact rd_ninT (by walk_at "sh") (by walk_at "sh") | exact rd_ninL (by walk_at "sh") (by walk_at "sh"))
local macro_rules
  | `(tactic| walk_at "cd") => `(tactic| first | exact cd_lenT | exact cd_lenL | exact cd_intI | exact cd_sS | exact cd_sI (by assumption) | exact cd_lenS (by assumption) | exact cd_intB)
theorem ok_back_around (T : Fx K mg cs) : Ok Pr w K mg base "back_around" 1 ["ahead", "unit"] (spD K rBackAround) := by
  obtain ⟨f, fd, F, b, g⟩ := T.f_back_around
  refine ⟨f, fd, g, F.kp, b, fn_ok F sc_back_around (fun xs d h => by obtain ⟨_, _, rfl, _⟩ := h; rfl) (fun cdv A outer s H E hr => ⟨_, (pss_cons (ps_par (i := 2) (j := 3) rfl sc_back_around.nd rfl rfl (by decide) rfl rfl (pa_cons (pe_lst pa_nil) (pa_cons (pv 1) pa_nil)) (by rfl))
      (pss_cons (ps_while PassesOwn.never (pt_cmpR (ko_nin K (u65 hr)) (pv 3) (pv 2) (by with_unfolding_all rfl)) (pss_cons (ps_expr (pe_bm PySem.F.plainAttrs_list PySem.F.slot_list_append PySem.F.type_list_append mt_append (pv 2) (pa_cons (pv 3) pa_nil)))
      (pss_one (ps_set (i := 3) sc_back_around.nd rfl (.inl rfl) (pe_ix (ki_seq K) (pe_ix (ki_seq K) (pe_dget (u1 hr) (pv 0) (pv 3) (fun _ _ => rfl)) pe_int (fun _ _ => rfl)) pe_int (fun _ _ => rfl))))))
      (pss_cons (ps_par (i := 4) (j := 5) rfl sc_back_around.nd rfl rfl (by decide) rfl rfl (pa_cons (pe_lst (pa_cons (pe_dget (u1 hr) (pv 0) (pv 3) (fun _ _ => rfl)) pa_nil)) (pa_cons (pe_ix (ki_seq K) (pe_ix (ki_seq K) (pe_dget (u1 hr) (pv 0) (pv 3) (fun _ _ => rfl)) pe_int (fun _ _ => rfl)) pe_int (fun _ _ => rfl)) pa_nil)) (by rfl))
      (pss_cons (ps_while PassesOwn.never (pt_cmpR (ko_ne K (u64 hr)) (pv 5) (pv 3) (nomark _)) (pss_cons (ps_expr (pe_bm PySem.F.plainAttrs_list PySem.F.slot_list_append PySem.F.type_list_append mt_append (pv 4) (pa_cons (pe_dget (u1 hr) (pv 0) (pv 5) (fun _ _ => rfl)) pa_nil)))
      (pss_one (ps_set (i := 5) sc_back_around.nd rfl (.inl rfl) (pe_ix (ki_seq K) (pe_ix (ki_seq K) (pe_dget (u1 hr) (pv 0) (pv 5) (fun _ _ => rfl)) pe_int (fun _ _ => rfl)) pe_int (fun _ _ => rfl))))))
      (pss_one (ps_ret (pe_callTy (kc_tuple K) (by rfl) T.b_tuple bt_tuple (pa_cons (kp_revL K (pv 4)) pa_nil)))))))), fun xs d hR => ?_⟩)⟩
  obtain ⟨a0, a1, rfl, hR⟩ := hR
  obtain ⟨es, wt, ah, u, S, n, rfl, rfl, hv, cl, uS, hn, hn2, so, rfl⟩ := hR
  obtain ⟨hS, k0, k1, k2, ek⟩ := seek_ok cl n [] u (.start uS) (by simpa using hn)
  obtain ⟨k', rfl⟩ : ∃ k', k0 = k' + 1 := ⟨k0 - 1, by omega⟩
  obtain ⟨p, hp, ek'⟩ := it_some ek
  have hget : ∀ {v : Str} {q : Td}, ah v = some q → valD es (.inr v) = some (eTd q) := fun {v q} e => by rw [hv, e]; rfl
  have eb : backF (gT wt) ah n u = (cycF (gT wt) ah (seekF (gT wt) ah n [] u) n [p] p.2.1).reverse := by unfold backF; rw [hp]; rfl
  have ec := cyc_more k' n [p] p.2.1 ek' (by omega)
  rw [eb, ec]
  have srcS : ∀ {v : Str} {q : Td}, v ∈ S → ah v = some q → q.2.1 ∈ S := fun {v q} h1 h2 => by
    obtain ⟨q', e1, e2⟩ := cl.go v h1
    rw [h2] at e1
    cases e1
    exact e2
  have pS := srcS hS hp
  refine q_par (s1 := .nw [.lst []]) (s2 := .pu (.str u)) (EnL.ek (en_lst ea_nil (by decide))) (Ev.ek (ev_var rfl)) ?_
  refine sx_seq (Mid := fun ds => ∃ seen : List Str, ds = ⟨[.pu (dkD es), .pu (.str u), .lo 0, .pu (.str (seekF (gT wt) ah n [] u)), .un, .un], [.lst (seen.map .str)]⟩)
    (sx_while (Inv := fun m ds => ∃ (seen : List Str) (here : Str), Seek (gT wt) ah S seen here ∧ m + seen.length = n ∧ seekF (gT wt) ah m seen here = seekF (gT wt) ah n [] u ∧ ds = ⟨[.pu (dkD es), .pu (.str u), .lo 0, .pu (.str here), .un, .un], [.lst (seen.map .str)]⟩) n ⟨[], u, .start uS, rfl, rfl, rfl⟩ ?_) ?_
  · rintro m _ ⟨seen, here, sk, em, ef, rfl⟩
    have sh1 := sh_str (so _ sk.hS)
    have sh2 := sh_strsL (us := seen) fun v hv => so v (sk.sub v hv)
    refine ⟨!decide (here ∈ seen), et_view (l := 0) rfl rfl (et_is (et_test (ev_op (ev_var rfl) (ev_var rfl) (rd_ninL sh1 sh2))) (by rw [any_str])), fun h => ?_, fun h => ?_⟩
    · have hn' : here ∉ seen := by simpa using h
      have lt := sk.lt hn'
      obtain ⟨q, hq, hqs⟩ := cl.go here sk.hS
      obtain ⟨m', rfl⟩ : ∃ m', m = m' + 1 := ⟨m - 1, by omega⟩
      refine q_app (l := 0) rfl rfl (ev_var rfl) (by rw [List.length_map]; omega) ?_
      refine sx_asg (s := .pu (.str q.2.1)) (Ev.ek (ev_op (ev_op (ev_kgS (by first | exact erk_own rfl rfl | exact Ev.rk (ev_var rfl)) (ev_var rfl) (hget hq)) ev_int (by walk_at "ix")) ev_int (by walk_at "ix"))) (by show 3 < 6; decide) ⟨m', Nat.lt_succ_self _, seen ++ [here], q.2.1, sk.next hn' hq hqs, by rw [List.length_append, List.length_singleton]; omega, ?_, ?_⟩
      · rw [← ef, seek_step hn' hq]; rfl
      · rw [List.map_append]; rfl
    · have hn' : here ∈ seen := by simpa using h
      rw [seek_end hn'] at ef
      exact ⟨seen, by rw [← ef]⟩
  rintro _ ⟨seen, rfl⟩
  generalize seekF (gT wt) ah n [] u = here at *
  refine q_par (s1 := .nw [.lst [eTd p]]) (s2 := .pu (.str p.2.1)) (EnL.ek (en_lstA (ea_cons (ev_kgS (by first | exact erk_own rfl rfl | exact Ev.rk (ev_var rfl)) (ev_var rfl) (hget hp)) ea_nil) rfl)) (Ev.ek (ev_op (ev_op (ev_kgS (by first | exact erk_own rfl rfl | exact Ev.rk (ev_var rfl)) (ev_var rfl) (hget hp)) ev_int (by walk_at "ix")) ev_int (by walk_at "ix"))) ?_
  refine sx_seq (Mid := fun ds => ds = ⟨[.pu (dkD es), .pu (.str u), .lo 0, .pu (.str here), .lo 1, .pu (.str here)], [.lst (seen.map .str), .lst (eTds (cycF (gT wt) ah here k' [p] p.2.1))]⟩)
    (sx_while (Inv := fun m ds => ∃ (found : List Td) (there : Str), itN (gT wt) ah m there = some here ∧ cycF (gT wt) ah here m found there = cycF (gT wt) ah here k' [p] p.2.1 ∧ found.length + m ≤ n ∧ there ∈ S ∧ ds = ⟨[.pu (dkD es), .pu (.str u), .lo 0, .pu (.str here), .lo 1, .pu (.str there)], [.lst (seen.map .str), .lst (eTds found)]⟩) k' ⟨[p], p.2.1, ek', rfl, by rw [List.length_singleton]; omega, pS, rfl⟩ ?_) ?_
  · rintro m _ ⟨found, there, e1, e2, le, tS, rfl⟩
    have so1 := so _ tS
    have so2 := so _ hS
    refine ⟨!decide (there = here), (et_test (ev_op (ev_var rfl) (ev_var rfl) (by walk_at "ne"))), fun h => ?_, fun h => ?_⟩
    · have ne : there ≠ here := by simpa using h
      obtain ⟨m', rfl⟩ : ∃ m', m = m' + 1 := ⟨m - 1, by
        cases m with
        | zero => exact absurd (Option.some.inj e1) ne
        | succ m => rfl⟩
      obtain ⟨q, hq, e1'⟩ := it_some e1
      refine q_app (l := 1) rfl rfl (ev_kgS (by first | exact erk_own rfl rfl | exact Ev.rk (ev_var rfl)) (ev_var rfl) (hget hq)) (by unfold eTds; rw [List.length_map]; omega) ?_
      refine sx_asg (s := .pu (.str q.2.1)) (Ev.ek (ev_op (ev_op (ev_kgS (by first | exact erk_own rfl rfl | exact Ev.rk (ev_var rfl)) (ev_var rfl) (hget hq)) ev_int (by walk_at "ix")) ev_int (by walk_at "ix"))) (by show 5 < 6; decide) ⟨m', Nat.lt_succ_self _, found ++ [q], q.2.1, e1', ?_, by rw [List.length_append, List.length_singleton]; omega, srcS tS hq, ?_⟩
      · rw [← e2, cyc_step ne hq]; rfl
      · unfold eTds; rw [List.map_append]; rfl
    · obtain rfl : there = here := by simpa using h
      rw [cyc_end] at e2
      show _ = _
      rw [e2]
  rintro _ rfl
  refine sx_frz (l := 1) rfl rfl (Nat.zero_le _) (sx_retD (by first | exact ev_tupleT (k := .l) (EnL.ev (en_revL (ev_var rfl)))) ?_)
  unfold eTds
  rw [List.map_reverse]
end
end L4
end

section
set_option Elab.async false
set_option linter.all false
set_option maxRecDepth 100000
set_option maxHeartbeats 1000000
set_option autoImplicit false
namespace L4
open PySem L2
section
variable {Pr : Program} {w : World} {K : PySem.W.Frag} {mg : Str → Option Value} {base : Heap} {cs : Cs}
local macro_rules
  | `(tactic| walk_at "sh") => `(tactic| first | exact rfl | assumption | exact sh_str (by first | assumption | decide +kernel) | decide +kernel)
local macro_rules
  | `(tactic| walk_at "ix") => `(tactic| first | exact rd_ixT rfl | exact rd_ixL rfl | exact rd_ixT (by assumption) | exact rd_ixL (by assumption) | exact rd_ixT (atI_nat (by assumption)) | exact rd_ixL (atI_nat (by assumption)))
local macro_rules
  | `(tactic| walk_at "add") => `(tactic| first | exact rd_addI | exact rd_addS (by first | assumption | decide) | exact rd_addT (by first | assumption | exact Nat.le_of_ble_eq_true rfl) | exact rd_addL (by first | assumption | exact Nat.le_of_ble_eq_true rfl))
local macro_rules
  | `(tactic| walk_at "mul") => `(tactic| first | exact rd_mul (.inl (by decide)) | exact rd_mul (.inr (by decide)) | exact rd_mul (.inl (by omega)) | exact rd_mul (.inr (by omega)))
local macro_rules
  | `(tactic| walk_at "mod") => `(tactic| exact rd_mod (by first | decide | omega))
local macro_rules
  | `(tactic| walk_at "div") => `(tactic| exact rd_div ⟨by first | decide | omega, by first | decide | omega⟩)
local macro_rules
  | `(tactic| walk_at "eq") => `(tactic| exact rd_eq (by walk_at "sh") (by walk_at "sh"))
local macro_rules
  | `(tactic| walk_at "ne") => `(tactic| exact rd_ne (by walk_at "sh") (by walk_at "sh"))
local macro_rules
  | `(tactic| walk_at "in") => `(tactic| first | exact rd_inT (by walk_at "sh") (by walk_at "sh") | exact rd_inL (by walk_at "sh") (by walk_at "sh"))
local macro_rules
  | `(tactic| walk_at "nin") => `(tactic| first | exact rd_ninT (by walk_at "sh") (by walk_at "sh") | exact rd_ninL (by walk_at "sh") (by walk_at "sh"))
local macro_rules
  | `(tactic| walk_at "cd") => `(tactic| first | exact cd_lenT | exact cd_lenL | exact cd_intI | exact cd_sS | exact cd_sI (by assumption) | exact cd_lenS (by assumption) | exact cd_intB)
theorem ok_raised (T : Fx K mg cs) : Ok Pr w K mg base "raised" 2 ["units", "told", "weights"] (spD K rRaised) := by
  obtain ⟨f, fd, F, b, g⟩ := T.f_raised
  have c_back_around := ok_back_around (Pr := Pr) (w := w) (base := base) T
  refine ⟨f, fd, g, F.kp, b, fn_ok F sc_raised (fun xs d h => by obtain ⟨_, _, _, rfl, _⟩ := h; rfl) (fun cdv A outer s H E hr => ⟨_, (pss_cons (ps_par3 (i := 3) (j := 4) (l := 5) rfl sc_raised.nd rfl rfl rfl (by decide) (by decide) (by decide) rfl rfl rfl (pa_cons (pe_callTy (kc_dictP K rfl) (by rfl) T.b_dict bt_dict (pa_cons (pe_lc (own := [("unit", 6)]) (g := (gName 6)) rfl sc_raised.nd (kw_seq K (pv 0)) (blkOk_by (own := [("unit", 6)]) (N := N_raised) (sc := defScope st_raised) (by decide +kernel)) (fun _ _ _ _ _ => (pg_name (i := 6) sc_raised.nd rfl (by first | exact Or.inl rfl | exact Or.inr rfl))) (fun _ _ _ _ _ => pts_nil) (fun _ _ _ _ _ => (pe_tup (pa_cons (pv 6) (pa_cons pe_int pa_nil))))) pa_nil)) (pa_cons pe_dnewK (pa_cons pe_non pa_nil))) (by rfl))
      (pss_cons (ps_for PassesOwn.never rfl (pi_range1 (by rfl) T.b_range (pa_cons (pe_op (ko_add K) (pe_callB (kc_len K) (by rfl) T.b_len bt_len (pa_cons (pv 0) pa_nil)) pe_int) pa_nil)) (pg_name (i := 7) sc_raised.nd rfl (by first | exact Or.inl rfl | exact Or.inr rfl)) (pss_cons (ps_set (i := 5) sc_raised.nd rfl (.inl rfl) pe_non)
      (pss_cons (ps_for PassesOwn.never rfl (kw_z2 K (by rfl) T.b_zip (pa_cons (pv 1) (pa_cons (pv 2) pa_nil))) (kg_tup K rfl (pgs_cons (pg_name (i := 8) sc_raised.nd rfl (by first | exact Or.inl rfl | exact Or.inr rfl)) (pgs_cons (pg_name (i := 9) sc_raised.nd rfl (by first | exact Or.inl rfl | exact Or.inr rfl)) pgs_nil))) (pss_cons (ps_asg (pe_ix (ki_seq K) (pv 8) pe_int (fun _ _ => rfl)) (kg_tup K rfl (pgs_cons (pg_name (i := 10) sc_raised.nd rfl (by first | exact Or.inl rfl | exact Or.inr rfl)) (pgs_cons (pg_name (i := 11) sc_raised.nd rfl (by first | exact Or.inl rfl | exact Or.inr rfl)) (pgs_cons (pg_name (i := 12) sc_raised.nd rfl (by first | exact Or.inl rfl | exact Or.inr rfl)) pgs_nil)))))
      (pss_one (ps_if (pt_cmpR (ko_lt K (u0 hr)) (pe_dget (u1 hr) (pv 3) (pv 11) (fun _ _ => rfl)) (pe_op (ko_add K) (pe_dget (u1 hr) (pv 3) (pv 10) (fun _ _ => rfl)) (pv 9)) (nomark _)) (pss_one (ps_asg (pe_tup (pa_cons (pe_op (ko_add K) (pe_dget (u1 hr) (pv 3) (pv 10) (fun _ _ => rfl)) (pv 9)) (pa_cons (pv 8) (pa_cons (pv 11) pa_nil)))) (kg_tup K rfl (pgs_cons (pg_sub (pv 3) (pv 11) (set_dict (u1 hr))) (pgs_cons (pg_sub (pv 4) (pv 11) (set_dict (u1 hr))) (pgs_cons (pg_name (i := 5) sc_raised.nd rfl (by first | exact Or.inl rfl | exact Or.inr rfl)) pgs_nil)))))) pss_nil))))
      (pss_one (ps_if (pt_cmp (pc_isN (pv 5)) (nomark _)) (pss_one (ps_ret (pe_tup (pa_cons (pv 3) (pa_cons pe_non pa_nil))))) pss_nil)))))
      (pss_one (ps_ret (pe_tup (pa_cons pe_non (pa_cons (pe_own c_back_around (hr.mono (by decide)) (by rfl) (pa_cons (pv 4) (pa_cons (pv 5) pa_nil))) pa_nil))))))), fun xs d hR => ?_⟩)⟩
  obtain ⟨a0, a1, a2, rfl, hR⟩ := hR
  obtain ⟨us, td, wt, nd, so, ul, tl, sd, rfl, rfl, rfl, rfl⟩ := hR
  refine sx_seq1 (sx_par3 (s1 := .nw [.dk (dkF us fun _ => 0)]) (s2 := .nw [.dk []]) (s3 := .pu .none) (en_zeros rfl rfl nd (by omega)).ek endk_new.ek (Ev.ek ev_non) (by show 3 < 13; decide) (by show 4 < 13; decide) (by show 5 < 13; decide) rfl) ?_
  refine q_for (List.range (us.length + 1)) (fun (i : Nat) => PyData.int i) (fun i ds => ∃ es s6 s7 s8 s9 s10 s11 s12, KeysIn us es ∧ (∀ v, valD es (.inr v) = ((lapN (gT wt) td i).ahead v).map eTd) ∧ runL (gT wt) td (us.length + 1 - i) i = runL (gT wt) td (us.length + 1) 0 ∧ ds = ⟨[.pu (eTx us), .pu (.list (eTds td)), .pu (.list (td.map fun t => .int (wt t))), .lo 0, .lo 1, .pu (eLast (lapN (gT wt) td i).last), s6, s7, s8, s9, s10, s11, s12], [.dk (dkF us (lapN (gT wt) td i).far), .dk es]⟩) (fun i ds => ds.set 7 (.pu (.int (i : Nat))))
    ((eI_rng1 (n := (us.length + 1 : Nat)) (ea_cons (ev_is (ev_op (ev_cb (ea_cons (ev_var rfl) ea_nil) (by walk_at "cd")) ev_int (by walk_at "add")) (by rw [List.length_map]; rfl)) ea_nil) (by omega))) ⟨[], .un, .un, .un, .un, .un, .un, .un, .nil, fun v => rfl, rfl, rfl⟩ (fun i l ds _ ⟨es, s6, s7, s8, s9, s10, s11, s12, _, _, _, e⟩ => by subst e; exact tg1) ?_ ?_
  · rintro i l _ hi ⟨es, s6, s7, s8, s9, s10, s11, s12, kin, hv, hr', rfl⟩
    have il : i < us.length + 1 := by
      have := (List.getElem?_eq_some_iff.mp hi).1
      rwa [List.length_range] at this
    obtain ⟨b, hb⟩ : ∃ b, b = lapN (gT wt) td i := ⟨_, rfl⟩
    rw [← hb] at hv ⊢
    refine q_set (d := .none) ev_non ?_
    refine q_for td (fun t => .tuple [eTd t, .int (wt t)]) (fun j ds => ∃ es s6 s7 s8 s9 s10 s11 s12, KeysIn us es ∧ (∀ v, valD es (.inr v) = (((td.take j).foldl (lstep (gT wt)) ⟨b.far, b.ahead, none⟩).ahead v).map eTd) ∧ ds = ⟨[.pu (eTx us), .pu (.list (eTds td)), .pu (.list (td.map fun t => .int (wt t))), .lo 0, .lo 1, .pu (eLast ((td.take j).foldl (lstep (gT wt)) ⟨b.far, b.ahead, none⟩).last), s6, s7, s8, s9, s10, s11, s12], [.dk (dkF us ((td.take j).foldl (lstep (gT wt)) ⟨b.far, b.ahead, none⟩).far), .dk es]⟩) (fun t ds => (ds.set 8 (.pu (eTd t))).set 9 (.pu (.int (wt t))))
      ((eI_z2 (k1 := .l) (k2 := .l) (ev_var rfl) (ev_var rfl)).is ?_) ⟨es, s6, _, s8, s9, s10, s11, s12, kin, hv, rfl⟩ (fun j t ds _ ⟨es, s6, s7, s8, s9, s10, s11, s12, _, _, e⟩ => by subst e; exact tg2) ?_ ?_
    · unfold eTds zipD
      rw [List.zip_map', List.map_map]; rfl
    · rintro j t _ hj ⟨es, s6, s7, s8, s9, s10, s11, s12, kin, hv, rfl⟩
      obtain ⟨sm, dm⟩ := sd t (List.mem_of_getElem? hj)
      have et : (td.take (j + 1)).foldl (lstep (gT wt)) ⟨b.far, b.ahead, none⟩ = lstep (gT wt) ((td.take j).foldl (lstep (gT wt)) ⟨b.far, b.ahead, none⟩) t := by
        rw [List.take_add_one, hj, Option.toList_some, List.foldl_append]; rfl
      rw [et]
      generalize (td.take j).foldl (lstep (gT wt)) ⟨b.far, b.ahead, none⟩ = c at *
      refine sx_seq1 (sx_asgT (ev_op (ev_var rfl) ev_int (by walk_at "ix")) tg3 rfl) ?_
      have g1 : valD (dkF us c.far) (.inr t.2.2.1) = some (.int (c.far t.2.2.1)) := dkF_get dm
      have g2 : valD (dkF us c.far) (.inr t.2.1) = some (.int (c.far t.2.1)) := dkF_get sm
      have kl := kin.le
      have ll : (dkF us c.far).length ≤ 40 := by unfold dkF; rw [List.length_map]; exact ul
      refine sx_if (et_test (ev_op (ev_kgS (by first | exact erk_own rfl rfl | exact Ev.rk (ev_var rfl)) (ev_var rfl) (g1)) (ev_op (ev_kgS (by first | exact erk_own rfl rfl | exact Ev.rk (ev_var rfl)) (ev_var rfl) (g2)) (ev_var rfl) (by walk_at "add")) rd_ltI)) (fun h => ?_) fun h => ?_
      · have lt : c.far ((gT wt).dst t) < c.far ((gT wt).src t) + (gT wt).wt t := of_decide_eq_true h
        rw [lstep_yes lt]
        have hv2 : ∀ v, valD (putD es (.inr t.2.2.1) (eTd t)) (.inr v) = Option.map eTd (if v = t.2.2.1 then some t else c.ahead v) := fun v => by
          rw [valD_put]
          by_cases z : v = t.2.2.1
          · subst z; rw [if_pos rfl, if_pos rfl]; rfl
          · rw [if_neg (fun q => z (Sum.inr.inj q)), if_neg z]; exact hv v
        have e1 := dkF_put (f := c.far) dm (c.far t.2.1 + wt t)
        exact sx_trip (l1 := 0) (l2 := 1) (k := .inr t.2.2.1) rfl rfl rfl rfl (by decide) rfl (ev_op (ev_kgS (by first | exact erk_own rfl rfl | exact Ev.rk (ev_var rfl)) (ev_var rfl) (g2)) (ev_var rfl) (by walk_at "add")) (ev_var rfl) (ev_var rfl) (by omega) (by omega) (by show 5 < 13; decide) ⟨putD es (.inr t.2.2.1) (eTd t), _, _, _, _, _, _, _, kin.put dm _, hv2, by rw [e1]; rfl⟩
      · have nlt : ¬ c.far ((gT wt).dst t) < c.far ((gT wt).src t) + (gT wt).wt t := of_decide_eq_false h
        rw [lstep_no nlt]
        exact sx_next ⟨es, _, _, _, _, _, _, _, kin, hv, rfl⟩
    · rintro _ ⟨es, s6, s7, s8, s9, s10, s11, s12, kin, hv, rfl⟩
      rw [List.take_length] at hv ⊢
      have eb : td.foldl (lstep (gT wt)) ⟨b.far, b.ahead, none⟩ = lapN (gT wt) td (i + 1) := by rw [hb]; rfl
      rw [eb] at hv ⊢
      have er : runL (gT wt) td (us.length + 1 - i) i = if (lapN (gT wt) td (i + 1)).last.isNone = true then .inl (lapN (gT wt) td (i + 1)).far else runL (gT wt) td (us.length + 1 - (i + 1)) (i + 1) := by
        rw [show us.length + 1 - i = (us.length + 1 - (i + 1)) + 1 by omega]; rfl
      rw [er] at hr'
      cases hl : (lapN (gT wt) td (i + 1)).last with
      | none =>
        rw [hl] at hr'
        have hr2 : Sum.inl (lapN (gT wt) td (i + 1)).far = runL (gT wt) td (us.length + 1) 0 := hr'
        refine sx_yesI (et_test (ev_isN (ev_var rfl))) rfl (sx_frz (l := 0) rfl rfl (Nat.zero_le _) (sx_retI (ev_tupA (ea_cons (ev_var rfl) (ea_cons ev_non ea_nil)) rfl) rfl ?_))
        show Rs.pu _ = .pu _
        unfold raisedF
        rw [← hr2]
        rfl
      | some v =>
        rw [hl] at hr'
        refine sx_noI (et_test (ev_isN (ev_var rfl))) rfl (sx_next ⟨es, _, _, _, _, _, _, _, kin, hv, hr', rfl⟩)
  · rintro _ ⟨es, s6, s7, s8, s9, s10, s11, s12, kin, hv, hr', rfl⟩
    rw [List.length_range] at hv hr' ⊢
    rw [Nat.sub_self] at hr'
    have hr2 : Sum.inr (lapN (gT wt) td (us.length + 1)) = runL (gT wt) td (us.length + 1) 0 := hr'
    obtain ⟨_, h2⟩ := run_inr hr2.symm
    rw [Nat.zero_add] at h2
    obtain ⟨v, hl⟩ := Option.ne_none_iff_exists'.mp (h2 (by omega))
    obtain ⟨_, _, S, cl, vS, sl, su⟩ := lap_ring (g := gT wt) (us := us) sd (by omega) hl
    rw [hl]
    refine sx_frz (l := 1) rfl rfl (Nat.zero_le _) (sx_retD (ev_tupA (ea_cons ev_non (ea_cons (ev_call (ea_cons (ev_var rfl) (ea_cons (ev_var rfl) ea_nil)) (⟨_, _, rfl, es, wt, _, v, S, us.length + 1, rfl, rfl, hv, cl, vS, by omega, by omega, fun u hu => so u (su u hu), rfl⟩)) ea_nil)) rfl) ?_)
    unfold raisedF
    rw [← hr2]
    show _ = PyData.tuple [.none, .tuple (eTds (backF (gT wt) (lapN (gT wt) td (us.length + 1)).ahead (us.length + 1) ((lapN (gT wt) td (us.length + 1)).last.getD "")))]
    rw [hl]
    rfl
end
end L4
end

section
set_option Elab.async false
set_option linter.all false
set_option maxRecDepth 100000
set_option maxHeartbeats 1000000
set_option autoImplicit false
namespace L4
open PySem L2
section
variable {Pr : Program} {w : World} {K : PySem.W.Frag} {mg : Str → Option Value} {base : Heap} {cs : Cs}
local macro_rules
  | `(tactic| walk_at "sh") => `(tactic| first | exact rfl | assumption | exact sh_str (by first | assumption | decide +kernel) | decide +kernel)
local macro_rules
  | `(tactic| walk_at "ix") => `(tactic| first | exact rd_ixT rfl | exact rd_ixL rfl | exact rd_ixT (by assumption) | exact rd_ixL (by assumption) | exact rd_ixT (atI_nat (by assumption)) | exact rd_ixL (atI_nat (by assumption)))
local macro_rules
  | `(tactic| walk_at "add") => `(tactic| first | exact rd_addI | exact rd_addS (by first | assumption | decide) | exact rd_addT (by first | assumption | exact Nat.le_of_ble_eq_true rfl) | exact rd_addL (by first | assumption | exact Nat.le_of_ble_eq_true rfl))
local macro_rules
  | `(tactic| walk_at "mul") => `(tactic| first | exact rd_mul (.inl (by decide)) | exact rd_mul (.inr (by decide)) | exact rd_mul (.inl (by omega)) | exact rd_mul (.inr (by omega)))
local macro_rules
  | `(tactic| walk_at "mod") => `(tactic| exact rd_mod (by first | decide | omega))
local macro_rules
  | `(tactic| walk_at "div") => `(tactic| exact rd_div ⟨by first | decide | omega, by first | decide | omega⟩)
local macro_rules
  | `(tactic| walk_at "eq") => `(tactic| exact rd_eq (by walk_at "sh") (by walk_at "sh"))
local macro_rules
  | `(tactic| walk_at "ne") => `(tactic| exact rd_ne (by walk_at "sh") (by walk_at "sh"))
local macro_rules
  | `(tactic| walk_at "in") => `(tactic| first | exact rd_inT (by walk_at "sh") (by walk_at "sh") | exact rd_inL (by walk_at "sh") (by walk_at "sh"))
local macro_rules
  | `(tactic| walk_at "nin") => `(tactic| first | exact rd_ninT (by walk_at "sh") (by walk_at "sh") | exact rd_ninL (by walk_at "sh") (by walk_at "sh"))
local macro_rules
  | `(tactic| walk_at "cd") => `(tactic| first | exact cd_lenT | exact cd_lenL | exact cd_intI | exact cd_sS | exact cd_sI (by assumption) | exact cd_lenS (by assumption) | exact cd_intB)
theorem ok_share_of (T : Fx K mg cs) : Ok Pr w K mg base "share_of" 4 ["dig", "doubts"] (spD K (rShareOf cs.Dig)) := by
  obtain ⟨f, fd, F, b, g⟩ := T.f_share_of
  have c_told_steps := ok_told_steps (Pr := Pr) (w := w) (base := base) T
  have c_raised := ok_raised (Pr := Pr) (w := w) (base := base) T
  have c_Dig_units := ok_Dig_units (Pr := Pr) (w := w) (base := base) T
  have c_weights_of := ok_weights_of (Pr := Pr) (w := w) (base := base) T
  have c_growth_of := ok_growth_of (Pr := Pr) (w := w) (base := base) T
  have c_doubt_of := ok_doubt_of (Pr := Pr) (w := w) (base := base) T
  have c_common_of := ok_common_of (Pr := Pr) (w := w) (base := base) T
  refine ⟨f, fd, g, F.kp, b, fn_ok F sc_share_of (fun xs d h => by obtain ⟨_, _, rfl, _⟩ := h; rfl) (fun cdv A outer s H E hr => ⟨_, (pss_cons (ps_asg (pe_tup (pa_cons (pe_own c_told_steps (hr.mono (by decide)) (by rfl) (pa_cons (pv 0) pa_nil)) (pa_cons pe_int (pa_cons pe_int (pa_cons (pe_tup pa_nil) pa_nil))))) (kg_tup K rfl (pgs_cons (pg_name (i := 2) sc_share_of.nd rfl (by first | exact Or.inl rfl | exact Or.inr rfl)) (pgs_cons (pg_name (i := 3) sc_share_of.nd rfl (by first | exact Or.inl rfl | exact Or.inr rfl)) (pgs_cons (pg_name (i := 4) sc_share_of.nd rfl (by first | exact Or.inl rfl | exact Or.inr rfl)) (pgs_cons (pg_name (i := 5) sc_share_of.nd rfl (by first | exact Or.inl rfl | exact Or.inr rfl)) pgs_nil))))))
      (pss_cons (ps_set (i := 6) sc_share_of.nd rfl (.inl rfl) (pe_ix (ki_seq K) (pe_own c_raised (hr.mono (by decide)) (by rfl) (pa_cons (pe_ownP c_Dig_units (hr.mono (by decide)) (pv 0)) (pa_cons (pv 2) (pa_cons (pe_own c_weights_of (hr.mono (by decide)) (by rfl) (pa_cons (pv 2) (pa_cons (pv 1) (pa_cons (pv 3) (pa_cons (pv 4) pa_nil))))) pa_nil)))) pe_int (fun _ _ => rfl)))
      (pss_cons (ps_while PassesOwn.never (pt_cmp (pc_notN (pv 6)) (nomark _)) (pss_cons (ps_par (i := 7) (j := 8) rfl sc_share_of.nd rfl rfl (by decide) rfl rfl (pa_cons (pe_own c_growth_of (hr.mono (by decide)) (by rfl) (pa_cons (pv 6) pa_nil)) (pa_cons (pe_own c_doubt_of (hr.mono (by decide)) (by rfl) (pa_cons (pv 1) (pa_cons (pv 6) pa_nil))) pa_nil)) (by rfl))
      (pss_cons (ps_if (pt_cmpR (ko_eq K (u64 hr)) (pv 8) pe_int (nomark _)) (pss_one (ps_ret (pe_tup (pa_cons pe_non (pa_cons pe_non (pa_cons (pv 6) pa_nil)))))) pss_nil)
      (pss_cons (ps_set (i := 9) sc_share_of.nd rfl (.inl rfl) (pe_own c_common_of (hr.mono (by decide)) (by rfl) (pa_cons (pv 7) (pa_cons (pv 8) pa_nil))))
      (pss_cons (ps_par3 (i := 3) (j := 4) (l := 5) rfl sc_share_of.nd rfl rfl rfl (by decide) (by decide) (by decide) rfl rfl rfl (pa_cons (pe_op op_fdiv (pv 7) (pv 9)) (pa_cons (pe_op op_fdiv (pv 8) (pv 9)) (pa_cons (pv 6) pa_nil))) (by rfl))
      (pss_one (ps_set (i := 6) sc_share_of.nd rfl (.inl rfl) (pe_ix (ki_seq K) (pe_own c_raised (hr.mono (by decide)) (by rfl) (pa_cons (pe_ownP c_Dig_units (hr.mono (by decide)) (pv 0)) (pa_cons (pv 2) (pa_cons (pe_own c_weights_of (hr.mono (by decide)) (by rfl) (pa_cons (pv 2) (pa_cons (pv 1) (pa_cons (pv 3) (pa_cons (pv 4) pa_nil))))) pa_nil)))) pe_int (fun _ _ => rfl)))))))))
      (pss_one (ps_ret (pe_tup (pa_cons (pv 3) (pa_cons (pv 4) (pa_cons (pv 5) pa_nil))))))))), fun xs d hR => ?_⟩)⟩
  obtain ⟨a0, a1, rfl, hR⟩ := hR
  obtain ⟨g, db, ok, dk, rfl, rfl, rfl⟩ := hR
  have ul := ok.le
  have tl := ok.td_le
  refine q_asgT (ev_tupA (ea_cons (ev_call (ea_cons (ev_var rfl) ea_nil) (⟨_, rfl, g, ok, rfl, rfl⟩)) (ea_cons ev_int (ea_cons ev_int (ea_cons (ev_tupA ea_nil rfl) ea_nil)))) rfl) (tg_tup (tgs_cons tg1 (tgs_cons tg1 (tgs_cons tg1 (tgs_cons tg1 tgs_nil))))) ?_
  refine q_set (ev_op (ev_call (ea_cons (ev_prop (ev_var rfl) (prop_units g)) (ea_cons (ev_var rfl) (ea_cons (ev_call (ea_cons (ev_var rfl) (ea_cons (ev_var rfl) (ea_cons (ev_var rfl) (ea_cons (ev_var rfl) ea_nil)))) (ok.weights db 0 (low := 1) (by decide))) ea_nil))) (ok.raised _)) ev_int (rd_around _)) ?_
  refine sx_seq (Mid := fun ds => ∃ (top low : Nat) (best : List Td) (s6 s7 s8 s9 : Sl), g.share db = (some (top, low), best) ∧ ds = ⟨[.pu (eDig cs.Dig g), .pu (eDb db), .pu (.list (eTds g.td)), .pu (nat top), .pu (nat low), .pu (.tuple (eTds best)), s6, s7, s8, s9], []⟩)
    (sx_while (Inv := fun m ds => ∃ (top low : Nat) (best : List Td) (s7 s8 s9 : Sl), ShI g.units g.td db 9999 top low ∧ mu (g.units.length * 9999) g.units.length top low < m ∧ shareF g.units g.td db m top low best = g.share db ∧ ds = ⟨[.pu (eDig cs.Dig g), .pu (eDb db), .pu (.list (eTds g.td)), .pu (nat top), .pu (nat low), .pu (.tuple (eTds best)), .pu (aroundD (raisedF (gT (wtF db top low)) g.units g.td)), s7, s8, s9], []⟩) (mu (g.units.length * 9999) g.units.length 0 1 + 1) ⟨0, 1, [], .un, .un, .un, .zero, Nat.lt_succ_self _, rfl, rfl⟩ ?_) ?_
  · rintro m _ ⟨top, low, best, s7, s8, s9, si, lt, es, rfl⟩
    obtain ⟨m', rfl⟩ : ∃ m', m = m' + 1 := ⟨m - 1, by omega⟩
    unfold shareF at es
    cases q : raisedF (gT (wtF db top low)) g.units g.td with
    | inl f =>
      rw [q] at es
      exact ⟨false, et_is (et_test (ev_notN (ev_var rfl))) rfl, fun h => (nomatch h), fun _ => ⟨top, low, best, _, _, _, _, es.symm, rfl⟩⟩
    | inr c =>
      rw [q] at es
      refine ⟨true, et_is (et_test (ev_notN (ev_var rfl))) rfl, fun _ => ?_, fun h => nomatch h⟩
      obtain ⟨r, _⟩ := raised_inr (g := gT (wtF db top low)) ok.tdIn.sd q
      have cl := r.le
      have dl := doubt_le db c
      by_cases z : doubtF db c = 0
      · have es' : (if doubtF db c = 0 then (none, c) else _) = g.share db := es
        rw [if_pos z] at es'
        refine q_par (s1 := .pu (.int (growthF c))) (s2 := .pu (nat (doubtF db c))) (Ev.ek (ev_call (ea_cons (ev_var rfl) ea_nil) (⟨_, rfl, c, by omega, rfl, rfl⟩))) (Ev.ek (ev_call (ea_cons (ev_var rfl) (ea_cons (ev_var rfl) ea_nil)) (⟨_, _, rfl, db, c, by omega, rfl, rfl, rfl⟩))) ?_
        rw [z]
        refine q_yesI (et_test (ev_op (ev_var rfl) ev_int (by walk_at "eq"))) rfl (sx_retI (ev_tupA (ea_cons ev_non (ea_cons ev_non (ea_cons (ev_var rfl) ea_nil))) rfl) rfl ?_)
        rw [← es']
        rfl
      · have es' : (if doubtF db c = 0 then (none, c) else shareF g.units g.td db m' ((growthF c).toNat / gcdC db c) (doubtF db c / gcdC db c) c) = g.share db := es
        rw [if_neg z] at es'
        obtain ⟨si', lt', gp, gl, dl', f0⟩ := si.next ok.tdIn q z
        have eg : growthF c = ((growthF c).toNat : Int) := by omega
        have fl : gcdC db c ≤ doubtF db c := Nat.gcd_le_right _ (by omega)
        have f1 : gcdC db c ≤ 40 := by omega
        have gl2 : (growthF c).toNat ≤ 100000000 := by
          have : g.units.length * 9999 ≤ 40 * 9999 := Nat.mul_le_mul_right _ ul
          omega
        have zi : ¬ ((doubtF db c : Nat) : Int) = 0 := by omega
        refine q_par (s1 := .pu (nat (growthF c).toNat)) (s2 := .pu (nat (doubtF db c))) (Ev.ek (ev_is (ev_call (ea_cons (ev_var rfl) ea_nil) (⟨_, rfl, c, by omega, rfl, rfl⟩)) (congrArg PyData.int eg))) (Ev.ek (ev_call (ea_cons (ev_var rfl) (ea_cons (ev_var rfl) ea_nil)) (⟨_, _, rfl, db, c, by omega, rfl, rfl, rfl⟩))) ?_
        refine q_noI (et_test (ev_op (ev_var rfl) ev_int (by walk_at "eq"))) (decide_eq_false zi) ?_
        refine q_set (ev_call (ea_cons (ev_var rfl) (ea_cons (ev_var rfl) ea_nil)) (⟨_, _, rfl, _, _, by omega, gl2, by omega, rfl, rfl, rfl⟩)) ?_
        refine sx_seq1 (sx_par3 (s1 := .pu (nat ((growthF c).toNat / gcdC db c))) (s2 := .pu (nat (doubtF db c / gcdC db c))) (s3 := .pu (.tuple (eTds c))) (Ev.ek (ev_is (ev_op (ev_var rfl) (ev_var rfl) (rd_div ⟨by show (0 : Int) < (gcdC db c : Nat); omega, by show ((gcdC db c : Nat) : Int) < _; omega⟩)) (nat_div _ _))) (Ev.ek (ev_is (ev_op (ev_var rfl) (ev_var rfl) (rd_div ⟨by show (0 : Int) < (gcdC db c : Nat); omega, by show ((gcdC db c : Nat) : Int) < _; omega⟩)) (nat_div _ _))) (Ev.ek (ev_var rfl)) (by show 3 < 10; decide) (by show 4 < 10; decide) (by show 5 < 10; decide) rfl) ?_
        have lw : doubtF db c / gcdC db c ≤ 1000000 := Nat.le_trans (Nat.div_le_self _ _) (by omega)
        exact sx_asg (Ev.ek (ev_op (ev_call (ea_cons (ev_prop (ev_var rfl) (prop_units g)) (ea_cons (ev_var rfl) (ea_cons (ev_call (ea_cons (ev_var rfl) (ea_cons (ev_var rfl) (ea_cons (ev_var rfl) (ea_cons (ev_var rfl) ea_nil)))) (ok.weights db _ lw)) ea_nil))) (ok.raised _)) ev_int (rd_around _))) (by show 6 < 10; decide) ⟨m', Nat.lt_succ_self _, _, _, c, _, _, _, si', by omega, es', rfl⟩
  · rintro _ ⟨top, low, best, s6, s7, s8, s9, es, rfl⟩
    exact sx_retD (ev_tupA (ea_cons (ev_var rfl) (ea_cons (ev_var rfl) (ea_cons (ev_var rfl) ea_nil))) rfl) (by rw [es]; rfl)
end
end L4
end

section
set_option Elab.async false
set_option linter.all false
set_option maxRecDepth 100000
set_option autoImplicit false
/-! More about wrong rows. -/
namespace L4
open PySem L2
theorem DigOk.share_some {g : DigD} (ok : DigOk g) {db : List Nat} {p q : Nat} {c : List Td} (h : g.share db = (some (p, q), c)) : ShI g.units g.td db 9999 p q ∧ FeasT db p q g.td := by
  have := share_all (us := g.units) (td := g.td) (db := db) (B := 9999) ok.tdIn
  unfold DigD.share at h
  rw [h] at this
  exact this
theorem DigOk.share_none {g : DigD} (ok : DigOk g) {db : List Nat} {c : List Td} (h : g.share db = (none, c)) : ¬ FeasR db g.td := by
  have := share_all (us := g.units) (td := g.td) (db := db) (B := 9999) ok.tdIn
  unfold DigD.share at h
  rw [h] at this
  exact this
theorem DigOk.loose_iff {g : DigD} (ok : DigOk g) {db : List Nat} {k : Nat} : (∃ ys, g.loose db k = some ys) ↔ FeasT db k 1 g.td := by
  unfold FeasT
  rw [raised_iff (g := gT (wtF db k 1)) (us := g.units) ok.tdIn.sd]
  unfold DigD.loose
  cases raisedF (gT (wtF db k 1)) g.units g.td with
  | inl f => exact ⟨fun _ => ⟨f, rfl⟩, fun _ => ⟨_, rfl⟩⟩
  | inr c => exact ⟨(fun ⟨_, h⟩ => nomatch h), (fun ⟨_, h⟩ => nomatch h)⟩
theorem DigOk.loose_of {g : DigD} (ok : DigOk g) {db : List Nat} {p q : Nat} {c : List Td} (h : g.share db = (some (p, q), c)) : ∃ ys, g.loose db (ceilF p q) = some ys := by
  obtain ⟨i, f⟩ := ok.share_some h
  exact ok.loose_iff.mpr ((years_iff i f).mpr (Nat.le_refl _))
theorem loose_get {g : DigD} {db : List Nat} {k : Nat} {ys : List Int} (h : g.loose db k = some ys) : ∃ f, raisedF (gT (wtF db k 1)) g.units g.td = .inl f ∧ ys = g.units.map f := by
  unfold DigD.loose at h
  cases q : raisedF (gT (wtF db k 1)) g.units g.td with
  | inl f => rw [q] at h; cases h; exact ⟨f, rfl, rfl⟩
  | inr c => rw [q] at h; cases h
theorem nat_ceil {p q : Nat} (hq : 0 < q) : PyData.int ((((p : Nat) : Int) + ((q : Nat) : Int) - 1) / ((q : Nat) : Int)) = nat (ceilF p q) := by
  have e : ((p : Nat) : Int) + ((q : Nat) : Int) - 1 = ((p + q - 1 : Nat) : Int) := by omega
  rw [e, ← Int.natCast_ediv]
  rfl
theorem eShare_some {g : DigD} {db : List Nat} {p q : Nat} {c : List Td} (h : g.share db = (some (p, q), c)) : eShare (g.share db) = .tuple [nat p, nat q, .tuple (eTds c)] := by rw [h]; rfl
theorem eShare_none {g : DigD} {db : List Nat} {c : List Td} (h : g.share db = (none, c)) : eShare (g.share db) = .tuple [.none, .none, .tuple (eTds c)] := by rw [h]; rfl
/-- the years of a tuple, as a dict -/
def yrD (us : List Str) (ys : List Int) : List (Key × PyData) := (us.map Sum.inr).zip (ys.map .int)
theorem yrD_keys {us : List Str} {ys : List Int} (hl : ys.length = us.length) : (yrD us ys).map (·.1) = us.map Sum.inr := by
  unfold yrD
  exact List.map_fst_zip (by rw [List.length_map, List.length_map]; omega)
theorem yrD_merge {us : List Str} {ys : List Int} (nd : us.Nodup) (hl : ys.length = us.length) : mergeD [] (yrD us ys) = yrD us ys := by
  have n : (us.map (Sum.inr : Str → Key)).Nodup := nd.map _ fun a b h e => h (Sum.inr.inj e)
  exact merge_nodup (es := []) (by rw [yrD_keys hl]; exact n)
theorem yrD_get : ∀ {us : List Str} {ys : List Int} {u : Str}, ys.length = us.length → u ∈ us → valD (yrD us ys) (.inr u) = some (.int (yrOf us ys u))
  | [], _, _, _, h => nomatch h
  | v :: us, [], _, hl, _ => by simp at hl
  | v :: us, y :: ys, u, hl, h => by
    have ih := yrD_get (us := us) (ys := ys) (u := u) (Nat.succ.inj hl)
    unfold valD yrD yrOf at *
    rw [List.map_cons, List.map_cons, List.zip_cons_cons, List.zip_cons_cons, List.find?_cons, List.find?_cons]
    by_cases e : v = u
    · subst e; simp
    · have e' : ¬ (Sum.inr v : Key) = Sum.inr u := fun z => e (Sum.inr.inj z)
      simp only [e', e, decide_false]
      exact ih ((List.mem_cons.mp h).resolve_left fun z => e z.symm)
theorem ifdb (db : List Nat) (n : Nat) (k : Int) : (if decide (n ∈ db) = true then PyData.int k else .int 0) = .int (if n ∈ db then k else 0) := by by_cases h : n ∈ db <;> simp [h]
theorem some_len {many : Nat} : ∀ {n : Nat} {l : List Nat}, l ∈ someF many n → l.length = n
  | 0, l, h => by rw [List.mem_singleton.mp h]; rfl
  | n + 1, l, h => by
    obtain ⟨row, hr, hm⟩ := List.mem_flatMap.mp h
    obtain ⟨i, _, e⟩ := List.mem_map.mp hm
    rw [← e, List.length_append, some_len hr]; rfl
theorem some_le {many : Nat} (hm : many ≤ 10) : ∀ n, (someF many n).length ≤ 10 ^ n
  | 0 => Nat.le_refl _
  | n + 1 => by
    have ih := some_le hm n
    show ((someF many n).flatMap _).length ≤ _
    rw [List.length_flatMap, Nat.pow_succ]
    have : (List.map (fun row : List Nat => (((List.range (many - (row.getLast?.map (· + 1)).getD 0)).map fun i => row ++ [(row.getLast?.map (· + 1)).getD 0 + i])).length) (someF many n)).sum ≤ (someF many n).length * 10 := sum_le fun row _ => by
      rw [List.length_map, List.length_range]; omega
    refine Nat.le_trans this ?_
    exact Nat.mul_le_mul_right _ ih
end L4
end

section
set_option Elab.async false
set_option linter.all false
set_option maxRecDepth 100000
set_option maxHeartbeats 1000000
set_option autoImplicit false
namespace L4
open PySem L2
section
variable {Pr : Program} {w : World} {K : PySem.W.Frag} {mg : Str → Option Value} {base : Heap} {cs : Cs}
local macro_rules
  | `(tactic| walk_at "sh") => `(tactic| first | exact rfl | assumption | exact sh_str (by first | assumption | decide +kernel) | decide +kernel)
local macro_rules
  | `(tactic| walk_at "ix") => `(tactic| first | exact rd_ixT rfl | exact rd_ixL rfl | exact rd_ixT (by assumption) | exact rd_ixL (by assumption) | exact rd_ixT (atI_nat (by assumption)) | exact rd_ixL (atI_nat (by assumption)))
local macro_rules
  | `(tactic| walk_at "add") => `(tactic| first | exact rd_addI | exact rd_addS (by first | assumption | decide) | exact rd_addT (by first | assumption | exact Nat.le_of_ble_eq_true rfl) | exact rd_addL (by first | assumption | exact Nat.le_of_ble_eq_true rfl))
local macro_rules
  | `(tactic| walk_at "mul") => `(tactic| first | exact rd_mul (.inl (by decide)) | exact rd_mul (.inr (by decide)) | exact rd_mul (.inl (by omega)) | exact rd_mul (.inr (by omega)))
local macro_rules
  | `(tactic| walk_at "mod") => `(tactic| exact rd_mod (by first | decide | omega))
local macro_rules
  | `(tactic| walk_at "div") => `(tactic| exact rd_div ⟨by first | decide | omega, by first | decide | omega⟩)
local macro_rules
  | `(tactic| walk_at "eq") => `(tactic| exact rd_eq (by walk_at "sh") (by walk_at "sh"))
local macro_rules
  | `(tactic| walk_at "ne") => `(tactic| exact rd_ne (by walk_at "sh") (by walk_at "sh"))
local macro_rules
  | `(tactic| walk_at "in") => `(tactic| first | exact rd_inT (by walk_at "sh") (by walk_at "sh") | exact rd_inL (by walk_at "sh") (by walk_at "sh"))
local macro_rules
  | `(tactic| walk_at "nin") => `(tactic| first | exact rd_ninT (by walk_at "sh") (by walk_at "sh") | exact rd_ninL (by walk_at "sh") (by walk_at "sh"))
local macro_rules
  | `(tactic| walk_at "cd") => `(tactic| first | exact cd_lenT | exact cd_lenL | exact cd_intI | exact cd_sS | exact cd_sI (by assumption) | exact cd_lenS (by assumption) | exact cd_intB)
theorem ok_loose_years (T : Fx K mg cs) : Ok Pr w K mg base "loose_years" 4 ["dig", "doubts", "years"] (spD K (rLooseYears cs.Dig)) := by
  obtain ⟨f, fd, F, b, g⟩ := T.f_loose_years
  have c_told_steps := ok_told_steps (Pr := Pr) (w := w) (base := base) T
  have c_raised := ok_raised (Pr := Pr) (w := w) (base := base) T
  have c_Dig_units := ok_Dig_units (Pr := Pr) (w := w) (base := base) T
  have c_weights_of := ok_weights_of (Pr := Pr) (w := w) (base := base) T
  refine ⟨f, fd, g, F.kp, b, fn_ok F sc_loose_years (fun xs d h => by obtain ⟨_, _, _, rfl, _⟩ := h; rfl) (fun cdv A outer s H E hr => ⟨_, (pss_cons (ps_set (i := 3) sc_loose_years.nd rfl (.inl rfl) (pe_own c_told_steps (hr.mono (by decide)) (by rfl) (pa_cons (pv 0) pa_nil)))
      (pss_cons (ps_set (i := 4) sc_loose_years.nd rfl (.inr rfl) (pe_ix (ki_seq K) (pe_own c_raised (hr.mono (by decide)) (by rfl) (pa_cons (pe_ownP c_Dig_units (hr.mono (by decide)) (pv 0)) (pa_cons (pv 3) (pa_cons (pe_own c_weights_of (hr.mono (by decide)) (by rfl) (pa_cons (pv 3) (pa_cons (pv 1) (pa_cons (pv 2) (pa_cons pe_int pa_nil))))) pa_nil)))) pe_int (fun _ _ => rfl)))
      (pss_one (ps_ret (pe_callTy (kc_tuple K) (by rfl) T.b_tuple bt_tuple (pa_cons (pe_lc (own := [("unit", 5)]) (g := (gName 5)) rfl sc_loose_years.nd (kw_seq K (pe_ownP c_Dig_units (hr.mono (by decide)) (pv 0))) (blkOk_by (own := [("unit", 5)]) (N := N_loose_years) (sc := defScope st_loose_years) (by decide +kernel)) (fun _ _ _ _ _ => (pg_name (i := 5) sc_loose_years.nd rfl (by first | exact Or.inl rfl | exact Or.inr rfl))) (fun _ _ _ _ _ => pts_nil) (fun _ _ _ _ _ => (pe_dget (u1 hr) (pv 4) (pv 5) (fun _ _ => rfl)))) pa_nil)))))), fun xs d hR => ?_⟩)⟩
  obtain ⟨a0, a1, a2, rfl, hR⟩ := hR
  obtain ⟨g, db, k, ys, ok, dk, hl, rfl, rfl, rfl, rfl⟩ := hR
  obtain ⟨f, hf, rfl⟩ := loose_get hl
  have ul := ok.le
  refine q_set (ev_call (ea_cons (ev_var rfl) ea_nil) (⟨_, rfl, g, ok, rfl, rfl⟩)) ?_
  refine q_set (ev_op (ev_call (ea_cons (ev_prop (ev_var rfl) (prop_units g)) (ea_cons (ev_var rfl) (ea_cons (ev_call (ea_cons (ev_var rfl) (ea_cons (ev_var rfl) (ea_cons (ev_var rfl) (ea_cons ev_int ea_nil)))) (ok.weights db k (low := 1) (by decide))) ea_nil))) (ok.raised _)) ev_int (rd_far hf)) ?_
  refine sx_retD (ev_tupleR (EnL.rl (lc1 g.units .str (fun u => .int (f u)) (eI_tup (ev_prop (ev_var rfl) (prop_units g))).r (by omega) fun u hu => (ev_kgS (by first | exact erk_own rfl rfl | exact Ev.rk (ev_var rfl)) (ev_var rfl) (dkF_get hu))))) ?_
  unfold eInts
  rw [List.map_map]
  rfl
theorem ok_wrong (T : Fx K mg cs) : Ok Pr w K mg base "wrong" 5 ["dig", "doubts"] (spD K (rWrong cs.Dig)) := by
  obtain ⟨f, fd, F, b, g⟩ := T.f_wrong
  have c_check_doubts := ok_check_doubts (Pr := Pr) (w := w) (base := base) T
  have c_share_of := ok_share_of (Pr := Pr) (w := w) (base := base) T
  have c_loose_years := ok_loose_years (Pr := Pr) (w := w) (base := base) T
  refine ⟨f, fd, g, F.kp, b, fn_ok F sc_wrong (fun xs d h => by obtain ⟨_, _, rfl, _⟩ := h; rfl) (fun cdv A outer s H E hr => ⟨_, (pss_cons (ps_expr (pe_own c_check_doubts (hr.mono (by decide)) (by rfl) (pa_cons (pv 0) (pa_cons (pv 1) pa_nil))))
      (pss_cons (ps_asg (pe_own c_share_of (hr.mono (by decide)) (by rfl) (pa_cons (pv 0) (pa_cons (pv 1) pa_nil))) (kg_tup K rfl (pgs_cons (pg_name (i := 2) sc_wrong.nd rfl (by first | exact Or.inl rfl | exact Or.inr rfl)) (pgs_cons (pg_name (i := 3) sc_wrong.nd rfl (by first | exact Or.inl rfl | exact Or.inr rfl)) (pgs_cons (pg_name (i := 4) sc_wrong.nd rfl (by first | exact Or.inl rfl | exact Or.inr rfl)) pgs_nil)))))
      (pss_cons (ps_if (pt_cmp (pc_isN (pv 2)) (nomark _)) (pss_one (ps_ret (pe_tup (pa_cons (pe_cst T.c_NEVER) (pa_cons (pv 4) pa_nil))))) pss_nil)
      (pss_cons (ps_set (i := 5) sc_wrong.nd rfl (.inl rfl) (pe_op op_fdiv (pe_op op_sub (pe_op (ko_add K) (pv 2) (pv 3)) pe_int) (pv 3)))
      (pss_one (ps_ret (pe_tup (pa_cons (pe_cst T.c_BY) (pa_cons (pv 5) (pa_cons (pe_own c_loose_years (hr.mono (by decide)) (by rfl) (pa_cons (pv 0) (pa_cons (pv 1) (pa_cons (pv 5) pa_nil)))) (pa_cons (pv 4) pa_nil))))))))))), fun xs d hR => ?_⟩)⟩
  obtain ⟨a0, a1, rfl, hR⟩ := hR
  obtain ⟨g, db, ok, dk, rfl, rfl, rfl⟩ := hR
  have ul := ok.le
  have tl := ok.td_le
  refine q_dropI (ev_call (ea_cons (ev_var rfl) (ea_cons (ev_var rfl) ea_nil)) (⟨_, _, rfl, g, db, ok, dk, rfl, rfl, rfl⟩)) ?_
  obtain ⟨o, c⟩ : ∃ o : Option (Nat × Nat), ∃ c, g.share db = (o, c) := ⟨_, _, rfl⟩
  obtain ⟨c, h⟩ := c
  cases o with
  | none =>
    refine q_asgT (ev_is (ev_call (ea_cons (ev_var rfl) (ea_cons (ev_var rfl) ea_nil)) (⟨_, _, rfl, g, db, ok, dk, rfl, rfl, rfl⟩)) (eShare_none h)) tg3 ?_
    exact q_yesI (et_test (ev_isN (ev_var rfl))) rfl (sx_retI (ev_tupA (ea_cons ev_str (ea_cons (ev_var rfl) ea_nil)) rfl) rfl (by show Rs.pu _ = .pu _; unfold DigD.wrong; rw [h]))
  | some pq =>
    obtain ⟨p, q⟩ := pq
    obtain ⟨si, _⟩ := ok.share_some h
    obtain ⟨ys, hy⟩ := ok.loose_of h
    have q0 := si.pos
    have q1 : q ≤ 40 := by rcases si.lD with e | e <;> omega
    refine q_asgT (ev_is (ev_call (ea_cons (ev_var rfl) (ea_cons (ev_var rfl) ea_nil)) (⟨_, _, rfl, g, db, ok, dk, rfl, rfl, rfl⟩)) (eShare_some h)) tg3 ?_
    refine q_noI (et_test (ev_isN (ev_var rfl))) rfl ?_
    refine q_setI (ev_op (ev_op (ev_op (ev_var rfl) (ev_var rfl) (rd_addI)) ev_int rd_sub) (ev_var rfl) (rd_div ⟨by show (0 : Int) < (q : Nat); omega, by show ((q : Nat) : Int) < _; omega⟩)) (nat_ceil q0) ?_ rfl
    refine sx_retD (ev_tupA (ea_cons ev_str (ea_cons (ev_var rfl) (ea_cons (ev_call (ea_cons (ev_var rfl) (ea_cons (ev_var rfl) (ea_cons (ev_var rfl) ea_nil))) (⟨_, _, _, rfl, g, db, _, ys, ok, dk, hy, rfl, rfl, rfl, rfl⟩)) (ea_cons (ev_var rfl) ea_nil)))) rfl) ?_
    unfold DigD.wrong
    rw [h]
    show _ = PyData.tuple [.str "by", nat (ceilF p q), eInts ((g.loose db (ceilF p q)).getD []), .tuple (eTds c)]
    rw [hy]
    rfl
theorem ok_is_loose_of (T : Fx K mg cs) : Ok Pr w K mg base "is_loose_of" 4 ["dig", "doubts", "years", "value"] (spD K (rIsLoose cs.Dig)) := by
  obtain ⟨f, fd, F, b, g⟩ := T.f_is_loose_of
  have c_Dig_units := ok_Dig_units (Pr := Pr) (w := w) (base := base) T
  have c_is_integer := ok_is_integer (Pr := Pr) (w := w) (base := base) T
  have c_told_steps := ok_told_steps (Pr := Pr) (w := w) (base := base) T
  refine ⟨f, fd, g, F.kp, b, fn_ok F sc_is_loose_of (fun xs d h => by obtain ⟨_, _, _, _, rfl, _⟩ := h; rfl) (fun cdv A outer s H E hr => ⟨_, (pss_cons (ps_if (PW.pt (pw_or (pt_not (pt_val (pe_callB (kc_isi K) (by rfl) T.b_isinstance bt_isinstance (pa_cons (pv 3) (pa_cons (pe_bltn (v := .ty "tuple") (by rfl) T.b_tuple bt_tuple rfl) pa_nil))))) (pw_or (pt_cmpR (ko_ne K (u64 hr)) (pe_callB (kc_len K) (by rfl) T.b_len bt_len (pa_cons (pv 3) pa_nil)) (pe_callB (kc_len K) (by rfl) T.b_len bt_len (pa_cons (pe_ownP c_Dig_units (hr.mono (by decide)) (pv 0)) pa_nil)) (nomark _)) (pw_or1 (pt_not (pt_val (pe_callB (kc_all K rfl) (by rfl) T.b_all bt_all (pa_cons (pe_lc (own := [("year", 4)]) (g := (gName 4)) rfl sc_is_loose_of.nd (kw_seq K (pv 3)) (blkOk_by (own := [("year", 4)]) (N := N_is_loose_of) (sc := defScope st_is_loose_of) (by decide +kernel)) (fun _ _ _ _ _ => (pg_name (i := 4) sc_is_loose_of.nd rfl (by first | exact Or.inl rfl | exact Or.inr rfl))) (fun _ _ _ _ _ => pts_nil) (fun _ _ _ _ _ => (pe_own c_is_integer (hr.mono (by decide)) (by rfl) (pa_cons (pv 4) pa_nil)))) pa_nil)))))))) (pss_one (ps_ret pe_bl)) pss_nil)
      (pss_cons (ps_set (i := 5) sc_is_loose_of.nd rfl (.inl rfl) (kp_dzipK K rfl (u64 hr) (by rfl) T.b_dict (by rfl) T.b_zip (pa_cons (pe_ownP c_Dig_units (hr.mono (by decide)) (pv 0)) (pa_cons (pv 3) pa_nil))))
      (pss_cons (ps_for PassesOwn.never rfl (kw_seq K (pe_own c_told_steps (hr.mono (by decide)) (by rfl) (pa_cons (pv 0) pa_nil))) (kg_tup K rfl (pgs_cons (pg_name (i := 6) sc_is_loose_of.nd rfl (by first | exact Or.inl rfl | exact Or.inr rfl)) (pgs_cons (kg_tup K rfl (pgs_cons (pg_name (i := 7) sc_is_loose_of.nd rfl (by first | exact Or.inl rfl | exact Or.inr rfl)) (pgs_cons (pg_name (i := 8) sc_is_loose_of.nd rfl (by first | exact Or.inl rfl | exact Or.inr rfl)) (pgs_cons (pg_name (i := 9) sc_is_loose_of.nd rfl (by first | exact Or.inl rfl | exact Or.inr rfl)) pgs_nil)))) pgs_nil))) (pss_one (ps_if (pt_cmpR (ko_lt K (u0 hr)) (pe_dget (u1 hr) (pv 5) (pv 8) (fun _ _ => rfl)) (pe_op op_sub (pe_op (ko_add K) (pe_dget (u1 hr) (pv 5) (pv 7) (fun _ _ => rfl)) (pv 9)) (pe_ifExp (pt_cmpR (ko_in K (u65 hr)) (pv 6) (pv 1) (by with_unfolding_all rfl)) (pv 2) pe_int)) (nomark _)) (pss_one (ps_ret pe_bl)) pss_nil)))
      (pss_one (ps_ret pe_bl))))), fun xs d hR => ?_⟩)⟩
  obtain ⟨a0, a1, a2, a3, rfl, hR⟩ := hR
  obtain ⟨g, db, k, ys, ok, dk, hk, hl, rfl, rfl, rfl, rfl, rfl⟩ := hR
  have ul := ok.le
  have tl := ok.td_le
  have shD := sh_natsT db
  refine q_noI (et_or (et_not (et_B (ev_isiA (ev_var rfl) rfl rfl))) fun _ => (et_or (et_test (ev_op (ev_cb (ea_cons (ev_var rfl) ea_nil) (by walk_at "cd")) (ev_cb (ea_cons (ev_prop (ev_var rfl) (prop_units g)) ea_nil) (by walk_at "cd")) (by walk_at "ne"))) fun _ => (et_not (et_B (ev_allM (EnL.rl (lc1 ys .int (fun _ => .bool true) (eI_tup (ev_var rfl)).r (by omega) fun y _ => (ev_call (ea_cons (ev_var rfl) ea_nil) (⟨_, rfl, ⟨y, rfl⟩, rfl⟩))))))))) ?_ ?_
  · rw [List.length_map, List.length_map, hl]
    simp [PyData.eqv]
  refine q_set (EnK.ev (en_dzipK (k1 := .t) (k2 := .t) (ss := g.units) (ys := ys.map .int) (ev_prop (ev_var rfl) (prop_units g)) (ev_var rfl) (by rw [List.length_map]; exact hl) (by omega))) ?_
  rw [show mergeD [] ((g.units.map Sum.inr).zip (ys.map PyData.int)) = yrD g.units ys from yrD_merge ok.nd hl]
  refine sx_seq (Mid := fun ds => g.isLoose db k ys = true ∧ ∃ s4 s5 s6 s7 s8 s9, ds = ⟨[.pu (eDig cs.Dig g), .pu (eDb db), .pu (nat k), .pu (eInts ys), s4, s5, s6, s7, s8, s9], []⟩)
    (sx_for g.td eTd (fun i ds => ((g.td.take i).all fun t => !decide (yrOf g.units ys t.2.2.1 < yrOf g.units ys t.2.1 + t.2.2.2 - (if t.1 ∈ db then (k : Int) else 0))) = true ∧ ∃ s4 s6 s7 s8 s9, ds = ⟨[.pu (eDig cs.Dig g), .pu (eDb db), .pu (nat k), .pu (eInts ys), s4, .pu (dkD (yrD g.units ys)), s6, s7, s8, s9], []⟩) (fun t ds => (((ds.set 6 (.pu (nat t.1))).set 7 (.pu (.str t.2.1))).set 8 (.pu (.str t.2.2.1))).set 9 (.pu (.int t.2.2.2)))
      (eI_list (ev_call (ea_cons (ev_var rfl) ea_nil) (⟨_, rfl, g, ok, rfl, rfl⟩))) ⟨rfl, _, _, _, _, _, rfl⟩ (fun i t ds _ ⟨_, s4, s6, s7, s8, s9, e⟩ => by subst e; exact tg_tup (tgs_cons tg1 (tgs_cons (tg_tup (tgs_cons tg1 (tgs_cons tg1 (tgs_cons tg1 tgs_nil)))) tgs_nil))) ?_ ?_) ?_
  · rintro i t _ hi ⟨ha, s4, s6, s7, s8, s9, rfl⟩
    have tm := List.mem_of_getElem? hi
    obtain ⟨sm, dm⟩ := ok.tdIn.sd t tm
    refine sx_if (b := decide (yrOf g.units ys t.2.2.1 < yrOf g.units ys t.2.1 + t.2.2.2 - (if t.1 ∈ db then (k : Int) else 0))) (et_test (ev_op (ev_kgS (by first | exact erk_own rfl rfl | exact Ev.rk (ev_var rfl)) (ev_var rfl) (yrD_get hl dm)) (ev_op (ev_op (ev_kgS (by first | exact erk_own rfl rfl | exact Ev.rk (ev_var rfl)) (ev_var rfl) (yrD_get hl sm)) (ev_var rfl) (by walk_at "add")) (ev_is (ev_ifV (et_is (et_test (ev_op (ev_var rfl) (ev_var rfl) (rd_inT rfl shD))) (any_nat _ _)) (fun _ => (ev_var rfl)) fun _ => ev_int) (ifdb _ _ _)) rd_sub) rd_ltI)) (fun h => ?_) fun h => ?_
    · refine sx_ret ev_bl ?_
      show Rs.pu _ = .pu _
      have : g.isLoose db k ys = false := by
        unfold DigD.isLoose
        rw [List.all_eq_false]
        exact ⟨t, tm, by rw [h]; decide⟩
      rw [this]
    · refine sx_next ⟨?_, _, _, _, _, _, rfl⟩
      rw [List.take_add_one, hi, Option.toList_some, List.all_append, ha, List.all_cons, h]
      rfl
  · rintro _ ⟨ha, s4, s6, s7, s8, s9, rfl⟩
    rw [List.take_length] at ha
    exact ⟨ha, _, _, _, _, _, _, rfl⟩
  · rintro _ ⟨ha, s4, s5, s6, s7, s8, s9, rfl⟩
    exact sx_retD ev_bl (by rw [ha])
theorem ok_is_loose (T : Fx K mg cs) : Ok Pr w K mg base "is_loose" 5 ["dig", "doubts", "years", "value"] (spD K (rIsLoose cs.Dig)) := by
  obtain ⟨f, fd, F, b, g⟩ := T.f_is_loose
  have c_check_doubts := ok_check_doubts (Pr := Pr) (w := w) (base := base) T
  have c_is_between := ok_is_between (Pr := Pr) (w := w) (base := base) T
  have c_is_loose_of := ok_is_loose_of (Pr := Pr) (w := w) (base := base) T
  refine ⟨f, fd, g, F.kp, b, fn_ok F sc_is_loose (fun xs d h => by obtain ⟨_, _, _, _, rfl, _⟩ := h; rfl) (fun cdv A outer s H E hr => ⟨_, (pss_cons (ps_expr (pe_own c_check_doubts (hr.mono (by decide)) (by rfl) (pa_cons (pv 0) (pa_cons (pv 1) pa_nil))))
      (pss_cons (ps_if (pt_not (pt_val (pe_own c_is_between (hr.mono (by decide)) (by rfl) (pa_cons (pv 2) (pa_cons pe_int (pa_cons (pe_cst T.c_MOST_YEARS) pa_nil)))))) (pss_one ps_never) pss_nil)
      (pss_one (ps_ret (pe_own c_is_loose_of (hr.mono (by decide)) (by rfl) (pa_cons (pv 0) (pa_cons (pv 1) (pa_cons (pv 2) (pa_cons (pv 3) pa_nil))))))))), fun xs d hR => ?_⟩)⟩
  obtain ⟨a0, a1, a2, a3, rfl, hR⟩ := hR
  obtain ⟨g, db, k, ys, ok, dk, hk, hl, rfl, rfl, rfl, rfl, rfl⟩ := hR
  refine q_dropI (ev_call (ea_cons (ev_var rfl) (ea_cons (ev_var rfl) ea_nil)) (⟨_, _, rfl, g, db, ok, dk, rfl, rfl, rfl⟩)) ?_
  refine q_noI (et_not (et_B (ev_call (ea_cons (ev_var rfl) (ea_cons ev_int (ea_cons ev_int ea_nil))) (⟨_, _, _, rfl, (k : Nat), _, _, rfl, rfl, rfl, rfl⟩)))) ?_ ?_
  · have e1 : ((0 : Int) ≤ (k : Nat)) := by omega
    have e2 : (((k : Nat) : Int) ≤ 9999) := by omega
    simp [e1, e2]
  exact sx_retD (ev_call (ea_cons (ev_var rfl) (ea_cons (ev_var rfl) (ea_cons (ev_var rfl) (ea_cons (ev_var rfl) ea_nil)))) (⟨_, _, _, _, rfl, g, db, k, ys, ok, dk, hk, hl, rfl, rfl, rfl, rfl, rfl⟩)) rfl
theorem ok_check_share (T : Fx K mg cs) : Ok Pr w K mg base "check_share" 5 ["dig", "doubts"] (spD K (rCheckShare cs.Dig)) := by
  obtain ⟨f, fd, F, b, g⟩ := T.f_check_share
  have c_check_doubts := ok_check_doubts (Pr := Pr) (w := w) (base := base) T
  have c_share_of := ok_share_of (Pr := Pr) (w := w) (base := base) T
  refine ⟨f, fd, g, F.kp, b, fn_ok F sc_check_share (fun xs d h => by obtain ⟨_, _, rfl, _⟩ := h; rfl) (fun cdv A outer s H E hr => ⟨_, (pss_cons (ps_expr (pe_own c_check_doubts (hr.mono (by decide)) (by rfl) (pa_cons (pv 0) (pa_cons (pv 1) pa_nil))))
      (pss_cons (ps_asg (pe_own c_share_of (hr.mono (by decide)) (by rfl) (pa_cons (pv 0) (pa_cons (pv 1) pa_nil))) (kg_tup K rfl (pgs_cons (pg_name (i := 2) sc_check_share.nd rfl (by first | exact Or.inl rfl | exact Or.inr rfl)) (pgs_cons (pg_name (i := 3) sc_check_share.nd rfl (by first | exact Or.inl rfl | exact Or.inr rfl)) (pgs_cons (pg_name (i := 4) sc_check_share.nd rfl (by first | exact Or.inl rfl | exact Or.inr rfl)) pgs_nil)))))
      (pss_one (ps_if (pt_cmp (pc_isN (pv 2)) (nomark _)) (pss_one ps_never) pss_nil)))), fun xs d hR => ?_⟩)⟩
  obtain ⟨a0, a1, rfl, hR⟩ := hR
  obtain ⟨g, db, ok, dk, hs, rfl, rfl, rfl⟩ := hR
  refine q_dropI (ev_call (ea_cons (ev_var rfl) (ea_cons (ev_var rfl) ea_nil)) (⟨_, _, rfl, g, db, ok, dk, rfl, rfl, rfl⟩)) ?_
  obtain ⟨o, c, h⟩ : ∃ (o : Option (Nat × Nat)) (c : List Td), g.share db = (o, c) := ⟨_, _, rfl⟩
  cases o with
  | none => rw [h] at hs; exact absurd rfl hs
  | some pq =>
    obtain ⟨p, q⟩ := pq
    refine q_asgT (ev_is (ev_call (ea_cons (ev_var rfl) (ea_cons (ev_var rfl) ea_nil)) (⟨_, _, rfl, g, db, ok, dk, rfl, rfl, rfl⟩)) (eShare_some h)) tg3 ?_
    exact sx_noI (et_test (ev_isN (ev_var rfl))) rfl (sx_next rfl)
theorem ok_share (T : Fx K mg cs) : Ok Pr w K mg base "share" 6 ["dig", "doubts"] (spD K (rShare cs.Dig)) := by
  obtain ⟨f, fd, F, b, g⟩ := T.f_share
  have c_check_share := ok_check_share (Pr := Pr) (w := w) (base := base) T
  have c_share_of := ok_share_of (Pr := Pr) (w := w) (base := base) T
  refine ⟨f, fd, g, F.kp, b, fn_ok F sc_share (fun xs d h => by obtain ⟨_, _, rfl, _⟩ := h; rfl) (fun cdv A outer s H E hr => ⟨_, (pss_cons (ps_expr (pe_own c_check_share (hr.mono (by decide)) (by rfl) (pa_cons (pv 0) (pa_cons (pv 1) pa_nil))))
      (pss_one (ps_ret (pe_own c_share_of (hr.mono (by decide)) (by rfl) (pa_cons (pv 0) (pa_cons (pv 1) pa_nil)))))), fun xs d hR => ?_⟩)⟩
  obtain ⟨a0, a1, rfl, hR⟩ := hR
  obtain ⟨g, db, ok, dk, hs, rfl, rfl, rfl⟩ := hR
  refine q_dropI (ev_call (ea_cons (ev_var rfl) (ea_cons (ev_var rfl) ea_nil)) (⟨_, _, rfl, g, db, ok, dk, hs, rfl, rfl, rfl⟩)) ?_
  exact sx_retD (ev_call (ea_cons (ev_var rfl) (ea_cons (ev_var rfl) ea_nil)) (⟨_, _, rfl, g, db, ok, dk, rfl, rfl, rfl⟩)) rfl
end
end L4
end

section
set_option Elab.async false
set_option linter.all false
set_option maxRecDepth 100000
set_option autoImplicit false
/-! What is gone is forgotten. -/
namespace L4
open PySem L2
section
variable {K : PySem.W.Frag} {P : Post} {t : TS} {sl : List Sl} {st : List Ob}
def lowSl (n : Nat) : Sl → Bool
  | .lo l => decide (l < n)
  | _ => true
theorem sx_trim (k : Sx K t ⟨sl, st⟩ P) (hs : sl.all (lowSl st.length) = true) (hb : st.all (below st.length) = true) (hm : P.m ≤ st.length) : Sx K t ⟨sl, st ++ [.gone]⟩ P := fun B W0 M N H0 W σ H hM ⟨adr, F⟩ D m => by
  have la : adr.length = st.length + 1 := by rw [F.st.la]; show (st ++ [Ob.gone]).length = _; rw [List.length_append]; rfl
  have get : ∀ {l : Nat}, l < st.length → (adr.take st.length)[l]? = adr[l]? := fun h => List.getElem?_take_of_lt h
  refine k B W0 M N H0 W σ H hM ⟨adr.take st.length, ⟨⟨F.st.len, F.st.al, by rw [List.length_take, la]; show min st.length (st.length + 1) = st.length; omega, F.st.nd.sublist (List.take_sublist _ _), fun a ha => F.st.there a (List.mem_of_mem_take ha), fun i s h => ?_, fun l a o h1 h2 h3 => ?_⟩, F.sub, F.new, F.keep, F.oth, F.nsub, F.msub, fun l a h1 h2 => ?_, F.base, fun l a h => ?_⟩⟩ D m
  · have q := F.st.sl i s h
    cases s with
    | lo l =>
      have hl : l < st.length := of_decide_eq_true (List.all_eq_true.mp hs _ (List.mem_of_getElem? h))
      obtain ⟨a, e1, e2⟩ := q
      exact ⟨a, by rw [get hl]; exact e1, e2⟩
    | _ => exact q
  · have hl : l < st.length := (List.getElem?_eq_some_iff.mp h2).1
    rw [get hl] at h1
    obtain ⟨aW, aN, u, hu, ok⟩ := F.st.ob l a o h1 (by show (st ++ [Ob.gone])[l]? = some o; rw [List.getElem?_append_left hl]; exact h2) h3
    exact ⟨aW, aN, u, hu, at_below (List.all_eq_true.mp hb _ (List.mem_of_getElem? h2)) ok⟩
  · have hl : l < st.length := by
      have := (List.getElem?_eq_some_iff.mp h2).1
      rw [List.length_take, la] at this
      omega
    rw [get hl] at h2
    exact F.loc l a h1 h2
  · have hl : l < st.length := Nat.lt_of_lt_of_le (List.getElem?_eq_some_iff.mp h).1 (by omega)
    rw [get hl]
    exact F.bor l a h
end
end L4
end

section
set_option Elab.async false
set_option linter.all false
set_option maxRecDepth 100000
set_option autoImplicit false
/-! Lots, the fewest. -/
namespace L4
open PySem L2
def lastF (row : List Nat) : Nat := (row.getLast?.map (· + 1)).getD 0
theorem someF_succ (many n : Nat) : someF many (n + 1) = (someF many n).flatMap fun row => (List.range (many - lastF row)).map fun i => row ++ [lastF row + i] := rfl
theorem ints_from (many a : Nat) : intsFrom ((a : Nat) : Int) (((many : Nat) : Int) - ((a : Nat) : Int)).toNat = (List.range (many - a)).map fun i => nat (a + i) := by
  unfold intsFrom
  rw [show (((many : Nat) : Int) - ((a : Nat) : Int)).toNat = many - a by omega]
  exact List.map_congr_left fun i _ => congrArg PyData.int (by omega)
theorem eDb_snoc (row : List Nat) (k : Nat) : PyData.tuple (row.map nat ++ [nat k]) = eDb (row ++ [k]) := by
  unfold eDb
  rw [List.map_append]; rfl
theorem few_at {p : List Nat → Bool} {many i j : Nat} {lot : List Nat} (hi : i ≤ many) (h1 : ∀ l ∈ (List.range i).flatMap (someF many), p l = false) (h2 : ∀ l ∈ (someF many i).take j, p l = false) (hj : (someF many i)[j]? = some lot) (hp : p lot = true) : fewF p many = some lot := by
  unfold fewF
  rw [List.find?_eq_some_iff_append]
  obtain ⟨jl, je⟩ := List.getElem?_eq_some_iff.mp hj
  refine ⟨hp, (List.range i).flatMap (someF many) ++ (someF many i).take j, (someF many i).drop (j + 1) ++ ((List.range (many + 1)).drop (i + 1)).flatMap (someF many), ?_, fun a ha => ?_⟩
  · have e : List.range (many + 1) = List.range i ++ i :: (List.range (many + 1)).drop (i + 1) := by
      conv => lhs; rw [← List.take_append_drop i (List.range (many + 1))]
      rw [List.take_range, Nat.min_eq_left (by omega), List.drop_eq_getElem_cons (by rw [List.length_range]; omega), List.getElem_range]
    have e2 : someF many i = (someF many i).take j ++ lot :: (someF many i).drop (j + 1) := by
      conv => lhs; rw [← List.take_append_drop j (someF many i)]
      rw [List.drop_eq_getElem_cons jl, je]
    conv => lhs; rw [e]
    rw [List.flatMap_append, List.flatMap_cons]
    conv => lhs; rw [e2]
    simp only [List.append_assoc, List.cons_append]
  · rcases List.mem_append.mp ha with m | m
    · rw [h1 a m]; rfl
    · rw [h2 a m]; rfl
theorem few_none {p : List Nat → Bool} {many : Nat} (h : ∀ l ∈ (List.range (many + 1)).flatMap (someF many), p l = false) : fewF p many = none := by
  unfold fewF
  rw [List.find?_eq_none]
  exact fun x hx => by rw [h x hx]; exact Bool.false_ne_true
theorem isN_around (g : DigD) (db : List Nat) (k : Nat) : isN (aroundD (raisedF (gT (wtF db k 1)) g.units g.td)) = g.enough db k := by
  unfold DigD.enough DigD.loose
  cases raisedF (gT (wtF db k 1)) g.units g.td <;> rfl
theorem one_ok {n k : Nat} (h : k < n) : DbOk n [k] := ⟨fun x hx => by rw [List.mem_singleton.mp hx]; exact h, List.pairwise_singleton _ _⟩
end L4
end

section
set_option Elab.async false
set_option linter.all false
set_option maxRecDepth 100000
set_option autoImplicit false
/-! How many lots. -/
namespace L4
open PySem L2
theorem low_frz {s : Sl} {l n : Nat} {d : PyData} (h : lowSl 0 s = true) : lowSl n (frzSl l d s) = true := by
  cases s with
  | lo k => exact absurd h (by simp [lowSl])
  | _ => rfl
theorem lastF_snoc (row : List Nat) (k : Nat) : lastF (row ++ [k]) = k + 1 := by
  unfold lastF
  rw [List.getLast?_append]; rfl
theorem last_le {many : Nat} : ∀ {n : Nat} {l : List Nat}, l ∈ someF many n → lastF l ≤ many
  | 0, l, h => by rw [List.mem_singleton.mp h]; exact Nat.zero_le _
  | n + 1, l, h => by
    rw [someF_succ] at h
    obtain ⟨row, hr, hm⟩ := List.mem_flatMap.mp h
    obtain ⟨i, hi, rfl⟩ := List.mem_map.mp hm
    rw [lastF_snoc]
    have := List.mem_range.mp hi
    omega
theorem pows (a : Nat) : ((List.range a).map fun i => 2 ^ (a - (i + 1))).sum + 1 = 2 ^ a := by
  induction a with
  | zero => rfl
  | succ a ih =>
    rw [List.range_succ_eq_map, List.map_cons, List.map_map, List.sum_cons]
    have e : ((fun i => 2 ^ (a + 1 - (i + 1))) ∘ Nat.succ) = fun i => 2 ^ (a - (i + 1)) := by
      funext i
      show 2 ^ (a + 1 - (i + 1 + 1)) = _
      rw [show a + 1 - (i + 1 + 1) = a - (i + 1) by omega]
    rw [e, show a + 1 - (0 + 1) = a by omega, Nat.pow_succ]
    omega
theorem some_w (many : Nat) : ∀ n, ((someF many n).map fun row => 2 ^ (many - lastF row)).sum ≤ 2 ^ many
  | 0 => by show 2 ^ (many - 0) + 0 ≤ _; exact Nat.le_refl _
  | n + 1 => by
    refine Nat.le_trans ?_ (some_w many n)
    rw [someF_succ]
    generalize someF many n = rows
    induction rows with
    | nil => exact Nat.le_refl _
    | cons r rs ih =>
      rw [List.flatMap_cons, List.map_append, List.sum_append, List.map_cons, List.sum_cons]
      refine Nat.add_le_add ?_ ih
      rw [List.map_map]
      have e : ((fun row => 2 ^ (many - lastF row)) ∘ fun i => r ++ [lastF r + i]) = fun i => 2 ^ (many - lastF r - (i + 1)) := by
        funext i
        show 2 ^ (many - lastF (r ++ [lastF r + i])) = _
        rw [lastF_snoc, show many - (lastF r + i + 1) = many - lastF r - (i + 1) by omega]
      rw [e]
      have := pows (many - lastF r)
      omega
theorem some_cap {many : Nat} (hm : many ≤ 10) (n : Nat) : (someF many n).length ≤ 1024 := by
  refine Nat.le_trans ?_ (Nat.le_trans (some_w many n) (Nat.pow_le_pow_right (by omega) hm))
  generalize someF many n = rows
  induction rows with
  | nil => exact Nat.le_refl _
  | cons r rs ih =>
    rw [List.map_cons, List.sum_cons, List.length_cons]
    have : 0 < 2 ^ (many - lastF r) := Nat.two_pow_pos _
    omega
theorem sub_flat {α β : Type} (l : List α) (n : Nat) (f : α → List β) : ((l.take n).flatMap f).length ≤ (l.flatMap f).length := by
  conv => rhs; rw [← List.take_append_drop n l, List.flatMap_append, List.length_append]
  omega
theorem last_at {row : List Nat} (h : row ≠ []) : atI (row.map nat) (-1) = some (.int ((row.getLast h : Nat) : Int)) := by
  have l0 : 0 < row.length := List.length_pos_iff.mpr h
  unfold atI
  have e : ixN (row.map nat).length (-1) = some (row.length - 1) := by
    rw [List.length_map]
    unfold ixN
    rw [if_neg (by omega), if_pos (by omega)]
    congr 1; omega
  rw [e]
  show (row.map nat)[row.length - 1]? = _
  rw [List.getElem?_map, List.getElem?_eq_getElem (by omega)]
  rw [List.getLast_eq_getElem]; rfl
theorem lastF_ne {row : List Nat} (h : row ≠ []) : lastF row = row.getLast h + 1 := by
  unfold lastF
  rw [List.getLast?_eq_some_getLast h]; rfl
theorem lastF_nil {row : List Nat} (h : decide (row ≠ []) = false) : lastF row = 0 := by
  cases row with
  | nil => rfl
  | cons a as => exact absurd h (by simp)
theorem lastF_ne' {row : List Nat} (h : row ≠ []) : lastF row = row.getLast h + 1 := by
  unfold lastF
  rw [List.getLast?_eq_some_getLast h]; rfl
theorem last_top {row : List Nat} (h : row.Pairwise (· < ·)) {a : Nat} (ha : a ∈ row) : a < lastF row := by
  have hn : row ≠ [] := fun e => by subst e; exact nomatch ha
  rw [lastF_ne' hn]
  rw [← List.dropLast_concat_getLast hn] at h ha
  rcases List.mem_append.mp ha with m | m
  · have := (List.pairwise_append.mp h).2.2 a m _ (List.mem_singleton_self _)
    omega
  · rw [List.mem_singleton.mp m]; omega
theorem some_dbok {many : Nat} : ∀ {n : Nat} {l : List Nat}, l ∈ someF many n → DbOk many l
  | 0, l, h => by rw [List.mem_singleton.mp h]; exact ⟨(fun x hx => nomatch hx), List.Pairwise.nil⟩
  | n + 1, l, h => by
    rw [someF_succ] at h
    obtain ⟨row, hr, hm⟩ := List.mem_flatMap.mp h
    obtain ⟨i, hi, rfl⟩ := List.mem_map.mp hm
    have hi := List.mem_range.mp hi
    obtain ⟨h1, h2⟩ := some_dbok hr
    refine ⟨fun x hx => ?_, ?_⟩
    · rcases List.mem_append.mp hx with m | m
      · exact h1 x m
      · rw [List.mem_singleton.mp m]; omega
    · rw [List.pairwise_append]
      refine ⟨h2, List.pairwise_singleton _ _, fun a ha b hb => ?_⟩
      rw [List.mem_singleton.mp hb]
      have := last_top h2 ha
      omega
theorem ne_nil (row : List Nat) : (!PyData.eqv (eDb row) (.tuple [])) = decide (row ≠ []) := by
  cases row with
  | nil => rfl
  | cons a as => simp [eDb, PyData.eqv, PyData.eqvAll]
end L4
end

section
set_option Elab.async false
set_option linter.all false
set_option maxRecDepth 100000
set_option maxHeartbeats 1000000
set_option autoImplicit false
namespace L4
open PySem L2
section
variable {Pr : Program} {w : World} {K : PySem.W.Frag} {mg : Str → Option Value} {base : Heap} {cs : Cs}
local macro_rules
  | `(tactic| walk_at "sh") => `(tactic| first | exact rfl | assumption | exact sh_str (by first | assumption | decide +kernel) | decide +kernel)
local macro_rules
  | `(tactic| walk_at "ix") => `(tactic| first | exact rd_ixT rfl | exact rd_ixL rfl | exact rd_ixT (by assumption) | exact rd_ixL (by assumption) | exact rd_ixT (atI_nat (by assumption)) | exact rd_ixL (atI_nat (by assumption)))
local macro_rules
  | `(tactic| walk_at "add") => `(tactic| first | exact rd_addI | exact rd_addS (by first | assumption | decide) | exact rd_addT (by first | assumption | exact Nat.le_of_ble_eq_true rfl) | exact rd_addL (by first | assumption | exact Nat.le_of_ble_eq_true rfl))
local macro_rules
  | `(tactic| walk_at "mul") => `(tactic| first | exact rd_mul (.inl (by decide)) | exact rd_mul (.inr (by decide)) | exact rd_mul (.inl (by omega)) | exact rd_mul (.inr (by omega)))
local macro_rules
  | `(tactic| walk_at "mod") => `(tactic| exact rd_mod (by first | decide | omega))
local macro_rules
  | `(tactic| walk_at "div") => `(tactic| exact rd_div ⟨by first | decide | omega, by first | decide | omega⟩)
local macro_rules
  | `(tactic| walk_at "eq") => `(tactic| exact rd_eq (by walk_at "sh") (by walk_at "sh"))
local macro_rules
  | `(tactic| walk_at "ne") => `(tactic| exact rd_ne (by walk_at "sh") (by walk_at "sh"))
local macro_rules
  | `(tactic| walk_at "in") => `(tactic| first | exact rd_inT (by walk_at "sh") (by walk_at "sh") | exact rd_inL (by walk_at "sh") (by walk_at "sh"))
local macro_rules
  | `(tactic| walk_at "nin") => `(tactic| first | exact rd_ninT (by walk_at "sh") (by walk_at "sh") | exact rd_ninL (by walk_at "sh") (by walk_at "sh"))
local macro_rules
  | `(tactic| walk_at "cd") => `(tactic| first | exact cd_lenT | exact cd_lenL | exact cd_intI | exact cd_sS | exact cd_sI (by assumption) | exact cd_lenS (by assumption) | exact cd_intB)
theorem ok_alone (T : Fx K mg cs) : Ok Pr w K mg base "alone" 5 ["dig"] (spD K (rAlone cs.Dig)) := by
  obtain ⟨f, fd, F, b, g⟩ := T.f_alone
  have c_check_dig := ok_check_dig (Pr := Pr) (w := w) (base := base) T
  have c_Dig_rows := ok_Dig_rows (Pr := Pr) (w := w) (base := base) T
  have c_share_of := ok_share_of (Pr := Pr) (w := w) (base := base) T
  refine ⟨f, fd, g, F.kp, b, fn_ok F sc_alone (fun xs d h => by obtain ⟨_, rfl, _⟩ := h; rfl) (fun cdv A outer s H E hr => ⟨_, (pss_cons (ps_expr (pe_own c_check_dig (hr.mono (by decide)) (by rfl) (pa_cons (pv 0) pa_nil)))
      (pss_cons (ps_set (i := 1) sc_alone.nd rfl (.inl rfl) (pe_lst pa_nil))
      (pss_cons (ps_for PassesOwn.never rfl (pi_range1 (by rfl) T.b_range (pa_cons (pe_callB (kc_len K) (by rfl) T.b_len bt_len (pa_cons (pe_ownP c_Dig_rows (hr.mono (by decide)) (pv 0)) pa_nil)) pa_nil)) (pg_name (i := 2) sc_alone.nd rfl (by first | exact Or.inl rfl | exact Or.inr rfl)) (pss_cons (ps_asg (pe_own c_share_of (hr.mono (by decide)) (by rfl) (pa_cons (pv 0) (pa_cons (pe_tup (pa_cons (pv 2) pa_nil)) pa_nil))) (kg_tup K rfl (pgs_cons (pg_name (i := 3) sc_alone.nd rfl (by first | exact Or.inl rfl | exact Or.inr rfl)) (pgs_cons (pg_name (i := 4) sc_alone.nd rfl (by first | exact Or.inl rfl | exact Or.inr rfl)) (pgs_cons (pg_name (i := 5) sc_alone.nd rfl (by first | exact Or.inl rfl | exact Or.inr rfl)) pgs_nil)))))
      (pss_one (ps_expr (pe_bm PySem.F.plainAttrs_list PySem.F.slot_list_append PySem.F.type_list_append mt_append (pv 1) (pa_cons (pe_ifExp (pt_cmp (pc_isN (pv 3)) (nomark _)) pe_non (pe_op op_fdiv (pe_op op_sub (pe_op (ko_add K) (pv 3) (pv 4)) pe_int) (pv 4))) pa_nil))))))
      (pss_one (ps_ret (pe_callTy (kc_tuple K) (by rfl) T.b_tuple bt_tuple (pa_cons (pv 1) pa_nil))))))), fun xs d hR => ?_⟩)⟩
  obtain ⟨a0, rfl, hR⟩ := hR
  obtain ⟨g, ok, rfl, rfl⟩ := hR
  have ul := ok.le
  have rl := ok.rle
  refine q_dropI (ev_call (ea_cons (ev_var rfl) ea_nil) (⟨_, rfl, g, rfl, rfl⟩)) ?_
  refine q_new (en_lst ea_nil (by decide)) ?_
  refine q_for (List.range g.rows.length) (fun (i : Nat) => PyData.int i) (fun i ds => ∃ s2 s3 s4 s5, ds = ⟨[.pu (eDig cs.Dig g), .lo 0, s2, s3, s4, s5], [.lst ((List.range i).map fun n => eOpt (g.due [n]))]⟩) (fun i ds => ds.set 2 (.pu (.int (i : Nat))))
    (eI_rng1 (n := (g.rows.length : Nat)) (ea_cons (ev_is (ev_cb (ea_cons (ev_prop (ev_var rfl) (prop_rows g)) ea_nil) (by walk_at "cd")) (by rw [List.length_map])) ea_nil) (by omega)) ⟨.un, .un, .un, .un, rfl⟩ (fun i l ds _ ⟨s2, s3, s4, s5, e⟩ => by subst e; exact tg1) ?_ ?_
  · rintro i i' _ hi ⟨s2, s3, s4, s5, rfl⟩
    obtain ⟨il, rfl⟩ : i < g.rows.length ∧ i' = i := by
      obtain ⟨h1, h2⟩ := List.getElem?_eq_some_iff.mp hi
      rw [List.getElem_range] at h2
      rw [List.length_range] at h1
      exact ⟨h1, h2.symm⟩
    have dk := one_ok il
    have e2 : (List.range (i' + 1)).map (fun n => eOpt (g.due [n])) = (List.range i').map (fun n => eOpt (g.due [n])) ++ [eOpt (g.due [i'])] := by rw [List.range_succ, List.map_append]; rfl
    obtain ⟨o, c, h⟩ : ∃ (o : Option (Nat × Nat)) (c : List Td), g.share [i'] = (o, c) := ⟨_, _, rfl⟩
    cases o with
    | none =>
      have ed : g.due [i'] = none := by unfold DigD.due; rw [h]; rfl
      rw [ed] at e2
      refine q_asgT (ev_is (ev_call (ea_cons (ev_var rfl) (ea_cons (ev_tupA (ea_cons (ev_var rfl) ea_nil) rfl) ea_nil)) (⟨_, _, rfl, g, [i'], ok, dk, rfl, rfl, rfl⟩)) (eShare_none h)) tg3 ?_
      exact sx_app1 (l := 0) rfl rfl (ev_if (b := true) (et_is (et_test (ev_isN (ev_var rfl))) rfl) (fun _ => ev_non) fun e => nomatch e) (by rw [List.length_map, List.length_range]; omega) (by show ∃ _ _ _ _, _; rw [e2]; exact ⟨_, _, _, _, rfl⟩)
    | some pq =>
      obtain ⟨p, q⟩ := pq
      obtain ⟨si, _⟩ := ok.share_some h
      have q0 := si.pos
      have q1 : q ≤ 40 := by rcases si.lD with e | e <;> omega
      have ed : g.due [i'] = some (ceilF p q) := by unfold DigD.due; rw [h]; rfl
      rw [ed] at e2
      refine q_asgT (ev_is (ev_call (ea_cons (ev_var rfl) (ea_cons (ev_tupA (ea_cons (ev_var rfl) ea_nil) rfl) ea_nil)) (⟨_, _, rfl, g, [i'], ok, dk, rfl, rfl, rfl⟩)) (eShare_some h)) tg3 ?_
      exact sx_app1 (l := 0) rfl rfl (ev_if (b := false) (et_is (et_test (ev_isN (ev_var rfl))) rfl) (fun e => nomatch e) fun _ => ev_is (ev_op (ev_op (ev_op (ev_var rfl) (ev_var rfl) (rd_addI)) ev_int rd_sub) (ev_var rfl) (rd_div ⟨by show (0 : Int) < (q : Nat); omega, by show ((q : Nat) : Int) < _; omega⟩)) (nat_ceil q0)) (by rw [List.length_map, List.length_range]; omega) (by show ∃ _ _ _ _, _; rw [e2]; exact ⟨_, _, _, _, rfl⟩)
  · rintro _ ⟨s2, s3, s4, s5, rfl⟩
    rw [List.length_range]
    exact sx_frz (l := 0) rfl rfl (Nat.zero_le _) (sx_retD (by first | exact ev_tupleT (k := .l) (ev_var rfl)) rfl)
theorem ok_is_enough (T : Fx K mg cs) : Ok Pr w K mg base "is_enough" 4 ["dig", "doubts", "years"] (spD K (rIsEnough cs.Dig)) := by
  obtain ⟨f, fd, F, b, g⟩ := T.f_is_enough
  have c_told_steps := ok_told_steps (Pr := Pr) (w := w) (base := base) T
  have c_raised := ok_raised (Pr := Pr) (w := w) (base := base) T
  have c_Dig_units := ok_Dig_units (Pr := Pr) (w := w) (base := base) T
  have c_weights_of := ok_weights_of (Pr := Pr) (w := w) (base := base) T
  refine ⟨f, fd, g, F.kp, b, fn_ok F sc_is_enough (fun xs d h => by obtain ⟨_, _, _, rfl, _⟩ := h; rfl) (fun cdv A outer s H E hr => ⟨_, (pss_cons (ps_set (i := 3) sc_is_enough.nd rfl (.inl rfl) (pe_own c_told_steps (hr.mono (by decide)) (by rfl) (pa_cons (pv 0) pa_nil)))
      (pss_one (ps_ret (pe_cmp (pc_isN (pe_ix (ki_seq K) (pe_own c_raised (hr.mono (by decide)) (by rfl) (pa_cons (pe_ownP c_Dig_units (hr.mono (by decide)) (pv 0)) (pa_cons (pv 3) (pa_cons (pe_own c_weights_of (hr.mono (by decide)) (by rfl) (pa_cons (pv 3) (pa_cons (pv 1) (pa_cons (pv 2) (pa_cons pe_int pa_nil))))) pa_nil)))) pe_int (fun _ _ => rfl))) (nomark _))))), fun xs d hR => ?_⟩)⟩
  obtain ⟨a0, a1, a2, rfl, hR⟩ := hR
  obtain ⟨g, db, k, ok, rfl, rfl, rfl, rfl⟩ := hR
  refine q_set (ev_call (ea_cons (ev_var rfl) ea_nil) (⟨_, rfl, g, ok, rfl, rfl⟩)) ?_
  exact sx_retD (ev_isN (ev_op (ev_call (ea_cons (ev_prop (ev_var rfl) (prop_units g)) (ea_cons (ev_var rfl) (ea_cons (ev_call (ea_cons (ev_var rfl) (ea_cons (ev_var rfl) (ea_cons (ev_var rfl) (ea_cons ev_int ea_nil)))) (ok.weights db k (low := 1) (by decide))) ea_nil))) (ok.raised _)) ev_int (rd_around _))) (congrArg PyData.bool (isN_around g db k))
theorem ok_some_of (T : Fx K mg cs) : Ok Pr w K mg base "some_of" 1 ["many", "amount"] (spD K rSomeOf) := by
  obtain ⟨f, fd, F, b, g⟩ := T.f_some_of
  refine ⟨f, fd, g, F.kp, b, fn_ok F sc_some_of (fun xs d h => by obtain ⟨_, _, rfl, _⟩ := h; rfl) (fun cdv A outer s H E hr => ⟨_, (pss_cons (ps_set (i := 2) sc_some_of.nd rfl (.inl rfl) (pe_lst (pa_cons (pe_tup pa_nil) pa_nil)))
      (pss_cons (ps_for PassesOwn.never rfl (pi_range1 (by rfl) T.b_range (pa_cons (pv 1) pa_nil)) (pg_name (i := 3) sc_some_of.nd rfl (by first | exact Or.inl rfl | exact Or.inr rfl)) (pss_cons (ps_set (i := 4) sc_some_of.nd rfl (.inl rfl) (pe_lst pa_nil))
      (pss_cons (ps_for PassesOwn.never rfl (kw_seq K (pv 2)) (pg_name (i := 5) sc_some_of.nd rfl (by first | exact Or.inl rfl | exact Or.inr rfl)) (pss_one (ps_expr (pe_bm PySem.F.plainAttrs_list PySem.F.slot_list_extend PySem.F.type_list_extend mt_extend (pv 4) (pa_cons (pe_lc (own := [("at", 6)]) (g := (gName 6)) rfl sc_some_of.nd (pi_range2 (by rfl) T.b_range (pa_cons (pe_ifExp (pt_cmpR (ko_ne K (u64 hr)) (pv 5) (pe_tup pa_nil) (nomark _)) (pe_op (ko_add K) (pe_ix (ki_seq K) (pv 5) (pe_un un_neg pe_int) (fun _ _ => rfl)) pe_int) pe_int) (pa_cons (pv 0) pa_nil))) (blkOk_by (own := [("at", 6)]) (N := N_some_of) (sc := defScope st_some_of) (by decide +kernel)) (fun _ _ _ _ _ => (pg_name (i := 6) sc_some_of.nd rfl (by first | exact Or.inl rfl | exact Or.inr rfl))) (fun _ _ _ _ _ => pts_nil) (fun _ _ _ _ _ => (pe_tup (kp_star K (pv 5) (pa_cons (pv 6) pa_nil))))) pa_nil)))))
      (pss_one (ps_set (i := 2) sc_some_of.nd rfl (.inl rfl) (pv 4))))))
      (pss_one (ps_ret (pv 2))))), fun xs d hR => ?_⟩)⟩
  obtain ⟨a0, a1, rfl, hR⟩ := hR
  obtain ⟨many, amount, hm, ha, rfl, rfl, rfl⟩ := hR
  refine q_setI (d := .list ((someF many 0).map eDb)) (ev_lstA (ea_cons (ev_tupA ea_nil rfl) ea_nil) rfl) rfl ?_ rfl
  refine q_for (List.range amount) (fun (i : Nat) => PyData.int i) (fun i ds => ∃ s3 s4 s5 s6, lowSl 0 s5 = true ∧ lowSl 0 s6 = true ∧ ds = ⟨[.pu (nat many), .pu (nat amount), .pu (.list ((someF many i).map eDb)), s3, s4, s5, s6], []⟩) (fun i ds => ds.set 3 (.pu (.int (i : Nat))))
    (eI_rng1 (n := (amount : Nat)) (ea_cons (ev_is (ev_var rfl) rfl) ea_nil) (by omega)) ⟨.un, .un, .un, .un, rfl, rfl, rfl⟩ (fun i l ds _ ⟨s3, s4, s5, s6, _, _, e⟩ => by subst e; exact tg1) ?_ ?_
  · rintro i i' _ hi ⟨s3, s4, s5, s6, w5, w6, rfl⟩
    obtain ⟨il, rfl⟩ : i < amount ∧ i' = i := by
      obtain ⟨h1, h2⟩ := List.getElem?_eq_some_iff.mp hi
      rw [List.getElem_range] at h2
      rw [List.length_range] at h1
      exact ⟨h1, h2.symm⟩
    have ls := some_cap hm i'
    have ls2 := some_cap hm (i' + 1)
    rw [someF_succ] at ls2
    refine q_new (en_lst ea_nil (by decide)) ?_
    refine q_for (someF many i') eDb (fun j ds => ∃ s5 s6, lowSl 0 s5 = true ∧ lowSl 0 s6 = true ∧ ds = ⟨[.pu (nat many), .pu (nat amount), .pu (.list ((someF many i').map eDb)), .pu (nat i'), .lo 0, s5, s6], [.lst ((((someF many i').take j).flatMap fun row => (List.range (many - lastF row)).map fun i => row ++ [lastF row + i]).map eDb)]⟩) (fun r ds => ds.set 5 (.pu (eDb r)))
      (eI_list (ev_var rfl)) ⟨s5, s6, w5, w6, rfl⟩ (fun i l ds _ ⟨s5, s6, _, _, e⟩ => by subst e; exact tg1) ?_ ?_
    · rintro j row _ hj ⟨s5, s6, w5, w6, rfl⟩
      have hmem := List.mem_of_getElem? hj
      have hl := last_le hmem
      have e2 : (((someF many i').take (j + 1)).flatMap fun row => (List.range (many - lastF row)).map fun i => row ++ [lastF row + i]).map eDb = (((someF many i').take j).flatMap fun row => (List.range (many - lastF row)).map fun i => row ++ [lastF row + i]).map eDb ++ (List.range (many - lastF row)).map fun i => PyData.tuple (row.map nat ++ [nat (lastF row + i)]) := by
        rw [List.take_add_one, hj, Option.toList_some, List.flatMap_append, List.flatMap_singleton, List.map_append, List.map_map]
        exact congrArg _ (List.map_congr_left fun i _ => (eDb_snoc _ _).symm)
      have l3 : (((someF many i').take j).flatMap fun row => (List.range (many - lastF row)).map fun i => row ++ [lastF row + i]).length ≤ 1024 := Nat.le_trans (sub_flat _ _ _) ls2
      refine sx_ext1 (l := 0) rfl rfl (EnL.ev (lc1 (List.range (many - lastF row)) (fun i => nat (lastF row + i)) (fun i => PyData.tuple (row.map nat ++ [nat (lastF row + i)])) (EI.is (eI_rng2 (a := (lastF row : Nat)) (b := (many : Nat)) (ea_cons (ev_if (b := decide (row ≠ [])) (et_is (et_test (ev_op (ev_var rfl) (ev_tupA ea_nil rfl) (rd_ne (sh_natsT row) rfl))) (ne_nil row)) (fun h => ev_is (ev_op (ev_op (ev_var rfl) (ev_un ev_int ud_neg) (rd_ixT (last_at (of_decide_eq_true h)))) ev_int (rd_addI)) (congrArg PyData.int (by rw [lastF_ne (of_decide_eq_true h)]; omega))) (fun h => ev_is ev_int (congrArg PyData.int (by rw [lastF_nil h]; rfl)))) (ea_cons (ev_is (ev_var rfl) rfl) ea_nil)) (by omega) (by omega)) (ints_from many (lastF row))).r (by rw [List.length_range]; omega) fun s _ => ev_tupA (ea_star (ev_var rfl) (ea_cons (ev_var rfl) ea_nil)) (Nat.ble_eq.mpr (by rw [List.length_append, List.length_map, some_len hmem]; show i' + 1 ≤ _; omega)))) (by rw [List.length_map, List.length_map, List.length_range]; omega) (by show ∃ _ _, _; rw [e2]; exact ⟨_, s6, rfl, w6, rfl⟩)
    · rintro _ ⟨s5, s6, w5, w6, rfl⟩
      rw [List.take_length, ← someF_succ]
      refine sx_frz (l := 0) rfl rfl (Nat.zero_le _) ?_
      exact sx_trim (st := []) (sx_asgT (ev_var rfl) tg1 ⟨_, _, _, _, low_frz w5, low_frz w6, rfl⟩) (by show (true && (true && (true && (true && (true && (_ && (_ && true))))))) = true; rw [low_frz w5, low_frz w6]; rfl) rfl (Nat.zero_le _)
  · rintro _ ⟨s3, s4, s5, s6, _, _, rfl⟩
    rw [List.length_range]
    exact sx_retD (ev_var rfl) rfl
theorem ok_fewest_in_doubt (T : Fx K mg cs) : Ok Pr w K mg base "fewest_in_doubt" 5 ["dig", "years"] (spD K (rFewest cs.Dig)) := by
  obtain ⟨f, fd, F, b, g⟩ := T.f_fewest_in_doubt
  have c_check_dig := ok_check_dig (Pr := Pr) (w := w) (base := base) T
  have c_is_between := ok_is_between (Pr := Pr) (w := w) (base := base) T
  have c_Dig_rows := ok_Dig_rows (Pr := Pr) (w := w) (base := base) T
  have c_some_of := ok_some_of (Pr := Pr) (w := w) (base := base) T
  have c_is_enough := ok_is_enough (Pr := Pr) (w := w) (base := base) T
  refine ⟨f, fd, g, F.kp, b, fn_ok F sc_fewest_in_doubt (fun xs d h => by obtain ⟨_, _, rfl, _⟩ := h; rfl) (fun cdv A outer s H E hr => ⟨_, (pss_cons (ps_expr (pe_own c_check_dig (hr.mono (by decide)) (by rfl) (pa_cons (pv 0) pa_nil)))
      (pss_cons (ps_if (pt_not (pt_val (pe_own c_is_between (hr.mono (by decide)) (by rfl) (pa_cons (pv 1) (pa_cons pe_int (pa_cons (pe_cst T.c_MOST_YEARS) pa_nil)))))) (pss_one ps_never) pss_nil)
      (pss_cons (ps_if (pt_cmpR op_gt (pe_callB (kc_len K) (by rfl) T.b_len bt_len (pa_cons (pe_ownP c_Dig_rows (hr.mono (by decide)) (pv 0)) pa_nil)) (pe_cst T.c_MOST_ROWS_wrongly) (nomark _)) (pss_one ps_never) pss_nil)
      (pss_cons (ps_for PassesOwn.never rfl (pi_range1 (by rfl) T.b_range (pa_cons (pe_op (ko_add K) (pe_callB (kc_len K) (by rfl) T.b_len bt_len (pa_cons (pe_ownP c_Dig_rows (hr.mono (by decide)) (pv 0)) pa_nil)) pe_int) pa_nil)) (pg_name (i := 2) sc_fewest_in_doubt.nd rfl (by first | exact Or.inl rfl | exact Or.inr rfl)) (pss_one (ps_for PassesOwn.never rfl (kw_seq K (pe_own c_some_of (hr.mono (by decide)) (by rfl) (pa_cons (pe_callB (kc_len K) (by rfl) T.b_len bt_len (pa_cons (pe_ownP c_Dig_rows (hr.mono (by decide)) (pv 0)) pa_nil)) (pa_cons (pv 2) pa_nil)))) (pg_name (i := 3) sc_fewest_in_doubt.nd rfl (by first | exact Or.inl rfl | exact Or.inr rfl)) (pss_one (ps_if (pt_val (pe_own c_is_enough (hr.mono (by decide)) (by rfl) (pa_cons (pv 0) (pa_cons (pv 3) (pa_cons (pv 1) pa_nil))))) (pss_one (ps_ret (pe_tup (pa_cons (pv 2) (pa_cons (pv 3) pa_nil))))) pss_nil)))))
      (pss_one (ps_ret pe_non)))))), fun xs d hR => ?_⟩)⟩
  obtain ⟨a0, a1, rfl, hR⟩ := hR
  obtain ⟨g, k, ok, hk, hm, rfl, rfl, rfl⟩ := hR
  refine q_dropI (ev_call (ea_cons (ev_var rfl) ea_nil) (⟨_, rfl, g, rfl, rfl⟩)) ?_
  refine q_noI (et_not (et_B (ev_call (ea_cons (ev_var rfl) (ea_cons ev_int (ea_cons ev_int ea_nil))) (⟨_, _, _, rfl, (k : Nat), _, _, rfl, rfl, rfl, rfl⟩)))) ?_ ?_
  · have e1 : ((0 : Int) ≤ (k : Nat)) := by omega
    have e2 : (((k : Nat) : Int) ≤ 9999) := by omega
    simp [e1, e2]
  have el : (List.map eRow g.rows).length = g.rows.length := List.length_map _
  refine q_noI (et_test (ev_op (ev_cb (ea_cons (ev_prop (ev_var rfl) (prop_rows g)) ea_nil) (by walk_at "cd")) ev_int rd_gt)) ?_ ?_
  · show decide ((10 : Int) < ((List.map eRow g.rows).length : Nat)) = false
    rw [el]
    exact decide_eq_false (by omega)
  refine q_for (List.range (g.rows.length + 1)) (fun (i : Nat) => PyData.int i) (fun i ds => (∀ l ∈ (List.range i).flatMap (someF g.rows.length), g.enough l k = false) ∧ ∃ s2 s3, ds = ⟨[.pu (eDig cs.Dig g), .pu (nat k), s2, s3], []⟩) (fun i ds => ds.set 2 (.pu (.int (i : Nat))))
    (eI_rng1 (n := (g.rows.length + 1 : Nat)) (ea_cons (ev_is (ev_op (ev_cb (ea_cons (ev_prop (ev_var rfl) (prop_rows g)) ea_nil) (by walk_at "cd")) ev_int (rd_addI)) (by rw [el]; rfl)) ea_nil) (by omega)) ⟨(fun l h => nomatch h), .un, .un, rfl⟩ (fun i l ds _ ⟨_, s2, s3, e⟩ => by subst e; exact tg1) ?_ ?_
  · rintro i i' _ hi ⟨hf, s2, s3, rfl⟩
    obtain ⟨il, rfl⟩ : i < g.rows.length + 1 ∧ i' = i := by
      obtain ⟨h1, h2⟩ := List.getElem?_eq_some_iff.mp hi
      rw [List.getElem_range] at h2
      rw [List.length_range] at h1
      exact ⟨h1, h2.symm⟩
    refine sx_for (someF g.rows.length i') eDb (fun j ds => (∀ l ∈ (someF g.rows.length i').take j, g.enough l k = false) ∧ ∃ s3, ds = ⟨[.pu (eDig cs.Dig g), .pu (nat k), .pu (nat i'), s3], []⟩) (fun r ds => ds.set 3 (.pu (eDb r)))
      (eI_list (ev_call (ea_cons (ev_cb (ea_cons (ev_prop (ev_var rfl) (prop_rows g)) ea_nil) (by walk_at "cd")) (ea_cons (ev_var rfl) ea_nil)) (⟨_, _, rfl, g.rows.length, i', hm, by omega, by rw [el]; rfl, rfl, rfl⟩))) ⟨fun l h => (by rw [List.take_zero] at h; exact nomatch h), s3, rfl⟩ (fun i l ds _ ⟨_, s3, e⟩ => by subst e; exact tg1) ?_ ?_
    · rintro j row _ hj ⟨h2, s3, rfl⟩
      have hmem := List.mem_of_getElem? hj
      have dk := some_dbok hmem
      cases he : g.enough row k with
      | true =>
        refine sx_yesI (et_B (ev_call (ea_cons (ev_var rfl) (ea_cons (ev_var rfl) (ea_cons (ev_var rfl) ea_nil))) (⟨_, _, _, rfl, g, row, k, ok, rfl, rfl, rfl, rfl⟩))) he (sx_retI (ev_tupA (ea_cons (ev_var rfl) (ea_cons (ev_var rfl) ea_nil)) rfl) rfl ?_)
        show Rs.pu _ = .pu _
        rw [few_at (by omega) hf h2 hj he, ← some_len hmem]; rfl
      | false =>
        refine sx_noI (et_B (ev_call (ea_cons (ev_var rfl) (ea_cons (ev_var rfl) (ea_cons (ev_var rfl) ea_nil))) (⟨_, _, _, rfl, g, row, k, ok, rfl, rfl, rfl, rfl⟩))) he (sx_next ?_)
        refine ⟨fun l h => ?_, _, rfl⟩
        rw [List.take_add_one, hj] at h
        rcases List.mem_append.mp h with h | h
        · exact h2 l h
        · rw [List.mem_singleton.mp h]; exact he
    · rintro _ ⟨h2, s3, rfl⟩
      rw [List.take_length] at h2
      refine ⟨fun l h => ?_, _, _, rfl⟩
      rw [List.range_succ, List.flatMap_append, List.flatMap_singleton] at h
      rcases List.mem_append.mp h with h | h
      · exact hf l h
      · exact h2 l h
  · rintro _ ⟨hf, s2, s3, rfl⟩
    rw [List.length_range] at hf
    exact sx_retI ev_non rfl (by show Rs.pu _ = .pu _; rw [few_none hf]; rfl)
end
end L4
end

section
set_option Elab.async false
set_option linter.all false
set_option maxRecDepth 100000
set_option autoImplicit false
/-! A property of what a maker gave. -/
namespace L4
open PySem L2
section
variable {K : PySem.W.Frag} {ds : D4} {te : TE} {C : Addr}
theorem es_prop {R : List PyData → PyData → Prop} {E : XK} {P : Fv → D4 → Prop} (h : Es K te ds fun f ds1 => ∃ fs d, f = .pu (inD C fs) ∧ R [inD C fs] d ∧ P (.pu d) ds1) : Es K (tProp C (spD K R) [] E te) ds P := fun B W0 M N H0 W σ H adr F Q q =>
  h B W0 M N H0 W σ H adr F _ fun w H1 W1 adr1 f ds1 ⟨fs, d, ef, hr, p⟩ a1 F1 r1 => by
    subst ef
    have r1' : Rp K (cut H1 W1) w (inD C fs) := r1
    obtain ⟨a, dx, fvs, ew, h1, h2⟩ := r1'.inst
    subst ew
    refine ⟨a, dx, fvs, rfl, cut_ex _ _ h1, ?_⟩
    exact ⟨W1, [inD C fs], d, F1.st.al, .one r1, hr, fun v H' e2 r2 => q v H' W1 adr1 (.pu d) ds1 p a1 (F1.ex e2) r2⟩
theorem sx_late {t : TS} {P : Post} {Mid : D4 → Prop} (h : Sx K t ds { P with nx := Mid }) (k : ∀ ds', Mid ds' → Sx K tNext ds' P) : Sx K t ds P := fun B W0 M N H0 W σ H hM F D m =>
  h B W0 M N H0 W σ H hM F D ⟨fun W' σ' H' ds' q F' => k ds' q B W0 M N H0 W' σ' H' hM F' D m, m.rt, m.bk, m.ct⟩
theorem q_setX {t : TS} {P : Post} {i : Nat} {Q : PyData → Prop} (h : ∃ d, Ev K te ds d ∧ Q d) (n : ∀ d, Q d → Sx K t (ds.set i (.pu d)) P) (hi : ds.sl[i]?.isSome = true := by rfl) : Sx K (tSeq (tAsg te (gName i)) t) ds P := by
  obtain ⟨d, h, q⟩ := h
  exact q_set h (n d q) hi
theorem sx_asgE {P : Post} {g : TG} (h : Es K te ds fun f ds' => ∃ d js ds2, f = .pu d ∧ Tg K g d ds' ds2 js ∧ P.nx ds2) : Sx K (tAsg te g) ds P := fun B W0 M N H0 W σ H hM ⟨adr, F⟩ D m =>
  h B W0 M N H0 W σ H adr F _ fun v H' W' adr' f ds' ⟨d, js, ds2, e, hg, p⟩ a F' r => by
    subst e
    exact hg W' _ σ H' v adr' F'.st r _ fun σ' S' _ => m.nx W' σ' H' ds2 p ⟨adr', F'.to S'⟩
theorem Eas.imp {tr : TA} {P P' : List Fv → D4 → Prop} (h : Eas K tr ds P) (i : ∀ fs ds', P fs ds' → P' fs ds') : Eas K tr ds P' := fun B W0 M N H0 W σ H adr F Q q =>
  h B W0 M N H0 W σ H adr F Q fun vs H' W' adr' fs ds' p a F' r => q vs H' W' adr' fs ds' (i _ _ p) a F' r
theorem es_lstP {tr : TA} {P : Fv → D4 → Prop} (h : Eas K tr ds fun fs ds1 => ∃ xs, fs = xs.map .pu ∧ xs.length ≤ 100000 ∧ P (.pu (.list xs)) ds1) : Es K (tLst tr) ds P := fun B W0 M N H0 W σ H adr F Q q =>
  h B W0 M N H0 W σ H adr F _ fun vs H1 W1 adr1 fs ds1 ⟨xs, e, hl, p⟩ a1 F1 r1 => by
    subst e
    have r2 := r1.pure
    exact ⟨by rw [r2.length]; exact sz_of hl, fun a ha => q _ _ W1 adr1 (.pu _) ds1 p a1 (F1.ex (Ex.new ha)) (.lst (by rw [cut_out (F1.st.al.fresh ha)]; exact upd_same) (r2.mono (cut_mono (Ex.new ha))))⟩
end
end L4
end

section
set_option Elab.async false
set_option linter.all false
set_option maxRecDepth 100000
set_option autoImplicit false
/-! Tables of steps, and years that steps raise. -/
namespace L4
open PySem L2
abbrev P2 : Type := Str × Str
def k2 (p : P2) : List Key := [.inr p.1, .inr p.2]
def un2 : List Key → P2
  | [.inr a, .inr b] => (a, b)
  | _ => ("", "")
theorem un_k2 (p : P2) : un2 (k2 p) = p := rfl
theorem k2_inj {p q : P2} (h : k2 p = k2 q) : p = q := by rw [← un_k2 p, h, un_k2]
abbrev Tab : Type := List (P2 × Int)
def tget (tb : Tab) (p : P2) : Option Int := (tb.find? fun q => decide (q.1 = p)).map (·.2)
def tput (tb : Tab) (p : P2) (n : Int) : Tab := if (tb.any fun q => decide (q.1 = p)) = true then tb.map (fun q => if q.1 = p then (q.1, n) else q) else tb ++ [(p, n)]
def dtF (tb : Tab) : List (List Key × PyData) := tb.map fun q => (k2 q.1, .int q.2)
theorem k2_dec (p q : P2) : decide (k2 p = k2 q) = decide (p = q) := by
  by_cases h : p = q
  · subst h; simp
  · have : ¬ k2 p = k2 q := fun e => h (k2_inj e)
    simp [h, this]
theorem dtF_get (tb : Tab) (p : P2) : valD (dtF tb) (k2 p) = (tget tb p).map .int := by
  unfold valD dtF tget
  rw [List.find?_map]
  have e : ((fun q : List Key × PyData => decide (q.1 = k2 p)) ∘ fun q : P2 × Int => (k2 q.1, PyData.int q.2)) = fun q => decide (q.1 = p) := by
    funext q
    exact k2_dec q.1 p
  rw [e]
  cases tb.find? fun q => decide (q.1 = p) <;> rfl
theorem dtF_put (tb : Tab) (p : P2) (n : Int) : putD (dtF tb) (k2 p) (.int n) = dtF (tput tb p n) := by
  unfold putD tput
  have e : ((dtF tb).any fun q => decide (q.1 = k2 p)) = tb.any fun q => decide (q.1 = p) := by
    unfold dtF
    rw [List.any_map]
    congr 1
    funext q
    exact k2_dec q.1 p
  rw [e]
  by_cases h : (tb.any fun q => decide (q.1 = p)) = true
  · rw [if_pos h, if_pos h]
    unfold dtF
    rw [List.map_map, List.map_map]
    refine List.map_congr_left fun q _ => ?_
    show (if k2 q.1 = k2 p then _ else _) = (fun q : P2 × Int => (k2 q.1, PyData.int q.2)) (if q.1 = p then (q.1, n) else q)
    by_cases z : q.1 = p
    · rw [if_pos z, if_pos (congrArg k2 z)]
    · rw [if_neg z, if_neg (fun e => z (k2_inj e))]
  · rw [if_neg h, if_neg h]
    unfold dtF
    rw [List.map_append]; rfl
theorem tget_put (tb : Tab) (p q : P2) (n : Int) : tget (tput tb p n) q = if q = p then some n else tget tb q := by
  have h := valD_put (dtF tb) (k2 p) (k2 q) (.int n)
  rw [dtF_put, dtF_get, dtF_get] at h
  have inj : ∀ {a b : Option Int}, a.map PyData.int = b.map PyData.int → a = b := fun {a b} e => by
    cases a <;> cases b <;> simp at e <;> simp [e]
  apply inj
  rw [h]
  by_cases z : q = p
  · rw [if_pos (congrArg k2 z), if_pos z]; rfl
  · rw [if_neg (fun e => z (k2_inj e)), if_neg z]
theorem tput_len (tb : Tab) (p : P2) (n : Int) : (tput tb p n).length ≤ tb.length + 1 := by
  unfold tput
  split
  · rw [List.length_map]; omega
  · rw [List.length_append]; exact Nat.le_refl _
theorem tput_mem {tb : Tab} {p : P2} {n : Int} {q : P2 × Int} (h : q ∈ tput tb p n) : q.1 = p ∨ ∃ m, (q.1, m) ∈ tb := by
  unfold tput at h
  split at h
  · obtain ⟨r, hr, e⟩ := List.mem_map.mp h
    by_cases z : r.1 = p
    · rw [if_pos z] at e; subst e; exact .inl z
    · rw [if_neg z] at e; subst e; exact .inr ⟨r.2, hr⟩
  · rcases List.mem_append.mp h with m | m
    · exact .inr ⟨q.2, m⟩
    · rw [List.mem_singleton.mp m]; exact .inl rfl
theorem tget_mem {tb : Tab} {p : P2} {n : Int} (h : tget tb p = some n) : (p, n) ∈ tb := by
  unfold tget at h
  obtain ⟨q, h1, h2⟩ := Option.map_eq_some_iff.mp h
  have e : q.1 = p := by have := List.find?_some h1; exact of_decide_eq_true this
  subst h2
  rw [← e]
  exact List.mem_of_find?_eq_some h1
theorem tget_of {tb : Tab} {q : P2 × Int} (h : q ∈ tb) : ∃ n, tget tb q.1 = some n := by
  unfold tget
  cases e : tb.find? fun r => decide (r.1 = q.1) with
  | none => exact absurd (decide_eq_true rfl) (List.find?_eq_none.mp e q h)
  | some r => exact ⟨r.2, rfl⟩
/-! the table of steps -/
def stepT (tb : Tab) (s : Stp) : Tab := tput tb (s.1, s.2.1) (max s.2.2 ((tget tb (s.1, s.2.1)).getD s.2.2))
def tabF (ss : List Stp) : Tab := ss.foldl stepT []
theorem fold_len : ∀ (ss : List Stp) (tb : Tab), (ss.foldl stepT tb).length ≤ tb.length + ss.length
  | [], tb => Nat.le_refl _
  | s :: ss, tb => by
    have h1 := fold_len ss (stepT tb s)
    have h2 : (stepT tb s).length ≤ tb.length + 1 := tput_len _ _ _
    rw [List.foldl_cons, List.length_cons]
    omega
theorem tab_len (ss : List Stp) : (tabF ss).length ≤ ss.length := by
  have := fold_len ss []
  rw [List.length_nil, Nat.zero_add] at this
  exact this
theorem fold_mem {us : List Str} : ∀ (ss : List Stp) (tb : Tab), (∀ s ∈ ss, s.1 ∈ us ∧ s.2.1 ∈ us) → (∀ q ∈ tb, q.1.1 ∈ us ∧ q.1.2 ∈ us) → ∀ q ∈ ss.foldl stepT tb, q.1.1 ∈ us ∧ q.1.2 ∈ us
  | [], tb, _, h => h
  | s :: ss, tb, hs, h => by
    refine fold_mem ss (stepT tb s) (fun x hx => hs x (List.mem_cons_of_mem _ hx)) fun q hq => ?_
    rcases tput_mem hq with e | ⟨m, hm⟩
    · rw [e]; exact hs s List.mem_cons_self
    · exact h (q.1, m) hm
theorem tab_mem {us : List Str} {ss : List Stp} (hs : ∀ s ∈ ss, s.1 ∈ us ∧ s.2.1 ∈ us) : ∀ q ∈ tabF ss, q.1.1 ∈ us ∧ q.1.2 ∈ us := fold_mem ss [] hs fun q h => nomatch h
theorem fold_fits (y : Str → Int) : ∀ (ss : List Stp) (tb : Tab), (∀ p n, tget (ss.foldl stepT tb) p = some n → y p.1 + n ≤ y p.2) ↔ (∀ p n, tget tb p = some n → y p.1 + n ≤ y p.2) ∧ ∀ s ∈ ss, y s.1 + s.2.2 ≤ y s.2.1
  | [], tb => ⟨fun h => ⟨h, fun s h => nomatch h⟩, fun h => h.1⟩
  | s :: ss, tb => by
    rw [List.foldl_cons, fold_fits y ss (stepT tb s)]
    have key : (∀ p n, tget (stepT tb s) p = some n → y p.1 + n ≤ y p.2) ↔ (∀ p n, tget tb p = some n → y p.1 + n ≤ y p.2) ∧ y s.1 + s.2.2 ≤ y s.2.1 := by
      have g : ∀ p, tget (stepT tb s) p = if p = (s.1, s.2.1) then some (max s.2.2 ((tget tb (s.1, s.2.1)).getD s.2.2)) else tget tb p := fun p => tget_put _ _ _ _
      constructor
      · intro h
        have h0 := h (s.1, s.2.1) _ ((g _).trans (if_pos rfl))
        refine ⟨fun p n hp => ?_, ?_⟩
        · by_cases z : p = (s.1, s.2.1)
          · subst z
            rw [hp] at h0
            have : max s.2.2 n ≥ n := Int.le_max_right _ _
            have h0' : y s.1 + max s.2.2 n ≤ y s.2.1 := h0
            show y s.1 + n ≤ y s.2.1
            omega
          · exact h p n ((g p).trans ((if_neg z).trans hp))
        · have h0' : y s.1 + max s.2.2 ((tget tb (s.1, s.2.1)).getD s.2.2) ≤ y s.2.1 := h0
          have : s.2.2 ≤ max s.2.2 ((tget tb (s.1, s.2.1)).getD s.2.2) := Int.le_max_left _ _
          omega
      · rintro ⟨h1, h2⟩ p n hp
        rw [g] at hp
        by_cases z : p = (s.1, s.2.1)
        · rw [if_pos z] at hp
          cases hp
          subst z
          show y s.1 + max _ _ ≤ y s.2.1
          cases e : tget tb (s.1, s.2.1) with
          | none =>
            show y s.1 + max s.2.2 s.2.2 ≤ _
            rw [Int.max_self]; exact h2
          | some m =>
            have := h1 _ m e
            have h3 : y s.1 + m ≤ y s.2.1 := this
            show y s.1 + max s.2.2 m ≤ _
            omega
        · rw [if_neg z] at hp
          exact h1 p n hp
    rw [key]
    constructor
    · rintro ⟨⟨h1, h2⟩, h3⟩
      exact ⟨h1, fun x hx => (List.mem_cons.mp hx).elim (fun e => e ▸ h2) (h3 x)⟩
    · rintro ⟨h1, h2⟩
      exact ⟨⟨h1, h2 s List.mem_cons_self⟩, fun x hx => h2 x (List.mem_cons_of_mem _ hx)⟩
theorem tab_fits (y : Str → Int) (ss : List Stp) : (∀ p n, tget (tabF ss) p = some n → y p.1 + n ≤ y p.2) ↔ ∀ s ∈ ss, y s.1 + s.2.2 ≤ y s.2.1 := by
  unfold tabF
  rw [fold_fits]
  exact ⟨fun h => h.2, fun h => ⟨(fun p n e => nomatch e), h⟩⟩
/-! its rows, in sequence -/
def rowT (tb : Tab) (k : List Key) : Stp := ((un2 k).1, (un2 k).2, (tget tb (un2 k)).getD 0)
def ksT (tb : Tab) : List (List Key) := ((dtF tb).map (·.1)).mergeSort kLe
def psT (tb : Tab) : List Stp := (ksT tb).map (rowT tb)
theorem ks_mem {tb : Tab} {k : List Key} : k ∈ ksT tb ↔ ∃ q ∈ tb, k = k2 q.1 := by
  unfold ksT dtF
  rw [(List.mergeSort_perm _ _).mem_iff, List.map_map, List.mem_map]
  exact ⟨fun ⟨q, h, e⟩ => ⟨q, h, e.symm⟩, fun ⟨q, h, e⟩ => ⟨q, h, e.symm⟩⟩
theorem ks_len (tb : Tab) : (ksT tb).length = tb.length := by unfold ksT dtF; rw [List.length_mergeSort, List.length_map, List.length_map]
theorem ps_len (tb : Tab) : (psT tb).length = tb.length := by unfold psT; rw [List.length_map, ks_len]
theorem ps_mem {tb : Tab} {s : Stp} : s ∈ psT tb ↔ ∃ p n, tget tb p = some n ∧ s = (p.1, p.2, n) := by
  unfold psT
  rw [List.mem_map]
  constructor
  · rintro ⟨k, hk, rfl⟩
    obtain ⟨q, hq, rfl⟩ := ks_mem.mp hk
    obtain ⟨n, hn⟩ := tget_of hq
    refine ⟨q.1, n, hn, ?_⟩
    unfold rowT
    rw [un_k2, hn]; rfl
  · rintro ⟨p, n, h, rfl⟩
    refine ⟨k2 p, ks_mem.mpr ⟨_, tget_mem h, rfl⟩, ?_⟩
    unfold rowT
    rw [un_k2, h]; rfl
def gS : Gr Stp := ⟨(·.1), (·.2.1), (·.2.2)⟩
theorem ps_fits (y : Str → Int) (ss : List Stp) : FitG gS (psT (tabF ss)) y ↔ ∀ s ∈ ss, y s.1 + s.2.2 ≤ y s.2.1 := by
  rw [← tab_fits]
  constructor
  · intro h p n e
    exact h (p.1, p.2, n) (ps_mem.mpr ⟨p, n, e, rfl⟩)
  · rintro h s hs
    obtain ⟨p, n, e, rfl⟩ := ps_mem.mp hs
    exact h p n e
theorem ps_in {us : List Str} {ss : List Stp} (hs : ∀ s ∈ ss, s.1 ∈ us ∧ s.2.1 ∈ us) : ∀ s ∈ psT (tabF ss), gS.src s ∈ us ∧ gS.dst s ∈ us := fun s h => by
  obtain ⟨p, n, e, rfl⟩ := ps_mem.mp h
  exact tab_mem hs _ (tget_mem e)
theorem al_dt (tb : Tab) : PySem.W.AllAlike ((dtF tb).map fun p => kD p.1) := fun d hd d' hd' => by
  obtain ⟨p, hp, e⟩ := List.mem_map.mp hd
  obtain ⟨p', hp', e'⟩ := List.mem_map.mp hd'
  obtain ⟨q, _, rfl⟩ := List.mem_map.mp hp
  obtain ⟨q', _, rfl⟩ := List.mem_map.mp hp'
  rw [← e, ← e']
  rfl
theorem so_dt (tb : Tab) : PySem.W.Sortable ((dtF tb).map fun p => kD p.1) := .inl fun d hd => by
  obtain ⟨p, hp, e⟩ := List.mem_map.mp hd
  obtain ⟨q, _, rfl⟩ := List.mem_map.mp hp
  exact ⟨_, _, e.symm⟩
/-! laps -/
section
variable {α : Type} {g : Gr α} {ps : List α}
theorem lfold_fit : ∀ (ps : List α) {b : Lf α}, (∀ p ∈ ps, b.far (g.src p) + g.wt p ≤ b.far (g.dst p)) → ps.foldl (lstep g) b = b
  | [], _, _ => rfl
  | p :: ps, b, h => by
    rw [List.foldl_cons, lstep_no (by have := h p List.mem_cons_self; omega)]
    exact lfold_fit ps fun q hq => h q (List.mem_cons_of_mem _ hq)
theorem lap_stay {j : Nat} (h : (lapN g ps (j + 1)).last = none) : ∀ k, (lapN g ps (j + 1 + k)).last = none ∧ FitG g ps (lapN g ps (j + 1 + k)).far
  | 0 => by
    obtain ⟨e, f⟩ := lap_fits (b := lapN g ps j) h
    refine ⟨h, fun p hp => ?_⟩
    have e' : (lapN g ps (j + 1)).far = (lapN g ps j).far := e
    show (lapN g ps (j + 1)).far _ + _ ≤ (lapN g ps (j + 1)).far _
    rw [e']
    exact f p hp
  | k + 1 => by
    obtain ⟨h1, h2⟩ := lap_stay h k
    have e : lapN g ps (j + 1 + (k + 1)) = ⟨(lapN g ps (j + 1 + k)).far, (lapN g ps (j + 1 + k)).ahead, none⟩ := by
      show lapG g ps (lapN g ps (j + 1 + k)) = _
      unfold lapG
      exact lfold_fit ps h2
    rw [e]
    exact ⟨rfl, h2⟩
theorem lap_iff {us : List Str} (hs : ∀ p ∈ ps, g.src p ∈ us ∧ g.dst p ∈ us) : (lapN g ps us.length).last = none ↔ FeasG g ps := by
  constructor
  · intro h
    cases n : us.length with
    | zero =>
      refine ⟨fun _ => 0, fun p hp => ?_⟩
      have := (hs p hp).1
      rw [List.length_eq_zero_iff.mp n] at this
      exact nomatch this
    | succ m =>
      rw [n] at h
      exact ⟨_, (lap_stay h 0).2⟩
  · rintro ⟨y, hy⟩
    cases n : us.length with
    | zero => rfl
    | succ m =>
      cases h : (lapN g ps (m + 1)).last with
      | none => rfl
      | some v =>
        obtain ⟨h1, h2, S, cl, vS, sl, su⟩ := lap_ring hs (n := m) (by omega) h
        obtain ⟨u, l, k⟩ : ∃ (u : Str) (l : List α), Pth g (lapN g ps (m + 1)).ahead u l u ∧ l ≠ [] := by
          obtain ⟨h, l, _, ne, w, _⟩ := back_ok cl (n := S.length + 1) vS (Nat.le_refl _)
          exact ⟨h, l, w, ne⟩
        have a := h2 u l k.1 k.2
        have b := pth_le h1 hy k.1
        omega
end
theorem get_of {o : Option PyData} {d x : PyData} (h : o = some d) : o.getD x = d := by rw [h]; rfl
theorem dtF_getD (tb : Tab) (p : P2) (n : Int) : (valD (dtF tb) (k2 p)).getD (.int n) = .int ((tget tb p).getD n) := by
  rw [dtF_get]
  cases tget tb p <;> rfl
theorem max_if (a b : Int) : (if b > a then b else a) = max a b := by
  rw [Int.max_def]
  split <;> split <;> omega
theorem steps_len : ∀ rows : List Row, (rows.flatMap stepsR).length ≤ 2 * rows.length
  | [] => Nat.le_refl _
  | r :: rows => by
    have h1 := steps_len rows
    have h2 := steps_two r
    rw [List.flatMap_cons, List.length_append, List.length_cons]
    omega
theorem dt_len (tb : Tab) : (dtF tb).length = tb.length := List.length_map _
theorem row_get {tb : Tab} {k : List Key} (h : k ∈ ksT tb) : valD (dtF tb) [.inr (un2 k).1, .inr (un2 k).2] = some (.int ((tget tb (un2 k)).getD 0)) := by
  obtain ⟨q, hq, rfl⟩ := ks_mem.mp h
  obtain ⟨n, hn⟩ := tget_of hq
  have e := dtF_get tb q.1
  rw [un_k2, hn]
  rw [hn] at e
  exact e
theorem ks_pairs (tb : Tab) : (ksT tb).map kD = (ksT tb).map fun k => .tuple [.str (un2 k).1, .str (un2 k).2] := List.map_congr_left fun k hk => by
  obtain ⟨q, hq, rfl⟩ := ks_mem.mp hk
  rfl
section
variable {α : Type} {g : Gr α}
theorem clo_it {ah : Str → Option α} {S : List Str} (c : Clo g ah S) : ∀ (n : Nat) {v : Str}, v ∈ S → ∃ h, h ∈ S ∧ itN g ah n v = some h
  | 0, v, hv => ⟨v, hv, rfl⟩
  | n + 1, v, hv => by
    obtain ⟨p, hp, hs⟩ := c.go v hv
    obtain ⟨h, h1, h2⟩ := clo_it c n hs
    exact ⟨h, h1, by rw [it_one hp]; exact h2⟩
theorem on_ring {ah : Str → Option α} {us : List Str} (hs : ∀ v p, ah v = some p → g.src p ∈ us) {v x : Str} (hv : v ∈ us) (h : itN g ah us.length v = some x) : ∃ k, k + 1 ≤ us.length ∧ itN g ah (k + 1) x = some x := by
  obtain ⟨i, j, hij, hj, e⟩ := it_rep hs hv (by rw [h]; exact fun z => nomatch z)
  refine ⟨j - i - 1, by omega, ?_⟩
  have a : itN g ah (us.length + (j - i)) v = itN g ah (j - i) x := by rw [itN_add, h]; rfl
  have b : itN g ah (j + (us.length - i)) v = itN g ah us.length v := by
    rw [itN_add, ← e, ← itN_add, show i + (us.length - i) = us.length by omega]
  rw [show j + (us.length - i) = us.length + (j - i) by omega, a, h] at b
  rw [show j - i - 1 + 1 = j - i by omega]
  exact b
end
theorem atI_last {α : Type} (l : List α) (x : α) : atI (l ++ [x]) (-1) = some x := by
  unfold atI
  have e : ixN (l ++ [x]).length (-1) = some l.length := by
    rw [List.length_append, List.length_singleton]
    unfold ixN
    rw [if_neg (by omega), if_pos (by omega)]
    congr 1; omega
  rw [e]
  show (l ++ [x])[l.length]? = _
  rw [List.getElem?_append_right (Nat.le_refl _), Nat.sub_self]; rfl
/-! years -/
def ringF (ah : Str → Option Stp) (n : Nat) (v : Str) : List Str :=
  match itN gS ah n v with
  | none => []
  | some h => match ah h with
    | none => []
    | some p => ((cycF gS ah h n [p] p.1).map (·.2.1)).reverse
def yRD (n : Nat) (b : Lf Stp) : PyData :=
  match b.last with
  | none => .none
  | some v => eTx (ringF b.ahead n v)
def yrFs (us : List Str) (ps : List Stp) (b : Lf Stp) (es : List (Key × PyData)) : List (Str × PyData) := [("own_units", eTx us), ("own_rows", .list (ps.map eSt)), ("own_far", dkD (dkF us b.far)), ("own_ahead", dkD es), ("own_last", eLast b.last)]
def AhK (es : List (Key × PyData)) (ah : Str → Option Stp) : Prop := ∀ v, valD es (.inr v) = (ah v).map fun p => .str p.1
def rStepTable : List PyData → PyData → Prop := R1 fun a d => ∃ rows : List Row, rows.length ≤ 200 ∧ a = .tuple (rows.map eRow) ∧ d = dtD (dtF (tabF (rows.flatMap stepsR)))
def rYRing (C : Addr) : List PyData → PyData → Prop := R1 fun a d => ∃ us ps b es, a = inD C (yrFs us ps b es) ∧ us.length ≤ 40 ∧ (∀ u ∈ us, SOk u) ∧ AhK es b.ahead ∧
  (∀ v, b.last = some v → (∀ u p, b.ahead u = some p → p.2.1 = u ∧ p.1 ∈ us) ∧ ∃ S, Clo gS b.ahead S ∧ v ∈ S ∧ S.length ≤ us.length ∧ ∀ u ∈ S, u ∈ us) ∧ d = yRD us.length b
structure YgI where
  us : List Str
  ps : List Stp
  b : Lf Stp
  es : List (Key × PyData)
  last : PyData
  ul : us.length ≤ 40
  so : ∀ u ∈ us, SOk u
  pl : ps.length ≤ 400
  hs : ∀ p ∈ ps, gS.src p ∈ us ∧ gS.dst p ∈ us
  kin : KeysIn us es
  ah : AhK es b.ahead
def ygO (C : Addr) (us : List Str) (ps : List Stp) (far : Str → Int) (es : List (Key × PyData)) (last : PyData) : List Ob := [.ins C [("own_units", .pu (eTx us)), ("own_rows", .pu (.list (ps.map eSt))), ("own_far", .lo 1), ("own_ahead", .lo 2), ("own_last", .pu last)], .dk (dkF us far), .dk es]
def ygX (_ : YgI) : List Sl := [.lo 0]
def ygZ (C : Addr) (i : YgI) : List Ob := ygO C i.us i.ps i.b.far i.es i.last
def ygPo (C : Addr) (i : YgI) (r : Rs) (st' : List Ob) : Prop := r = .pu (eLast (lapG gS i.ps i.b).last) ∧ ∃ es', KeysIn i.us es' ∧ AhK es' (lapG gS i.ps i.b).ahead ∧ st' = ygO C i.us i.ps (lapG gS i.ps i.b).far es' i.last
structure YiI where
  us : List Str
  tb : Tab
  nd : us.Nodup
  so : ∀ u ∈ us, SOk u
  ul : us.length ≤ 40
  tl : tb.length ≤ 400
  hs : ∀ q ∈ tb, q.1.1 ∈ us ∧ q.1.2 ∈ us
def yiX (i : YiI) : List Sl := [.lo 0, .pu (eTx i.us), .pu (dtD (dtF i.tb)), .pu (eTx i.us)]
def yiZ (C : Addr) (_ : YiI) : List Ob := [.ins C []]
def yiPo (C : Addr) (i : YiI) (r : Rs) (st' : List Ob) : Prop := r = .pu .none ∧ ∃ j es, KeysIn i.us es ∧ AhK es (lapN gS (psT i.tb) j).ahead ∧ (j = i.us.length ∨ ∃ k, j = k + 1 ∧ j ≤ i.us.length ∧ (lapN gS (psT i.tb) j).last = none) ∧
  st' = [.ins C ((yrFs i.us (psT i.tb) (lapN gS (psT i.tb) j) es).map fun p => (p.1, Fv.pu p.2))]
def ringD (g : DigD) : PyData := yRD g.units.length (lapN gS (psT (tabF (g.rows.flatMap stepsR))) g.units.length)
def rRingOf (C : Addr) : List PyData → PyData → Prop := R1 fun a d => ∃ g, DigOk g ∧ a = eDig C g ∧ d = ringD g
end L4
end

section
set_option Elab.async false
set_option linter.all false
set_option maxRecDepth 100000
set_option maxHeartbeats 1000000
set_option autoImplicit false
namespace L4
open PySem L2
section
variable {Pr : Program} {w : World} {K : PySem.W.Frag} {mg : Str → Option Value} {base : Heap} {cs : Cs}
local macro_rules
  | `(tactic| walk_at "sh") => `(tactic| first | exact rfl | assumption | exact sh_str (by first | assumption | decide +kernel) | decide +kernel)
local macro_rules
  | `(tactic| walk_at "ix") => `(tactic| first | exact rd_ixT rfl | exact rd_ixL rfl | exact rd_ixT (by assumption) | exact rd_ixL (by assumption) | exact rd_ixT (atI_nat (by assumption)) | exact rd_ixL (atI_nat (by assumption)))
local macro_rules
  | `(tactic| walk_at "add") => `(tactic| first | exact rd_addI | exact rd_addS (by first | assumption | decide) | exact rd_addT (by first | assumption | exact Nat.le_of_ble_eq_true rfl) | exact rd_addL (by first | assumption | exact Nat.le_of_ble_eq_true rfl))
local macro_rules
  | `(tactic| walk_at "mul") => `(tactic| first | exact rd_mul (.inl (by decide)) | exact rd_mul (.inr (by decide)) | exact rd_mul (.inl (by omega)) | exact rd_mul (.inr (by omega)))
local macro_rules
  | `(tactic| walk_at "mod") => `(tactic| exact rd_mod (by first | decide | omega))
local macro_rules
  | `(tactic| walk_at "div") => `(tactic| exact rd_div ⟨by first | decide | omega, by first | decide | omega⟩)
local macro_rules
  | `(tactic| walk_at "eq") => `(tactic| exact rd_eq (by walk_at "sh") (by walk_at "sh"))
local macro_rules
  | `(tactic| walk_at "ne") => `(tactic| exact rd_ne (by walk_at "sh") (by walk_at "sh"))
local macro_rules
  | `(tactic| walk_at "in") => `(tactic| first | exact rd_inT (by walk_at "sh") (by walk_at "sh") | exact rd_inL (by walk_at "sh") (by walk_at "sh"))
local macro_rules
  | `(tactic| walk_at "nin") => `(tactic| first | exact rd_ninT (by walk_at "sh") (by walk_at "sh") | exact rd_ninL (by walk_at "sh") (by walk_at "sh"))
local macro_rules
  | `(tactic| walk_at "cd") => `(tactic| first | exact cd_lenT | exact cd_lenL | exact cd_intI | exact cd_sS | exact cd_sI (by assumption) | exact cd_lenS (by assumption) | exact cd_intB)
theorem ok_step_table (T : Fx K mg cs) : Ok Pr w K mg base "step_table" 2 ["rows"] (spD K rStepTable) := by
  obtain ⟨f, fd, F, b, g⟩ := T.f_step_table
  have c_steps_of := ok_steps_of (Pr := Pr) (w := w) (base := base) T
  refine ⟨f, fd, g, F.kp, b, fn_ok F sc_step_table (fun xs d h => by obtain ⟨_, rfl, _⟩ := h; rfl) (fun cdv A outer s H E hr => ⟨_, (pss_cons (ps_set (i := 1) sc_step_table.nd rfl (.inl rfl) pe_dnewT)
      (pss_cons (ps_for PassesOwn.never rfl (kw_seq K (pv 0)) (pg_name (i := 2) sc_step_table.nd rfl (by first | exact Or.inl rfl | exact Or.inr rfl)) (pss_one (ps_for PassesOwn.never rfl (kw_seq K (pe_own c_steps_of (hr.mono (by decide)) (by rfl) (pa_cons (pv 2) pa_nil))) (kg_tup K rfl (pgs_cons (pg_name (i := 3) sc_step_table.nd rfl (by first | exact Or.inl rfl | exact Or.inr rfl)) (pgs_cons (pg_name (i := 4) sc_step_table.nd rfl (by first | exact Or.inl rfl | exact Or.inr rfl)) (pgs_cons (pg_name (i := 5) sc_step_table.nd rfl (by first | exact Or.inl rfl | exact Or.inr rfl)) pgs_nil)))) (pss_one (ps_dput (u1 hr) (pv 1) (pe_tup (pa_cons (pv 3) (pa_cons (pv 4) pa_nil))) (pe_callB (call_max2 rfl) (by rfl) T.b_max bt_max (pa_cons (pv 5) (pa_cons (pe_dget2 (u1 hr) (pv 1) (pe_tup (pa_cons (pv 3) (pa_cons (pv 4) pa_nil))) (pv 5) ⟨rfl, rfl, rfl, rfl⟩) pa_nil))) rfl)))))
      (pss_one (ps_ret (pv 1))))), fun xs d hR => ?_⟩)⟩
  obtain ⟨a0, rfl, hR⟩ := hR
  obtain ⟨rows, rl, rfl, rfl⟩ := hR
  refine q_dict end_new ?_
  refine q_for rows eRow (fun k ds => ∃ s2 s3 s4 s5, ds = ⟨[.pu (.tuple (rows.map eRow)), .lo 0, s2, s3, s4, s5], [.dt (dtF (tabF ((rows.take k).flatMap stepsR)))]⟩) (fun r ds => ds.set 2 (.pu (eRow r))) (eI_tup (ev_var rfl)) ⟨.un, .un, .un, .un, by rw [List.take_zero]; rfl⟩ (fun i l ds _ ⟨s2, s3, s4, s5, e⟩ => by subst e; exact tg1) ?_ ?_
  · rintro k r _ hk ⟨s2, s3, s4, s5, rfl⟩
    have e1 : (rows.take (k + 1)).flatMap stepsR = (rows.take k).flatMap stepsR ++ stepsR r := by rw [List.take_add_one, hk, Option.toList_some, List.flatMap_append, List.flatMap_singleton]
    have e2 : tabF ((rows.take (k + 1)).flatMap stepsR) = (stepsR r).foldl stepT (tabF ((rows.take k).flatMap stepsR)) := by rw [e1]; unfold tabF; rw [List.foldl_append]
    have l1 := tab_len ((rows.take k).flatMap stepsR)
    have l2 : ((rows.take k).flatMap stepsR).length ≤ 2 * 200 := Nat.le_trans (steps_len _) (Nat.mul_le_mul_left _ (by rw [List.length_take]; omega))
    refine sx_for (stepsR r) eSt (fun j ds => ∃ s3 s4 s5, ds = ⟨[.pu (.tuple (rows.map eRow)), .lo 0, .pu (eRow r), s3, s4, s5], [.dt (dtF (((stepsR r).take j).foldl stepT (tabF ((rows.take k).flatMap stepsR))))]⟩) (fun s ds => ((ds.set 3 (.pu (.str s.1))).set 4 (.pu (.str s.2.1))).set 5 (.pu (.int s.2.2))) (eI_tup (ev_call (ea_cons (ev_var rfl) ea_nil) (⟨_, rfl, r, rfl, rfl⟩))) ⟨s3, s4, s5, by rw [List.take_zero]; rfl⟩ (fun i l ds _ ⟨s3, s4, s5, e⟩ => by subst e; exact tg3) ?_ ?_
    · rintro j s _ hj ⟨s3, s4, s5, rfl⟩
      have l3 := fold_len ((stepsR r).take j) (tabF ((rows.take k).flatMap stepsR))
      have l4 := steps_two r
      have l5 : ((stepsR r).take j).length ≤ (stepsR r).length := by rw [List.length_take]; omega
      have e3 : ((stepsR r).take (j + 1)).foldl stepT (tabF ((rows.take k).flatMap stepsR)) = stepT (((stepsR r).take j).foldl stepT (tabF ((rows.take k).flatMap stepsR))) s := by
        rw [List.take_add_one, hj, Option.toList_some, List.foldl_append]; rfl
      rw [e3]
      generalize ((stepsR r).take j).foldl stepT (tabF ((rows.take k).flatMap stepsR)) = tb at *
      refine sx_dput1 (l := 0) (k := k2 (s.1, s.2.1)) rfl rfl (ev_is (y := .int (max s.2.2 ((tget tb (s.1, s.2.1)).getD s.2.2))) (ev_cb (ea_cons (ev_var rfl) (ea_cons (ev_is (ev_dgS2 (by first | exact erd_own rfl rfl | exact Ev.rd (ev_var rfl)) (ev_tupA (ea_cons (ev_var rfl) (ea_cons (ev_var rfl) ea_nil)) rfl) (ev_var rfl)) (dtF_getD tb (s.1, s.2.1) s.2.2)) ea_nil)) cd_max2) (congrArg PyData.int (max_if _ _))) (ev_tupA (ea_cons (ev_var rfl) (ea_cons (ev_var rfl) ea_nil)) rfl) (by rw [dt_len]; omega) ⟨_, _, _, by rw [dtF_put]; rfl⟩
    · rintro _ ⟨s3, s4, s5, rfl⟩
      show ∃ _ _ _ _, _
      rw [e2]
      exact ⟨_, _, _, _, by rw [List.take_length]⟩
  · rintro _ ⟨s2, s3, s4, s5, rfl⟩
    rw [List.take_length]
    exact sx_frz (l := 0) rfl rfl (Nat.zero_le _) (sx_retD (ev_var rfl) rfl)
theorem ok_Years_go (T : Fx K mg cs) : OkM Pr w K mg base cs.Years "go" 1 ["self"] (spF K ygX (ygZ cs.Years) (ygPo cs.Years)) := by
  obtain ⟨f, fd, F, b, g⟩ := T.f_Years_go
  refine ⟨f, fd, T.k_Years, g, b, fn_okF F sc_Years_go (fun i => rfl) (fun cdv A outer s H E hr => ⟨_, (pss_cons (ps_set (i := 1) sc_Years_go.nd rfl (.inl rfl) pe_non)
      (pss_cons (ps_for PassesOwn.never rfl (kw_seq K (kp_fld K (pv 0))) (kg_tup K rfl (pgs_cons (pg_name (i := 2) sc_Years_go.nd rfl (by first | exact Or.inl rfl | exact Or.inr rfl)) (pgs_cons (pg_name (i := 3) sc_Years_go.nd rfl (by first | exact Or.inl rfl | exact Or.inr rfl)) (pgs_cons (pg_name (i := 4) sc_Years_go.nd rfl (by first | exact Or.inl rfl | exact Or.inr rfl)) pgs_nil)))) (pss_one (ps_if (PW.pt (pw_and (pt_cmp (pc_din (u1 hr) (pv 2) (kp_fld K (pv 0))) (by with_unfolding_all rfl)) (pw_and1 (pt_cmpR op_gt (pe_op (ko_add K) (pe_dget (u1 hr) (kp_fld K (pv 0)) (pv 2) (fun _ _ => rfl)) (pv 4)) (pe_dget2 (u1 hr) (kp_fld K (pv 0)) (pv 3) (pe_op op_sub (pe_op (ko_add K) (pe_dget (u1 hr) (kp_fld K (pv 0)) (pv 2) (fun _ _ => rfl)) (pv 4)) pe_int) ⟨rfl, rfl, rfl, rfl⟩) (nomark _))))) (pss_cons (ps_dput (u1 hr) (kp_fld K (pv 0)) (pv 3) (pe_op (ko_add K) (pe_dget (u1 hr) (kp_fld K (pv 0)) (pv 2) (fun _ _ => rfl)) (pv 4)) rfl)
      (pss_cons (ps_dput (u1 hr) (kp_fld K (pv 0)) (pv 3) (pv 2) rfl)
      (pss_one (ps_set (i := 1) sc_Years_go.nd rfl (.inl rfl) (pv 3))))) pss_nil)))
      (pss_one (ps_ret (pv 1))))), fun i => ?_⟩)⟩
  obtain ⟨us, ps, b, es, last, ul, so, pl, hs, kin, ah⟩ := i
  refine q_set (d := .none) ev_non ?_
  refine q_for ps eSt (fun j ds => ∃ es s2 s3 s4, KeysIn us es ∧ AhK es ((ps.take j).foldl (lstep gS) ⟨b.far, b.ahead, none⟩).ahead ∧ ds = ⟨[.lo 0, .pu (eLast ((ps.take j).foldl (lstep gS) ⟨b.far, b.ahead, none⟩).last), s2, s3, s4], ygO cs.Years us ps ((ps.take j).foldl (lstep gS) ⟨b.far, b.ahead, none⟩).far es last⟩) (fun s ds => ((ds.set 2 (.pu (.str s.1))).set 3 (.pu (.str s.2.1))).set 4 (.pu (.int s.2.2)))
    (eI_list (by first | exact ev_fldO rfl rfl T.k_Years T.n_Years_own_rows rfl | exact ev_fld (ev_var rfl) T.k_Years T.n_Years_own_rows rfl)) ⟨es, .un, .un, .un, kin, ah, rfl⟩ (fun i l ds _ ⟨es, s2, s3, s4, _, _, e⟩ => by subst e; exact tg3) ?_ ?_
  · rintro j s _ hj ⟨es, s2, s3, s4, kin, ah, rfl⟩
    obtain ⟨sm, dm⟩ := hs s (List.mem_of_getElem? hj)
    have et : (ps.take (j + 1)).foldl (lstep gS) ⟨b.far, b.ahead, none⟩ = lstep gS ((ps.take j).foldl (lstep gS) ⟨b.far, b.ahead, none⟩) s := by
      rw [List.take_add_one, hj, Option.toList_some, List.foldl_append]; rfl
    rw [et]
    generalize (ps.take j).foldl (lstep gS) ⟨b.far, b.ahead, none⟩ = c at *
    have g1 : valD (dkF us c.far) (.inr s.1) = some (.int (c.far s.1)) := dkF_get sm
    have g2 : valD (dkF us c.far) (.inr s.2.1) = some (.int (c.far s.2.1)) := dkF_get dm
    have kl := kin.le
    have ll : (dkF us c.far).length ≤ 40 := by unfold dkF; rw [List.length_map]; exact ul
    refine sx_if (b := decide (c.far s.2.1 < c.far s.1 + s.2.2)) (et_is (et_and (et_test (ev_kinS (ev_var rfl) (by first | exact erk_fldO rfl rfl T.k_Years T.n_Years_own_far rfl rfl | exact Ev.rk (by first | exact ev_fldO rfl rfl T.k_Years T.n_Years_own_far rfl | exact ev_fld (ev_var rfl) T.k_Years T.n_Years_own_far rfl)))) fun _ => (et_test (ev_op (ev_op (ev_kgS (by first | exact erk_fldO rfl rfl T.k_Years T.n_Years_own_far rfl rfl | exact Ev.rk (by first | exact ev_fldO rfl rfl T.k_Years T.n_Years_own_far rfl | exact ev_fld (ev_var rfl) T.k_Years T.n_Years_own_far rfl)) (ev_var rfl) (g1)) (ev_var rfl) (by walk_at "add")) (ev_is (ev_kgS2 (by first | exact erk_fldO rfl rfl T.k_Years T.n_Years_own_far rfl rfl | exact Ev.rk (by first | exact ev_fldO rfl rfl T.k_Years T.n_Years_own_far rfl | exact ev_fld (ev_var rfl) T.k_Years T.n_Years_own_far rfl)) (ev_var rfl) (ev_op (ev_op (ev_kgS (by first | exact erk_fldO rfl rfl T.k_Years T.n_Years_own_far rfl rfl | exact Ev.rk (by first | exact ev_fldO rfl rfl T.k_Years T.n_Years_own_far rfl | exact ev_fld (ev_var rfl) T.k_Years T.n_Years_own_far rfl)) (ev_var rfl) (g1)) (ev_var rfl) (by walk_at "add")) ev_int rd_sub)) (get_of g2)) rd_gt))) (by rw [g1]; rfl)) (fun h => ?_) fun h => ?_
    · have lt : c.far (gS.dst s) < c.far (gS.src s) + gS.wt s := of_decide_eq_true h
      rw [lstep_yes lt]
      have hv2 : AhK (putD es (.inr s.2.1) (.str s.1)) fun v => if v = s.2.1 then some s else c.ahead v := fun v => by
        rw [valD_put]
        show _ = Option.map _ (if v = s.2.1 then some s else c.ahead v)
        by_cases z : v = s.2.1
        · subst z; rw [if_pos rfl, if_pos rfl]; rfl
        · rw [if_neg (fun q => z (Sum.inr.inj q)), if_neg z]; exact ah v
      have e1 := dkF_put (f := c.far) (u := s.2.1) dm (c.far s.1 + s.2.2)
      refine sx_seq1 (sx_dputK (es_ev (ev_op (ev_kgS (by first | exact erk_fldO rfl rfl T.k_Years T.n_Years_own_far rfl rfl | exact Ev.rk (by first | exact ev_fldO rfl rfl T.k_Years T.n_Years_own_far rfl | exact ev_fld (ev_var rfl) T.k_Years T.n_Years_own_far rfl)) (ev_var rfl) (g1)) (ev_var rfl) (by walk_at "add")) ⟨_, rfl, es_fld (es_lo (l := 0) rfl ⟨0, cs.Years, _, .lo 1, rfl, rfl, T.k_Years, T.n_Years_own_far, rfl, 1, _, .inr s.2.1, rfl, rfl, (ev_var rfl), by omega, rfl⟩)⟩)) ?_
      refine sx_seq1 (sx_dputK (es_ev (ev_var rfl) ⟨_, rfl, es_fld (es_lo (l := 0) rfl ⟨0, cs.Years, _, .lo 2, rfl, rfl, T.k_Years, T.n_Years_own_ahead, rfl, 2, _, .inr s.2.1, rfl, rfl, (ev_var rfl), by omega, rfl⟩)⟩)) ?_
      exact sx_asgT (ev_var rfl) tg1 ⟨putD es (.inr s.2.1) (.str s.1), _, _, _, kin.put dm _, hv2, by show _ = (⟨_, [_, .dk (dkF us fun w => if w = s.2.1 then c.far s.1 + s.2.2 else c.far w), _]⟩ : D4); rw [← e1]; rfl⟩
    · have nlt : ¬ c.far (gS.dst s) < c.far (gS.src s) + gS.wt s := of_decide_eq_false h
      rw [lstep_no nlt]
      exact sx_next ⟨es, _, _, _, kin, ah, rfl⟩
  · rintro _ ⟨es, s2, s3, s4, kin, ah, rfl⟩
    rw [List.take_length] at ah ⊢
    refine sx_ret (ev_var rfl) ⟨fun o ho => ?_, rfl, es, kin, ah, rfl⟩
    have ho' : o ∈ ygO cs.Years us ps (ps.foldl (lstep gS) ⟨b.far, b.ahead, none⟩).far es last := ho
    simp only [ygO, List.mem_cons, List.not_mem_nil, or_false] at ho'
    rcases ho' with e | e | e <;> subst e <;> exact ⟨rfl, rfl⟩
theorem ok_Years___init__ (T : Fx K mg cs) : OkI Pr w K mg base cs.Years "Years" 2 ["self", "units", "table", "begun"] (spF K yiX (yiZ cs.Years) (yiPo cs.Years)) := by
  obtain ⟨f, fd, F, b, g⟩ := T.f_Years___init__
  have c_Years_go := ok_Years_go (Pr := Pr) (w := w) (base := base) T
  refine ⟨f, fd, g.1, g.2, b, fn_okF F sc_Years___init__ (fun i => rfl) (fun cdv A outer s H E hr => ⟨_, (pss_cons (kps_fld K (pv 0) (pv 1) rfl)
      (pss_cons (kps_fld K (pv 0) (pe_lc (own := [("one", 4), ("other", 5)]) (g := (gTup K 2 (gCons (gName 4) (gCons (gName 5) gNil)))) rfl sc_Years___init__.nd (kw_seq K (pe_callB (cr_sortT rfl (u64 hr)) (by rfl) T.b_sorted bt_sorted (pa_cons (pv 2) pa_nil))) (blkOk_by (own := [("one", 4), ("other", 5)]) (N := N_Years___init__) (sc := defScope st_Years___init__) (by decide +kernel)) (fun _ _ _ _ _ => (kg_tup K rfl (pgs_cons (pg_name (i := 4) sc_Years___init__.nd rfl (by first | exact Or.inl rfl | exact Or.inr rfl)) (pgs_cons (pg_name (i := 5) sc_Years___init__.nd rfl (by first | exact Or.inl rfl | exact Or.inr rfl)) pgs_nil)))) (fun _ _ _ _ _ => pts_nil) (fun _ _ _ _ _ => (pe_tup (pa_cons (pv 4) (pa_cons (pv 5) (pa_cons (pe_dget (u1 hr) (pv 2) (pe_tup (pa_cons (pv 4) (pa_cons (pv 5) pa_nil))) (fun _ _ => rfl)) pa_nil)))))) rfl)
      (pss_cons (kps_fld K (pv 0) (pe_callTy (kc_dictP K rfl) (by rfl) T.b_dict bt_dict (pa_cons (pe_lc (own := [("unit", 6)]) (g := (gName 6)) rfl sc_Years___init__.nd (kw_seq K (pv 3)) (blkOk_by (own := [("unit", 6)]) (N := N_Years___init__) (sc := defScope st_Years___init__) (by decide +kernel)) (fun _ _ _ _ _ => (pg_name (i := 6) sc_Years___init__.nd rfl (by first | exact Or.inl rfl | exact Or.inr rfl))) (fun _ _ _ _ _ => pts_nil) (fun _ _ _ _ _ => (pe_tup (pa_cons (pv 6) (pa_cons pe_int pa_nil))))) pa_nil)) rfl)
      (pss_cons (kps_fld K (pv 0) pe_dnewK rfl)
      (pss_cons (kps_fld K (pv 0) pe_non rfl)
      (pss_one (ps_for PassesOwn.never rfl (pi_range1 (by rfl) T.b_range (pa_cons (pe_callB (kc_len K) (by rfl) T.b_len bt_len (pa_cons (pv 1) pa_nil)) pa_nil)) (pg_name (i := 7) sc_Years___init__.nd rfl (by first | exact Or.inl rfl | exact Or.inr rfl)) (pss_cons (kps_fld K (pv 0) (pe_ownM0 c_Years_go (hr.mono (by decide)) (pv 0)) rfl)
      (pss_one (ps_if (pt_cmp (pc_isN (kp_fld K (pv 0))) (nomark _)) (pss_one ps_break) pss_nil)))))))))), fun i => ?_⟩)⟩
  obtain ⟨us, tb, nd, so, ul, tl, hs⟩ := i
  have pl : (psT tb).length ≤ 400 := by rw [ps_len]; exact tl
  have hps : ∀ p ∈ psT tb, gS.src p ∈ us ∧ gS.dst p ∈ us := fun s h => by
    obtain ⟨p, n, e, rfl⟩ := ps_mem.mp h
    exact hs _ (tget_mem e)
  refine sx_seq1 (sx_fld (es_ev (ev_var rfl) (es_lo (l := 0) rfl ⟨0, cs.Years, [], rfl, rfl, rfl, T.k_Years, T.n_Years_own_units, Nat.le_of_ble_eq_true rfl, rfl⟩))) ?_
  refine sx_seq1 (sx_fld (es_ev (ev_is (y := .list ((psT tb).map eSt)) (EnL.ev (lc2 (ksT tb) (fun k => .str (un2 k).1) (fun k => .str (un2 k).2) (fun k => eSt (rowT tb k)) (eI_list (ev_is (EnL.ev (en_sortTP (es := dtF tb) (ev_var rfl) (al_dt tb) (so_dt tb) (by rw [dt_len]; omega))) ?_)).r (by rw [ks_len]; omega) fun k hk => (ev_tupA (ea_cons (ev_var rfl) (ea_cons (ev_var rfl) (ea_cons (ev_dgS (by first | exact erd_own rfl rfl | exact Ev.rd (ev_var rfl)) (ev_tupA (ea_cons (ev_var rfl) (ea_cons (ev_var rfl) ea_nil)) rfl) (row_get hk)) ea_nil))) rfl))) (by unfold psT; rw [List.map_map]; rfl)) (es_lo (l := 0) rfl ⟨0, cs.Years, _, rfl, rfl, rfl, T.k_Years, T.n_Years_own_rows, Nat.le_of_ble_eq_true rfl, rfl⟩))) ?_
  · exact congrArg PyData.list (ks_pairs tb)
  refine sx_seq1 (sx_fld (es_new (en_zeros rfl rfl nd (by omega)).ek (es_lo (l := 0) rfl ⟨0, cs.Years, _, rfl, rfl, rfl, T.k_Years, T.n_Years_own_far, Nat.le_of_ble_eq_true rfl, rfl⟩))) ?_
  refine sx_seq1 (sx_fld (es_new endk_new.ek (es_lo (l := 0) rfl ⟨0, cs.Years, _, rfl, rfl, rfl, T.k_Years, T.n_Years_own_ahead, Nat.le_of_ble_eq_true rfl, rfl⟩))) ?_
  refine sx_seq1 (sx_fld (es_ev ev_non (es_lo (l := 0) rfl ⟨0, cs.Years, _, rfl, rfl, rfl, T.k_Years, T.n_Years_own_last, Nat.le_of_ble_eq_true rfl, rfl⟩))) ?_
  refine sx_late (Mid := fun ds => ∃ j es s7, KeysIn us es ∧ AhK es (lapN gS (psT tb) j).ahead ∧ (j = us.length ∨ ∃ k, j = k + 1 ∧ j ≤ us.length ∧ (lapN gS (psT tb) j).last = none) ∧ ds = ⟨[.lo 0, .pu (eTx us), .pu (dtD (dtF tb)), .pu (eTx us), .un, .un, .un, s7], ygO cs.Years us (psT tb) (lapN gS (psT tb) j).far es (eLast (lapN gS (psT tb) j).last)⟩) ?_ ?_
  · refine sx_for (List.range us.length) (fun (i : Nat) => PyData.int i) (fun j ds => ∃ es s7, KeysIn us es ∧ AhK es (lapN gS (psT tb) j).ahead ∧ ds = ⟨[.lo 0, .pu (eTx us), .pu (dtD (dtF tb)), .pu (eTx us), .un, .un, .un, s7], ygO cs.Years us (psT tb) (lapN gS (psT tb) j).far es (eLast (lapN gS (psT tb) j).last)⟩) (fun i ds => ds.set 7 (.pu (.int (i : Nat))))
      (eI_rng1 (n := (us.length : Nat)) (ea_cons (ev_is (ev_cb (ea_cons (ev_var rfl) ea_nil) (by walk_at "cd")) (by rw [List.length_map])) ea_nil) (by omega)) ⟨[], .un, .nil, (fun v => rfl), rfl⟩ (fun i l ds _ ⟨es, s7, _, _, e⟩ => by subst e; exact tg1) ?_ ?_
    · rintro i l _ hi ⟨es, s7, kin, ah, rfl⟩
      have il : i < us.length := by
        have := (List.getElem?_eq_some_iff.mp hi).1
        rwa [List.length_range] at this
      refine sx_seq (Mid := fun ds => ∃ es, KeysIn us es ∧ AhK es (lapN gS (psT tb) (i + 1)).ahead ∧ ds = ⟨[.lo 0, .pu (eTx us), .pu (dtD (dtF tb)), .pu (eTx us), .un, .un, .un, .pu (.int (l : Nat))], ygO cs.Years us (psT tb) (lapN gS (psT tb) (i + 1)).far es (eLast (lapN gS (psT tb) (i + 1)).last)⟩) (sx_fld (es_methS (l := 0) rfl rfl rfl (es_callL (l := 0) ⟨us, psT tb, lapN gS (psT tb) i, es, _, ul, so, pl, hps, kin, ah⟩ [0, 1, 2] rfl ea_nil rfl rfl (by decide) rfl ⟨⟨rfl, rfl, rfl⟩, ⟨rfl, rfl, rfl⟩, ⟨rfl, rfl, rfl⟩, trivial⟩ fun r st' po _ => ?_))) ?_
      · obtain ⟨rfl, es', kin', ah', rfl⟩ := po
        exact es_lo (l := 0) rfl ⟨0, cs.Years, _, rfl, rfl, rfl, T.k_Years, T.n_Years_own_last, Nat.le_of_ble_eq_true rfl, es', kin', ah', rfl⟩
      rintro _ ⟨es', kin', ah', rfl⟩
      cases hl : (lapN gS (psT tb) (i + 1)).last with
      | none => exact sx_yesI (et_test (ev_isN (by first | exact ev_fldO rfl rfl T.k_Years T.n_Years_own_last rfl | exact ev_fld (ev_var rfl) T.k_Years T.n_Years_own_last rfl))) rfl (sx_brk ⟨i + 1, es', _, kin', ah', .inr ⟨i, rfl, il, hl⟩, by rw [hl]⟩)
      | some v => exact sx_noI (et_test (ev_isN (by first | exact ev_fldO rfl rfl T.k_Years T.n_Years_own_last rfl | exact ev_fld (ev_var rfl) T.k_Years T.n_Years_own_last rfl))) rfl (sx_next ⟨es', _, kin', ah', rfl⟩)
    · rintro _ ⟨es, s7, kin, ah, rfl⟩
      rw [List.length_range] at ah ⊢
      exact ⟨_, es, s7, kin, ah, .inl rfl, rfl⟩
  · rintro _ ⟨j, es, s7, kin, ah, hj, rfl⟩
    refine sx_frz (l := 1) rfl rfl (by show 1 ≤ 1; decide) ?_
    refine sx_frz (l := 2) rfl rfl (by show 1 ≤ 2; decide) ?_
    refine sx_next ⟨fun o ho => ?_, rfl, j, es, kin, ah, hj, rfl⟩
    have ho' : o ∈ [Ob.ins cs.Years ((yrFs us (psT tb) (lapN gS (psT tb) j) es).map fun p => (p.1, Fv.pu p.2))] := ho
    rw [List.mem_singleton.mp ho']
    exact ⟨rfl, rfl⟩
theorem ok_Years_ring (T : Fx K mg cs) : OkP Pr w K mg base cs.Years "ring" 1 ["self"] (spD K (rYRing cs.Years)) := by
  obtain ⟨p, f, fd, F, b, g⟩ := T.f_Years_ring
  refine ⟨p, f, fd, T.k_Years, g, b, fn_ok F sc_Years_ring (fun xs d h => by obtain ⟨_, rfl, _⟩ := h; rfl) (fun cdv A outer s H E hr => ⟨_, (pss_cons (ps_if (pt_cmp (pc_isN (kp_fld K (pv 0))) (nomark _)) (pss_one (ps_ret pe_non)) pss_nil)
      (pss_cons (ps_set (i := 1) sc_Years_ring.nd rfl (.inl rfl) (kp_fld K (pv 0)))
      (pss_cons (ps_for PassesOwn.never rfl (kw_seq K (kp_fld K (pv 0))) (pg_name (i := 2) sc_Years_ring.nd rfl (by first | exact Or.inl rfl | exact Or.inr rfl)) (pss_one (ps_set (i := 1) sc_Years_ring.nd rfl (.inl rfl) (pe_dget (u1 hr) (kp_fld K (pv 0)) (pv 1) (fun _ _ => rfl)))))
      (pss_cons (ps_set (i := 3) sc_Years_ring.nd rfl (.inl rfl) (pe_lst (pa_cons (pv 1) pa_nil)))
      (pss_cons (ps_while PassesOwn.never (pt_cmpR (ko_ne K (u64 hr)) (pe_dget (u1 hr) (kp_fld K (pv 0)) (pe_ix (ki_seq K) (pv 3) (pe_un un_neg pe_int) (fun _ _ => rfl)) (fun _ _ => rfl)) (pv 1) (nomark _)) (pss_one (ps_expr (pe_bm PySem.F.plainAttrs_list PySem.F.slot_list_append PySem.F.type_list_append mt_append (pv 3) (pa_cons (pe_dget (u1 hr) (kp_fld K (pv 0)) (pe_ix (ki_seq K) (pv 3) (pe_un un_neg pe_int) (fun _ _ => rfl)) (fun _ _ => rfl)) pa_nil)))))
      (pss_one (ps_ret (pe_callTy (kc_tuple K) (by rfl) T.b_tuple bt_tuple (pa_cons (kp_revL K (pv 3)) pa_nil))))))))), fun xs d hR => ?_⟩)⟩
  obtain ⟨a0, rfl, hR⟩ := hR
  obtain ⟨us, ps, b, es, rfl, ul, so, ah, hb, rfl⟩ := hR
  cases hl : b.last with
  | none =>
    exact q_yesI (et_test (ev_isN (by first | exact ev_fldO rfl rfl T.k_Years T.n_Years_own_last rfl | exact ev_fld (ev_var rfl) T.k_Years T.n_Years_own_last rfl))) (by show isN (eLast b.last) = true; rw [hl]; rfl) (sx_retI ev_non rfl (by show Rs.pu _ = .pu _; unfold yRD; rw [hl]))
  | some v =>
    obtain ⟨hd, S, cl, vS, sl, su⟩ := hb v hl
    obtain ⟨h, hS, itv⟩ := clo_it cl us.length vS
    obtain ⟨k, hk, itk⟩ := on_ring (fun u p hp => (hd u p hp).2) (su v vS) itv
    obtain ⟨p0, hp0, it0⟩ := it_some itk
    have srcS : ∀ {v : Str} {q : Stp}, v ∈ S → b.ahead v = some q → q.1 ∈ S := fun {v q} h1 h2 => by
      obtain ⟨q', e1, e2⟩ := cl.go v h1
      rw [h2] at e1
      cases e1
      exact e2
    have hget : ∀ {v : Str} {q : Stp}, b.ahead v = some q → valD es (.inr v) = some (.str q.1) := fun {v q} e => by rw [ah, e]; rfl
    have eD : yRD us.length b = eTx ((cycF gS b.ahead h k [p0] p0.1).map (·.2.1)).reverse := by
      unfold yRD
      rw [hl]
      show eTx (ringF b.ahead us.length v) = _
      unfold ringF
      rw [itv]
      show eTx (match b.ahead h with | none => [] | some p => ((cycF gS b.ahead h us.length [p] p.1).map (·.2.1)).reverse) = _
      rw [hp0]
      show eTx ((cycF gS b.ahead h us.length [p0] p0.1).map (·.2.1)).reverse = _
      rw [cyc_more k us.length [p0] p0.1 it0 (by omega)]
    rw [eD]
    refine q_noI (et_test (ev_isN (by first | exact ev_fldO rfl rfl T.k_Years T.n_Years_own_last rfl | exact ev_fld (ev_var rfl) T.k_Years T.n_Years_own_last rfl))) (by show isN (eLast b.last) = false; rw [hl]; rfl) ?_
    refine q_setI (d := .str v) (by first | exact ev_fldO rfl rfl T.k_Years T.n_Years_own_last rfl | exact ev_fld (ev_var rfl) T.k_Years T.n_Years_own_last rfl) (by show eLast b.last = _; rw [hl]; rfl) ?_ rfl
    refine q_for us .str (fun i ds => ∃ x s2, x ∈ S ∧ itN gS b.ahead i v = some x ∧ ds = ⟨[.pu (inD cs.Years (yrFs us ps b es)), .pu (.str x), s2, .un], []⟩) (fun u ds => ds.set 2 (.pu (.str u))) (eI_tup (by first | exact ev_fldO rfl rfl T.k_Years T.n_Years_own_units rfl | exact ev_fld (ev_var rfl) T.k_Years T.n_Years_own_units rfl)) ⟨v, .un, vS, rfl, rfl⟩ (fun i l ds _ ⟨x, s2, _, _, e⟩ => by subst e; exact tg1) ?_ ?_
    · rintro i u _ hi ⟨x, s2, xS, itx, rfl⟩
      obtain ⟨q, hq, qS⟩ := cl.go x xS
      exact sx_asgT (ev_kgS (by first | exact erk_fldO rfl rfl T.k_Years T.n_Years_own_ahead rfl rfl | exact Ev.rk (by first | exact ev_fldO rfl rfl T.k_Years T.n_Years_own_ahead rfl | exact ev_fld (ev_var rfl) T.k_Years T.n_Years_own_ahead rfl)) (ev_var rfl) (hget hq)) tg1 ⟨q.1, _, qS, by rw [itN_add, itx]; show itN gS b.ahead 1 x = _; rw [it_one hq]; rfl, rfl⟩
    · rintro _ ⟨x, s2, xS, itx, rfl⟩
      rw [itv] at itx
      cases itx
      have so2 := so _ (su _ hS)
      refine q_new (en_lstA (ea_cons (ev_var rfl) ea_nil) rfl) ?_
      have e0 : p0.2.1 = h := (hd h p0 hp0).1
      refine sx_seq (Mid := fun ds => ds = ⟨[.pu (inD cs.Years (yrFs us ps b es)), .pu (.str h), s2, .lo 0], [.lst ((cycF gS b.ahead h k [p0] p0.1).map fun q => .str q.2.1)]⟩)
        (sx_while (Inv := fun m ds => ∃ (m0 : List Stp) (q : Stp), itN gS b.ahead m q.1 = some h ∧ cycF gS b.ahead h m (m0 ++ [q]) q.1 = cycF gS b.ahead h k [p0] p0.1 ∧ m0.length + m ≤ us.length ∧ b.ahead q.2.1 = some q ∧ q.1 ∈ S ∧ ds = ⟨[.pu (inD cs.Years (yrFs us ps b es)), .pu (.str h), s2, .lo 0], [.lst ((m0 ++ [q]).map fun q => .str q.2.1)]⟩) k
          ⟨[], p0, it0, rfl, by rw [List.length_nil]; omega, by rw [e0]; exact hp0, srcS hS hp0, by show _ = (⟨_, [.lst [.str p0.2.1]]⟩ : D4); rw [e0]; rfl⟩ ?_) ?_
      · rintro m _ ⟨m0, q, e1, e2, le, eq, qS, rfl⟩
        have so1 := so _ (su _ qS)
        have hix : atI ((m0 ++ [q]).map fun q => PyData.str q.2.1) (-1) = some (.str q.2.1) := by rw [List.map_append]; exact atI_last _ _
        refine ⟨!decide (q.1 = h), et_view (l := 0) rfl rfl (et_is (et_test (ev_op (ev_kgS (by first | exact erk_fldO rfl rfl T.k_Years T.n_Years_own_ahead rfl rfl | exact Ev.rk (by first | exact ev_fldO rfl rfl T.k_Years T.n_Years_own_ahead rfl | exact ev_fld (ev_var rfl) T.k_Years T.n_Years_own_ahead rfl)) (ev_op (ev_var rfl) (ev_un ev_int ud_neg) (rd_ixL hix)) (hget eq)) (ev_var rfl) (by walk_at "ne"))) rfl), fun c => ?_, fun c => ?_⟩
        · have ne : q.1 ≠ h := by simpa using c
          obtain ⟨m', rfl⟩ : ∃ m', m = m' + 1 := ⟨m - 1, by
            cases m with
            | zero => exact absurd (Option.some.inj e1) ne
            | succ m => rfl⟩
          obtain ⟨r, hr, e1'⟩ := it_some e1
          have er : r.2.1 = q.1 := (hd _ _ hr).1
          refine sx_app1 (l := 0) rfl rfl (ev_view (l := 0) rfl rfl (ev_kgS (by first | exact erk_fldO rfl rfl T.k_Years T.n_Years_own_ahead rfl rfl | exact Ev.rk (by first | exact ev_fldO rfl rfl T.k_Years T.n_Years_own_ahead rfl | exact ev_fld (ev_var rfl) T.k_Years T.n_Years_own_ahead rfl)) (ev_op (ev_var rfl) (ev_un ev_int ud_neg) (rd_ixL hix)) (hget eq)) rfl) (by rw [List.length_map, List.length_append, List.length_singleton]; omega) ⟨m', Nat.lt_succ_self _, m0 ++ [q], r, e1', ?_, by rw [List.length_append, List.length_singleton]; omega, by rw [er]; exact hr, srcS qS hr, ?_⟩
          · rw [← e2, cyc_step ne hr]; rfl
          · rw [List.map_append (l₁ := m0 ++ [q])]
            show _ = (⟨_, [.lst (_ ++ [.str r.2.1])]⟩ : D4)
            rw [er]; rfl
        · obtain e : q.1 = h := by simpa using c
          rw [e, cyc_end] at e2
          show _ = _
          rw [e2]
      · rintro _ rfl
        refine sx_frz (l := 0) rfl rfl (Nat.zero_le _) (sx_retD (by first | exact ev_tupleT (k := .l) (EnL.ev (en_revL (ev_var rfl)))) ?_)
        unfold eTx
        rw [List.map_reverse, List.map_map]; rfl
theorem ok_ring_of (T : Fx K mg cs) : Ok Pr w K mg base "ring_of" 4 ["dig"] (spD K (rRingOf cs.Dig)) := by
  obtain ⟨f, fd, F, b, g⟩ := T.f_ring_of
  have c_Years_ring := ok_Years_ring (Pr := Pr) (w := w) (base := base) T
  have c_Years___init__ := ok_Years___init__ (Pr := Pr) (w := w) (base := base) T
  have c_Dig_units := ok_Dig_units (Pr := Pr) (w := w) (base := base) T
  have c_step_table := ok_step_table (Pr := Pr) (w := w) (base := base) T
  have c_Dig_rows := ok_Dig_rows (Pr := Pr) (w := w) (base := base) T
  refine ⟨f, fd, g, F.kp, b, fn_ok F sc_ring_of (fun xs d h => by obtain ⟨_, rfl, _⟩ := h; rfl) (fun cdv A outer s H E hr => ⟨_, (pss_one (ps_ret (pe_ownP c_Years_ring (hr.mono (by decide)) (pe_ownI c_Years___init__ (hr.mono (by decide)) (by rfl) (pa_cons (pe_ownP c_Dig_units (hr.mono (by decide)) (pv 0)) (pa_cons (pe_own c_step_table (hr.mono (by decide)) (by rfl) (pa_cons (pe_ownP c_Dig_rows (hr.mono (by decide)) (pv 0)) pa_nil)) (pa_cons (pe_ownP c_Dig_units (hr.mono (by decide)) (pv 0)) pa_nil))))))), fun xs d hR => ?_⟩)⟩
  obtain ⟨a0, rfl, hR⟩ := hR
  obtain ⟨g, ok, rfl, rfl⟩ := hR
  have hs : ∀ s ∈ g.rows.flatMap stepsR, s.1 ∈ g.units ∧ s.2.1 ∈ g.units := fun s hs => by
    obtain ⟨r, hr, h⟩ := List.mem_flatMap.mp hs
    exact ⟨(steps_in (ok.ok r hr) h).1, (steps_in (ok.ok r hr) h).2.1⟩
  have rl := ok.rle
  have l1 := tab_len (g.rows.flatMap stepsR)
  have l2 := steps_len g.rows
  have so : ∀ u ∈ g.units, SOk u := fun u hu => (ok.nm u hu).sok
  have hps := ps_in hs
  refine sx_retE (es_prop (es_makeF (eas_ea (ea_cons (ev_prop (ev_var rfl) (prop_units g)) (ea_cons (ev_call (ea_cons (ev_prop (ev_var rfl) (prop_rows g)) ea_nil) (⟨_, rfl, g.rows, rl, rfl, rfl⟩)) (ea_cons (ev_prop (ev_var rfl) (prop_units g)) ea_nil))) ⟨⟨g.units, tabF (g.rows.flatMap stepsR), ok.nd, so, ok.le, by omega, tab_mem hs⟩, _, rfl, rfl, rfl, fun r st' po => ?_⟩)))
  obtain ⟨rfl, j, es, kin, ah, hj, rfl⟩ := po
  refine ⟨rfl, _, rfl, _, ringD g, rfl, ⟨_, rfl, g.units, psT (tabF (g.rows.flatMap stepsR)), lapN gS (psT (tabF (g.rows.flatMap stepsR))) j, es, rfl, ok.le, so, ah, fun v hv => ?_, ?_⟩, _, rfl, rfl⟩
  · rcases hj with rfl | ⟨k, rfl, hk, hn⟩
    · obtain ⟨m, hm⟩ : ∃ m, g.units.length = m + 1 := ⟨g.units.length - 1, by have := ok.pos; omega⟩
      rw [hm] at hv ⊢
      obtain ⟨h1, h2, h3⟩ := lap_ring hps (n := m) (by omega) hv
      exact ⟨fun u p hp => ⟨(h1 u p hp).2, (hps p (h1 u p hp).1).1⟩, by obtain ⟨S, c1, c2, c3, c4⟩ := h3; exact ⟨S, c1, c2, hm ▸ c3, c4⟩⟩
    · rw [hn] at hv; cases hv
  · rcases hj with rfl | ⟨k, rfl, hk, hn⟩
    · rfl
    · obtain ⟨m, hm⟩ : ∃ m, g.units.length = k + 1 + m := ⟨g.units.length - (k + 1), by have hk' : k + 1 ≤ g.units.length := hk; omega⟩
      unfold ringD
      have e := (lap_stay hn m).1
      rw [← hm] at e
      unfold yRD
      rw [e, hn]
theorem ok_ring (T : Fx K mg cs) : Ok Pr w K mg base "ring" 5 ["dig"] (spD K (rRingOf cs.Dig)) := by
  obtain ⟨f, fd, F, b, g⟩ := T.f_ring
  have c_check_dig := ok_check_dig (Pr := Pr) (w := w) (base := base) T
  have c_ring_of := ok_ring_of (Pr := Pr) (w := w) (base := base) T
  refine ⟨f, fd, g, F.kp, b, fn_ok F sc_ring (fun xs d h => by obtain ⟨_, rfl, _⟩ := h; rfl) (fun cdv A outer s H E hr => ⟨_, (pss_cons (ps_expr (pe_own c_check_dig (hr.mono (by decide)) (by rfl) (pa_cons (pv 0) pa_nil)))
      (pss_one (ps_ret (pe_own c_ring_of (hr.mono (by decide)) (by rfl) (pa_cons (pv 0) pa_nil))))), fun xs d hR => ?_⟩)⟩
  obtain ⟨a0, rfl, hR⟩ := hR
  obtain ⟨g, ok, rfl, rfl⟩ := hR
  refine q_dropI (ev_call (ea_cons (ev_var rfl) ea_nil) (⟨_, rfl, g, rfl, rfl⟩)) ?_
  exact sx_retD (ev_call (ea_cons (ev_var rfl) ea_nil) (⟨_, rfl, g, ok, rfl, rfl⟩)) rfl
end
end L4
end

section
set_option Elab.async false
set_option linter.all false
set_option maxRecDepth 100000
set_option autoImplicit false
/-! Names unpacked from a list. -/
namespace L4
open PySem PyProof PyProof.Rows L2
section
variable {prog : Program} {w : World} {A : Around} {E : Value → Shared → Prop} {s : Shared}
theorem draw_list {it t : Addr} {items : Array Value} (hne : t ≠ it) : ∀ (n i : Nat) (s : Shared) (Q : List Value → Shared → Prop), s.heap.IsListIter it t i → s.heap.IsList t items → i + n ≤ items.size →
    (∀ h', Heap.IsListIter h' it t (i + n) → Heap.SameBut it s.heap h' → Q ((items.toList.drop i).take n) { s with heap := h' }) → wpAny (model prog w) A (draw (.ref it) n) Q E s
  | 0, i, s, Q, hit, _, _, hQ => by
    show wpAny _ _ (pure []) Q E s
    exact wpAny_pure (by simpa using hQ s.heap hit (Heap.SameBut.refl ..))
  | n + 1, i, s, Q, hit, ht, hle, hQ => by
    have hlt : i < items.size := by omega
    show wpAny _ _ (pyNext (.ref it) >>= _) Q E s
    refine wpAny_bind (wpAny_pyNext_list_item hit ht (x := items[i]) (by simp [hlt]) fun h₁ hit₁ hs₁ => ?_)
    refine wpAny_bind (wpAny_holding (draw_list hne n (i + 1) _ _ hit₁ (ht.extBut hs₁.extBut hne) (by omega) fun h₂ hit₂ hs₂ => wpAny_pure ?_))
    have hd : items.toList.drop i = items[i] :: items.toList.drop (i + 1) := by simp [List.drop_eq_getElem_cons, hlt]
    have := hQ h₂ (by rw [show i + (n + 1) = i + 1 + n by omega]; exact hit₂) (hs₁.trans hs₂)
    rw [hd, List.take_succ_cons] at this
    exact this
theorem unpackItems_list {t : Addr} {items : Array Value} {Q : List Value → Shared → Prop} (hh : A.handled = none) (ht : s.heap.IsList t items)
    (hQ : ∀ h', Heap.ExtBut s.heap.objs.size s.heap h' → Q items.toList { s with heap := h' }) : wpAny (model prog w) A (unpackItems (.ref t) items.size none) Q E s := by
  have hlt : t ≠ s.heap.objs.size := by obtain ⟨o, ho, _⟩ := ht; exact Nat.ne_of_lt (Heap.lt_size ho)
  unfold unpackItems
  refine wpAny_bind ?_
  · unfold notIterableAtAll
    refine wpAny_bind (wpAny_specialOf ht.typeIs slot_list_iter.lookup ?_)
    refine wpAny_pure ?_
    simp only [Bool.false_eq_true, if_false]
    refine wpAny_bind (wpAny_holding (wpAny_pyIter_list ht ?_))
    refine wpAny_bind (wpAny_holding (draw_list hlt items.size 0 _ _ ⟨_, Heap.get?_push_size _ rfl, rfl, rfl⟩ (ht.push _) (by omega) fun h₁ hit₁ hs₁ => ?_))
    have hall : List.take items.size (List.drop 0 items.toList) = items.toList := by
      rw [List.drop_zero]; exact List.take_of_length_le (by simp)
    rw [hall]
    rw [if_neg (by simp)]
    have ht₁ : Heap.IsList h₁ t items := (ht.push _).extBut hs₁.extBut hlt
    refine wpAny_bind (wpAny_holding (wpAny_pyNext_list_end hh hit₁ ht₁ (by simp) fun h₂ he₂ => ?_))
    simp only [Option.isSome_none, Bool.false_eq_true, if_false]
    refine wpAny_pure (hQ h₂ fun b o hb e => he₂ b o hb (hs₁.extBut b o hb (Heap.get?_push_of_some _ e)))
theorem assign_Tuple_list {env : Env} {elts : List Expr} {x1} {pos : Pos} {t : Addr} {items : Array Value} {Q : Unit → Shared → Prop} (hh : A.handled = none) (ht : s.heap.IsList t items)
    (hn : (assignEach elts env).length = items.size) (hstar : (assignEach elts env).findIdx? (·.1) = none)
    (h : ∀ h', Heap.ExtBut s.heap.objs.size s.heap h' → wpAny (model prog w) A (assignInOrder ((assignEach elts env).map (·.2)) items.toList) Q E { s with heap := h' }) :
    wpAny (model prog w) A (assign (.Tuple elts x1 pos) env (.ref t)) Q E s := by
  rw [assign_Tuple]
  refine wpAny_bind (wpAny_standAt ?_)
  unfold unpack
  rw [hn, hstar]
  exact wpAny_bind (wpAny_holding (unpackItems_list hh ht h))
end
section
variable {X : Cx} {pos : Pos}
/-- (a, b, ..) = a list of that length -/
def gTupL (K : PySem.W.Frag) (n : Nat) (t : TGs) : TG := fun v σ H Q => ∃ a xs, v = .ref a ∧ SqL K H a xs ∧ xs.length = n ∧ t xs σ H Q
theorem pg_tupL {es : List Expr} {k : Nat} {t : TGs} {n : Nat} (hc : X.calm = true) (h : PGs X es t)
    (hn : (assignEach es X.env).length = n := by rfl) (hst : (assignEach es X.env).findIdx? (·.1) = none := by rfl) : PG X (.Tuple es k pos) (gTupL X.K n t) := by
  refine ⟨fun pins s σ H v u Q I r hw => ?_⟩
  obtain ⟨a, xs, e1, hq, hl, hw⟩ := hw
  subst e1
  cases r
  obtain ⟨its, rv, ⟨o, nn, ho, hcl, hdi, hda⟩, hz⟩ := I.list hq
  have ht : s.heap.IsList a its.toArray := ⟨o, ho, hcl, nn, hda⟩
  refine assign_Tuple_list (I.ok.hd hc) ht (by simp [hn, ← hl, rv.length]) hst fun h' hx => ?_
  have I1 : Inv X pins σ H { s with heap := h' } := I.kept (t' := s.toks) fun b o e => hx b o (Nat.ne_of_lt (Heap.lt_size e)) e
  exact h.run pins _ σ H xs _ Q I1 (by simpa using rv) hw
theorem kg_tupL (K : PySem.W.Frag) {es : List Expr} {k : Nat} {t : TGs} {n : Nat} (hc : X.calm = true) (h : PGs X es t)
    (e : X.K = K := by rfl) (hn : (assignEach es X.env).length = n := by rfl) (hst : (assignEach es X.env).findIdx? (·.1) = none := by rfl) : PG X (.Tuple es k pos) (gTupL K n t) := e ▸ pg_tupL hc h hn hst
end
section
variable {K : PySem.W.Frag} {ds : D4} {x y : PyData} {xs : List PyData}
theorem tg_tupL {gs : TGs} {n : Nat} {js : List Nat} {ds' : D4} (h : Tgs K gs xs ds ds' js) (hn : xs.length = n := by rfl) : Tg K (gTupL K n gs) (.list xs) ds ds' js := fun W N σ H v adr S r Q q => by
  cases r with
  | @lst a vs _ hs r => exact ⟨a, vs, rfl, .inl (.inl (cut_ex _ _ hs)), by rw [r.length]; exact hn, h W N σ H vs adr S r Q q⟩
theorem tg1' {i : Nat} (hi : ds.sl[i]?.isSome = true) : Tg K (gName i) x ds (ds.set i (.pu x)) [i] := tg_name (lt_of_some hi)
theorem tg2L {i j : Nat} (hi : ds.sl[i]?.isSome = true := by rfl) (hj : ds.sl[j]?.isSome = true := by rfl) : Tg K (gTupL K 2 (gCons (gName i) (gCons (gName j) gNil))) (.list [x, y]) ds ((ds.set i (.pu x)).set j (.pu y)) ([i] ++ ([j] ++ [])) :=
  tg_tupL (tgs_cons (tg_name (lt_of_some hi)) (tgs_cons (tg_name (by rw [D4.set_length]; exact lt_of_some hj)) tgs_nil))
end
end L4
end

section
set_option Elab.async false
set_option linter.all false
set_option maxRecDepth 100000
set_option autoImplicit false
/-! A call whose first argument is a list that is read. -/
namespace L4
open PySem L2
section
variable {K : PySem.W.Frag} {ds : D4} {tr : TA} {ns xs : List PyData}
theorem es_callRl {ι : Type} {X : ι → List Sl} {Z : ι → List Ob} {Po : ι → Rs → List Ob → Prop} {E : XK} {P : Fv → D4 → Prop} {v : Nat} (i : ι) (h0 : ds.sl[v]? = some (.rl ns)) (hr : Ea K tr ds xs) (hX : X i = .rl ns :: xs.map .pu) (hZ : Z i = [])
    (k : ∀ r st', Po i r st' → match r with | .pu d => P (.pu d) ds | .nw os => P (.lo ds.st.length) ⟨ds.sl, ds.st ++ os.map (shOb ds.st.length)⟩) : Es K (tCall (spF K X Z Po) [] E (tCons (tVar v) tr)) ds P := fun B W0 M N H0 W σ H adr F Q q => by
  obtain ⟨a, us, e2, sq, ru⟩ := F.st.sl v _ h0
  refine ⟨.ref a, getD_of e2, ?_⟩
  refine hr W N σ H ⟨adr, F.st⟩ _ fun vs H1 e1 r1 => ?_
  have F1 := F.ex e1
  show spF K X Z Po ((.ref a :: vs) ++ []) H1 Q E
  rw [List.append_nil]
  refine ⟨i, W, [], X i, Z i, F1.st.al, List.nodup_nil, (fun a h => nomatch h), ?_, ?_, ⟨rfl, rfl⟩, fun w H2 r st' as po keep so rr => ?_⟩
  · rw [hX]
    refine ⟨by rw [List.length_cons, List.length_cons, List.length_map, r1.length], fun j u s h1 h2 => ?_⟩
    cases j with
    | zero =>
      cases h1
      cases h2
      exact SlOk.mono (cut_mono e1) (o := some (.ref a)) (s := .rl ns) ⟨a, us, rfl, sq, ru⟩
    | succ j =>
      have h2' : (xs.map Sl.pu)[j]? = some s := h2
      rw [List.getElem?_map] at h2'
      obtain ⟨d, hd, e⟩ := Option.map_eq_some_iff.mp h2'
      subst e
      obtain ⟨d2, hd2, r2⟩ := r1.get (i := j) h1
      rw [hd] at hd2
      cases hd2
      exact ⟨u, rfl, r2⟩
  · rw [hZ]
    exact ⟨rfl, fun l a o h1 h2 => by simp at h1⟩
  · have eH : Ex H1 H2 := fun b o hb => keep b o (fun z => nomatch z) hb
    have hpp := k r st' po
    cases r with
    | pu d =>
      obtain ⟨rfl, r⟩ := rr
      exact q w H2 W adr (.pu d) ds hpp (List.prefix_refl _) (F.ex (e1.trans eH)) r
    | nw os =>
      obtain ⟨a', ev, h0', nas, g⟩ := rr
      refine q w H2 (as ++ W) (adr ++ as) (.lo ds.st.length) _ hpp (List.prefix_append _ _) ?_ ⟨a', by rw [← F.st.la, List.getElem?_append_right (Nat.le_refl _), Nat.sub_self]; exact h0', ev⟩
      have nas' : ∀ b ∈ as, H b = none := fun b hb => by
        cases z : H b with
        | none => rfl
        | some o => have := e1 b o z; rw [nas b hb] at this; cases this
      exact F.grow nas' (e1.trans eH) g
theorem ev_callRl {ι : Type} {X : ι → List Sl} {Z : ι → List Ob} {Po : ι → Rs → List Ob → Prop} {E : XK} {v : Nat} {d : PyData} (i : ι) (h0 : ds.sl[v]? = some (.rl ns)) (hr : Ea K tr ds xs) (hX : X i = .rl ns :: xs.map .pu) (hZ : Z i = [])
    (k : ∀ r st', Po i r st' → r = .pu d) : Ev K (tCall (spF K X Z Po) [] E (tCons (tVar v) tr)) ds d := fun W N σ H S Q q => by
  obtain ⟨adr, S⟩ := S
  obtain ⟨a, us, e2, sq, ru⟩ := S.sl v _ h0
  refine ⟨.ref a, getD_of e2, ?_⟩
  refine hr W N σ H ⟨adr, S⟩ _ fun vs H1 e1 r1 => ?_
  show spF K X Z Po ((.ref a :: vs) ++ []) H1 Q E
  rw [List.append_nil]
  refine ⟨i, W, [], X i, Z i, S.al.mono e1, List.nodup_nil, (fun a h => nomatch h), ?_, ?_, ⟨rfl, rfl⟩, fun w H2 r st' as po keep so rr => ?_⟩
  · rw [hX]
    refine ⟨by rw [List.length_cons, List.length_cons, List.length_map, r1.length], fun j u s h1 h2 => ?_⟩
    cases j with
    | zero =>
      cases h1
      cases h2
      exact SlOk.mono (cut_mono e1) (o := some (.ref a)) (s := .rl ns) ⟨a, us, rfl, sq, ru⟩
    | succ j =>
      have h2' : (xs.map Sl.pu)[j]? = some s := h2
      rw [List.getElem?_map] at h2'
      obtain ⟨d, hd, e⟩ := Option.map_eq_some_iff.mp h2'
      subst e
      obtain ⟨d2, hd2, r2⟩ := r1.get (i := j) h1
      rw [hd] at hd2
      cases hd2
      exact ⟨u, rfl, r2⟩
  · rw [hZ]
    exact ⟨rfl, fun l a o h1 h2 => by simp at h1⟩
  · have eH : Ex H1 H2 := fun b o hb => keep b o (fun z => nomatch z) hb
    have e := k r st' po
    subst e
    obtain ⟨rfl, r⟩ := rr
    exact q w H2 (e1.trans eH) r
end
end L4
end

section
set_option Elab.async false
set_option linter.all false
set_option maxRecDepth 100000
set_option autoImplicit false
/-! What a law draws from its script. -/
namespace L4
open PySem L2 PyProof
def PotOk (n : Nat) (p : List PyData) : Prop := ∃ a b c : Int, p = [.int a, .int b, .int c] ∧ 0 ≤ a ∧ 0 ≤ b ∧ b < 2305843009213693951 ∧ 0 ≤ c ∧ c ≤ (n : Int)
theorem PotOk.mono {n m : Nat} {p : List PyData} (h : PotOk n p) (l : n ≤ m) : PotOk m p := by
  obtain ⟨a, b, c, e, h1, h2, h3, h4, h5⟩ := h
  exact ⟨a, b, c, e, h1, h2, h3, h4, by omega⟩
structure PtI where
  is : List Int
  p : Nat
  hp : p < 3
def ptX (i : PtI) : List Sl := [.rl (i.is.map .int), .pu (nat i.p)]
def ptPo (_ : PtI) (r : Rs) (st' : List Ob) : Prop := ∃ p, PotOk 0 p ∧ r = .nw [.lst p] ∧ st' = []
structure TpI where
  p : List PyData
  n : Nat
  u : Nat
  ok : PotOk n p
  hn : n ≤ 1000
  h1 : 1 ≤ u
  h2 : u ≤ 1000
def tpX (i : TpI) : List Sl := [.lo 0, .pu (nat i.u)]
def tpZ (i : TpI) : List Ob := [.lst i.p]
def tpPo (i : TpI) (r : Rs) (st' : List Ob) : Prop := ∃ (k : Nat) (p' : List PyData), k < i.u ∧ PotOk (i.n + 1) p' ∧ r = .pu (nat k) ∧ st' = [.lst p']
structure OfI where
  p : List PyData
  n : Nat
  xs : List PyData
  ok : PotOk n p
  hn : n ≤ 1000
  h1 : 1 ≤ xs.length
  h2 : xs.length ≤ 1000
def ofX (i : OfI) : List Sl := [.lo 0, .pu (.list i.xs)]
def ofZ (i : OfI) : List Ob := [.lst i.p]
def ofPo (i : OfI) (r : Rs) (st' : List Ob) : Prop := ∃ (x : PyData) (p' : List PyData), x ∈ i.xs ∧ PotOk (i.n + 1) p' ∧ r = .pu x ∧ st' = [.lst p']
structure SmI where
  p : List PyData
  n : Nat
  pool : List Str
  m : Nat
  ok : PotOk n p
  hm : m ≤ pool.length
  hp : pool.length ≤ 900
  hn : n + m ≤ 1000
def smX (i : SmI) : List Sl := [.lo 0, .pu (.list (i.pool.map .str)), .pu (nat i.m)]
def smZ (i : SmI) : List Ob := [.lst i.p]
def smPo (i : SmI) (r : Rs) (st' : List Ob) : Prop := ∃ (found left : List Str) (p' : List PyData), found.length = i.m ∧ (found ++ left).Perm i.pool ∧ PotOk (i.n + i.m) p' ∧ r = .pu (.list (found.map .str)) ∧ st' = [.lst p']
def cellsN (n : Nat) : Int := if (if (n : Int) < 3 then (n : Int) else 3) > 1 then (if (n : Int) < 3 then (n : Int) else 3) else 1
theorem cells_n (n : Nat) : 1 ≤ cellsN n ∧ cellsN n ≤ 3 := by
  unfold cellsN
  split <;> split at * <;> omega
def clX (ns : List PyData) : List Sl := [.rl ns, .pu (.int 3)]
def clPo (ns : List PyData) (r : Rs) (st' : List Ob) : Prop := r = .pu (.list (intsTo (cellsN ns.length).toNat)) ∧ st' = []
theorem b01 (b : Bool) : -(2 ^ 64) < (if b then (1 : Int) else 0) ∧ (if b then (1 : Int) else 0) < 2 ^ 64 := by cases b <;> decide
theorem b01n (b : Bool) : 0 ≤ (if b then (1 : Int) else 0) := by cases b <;> decide
def primes : List PyData := [.int 2147483647, .int 2147483629, .int 2147483587, .int 2147483579, .int 2147483563]
theorem primes_at {c : Int} (h : 0 ≤ c) : ∃ p, atI primes (c % 5) = some (.int p) ∧ 0 < p ∧ p < 2147483648 := by
  have : c % 5 = 0 ∨ c % 5 = 1 ∨ c % 5 = 2 ∨ c % 5 = 3 ∨ c % 5 = 4 := by omega
  rcases this with z | z | z | z | z <;> rw [z]
  · exact ⟨_, rfl, by decide, by decide⟩
  · exact ⟨_, rfl, by decide, by decide⟩
  · exact ⟨_, rfl, by decide, by decide⟩
  · exact ⟨_, rfl, by decide, by decide⟩
  · exact ⟨_, rfl, by decide, by decide⟩
theorem pot_bits {k b c m : Int} (hk : 0 ≤ k ∧ k ≤ 100000) (hm : 0 ≤ m ∧ m ≤ 100000) (hb : 0 ≤ b) (hb1 : b < 2305843009213693951) (hc : 0 ≤ c) (hc1 : c ≤ 1001) : 0 ≤ b + k * c * c + m ∧ b + k * c * c + m < 2 ^ 62 := by
  have h1 : k * c ≤ 100000 * 1001 := Int.mul_le_mul hk.2 hc1 hc (by omega)
  have h0 : 0 ≤ k * c := Int.mul_nonneg hk.1 hc
  have h2 : k * c * c ≤ 100000 * 1001 * 1001 := Int.mul_le_mul h1 hc1 hc (by omega)
  have h3 : 0 ≤ k * c * c := Int.mul_nonneg h0 hc
  omega
theorem pot_pow {k : Int} (h : 0 ≤ k ∧ k < 2 ^ 62) : (PySem.Builtin.Int.intBits k : Int) * 3 ≤ 2 ^ 27 := by
  have := intBits_le_64 (k := k) (by omega) (by omega)
  omega
/-- what a take gives -/
theorem es_take {K : PySem.W.Frag} {ds : D4} {tr : TA} {E : XK} {P : Fv → D4 → Prop} {v l u n : Nat} {p : List PyData} (h : ds.sl[v]? = some (.lo l)) (h' : ds.st[l]? = some (.lst p)) (hu : Ea K tr ds [nat u]) (ok : PotOk n p) (hn : n ≤ 1000) (h1 : 1 ≤ u) (h2 : u ≤ 1000)
    (k : ∀ (j : Nat) (p' : List PyData), j < u → PotOk (n + 1) p' → P (.pu (nat j)) (ds.put l (.lst p'))) : Es K (tCall (spF K tpX tpZ tpPo) [] E (tCons (tVar v) tr)) ds P :=
  es_callL (l := l) ⟨p, n, u, ok, hn, h1, h2⟩ [l] h hu rfl rfl (List.pairwise_singleton _ _) rfl ⟨⟨rfl, rfl, h'⟩, trivial⟩ fun r st' po _ => by
    obtain ⟨j, p', hj, ok', rfl, rfl⟩ := po
    exact k j p' hj ok'
theorem es_some {K : PySem.W.Frag} {ds : D4} {tr : TA} {E : XK} {P : Fv → D4 → Prop} {v l n m : Nat} {p : List PyData} {pool : List Str} (h : ds.sl[v]? = some (.lo l)) (h' : ds.st[l]? = some (.lst p)) (hu : Ea K tr ds [.list (pool.map .str), nat m]) (ok : PotOk n p) (hm : m ≤ pool.length) (hp : pool.length ≤ 900) (hn : n + m ≤ 1000)
    (k : ∀ (found left : List Str) (p' : List PyData), found.length = m → (found ++ left).Perm pool → PotOk (n + m) p' → P (.pu (.list (found.map .str))) (ds.put l (.lst p'))) : Es K (tCall (spF K smX smZ smPo) [] E (tCons (tVar v) tr)) ds P :=
  es_callL (l := l) ⟨p, n, pool, m, ok, hm, hp, hn⟩ [l] h hu rfl rfl (List.pairwise_singleton _ _) rfl ⟨⟨rfl, rfl, h'⟩, trivial⟩ fun r st' po _ => by
    obtain ⟨f, left, p', h1, h2, h3, rfl, rfl⟩ := po
    exact k f left p' h1 h2 h3
theorem perm_erase : ∀ {l : List Str} {k : Nat} {x : Str}, l[k]? = some x → (x :: l.eraseIdx k).Perm l
  | [], k, x, h => by simp at h
  | y :: l, 0, x, h => by
    have e : y = x := by simpa using h
    subst e
    exact List.Perm.refl _
  | y :: l, k + 1, x, h => by
    have h' : l[k]? = some x := by simpa using h
    exact (List.Perm.swap y x _).trans ((perm_erase h').cons y)
theorem erase_map : ∀ (l : List Str) (k : Nat), (l.map PyData.str).eraseIdx k = (l.eraseIdx k).map .str
  | [], k => rfl
  | y :: l, 0 => rfl
  | y :: l, k + 1 => by
    show PyData.str y :: (l.map PyData.str).eraseIdx k = _
    rw [erase_map l k]; rfl
end L4
end

section
set_option Elab.async false
set_option linter.all false
set_option maxRecDepth 100000
set_option maxHeartbeats 1000000
set_option autoImplicit false
namespace L4
open PySem L2
section
variable {Pr : Program} {w : World} {K : PySem.W.Frag} {mg : Str → Option Value} {base : Heap} {cs : Cs}
local macro_rules
  | `(tactic| walk_at "sh") => `(tactic| first | exact rfl | assumption | exact sh_str (by first | assumption | decide +kernel) | decide +kernel)
local macro_rules
  | `(tactic| walk_at "ix") => `(tactic| first | exact rd_ixT rfl | exact rd_ixL rfl | exact rd_ixT (by assumption) | exact rd_ixL (by assumption) | exact rd_ixT (atI_nat (by assumption)) | exact rd_ixL (atI_nat (by assumption)))
local macro_rules
  | `(tactic| walk_at "add") => `(tactic| first | exact rd_addI | exact rd_addS (by first | assumption | decide) | exact rd_addT (by first | assumption | exact Nat.le_of_ble_eq_true rfl) | exact rd_addL (by first | assumption | exact Nat.le_of_ble_eq_true rfl))
local macro_rules
  | `(tactic| walk_at "mul") => `(tactic| first | exact rd_mul (.inl (by decide)) | exact rd_mul (.inr (by decide)) | exact rd_mul (.inl (by omega)) | exact rd_mul (.inr (by omega)))
local macro_rules
  | `(tactic| walk_at "mod") => `(tactic| exact rd_mod (by first | decide | omega))
local macro_rules
  | `(tactic| walk_at "div") => `(tactic| exact rd_div ⟨by first | decide | omega, by first | decide | omega⟩)
local macro_rules
  | `(tactic| walk_at "eq") => `(tactic| exact rd_eq (by walk_at "sh") (by walk_at "sh"))
local macro_rules
  | `(tactic| walk_at "ne") => `(tactic| exact rd_ne (by walk_at "sh") (by walk_at "sh"))
local macro_rules
  | `(tactic| walk_at "in") => `(tactic| first | exact rd_inT (by walk_at "sh") (by walk_at "sh") | exact rd_inL (by walk_at "sh") (by walk_at "sh"))
local macro_rules
  | `(tactic| walk_at "nin") => `(tactic| first | exact rd_ninT (by walk_at "sh") (by walk_at "sh") | exact rd_ninL (by walk_at "sh") (by walk_at "sh"))
local macro_rules
  | `(tactic| walk_at "cd") => `(tactic| first | exact cd_lenT | exact cd_lenL | exact cd_intI | exact cd_sS | exact cd_sI (by assumption) | exact cd_lenS (by assumption) | exact cd_intB)
theorem ok__law_pot (T : Fx K mg cs) : Ok Pr w K mg base "_law_pot" 1 ["script", "place"] (spF K ptX (fun _ => []) ptPo) := by
  obtain ⟨f, fd, F, b, g⟩ := T.f__law_pot
  refine ⟨f, fd, g, F.kp, b, fn_okF F sc__law_pot (fun i => rfl) (fun cdv A outer s H E hr => ⟨_, (pss_cons (ps_set (i := 2) sc__law_pot.nd rfl (.inl rfl) (pe_ifExp (pt_cmpR (ko_lt K (u0 hr)) (pv 1) (pe_callB (kc_len K) (by rfl) T.b_len bt_len (pa_cons (pv 0) pa_nil)) (nomark _)) (pe_ix (ki_seq K) (pv 0) (pv 1) (fun _ _ => rfl)) (pe_op (ko_add K) (pe_op (ko_add K) (pe_op op_mod (pe_callB (kc_sum K rfl) (by rfl) T.b_sum bt_sum (pa_cons (pe_slice (ks_g K) (pv 0) po_none (po_some pe_int)) pa_nil)) pe_int) (pe_op op_gMul pe_int (pv 1))) pe_int)))
      (pss_cons (ps_set (i := 3) sc__law_pot.nd rfl (.inl rfl) (pe_op op_gMul (pe_op op_mod (pe_callTy cr_gInt (by rfl) T.b_int bt_int (pa_cons (pe_callB call_abs (by rfl) T.b_abs bt_abs (pa_cons (pv 2) pa_nil)) pa_nil)) (pe_op op_gPow (pe_op op_gPow pe_int pe_int) pe_int)) (pe_callTy cr_gInt (by rfl) T.b_int bt_int (pa_cons (pe_cmpR op_ge (pe_callB call_abs (by rfl) T.b_abs bt_abs (pa_cons (pv 2) pa_nil)) (pe_op op_gPow pe_int pe_int) (nomark _)) pa_nil))))
      (pss_cons (ps_set (i := 4) sc__law_pot.nd rfl (.inl rfl) (pe_op op_mod (pe_callTy cr_gInt (by rfl) T.b_int bt_int (pa_cons (pv 2) pa_nil)) pe_int))
      (pss_one (ps_ret (pe_lst (pa_cons (pv 3) (pa_cons (pe_op op_mod (pe_callTy cr_gInt (by rfl) T.b_int bt_int (pa_cons (pe_op (ko_add K) (pe_op (ko_add K) (pe_op op_gMul (pv 4) pe_int) (pe_op op_gMul (pe_op op_gMul pe_int (pv 1)) (pv 1))) pe_int) pa_nil)) pe_int) (pa_cons pe_int pa_nil))))))))), fun i => ?_⟩)⟩
  obtain ⟨is, p, hp⟩ := i
  refine q_setX (Q := fun d => ∃ c : Int, d = .int c) ?_ ?_
  · by_cases h' : p < is.length
    · refine ⟨_, ev_if (b := true) (et_is (et_test (ev_op (ev_var rfl) (ev_lenR (er_rl rfl)) rd_ltI)) (by show decide (((p : Nat) : Int) < ((is.map PyData.int).length : Nat)) = true; rw [List.length_map]; exact decide_eq_true (by omega))) (fun _ => ev_ixR (er_rl rfl) (ev_var rfl) (atI_nat (v := PyData.int is[p]) (by rw [List.getElem?_map, List.getElem?_eq_getElem h']; rfl))) (fun e => nomatch e), _, rfl⟩
    · refine ⟨_, ev_if (b := false) (et_is (et_test (ev_op (ev_var rfl) (ev_lenR (er_rl rfl)) rd_ltI)) (by show decide (((p : Nat) : Int) < ((is.map PyData.int).length : Nat)) = false; rw [List.length_map]; exact decide_eq_false (by omega))) (fun e => nomatch e) (fun _ => ev_op (ev_op (ev_op (ev_sum (ns := is.take 1) ((en_slR (er_rl rfl) eo_none (eo_some ev_int)).rl.is ?_)) ev_int (rd_mod (by decide))) (ev_op ev_int (ev_var rfl) (rd_mul (.inl (by decide)))) rd_addI) ev_int rd_addI), _, rfl⟩
      rw [show (1 : Int) = ((1 : Nat) : Int) from rfl, cutD_to, List.map_take]
  rintro _ ⟨cell, rfl⟩
  refine q_set (ev_op (ev_op (ev_cb (ea_cons (ev_cb (ea_cons (ev_var rfl) ea_nil) cd_abs) ea_nil) cd_intI) (ev_op (ev_op ev_int ev_int (rd_pow ⟨by decide, by decide +kernel⟩)) ev_int (rd_pow ⟨by decide, by decide +kernel⟩)) (rd_mod (by decide +kernel)))
      (ev_cb (ea_cons (ev_op (ev_cb (ea_cons (ev_var rfl) ea_nil) cd_abs) (ev_op ev_int ev_int (rd_pow ⟨by decide, by decide +kernel⟩)) rd_ge) ea_nil) cd_intB) (rd_mul (.inr (b01 _)))) ?_
  refine q_set (ev_op (ev_cb (ea_cons (ev_var rfl) ea_nil) cd_intI) ev_int (rd_mod (by decide))) ?_
  refine sx_retN (EnL.ek (en_lst (ea_cons (ev_var rfl) (ea_cons (ev_op (ev_cb (ea_cons (ev_op (ev_op (ev_op (ev_var rfl) ev_int (rd_mul (.inr (by decide)))) (ev_op (ev_op ev_int (ev_var rfl) (rd_mul (.inl (by decide)))) (ev_var rfl) (rd_mul (.inr (by show -(2 ^ 64) < ((p : Nat) : Int) ∧ ((p : Nat) : Int) < 2 ^ 64; omega)))) rd_addI) ev_int rd_addI) ea_nil) cd_intI) ev_int (rd_mod (by decide))) (ea_cons ev_int ea_nil))) (by show 3 ≤ 100000; decide))) ⟨(fun o ho => nomatch ho), _, ⟨_, _, _, rfl, ?_, Int.emod_nonneg _ (by decide), ?_, Int.le_refl _, Int.le_refl _⟩, rfl, rfl⟩
  · refine Int.mul_nonneg (Int.emod_nonneg _ (by decide +kernel)) ?_
    exact b01n _
  · exact Int.lt_trans (Int.emod_lt_of_pos _ (by decide)) (by decide)
theorem ok__law_take (T : Fx K mg cs) : Ok Pr w K mg base "_law_take" 1 ["pot", "upto"] (spF K tpX tpZ tpPo) := by
  obtain ⟨f, fd, F, b, g⟩ := T.f__law_take
  refine ⟨f, fd, g, F.kp, b, fn_okF F sc__law_take (fun i => rfl) (fun cdv A outer s H E hr => ⟨_, (pss_cons (ps_if (pt_cmpR op_gt (pe_ix (ki_seq K) (pv 0) pe_int (fun _ _ => rfl)) pe_int (nomark _)) (pss_cons (ps_set (i := 2) sc__law_take.nd rfl (.inl rfl) (pe_op op_mod (pe_callTy cr_gInt (by rfl) T.b_int bt_int (pa_cons (pe_ix (ki_seq K) (pv 0) pe_int (fun _ _ => rfl)) pa_nil)) (pv 1)))
      (pss_cons (ps_asg (pe_op op_fdiv (pe_ix (ki_seq K) (pv 0) pe_int (fun _ _ => rfl)) (pv 1)) (pg_sub (pv 0) pe_int set_list))
      (pss_one (ps_ret (pv 2))))) pss_nil)
      (pss_cons (ps_asg (pe_op (ko_add K) (pe_ix (ki_seq K) (pv 0) pe_int (fun _ _ => rfl)) pe_int) (pg_sub (pv 0) pe_int set_list))
      (pss_cons (ps_set (i := 3) sc__law_take.nd rfl (.inl rfl) (pe_ix (ki_seq K) (pe_lst (pa_cons pe_int (pa_cons pe_int (pa_cons pe_int (pa_cons pe_int (pa_cons pe_int pa_nil)))))) (pe_op op_mod (pe_callTy cr_gInt (by rfl) T.b_int bt_int (pa_cons (pe_ix (ki_seq K) (pv 0) pe_int (fun _ _ => rfl)) pa_nil)) pe_int) (fun _ _ => rfl)))
      (pss_cons (ps_set (i := 4) sc__law_take.nd rfl (.inl rfl) (pe_op op_mod (pe_callTy cr_gInt (by rfl) T.b_int bt_int (pa_cons (pe_op op_gPow (pe_callTy cr_gInt (by rfl) T.b_int bt_int (pa_cons (pe_op (ko_add K) (pe_op (ko_add K) (pe_ix (ki_seq K) (pv 0) pe_int (fun _ _ => rfl)) (pe_op op_gMul (pe_op op_gMul pe_int (pe_ix (ki_seq K) (pv 0) pe_int (fun _ _ => rfl))) (pe_ix (ki_seq K) (pv 0) pe_int (fun _ _ => rfl)))) pe_int) pa_nil)) pe_int) pa_nil)) (pv 3)))
      (pss_cons (ps_set (i := 4) sc__law_take.nd rfl (.inl rfl) (pe_op op_mod (pe_callTy cr_gInt (by rfl) T.b_int bt_int (pa_cons (pe_op op_gMul (pv 4) (pe_op (ko_add K) (pe_op op_mod (pe_callTy cr_gInt (by rfl) T.b_int bt_int (pa_cons (pv 4) pa_nil)) pe_int) (pe_op op_gMul pe_int (pe_ix (ki_seq K) (pv 0) pe_int (fun _ _ => rfl))))) pa_nil)) pe_int))
      (pss_one (ps_ret (pe_op op_mod (pe_callTy cr_gInt (by rfl) T.b_int bt_int (pa_cons (pe_op op_fdiv (pv 4) pe_int) pa_nil)) (pv 1))))))))), fun i => ?_⟩)⟩
  obtain ⟨p, n, u, ⟨a, b, c, rfl, ha, hb0, hb1, hc0, hc1⟩, hn, hu1, hu2⟩ := i
  by_cases z : 0 < a
  · refine q_yesI (et_view (l := 0) rfl rfl (et_test (ev_op (ev_op (ev_var rfl) ev_int (rd_ixL rfl)) ev_int rd_gt))) (decide_eq_true z) ?_
    refine q_set (ev_view (l := 0) rfl rfl (ev_op (ev_cb (ea_cons (ev_op (ev_var rfl) ev_int (rd_ixL rfl)) ea_nil) (by walk_at "cd")) (ev_var rfl) (rd_mod (by show (0 : Int) < (u : Nat); omega))) rfl) ?_
    refine sx_seq1 (sx_setI (j := 0) (es_ev (ev_view (l := 0) rfl rfl (ev_op (ev_op (ev_var rfl) ev_int (rd_ixL rfl)) (ev_var rfl) (rd_div ⟨by show (0 : Int) < (u : Nat); omega, by show ((u : Nat) : Int) < _; omega⟩)) rfl) ⟨_, rfl, es_lo (l := 0) rfl ⟨0, _, rfl, rfl, ev_int, by show 0 < 3; decide, rfl⟩⟩)) ?_
    have h0 : 0 ≤ a % (u : Int) := Int.emod_nonneg _ (by omega)
    have h1 : a % (u : Int) < u := Int.emod_lt_of_pos _ (by omega)
    exact sx_ret (ev_var rfl) ⟨fun o ho => by rw [List.mem_singleton.mp ho]; exact ⟨rfl, rfl⟩, (a % (u : Int)).toNat, _, by show _ < u; omega, ⟨_, _, _, rfl, Int.ediv_nonneg ha (by omega), hb0, hb1, hc0, by show c ≤ ((n + 1 : Nat) : Int); omega⟩, congrArg (fun z => Rs.pu (.int z)) (Int.toNat_of_nonneg h0).symm, rfl⟩
  · refine q_noI (et_view (l := 0) rfl rfl (et_test (ev_op (ev_op (ev_var rfl) ev_int (rd_ixL rfl)) ev_int rd_gt))) (decide_eq_false z) ?_
    refine sx_seq1 (sx_setI (j := 2) (es_ev (ev_view (l := 0) rfl rfl (ev_op (ev_op (ev_var rfl) ev_int (rd_ixL rfl)) ev_int (rd_addI)) rfl) ⟨_, rfl, es_lo (l := 0) rfl ⟨0, _, rfl, rfl, ev_int, by show 2 < 3; decide, rfl⟩⟩)) ?_
    obtain ⟨pr, hpr, p0, p1⟩ := primes_at (c := c + 1) (by omega)
    refine q_setI (d := .int pr) (ev_view (l := 0) rfl rfl (ev_op (ev_lstA (ea_cons ev_int (ea_cons ev_int (ea_cons ev_int (ea_cons ev_int (ea_cons ev_int ea_nil))))) rfl) (ev_op (ev_cb (ea_cons (ev_op (ev_var rfl) ev_int (rd_ixL rfl)) ea_nil) (by walk_at "cd")) ev_int (rd_mod (by decide))) (rd_ixL hpr)) rfl) rfl ?_ rfl
    refine q_set (ev_view (l := 0) rfl rfl (ev_op (ev_cb (ea_cons (ev_op (ev_cb (ea_cons (ev_op (ev_op (ev_op (ev_var rfl) ev_int (rd_ixL rfl)) (ev_op (ev_op ev_int (ev_op (ev_var rfl) ev_int (rd_ixL rfl)) (rd_mul (.inl (by decide)))) (ev_op (ev_var rfl) ev_int (rd_ixL rfl)) (rd_mul (.inr (by omega)))) (rd_addI)) ev_int (rd_addI)) ea_nil) (by walk_at "cd")) ev_int (rd_pow ⟨by decide, pot_pow (pot_bits ⟨by decide, by decide⟩ ⟨by decide, by decide⟩ hb0 hb1 (by omega) (by omega))⟩)) ea_nil) (by walk_at "cd")) (ev_var rfl) (rd_mod p0)) rfl) ?_
    generalize (b + _ * (c + 1) * (c + 1) + _) ^ (3 : Int).toNat = w3
    have g0 : 0 ≤ w3 % pr := Int.emod_nonneg _ (by omega)
    have g1 : w3 % pr < pr := Int.emod_lt_of_pos _ p0
    refine q_set (ev_view (l := 0) rfl rfl (ev_op (ev_cb (ea_cons (ev_op (ev_var rfl) (ev_op (ev_op (ev_cb (ea_cons (ev_var rfl) ea_nil) (by walk_at "cd")) ev_int (rd_mod (by decide))) (ev_op ev_int (ev_op (ev_var rfl) ev_int (rd_ixL rfl)) (rd_mul (.inl (by decide)))) (rd_addI)) (rd_mul (.inl (by show -(2 ^ 64) < w3 % pr ∧ w3 % pr < 2 ^ 64; omega)))) ea_nil) (by walk_at "cd")) ev_int (rd_mod (by decide))) rfl) ?_
    refine sx_ret (ev_op (ev_cb (ea_cons (ev_op (ev_var rfl) ev_int (rd_div ⟨by decide, by decide⟩)) ea_nil) (by walk_at "cd")) (ev_var rfl) (rd_mod (by show (0 : Int) < (u : Nat); omega))) ⟨fun o ho => by rw [List.mem_singleton.mp ho]; exact ⟨rfl, rfl⟩, ?_⟩
    generalize (_ / 9973 : Int) = w4
    have h0 : 0 ≤ w4 % (u : Int) := Int.emod_nonneg _ (by omega)
    have h1 : w4 % (u : Int) < u := Int.emod_lt_of_pos _ (by omega)
    exact ⟨(w4 % (u : Int)).toNat, _, by show _ < u; omega, ⟨_, _, _, rfl, ha, hb0, hb1, by omega, by show c + 1 ≤ ((n + 1 : Nat) : Int); omega⟩, congrArg (fun z => Rs.pu (.int z)) (Int.toNat_of_nonneg h0).symm, rfl⟩
theorem ok__law_of (T : Fx K mg cs) : Ok Pr w K mg base "_law_of" 2 ["pot", "some"] (spF K ofX ofZ ofPo) := by
  obtain ⟨f, fd, F, b, g⟩ := T.f__law_of
  have c__law_take := ok__law_take (Pr := Pr) (w := w) (base := base) T
  refine ⟨f, fd, g, F.kp, b, fn_okF F sc__law_of (fun i => rfl) (fun cdv A outer s H E hr => ⟨_, (pss_one (ps_ret (pe_ix (ki_seq K) (pv 1) (pe_own c__law_take (hr.mono (by decide)) (by rfl) (pa_cons (pv 0) (pa_cons (pe_callB (kc_len K) (by rfl) T.b_len bt_len (pa_cons (pv 1) pa_nil)) pa_nil))) (fun _ _ => rfl)))), fun i => ?_⟩)⟩
  obtain ⟨p, n, xs, ok, hn, h1, h2⟩ := i
  refine sx_retE (es_op (P1 := fun f ds1 => f = .pu (.list xs) ∧ ds1 = ⟨[.lo 0, .pu (.list xs)], [.lst p]⟩) (es_ev (ev_var rfl) ⟨rfl, rfl⟩) ?_)
  rintro _ _ ⟨rfl, rfl⟩
  refine ⟨_, rfl, es_take (l := 0) (u := xs.length) rfl rfl (ea_cons (ev_cb (ea_cons (ev_var rfl) ea_nil) (by walk_at "cd")) ea_nil) ok hn h1 h2 fun j p' hj ok' => ?_⟩
  refine ⟨_, xs[j], rfl, rd_ixL (atI_nat (List.getElem?_eq_getElem hj)), _, rfl, fun o ho => by rw [List.mem_singleton.mp ho]; exact ⟨rfl, rfl⟩, xs[j], p', List.getElem_mem hj, ok', rfl, rfl⟩
theorem ok__law_cells (T : Fx K mg cs) : Ok Pr w K mg base "_law_cells" 1 ["script", "most"] (spF K clX (fun _ => []) clPo) := by
  obtain ⟨f, fd, F, b, g⟩ := T.f__law_cells
  refine ⟨f, fd, g, F.kp, b, fn_okF F sc__law_cells (fun i => rfl) (fun cdv A outer s H E hr => ⟨_, (pss_one (ps_ret (pe_listRg rfl (by rfl) T.b_list (prg_1 (by rfl) T.b_range (pe_callB (call_max2 rfl) (by rfl) T.b_max bt_max (pa_cons pe_int (pa_cons (pe_callB (call_min2 rfl) (by rfl) T.b_min bt_min (pa_cons (pv 1) (pa_cons (pe_callB (kc_len K) (by rfl) T.b_len bt_len (pa_cons (pv 0) pa_nil)) pa_nil))) pa_nil))))))), fun i => ?_⟩)⟩
  have h := cells_n i.length
  exact sx_ret (EnL.ev (en_listRg (ev_cb (ea_cons ev_int (ea_cons (ev_cb (ea_cons (ev_var rfl) (ea_cons (ev_lenR (er_rl rfl)) ea_nil)) cd_min2) ea_nil)) cd_max2) (show 0 ≤ cellsN i.length by omega) (show cellsN i.length ≤ 100000 by omega))) ⟨(fun o ho => nomatch ho), rfl, rfl⟩
theorem ok__law_some (T : Fx K mg cs) : Ok Pr w K mg base "_law_some" 2 ["pot", "pool", "amount"] (spF K smX smZ smPo) := by
  obtain ⟨f, fd, F, b, g⟩ := T.f__law_some
  have c__law_take := ok__law_take (Pr := Pr) (w := w) (base := base) T
  refine ⟨f, fd, g, F.kp, b, fn_okF F sc__law_some (fun i => rfl) (fun cdv A outer s H E hr => ⟨_, (pss_cons (ps_par (i := 3) (j := 4) rfl sc__law_some.nd rfl rfl (by decide) rfl rfl (pa_cons (pe_callTy (kc_list K) (by rfl) T.b_list bt_list (pa_cons (pv 1) pa_nil)) (pa_cons (pe_lst pa_nil) pa_nil)) (by rfl))
      (pss_cons (ps_for PassesOwn.never rfl (pi_range1 (by rfl) T.b_range (pa_cons (pv 2) pa_nil)) (pg_name (i := 5) sc__law_some.nd rfl (by first | exact Or.inl rfl | exact Or.inr rfl)) (pss_one (ps_expr (pe_bm PySem.F.plainAttrs_list PySem.F.slot_list_append PySem.F.type_list_append mt_append (pv 4) (pa_cons (pe_bm PySem.F.plainAttrs_list PySem.F.slot_list_pop PySem.F.type_list_pop mt_popAt (pv 3) (pa_cons (pe_own c__law_take (hr.mono (by decide)) (by rfl) (pa_cons (pv 0) (pa_cons (pe_callB (kc_len K) (by rfl) T.b_len bt_len (pa_cons (pv 3) pa_nil)) pa_nil))) pa_nil)) pa_nil)))))
      (pss_one (ps_ret (pv 4))))), fun i => ?_⟩)⟩
  obtain ⟨p, n, pool, m, ok, hm, hp, hn⟩ := i
  refine q_par (s1 := .nw [.lst (pool.map .str)]) (s2 := .nw [.lst []]) (EnL.ek (en_listR (Ev.rl (ev_var rfl)))) (EnL.ek (en_lst ea_nil (by decide))) ?_
  refine q_for (List.range m) (fun (i : Nat) => .int (i : Int)) (fun i ds => ∃ (left found : List Str) (ps : List PyData) (s5 : Sl), ds = ⟨[.lo 0, .pu (.list (pool.map .str)), .pu (nat m), .lo 1, .lo 2, s5], [.lst ps, .lst (left.map .str), .lst (found.map .str)]⟩ ∧ found.length = i ∧ (found ++ left).Perm pool ∧ PotOk (n + i) ps) (fun i ds => ds.set 5 (.pu (.int (i : Int))))
    (eI_rng1 (n := (m : Nat)) (ea_cons (ev_is (ev_var rfl) rfl) ea_nil) (by omega)) ⟨pool, [], p, _, rfl, rfl, List.Perm.refl _, ok⟩ (fun i l ds _ ⟨left, found, ps, s5, e, _⟩ => by subst e; exact tg1) ?_ ?_
  · rintro i _ _ hi ⟨left, found, ps, s5, rfl, hf, pm, pk⟩
    have him : i < m := by
      have := (List.getElem?_eq_some_iff.mp hi).1
      rwa [List.length_range] at this
    have ll : left.length = pool.length - i := by
      have := pm.length_eq
      rw [List.length_append, hf] at this
      omega
    refine sx_app (t := tVar 4) (es_lo (l := 2) rfl ⟨2, _, rfl, rfl, es_pop (es_lo (l := 1) rfl ⟨1, _, rfl, rfl, es_take (l := 0) (u := left.length) rfl rfl (ea_view (l := 1) rfl rfl (ea_cons (ev_is (ev_cb (ea_cons (ev_var rfl) ea_nil) (by walk_at "cd")) (by rw [List.length_map]; rfl)) ea_nil) rfl) pk (by omega) (by omega) (by omega) fun k ps' hk pk' => ?_⟩)⟩)
    refine ⟨left.map .str, k, .str left[k], rfl, rfl, by rw [List.getElem?_map, List.getElem?_eq_getElem hk]; rfl, by rw [List.length_map]; omega, _, found.map .str, rfl, rfl, by rw [List.length_map]; omega, ?_⟩
    refine ⟨left.eraseIdx k, found ++ [left[k]], ps', _, by rw [← erase_map, List.map_append]; rfl, by rw [List.length_append, hf]; rfl, ?_, pk'⟩
    rw [List.append_assoc]
    exact ((perm_erase (List.getElem?_eq_getElem hk)).append_left found).trans pm
  · rintro _ ⟨left, found, ps, s5, rfl, hf, pm, pk⟩
    rw [List.length_range] at hf pk
    refine sx_frz (l := 2) rfl rfl (by show 1 ≤ 2; decide) ?_
    exact sx_ret (ev_var rfl) ⟨fun o ho => by rw [List.mem_singleton.mp ho]; exact ⟨rfl, rfl⟩, found, left, ps, hf, pm, pk, rfl, rfl⟩
end
end L4
end

section
set_option Elab.async false
set_option linter.all false
set_option maxRecDepth 100000
set_option autoImplicit false
/-! What the law draws and reckons. -/
namespace L4
open PySem L2
theorem es_someE {K : PySem.W.Frag} {ds : D4} {tr : TA} {E : XK} {P : Fv → D4 → Prop} {v l : Nat} (h : ds.sl[v]? = some (.lo l))
    (hr : Eas K tr ds fun fs ds1 => ∃ (pool : List Str) (m n : Nat) (p : List PyData), fs = [.pu (.list (pool.map .str)), .pu (nat m)] ∧ ds1.st[l]? = some (.lst p) ∧ PotOk n p ∧ m ≤ pool.length ∧ pool.length ≤ 900 ∧ n + m ≤ 1000 ∧
      ∀ (found left : List Str) (p' : List PyData), found.length = m → (found ++ left).Perm pool → PotOk (n + m) p' → P (.pu (.list (found.map .str))) (ds1.put l (.lst p'))) : Es K (tCall (spF K smX smZ smPo) [] E (tCons (tVar v) tr)) ds P := by
  refine es_callF (eas_cons (P1 := fun f ds1 => f = .lo l ∧ ds1 = ds) (es_lo h ⟨rfl, rfl⟩) ?_)
  rintro _ _ ⟨rfl, rfl⟩
  refine hr.imp ?_
  rintro fs ds1 ⟨pool, m, n, p, rfl, h', ok, hm, hp, hn, k⟩
  refine ⟨⟨p, n, pool, m, ok, hm, hp, hn⟩, [l], List.pairwise_singleton _ _, rfl, fun s hs => ?_, rfl, fun k j o h1 h2 => ?_, ?_⟩
  · have hs' : s ∈ [Sl.lo 0, .pu (.list (pool.map .str)), .pu (nat m)] := hs
    simp only [List.mem_cons, List.not_mem_nil, or_false] at hs'
    rcases hs' with e | e | e <;> subst e <;> rfl
  · cases k with
    | zero =>
      have e1 : l = j := Option.some.inj h1
      have e2 : Ob.lst p = o := Option.some.inj h2
      subst e1 e2
      exact ⟨rfl, rfl, h'⟩
    | succ k => exact absurd h1 (by simp)
  · rintro r st' ⟨f, left, p', h1, h2, h3, rfl, rfl⟩ _
    exact k f left p' h1 h2 h3
structure RowNew (us : List Str) (m : Nat) (r : Row) : Prop where
  ia : r.a ∈ us
  ib : r.b ∈ us
  ne : r.a ≠ r.b
  le : r.n ≤ m
structure RwI where
  p : List PyData
  n : Nat
  us : List Str
  most : Nat
  ok : PotOk n p
  hn : n ≤ 900
  nd : us.Nodup
  u2 : 2 ≤ us.length
  ul : us.length ≤ 900
  hm : most ≤ 99
def rwX (i : RwI) : List Sl := [.lo 0, .pu (.list (i.us.map .str)), .pu (nat i.most)]
def rwZ (i : RwI) : List Ob := [.lst i.p]
def rwPo (i : RwI) (r : Rs) (st' : List Ob) : Prop := ∃ (row : Row) (p' : List PyData), RowNew i.us i.most row ∧ PotOk (i.n + 4) p' ∧ r = .pu (eRow row) ∧ st' = [.lst p']
def eOwn (us : List Str) (rows : List Row) : PyData := dkD [(.inr "units", .list (us.map .str)), (.inr "rows", .list (rows.map eRow))]
theorem own_units (x y : PyData) : valD (κ := Key) [(.inr "units", x), (.inr "rows", y)] (.inr "units" : Key) = some x := rfl
theorem own_rows (x y : PyData) : valD (κ := Key) [(.inr "units", x), (.inr "rows", y)] (.inr "rows" : Key) = some y := by
  unfold valD
  have e : decide (("units" : Str) = "rows") = false := by decide +kernel
  simp [List.find?_cons, e]
theorem own_put (x y z : PyData) : putD (κ := Key) [(.inr "units", x), (.inr "rows", y)] (.inr "rows" : Key) z = [(.inr "units", x), (.inr "rows", z)] := by
  unfold putD
  have e : ¬ ((Sum.inr "units" : Key) = .inr "rows") := by decide +kernel
  simp [e]
structure Drawn (names us : List Str) (rows : List Row) : Prop where
  u2 : 2 ≤ us.length
  u3 : us.length ≤ 3
  nd : us.Nodup
  nm : ∀ u ∈ us, u ∈ names
  rl : rows.length ≤ 4
  rnd : rows.Nodup
  ok : ∀ r ∈ rows, RowNew us 7 r
structure DwI where
  p : List PyData
  n : Nat
  names : List Str
  ok : PotOk n p
  hn : n ≤ 800
  nd : names.Nodup
  so : ∀ u ∈ names, SOk u
  n3 : 3 ≤ names.length
  nl : names.length ≤ 900
def dwX (i : DwI) : List Sl := [.lo 0, .pu (.list (i.names.map .str))]
def dwZ (i : DwI) : List Ob := [.lst i.p]
def dwPo (i : DwI) (r : Rs) (st' : List Ob) : Prop := ∃ (us : List Str) (rows : List Row) (p' : List PyData), Drawn i.names us rows ∧ PotOk (i.n + 25) p' ∧ r = .pu (eOwn us rows) ∧ st' = [.lst p']
/-! whether a ring grows -/
def told2 (rows : List Row) (db : List Nat) (k : Nat) : List Stp := (toldR rows).map fun t => (t.2.1, t.2.2.1, if t.1 ∈ db then t.2.2.2 - (k : Int) else t.2.2.2)
def dbS (db : List Nat) (k i : Nat) (s : Stp) : Stp := (s.1, s.2.1, if i ∈ db then s.2.2 - (k : Int) else s.2.2)
theorem told2_take {rows : List Row} {i : Nat} {r : Row} (db : List Nat) (k : Nat) (h : rows[i]? = some r) : tabF (told2 (rows.take (i + 1)) db k) = ((stepsR r).map (dbS db k i)).foldl stepT (tabF (told2 (rows.take i) db k)) := by
  unfold told2 tabF
  rw [told_take h, List.map_append, List.foldl_append, List.map_map]; rfl
theorem told2_len (rows : List Row) (db : List Nat) (k : Nat) : (told2 rows db k).length ≤ 2 * rows.length := by
  unfold told2
  rw [List.length_map]; exact told_len rows
def fwS (tb : Tab) (over one other : Str) : Tab :=
  match tget tb (one, over), tget tb (over, other) with
  | some a, some b => stepT tb (one, other, a + b)
  | _, _ => tb
def fw3 (us : List Str) (tb : Tab) (over one : Str) : Tab := us.foldl (fun tb other => fwS tb over one other) tb
def fw2 (us : List Str) (tb : Tab) (over : Str) : Tab := us.foldl (fun tb one => fw3 us tb over one) tb
def selfT (us : List Str) (tb : Tab) : Tab := us.foldl (fun tb u => stepT tb (u, u, 0)) tb
def fwT (us : List Str) (tb : Tab) : Tab := us.foldl (fw2 us) (selfT us tb)
def growF (us : List Str) (rows : List Row) (db : List Nat) (k : Nat) : Bool := us.any fun u => decide ((tget (fwT us (tabF (told2 rows db k))) (u, u)).getD 0 > 0)
def restF (rows : List Row) (db : List Nat) : List Row := (rows.zipIdx.filter fun p => !decide (p.2 ∈ db)).map (·.1)
def dueG (us : List Str) (rows : List Row) (db : List Nat) : Option Nat := if growF us (restF rows db) [] 0 = true then none else (List.range 60).find? fun k => !growF us rows db k
def lotsF : Nat → List (List Nat)
  | 0 => [[]]
  | n + 1 => lotsF n ++ (lotsF n).map (· ++ [n])
def fineF (us : List Str) (rows : List Row) (k : Nat) : List (List Nat) := (lotsF rows.length).filter fun l => !growF us rows l k
def eLenLot (l : List Nat) : PyData := .tuple [nat l.length, eDb l]
def fewG (us : List Str) (rows : List Row) (k : Nat) : PyData := ((((fineF us rows k).map eLenLot).mergeSort (PySem.W.dataLe false id)).head?).getD .none
def rRowSteps : List PyData → PyData → Prop := R1 fun a d => ∃ r : Row, a = eRow r ∧ d = .tuple ((stepsR r).map eSt)
def rGrows : List PyData → PyData → Prop := R3' fun a b c d => ∃ us rows db k, us.length ≤ 3 ∧ rows.length ≤ 4 ∧ k ≤ 1000 ∧ us.Nodup ∧ a = eOwn us rows ∧ b = eDb db ∧ c = nat k ∧ d = .bool (growF us rows db k)
def rDueG : List PyData → PyData → Prop := R2' fun a b d => ∃ us rows db, us.length ≤ 3 ∧ rows.length ≤ 4 ∧ us.Nodup ∧ a = eOwn us rows ∧ b = eDb db ∧ d = eOpt (dueG us rows db)
def rFewG : List PyData → PyData → Prop := R2' fun a b d => ∃ us rows k, us.length ≤ 3 ∧ rows.length ≤ 4 ∧ k ≤ 1000 ∧ us.Nodup ∧ a = eOwn us rows ∧ b = nat k ∧ d = fewG us rows k
def rGreater : List PyData → PyData → Prop := R2' fun a b d => ∃ p q r s : Nat, a = .tuple [nat p, nat q] ∧ b = .tuple [nat r, nat s] ∧ p ≤ 1000000 ∧ q ≤ 1000000 ∧ r ≤ 1000000 ∧ s ≤ 1000000 ∧ d = if r * q ≤ p * s then a else b
def rLawText : List PyData → PyData → Prop := R1 fun a d => ∃ g : DigD, DigOk g ∧ (∀ r ∈ g.rows, r.n ≤ 99) ∧ a = eOwn g.units g.rows ∧ d = .str g.text
theorem find_range {p : Nat → Bool} {n i : Nat} (hi : i < n) (h : p i = true) (h2 : ∀ k < i, p k = false) : (List.range n).find? p = some i := by
  rw [List.find?_eq_some_iff_append]
  refine ⟨h, List.range i, (List.range n).drop (i + 1), ?_, fun k hk => by rw [h2 k (List.mem_range.mp hk)]; rfl⟩
  conv => lhs; rw [← List.take_append_drop i (List.range n)]
  rw [List.take_range, Nat.min_eq_left (by omega), List.drop_eq_getElem_cons (by rw [List.length_range]; omega), List.getElem_range]
def Has (tb : Tab) (p : P2) : Prop := ∃ n, tget tb p = some n
theorem step_has {tb : Tab} {p : P2} (s : Stp) (h : Has tb p) : Has (stepT tb s) p := by
  obtain ⟨n, h⟩ := h
  by_cases z : p = (s.1, s.2.1)
  · exact ⟨_, (tget_put _ _ _ _).trans (if_pos z)⟩
  · exact ⟨n, ((tget_put _ _ _ _).trans (if_neg z)).trans h⟩
theorem fold_has {α : Type} {p : P2} (f : Tab → α → Tab) (hf : ∀ tb a, Has tb p → Has (f tb a) p) : ∀ (l : List α) (tb : Tab), Has tb p → Has (l.foldl f tb) p
  | [], tb, h => h
  | a :: l, tb, h => fold_has f hf l (f tb a) (hf tb a h)
theorem fws_has {tb : Tab} {p : P2} (a b c : Str) (h : Has tb p) : Has (fwS tb a b c) p := by
  unfold fwS
  split
  · exact step_has _ h
  · exact h
theorem fw3_has {us : List Str} {tb : Tab} {p : P2} (a b : Str) (h : Has tb p) : Has (fw3 us tb a b) p := fold_has _ (fun tb c h => fws_has a b c h) us tb h
theorem fw2_has {us : List Str} {tb : Tab} {p : P2} (a : Str) (h : Has tb p) : Has (fw2 us tb a) p := fold_has _ (fun tb c h => fw3_has a c h) us tb h
theorem self_has : ∀ (us : List Str) (tb : Tab) {u : Str}, u ∈ us → Has (selfT us tb) (u, u)
  | [], tb, u, h => nomatch h
  | x :: us, tb, u, h => by
    show Has (selfT us (stepT tb (x, x, 0))) (u, u)
    rcases List.mem_cons.mp h with e | m
    · subst e
      exact fold_has _ (fun tb c h => step_has _ h) us _ ⟨_, (tget_put _ _ _ _).trans (if_pos rfl)⟩
    · exact self_has us _ m
theorem fwt_self {us : List Str} (tb : Tab) {u : Str} (h : u ∈ us) : Has (fwT us tb) (u, u) := fold_has _ (fun tb c h => fw2_has c h) us _ (self_has us tb h)
theorem fws_len (tb : Tab) (a b c : Str) : (fwS tb a b c).length ≤ tb.length + 1 := by
  unfold fwS
  split
  · exact tput_len _ _ _
  · omega
theorem fw3_len {us : List Str} : ∀ (ls : List Str) (tb : Tab) (a b : Str), (ls.foldl (fun tb other => fwS tb a b other) tb).length ≤ tb.length + ls.length
  | [], tb, a, b => Nat.le_refl _
  | x :: ls, tb, a, b => by
    have h1 := fw3_len (us := us) ls (fwS tb a b x) a b
    have h2 := fws_len tb a b x
    rw [List.foldl_cons, List.length_cons]
    omega
theorem fw2_len {us : List Str} : ∀ (ls : List Str) (tb : Tab) (a : Str), (ls.foldl (fun tb one => fw3 us tb a one) tb).length ≤ tb.length + us.length * ls.length
  | [], tb, a => Nat.le_refl _
  | x :: ls, tb, a => by
    have h1 := fw2_len (us := us) ls (fw3 us tb a x) a
    have h2 : (fw3 us tb a x).length ≤ _ := fw3_len (us := us) us tb a x
    rw [List.foldl_cons, List.length_cons, Nat.mul_succ]
    omega
theorem fwt_len {us : List Str} : ∀ (ls : List Str) (tb : Tab), (ls.foldl (fw2 us) tb).length ≤ tb.length + us.length * us.length * ls.length
  | [], tb => Nat.le_refl _
  | x :: ls, tb => by
    have h1 := fwt_len (us := us) ls (fw2 us tb x)
    have h2 : (fw2 us tb x).length ≤ _ := fw2_len (us := us) us tb x
    rw [List.foldl_cons, List.length_cons, Nat.mul_succ]
    omega
theorem self_len : ∀ (ls : List Str) (tb : Tab), (selfT ls tb).length ≤ tb.length + ls.length
  | [], tb => Nat.le_refl _
  | x :: ls, tb => by
    have h1 := self_len ls (stepT tb (x, x, 0))
    have h2 : (stepT tb (x, x, 0)).length ≤ tb.length + 1 := tput_len _ _ _
    show (selfT ls (stepT tb (x, x, 0))).length ≤ _
    rw [List.length_cons]
    omega
theorem lots_len : ∀ n, (lotsF n).length = 2 ^ n
  | 0 => rfl
  | n + 1 => by
    show (lotsF n ++ (lotsF n).map (· ++ [n])).length = _
    rw [List.length_append, List.length_map, lots_len n, Nat.pow_succ]; omega
theorem lots_in : ∀ {n : Nat} {l : List Nat}, l ∈ lotsF n → l.length ≤ n
  | 0, l, h => by rw [List.mem_singleton.mp h]; exact Nat.le_refl _
  | n + 1, l, h => by
    rcases List.mem_append.mp h with m | m
    · have := lots_in m; omega
    · obtain ⟨l', hl, rfl⟩ := List.mem_map.mp m
      have := lots_in hl
      rw [List.length_append, List.length_singleton]; omega
theorem can_nats : ∀ db : List Nat, PyData.canLayAll0 (db.map nat) = true
  | [] => rfl
  | n :: db => by show (true && PyData.canLayAll0 (db.map nat)) = true; rw [can_nats db]; rfl
theorem dep_nats : ∀ db : List Nat, PyData.depthAll (db.map nat) = 0
  | [] => rfl
  | n :: db => by show max 0 (PyData.depthAll (db.map nat)) = 0; rw [dep_nats db]; rfl
theorem alike_nats : ∀ a b : List Nat, PySem.W.alikeAll (a.map nat) (b.map nat) = true
  | [], _ => by simp [PySem.W.alikeAll]
  | _ :: _, [] => rfl
  | x :: a, y :: b => by show (true && PySem.W.alikeAll (a.map nat) (b.map nat)) = true; rw [alike_nats a b]; rfl
theorem can_lens : ∀ ls : List (List Nat), PyData.canLayAll0 (ls.map eLenLot) = true
  | [] => rfl
  | l :: ls => by
    show ((true && (PyData.canLayAll0 (l.map nat) && true)) && PyData.canLayAll0 (ls.map eLenLot)) = true
    rw [can_nats, can_lens ls]; rfl
theorem dep_len (l : List Nat) : (eLenLot l).depth ≤ 50 := by
  show max 0 (max (PyData.depthAll (l.map nat) + 1) 0) + 1 ≤ 50
  rw [dep_nats]; decide
theorem alike_lens (ls : List (List Nat)) : PySem.W.AllAlike (ls.map eLenLot) := fun d hd d' hd' => by
  obtain ⟨l, _, rfl⟩ := List.mem_map.mp hd
  obtain ⟨l', _, rfl⟩ := List.mem_map.mp hd'
  show (true && (PySem.W.alikeAll (l.map nat) (l'.map nat) && true)) = true
  rw [alike_nats]; rfl
theorem so_lens (ls : List (List Nat)) : PySem.W.Sortable (ls.map eLenLot) := .inl fun d hd => by
  obtain ⟨l, _, rfl⟩ := List.mem_map.mp hd
  exact ⟨_, _, rfl⟩
theorem dep_lens : ∀ ls : List (List Nat), PyData.depthAll (ls.map eLenLot) ≤ 2
  | [] => Nat.zero_le _
  | l :: ls => by
    show max (max 0 (max (PyData.depthAll (l.map nat) + 1) 0) + 1) (PyData.depthAll (ls.map eLenLot)) ≤ 2
    have := dep_lens ls
    rw [dep_nats]
    omega
theorem sh_perm {xs : List PyData} {ls : List (List Nat)} (h : xs.Perm (ls.map eLenLot)) : SeqAt.shaped (.list xs) = true := by
  obtain ⟨ms, _, rfl⟩ : ∃ ms : List (List Nat), True ∧ xs = ms.map eLenLot := by
    have : ∀ x ∈ xs, ∃ l, x = eLenLot l := fun x hx => by
      obtain ⟨l, _, e⟩ := List.mem_map.mp (h.mem_iff.mp hx)
      exact ⟨l, e.symm⟩
    clear h
    induction xs with
    | nil => exact ⟨[], trivial, rfl⟩
    | cons x xs ih =>
      obtain ⟨l, rfl⟩ := this x List.mem_cons_self
      obtain ⟨ms, _, rfl⟩ := ih fun y hy => this y (List.mem_cons_of_mem _ hy)
      exact ⟨l :: ms, trivial, rfl⟩
  show (PyData.canLayAll0 (ms.map eLenLot) && decide (PyData.depthAll (ms.map eLenLot) + 1 ≤ 64)) = true
  have := dep_lens ms
  rw [can_lens, decide_eq_true (by omega)]; rfl
theorem lu_eq (u : Str) : ("unit " : Str) ++ u = lUnit u := by
  unfold lUnit
  rw [TL.join_eq]
  show _ = ("unit" : Str) ++ " " ++ u
  rw [show ("unit" : Str) ++ " " = "unit " by decide +kernel]
end L4
end

section
set_option Elab.async false
set_option linter.all false
set_option maxRecDepth 100000
set_option maxHeartbeats 1000000
set_option autoImplicit false
namespace L4
open PySem L2
section
variable {Pr : Program} {w : World} {K : PySem.W.Frag} {mg : Str → Option Value} {base : Heap} {cs : Cs}
local macro_rules
  | `(tactic| walk_at "sh") => `(tactic| first | exact rfl | assumption | exact sh_str (by first | assumption | decide +kernel) | decide +kernel)
local macro_rules
  | `(tactic| walk_at "ix") => `(tactic| first | exact rd_ixT rfl | exact rd_ixL rfl | exact rd_ixT (by assumption) | exact rd_ixL (by assumption) | exact rd_ixT (atI_nat (by assumption)) | exact rd_ixL (atI_nat (by assumption)))
local macro_rules
  | `(tactic| walk_at "add") => `(tactic| first | exact rd_addI | exact rd_addS (by first | assumption | decide) | exact rd_addT (by first | assumption | exact Nat.le_of_ble_eq_true rfl) | exact rd_addL (by first | assumption | exact Nat.le_of_ble_eq_true rfl))
local macro_rules
  | `(tactic| walk_at "mul") => `(tactic| first | exact rd_mul (.inl (by decide)) | exact rd_mul (.inr (by decide)) | exact rd_mul (.inl (by omega)) | exact rd_mul (.inr (by omega)))
local macro_rules
  | `(tactic| walk_at "mod") => `(tactic| exact rd_mod (by first | decide | omega))
local macro_rules
  | `(tactic| walk_at "div") => `(tactic| exact rd_div ⟨by first | decide | omega, by first | decide | omega⟩)
local macro_rules
  | `(tactic| walk_at "eq") => `(tactic| exact rd_eq (by walk_at "sh") (by walk_at "sh"))
local macro_rules
  | `(tactic| walk_at "ne") => `(tactic| exact rd_ne (by walk_at "sh") (by walk_at "sh"))
local macro_rules
  | `(tactic| walk_at "in") => `(tactic| first | exact rd_inT (by walk_at "sh") (by walk_at "sh") | exact rd_inL (by walk_at "sh") (by walk_at "sh"))
local macro_rules
  | `(tactic| walk_at "nin") => `(tactic| first | exact rd_ninT (by walk_at "sh") (by walk_at "sh") | exact rd_ninL (by walk_at "sh") (by walk_at "sh"))
local macro_rules
  | `(tactic| walk_at "cd") => `(tactic| first | exact cd_lenT | exact cd_lenL | exact cd_intI | exact cd_sS | exact cd_sI (by assumption) | exact cd_lenS (by assumption) | exact cd_intB)
theorem ok__law_row_steps (T : Fx K mg cs) : Ok Pr w K mg base "_law_row_steps" 1 ["row"] (spD K rRowSteps) := by
  obtain ⟨f, fd, F, b, g⟩ := T.f__law_row_steps
  refine ⟨f, fd, g, F.kp, b, fn_ok F sc__law_row_steps (fun xs d h => by obtain ⟨_, rfl, _⟩ := h; rfl) (fun cdv A outer s H E hr => ⟨_, (pss_cons (ps_if (pt_cmpR (ko_eq K (u64 hr)) (pe_ix (ki_seq K) (pv 0) pe_int (fun _ _ => rfl)) pe_str (nomark _)) (pss_one (ps_ret (pe_tup (pa_cons (pe_tup (pa_cons (pe_ix (ki_seq K) (pv 0) pe_int (fun _ _ => rfl)) (pa_cons (pe_ix (ki_seq K) (pv 0) pe_int (fun _ _ => rfl)) (pa_cons pe_int pa_nil)))) pa_nil)))) pss_nil)
      (pss_cons (ps_if (pt_cmpR (ko_eq K (u64 hr)) (pe_ix (ki_seq K) (pv 0) pe_int (fun _ _ => rfl)) pe_str (nomark _)) (pss_one (ps_ret (pe_tup (pa_cons (pe_tup (pa_cons (pe_ix (ki_seq K) (pv 0) pe_int (fun _ _ => rfl)) (pa_cons (pe_ix (ki_seq K) (pv 0) pe_int (fun _ _ => rfl)) (pa_cons pe_int pa_nil)))) (pa_cons (pe_tup (pa_cons (pe_ix (ki_seq K) (pv 0) pe_int (fun _ _ => rfl)) (pa_cons (pe_ix (ki_seq K) (pv 0) pe_int (fun _ _ => rfl)) (pa_cons pe_int pa_nil)))) pa_nil))))) pss_nil)
      (pss_one (ps_ret (pe_ifExp (pt_cmpR (ko_eq K (u64 hr)) (pe_ix (ki_seq K) (pv 0) pe_int (fun _ _ => rfl)) pe_str (nomark _)) (pe_tup (pa_cons (pe_tup (pa_cons (pe_ix (ki_seq K) (pv 0) pe_int (fun _ _ => rfl)) (pa_cons (pe_ix (ki_seq K) (pv 0) pe_int (fun _ _ => rfl)) (pa_cons (pe_ix (ki_seq K) (pv 0) pe_int (fun _ _ => rfl)) pa_nil)))) pa_nil)) (pe_tup (pa_cons (pe_tup (pa_cons (pe_ix (ki_seq K) (pv 0) pe_int (fun _ _ => rfl)) (pa_cons (pe_ix (ki_seq K) (pv 0) pe_int (fun _ _ => rfl)) (pa_cons (pe_op op_sub pe_int (pe_ix (ki_seq K) (pv 0) pe_int (fun _ _ => rfl))) pa_nil)))) pa_nil))))))), fun xs d hR => ?_⟩)⟩
  obtain ⟨a0, rfl, hR⟩ := hR
  obtain ⟨r, rfl, rfl⟩ := hR
  cases r with
  | ab a b => exact q_yesI (et_test (ev_op (ev_op (ev_var rfl) ev_int (by walk_at "ix")) ev_str (by walk_at "eq"))) rfl (sx_retD' (ev_tupA (ea_cons (ev_tupA (ea_cons (ev_op (ev_var rfl) ev_int (by walk_at "ix")) (ea_cons (ev_op (ev_var rfl) ev_int (by walk_at "ix")) (ea_cons ev_int ea_nil))) rfl) ea_nil) rfl) rfl)
  | sa a b =>
    refine q_noI (et_test (ev_op (ev_op (ev_var rfl) ev_int (by walk_at "ix")) ev_str (by walk_at "eq"))) (by decide +kernel) ?_
    exact q_yesI (et_test (ev_op (ev_op (ev_var rfl) ev_int (by walk_at "ix")) ev_str (by walk_at "eq"))) rfl (sx_retD' (ev_tupA (ea_cons (ev_tupA (ea_cons (ev_op (ev_var rfl) ev_int (by walk_at "ix")) (ea_cons (ev_op (ev_var rfl) ev_int (by walk_at "ix")) (ea_cons ev_int ea_nil))) rfl) (ea_cons (ev_tupA (ea_cons (ev_op (ev_var rfl) ev_int (by walk_at "ix")) (ea_cons (ev_op (ev_var rfl) ev_int (by walk_at "ix")) (ea_cons ev_int ea_nil))) rfl) ea_nil)) rfl) rfl)
  | le a b n =>
    refine q_noI (et_test (ev_op (ev_op (ev_var rfl) ev_int (by walk_at "ix")) ev_str (by walk_at "eq"))) (by decide +kernel) ?_
    refine q_noI (et_test (ev_op (ev_op (ev_var rfl) ev_int (by walk_at "ix")) ev_str (by walk_at "eq"))) (by decide +kernel) ?_
    exact sx_retD (ev_if (b := true) (et_is (et_test (ev_op (ev_op (ev_var rfl) ev_int (by walk_at "ix")) ev_str (by walk_at "eq"))) rfl) (fun _ => (ev_tupA (ea_cons (ev_tupA (ea_cons (ev_op (ev_var rfl) ev_int (by walk_at "ix")) (ea_cons (ev_op (ev_var rfl) ev_int (by walk_at "ix")) (ea_cons (ev_op (ev_var rfl) ev_int (by walk_at "ix")) ea_nil))) rfl) ea_nil) rfl)) fun e => nomatch e) rfl
  | mo a b n =>
    refine q_noI (et_test (ev_op (ev_op (ev_var rfl) ev_int (by walk_at "ix")) ev_str (by walk_at "eq"))) (by decide +kernel) ?_
    refine q_noI (et_test (ev_op (ev_op (ev_var rfl) ev_int (by walk_at "ix")) ev_str (by walk_at "eq"))) (by decide +kernel) ?_
    exact sx_retD (ev_if (b := false) (et_is (et_test (ev_op (ev_op (ev_var rfl) ev_int (by walk_at "ix")) ev_str (by walk_at "eq"))) (by decide +kernel)) (fun e => nomatch e) fun _ => (ev_tupA (ea_cons (ev_tupA (ea_cons (ev_op (ev_var rfl) ev_int (by walk_at "ix")) (ea_cons (ev_op (ev_var rfl) ev_int (by walk_at "ix")) (ea_cons (ev_op ev_int (ev_op (ev_var rfl) ev_int (by walk_at "ix")) rd_sub) ea_nil))) rfl) ea_nil) rfl)) rfl
theorem ok__law_greater (T : Fx K mg cs) : Ok Pr w K mg base "_law_greater" 1 ["one", "other"] (spD K rGreater) := by
  obtain ⟨f, fd, F, b, g⟩ := T.f__law_greater
  refine ⟨f, fd, g, F.kp, b, fn_ok F sc__law_greater (fun xs d h => by obtain ⟨_, _, rfl, _⟩ := h; rfl) (fun cdv A outer s H E hr => ⟨_, (pss_one (ps_ret (pe_ifExp (pt_cmpR op_ge (pe_op op_gMul (pe_ix (ki_seq K) (pv 0) pe_int (fun _ _ => rfl)) (pe_ix (ki_seq K) (pv 1) pe_int (fun _ _ => rfl))) (pe_op op_gMul (pe_ix (ki_seq K) (pv 1) pe_int (fun _ _ => rfl)) (pe_ix (ki_seq K) (pv 0) pe_int (fun _ _ => rfl))) (nomark _)) (pv 0) (pv 1)))), fun xs d hR => ?_⟩)⟩
  obtain ⟨a0, a1, rfl, hR⟩ := hR
  obtain ⟨p, q, r, s, rfl, rfl, hp, hq, hr, hs, rfl⟩ := hR
  refine sx_retD (ev_if (b := decide (r * q ≤ p * s)) (et_is (et_test (ev_op (ev_op (ev_op (ev_var rfl) ev_int (rd_ixT rfl)) (ev_op (ev_var rfl) ev_int (rd_ixT rfl)) (rd_mul (.inl ⟨by omega, by omega⟩))) (ev_op (ev_op (ev_var rfl) ev_int (rd_ixT rfl)) (ev_op (ev_var rfl) ev_int (rd_ixT rfl)) (rd_mul (.inl ⟨by omega, by omega⟩))) rd_ge)) ?_) (fun h => ev_is (ev_var rfl) (if_pos (of_decide_eq_true h)).symm) (fun h => ev_is (ev_var rfl) (if_neg (of_decide_eq_false h)).symm)) rfl
  rw [← Int.natCast_mul, ← Int.natCast_mul]
  by_cases z : r * q ≤ p * s
  · rw [decide_eq_true z, decide_eq_true (by omega)]
  · rw [decide_eq_false z, decide_eq_false (by omega)]
theorem ok__law_row (T : Fx K mg cs) : Ok Pr w K mg base "_law_row" 3 ["pot", "units", "most"] (spF K rwX rwZ rwPo) := by
  obtain ⟨f, fd, F, b, g⟩ := T.f__law_row
  have c__law_some := ok__law_some (Pr := Pr) (w := w) (base := base) T
  have c__law_of := ok__law_of (Pr := Pr) (w := w) (base := base) T
  have c__law_take := ok__law_take (Pr := Pr) (w := w) (base := base) T
  refine ⟨f, fd, g, F.kp, b, fn_okF F sc__law_row (fun i => rfl) (fun cdv A outer s H E hr => ⟨_, (pss_cons (ps_asg (pe_own c__law_some (hr.mono (by decide)) (by rfl) (pa_cons (pv 0) (pa_cons (pv 1) (pa_cons pe_int pa_nil)))) (kg_tupL K rfl (pgs_cons (pg_name (i := 3) sc__law_row.nd rfl (by first | exact Or.inl rfl | exact Or.inr rfl)) (pgs_cons (pg_name (i := 4) sc__law_row.nd rfl (by first | exact Or.inl rfl | exact Or.inr rfl)) pgs_nil))))
      (pss_cons (ps_set (i := 5) sc__law_row.nd rfl (.inl rfl) (pe_own c__law_of (hr.mono (by decide)) (by rfl) (pa_cons (pv 0) (pa_cons (pe_lst (pa_cons pe_str (pa_cons pe_str (pa_cons pe_str (pa_cons pe_str (pa_cons pe_str (pa_cons pe_str (pa_cons pe_str pa_nil)))))))) pa_nil))))
      (pss_cons (ps_if (pt_cmpR (ko_in K (u65 hr)) (pv 5) (pe_tup (pa_cons pe_str (pa_cons pe_str pa_nil))) (by with_unfolding_all rfl)) (pss_one (ps_ret (pe_tup (pa_cons (pv 5) (pa_cons (pv 3) (pa_cons (pv 4) pa_nil)))))) pss_nil)
      (pss_one (ps_ret (pe_tup (pa_cons (pv 5) (pa_cons (pv 3) (pa_cons (pv 4) (pa_cons (pe_callTy cr_gInt (by rfl) T.b_int bt_int (pa_cons (pe_own c__law_take (hr.mono (by decide)) (by rfl) (pa_cons (pv 0) (pa_cons (pe_op (ko_add K) (pv 2) pe_int) pa_nil))) pa_nil)) pa_nil)))))))))), fun i => ?_⟩)⟩
  obtain ⟨p, n, us, most, ok, hn, nd, u2, ul, hm⟩ := i
  refine sx_seq (Mid := fun ds => ∃ (a b : Str) (p' : List PyData), a ∈ us ∧ b ∈ us ∧ a ≠ b ∧ PotOk (n + 2) p' ∧ ds = ⟨[.lo 0, .pu (.list (us.map .str)), .pu (nat most), .pu (.str a), .pu (.str b), .un], [.lst p']⟩)
    (sx_asgE (es_some (l := 0) (m := 2) rfl rfl (ea_cons (ev_var rfl) (ea_cons ev_int ea_nil)) ok u2 ul (by omega) fun found left p' hf pm ok' => ?_)) ?_
  · obtain ⟨a, b, rfl⟩ : ∃ a b, found = [a, b] := by
      match found, hf with
      | [a, b], _ => exact ⟨a, b, rfl⟩
    have nd' := pm.nodup_iff.mpr nd
    have ha := pm.mem_iff.mp (show a ∈ [a, b] ++ left from List.mem_append_left _ List.mem_cons_self)
    have hb := pm.mem_iff.mp (show b ∈ [a, b] ++ left from List.mem_append_left _ (List.mem_cons_of_mem _ List.mem_cons_self))
    have ne : a ≠ b := fun e => by
      subst e
      have := (List.nodup_append.mp nd').1
      simp at this
    exact ⟨_, _, _, rfl, tg2L, a, b, p', ha, hb, ne, ok', rfl⟩
  rintro _ ⟨a, b, p1, ha, hb, ne, ok1, rfl⟩
  refine sx_seq (Mid := fun ds => ∃ (w : Str) (p' : List PyData), w ∈ (["above", "above", "same", "least", "least", "most", "most"] : List Str) ∧ PotOk (n + 3) p' ∧ ds = ⟨[.lo 0, .pu (.list (us.map .str)), .pu (nat most), .pu (.str a), .pu (.str b), .pu (.str w)], [.lst p']⟩)
    (sx_setE (es_callL (l := 0) ⟨p1, n + 2, (["above", "above", "same", "least", "least", "most", "most"] : List Str).map .str, ok1, by omega, by decide, by decide⟩ [0] rfl (ea_cons (ev_lstA (ea_cons ev_str (ea_cons ev_str (ea_cons ev_str (ea_cons ev_str (ea_cons ev_str (ea_cons ev_str (ea_cons ev_str ea_nil))))))) rfl) ea_nil) rfl rfl (by decide) rfl ⟨⟨rfl, rfl, rfl⟩, trivial⟩ fun r st' po _ => ?_)) ?_
  · obtain ⟨x, p', hx, ok', rfl, rfl⟩ := po
    obtain ⟨w, hw, rfl⟩ := List.mem_map.mp hx
    exact ⟨by show 5 < 6; decide, w, p', hw, ok', rfl⟩
  rintro _ ⟨w, p2, hw, ok2, rfl⟩
  simp only [List.mem_cons, List.not_mem_nil, or_false] at hw
  have lv : ∀ {p : List PyData}, ∀ o ∈ [Ob.lst p], o.live = true ∧ below 1 o = true := fun {p} o ho => by rw [List.mem_singleton.mp ho]; exact ⟨rfl, rfl⟩
  have fin : ∀ {f : Str → Str → Nat → Row} {w : Str}, (∀ k, eRow (f a b k) = .tuple [.str w, .str a, .str b, nat k]) → (∀ k, (f a b k).a = a ∧ (f a b k).b = b ∧ (f a b k).n = k) → ∀ (j : Nat) (p' : List PyData), j < most + 1 → PotOk (n + 4) p' → rwPo ⟨p, n, us, most, ok, hn, nd, u2, ul, hm⟩ (.pu (.tuple [.str w, .str a, .str b, nat j])) [.lst p'] := fun {f w} h1 h2 j p' hj ok' =>
    ⟨f a b j, p', ⟨by rw [(h2 j).1]; exact ha, by rw [(h2 j).2.1]; exact hb, by rw [(h2 j).1, (h2 j).2.1]; exact ne, by rw [(h2 j).2.2]; show j ≤ most; omega⟩, ok', by rw [h1 j], rfl⟩
  rcases hw with rfl | rfl | rfl | rfl | rfl | rfl | rfl
  · exact q_yesI (et_test (ev_op (ev_var rfl) (ev_tupA (ea_cons ev_str (ea_cons ev_str ea_nil)) rfl) (by walk_at "in"))) (by decide +kernel) (sx_ret (ev_tupA (ea_cons (ev_var rfl) (ea_cons (ev_var rfl) (ea_cons (ev_var rfl) ea_nil))) rfl) ⟨lv, .ab a b, p2, ⟨ha, hb, ne, Nat.zero_le _⟩, ok2.mono (by show n + 3 ≤ n + 4; omega), rfl, rfl⟩)
  · exact q_yesI (et_test (ev_op (ev_var rfl) (ev_tupA (ea_cons ev_str (ea_cons ev_str ea_nil)) rfl) (by walk_at "in"))) (by decide +kernel) (sx_ret (ev_tupA (ea_cons (ev_var rfl) (ea_cons (ev_var rfl) (ea_cons (ev_var rfl) ea_nil))) rfl) ⟨lv, .ab a b, p2, ⟨ha, hb, ne, Nat.zero_le _⟩, ok2.mono (by show n + 3 ≤ n + 4; omega), rfl, rfl⟩)
  · exact q_yesI (et_test (ev_op (ev_var rfl) (ev_tupA (ea_cons ev_str (ea_cons ev_str ea_nil)) rfl) (by walk_at "in"))) (by decide +kernel) (sx_ret (ev_tupA (ea_cons (ev_var rfl) (ea_cons (ev_var rfl) (ea_cons (ev_var rfl) ea_nil))) rfl) ⟨lv, .sa a b, p2, ⟨ha, hb, ne, Nat.zero_le _⟩, ok2.mono (by show n + 3 ≤ n + 4; omega), rfl, rfl⟩)
  all_goals refine q_noI (et_test (ev_op (ev_var rfl) (ev_tupA (ea_cons ev_str (ea_cons ev_str ea_nil)) rfl) (by walk_at "in"))) (by decide +kernel) ?_
  all_goals refine sx_retE (es_tup (eas_cons (P1 := fun f ds1 => f = .pu (.str _) ∧ ds1 = ⟨[.lo 0, .pu (.list (us.map .str)), .pu (nat most), .pu (.str a), .pu (.str b), .pu (.str _)], [.lst p2]⟩) (es_ev (ev_var rfl) ⟨rfl, rfl⟩) ?_))
  all_goals
    rintro _ _ ⟨rfl, rfl⟩
    refine eas_cons (P1 := fun f ds1 => f = .pu (.str a) ∧ ds1 = ⟨[.lo 0, .pu (.list (us.map .str)), .pu (nat most), .pu (.str a), .pu (.str b), .pu (.str _)], [.lst p2]⟩) (es_ev (ev_var rfl) ⟨rfl, rfl⟩) ?_
    rintro _ _ ⟨rfl, rfl⟩
    refine eas_cons (P1 := fun f ds1 => f = .pu (.str b) ∧ ds1 = ⟨[.lo 0, .pu (.list (us.map .str)), .pu (nat most), .pu (.str a), .pu (.str b), .pu (.str _)], [.lst p2]⟩) (es_ev (ev_var rfl) ⟨rfl, rfl⟩) ?_
    rintro _ _ ⟨rfl, rfl⟩
    refine eas_one (es_cb (eas_one (es_take (l := 0) (u := most + 1) rfl rfl (ea_cons (ev_op (ev_var rfl) ev_int (rd_addI)) ea_nil) ok2 (by omega) (by omega) (by omega) fun j p' hj ok' => ⟨_, _, rfl, cd_intI, [_, .str a, .str b, .int (j : Nat)], rfl, by show 4 ≤ 100000; decide, _, rfl, lv, ?_⟩)))
  · exact fin (f := .le) (fun k => rfl) (fun k => ⟨rfl, rfl, rfl⟩) j p' hj ok'
  · exact fin (f := .le) (fun k => rfl) (fun k => ⟨rfl, rfl, rfl⟩) j p' hj ok'
  · exact fin (f := .mo) (fun k => rfl) (fun k => ⟨rfl, rfl, rfl⟩) j p' hj ok'
  · exact fin (f := .mo) (fun k => rfl) (fun k => ⟨rfl, rfl, rfl⟩) j p' hj ok'
end
end L4
end

section
set_option Elab.async false
set_option linter.all false
set_option maxRecDepth 100000
set_option maxHeartbeats 1000000
set_option autoImplicit false
namespace L4
open PySem L2
section
variable {Pr : Program} {w : World} {K : PySem.W.Frag} {mg : Str → Option Value} {base : Heap} {cs : Cs}
local macro_rules
  | `(tactic| walk_at "sh") => `(tactic| first | exact rfl | assumption | exact sh_str (by first | assumption | decide +kernel) | decide +kernel)
local macro_rules
  | `(tactic| walk_at "ix") => `(tactic| first | exact rd_ixT rfl | exact rd_ixL rfl | exact rd_ixT (by assumption) | exact rd_ixL (by assumption) | exact rd_ixT (atI_nat (by assumption)) | exact rd_ixL (atI_nat (by assumption)))
local macro_rules
  | `(tactic| walk_at "add") => `(tactic| first | exact rd_addI | exact rd_addS (by first | assumption | decide) | exact rd_addT (by first | assumption | exact Nat.le_of_ble_eq_true rfl) | exact rd_addL (by first | assumption | exact Nat.le_of_ble_eq_true rfl))
local macro_rules
  | `(tactic| walk_at "mul") => `(tactic| first | exact rd_mul (.inl (by decide)) | exact rd_mul (.inr (by decide)) | exact rd_mul (.inl (by omega)) | exact rd_mul (.inr (by omega)))
local macro_rules
  | `(tactic| walk_at "mod") => `(tactic| exact rd_mod (by first | decide | omega))
local macro_rules
  | `(tactic| walk_at "div") => `(tactic| exact rd_div ⟨by first | decide | omega, by first | decide | omega⟩)
local macro_rules
  | `(tactic| walk_at "eq") => `(tactic| exact rd_eq (by walk_at "sh") (by walk_at "sh"))
local macro_rules
  | `(tactic| walk_at "ne") => `(tactic| exact rd_ne (by walk_at "sh") (by walk_at "sh"))
local macro_rules
  | `(tactic| walk_at "in") => `(tactic| first | exact rd_inT (by walk_at "sh") (by walk_at "sh") | exact rd_inL (by walk_at "sh") (by walk_at "sh"))
local macro_rules
  | `(tactic| walk_at "nin") => `(tactic| first | exact rd_ninT (by walk_at "sh") (by walk_at "sh") | exact rd_ninL (by walk_at "sh") (by walk_at "sh"))
local macro_rules
  | `(tactic| walk_at "cd") => `(tactic| first | exact cd_lenT | exact cd_lenL | exact cd_intI | exact cd_sS | exact cd_sI (by assumption) | exact cd_lenS (by assumption) | exact cd_intB)
theorem ok__law_drawn (T : Fx K mg cs) : Ok Pr w K mg base "_law_drawn" 4 ["pot", "names"] (spF K dwX dwZ dwPo) := by
  obtain ⟨f, fd, F, b, g⟩ := T.f__law_drawn
  have c__law_some := ok__law_some (Pr := Pr) (w := w) (base := base) T
  have c__law_take := ok__law_take (Pr := Pr) (w := w) (base := base) T
  have c__law_row := ok__law_row (Pr := Pr) (w := w) (base := base) T
  refine ⟨f, fd, g, F.kp, b, fn_okF F sc__law_drawn (fun i => rfl) (fun cdv A outer s H E hr => ⟨_, (pss_cons (ps_set (i := 2) sc__law_drawn.nd rfl (.inl rfl) (pe_disp (pps_cons pe_str (pe_own c__law_some (hr.mono (by decide)) (by rfl) (pa_cons (pv 0) (pa_cons (pv 1) (pa_cons (pe_op (ko_add K) pe_int (pe_own c__law_take (hr.mono (by decide)) (by rfl) (pa_cons (pv 0) (pa_cons pe_int pa_nil)))) pa_nil)))) (pps_cons pe_str (pe_lst pa_nil) pps_nil)) rfl rfl (by decide) (by decide)))
      (pss_cons (ps_for PassesOwn.never rfl (pi_range1 (by rfl) T.b_range (pa_cons (pe_op (ko_add K) pe_int (pe_own c__law_take (hr.mono (by decide)) (by rfl) (pa_cons (pv 0) (pa_cons pe_int pa_nil)))) pa_nil)) (pg_name (i := 3) sc__law_drawn.nd rfl (by first | exact Or.inl rfl | exact Or.inr rfl)) (pss_cons (ps_set (i := 4) sc__law_drawn.nd rfl (.inl rfl) (pe_own c__law_row (hr.mono (by decide)) (by rfl) (pa_cons (pv 0) (pa_cons (pe_dget (u1 hr) (pv 2) pe_str (fun _ _ => rfl)) (pa_cons pe_int pa_nil)))))
      (pss_one (ps_dput (u1 hr) (pv 2) pe_str (pe_op (ko_add K) (pe_dget (u1 hr) (pv 2) pe_str (fun _ _ => rfl)) (pe_ifExp (pt_cmpR (ko_nin K (u65 hr)) (pv 4) (pe_dget (u1 hr) (pv 2) pe_str (fun _ _ => rfl)) (by with_unfolding_all rfl)) (pe_lst (pa_cons (pv 4) pa_nil)) (pe_lst pa_nil))) rfl))))
      (pss_one (ps_ret (pv 2))))), fun i => ?_⟩)⟩
  obtain ⟨p, n, names, ok, hn, nd, so, n3, nl⟩ := i
  refine sx_seq (Mid := fun ds => ∃ (us : List Str) (p' : List PyData), 2 ≤ us.length ∧ us.length ≤ 3 ∧ us.Nodup ∧ (∀ u ∈ us, u ∈ names) ∧ PotOk (n + 4) p' ∧ ds = ⟨[.lo 0, .pu (.list (names.map .str)), .lo 1, .un, .un], [.lst p', .dk [(.inr "units", .list (us.map .str)), (.inr "rows", .list [])]]⟩)
    (sx_setE (es_disp2 (by decide +kernel) (es_someE (l := 0) rfl (eas_cons (P1 := fun f ds1 => f = .pu (.list (names.map .str)) ∧ ds1 = ⟨[.lo 0, .pu (.list (names.map .str)), .un, .un, .un], [.lst p]⟩) (es_ev (ev_var rfl) ⟨rfl, rfl⟩) ?_)))) ?_
  · rintro _ _ ⟨rfl, rfl⟩
    refine eas_one (es_op (P1 := fun f ds1 => f = .pu (.int 2) ∧ ds1 = ⟨[.lo 0, .pu (.list (names.map .str)), .un, .un, .un], [.lst p]⟩) (es_ev ev_int ⟨rfl, rfl⟩) ?_)
    rintro _ _ ⟨rfl, rfl⟩
    refine ⟨_, rfl, es_take (l := 0) (u := 2) rfl rfl (ea_cons ev_int ea_nil) ok (by omega) (by omega) (by omega) fun j p' hj ok' => ⟨_, nat (2 + j), rfl, ?_, names, 2 + j, n + 1, p', rfl, rfl, ok', by omega, nl, by omega, fun found left p2 hf pm ok2 => ⟨_, rfl, ?_⟩⟩⟩
    · show RD K (gAddT K) (.int 2) (.int (j : Nat)) (.int ((2 + j : Nat) : Int))
      rw [show ((2 + j : Nat) : Int) = 2 + (j : Int) by omega]
      exact rd_addI
    · refine es_ev (ev_lstA ea_nil rfl) ⟨_, rfl, by show 2 < 5; decide, found, p2, by omega, by omega, ?_, fun u hu => pm.mem_iff.mp (List.mem_append_left _ hu), ok2.mono (by omega), rfl⟩
      exact (List.nodup_append.mp (pm.nodup_iff.mpr nd)).1
  rintro _ ⟨us, p1, u2, u3, und, unm, ok1, rfl⟩
  refine sx_seq (Mid := fun ds => ∃ (rows : List Row) (p' : List PyData) (s3 s4 : Sl), rows.length ≤ 4 ∧ rows.Nodup ∧ (∀ r ∈ rows, RowNew us 7 r) ∧ PotOk (n + 25) p' ∧ ds = ⟨[.lo 0, .pu (.list (names.map .str)), .lo 1, s3, s4], [.lst p', .dk [(.inr "units", .list (us.map .str)), (.inr "rows", .list (rows.map eRow))]]⟩)
    (sx_forR (eas_one (es_op (P1 := fun f ds1 => f = .pu (.int 1) ∧ ds1 = ⟨[.lo 0, .pu (.list (names.map .str)), .lo 1, .un, .un], [.lst p1, .dk [(.inr "units", .list (us.map .str)), (.inr "rows", .list [])]]⟩) (es_ev ev_int ⟨rfl, rfl⟩) ?_))) ?_
  · rintro _ _ ⟨rfl, rfl⟩
    refine ⟨_, rfl, es_take (l := 0) (u := 4) rfl rfl (ea_cons ev_int ea_nil) ok1 (by omega) (by omega) (by omega) fun j p' hj ok' => ⟨_, .int (1 + (j : Int)), rfl, rd_addI, 1 + (j : Int), rfl, by omega, by omega, ?_⟩⟩
    refine sx_for (List.range (1 + j)) (fun (i : Nat) => PyData.int i) (fun i ds => ∃ (rows : List Row) (p' : List PyData) (s3 s4 : Sl), rows.length ≤ i ∧ rows.Nodup ∧ (∀ r ∈ rows, RowNew us 7 r) ∧ PotOk (n + 5 + 4 * i) p' ∧ ds = ⟨[.lo 0, .pu (.list (names.map .str)), .lo 1, s3, s4], [.lst p', .dk [(.inr "units", .list (us.map .str)), (.inr "rows", .list (rows.map eRow))]]⟩) (fun i ds => ds.set 3 (.pu (.int (i : Nat))))
      ((eI_rng1 (n := 1 + (j : Int)) (ea_cons ev_int ea_nil) (by omega)).is (by rw [show (1 + (j : Int)).toNat = 1 + j by omega]; rfl)) ⟨[], p', .un, .un, Nat.le_refl _, List.nodup_nil, (fun r h => nomatch h), ok', rfl⟩ (fun i l ds _ ⟨rows, p', s3, s4, _, _, _, _, e⟩ => by subst e; exact tg1) ?_ ?_
    · rintro i l _ hi ⟨rows, p2, s3, s4, rl, rnd, rok, ok2, rfl⟩
      have il : i < 1 + j := by
        have := (List.getElem?_eq_some_iff.mp hi).1
        rwa [List.length_range] at this
      refine sx_seq (Mid := fun ds => ∃ (row : Row) (p' : List PyData), RowNew us 7 row ∧ PotOk (n + 5 + 4 * i + 4) p' ∧ ds = ⟨[.lo 0, .pu (.list (names.map .str)), .lo 1, .pu (.int (l : Nat)), .pu (eRow row)], [.lst p', .dk [(.inr "units", .list (us.map .str)), (.inr "rows", .list (rows.map eRow))]]⟩)
        (sx_setE (es_callL (l := 0) ⟨p2, n + 5 + 4 * i, us, 7, ok2, by omega, und, u2, by omega, by omega⟩ [0] rfl (ea_cons (ev_kgS (by first | exact erk_own rfl rfl | exact Ev.rk (ev_var rfl)) ev_str (own_units _ _)) (ea_cons ev_int ea_nil)) rfl rfl (by decide) rfl ⟨⟨rfl, rfl, rfl⟩, trivial⟩ fun r st' po _ => ?_)) ?_
      · obtain ⟨row, p', rn, ok', rfl, rfl⟩ := po
        exact ⟨by show 4 < 5; decide, row, p', rn, ok', rfl⟩
      rintro _ ⟨row, p3, rn, ok3, rfl⟩
      have sok : ∀ {r : Row}, RowNew us 7 r → SOk r.a ∧ SOk r.b := fun {r} h => ⟨so _ (unm _ h.ia), so _ (unm _ h.ib)⟩
      have sr : SeqAt.shaped (eRow row) = true := sh_row (sok rn).1 (sok rn).2
      have shR : SeqAt.shaped (.list (rows.map eRow)) = true := sh_rowsL fun s hs => sok (rok s hs)
      have key : ∀ x, x = rows ++ (if row ∈ rows then [] else [row]) → x.length ≤ i + 1 ∧ x.Nodup ∧ ∀ r ∈ x, RowNew us 7 r := fun x e => by
        subst e
        by_cases z : row ∈ rows
        · rw [if_pos z, List.append_nil]; exact ⟨by omega, rnd, rok⟩
        · rw [if_neg z]
          refine ⟨by rw [List.length_append, List.length_singleton]; omega, ?_, fun r hr => ?_⟩
          · rw [List.nodup_append]
            exact ⟨rnd, List.pairwise_singleton _ _, fun a ha b hb e => z (by rw [List.mem_singleton.mp hb] at e; rw [← e]; exact ha)⟩
          · rcases List.mem_append.mp hr with m | m
            · exact rok r m
            · rw [List.mem_singleton.mp m]; exact rn
      obtain ⟨k1, k2, k3⟩ := key _ rfl
      refine sx_kput1 (l := 1) (k := .inr "rows") rfl rfl (ev_op (ev_kgS (by first | exact erk_own rfl rfl | exact Ev.rk (ev_var rfl)) ev_str (own_rows _ _)) (ev_if (d := .list (if row ∈ rows then [] else [eRow row])) (b := !decide (row ∈ rows)) (et_is (et_test (ev_op (ev_var rfl) (ev_kgS (by first | exact erk_own rfl rfl | exact Ev.rk (ev_var rfl)) ev_str (own_rows _ _)) (rd_ninL sr shR))) (by rw [any_row])) (fun h => ev_is (ev_lstA (ea_cons (ev_var rfl) ea_nil) rfl) (by rw [if_neg (by simpa using h)])) (fun h => ev_is (ev_lstA ea_nil rfl) (by rw [if_pos (by simpa using h)]))) (rd_addL (by rw [List.length_map]; split <;> simp <;> omega))) ev_str (by show 2 < 100000; decide) ⟨rows ++ (if row ∈ rows then [] else [row]), p3, .pu (.int (l : Nat)), .pu (eRow row), k1, k2, k3, ok3.mono (by omega), ?_⟩
      rw [List.map_append]
      have e : (if row ∈ rows then ([] : List Row) else [row]).map eRow = if row ∈ rows then [] else [eRow row] := by split <;> rfl
      rw [e]
      show (⟨_, [_, .dk (putD _ _ _)]⟩ : D4) = _
      rw [own_put]
    · rintro _ ⟨rows, p2, s3, s4, rl, rnd, rok, ok2, rfl⟩
      rw [List.length_range] at rl ok2
      exact ⟨rows, p2, s3, s4, by omega, rnd, rok, ok2.mono (by omega), rfl⟩
  rintro _ ⟨rows, p2, s3, s4, rl, rnd, rok, ok2, rfl⟩
  refine sx_frz (l := 1) rfl rfl (by show 1 ≤ 1; decide) ?_
  exact sx_ret (ev_var rfl) ⟨fun o ho => by rw [List.mem_singleton.mp ho]; exact ⟨rfl, rfl⟩, us, rows, p2, ⟨u2, u3, und, unm, rl, rnd, rok⟩, ok2, rfl, rfl⟩
theorem ok__law_grows (T : Fx K mg cs) : Ok Pr w K mg base "_law_grows" 2 ["own", "doubts", "by"] (spD K rGrows) := by
  obtain ⟨f, fd, F, b, g⟩ := T.f__law_grows
  have c__law_row_steps := ok__law_row_steps (Pr := Pr) (w := w) (base := base) T
  refine ⟨f, fd, g, F.kp, b, fn_ok F sc__law_grows (fun xs d h => by obtain ⟨_, _, _, rfl, _⟩ := h; rfl) (fun cdv A outer s H E hr => ⟨_, (pss_cons (ps_set (i := 3) sc__law_grows.nd rfl (.inr rfl) pe_dnewT)
      (pss_cons (ps_for PassesOwn.never rfl (kw_en K (by rfl) T.b_enumerate (pa_cons (pe_dget (u1 hr) (pv 0) pe_str (fun _ _ => rfl)) pa_nil)) (kg_tup K rfl (pgs_cons (pg_name (i := 4) sc__law_grows.nd rfl (by first | exact Or.inl rfl | exact Or.inr rfl)) (pgs_cons (pg_name (i := 5) sc__law_grows.nd rfl (by first | exact Or.inl rfl | exact Or.inr rfl)) pgs_nil))) (pss_one (ps_for PassesOwn.never rfl (kw_seq K (pe_own c__law_row_steps (hr.mono (by decide)) (by rfl) (pa_cons (pv 5) pa_nil))) (kg_tup K rfl (pgs_cons (pg_name (i := 6) sc__law_grows.nd rfl (by first | exact Or.inl rfl | exact Or.inr rfl)) (pgs_cons (pg_name (i := 7) sc__law_grows.nd rfl (by first | exact Or.inl rfl | exact Or.inr rfl)) (pgs_cons (pg_name (i := 8) sc__law_grows.nd rfl (by first | exact Or.inl rfl | exact Or.inr rfl)) pgs_nil)))) (pss_cons (ps_set (i := 9) sc__law_grows.nd rfl (.inl rfl) (pe_ifExp (pt_cmpR (ko_in K (u65 hr)) (pv 4) (pv 1) (by with_unfolding_all rfl)) (pe_op op_sub (pv 8) (pv 2)) (pv 8)))
      (pss_one (ps_dput (u1 hr) (pv 3) (pe_tup (pa_cons (pv 6) (pa_cons (pv 7) pa_nil))) (pe_callB (call_max2 rfl) (by rfl) T.b_max bt_max (pa_cons (pv 9) (pa_cons (pe_dget2 (u1 hr) (pv 3) (pe_tup (pa_cons (pv 6) (pa_cons (pv 7) pa_nil))) (pv 9) ⟨rfl, rfl, rfl, rfl⟩) pa_nil))) rfl))))))
      (pss_cons (ps_for PassesOwn.never rfl (kw_seq K (pe_dget (u1 hr) (pv 0) pe_str (fun _ _ => rfl))) (pg_name (i := 10) sc__law_grows.nd rfl (by first | exact Or.inl rfl | exact Or.inr rfl)) (pss_one (ps_dput (u1 hr) (pv 3) (pe_tup (pa_cons (pv 10) (pa_cons (pv 10) pa_nil))) (pe_callB (call_max2 rfl) (by rfl) T.b_max bt_max (pa_cons pe_int (pa_cons (pe_dget2 (u1 hr) (pv 3) (pe_tup (pa_cons (pv 10) (pa_cons (pv 10) pa_nil))) pe_int ⟨rfl, rfl, rfl, rfl⟩) pa_nil))) rfl)))
      (pss_cons (ps_for PassesOwn.never rfl (kw_seq K (pe_dget (u1 hr) (pv 0) pe_str (fun _ _ => rfl))) (pg_name (i := 11) sc__law_grows.nd rfl (by first | exact Or.inl rfl | exact Or.inr rfl)) (pss_one (ps_for PassesOwn.never rfl (kw_seq K (pe_dget (u1 hr) (pv 0) pe_str (fun _ _ => rfl))) (pg_name (i := 6) sc__law_grows.nd rfl (by first | exact Or.inl rfl | exact Or.inr rfl)) (pss_one (ps_for PassesOwn.never rfl (kw_seq K (pe_dget (u1 hr) (pv 0) pe_str (fun _ _ => rfl))) (pg_name (i := 7) sc__law_grows.nd rfl (by first | exact Or.inl rfl | exact Or.inr rfl)) (pss_one (ps_if (PW.pt (pw_and (pt_cmp (pc_din (u1 hr) (pe_tup (pa_cons (pv 6) (pa_cons (pv 11) pa_nil))) (pv 3)) (by with_unfolding_all rfl)) (pw_and1 (pt_cmp (pc_din (u1 hr) (pe_tup (pa_cons (pv 11) (pa_cons (pv 7) pa_nil))) (pv 3)) (by with_unfolding_all rfl))))) (pss_cons (ps_set (i := 9) sc__law_grows.nd rfl (.inl rfl) (pe_op (ko_add K) (pe_dget (u1 hr) (pv 3) (pe_tup (pa_cons (pv 6) (pa_cons (pv 11) pa_nil))) (fun _ _ => rfl)) (pe_dget (u1 hr) (pv 3) (pe_tup (pa_cons (pv 11) (pa_cons (pv 7) pa_nil))) (fun _ _ => rfl))))
      (pss_one (ps_dput (u1 hr) (pv 3) (pe_tup (pa_cons (pv 6) (pa_cons (pv 7) pa_nil))) (pe_callB (call_max2 rfl) (by rfl) T.b_max bt_max (pa_cons (pv 9) (pa_cons (pe_dget2 (u1 hr) (pv 3) (pe_tup (pa_cons (pv 6) (pa_cons (pv 7) pa_nil))) (pv 9) ⟨rfl, rfl, rfl, rfl⟩) pa_nil))) rfl))) pss_nil)))))))
      (pss_one (ps_ret (pe_callB (kc_any K rfl) (by rfl) T.b_any bt_any (pa_cons (pe_lc (own := [("unit", 10)]) (g := (gName 10)) rfl sc__law_grows.nd (kw_seq K (pe_dget (u1 hr) (pv 0) pe_str (fun _ _ => rfl))) (blkOk_by (own := [("unit", 10)]) (N := N__law_grows) (sc := defScope st__law_grows) (by decide +kernel)) (fun _ _ _ _ _ => (pg_name (i := 10) sc__law_grows.nd rfl (by first | exact Or.inl rfl | exact Or.inr rfl))) (fun _ _ _ _ _ => pts_nil) (fun _ _ _ _ _ => (pe_cmpR op_gt (pe_dget (u1 hr) (pv 3) (pe_tup (pa_cons (pv 10) (pa_cons (pv 10) pa_nil))) (fun _ _ => rfl)) pe_int (nomark _)))) pa_nil)))))))), fun xs d hR => ?_⟩)⟩
  obtain ⟨a0, a1, a2, rfl, hR⟩ := hR
  obtain ⟨us, rows, db, k, ul, rl, hk, nd, rfl, rfl, rfl, rfl⟩ := hR
  have tl := told_len rows
  refine q_dict end_new ?_
  refine sx_seq (Mid := fun ds => ∃ s4 s5 s6 s7 s8 s9 s10 s11, ds = ⟨[.pu (eOwn us rows), .pu (eDb db), .pu (nat k), .lo 0, s4, s5, s6, s7, s8, s9, s10, s11], [.dt (dtF (tabF (told2 rows db k)))]⟩)
    (sx_for rows.zipIdx (fun p => .tuple [.int (p.2 : Nat), eRow p.1]) (fun i ds => ∃ s4 s5 s6 s7 s8 s9 s10 s11, ds = ⟨[.pu (eOwn us rows), .pu (eDb db), .pu (nat k), .lo 0, s4, s5, s6, s7, s8, s9, s10, s11], [.dt (dtF (tabF (told2 (rows.take i) db k)))]⟩) (fun p ds => (ds.set 4 (.pu (.int (p.2 : Nat)))).set 5 (.pu (eRow p.1)))
      ((eI_en (k := .l) (ev_kgS (by first | exact erk_own rfl rfl | exact Ev.rk (ev_var rfl)) ev_str (own_rows _ _))).is (enumD_map _ _)) ⟨.un, .un, .un, .un, .un, .un, .un, .un, by rw [List.take_zero]; rfl⟩ (fun i l ds _ ⟨s4, s5, s6, s7, s8, s9, s10, s11, e⟩ => by subst e; exact tg2) ?_ ?_) ?_
  · rintro i ⟨r, i'⟩ _ hi ⟨s4, s5, s6, s7, s8, s9, s10, s11, rfl⟩
    obtain ⟨rfl, hi'⟩ := zi_get hi
    have e := told2_take db k hi'
    have l1 := tab_len (told2 (rows.take i) db k)
    have l2 : (told2 (rows.take i) db k).length ≤ 2 * rows.length := Nat.le_trans (told2_len _ _ _) (Nat.mul_le_mul_left _ (by rw [List.length_take]; omega))
    refine sx_for (stepsR r) eSt (fun j ds => ∃ s6 s7 s8 s9 s10 s11, ds = ⟨[.pu (eOwn us rows), .pu (eDb db), .pu (nat k), .lo 0, .pu (.int (i : Nat)), .pu (eRow r), s6, s7, s8, s9, s10, s11], [.dt (dtF ((((stepsR r).take j).map (dbS db k i)).foldl stepT (tabF (told2 (rows.take i) db k))))]⟩) (fun s ds => ((ds.set 6 (.pu (.str s.1))).set 7 (.pu (.str s.2.1))).set 8 (.pu (.int s.2.2)))
      (eI_tup (ev_call (ea_cons (ev_var rfl) ea_nil) (⟨_, rfl, r, rfl, rfl⟩))) ⟨s6, s7, s8, s9, s10, s11, by rw [List.take_zero]; rfl⟩ (fun i l ds _ ⟨s6, s7, s8, s9, s10, s11, e⟩ => by subst e; exact tg3) ?_ ?_
    · rintro j s _ hj ⟨s6, s7, s8, s9, s10, s11, rfl⟩
      have l3 := fold_len (((stepsR r).take j).map (dbS db k i)) (tabF (told2 (rows.take i) db k))
      rw [List.length_map] at l3
      have l4 := steps_two r
      have l5 : ((stepsR r).take j).length ≤ (stepsR r).length := by rw [List.length_take]; omega
      have e3 : (((stepsR r).take (j + 1)).map (dbS db k i)).foldl stepT (tabF (told2 (rows.take i) db k)) = stepT ((((stepsR r).take j).map (dbS db k i)).foldl stepT (tabF (told2 (rows.take i) db k))) (dbS db k i s) := by
        rw [List.take_add_one, hj, Option.toList_some, List.map_append, List.foldl_append]; rfl
      rw [e3]
      generalize (((stepsR r).take j).map (dbS db k i)).foldl stepT (tabF (told2 (rows.take i) db k)) = tb at *
      refine q_set (d := .int (dbS db k i s).2.2) (ev_if (b := decide (i ∈ db)) (et_is (et_test (ev_op (ev_var rfl) (ev_var rfl) (rd_inT rfl (sh_natsT db)))) (any_nat i db)) (fun h => ev_is (ev_op (ev_var rfl) (ev_var rfl) rd_sub) (congrArg PyData.int (if_pos (of_decide_eq_true h)).symm)) (fun h => ev_is (ev_var rfl) (congrArg PyData.int (if_neg (of_decide_eq_false h)).symm))) ?_
      exact sx_dput1 (l := 0) (k := k2 (s.1, s.2.1)) rfl rfl (ev_is (y := .int (max (dbS db k i s).2.2 ((tget tb (s.1, s.2.1)).getD (dbS db k i s).2.2))) (ev_cb (ea_cons (ev_var rfl) (ea_cons (ev_is (ev_dgS2 (by first | exact erd_own rfl rfl | exact Ev.rd (ev_var rfl)) (ev_tupA (ea_cons (ev_var rfl) (ea_cons (ev_var rfl) ea_nil)) rfl) (ev_var rfl)) (dtF_getD tb (s.1, s.2.1) (dbS db k i s).2.2)) ea_nil)) cd_max2) (congrArg PyData.int (max_if _ _))) (ev_tupA (ea_cons (ev_var rfl) (ea_cons (ev_var rfl) ea_nil)) rfl) (by rw [dt_len]; omega) ⟨_, _, _, _, _, _, by rw [dtF_put]; rfl⟩
    · rintro _ ⟨s6, s7, s8, s9, s10, s11, rfl⟩
      show ∃ _ _ _ _ _ _ _ _, _
      rw [e, List.take_length]
      exact ⟨_, _, _, _, _, _, _, _, rfl⟩
  · rintro _ ⟨s4, s5, s6, s7, s8, s9, s10, s11, rfl⟩
    show ∃ _ _ _ _ _ _ _ _, _
    rw [List.length_zipIdx, List.take_length]
    exact ⟨_, _, _, _, _, _, _, _, rfl⟩
  rintro _ ⟨s4, s5, s6, s7, s8, s9, s10, s11, rfl⟩
  have l1 := tab_len (told2 rows db k)
  have l2 := told2_len rows db k
  refine sx_seq (Mid := fun ds => ∃ s4 s5 s6 s7 s8 s9 s10 s11, ds = ⟨[.pu (eOwn us rows), .pu (eDb db), .pu (nat k), .lo 0, s4, s5, s6, s7, s8, s9, s10, s11], [.dt (dtF (selfT us (tabF (told2 rows db k))))]⟩)
    (sx_for us .str (fun i ds => ∃ s10, ds = ⟨[.pu (eOwn us rows), .pu (eDb db), .pu (nat k), .lo 0, s4, s5, s6, s7, s8, s9, s10, s11], [.dt (dtF (selfT (us.take i) (tabF (told2 rows db k))))]⟩) (fun u ds => ds.set 10 (.pu (.str u)))
      (eI_list (ev_kgS (by first | exact erk_own rfl rfl | exact Ev.rk (ev_var rfl)) ev_str (own_units _ _))) ⟨s10, by rw [List.take_zero]; rfl⟩ (fun i l ds _ ⟨s10, e⟩ => by subst e; exact tg1) ?_ ?_) ?_
  · rintro i u _ hi ⟨s10, rfl⟩
    have l3 := self_len (us.take i) (tabF (told2 rows db k))
    rw [List.length_take] at l3
    have e3 : selfT (us.take (i + 1)) (tabF (told2 rows db k)) = stepT (selfT (us.take i) (tabF (told2 rows db k))) (u, u, 0) := by
      unfold selfT
      rw [List.take_add_one, hi, Option.toList_some, List.foldl_append]; rfl
    rw [e3]
    generalize selfT (us.take i) (tabF (told2 rows db k)) = tb at *
    exact sx_dput1 (l := 0) (k := k2 (u, u)) rfl rfl (ev_is (y := .int (max 0 ((tget tb (u, u)).getD 0))) (ev_cb (ea_cons ev_int (ea_cons (ev_is (ev_dgS2 (by first | exact erd_own rfl rfl | exact Ev.rd (ev_var rfl)) (ev_tupA (ea_cons (ev_var rfl) (ea_cons (ev_var rfl) ea_nil)) rfl) ev_int) (dtF_getD tb (u, u) 0)) ea_nil)) cd_max2) (congrArg PyData.int (max_if _ _))) (ev_tupA (ea_cons (ev_var rfl) (ea_cons (ev_var rfl) ea_nil)) rfl) (by rw [dt_len]; omega) ⟨_, by rw [dtF_put]; rfl⟩
  · rintro _ ⟨s10, rfl⟩
    exact ⟨_, _, _, _, _, _, _, _, by rw [List.take_length]⟩
  clear s4 s5 s6 s7 s8 s9 s10 s11
  rintro _ ⟨s4, s5, s6, s7, s8, s9, s10, s11, rfl⟩
  have l3 := self_len us (tabF (told2 rows db k))
  obtain ⟨tb0, htb⟩ : ∃ tb0, tb0 = selfT us (tabF (told2 rows db k)) := ⟨_, rfl⟩
  rw [← htb] at l3 ⊢
  have uu : us.length * us.length ≤ 9 := Nat.mul_le_mul ul ul
  refine sx_seq (Mid := fun ds => ∃ s4 s5 s6 s7 s8 s9 s10 s11, ds = ⟨[.pu (eOwn us rows), .pu (eDb db), .pu (nat k), .lo 0, s4, s5, s6, s7, s8, s9, s10, s11], [.dt (dtF (us.foldl (fw2 us) tb0))]⟩)
    (sx_for us .str (fun i ds => ∃ s6 s7 s9 s11, ds = ⟨[.pu (eOwn us rows), .pu (eDb db), .pu (nat k), .lo 0, s4, s5, s6, s7, s8, s9, s10, s11], [.dt (dtF ((us.take i).foldl (fw2 us) tb0))]⟩) (fun u ds => ds.set 11 (.pu (.str u)))
      (eI_list (ev_kgS (by first | exact erk_own rfl rfl | exact Ev.rk (ev_var rfl)) ev_str (own_units _ _))) ⟨s6, s7, s9, s11, by rw [List.take_zero]; rfl⟩ (fun i l ds _ ⟨s6, s7, s9, s11, e⟩ => by subst e; exact tg1) ?_ ?_) ?_
  · rintro i o _ hi ⟨s6, s7, s9, s11, rfl⟩
    have l4 := fwt_len (us := us) (us.take i) tb0
    have e3 : (us.take (i + 1)).foldl (fw2 us) tb0 = fw2 us ((us.take i).foldl (fw2 us) tb0) o := by rw [List.take_add_one, hi, Option.toList_some, List.foldl_append]; rfl
    have l5 : (us.take i).length ≤ 3 := by rw [List.length_take]; omega
    have l6 : us.length * us.length * (us.take i).length ≤ 27 := Nat.mul_le_mul uu l5
    generalize (us.take i).foldl (fw2 us) tb0 = tb1 at *
    refine sx_for us .str (fun j ds => ∃ s6 s7 s9, ds = ⟨[.pu (eOwn us rows), .pu (eDb db), .pu (nat k), .lo 0, s4, s5, s6, s7, s8, s9, s10, .pu (.str o)], [.dt (dtF ((us.take j).foldl (fun tb one => fw3 us tb o one) tb1))]⟩) (fun u ds => ds.set 6 (.pu (.str u)))
      (eI_list (ev_kgS (by first | exact erk_own rfl rfl | exact Ev.rk (ev_var rfl)) ev_str (own_units _ _))) ⟨s6, s7, s9, by rw [List.take_zero]; rfl⟩ (fun i l ds _ ⟨s6, s7, s9, e⟩ => by subst e; exact tg1) ?_ ?_
    · rintro j a _ hj ⟨s6, s7, s9, rfl⟩
      have l7 := fw2_len (us := us) (us.take j) tb1 o
      have e4 : (us.take (j + 1)).foldl (fun tb one => fw3 us tb o one) tb1 = fw3 us ((us.take j).foldl (fun tb one => fw3 us tb o one) tb1) o a := by rw [List.take_add_one, hj, Option.toList_some, List.foldl_append]; rfl
      have l8 : (us.take j).length ≤ 3 := by rw [List.length_take]; omega
      have l9 : us.length * (us.take j).length ≤ 9 := Nat.mul_le_mul ul l8
      generalize (us.take j).foldl (fun tb one => fw3 us tb o one) tb1 = tb2 at *
      refine sx_for us .str (fun m ds => ∃ s7 s9, ds = ⟨[.pu (eOwn us rows), .pu (eDb db), .pu (nat k), .lo 0, s4, s5, .pu (.str a), s7, s8, s9, s10, .pu (.str o)], [.dt (dtF ((us.take m).foldl (fun tb other => fwS tb o a other) tb2))]⟩) (fun u ds => ds.set 7 (.pu (.str u)))
        (eI_list (ev_kgS (by first | exact erk_own rfl rfl | exact Ev.rk (ev_var rfl)) ev_str (own_units _ _))) ⟨s7, s9, by rw [List.take_zero]; rfl⟩ (fun i l ds _ ⟨s7, s9, e⟩ => by subst e; exact tg1) ?_ ?_
      · rintro m b _ hm ⟨s7, s9, rfl⟩
        have l10 := fw3_len (us := us) (us.take m) tb2 o a
        rw [List.length_take] at l10
        have e5 : (us.take (m + 1)).foldl (fun tb other => fwS tb o a other) tb2 = fwS ((us.take m).foldl (fun tb other => fwS tb o a other) tb2) o a b := by rw [List.take_add_one, hm, Option.toList_some, List.foldl_append]; rfl
        rw [e5]
        generalize (us.take m).foldl (fun tb other => fwS tb o a other) tb2 = tb at *
        have g1 : valD (dtF tb) [.inr a, .inr o] = (tget tb (a, o)).map .int := dtF_get tb (a, o)
        have g2 : valD (dtF tb) [.inr o, .inr b] = (tget tb (o, b)).map .int := dtF_get tb (o, b)
        unfold fwS
        cases h1 : tget tb (a, o) with
        | none =>
          rw [h1] at g1
          exact sx_noI (et_and (et_test (ev_dinS (ev_tupA (ea_cons (ev_var rfl) (ea_cons (ev_var rfl) ea_nil)) rfl) (by first | exact erd_own rfl rfl | exact Ev.rd (ev_var rfl)))) fun _ => (et_test (ev_dinS (ev_tupA (ea_cons (ev_var rfl) (ea_cons (ev_var rfl) ea_nil)) rfl) (by first | exact erd_own rfl rfl | exact Ev.rd (ev_var rfl))))) (by rw [g1]; rfl) (sx_next ⟨_, _, rfl⟩)
        | some x =>
          rw [h1] at g1
          cases h2 : tget tb (o, b) with
          | none =>
            rw [h2] at g2
            exact sx_noI (et_and (et_test (ev_dinS (ev_tupA (ea_cons (ev_var rfl) (ea_cons (ev_var rfl) ea_nil)) rfl) (by first | exact erd_own rfl rfl | exact Ev.rd (ev_var rfl)))) fun _ => (et_test (ev_dinS (ev_tupA (ea_cons (ev_var rfl) (ea_cons (ev_var rfl) ea_nil)) rfl) (by first | exact erd_own rfl rfl | exact Ev.rd (ev_var rfl))))) (by rw [g1, g2]; rfl) (sx_next ⟨_, _, rfl⟩)
          | some y =>
            rw [h2] at g2
            refine sx_yesI (et_and (et_test (ev_dinS (ev_tupA (ea_cons (ev_var rfl) (ea_cons (ev_var rfl) ea_nil)) rfl) (by first | exact erd_own rfl rfl | exact Ev.rd (ev_var rfl)))) fun _ => (et_test (ev_dinS (ev_tupA (ea_cons (ev_var rfl) (ea_cons (ev_var rfl) ea_nil)) rfl) (by first | exact erd_own rfl rfl | exact Ev.rd (ev_var rfl))))) (by rw [g1, g2]; rfl) ?_
            refine q_setI (d := .int (x + y)) (ev_op (ev_dgS (by first | exact erd_own rfl rfl | exact Ev.rd (ev_var rfl)) (ev_tupA (ea_cons (ev_var rfl) (ea_cons (ev_var rfl) ea_nil)) rfl) (g1)) (ev_dgS (by first | exact erd_own rfl rfl | exact Ev.rd (ev_var rfl)) (ev_tupA (ea_cons (ev_var rfl) (ea_cons (ev_var rfl) ea_nil)) rfl) (g2)) (rd_addI)) rfl ?_ rfl
            exact sx_dput1 (l := 0) (k := k2 (a, b)) rfl rfl (ev_is (y := .int (max (x + y) ((tget tb (a, b)).getD (x + y)))) (ev_cb (ea_cons (ev_var rfl) (ea_cons (ev_is (ev_dgS2 (by first | exact erd_own rfl rfl | exact Ev.rd (ev_var rfl)) (ev_tupA (ea_cons (ev_var rfl) (ea_cons (ev_var rfl) ea_nil)) rfl) (ev_var rfl)) (dtF_getD tb (a, b) (x + y))) ea_nil)) cd_max2) (congrArg PyData.int (max_if _ _))) (ev_tupA (ea_cons (ev_var rfl) (ea_cons (ev_var rfl) ea_nil)) rfl) (by rw [dt_len]; omega) ⟨_, _, by rw [dtF_put]; rfl⟩
      · rintro _ ⟨s7, s9, rfl⟩
        show ∃ _ _ _, _
        rw [e4, List.take_length]
        exact ⟨_, _, _, rfl⟩
    · rintro _ ⟨s6, s7, s9, rfl⟩
      show ∃ _ _ _ _, _
      rw [e3, List.take_length]
      exact ⟨_, _, _, _, rfl⟩
  · rintro _ ⟨s6, s7, s9, s11, rfl⟩
    exact ⟨_, _, _, _, _, _, _, _, by rw [List.take_length]⟩
  clear s4 s5 s6 s7 s8 s9 s10 s11
  rintro _ ⟨s4, s5, s6, s7, s8, s9, s10, s11, rfl⟩
  rw [htb]
  have hg : ∀ {u : Str}, u ∈ us → valD (dtF (fwT us (tabF (told2 rows db k)))) [.inr u, .inr u] = some (.int ((tget (fwT us (tabF (told2 rows db k))) (u, u)).getD 0)) := fun {u} hu => by
    obtain ⟨n, hn⟩ := fwt_self (tabF (told2 rows db k)) hu
    have := dtF_get (fwT us (tabF (told2 rows db k))) (u, u)
    rw [hn] at this ⊢
    exact this
  exact sx_retD (ev_anyM (EnL.rl (lc1 us .str (fun u => .bool (decide ((tget (fwT us (tabF (told2 rows db k))) (u, u)).getD 0 > 0))) (eI_list (ev_kgS (by first | exact erk_own rfl rfl | exact Ev.rk (ev_var rfl)) ev_str (own_units _ _))).r (by omega) fun u hu => (ev_op (ev_dgS (by first | exact erd_own rfl rfl | exact Ev.rd (ev_var rfl)) (ev_tupA (ea_cons (ev_var rfl) (ea_cons (ev_var rfl) ea_nil)) rfl) (hg hu)) ev_int rd_gt)))) rfl
theorem ok__law_due (T : Fx K mg cs) : Ok Pr w K mg base "_law_due" 3 ["own", "doubts"] (spD K rDueG) := by
  obtain ⟨f, fd, F, b, g⟩ := T.f__law_due
  have c__law_grows := ok__law_grows (Pr := Pr) (w := w) (base := base) T
  refine ⟨f, fd, g, F.kp, b, fn_ok F sc__law_due (fun xs d h => by obtain ⟨_, _, rfl, _⟩ := h; rfl) (fun cdv A outer s H E hr => ⟨_, (pss_cons (ps_setLc (i := 2) (own := [("at", 3), ("row", 4)]) (g := (gTup K 2 (gCons (gName 3) (gCons (gName 4) gNil)))) rfl sc__law_due.nd rfl rfl (sw_true rfl rfl rfl (by decide +kernel)) (kw_en K (by rfl) T.b_enumerate (pa_cons (pe_dget (u1 hr) (pv 0) pe_str (fun _ _ => rfl)) pa_nil)) (blkOk_by (own := [("at", 3), ("row", 4)]) (N := N__law_due) (sc := defScope st__law_due) (by decide +kernel)) (fun _ _ _ _ _ => (kg_tup K rfl (pgs_cons (pg_name (i := 3) sc__law_due.nd rfl (by first | exact Or.inl rfl | exact Or.inr rfl)) (pgs_cons (pg_name (i := 4) sc__law_due.nd rfl (by first | exact Or.inl rfl | exact Or.inr rfl)) pgs_nil)))) (fun _ _ _ _ _ => (pts_one (pt_cmpR (ko_nin K (u65 hr)) (pv 3) (pv 1) (by with_unfolding_all rfl)))) (fun _ _ _ _ _ => (pv 4)))
      (pss_cons (ps_if (pt_val (pe_own c__law_grows (hr.mono (by decide)) (by rfl) (pa_cons (pe_disp (pps_cons pe_str (pe_dget (u1 hr) (pv 0) pe_str (fun _ _ => rfl)) (pps_cons pe_str (pv 2) pps_nil)) rfl rfl (by decide) (by decide)) (pa_cons (pe_tup pa_nil) (pa_cons pe_int pa_nil))))) (pss_one (ps_ret pe_non)) pss_nil)
      (pss_cons (ps_for PassesOwn.never rfl (pi_range1 (by rfl) T.b_range (pa_cons pe_int pa_nil)) (pg_name (i := 5) sc__law_due.nd rfl (by first | exact Or.inl rfl | exact Or.inr rfl)) (pss_one (ps_if (pt_not (pt_val (pe_own c__law_grows (hr.mono (by decide)) (by rfl) (pa_cons (pv 0) (pa_cons (pv 1) (pa_cons (pv 5) pa_nil)))))) (pss_one (ps_ret (pv 5))) pss_nil)))
      (pss_one (ps_ret pe_non))))), fun xs d hR => ?_⟩)⟩
  obtain ⟨a0, a1, rfl, hR⟩ := hR
  obtain ⟨us, rows, db, ul, rl, nd, rfl, rfl, rfl⟩ := hR
  refine q_setI (d := .list ((restF rows db).map eRow)) (EnL.ev (lc2f rows.zipIdx (fun p => .int (p.2 : Nat)) (fun p => eRow p.1) (fun p => eRow p.1) (fun p => !decide (p.2 ∈ db)) (eI_en (k := .l) (ev_kgS (by first | exact erk_own rfl rfl | exact Ev.rk (ev_var rfl)) ev_str (own_rows _ _)) |>.is (enumD_map _ _)).r (by rw [List.length_zipIdx]; omega) (fun p hp => et_is (et_test (ev_op (ev_var rfl) (ev_var rfl) (rd_ninT rfl (sh_natsT db)))) (by rw [any_nat])) fun p hp _ => (ev_var rfl))) (by unfold restF; rw [List.map_map]; rfl) ?_ rfl
  have rl2 : (restF rows db).length ≤ 4 := by
    unfold restF
    rw [List.length_map]
    exact Nat.le_trans (List.length_filter_le _ _) (by rw [List.length_zipIdx]; exact rl)
  cases hg : growF us (restF rows db) [] 0 with
  | true =>
    refine q_yesI (et_B (ev_call (ea_cons (EnK.ev (en_disp2 (by decide +kernel) (ev_kgS (by first | exact erk_own rfl rfl | exact Ev.rk (ev_var rfl)) ev_str (own_units _ _)) (ev_var rfl))) (ea_cons (ev_tupA ea_nil rfl) (ea_cons ev_int ea_nil))) ⟨_, _, _, rfl, us, restF rows db, [], 0, ul, rl2, by omega, nd, rfl, rfl, rfl, rfl⟩)) hg (sx_retI ev_non rfl ?_)
    show Rs.pu _ = .pu _
    unfold dueG
    rw [if_pos hg]; rfl
  | false =>
    refine q_noI (et_B (ev_call (ea_cons (EnK.ev (en_disp2 (by decide +kernel) (ev_kgS (by first | exact erk_own rfl rfl | exact Ev.rk (ev_var rfl)) ev_str (own_units _ _)) (ev_var rfl))) (ea_cons (ev_tupA ea_nil rfl) (ea_cons ev_int ea_nil))) ⟨_, _, _, rfl, us, restF rows db, [], 0, ul, rl2, by omega, nd, rfl, rfl, rfl, rfl⟩)) hg ?_
    have ed : dueG us rows db = (List.range 60).find? fun k => !growF us rows db k := by
      unfold dueG
      rw [hg]; rfl
    rw [ed]
    refine q_for (List.range 60) (fun (i : Nat) => PyData.int i) (fun i ds => (∀ k < i, growF us rows db k = true) ∧ ∃ s5, ds = ⟨[.pu (eOwn us rows), .pu (eDb db), .pu (.list ((restF rows db).map eRow)), .un, .un, s5], []⟩) (fun i ds => ds.set 5 (.pu (.int (i : Nat))))
      ((eI_rng1 (n := 60) (ea_cons ev_int ea_nil) (by omega)).is rfl) ⟨(fun k hk => absurd hk (Nat.not_lt_zero _)), .un, rfl⟩ (fun i l ds _ ⟨_, s5, e⟩ => by subst e; exact tg1) ?_ ?_
    · rintro i i' _ hi ⟨hf, s5, rfl⟩
      obtain ⟨il, rfl⟩ : i < 60 ∧ i' = i := by
        obtain ⟨h1, h2⟩ := List.getElem?_eq_some_iff.mp hi
        rw [List.getElem_range] at h2
        rw [List.length_range] at h1
        exact ⟨h1, h2.symm⟩
      cases hk : growF us rows db i' with
      | false =>
        refine sx_yesI (et_not (et_B (ev_call (ea_cons (ev_var rfl) (ea_cons (ev_var rfl) (ea_cons (ev_var rfl) ea_nil))) (⟨_, _, _, rfl, us, rows, db, i', ul, rl, by omega, nd, rfl, rfl, rfl, rfl⟩)))) (by rw [hk]; rfl) (sx_retI (ev_var rfl) rfl ?_)
        show Rs.pu _ = .pu _
        rw [find_range il (by rw [hk]; rfl) fun k h => by rw [hf k h]; rfl]; rfl
      | true =>
        refine sx_noI (et_not (et_B (ev_call (ea_cons (ev_var rfl) (ea_cons (ev_var rfl) (ea_cons (ev_var rfl) ea_nil))) (⟨_, _, _, rfl, us, rows, db, i', ul, rl, by omega, nd, rfl, rfl, rfl, rfl⟩)))) (by rw [hk]; rfl) (sx_next ⟨fun k h => ?_, _, rfl⟩)
        rcases Nat.lt_succ_iff_lt_or_eq.mp h with z | z
        · exact hf k z
        · rw [z]; exact hk
    · rintro _ ⟨hf, s5, rfl⟩
      rw [List.length_range] at hf
      refine sx_retI ev_non rfl ?_
      show Rs.pu _ = .pu _
      have : (List.range 60).find? (fun k => !growF us rows db k) = none := List.find?_eq_none.mpr fun k hk => by rw [hf k (List.mem_range.mp hk)]; exact Bool.false_ne_true
      rw [this]; rfl
end
end L4
end

section
set_option Elab.async false
set_option linter.all false
set_option maxRecDepth 100000
set_option maxHeartbeats 1000000
set_option autoImplicit false
namespace L4
open PySem L2
section
variable {Pr : Program} {w : World} {K : PySem.W.Frag} {mg : Str → Option Value} {base : Heap} {cs : Cs}
local macro_rules
  | `(tactic| walk_at "sh") => `(tactic| first | exact rfl | assumption | exact sh_str (by first | assumption | decide +kernel) | decide +kernel)
local macro_rules
  | `(tactic| walk_at "ix") => `(tactic| first | exact rd_ixT rfl | exact rd_ixL rfl | exact rd_ixT (by assumption) | exact rd_ixL (by assumption) | exact rd_ixT (atI_nat (by assumption)) | exact rd_ixL (atI_nat (by assumption)))
local macro_rules
  | `(tactic| walk_at "add") => `(tactic| first | exact rd_addI | exact rd_addS (by first | assumption | decide) | exact rd_addT (by first | assumption | exact Nat.le_of_ble_eq_true rfl) | exact rd_addL (by first | assumption | exact Nat.le_of_ble_eq_true rfl))
local macro_rules
  | `(tactic| walk_at "mul") => `(tactic| first | exact rd_mul (.inl (by decide)) | exact rd_mul (.inr (by decide)) | exact rd_mul (.inl (by omega)) | exact rd_mul (.inr (by omega)))
local macro_rules
  | `(tactic| walk_at "mod") => `(tactic| exact rd_mod (by first | decide | omega))
local macro_rules
  | `(tactic| walk_at "div") => `(tactic| exact rd_div ⟨by first | decide | omega, by first | decide | omega⟩)
local macro_rules
  | `(tactic| walk_at "eq") => `(tactic| exact rd_eq (by walk_at "sh") (by walk_at "sh"))
local macro_rules
  | `(tactic| walk_at "ne") => `(tactic| exact rd_ne (by walk_at "sh") (by walk_at "sh"))
local macro_rules
  | `(tactic| walk_at "in") => `(tactic| first | exact rd_inT (by walk_at "sh") (by walk_at "sh") | exact rd_inL (by walk_at "sh") (by walk_at "sh"))
local macro_rules
  | `(tactic| walk_at "nin") => `(tactic| first | exact rd_ninT (by walk_at "sh") (by walk_at "sh") | exact rd_ninL (by walk_at "sh") (by walk_at "sh"))
local macro_rules
  | `(tactic| walk_at "cd") => `(tactic| first | exact cd_lenT | exact cd_lenL | exact cd_intI | exact cd_sS | exact cd_sI (by assumption) | exact cd_lenS (by assumption) | exact cd_intB)
theorem ok__law_fewest (T : Fx K mg cs) : Ok Pr w K mg base "_law_fewest" 3 ["own", "by"] (spD K rFewG) := by
  obtain ⟨f, fd, F, b, g⟩ := T.f__law_fewest
  have c__law_grows := ok__law_grows (Pr := Pr) (w := w) (base := base) T
  refine ⟨f, fd, g, F.kp, b, fn_ok F sc__law_fewest (fun xs d h => by obtain ⟨_, _, rfl, _⟩ := h; rfl) (fun cdv A outer s H E hr => ⟨_, (pss_cons (ps_set (i := 2) sc__law_fewest.nd rfl (.inl rfl) (pe_lst (pa_cons (pe_tup pa_nil) pa_nil)))
      (pss_cons (ps_for PassesOwn.never rfl (pi_range1 (by rfl) T.b_range (pa_cons (pe_callB (kc_len K) (by rfl) T.b_len bt_len (pa_cons (pe_dget (u1 hr) (pv 0) pe_str (fun _ _ => rfl)) pa_nil)) pa_nil)) (pg_name (i := 3) sc__law_fewest.nd rfl (by first | exact Or.inl rfl | exact Or.inr rfl)) (pss_one (ps_set (i := 2) sc__law_fewest.nd rfl (.inl rfl) (pe_op (ko_add K) (pv 2) (pe_lc (own := [("lot", 4)]) (g := (gName 4)) rfl sc__law_fewest.nd (kw_seq K (pv 2)) (blkOk_by (own := [("lot", 4)]) (N := N__law_fewest) (sc := defScope st__law_fewest) (by decide +kernel)) (fun _ _ _ _ _ => (pg_name (i := 4) sc__law_fewest.nd rfl (by first | exact Or.inl rfl | exact Or.inr rfl))) (fun _ _ _ _ _ => pts_nil) (fun _ _ _ _ _ => (pe_op (ko_add K) (pv 4) (pe_tup (pa_cons (pv 3) pa_nil)))))))))
      (pss_cons (ps_set (i := 5) sc__law_fewest.nd rfl (.inl rfl) (pe_callB (kc_sortD K rfl (u64 hr)) (by rfl) T.b_sorted bt_sorted (pa_cons (pe_lc (own := [("lot", 4)]) (g := (gName 4)) rfl sc__law_fewest.nd (kw_seq K (pv 2)) (blkOk_by (own := [("lot", 4)]) (N := N__law_fewest) (sc := defScope st__law_fewest) (by decide +kernel)) (fun _ _ _ _ _ => (pg_name (i := 4) sc__law_fewest.nd rfl (by first | exact Or.inl rfl | exact Or.inr rfl))) (fun _ _ _ _ _ => (pts_one (pt_not (pt_val (pe_own c__law_grows (hr.mono (by decide)) (by rfl) (pa_cons (pv 0) (pa_cons (pv 4) (pa_cons (pv 1) pa_nil)))))))) (fun _ _ _ _ _ => (pe_tup (pa_cons (pe_callB (kc_len K) (by rfl) T.b_len bt_len (pa_cons (pv 4) pa_nil)) (pa_cons (pv 4) pa_nil))))) pa_nil)))
      (pss_one (ps_ret (pe_ifExp (pt_cmpR (ko_ne K (u64 hr)) (pv 5) (pe_lst pa_nil) (nomark _)) (pe_ix (ki_seq K) (pv 5) pe_int (fun _ _ => rfl)) pe_non)))))), fun xs d hR => ?_⟩)⟩
  obtain ⟨a0, a1, rfl, hR⟩ := hR
  obtain ⟨us, rows, k, ul, rl, hk, nd, rfl, rfl, rfl⟩ := hR
  have l16 : (lotsF rows.length).length ≤ 16 := by rw [lots_len]; exact Nat.pow_le_pow_right (by decide) rl
  refine q_setI (d := .list ((lotsF 0).map eDb)) (ev_lstA (ea_cons (ev_tupA ea_nil rfl) ea_nil) rfl) rfl ?_ rfl
  refine q_for (List.range rows.length) (fun (i : Nat) => PyData.int i) (fun i ds => ∃ s3, ds = ⟨[.pu (eOwn us rows), .pu (nat k), .pu (.list ((lotsF i).map eDb)), s3, .un, .un], []⟩) (fun i ds => ds.set 3 (.pu (.int (i : Nat))))
    (eI_rng1 (n := (rows.length : Nat)) (ea_cons (ev_is (ev_cb (ea_cons (ev_kgS (by first | exact erk_own rfl rfl | exact Ev.rk (ev_var rfl)) ev_str (own_rows _ _)) ea_nil) (by walk_at "cd")) (by rw [List.length_map])) ea_nil) (by omega)) ⟨.un, rfl⟩ (fun i l ds _ ⟨s3, e⟩ => by subst e; exact tg1) ?_ ?_
  · rintro i i' _ hi ⟨s3, rfl⟩
    obtain ⟨il, rfl⟩ : i < rows.length ∧ i' = i := by
      obtain ⟨h1, h2⟩ := List.getElem?_eq_some_iff.mp hi
      rw [List.getElem_range] at h2
      rw [List.length_range] at h1
      exact ⟨h1, h2.symm⟩
    have l1 := lots_len i'
    have l2 : 2 ^ i' ≤ 2 ^ 4 := Nat.pow_le_pow_right (by decide) (by omega)
    refine sx_asgT (ev_is (y := .list ((lotsF (i' + 1)).map eDb)) (ev_op (ev_var rfl) (EnL.ev (lc1 (lotsF i') eDb (fun l => eDb (l ++ [i'])) (eI_list (ev_var rfl)).r (by omega) fun l hl => ev_is (ev_op (ev_var rfl) (ev_tupA (ea_cons (ev_var rfl) ea_nil) rfl) (rd_addT (by have := lots_in hl; rw [List.length_map]; show _ + 1 ≤ _; omega))) (eDb_snoc l i'))) (rd_addL (by rw [List.length_map, List.length_map]; omega))) ?_) tg1 ⟨_, rfl⟩
    show PyData.list _ = .list ((lotsF i' ++ (lotsF i').map (· ++ [i'])).map eDb)
    rw [List.map_append, List.map_map]; rfl
  · rintro _ ⟨s3, rfl⟩
    rw [List.length_range]
    have lf : (fineF us rows k).length ≤ 16 := Nat.le_trans (List.length_filter_le _ _) l16
    have pm := List.mergeSort_perm ((fineF us rows k).map eLenLot) (PySem.W.dataLe false id)
    refine q_setI (d := .list (((fineF us rows k).map eLenLot).mergeSort (PySem.W.dataLe false id))) (EnL.ev (en_sortD (EnL.ev (lc1f (lotsF rows.length) eDb eLenLot (fun l => !growF us rows l k) (eI_list (ev_var rfl)).r (by omega) (fun l hl => (et_not (et_B (ev_call (ea_cons (ev_var rfl) (ea_cons (ev_var rfl) (ea_cons (ev_var rfl) ea_nil))) (⟨_, _, _, rfl, us, rows, l, k, ul, rl, hk, nd, rfl, rfl, rfl, rfl⟩))))) fun l hl _ => ev_is (ev_tupA (ea_cons (ev_cb (ea_cons (ev_var rfl) ea_nil) (by walk_at "cd")) (ea_cons (ev_var rfl) ea_nil)) rfl) (by show PyData.tuple [.int _, _] = _; rw [List.length_map]; rfl))) (can_lens _) (alike_lens _) (so_lens _) (fun d hd => by obtain ⟨l, _, rfl⟩ := List.mem_map.mp hd; exact dep_len l) (by rw [List.length_map]; exact Nat.le_trans lf (by decide)))) rfl ?_ rfl
    have shp := sh_perm pm
    unfold fewG
    generalize ((fineF us rows k).map eLenLot).mergeSort (PySem.W.dataLe false id) = xs at *
    cases xs with
    | nil => exact sx_retD (ev_if (b := false) (et_is (et_test (ev_op (ev_var rfl) (ev_lstA ea_nil rfl) (rd_ne shp rfl))) rfl) (fun e => nomatch e) fun _ => ev_non) rfl
    | cons x xs => exact sx_retD (ev_if (b := true) (et_is (et_test (ev_op (ev_var rfl) (ev_lstA ea_nil rfl) (rd_ne shp rfl))) (by simp [PyData.eqv, PyData.eqvAll])) (fun _ => ev_is (y := x) (ev_op (ev_var rfl) ev_int (rd_ixL (atI_nat (j := 0) rfl))) rfl) fun e => nomatch e) rfl
theorem ok__law_text (T : Fx K mg cs) : Ok Pr w K mg base "_law_text" 1 ["own"] (spD K rLawText) := by
  obtain ⟨f, fd, F, b, g⟩ := T.f__law_text
  refine ⟨f, fd, g, F.kp, b, fn_ok F sc__law_text (fun xs d h => by obtain ⟨_, rfl, _⟩ := h; rfl) (fun cdv A outer s H E hr => ⟨_, (pss_cons (ps_setLc (i := 1) (own := [("unit", 2)]) (g := (gName 2)) rfl sc__law_text.nd rfl rfl (sw_true rfl rfl rfl (by decide +kernel)) (kw_seq K (pe_dget (u1 hr) (pv 0) pe_str (fun _ _ => rfl))) (blkOk_by (own := [("unit", 2)]) (N := N__law_text) (sc := defScope st__law_text) (by decide +kernel)) (fun _ _ _ _ _ => (pg_name (i := 2) sc__law_text.nd rfl (by first | exact Or.inl rfl | exact Or.inr rfl))) (fun _ _ _ _ _ => pts_nil) (fun _ _ _ _ _ => (pe_op (ko_add K) pe_str (pv 2))))
      (pss_one (ps_ret (kp_join K pe_str (pe_op (ko_add K) (pv 1) (pe_lc (own := [("row", 4)]) (g := (gName 4)) rfl sc__law_text.nd (kw_seq K (pe_dget (u1 hr) (pv 0) pe_str (fun _ _ => rfl))) (blkOk_by (own := [("row", 4)]) (N := N__law_text) (sc := defScope st__law_text) (by decide +kernel)) (fun _ _ _ _ _ => (pg_name (i := 4) sc__law_text.nd rfl (by first | exact Or.inl rfl | exact Or.inr rfl))) (fun _ _ _ _ _ => pts_nil) (fun _ _ _ _ _ => (kp_join K pe_str (pe_lc (own := [("part", 3)]) (g := (gName 3)) rfl sc__law_text.nd (kw_seq K (pv 4)) (blkOk_by (own := [("part", 3)]) (N := N__law_text) (by kernel_rfl)) (fun _ _ _ _ _ => (pg_name (i := 3) sc__law_text.nd rfl (by first | exact Or.inl rfl | exact Or.inr rfl))) (fun _ _ _ _ _ => pts_nil) (fun _ _ _ _ _ => (pe_callTy kc_str (by rfl) T.b_str bt_str (pa_cons (pv 3) pa_nil)))))))))))), fun xs d hR => ?_⟩)⟩
  obtain ⟨a0, rfl, hR⟩ := hR
  obtain ⟨g, ok, hn, rfl, rfl⟩ := hR
  have ul := ok.le
  have rl := ok.rle
  have tl := ok.text_le
  refine q_setI (d := .list (g.units.map fun u => .str (lUnit u))) (EnL.ev (lc1 g.units .str (fun u => .str (lUnit u)) (eI_list (ev_kgS (by first | exact erk_own rfl rfl | exact Ev.rk (ev_var rfl)) ev_str (own_units _ _))).r (by omega) fun u hu => ev_is (ev_op ev_str (ev_var rfl) (rd_addS (by have := (ok.nm u hu).le; show 5 + _ ≤ _; omega))) (congrArg PyData.str (lu_eq u)))) rfl ?_ rfl
  refine sx_retD (ev_join ev_str (Ev.rl (ev_is (y := .list (g.lines.map .str)) (ev_op (ev_var rfl) (EnL.ev (lc1 g.rows eRow (fun r => .str (lRow r)) (eI_list (ev_kgS (by first | exact erk_own rfl rfl | exact Ev.rk (ev_var rfl)) ev_str (own_rows _ _))).r (by omega) fun r hr => ev_line rfl rfl (ok.ok r hr).num (ok.nm _ (ok.ok r hr).ia).le (ok.nm _ (ok.ok r hr).ib).le)) (rd_addL (by rw [List.length_map, List.length_map]; omega))) ?_)) ?_) rfl
  · unfold DigD.lines
    rw [List.map_append, List.map_map, List.map_map]; rfl
  · exact Nat.le_trans ok.lines_sum (by decide)
end
end L4
end

section
set_option Elab.async false
set_option linter.all false
set_option maxRecDepth 100000
set_option autoImplicit false
/-! A table of greatest sums tells whether years keep the steps. -/
namespace L4
open PySem L2
def FitS (ss : List Stp) (y : Str → Int) : Prop := ∀ s ∈ ss, y s.1 + s.2.2 ≤ y s.2.1
def FeasS (ss : List Stp) : Prop := ∃ y, FitS ss y
def Ge (tb : Tab) (p : P2) (n : Int) : Prop := ∃ m, tget tb p = some m ∧ n ≤ m
def InT (us : List Str) (tb : Tab) : Prop := ∀ p n, tget tb p = some n → p.1 ∈ us ∧ p.2 ∈ us
section
variable {us : List Str} {tb tb' : Tab} {p : P2} {n m : Int} {s : Stp} {a b c o : Str}
theorem Ge.le (h : Ge tb p n) (l : m ≤ n) : Ge tb p m := by obtain ⟨k, e, h⟩ := h; exact ⟨k, e, by omega⟩
theorem step_get : tget (stepT tb s) p = if p = (s.1, s.2.1) then some (max s.2.2 ((tget tb (s.1, s.2.1)).getD s.2.2)) else tget tb p := tget_put _ _ _ _
theorem Ge.step (s : Stp) (h : Ge tb p n) : Ge (stepT tb s) p n := by
  obtain ⟨k, e, h⟩ := h
  by_cases z : p = (s.1, s.2.1)
  · subst z
    refine ⟨_, step_get.trans (if_pos rfl), ?_⟩
    rw [e]
    show n ≤ max s.2.2 k
    omega
  · exact ⟨k, step_get.trans ((if_neg z).trans e), h⟩
theorem ge_step : Ge (stepT tb s) (s.1, s.2.1) s.2.2 := ⟨_, step_get.trans (if_pos rfl), Int.le_max_left _ _⟩
theorem ge_of_step (h : Ge (stepT tb s) p n) : Ge tb p n ∨ (p = (s.1, s.2.1) ∧ n ≤ s.2.2) := by
  obtain ⟨k, e, h⟩ := h
  rw [step_get] at e
  by_cases z : p = (s.1, s.2.1)
  · rw [if_pos z] at e
    cases e
    subst z
    cases q : tget tb (s.1, s.2.1) with
    | none =>
      rw [q] at h
      have h' : n ≤ max s.2.2 s.2.2 := h
      exact .inr ⟨rfl, by omega⟩
    | some x =>
      rw [q] at h
      have h' : n ≤ max s.2.2 x := h
      by_cases l : n ≤ s.2.2
      · exact .inr ⟨rfl, l⟩
      · exact .inl ⟨x, q, by omega⟩
  · rw [if_neg z] at e
    exact .inl ⟨k, e, h⟩
theorem InT.step (h : InT us tb) (h1 : s.1 ∈ us) (h2 : s.2.1 ∈ us) : InT us (stepT tb s) := fun p n e => by
  rw [step_get] at e
  by_cases z : p = (s.1, s.2.1)
  · subst z; exact ⟨h1, h2⟩
  · rw [if_neg z] at e; exact h p n e
/-! one unit -/
theorem fws_mono (a b c : Str) (h : Ge tb p n) : Ge (fwS tb a b c) p n := by
  unfold fwS
  split
  · exact h.step _
  · exact h
theorem fold_mono {α : Type} (f : Tab → α → Tab) (hf : ∀ tb a, Ge tb p n → Ge (f tb a) p n) : ∀ (l : List α) {tb : Tab}, Ge tb p n → Ge (l.foldl f tb) p n
  | [], tb, h => h
  | a :: l, tb, h => fold_mono f hf l (hf tb a h)
theorem fw3_mono (a b : Str) (h : Ge tb p n) : Ge (fw3 us tb a b) p n := fold_mono _ (fun tb c h => fws_mono a b c h) us h
theorem fw2_mono (a : Str) (h : Ge tb p n) : Ge (fw2 us tb a) p n := fold_mono _ (fun tb c h => fw3_mono a c h) us h
theorem fws_done (h1 : Ge tb (a, c) n) (h2 : Ge tb (c, b) m) : Ge (fwS tb c a b) (a, b) (n + m) := by
  obtain ⟨x, e1, l1⟩ := h1
  obtain ⟨y, e2, l2⟩ := h2
  unfold fwS
  rw [e1, e2]
  exact Ge.le ge_step (by show n + m ≤ x + y; omega)
theorem fold_done {α : Type} (f : Tab → α → Tab) (I : Tab → Prop) (R : Tab → Prop) (hI : ∀ tb a, I tb → I (f tb a)) (hR : ∀ tb a, R tb → R (f tb a)) (x : α) (hx : ∀ tb, I tb → R (f tb x)) : ∀ (l : List α) {tb : Tab}, x ∈ l → I tb → R (l.foldl f tb)
  | [], tb, h, _ => nomatch h
  | y :: l, tb, h, i => by
    rcases List.mem_cons.mp h with e | m
    · subst e
      have gen : ∀ (l : List α) {tb : Tab}, R tb → R (l.foldl f tb) := by
        intro l
        induction l with
        | nil => exact fun h => h
        | cons y l ih => exact fun h => ih (hR _ y h)
      exact gen l (hx tb i)
    · exact fold_done f I R hI hR x hx l m (hI tb y i)
theorem fw2_done (ha : a ∈ us) (hb : b ∈ us) (h1 : Ge tb (a, c) n) (h2 : Ge tb (c, b) m) : Ge (fw2 us tb c) (a, b) (n + m) :=
  fold_done (fun tb one => fw3 us tb c one) (fun tb => Ge tb (a, c) n ∧ Ge tb (c, b) m) (fun tb => Ge tb (a, b) (n + m)) (fun tb x i => ⟨fw3_mono c x i.1, fw3_mono c x i.2⟩) (fun tb x i => fw3_mono c x i) a
    (fun tb i => fold_done (fun tb other => fwS tb c a other) (fun tb => Ge tb (a, c) n ∧ Ge tb (c, b) m) (fun tb => Ge tb (a, b) (n + m)) (fun tb x i => ⟨fws_mono c a x i.1, fws_mono c a x i.2⟩) (fun tb x i => fws_mono c a x i) b (fun tb i => fws_done i.1 i.2) us hb i) us ha ⟨h1, h2⟩
/-- what stands there came of what stood there -/
def Conv (tb0 : Tab) (c : Str) (tb : Tab) : Prop := ∀ a b n, Ge tb (a, b) n → Ge tb0 (a, b) n ∨ ∃ i j, Ge tb0 (a, c) i ∧ Ge tb0 (c, b) j ∧ n ≤ i + j
theorem conv_fws (tb0 : Tab) (hc : ∀ n, Ge tb0 (c, c) n → n ≤ 0) (h : Conv tb0 c tb) (a b : Str) : Conv tb0 c (fwS tb c a b) := by
  unfold fwS
  split
  · rename_i x y e1 e2
    intro a' b' n hn
    rcases ge_of_step hn with g | ⟨e, l⟩
    · exact h a' b' n g
    · cases e
      have l' : n ≤ x + y := l
      have g1 : Ge tb0 (a, c) x := by
        rcases h a c x ⟨x, e1, Int.le_refl _⟩ with g | ⟨i, j, g1, g2, l⟩
        · exact g
        · have := hc j g2
          exact g1.le (by omega)
      have g2 : Ge tb0 (c, b) y := by
        rcases h c b y ⟨y, e2, Int.le_refl _⟩ with g | ⟨i, j, g1, g2, l⟩
        · exact g
        · have := hc i g1
          exact g2.le (by omega)
      exact .inr ⟨x, y, g1, g2, l'⟩
  · exact h
theorem fold_keep {α : Type} (f : Tab → α → Tab) (I : Tab → Prop) : ∀ (l : List α) (hI : ∀ tb, ∀ a ∈ l, I tb → I (f tb a)) {tb : Tab}, I tb → I (l.foldl f tb)
  | [], hI, tb, h => h
  | a :: l, hI, tb, h => fold_keep f I l (fun tb x hx => hI tb x (List.mem_cons_of_mem _ hx)) (hI tb a List.mem_cons_self h)
theorem conv_fw2 (hc : ∀ n, Ge tb (c, c) n → n ≤ 0) : Conv tb c (fw2 us tb c) :=
  fold_keep _ (Conv tb c) us (fun tb1 a _ h => fold_keep _ (Conv tb c) us (fun tb2 b _ h => conv_fws tb hc h a b) h) fun a b n h => .inl h
theorem InT.fws (h : InT us tb) (ha : a ∈ us) (hb : b ∈ us) : InT us (fwS tb c a b) := by
  unfold fwS
  split
  · exact h.step ha hb
  · exact h
theorem InT.fw2 (h : InT us tb) : InT us (fw2 us tb c) := fold_keep _ (InT us) us (fun tb1 a ha h => fold_keep _ (InT us) us (fun tb2 b hb h => h.fws ha hb) h) h
def Tra (O : List Str) (tb : Tab) : Prop := ∀ o ∈ O, ∀ a b n m, Ge tb (a, o) n → Ge tb (o, b) m → Ge tb (a, b) (n + m)
theorem tra_fw2 {O : List Str} (hin : InT us tb) (hc : ∀ n, Ge tb (c, c) n → n ≤ 0) (h : Tra O tb) : Tra (O ++ [c]) (fw2 us tb c) := by
  intro o ho a b n m g1 g2
  have cv := conv_fw2 (us := us) hc
  have inA : ∀ {x y : Str} {n : Int}, Ge tb (x, y) n → x ∈ us ∧ y ∈ us := fun {x y n} ⟨k, e, _⟩ => hin (x, y) k e
  have fin : ∀ {i j : Int}, Ge tb (a, c) i → Ge tb (c, b) j → n + m ≤ i + j → Ge (fw2 us tb c) (a, b) (n + m) := fun {i j} h1 h2 l => (fw2_done (inA h1).1 (inA h2).2 h1 h2).le l
  rcases List.mem_append.mp ho with ho | ho
  · have t := h o ho
    rcases cv a o n g1 with g1 | ⟨i, j, g1, g1', l1⟩
    · rcases cv o b m g2 with g2 | ⟨i', j', g2, g2', l2⟩
      · exact fw2_mono c (t a b n m g1 g2)
      · exact fin (t a c n i' g1 g2) g2' (by omega)
    · rcases cv o b m g2 with g2 | ⟨i', j', g2, g2', l2⟩
      · exact fin g1 (t c b j m g1' g2) (by omega)
      · have := hc _ (t c c j i' g1' g2)
        exact fin g1 g2' (by omega)
  · rw [List.mem_singleton.mp ho] at g1 g2
    have g1' : Ge tb (a, c) n := by
      rcases cv a c n g1 with g | ⟨i, j, x1, x2, l⟩
      · exact g
      · have := hc _ x2; exact x1.le (by omega)
    have g2' : Ge tb (c, b) m := by
      rcases cv c b m g2 with g | ⟨i, j, x1, x2, l⟩
      · exact g
      · have := hc _ x1; exact x2.le (by omega)
    exact fin g1' g2' (Int.le_refl _)
theorem tra_all : ∀ (ls O : List Str) {tb : Tab}, InT us tb → (∀ u ∈ ls, ∀ n, Ge (ls.foldl (fw2 us) tb) (u, u) n → n ≤ 0) → Tra O tb → Tra (O ++ ls) (ls.foldl (fw2 us) tb)
  | [], O, tb, _, _, h => by rw [List.append_nil]; exact h
  | c :: ls, O, tb, hin, hd, h => by
    have hc : ∀ n, Ge tb (c, c) n → n ≤ 0 := fun n g => hd c List.mem_cons_self n (fold_mono (fw2 us) (fun tb a h => fw2_mono a h) (c :: ls) g)
    have := tra_all ls (O ++ [c]) (hin.fw2 (c := c)) (fun u hu n g => hd u (List.mem_cons_of_mem _ hu) n g) (tra_fw2 hin hc h)
    rw [List.append_assoc] at this
    exact this
theorem int_self (us' : List Str) : ∀ (ls : List Str) {tb : Tab}, (∀ u ∈ ls, u ∈ us') → InT us' tb → InT us' (selfT ls tb)
  | [], tb, _, h => h
  | u :: ls, tb, hl, h => int_self us' ls (fun v hv => hl v (List.mem_cons_of_mem _ hv)) (h.step (s := (u, u, 0)) (hl u List.mem_cons_self) (hl u List.mem_cons_self))
theorem int_tab {ss : List Stp} (hs : ∀ s ∈ ss, s.1 ∈ us ∧ s.2.1 ∈ us) : InT us (tabF ss) := fun p n e => tab_mem hs (p, n) (tget_mem e)
theorem ge_tab : ∀ (ss : List Stp) (tb : Tab), ∀ s ∈ ss, Ge (ss.foldl stepT tb) (s.1, s.2.1) s.2.2
  | [], tb, s, h => nomatch h
  | x :: ss, tb, s, h => by
    rcases List.mem_cons.mp h with e | m
    · subst e
      exact fold_mono stepT (fun tb a h => h.step a) ss ge_step
    · exact ge_tab ss _ s m
def yF (us : List Str) (tb : Tab) (u : Str) : Int := (us.filterMap fun v => tget tb (v, u)).foldl max 0
theorem fmax_ge : ∀ (l : List Int) (i : Int), i ≤ l.foldl max i ∧ ∀ x ∈ l, x ≤ l.foldl max i
  | [], i => ⟨Int.le_refl _, fun x h => nomatch h⟩
  | y :: l, i => by
    obtain ⟨h1, h2⟩ := fmax_ge l (max i y)
    refine ⟨by show i ≤ l.foldl max (max i y); omega, fun x hx => ?_⟩
    rcases List.mem_cons.mp hx with e | m
    · subst e; show x ≤ l.foldl max (max i x); omega
    · exact h2 x m
theorem fmax_in : ∀ (l : List Int) (i : Int), l.foldl max i = i ∨ l.foldl max i ∈ l
  | [], i => .inl rfl
  | y :: l, i => by
    rcases fmax_in l (max i y) with h | h
    · show l.foldl max (max i y) = i ∨ l.foldl max (max i y) ∈ y :: l
      rw [h]
      by_cases z : i ≤ y
      · exact .inr (by rw [Int.max_eq_right z]; exact List.mem_cons_self)
      · exact .inl (Int.max_eq_left (by omega))
    · exact .inr (List.mem_cons_of_mem _ h)
/-- the table's word -/
theorem grow_iff {ss : List Stp} (hs : ∀ s ∈ ss, s.1 ∈ us ∧ s.2.1 ∈ us) : (us.any fun u => decide ((tget (fwT us (tabF ss)) (u, u)).getD 0 > 0)) = false ↔ FeasS ss := by
  constructor
  · intro h
    rw [List.any_eq_false] at h
    have hd : ∀ u ∈ us, ∀ n, Ge (fwT us (tabF ss)) (u, u) n → n ≤ 0 := fun u hu n ⟨m, e, l⟩ => by
      have := h u hu
      rw [e] at this
      have : ¬ m > 0 := fun z => this (decide_eq_true z)
      omega
    have tr : Tra us (fwT us (tabF ss)) := by
      have := tra_all us [] (int_self us us (fun u hu => hu) (int_tab hs)) hd fun o ho => nomatch ho
      rwa [List.nil_append] at this
    have hin : InT us (fwT us (tabF ss)) := fold_keep _ (InT us) us (fun tb a _ h => h.fw2) (int_self us us (fun u hu => hu) (int_tab hs))
    refine ⟨yF us (fwT us (tabF ss)), fun s h => ?_⟩
    obtain ⟨sa, sb⟩ := hs s h
    have g : Ge (fwT us (tabF ss)) (s.1, s.2.1) s.2.2 := fold_mono (fw2 us) (fun tb a h => fw2_mono a h) us (fold_mono (fun tb u => stepT tb (u, u, 0)) (fun tb a h => h.step _) us (ge_tab ss [] s h))
    have up : ∀ {v : Str} {n : Int}, v ∈ us → Ge (fwT us (tabF ss)) (v, s.2.1) n → n ≤ yF us (fwT us (tabF ss)) s.2.1 := fun {v n} hv ⟨m, e, l⟩ => by
      have := (fmax_ge (us.filterMap fun v => tget (fwT us (tabF ss)) (v, s.2.1)) 0).2 m (List.mem_filterMap.mpr ⟨v, hv, e⟩)
      exact Int.le_trans l this
    rcases fmax_in (us.filterMap fun v => tget (fwT us (tabF ss)) (v, s.1)) 0 with e | m
    · have e' : yF us (fwT us (tabF ss)) s.1 = 0 := e
      rw [e', Int.zero_add]
      exact up sa g
    · obtain ⟨v, hv, e⟩ := List.mem_filterMap.mp m
      exact up hv (tr s.1 sa v s.2.1 _ _ ⟨_, e, Int.le_refl _⟩ g)
  · rintro ⟨y, hy⟩
    have f0 := (tab_fits y ss).mpr hy
    have fs : ∀ {tb : Tab} {s : Stp}, (∀ p n, tget tb p = some n → y p.1 + n ≤ y p.2) → y s.1 + s.2.2 ≤ y s.2.1 → ∀ p n, tget (stepT tb s) p = some n → y p.1 + n ≤ y p.2 := fun {tb s} h1 h2 => (fold_fits y [s] tb).mpr ⟨h1, fun x hx => by rw [List.mem_singleton.mp hx]; exact h2⟩
    have f1 : ∀ p n, tget (selfT us (tabF ss)) p = some n → y p.1 + n ≤ y p.2 := fold_keep (fun tb u => stepT tb (u, u, 0)) (fun tb => ∀ p n, tget tb p = some n → y p.1 + n ≤ y p.2) us (fun tb u _ h => fs h (by show y u + 0 ≤ y u; omega)) f0
    have f2 : ∀ p n, tget (fwT us (tabF ss)) p = some n → y p.1 + n ≤ y p.2 := fold_keep (fw2 us) (fun tb => ∀ p n, tget tb p = some n → y p.1 + n ≤ y p.2) us (fun tb o _ h => fold_keep _ (fun tb => ∀ p n, tget tb p = some n → y p.1 + n ≤ y p.2) us (fun tb a _ h => fold_keep _ (fun tb => ∀ p n, tget tb p = some n → y p.1 + n ≤ y p.2) us (fun tb b _ h => by
      unfold fwS
      split
      · rename_i x z e1 e2
        have q1 := h _ _ e1
        have q2 := h _ _ e2
        exact fs h (by show y a + (x + z) ≤ y b; have q1' : y a + x ≤ y o := q1; have q2' : y o + z ≤ y b := q2; omega)
      · exact h) h) h) f1
    rw [List.any_eq_false]
    intro u hu
    cases e : tget (fwT us (tabF ss)) (u, u) with
    | none => exact fun h => absurd (of_decide_eq_true h) (by decide)
    | some n =>
      have := f2 _ _ e
      have q : y u + n ≤ y u := this
      exact fun h => by
        have : n > 0 := of_decide_eq_true h
        omega
end
end L4
end

section
set_option Elab.async false
set_option linter.all false
set_option maxRecDepth 100000
set_option autoImplicit false
/-! What the law reckons is what the dig tells. -/
namespace L4
open PySem L2
section
variable {us : List Str} {rows : List Row} {db : List Nat} {k : Nat}
theorem told_mem {t : Td} : t ∈ toldR rows ↔ ∃ r, rows[t.1]? = some r ∧ t.2 ∈ stepsR r := by
  refine ⟨td_mem, fun ⟨r, h1, h2⟩ => ?_⟩
  unfold toldR
  refine List.mem_flatMap.mpr ⟨(r, t.1), ?_, List.mem_map.mpr ⟨t.2, h2, rfl⟩⟩
  rw [List.mem_iff_getElem?]
  exact ⟨t.1, by rw [List.getElem?_zipIdx, h1]; simp⟩
theorem fitT_iff {p q : Nat} {y : Str → Int} : FitG (gT (wtF db p q)) (toldR rows) y ↔ ∀ (i : Nat) (r : Row), rows[i]? = some r → ∀ s ∈ stepsR r, y s.1 + ((q : Int) * s.2.2 - (if i ∈ db then (p : Int) else 0)) ≤ y s.2.1 := by
  constructor
  · intro h i r hr s hs
    exact h (i, s) (told_mem.mpr ⟨r, hr, hs⟩)
  · intro h t ht
    obtain ⟨r, hr, hs⟩ := told_mem.mp ht
    exact h t.1 r hr t.2 hs
theorem fit2_iff {y : Str → Int} : FitS (told2 rows db k) y ↔ FitG (gT (wtF db k 1)) (toldR rows) y := by
  rw [fitT_iff]
  constructor
  · intro h i r hr s hs
    have := h _ (List.mem_map.mpr ⟨(i, s), told_mem.mpr ⟨r, hr, hs⟩, rfl⟩)
    have this' : y s.1 + (if i ∈ db then s.2.2 - (k : Int) else s.2.2) ≤ y s.2.1 := this
    by_cases z : i ∈ db
    · rw [if_pos z] at this' ⊢; omega
    · rw [if_neg z] at this' ⊢; omega
  · intro h s hs
    obtain ⟨t, ht, rfl⟩ := List.mem_map.mp hs
    obtain ⟨r, hr, hs⟩ := told_mem.mp ht
    have := h t.1 r hr t.2 hs
    show y t.2.1 + (if t.1 ∈ db then t.2.2.2 - (k : Int) else t.2.2.2) ≤ y t.2.2.1
    by_cases z : t.1 ∈ db
    · rw [if_pos z] at this ⊢; omega
    · rw [if_neg z] at this ⊢; omega
theorem feas2_iff : FeasS (told2 rows db k) ↔ FeasT db k 1 (toldR rows) := ⟨fun ⟨y, h⟩ => ⟨y, fit2_iff.mp h⟩, fun ⟨y, h⟩ => ⟨y, fit2_iff.mpr h⟩⟩
theorem steps_ab {r : Row} (h : r.a ∈ us ∧ r.b ∈ us) : ∀ s ∈ stepsR r, s.1 ∈ us ∧ s.2.1 ∈ us := fun s hs => by
  cases r <;> simp [stepsR] at hs
  · subst hs; exact ⟨h.2, h.1⟩
  · rcases hs with e | e <;> subst e
    · exact h
    · exact ⟨h.2, h.1⟩
  · subst hs; exact ⟨h.2, h.1⟩
  · subst hs; exact h
theorem told2_in (h : ∀ r ∈ rows, r.a ∈ us ∧ r.b ∈ us) : ∀ s ∈ told2 rows db k, s.1 ∈ us ∧ s.2.1 ∈ us := fun s hs => by
  obtain ⟨t, ht, rfl⟩ := List.mem_map.mp hs
  obtain ⟨r, hr, hs⟩ := told_mem.mp ht
  exact steps_ab (h r (List.mem_of_getElem? hr)) t.2 hs
/-- no ring grows: years by so much less -/
theorem grows_iff (h : ∀ r ∈ rows, r.a ∈ us ∧ r.b ∈ us) : growF us rows db k = false ↔ FeasT db k 1 (toldR rows) := by
  unfold growF
  rw [grow_iff (told2_in h), feas2_iff]
theorem rest_mem {r : Row} : r ∈ restF rows db ↔ ∃ i, rows[i]? = some r ∧ i ∉ db := by
  unfold restF
  rw [List.mem_map]
  constructor
  · rintro ⟨⟨r', i⟩, h, rfl⟩
    obtain ⟨h1, h2⟩ := List.mem_filter.mp h
    obtain ⟨j, hj⟩ := List.mem_iff_getElem?.mp h1
    obtain ⟨rfl, h3⟩ := zi_get hj
    exact ⟨j, h3, by simpa using h2⟩
  · rintro ⟨i, h, n⟩
    refine ⟨(r, i), List.mem_filter.mpr ⟨List.mem_iff_getElem?.mpr ⟨i, by rw [List.getElem?_zipIdx, h]; simp⟩, by simpa using n⟩, rfl⟩
theorem rest_iff (h : ∀ r ∈ rows, r.a ∈ us ∧ r.b ∈ us) : growF us (restF rows db) [] 0 = false ↔ FeasR db (toldR rows) := by
  rw [grows_iff fun r hr => by obtain ⟨i, hi, _⟩ := rest_mem.mp hr; exact h r (List.mem_of_getElem? hi)]
  constructor
  · rintro ⟨y, hy⟩
    rw [fitT_iff] at hy
    refine ⟨y, fun t ht => ?_⟩
    obtain ⟨h1, h2⟩ := List.mem_filter.mp ht
    obtain ⟨r, hr, hs⟩ := told_mem.mp h1
    obtain ⟨i, hi⟩ := List.mem_iff_getElem?.mp (rest_mem.mpr ⟨t.1, hr, by simpa using h2⟩)
    have := hy i r hi t.2 hs
    simp at this
    show y t.2.1 + t.2.2.2 ≤ y t.2.2.1
    omega
  · rintro ⟨y, hy⟩
    refine ⟨y, fitT_iff.mpr fun i r hi s hs => ?_⟩
    obtain ⟨j, hj, nj⟩ := rest_mem.mp (List.mem_of_getElem? hi)
    have := hy (j, s) (List.mem_filter.mpr ⟨told_mem.mpr ⟨r, hj, hs⟩, by simpa using nj⟩)
    have t : y s.1 + s.2.2 ≤ y s.2.1 := this
    simp
    omega
end
/-! the least -/
def Least (P : Nat → Prop) : Option Nat → Prop
  | none => ∀ k, ¬ P k
  | some k => P k ∧ ∀ j, P j → k ≤ j
theorem least_uniq {P : Nat → Prop} : ∀ {a b : Option Nat}, Least P a → Least P b → a = b
  | none, none, _, _ => rfl
  | none, some k, h1, h2 => absurd h2.1 (h1 k)
  | some k, none, h1, h2 => absurd h1.1 (h2 k)
  | some k, some j, h1, h2 => by
    have a := h1.2 j h2.1
    have b := h2.2 k h1.1
    rw [Nat.le_antisymm a b]
theorem DigOk.due_least {g : DigD} (ok : DigOk g) (db : List Nat) : Least (fun k => FeasT db k 1 g.td) (g.due db) := by
  obtain ⟨o, c, h⟩ : ∃ (o : Option (Nat × Nat)) (c : List Td), g.share db = (o, c) := ⟨_, _, rfl⟩
  cases o with
  | none =>
    have ed : g.due db = none := by unfold DigD.due; rw [h]; rfl
    rw [ed]
    exact fun k hk => ok.share_none h (feasR_of (by decide) hk)
  | some pq =>
    obtain ⟨p, q⟩ := pq
    have ed : g.due db = some (ceilF p q) := by unfold DigD.due; rw [h]; rfl
    rw [ed]
    obtain ⟨si, f⟩ := ok.share_some h
    exact ⟨(years_iff si f).mpr (Nat.le_refl _), fun j hj => (years_iff si f).mp hj⟩
structure Small (us : List Str) (rows : List Row) : Prop where
  u3 : us.length ≤ 3
  ab : ∀ r ∈ rows, r.a ∈ us ∧ r.b ∈ us
  n7 : ∀ r ∈ rows, r.n ≤ 7
theorem Small.td {us : List Str} {rows : List Row} (h : Small us rows) : TdIn us (toldR rows) 7 where
  sd t ht := by
    obtain ⟨r, hr, hs⟩ := told_mem.mp ht
    exact steps_ab (h.ab r (List.mem_of_getElem? hr)) _ hs
  le t ht := by
    obtain ⟨r, hr, hs⟩ := told_mem.mp ht
    have := h.n7 r (List.mem_of_getElem? hr)
    cases r <;> simp [stepsR, Row.n] at hs this
    · rw [hs]; show (1 : Int) ≤ 7; decide
    · rcases hs with e | e <;> rw [e] <;> (show (0 : Int) ≤ 7; decide)
    · rename_i n; rw [hs]; show (n : Int) ≤ 7; omega
    · rename_i n; rw [hs]; show -(n : Int) ≤ 7; omega
theorem first_of {p : Nat → Bool} : ∀ {n : Nat}, p n = true → ∃ k, k ≤ n ∧ p k = true ∧ ∀ j < k, p j = false := by
  intro n
  induction n using Nat.strongRecOn with
  | _ n ih =>
    intro h
    by_cases z : ∃ j, j < n ∧ p j = true
    · obtain ⟨j, hj, hp⟩ := z
      obtain ⟨k, h1, h2, h3⟩ := ih j hj hp
      exact ⟨k, by omega, h2, h3⟩
    · exact ⟨n, Nat.le_refl _, h, fun j hj => by
        cases q : p j with
        | false => rfl
        | true => exact absurd ⟨j, hj, q⟩ z⟩
theorem dueG_least {us : List Str} {rows : List Row} (sm : Small us rows) (db : List Nat) : Least (fun k => FeasT db k 1 (toldR rows)) (dueG us rows db) := by
  unfold dueG
  cases hg : growF us (restF rows db) [] 0 with
  | true =>
    rw [if_pos rfl]
    intro k hk
    have := (rest_iff sm.ab).mpr (feasR_of (by decide) hk)
    rw [hg] at this; cases this
  | false =>
    rw [if_neg Bool.false_ne_true]
    have fr := (rest_iff sm.ab).mp hg
    have sh := share_all (db := db) sm.td
    obtain ⟨o, c, h⟩ : ∃ (o : Option (Nat × Nat)) (c : List Td), shareR us (toldR rows) db 7 = (o, c) := ⟨_, _, rfl⟩
    rw [h] at sh
    cases o with
    | none => exact absurd fr sh
    | some pq =>
      obtain ⟨p, q⟩ := pq
      obtain ⟨si, f⟩ := sh
      have h21 : p ≤ 21 := by have := si.tG; have := sm.u3; omega
      have fp : FeasT db p 1 (toldR rows) := feas_more si.pos f (Nat.le_mul_of_pos_right _ si.pos)
      obtain ⟨k, k1, k2, k3⟩ := first_of (p := fun k => !growF us rows db k) (n := p) (by rw [(grows_iff sm.ab).mpr fp]; rfl)
      rw [find_range (by omega) k2 k3]
      refine ⟨(grows_iff sm.ab).mp (by simpa using k2), fun j hj => ?_⟩
      have g := (grows_iff sm.ab).mpr hj
      refine Nat.le_of_not_lt fun z => ?_
      have := k3 j z
      rw [g] at this; cases this
/-- rings -/
theorem DigOk.steps_in {g : DigD} (ok : DigOk g) : ∀ s ∈ g.rows.flatMap stepsR, s.1 ∈ g.units ∧ s.2.1 ∈ g.units := fun s hs => by
  obtain ⟨r, hr, h⟩ := List.mem_flatMap.mp hs
  exact steps_ab ⟨(ok.ok r hr).ia, (ok.ok r hr).ib⟩ s h
theorem fit0_iff {rows : List Row} {y : Str → Int} : FitG (gT (wtF [] 0 1)) (toldR rows) y ↔ ∀ s ∈ rows.flatMap stepsR, y s.1 + s.2.2 ≤ y s.2.1 := by
  rw [fitT_iff]
  constructor
  · intro h s hs
    obtain ⟨r, hr, h'⟩ := List.mem_flatMap.mp hs
    obtain ⟨i, hi⟩ := List.mem_iff_getElem?.mp hr
    have := h i r hi s h'
    simp at this
    omega
  · intro h i r hi s hs
    have := h s (List.mem_flatMap.mpr ⟨r, List.mem_of_getElem? hi, hs⟩)
    simp
    omega
theorem DigOk.ring_iff {g : DigD} (ok : DigOk g) : isN (ringD g) = true ↔ FeasT [] 0 1 g.td := by
  have e : isN (ringD g) = true ↔ (lapN gS (psT (tabF (g.rows.flatMap stepsR))) g.units.length).last = none := by
    unfold ringD yRD
    cases (lapN gS (psT (tabF (g.rows.flatMap stepsR))) g.units.length).last with
    | none => exact ⟨fun _ => rfl, fun _ => rfl⟩
    | some v => exact ⟨(fun h => nomatch h), fun h => nomatch h⟩
  rw [e, lap_iff (ps_in ok.steps_in)]
  constructor
  · rintro ⟨y, hy⟩
    exact ⟨y, fit0_iff.mpr ((ps_fits y _).mp hy)⟩
  · rintro ⟨y, hy⟩
    exact ⟨y, (ps_fits y _).mpr (fit0_iff.mp hy)⟩
end L4
end

section
set_option Elab.async false
set_option linter.all false
set_option maxRecDepth 100000
set_option autoImplicit false
/-! Two digs side by side. -/
namespace L4
open PySem L2
section
variable {usA usB : List Str} {ra rb : List Row} {da dbb : List Nat} {p q k : Nat} {fa fb : Str → Int}
/-- rows in doubt of the one, and of the other behind them -/
def bothL (m : Nat) (da dbb : List Nat) : List Nat := da ++ dbb.map (· + m)
structure Apart (usA usB : List Str) (ra rb : List Row) : Prop where
  dis : ∀ u ∈ usA, u ∉ usB
  ina : ∀ r ∈ ra, r.a ∈ usA ∧ r.b ∈ usA
  inb : ∀ r ∈ rb, r.a ∈ usB ∧ r.b ∈ usB
def sideF (usA : List Str) (fa fb : Str → Int) (u : Str) : Int := if u ∈ usA then fa u else fb u
theorem both_memA {i m : Nat} (hi : i < m) : i ∈ bothL m da dbb ↔ i ∈ da := by
  unfold bothL
  rw [List.mem_append]
  refine ⟨fun h => h.elim id fun h => ?_, .inl⟩
  obtain ⟨j, _, e⟩ := List.mem_map.mp h
  omega
theorem both_memB {i m : Nat} (ha : ∀ x ∈ da, x < m) : i + m ∈ bothL m da dbb ↔ i ∈ dbb := by
  unfold bothL
  rw [List.mem_append]
  constructor
  · rintro (h | h)
    · have := ha _ h; omega
    · obtain ⟨j, hj, e⟩ := List.mem_map.mp h
      rwa [show i = j by omega]
  · exact fun h => .inr (List.mem_map.mpr ⟨i, h, rfl⟩)
theorem fit_both (ap : Apart usA usB ra rb) (ha : ∀ x ∈ da, x < ra.length) {y : Str → Int} :
    FitG (gT (wtF (bothL ra.length da dbb) p q)) (toldR (ra ++ rb)) y ↔ FitG (gT (wtF da p q)) (toldR ra) y ∧ FitG (gT (wtF dbb p q)) (toldR rb) y := by
  rw [fitT_iff, fitT_iff, fitT_iff]
  constructor
  · intro h
    refine ⟨fun i r hi s hs => ?_, fun i r hi s hs => ?_⟩
    · have il := (List.getElem?_eq_some_iff.mp hi).1
      have := h i r (by rw [List.getElem?_append_left il]; exact hi) s hs
      simp only [both_memA il] at this
      exact this
    · have := h (i + ra.length) r (by rw [List.getElem?_append_right (by omega), Nat.add_sub_cancel]; exact hi) s hs
      simp only [both_memB ha] at this
      exact this
  · rintro ⟨h1, h2⟩ i r hi s hs
    by_cases z : i < ra.length
    · rw [List.getElem?_append_left z] at hi
      have := h1 i r hi s hs
      simp only [both_memA z]
      exact this
    · rw [List.getElem?_append_right (by omega)] at hi
      obtain ⟨j, rfl⟩ : ∃ j, i = j + ra.length := ⟨i - ra.length, by omega⟩
      rw [Nat.add_sub_cancel] at hi
      have := h2 j r hi s hs
      simp only [both_memB ha]
      exact this
theorem side_A (ap : Apart usA usB ra rb) {w : Td → Int} (h : FitG (gT w) (toldR ra) fa) : FitG (gT w) (toldR ra) (sideF usA fa fb) := fun t ht => by
  obtain ⟨r, hr, hs⟩ := told_mem.mp ht
  obtain ⟨i1, i2⟩ := steps_ab (ap.ina r (List.mem_of_getElem? hr)) t.2 hs
  have := h t ht
  show sideF usA fa fb t.2.1 + w t ≤ sideF usA fa fb t.2.2.1
  unfold sideF
  rw [if_pos i1, if_pos i2]
  exact this
theorem side_B (ap : Apart usA usB ra rb) {w : Td → Int} (h : FitG (gT w) (toldR rb) fb) : FitG (gT w) (toldR rb) (sideF usA fa fb) := fun t ht => by
  obtain ⟨r, hr, hs⟩ := told_mem.mp ht
  obtain ⟨i1, i2⟩ := steps_ab (ap.inb r (List.mem_of_getElem? hr)) t.2 hs
  have := h t ht
  show sideF usA fa fb t.2.1 + w t ≤ sideF usA fa fb t.2.2.1
  unfold sideF
  rw [if_neg fun z => ap.dis _ z i1, if_neg fun z => ap.dis _ z i2]
  exact this
theorem feas_both (ap : Apart usA usB ra rb) (ha : ∀ x ∈ da, x < ra.length) : FeasT (bothL ra.length da dbb) p q (toldR (ra ++ rb)) ↔ FeasT da p q (toldR ra) ∧ FeasT dbb p q (toldR rb) := by
  constructor
  · rintro ⟨y, hy⟩
    obtain ⟨h1, h2⟩ := (fit_both ap ha).mp hy
    exact ⟨⟨y, h1⟩, ⟨y, h2⟩⟩
  · rintro ⟨⟨fa, h1⟩, ⟨fb, h2⟩⟩
    exact ⟨sideF usA fa fb, (fit_both ap ha).mpr ⟨side_A ap h1, side_B ap h2⟩⟩
end
section
variable {db : List Nat} {td : List Td}
theorem feas_mono {k k' : Nat} (h : FeasT db k 1 td) (l : k ≤ k') : FeasT db k' 1 td := feas_more (by decide) h (by omega)
theorem fit_mono {k k' : Nat} {y : Str → Int} (h : FitG (gT (wtF db k 1)) td y) (l : k ≤ k') : FitG (gT (wtF db k' 1)) td y := fun t ht => by
  have := h t ht
  have h1 : y t.2.1 + wtF db k 1 t ≤ y t.2.2.1 := this
  show y t.2.1 + wtF db k' 1 t ≤ y t.2.2.1
  unfold wtF at h1 ⊢
  split at h1 <;> rename_i z
  · rw [if_pos z]; omega
  · rw [if_neg z]; omega
def bothO : Option Nat → Option Nat → Option Nat
  | some x, some y => some (max x y)
  | _, _ => none
theorem least_both {P Q : Nat → Prop} (mp : ∀ j k, P j → j ≤ k → P k) (mq : ∀ j k, Q j → j ≤ k → Q k) : ∀ {a b : Option Nat}, Least P a → Least Q b → Least (fun k => P k ∧ Q k) (bothO a b)
  | none, b, h1, _ => by
    show ∀ k, ¬ (P k ∧ Q k)
    exact fun k h => h1 k h.1
  | some x, none, _, h2 => by
    show ∀ k, ¬ (P k ∧ Q k)
    exact fun k h => h2 k h.2
  | some x, some y, h1, h2 => ⟨⟨mp x _ h1.1 (Nat.le_max_left _ _), mq y _ h2.1 (Nat.le_max_right _ _)⟩, fun j hj => by
    have := h1.2 j hj.1
    have := h2.2 j hj.2
    omega⟩
theorem least_congr {P Q : Nat → Prop} (h : ∀ k, P k ↔ Q k) : ∀ {a : Option Nat}, Least P a → Least Q a
  | none, l => fun k q => l k ((h k).mpr q)
  | some x, l => ⟨(h x).mp l.1, fun j hj => l.2 j ((h j).mpr hj)⟩
/-- a greater share -/
theorem feas_ratio {p q p' q' : Nat} (hq : 0 < q) (h : FeasT db p q td) (hk : p * q' ≤ p' * q) : FeasT db p' q' td := by
  obtain ⟨y, hy⟩ := h
  refine ⟨fun u => (q' : Int) * y u / (q : Int), fun t ht => ?_⟩
  have h1 : y t.2.1 + wtF db p q t ≤ y t.2.2.1 := hy t ht
  show (q' : Int) * y t.2.1 / (q : Int) + wtF db p' q' t ≤ (q' : Int) * y t.2.2.1 / (q : Int)
  refine fdiv_le (by omega) ?_
  have h2 : (q' : Int) * (y t.2.1 + wtF db p q t) ≤ (q' : Int) * y t.2.2.1 := Int.mul_le_mul_of_nonneg_left h1 (by omega)
  have h3 : (q : Int) * wtF db p' q' t ≤ (q' : Int) * wtF db p q t := by
    unfold wtF
    rw [Int.mul_sub, Int.mul_sub, ← Int.mul_assoc, ← Int.mul_assoc, Int.mul_comm (q : Int) (q' : Int)]
    split
    · have : (q' : Int) * (p : Int) ≤ (q : Int) * (p' : Int) := by rw [Int.mul_comm, Int.mul_comm (q : Int)]; exact_mod_cast hk
      omega
    · omega
  rw [Int.mul_add] at h2
  omega
theorem low_terms {p q p' q' : Nat} (h : p * q' = p' * q) (c : Nat.gcd p q = 1) (c' : Nat.gcd p' q' = 1) (hq : 0 < q) : p = p' ∧ q = q' := by
  have d1 : q ∣ q' := Nat.Coprime.dvd_of_dvd_mul_left (k := q) (m := p) (n := q') (by show Nat.gcd q p = 1; rw [Nat.gcd_comm]; exact c) ⟨p', by rw [h, Nat.mul_comm]⟩
  have d2 : q' ∣ q := Nat.Coprime.dvd_of_dvd_mul_left (k := q') (m := p') (n := q) (by show Nat.gcd q' p' = 1; rw [Nat.gcd_comm]; exact c') ⟨p, by rw [← h, Nat.mul_comm]⟩
  have e := Nat.dvd_antisymm d1 d2
  subst e
  exact ⟨Nat.eq_of_mul_eq_mul_right hq h, rfl⟩
end
/-! the whole -/
structure Beside (a b g : DigD) : Prop where
  oka : DigOk a
  okb : DigOk b
  ok : DigOk g
  us : g.units = a.units ++ b.units
  rows : g.rows = a.rows ++ b.rows
  dis : ∀ u ∈ a.units, u ∉ b.units
section
variable {a b g : DigD} {da dbb : List Nat}
theorem Beside.apart (h : Beside a b g) : Apart a.units b.units a.rows b.rows := ⟨h.dis, fun r hr => ⟨(h.oka.ok r hr).ia, (h.oka.ok r hr).ib⟩, fun r hr => ⟨(h.okb.ok r hr).ia, (h.okb.ok r hr).ib⟩⟩
theorem Beside.feas (h : Beside a b g) {p q : Nat} (ha : ∀ x ∈ da, x < a.rows.length) : FeasT (bothL a.rows.length da dbb) p q g.td ↔ FeasT da p q a.td ∧ FeasT dbb p q b.td := by
  unfold DigD.td
  rw [h.rows]
  exact feas_both h.apart ha
theorem Beside.due (h : Beside a b g) (ha : ∀ x ∈ da, x < a.rows.length) : g.due (bothL a.rows.length da dbb) = bothO (a.due da) (b.due dbb) :=
  least_uniq (h.ok.due_least _) (least_congr (fun k => (h.feas ha).symm) (least_both (fun _ _ => feas_mono) (fun _ _ => feas_mono) (h.oka.due_least da) (h.okb.due_least dbb)))
theorem Beside.ring (h : Beside a b g) : isN (ringD g) = (isN (ringD a) && isN (ringD b)) := by
  have e := h.feas (da := []) (dbb := []) (p := 0) (q := 1) (fun x hx => nomatch hx)
  have e' : FeasT [] 0 1 g.td ↔ FeasT [] 0 1 a.td ∧ FeasT [] 0 1 b.td := e
  rw [← h.ok.ring_iff, ← h.oka.ring_iff, ← h.okb.ring_iff] at e'
  rw [Bool.eq_iff_iff, Bool.and_eq_true]
  exact e'
theorem share_of_due {g : DigD} (ok : DigOk g) {db : List Nat} {k : Nat} (h : g.due db = some k) : ∃ p q c, g.share db = (some (p, q), c) ∧ k = ceilF p q ∧ ShI g.units g.td db 9999 p q ∧ FeasT db p q g.td := by
  obtain ⟨o, c, e⟩ : ∃ (o : Option (Nat × Nat)) (c : List Td), g.share db = (o, c) := ⟨_, _, rfl⟩
  unfold DigD.due at h
  rw [e] at h
  cases o with
  | none => cases h
  | some pq =>
    obtain ⟨p, q⟩ := pq
    obtain ⟨si, f⟩ := ok.share_some e
    exact ⟨p, q, c, e, (Option.some.inj h).symm, si, f⟩
/-- the share of the whole is the greater of the shares -/
theorem Beside.share (h : Beside a b g) (ha : ∀ x ∈ da, x < a.rows.length) {p q r s p0 q0 : Nat} (sa : ShI a.units a.td da 9999 p q) (fa : FeasT da p q a.td) (sb : ShI b.units b.td dbb 9999 r s) (fb : FeasT dbb r s b.td)
    (sg : ShI g.units g.td (bothL a.rows.length da dbb) 9999 p0 q0) (fg : FeasT (bothL a.rows.length da dbb) p0 q0 g.td) : (p0, q0) = if r * q ≤ p * s then (p, q) else (r, s) := by
  obtain ⟨f1, f2⟩ := (h.feas ha).mp fg
  have l1 := sa.lb p0 q0 sg.pos f1
  have l2 := sb.lb p0 q0 sg.pos f2
  by_cases z : r * q ≤ p * s
  · rw [if_pos z]
    have fw := (h.feas ha).mpr ⟨fa, feas_ratio sb.pos fb z⟩
    have l3 := sg.lb p q sa.pos fw
    obtain ⟨e1, e2⟩ := low_terms (Nat.le_antisymm l3 l1) sg.cop sa.cop sg.pos
    rw [e1, e2]
  · rw [if_neg z]
    have fw := (h.feas ha).mpr ⟨feas_ratio sa.pos fa (show p * s ≤ r * q by omega), fb⟩
    have l3 := sg.lb r s sb.pos fw
    obtain ⟨e1, e2⟩ := low_terms (Nat.le_antisymm l3 l2) sg.cop sb.cop sg.pos
    rw [e1, e2]
theorem yr_map (f : Str → Int) : ∀ {us : List Str} {u : Str}, u ∈ us → yrOf us (us.map f) u = f u
  | [], _, h => nomatch h
  | v :: us, u, h => by
    unfold yrOf
    rw [List.map_cons, List.zip_cons_cons, List.find?_cons]
    by_cases e : v = u
    · subst e; simp
    · simp only [e, decide_false]
      exact yr_map f ((List.mem_cons.mp h).resolve_left fun z => e z.symm)
theorem loose_fit {g : DigD} {db : List Nat} {k : Nat} {ys : List Int} : g.isLoose db k ys = true ↔ FitG (gT (wtF db k 1)) g.td (yrOf g.units ys) := by
  unfold DigD.isLoose
  rw [List.all_eq_true]
  constructor
  · intro h t ht
    have := h t ht
    rw [Bool.not_eq_true', decide_eq_false_iff_not] at this
    show yrOf g.units ys t.2.1 + ((1 : Nat) * t.2.2.2 - (if t.1 ∈ db then (k : Int) else 0)) ≤ yrOf g.units ys t.2.2.1
    omega
  · intro h t ht
    rw [Bool.not_eq_true', decide_eq_false_iff_not]
    have : yrOf g.units ys t.2.1 + ((1 : Nat) * t.2.2.2 - (if t.1 ∈ db then (k : Int) else 0)) ≤ yrOf g.units ys t.2.2.1 := h t ht
    omega
/-- the years of the parts, one behind the other -/
theorem Beside.loose (h : Beside a b g) (ha : ∀ x ∈ da, x < a.rows.length) {ka kb : Nat} {ya yb : List Int} (la : a.loose da ka = some ya) (lb : b.loose dbb kb = some yb) : (ya ++ yb).length = g.units.length ∧ g.isLoose (bothL a.rows.length da dbb) (max ka kb) (ya ++ yb) = true := by
  obtain ⟨fa, e1, rfl⟩ := loose_get la
  obtain ⟨fb, e2, rfl⟩ := loose_get lb
  have f1 := raised_inl e1
  have f2 := raised_inl e2
  have ey : a.units.map fa ++ b.units.map fb = g.units.map (sideF a.units fa fb) := by
    rw [h.us, List.map_append]
    congr 1
    · exact List.map_congr_left fun u hu => (if_pos hu).symm
    · exact List.map_congr_left fun u hu => (if_neg fun z => h.dis u z hu).symm
  refine ⟨by rw [ey, List.length_map], loose_fit.mpr ?_⟩
  rw [ey]
  have fw : FitG (gT (wtF (bothL a.rows.length da dbb) (max ka kb) 1)) g.td (sideF a.units fa fb) := by
    unfold DigD.td
    rw [h.rows]
    exact (fit_both h.apart ha).mpr ⟨side_A h.apart (fit_mono f1 (Nat.le_max_left _ _)), side_B h.apart (fit_mono f2 (Nat.le_max_right _ _))⟩
  intro t ht
  obtain ⟨i1, i2⟩ := h.ok.tdIn.sd t ht
  have := fw t ht
  show yrOf g.units _ t.2.1 + _ ≤ yrOf g.units _ t.2.2.1
  rw [yr_map _ i1, yr_map _ i2]
  exact this
theorem not_loose {g : DigD} (ok : DigOk g) {db : List Nat} {k j : Nat} (h : g.due db = some k) (l : j < k) (ys : List Int) : g.isLoose db j ys = false := by
  cases e : g.isLoose db j ys with
  | false => rfl
  | true =>
    have d := ok.due_least db
    rw [h] at d
    have := d.2 j ⟨_, loose_fit.mp e⟩
    omega
end
end L4
end

section
set_option Elab.async false
set_option linter.all false
set_option maxRecDepth 100000
set_option autoImplicit false
/-! The fewest. -/
namespace L4
open PySem L2 PyProof PySem.W
def allL (n : Nat) : List (List Nat) := (List.range (n + 1)).flatMap (someF n)
def leL (a b : List Nat) : Bool := PySem.W.dataLe false id (eLenLot a) (eLenLot b)
theorem all4 : ∀ n ≤ 4, (allL n).Perm (lotsF n) ∧ (allL n).Pairwise (fun a b => leL a b = true) ∧ ∀ a ∈ allL n, ∀ b ∈ allL n, leL a b = true → leL b a = true → a = b := by decide +kernel
theorem few_sorted {n : Nat} (hn : n ≤ 4) (p : List Nat → Bool) : (((((lotsF n).filter p).map eLenLot).mergeSort (PySem.W.dataLe false id)).head?).getD .none = eLot (fewF p n) := by
  obtain ⟨pm, so, an⟩ := all4 n hn
  have pf : ((allL n).filter p).Perm ((lotsF n).filter p) := pm.filter p
  have sf := so.filter p
  have ef : fewF p n = ((allL n).filter p).head? := (List.head?_filter).symm
  rw [ef]
  have pmM := (List.mergeSort_perm (((lotsF n).filter p).map eLenLot) (PySem.W.dataLe false id)).trans (pf.map eLenLot).symm
  have sM := List.pairwise_mergeSort (le := PySem.W.dataLe (β := PyData) false id) (fun a b c h1 h2 => (sortLe_total (PyProof.Rows.listOrd PyProof.Rows.itemOrd) false fun b => keyToks (id b)).trans a b c h1 h2) (fun a b => Bool.or_eq_true_iff.mpr ((sortLe_total (PyProof.Rows.listOrd PyProof.Rows.itemOrd) false fun b => keyToks (id b)).total a b)) (((lotsF n).filter p).map eLenLot)
  generalize (((lotsF n).filter p).map eLenLot).mergeSort (PySem.W.dataLe false id) = M at *
  have inA : ∀ x ∈ (allL n).filter p, x ∈ allL n := fun x hx => (List.mem_filter.mp hx).1
  cases hF : (allL n).filter p with
  | nil =>
    rw [hF] at pmM
    rw [List.map_nil] at pmM
    rw [pmM.eq_nil]; rfl
  | cons x xs =>
    rw [hF] at pmM sf inA
    cases M with
    | nil => exact absurd pmM.symm.eq_nil (fun h => nomatch h)
    | cons y M =>
      show y = eLenLot x
      have hy := pmM.mem_iff.mp List.mem_cons_self
      obtain ⟨a, ha, rfl⟩ := List.mem_map.mp hy
      rcases List.mem_cons.mp ha with e | ha'
      · rw [e]
      · have l1 : leL x a = true := (List.pairwise_cons.mp sf).1 a ha'
        have hx := pmM.mem_iff.mpr (List.mem_map_of_mem (f := eLenLot) (List.mem_cons_self (a := x) (l := xs)))
        rcases List.mem_cons.mp hx with e | hx'
        · exact e.symm
        · have l2 : leL a x = true := (List.pairwise_cons.mp sM).1 _ hx'
          rw [an a (inA _ ha) x (inA _ List.mem_cons_self) l2 l1]
/-! the sequence of all lots -/
def lx : List Nat → List Nat → Prop
  | a :: x, b :: y => a < b ∨ (a = b ∧ lx x y)
  | _, _ => False
theorem lx_asym : ∀ {x y : List Nat}, lx x y → lx y x → False
  | [], _, h, _ => h
  | _ :: _, [], h, _ => h
  | a :: x, b :: y, h1, h2 => by
    have h1' : a < b ∨ (a = b ∧ lx x y) := h1
    have h2' : b < a ∨ (b = a ∧ lx y x) := h2
    rcases h1' with h | ⟨e, h⟩
    · rcases h2' with g | ⟨e', g⟩ <;> omega
    · rcases h2' with g | ⟨e', g⟩
      · omega
      · exact lx_asym h g
theorem lx_app : ∀ {x y : List Nat} (u v : List Nat), lx x y → lx (x ++ u) (y ++ v)
  | [], _, _, _, h => h.elim
  | _ :: _, [], _, _, h => h.elim
  | a :: x, b :: y, u, v, h => by
    have h' : a < b ∨ (a = b ∧ lx x y) := h
    show a < b ∨ (a = b ∧ lx (x ++ u) (y ++ v))
    rcases h' with h | ⟨e, h⟩
    · exact .inl h
    · exact .inr ⟨e, lx_app u v h⟩
theorem lx_pre : ∀ (x : List Nat) {u v : List Nat}, lx u v → lx (x ++ u) (x ++ v)
  | [], _, _, h => h
  | a :: x, u, v, h => .inr ⟨rfl, lx_pre x h⟩
theorem lx_map (m : Nat) : ∀ {x y : List Nat}, lx x y → lx (x.map (· + m)) (y.map (· + m))
  | [], _, h => h.elim
  | _ :: _, [], h => h.elim
  | a :: x, b :: y, h => by
    have h' : a < b ∨ (a = b ∧ lx x y) := h
    show a + m < b + m ∨ (a + m = b + m ∧ _)
    rcases h' with h | ⟨e, h⟩
    · exact .inl (by omega)
    · exact .inr ⟨by rw [e], lx_map m h⟩
def Rl (a b : List Nat) : Prop := a.length < b.length ∨ (a.length = b.length ∧ lx a b)
theorem rl_asym {a b : List Nat} (h : Rl a b) (g : Rl b a) : False := by
  rcases h with h | ⟨e, h⟩ <;> rcases g with g | ⟨e', g⟩
  · omega
  · omega
  · omega
  · exact lx_asym h g
theorem pw_flat {α β : Type} {R : β → β → Prop} {f : α → List β} : ∀ {l : List α}, (∀ a ∈ l, (f a).Pairwise R) → l.Pairwise (fun a b => ∀ x ∈ f a, ∀ y ∈ f b, R x y) → (l.flatMap f).Pairwise R
  | [], _, _ => List.Pairwise.nil
  | a :: l, h1, h2 => by
    obtain ⟨h3, h4⟩ := List.pairwise_cons.mp h2
    rw [List.flatMap_cons, List.pairwise_append]
    refine ⟨h1 a List.mem_cons_self, pw_flat (fun b hb => h1 b (List.mem_cons_of_mem _ hb)) h4, fun x hx y hy => ?_⟩
    obtain ⟨b, hb, hy⟩ := List.mem_flatMap.mp hy
    exact h3 b hb x hx y hy
theorem some_pw (many : Nat) : ∀ n, (someF many n).Pairwise lx
  | 0 => List.pairwise_singleton _ _
  | n + 1 => by
    rw [someF_succ]
    refine pw_flat (fun row _ => ?_) ((some_pw many n).imp fun {a b} h x hx y hy => ?_)
    · rw [List.pairwise_map]
      exact List.pairwise_lt_range.imp fun {i j} h => lx_pre row (u := [lastF row + i]) (v := [lastF row + j]) (show lastF row + i < lastF row + j ∨ _ from .inl (by omega))
    · obtain ⟨i, _, rfl⟩ := List.mem_map.mp hx
      obtain ⟨j, _, rfl⟩ := List.mem_map.mp hy
      exact lx_app _ _ h
theorem all_pw (n : Nat) : (allL n).Pairwise Rl := by
  unfold allL
  refine pw_flat (fun k _ => ?_) (List.pairwise_lt_range.imp fun {i j} h x hx y hy => .inl (by rw [some_len hx, some_len hy]; exact h))
  exact List.Pairwise.imp_of_mem (fun {a b} ha hb h => .inr ⟨by rw [some_len ha, some_len hb], h⟩) (some_pw n k)
theorem some_all {n : Nat} : ∀ (k : Nat) {l : List Nat}, l.length = k → DbOk n l → l ∈ someF n k
  | 0, l, h, _ => by rw [List.length_eq_zero_iff.mp h]; exact List.mem_singleton_self _
  | k + 1, l, h, ok => by
    have hn : l ≠ [] := fun e => by subst e; cases h
    have e := List.dropLast_concat_getLast hn
    have ok0 : DbOk n l.dropLast := ⟨fun x hx => ok.1 x (List.dropLast_subset _ hx), ok.2.sublist (List.dropLast_sublist _)⟩
    have h0 := some_all k (l := l.dropLast) (by rw [List.length_dropLast, h]; rfl) ok0
    have lt := ok.1 _ (List.getLast_mem hn)
    have ge : lastF l.dropLast ≤ l.getLast hn := by
      by_cases z : l.dropLast = []
      · rw [z]; exact Nat.zero_le _
      · rw [lastF_ne' z]
        have p2 := ok.2
        rw [← e, List.pairwise_append] at p2
        exact p2.2.2 _ (List.getLast_mem z) _ (List.mem_singleton_self _)
    rw [someF_succ]
    refine List.mem_flatMap.mpr ⟨l.dropLast, h0, List.mem_map.mpr ⟨l.getLast hn - lastF l.dropLast, List.mem_range.mpr (by omega), ?_⟩⟩
    rw [show lastF l.dropLast + (l.getLast hn - lastF l.dropLast) = l.getLast hn by omega]
    exact e
theorem mem_all {n : Nat} {l : List Nat} : l ∈ allL n ↔ DbOk n l := by
  unfold allL
  rw [List.mem_flatMap]
  constructor
  · rintro ⟨k, _, h⟩
    exact some_dbok h
  · exact fun h => ⟨l.length, List.mem_range.mpr (Nat.lt_succ_of_le h.le), some_all _ rfl h⟩
theorem find_pw {R : List Nat → List Nat → Prop} (as : ∀ a b, R a b → R b a → False) {p : List Nat → Bool} {l : List Nat} : ∀ {L : List (List Nat)}, L.Pairwise R → l ∈ L → p l = true → (∀ x ∈ L, p x = true → x = l ∨ R l x) → L.find? p = some l
  | [], _, h, _, _ => nomatch h
  | x :: L, pw, h, hp, hm => by
    obtain ⟨p1, p2⟩ := List.pairwise_cons.mp pw
    rw [List.find?_cons]
    cases q : p x with
    | true =>
      rcases hm x List.mem_cons_self q with e | r
      · rw [e]
      · rcases List.mem_cons.mp h with e | m
        · rw [e]
        · exact (as _ _ (p1 l m) r).elim
    | false =>
      rcases List.mem_cons.mp h with e | m
      · rw [← e, hp] at q; cases q
      · exact find_pw as p2 m hp fun y hy => hm y (List.mem_cons_of_mem _ hy)
theorem find_pw' {R : List Nat → List Nat → Prop} {p : List Nat → Bool} {l : List Nat} : ∀ {L : List (List Nat)}, L.Pairwise R → L.find? p = some l → ∀ x ∈ L, p x = true → x = l ∨ R l x
  | [], _, h, _, hx, _ => nomatch hx
  | y :: L, pw, h, x, hx, hp => by
    obtain ⟨p1, p2⟩ := List.pairwise_cons.mp pw
    rw [List.find?_cons] at h
    cases q : p y with
    | true =>
      rw [q] at h
      have e : y = l := Option.some.inj h
      subst e
      rcases List.mem_cons.mp hx with e | m
      · exact .inl e
      · exact .inr (p1 x m)
    | false =>
      rw [q] at h
      rcases List.mem_cons.mp hx with e | m
      · rw [e, q] at hp; cases hp
      · exact find_pw' p2 h x m hp
theorem few_eq (p : List Nat → Bool) (n : Nat) : fewF p n = (allL n).find? p := rfl
theorem both_ok {m n : Nat} {la lb : List Nat} (ha : DbOk m la) (hb : DbOk n lb) : DbOk (m + n) (bothL m la lb) := by
  unfold bothL
  refine ⟨fun x hx => ?_, ?_⟩
  · rcases List.mem_append.mp hx with h | h
    · have := ha.1 x h; omega
    · obtain ⟨j, hj, rfl⟩ := List.mem_map.mp h
      have := hb.1 j hj; omega
  · rw [List.pairwise_append]
    refine ⟨ha.2, List.pairwise_map.mpr (hb.2.imp fun {a b} h => by omega), fun a h b h' => ?_⟩
    obtain ⟨j, hj, rfl⟩ := List.mem_map.mp h'
    have := ha.1 a h; omega
theorem both_split {m n : Nat} {l : List Nat} (h : DbOk (m + n) l) : ∃ la lb, DbOk m la ∧ DbOk n lb ∧ l = bothL m la lb := by
  refine ⟨l.filter fun x => decide (x < m), (l.filter fun x => !decide (x < m)).map (· - m), ⟨fun x hx => by simpa using (List.mem_filter.mp hx).2, h.2.filter _⟩, ⟨fun x hx => ?_, ?_⟩, ?_⟩
  · obtain ⟨y, hy, rfl⟩ := List.mem_map.mp hx
    obtain ⟨h1, h2⟩ := List.mem_filter.mp hy
    have := h.1 y h1
    have : ¬ y < m := by simpa using h2
    omega
  · rw [List.pairwise_map]
    refine List.Pairwise.imp_of_mem (fun {a b} ha hb h => ?_) (h.2.filter _)
    have : ¬ a < m := by simpa using (List.mem_filter.mp ha).2
    omega
  · unfold bothL
    have e : ((l.filter fun x => !decide (x < m)).map (· - m)).map (· + m) = l.filter fun x => !decide (x < m) := by
      rw [List.map_map]
      refine (List.map_congr_left fun x hx => ?_).trans (List.map_id _)
      have : ¬ x < m := by simpa using (List.mem_filter.mp hx).2
      show x - m + m = x
      omega
    rw [e]
    have h2 := h.2
    clear h e
    induction l with
    | nil => rfl
    | cons x l ih =>
      obtain ⟨p1, p2⟩ := List.pairwise_cons.mp h2
      by_cases z : x < m
      · rw [List.filter_cons_of_pos (by simpa using z), List.filter_cons_of_neg (by simpa using z), List.cons_append, ← ih p2]
      · have e1 : l.filter (fun x => decide (x < m)) = [] := List.filter_eq_nil_iff.mpr fun y hy => by have := p1 y hy; simp; omega
        have e2 : l.filter (fun x => !decide (x < m)) = l := List.filter_eq_self.mpr fun y hy => by have := p1 y hy; simp; omega
        rw [List.filter_cons_of_neg (by simpa using z), List.filter_cons_of_pos (by simpa using z), e1, e2]; rfl
/-- the fewest of two, side by side -/
theorem few_both {m n : Nat} {pa pb pw : List Nat → Bool} (h : ∀ la lb, DbOk m la → DbOk n lb → pw (bothL m la lb) = (pa la && pb lb)) :
    fewF pw (m + n) = match fewF pa m, fewF pb n with | some la, some lb => some (bothL m la lb) | _, _ => none := by
  rw [few_eq, few_eq, few_eq]
  have non : (∀ la lb, DbOk m la → DbOk n lb → ¬ (pa la = true ∧ pb lb = true)) → (allL (m + n)).find? pw = none := fun hh => by
    rw [List.find?_eq_none]
    intro l hl
    obtain ⟨la, lb, oa, ob, rfl⟩ := both_split (mem_all.mp hl)
    rw [h la lb oa ob, Bool.and_eq_true]
    exact hh la lb oa ob
  cases ea : (allL m).find? pa with
  | none =>
    refine non fun la lb oa ob hh => ?_
    exact List.find?_eq_none.mp ea la (mem_all.mpr oa) hh.1
  | some la =>
    cases eb : (allL n).find? pb with
    | none =>
      refine non fun la lb oa ob hh => ?_
      exact List.find?_eq_none.mp eb lb (mem_all.mpr ob) hh.2
    | some lb =>
      have oa := mem_all.mp (List.mem_of_find?_eq_some ea)
      have ob := mem_all.mp (List.mem_of_find?_eq_some eb)
      have qa : pa la = true := List.find?_some ea
      have qb : pb lb = true := List.find?_some eb
      refine find_pw (R := Rl) (fun _ _ => rl_asym) (all_pw _) (mem_all.mpr (both_ok oa ob)) (by rw [h la lb oa ob, qa, qb]; rfl) fun x hx hp => ?_
      obtain ⟨xa, xb, oxa, oxb, rfl⟩ := both_split (mem_all.mp hx)
      rw [h xa xb oxa oxb, Bool.and_eq_true] at hp
      have ra := find_pw' (all_pw m) ea xa (mem_all.mpr oxa) hp.1
      have rb := find_pw' (all_pw n) eb xb (mem_all.mpr oxb) hp.2
      have len : ∀ a b : List Nat, (bothL m a b).length = a.length + b.length := fun a b => by unfold bothL; rw [List.length_append, List.length_map]
      rcases ra with rfl | ra
      · rcases rb with rfl | rb
        · exact .inl rfl
        · rcases rb with rb | ⟨e, rb⟩
          · exact .inr (.inl (by rw [len, len]; omega))
          · exact .inr (.inr ⟨by rw [len, len]; omega, lx_pre _ (lx_map m rb)⟩)
      · rcases ra with ra | ⟨e, ra⟩
        · rcases rb with rfl | rb | ⟨e', rb⟩
          · exact .inr (.inl (by rw [len, len]; omega))
          · exact .inr (.inl (by rw [len, len]; omega))
          · exact .inr (.inl (by rw [len, len]; omega))
        · rcases rb with rfl | rb | ⟨e', rb⟩
          · exact .inr (.inr ⟨by rw [len, len]; omega, lx_app _ _ ra⟩)
          · exact .inr (.inl (by rw [len, len]; omega))
          · exact .inr (.inr ⟨by rw [len, len]; omega, lx_app _ _ ra⟩)
end L4
end

section
set_option Elab.async false
set_option linter.all false
set_option maxRecDepth 100000
set_option autoImplicit false
/-! What the law's last defs hand on. -/
namespace L4
open PySem L2
structure LrI where
  p : List PyData
  n : Nat
  a : DigD
  b : DigD
  g : DigD
  ok : PotOk n p
  hn : n ≤ 900
  h : Beside a b g
  sa : Small a.units a.rows
  sb : Small b.units b.rows
  la : a.rows.length ≤ 4
  lb : b.rows.length ≤ 4
def eOwnD (d : DigD) : PyData := eOwn d.units d.rows
def lrX (C : Addr) (i : LrI) : List Sl := [.lo 0, .pu (.list [eOwnD i.a, eOwnD i.b]), .pu (.list [eDig C i.a, eDig C i.b]), .pu (eDig C i.g)]
def lrZ (i : LrI) : List Ob := [.lst i.p]
def lrPo (i : LrI) (r : Rs) (st' : List Ob) : Prop := ∃ p' : List PyData, PotOk (i.n + 8) p' ∧ r = .pu (.bool true) ∧ st' = [.lst p']
theorem dueG_eq {g : DigD} (ok : DigOk g) (sm : Small g.units g.rows) (db : List Nat) : dueG g.units g.rows db = g.due db := least_uniq (dueG_least sm db) (ok.due_least db)
theorem dueG_lt {us : List Str} {rows : List Row} {db : List Nat} {k : Nat} (h : dueG us rows db = some k) : k < 60 := by
  unfold dueG at h
  split at h
  · cases h
  · exact List.mem_range.mp (List.mem_of_find?_eq_some h)
theorem wrong_none {g : DigD} {db : List Nat} (h : g.due db = none) : ∃ c : List Td, g.wrong db = .tuple [.str "never", .tuple (eTds c)] := by
  obtain ⟨o, c, e⟩ : ∃ (o : Option (Nat × Nat)) (c : List Td), g.share db = (o, c) := ⟨_, _, rfl⟩
  unfold DigD.due at h
  rw [e] at h
  cases o with
  | none => exact ⟨c, by unfold DigD.wrong; rw [e]⟩
  | some pq => cases h
theorem wrong_some {g : DigD} (ok : DigOk g) {db : List Nat} {k : Nat} (h : g.due db = some k) : ∃ (ys : List Int) (c : List Td), g.wrong db = .tuple [.str "by", nat k, eInts ys, .tuple (eTds c)] ∧ g.loose db k = some ys := by
  obtain ⟨p, q, c, e, rfl, si, f⟩ := share_of_due ok h
  obtain ⟨ys, hy⟩ := ok.loose_of e
  refine ⟨ys, c, ?_, hy⟩
  unfold DigD.wrong
  rw [e]
  show PyData.tuple [_, _, eInts ((g.loose db (ceilF p q)).getD []), _] = _
  rw [hy]; rfl
theorem cd_tupL {K : PySem.W.Frag} {xs : List PyData} : CD K (gTuple K) [.list xs] (.tuple xs) := fun W H vs A r Q q => by
  cases r with
  | cons r1 r =>
    cases r
    cases r1 with
    | lst hs r1 => exact ⟨_, _, rfl, .inl ⟨.inl (.inl (cut_ex _ _ hs)), fun l hl => q _ _ (Ex.new hl) (.tup (cut_new A hl) (r1.mono (cut_mono (Ex.new hl))))⟩⟩
theorem two_lots {lots : List (List Nat)} (h : lots.length = 2) : ∃ x y, lots = [x, y] := by
  match lots, h with
  | [x, y], _ => exact ⟨x, y, rfl⟩
theorem dbok_snoc {n i : Nat} {db : List Nat} (h : DbOk i db) (hi : i < n) : DbOk (i + 1) (db ++ [i]) := by
  refine ⟨fun x hx => ?_, ?_⟩
  · rcases List.mem_append.mp hx with m | m
    · have := h.1 x m; omega
    · rw [List.mem_singleton.mp m]; omega
  · rw [List.pairwise_append]
    refine ⟨h.2, List.pairwise_singleton _ _, fun a ha b hb => ?_⟩
    rw [List.mem_singleton.mp hb]
    exact h.1 a ha
theorem DbOk.more {n m : Nat} {db : List Nat} (h : DbOk n db) (l : n ≤ m) : DbOk m db := ⟨fun x hx => Nat.lt_of_lt_of_le (h.1 x hx) l, h.2⟩
theorem eqv_two (w : Str) (k : Nat) : PyData.eqv (.tuple [.str w, nat k]) (.tuple [.str w, nat k]) = true := by
  simp [PyData.eqv, PyData.eqvAll, nat]
theorem eqv_pq (p q : Nat) : PyData.eqv (.tuple [nat p, nat q]) (.tuple [nat p, nat q]) = true := by
  simp [PyData.eqv, PyData.eqvAll, nat]
theorem eInts_app (x y : List Int) : eInts (x ++ y) = .tuple (x.map .int ++ y.map .int) := by unfold eInts; rw [List.map_append]
theorem loose_len {g : DigD} {db : List Nat} {k : Nat} {ys : List Int} (h : g.loose db k = some ys) : ys.length = g.units.length := by
  obtain ⟨f, _, rfl⟩ := loose_get h
  exact List.length_map _
theorem bothO_none (x : Option Nat) : bothO x none = none := by cases x <;> rfl
theorem sh_by (k : Int) : SeqAt.shaped (.tuple [.str "by", .int k]) = true := by
  show (((PyData.str "by").canLay0 && (true && true)) && true) = true
  rw [show (PyData.str "by").canLay0 = true by decide +kernel]; rfl
end L4
end

section
set_option Elab.async false
set_option linter.all false
set_option maxRecDepth 100000
set_option maxHeartbeats 1000000
set_option autoImplicit false
namespace L4
open PySem L2
section
variable {Pr : Program} {w : World} {K : PySem.W.Frag} {mg : Str → Option Value} {base : Heap} {cs : Cs}
local macro_rules
  | `(tactic| walk_at "sh") => `(tactic| first | exact rfl | assumption | exact sh_str (by first | assumption | decide +kernel) | decide +kernel)
local macro_rules
  | `(tactic| walk_at "ix") => `(tactic| first | exact rd_ixT rfl | exact rd_ixL rfl | exact rd_ixT (by assumption) | exact rd_ixL (by assumption) | exact rd_ixT (atI_nat (by assumption)) | exact rd_ixL (atI_nat (by assumption)))
local macro_rules
  | `(tactic| walk_at "add") => `(tactic| first | exact rd_addI | exact rd_addS (by first | assumption | decide) | exact rd_addT (by first | assumption | exact Nat.le_of_ble_eq_true rfl) | exact rd_addL (by first | assumption | exact Nat.le_of_ble_eq_true rfl))
local macro_rules
  | `(tactic| walk_at "mul") => `(tactic| first | exact rd_mul (.inl (by decide)) | exact rd_mul (.inr (by decide)) | exact rd_mul (.inl (by omega)) | exact rd_mul (.inr (by omega)))
local macro_rules
  | `(tactic| walk_at "mod") => `(tactic| exact rd_mod (by first | decide | omega))
local macro_rules
  | `(tactic| walk_at "div") => `(tactic| exact rd_div ⟨by first | decide | omega, by first | decide | omega⟩)
local macro_rules
  | `(tactic| walk_at "eq") => `(tactic| exact rd_eq (by walk_at "sh") (by walk_at "sh"))
local macro_rules
  | `(tactic| walk_at "ne") => `(tactic| exact rd_ne (by walk_at "sh") (by walk_at "sh"))
local macro_rules
  | `(tactic| walk_at "in") => `(tactic| first | exact rd_inT (by walk_at "sh") (by walk_at "sh") | exact rd_inL (by walk_at "sh") (by walk_at "sh"))
local macro_rules
  | `(tactic| walk_at "nin") => `(tactic| first | exact rd_ninT (by walk_at "sh") (by walk_at "sh") | exact rd_ninL (by walk_at "sh") (by walk_at "sh"))
local macro_rules
  | `(tactic| walk_at "cd") => `(tactic| first | exact cd_lenT | exact cd_lenL | exact cd_intI | exact cd_sS | exact cd_sI (by assumption) | exact cd_lenS (by assumption) | exact cd_intB)
theorem ok__law_are_lots_right (T : Fx K mg cs) : Ok Pr w K mg base "_law_are_lots_right" 7 ["pot", "owns", "digs", "whole"] (spF K (lrX cs.Dig) lrZ lrPo) := by
  obtain ⟨f, fd, F, b, g⟩ := T.f__law_are_lots_right
  have c__law_take := ok__law_take (Pr := Pr) (w := w) (base := base) T
  have c__law_due := ok__law_due (Pr := Pr) (w := w) (base := base) T
  have c_wrong := ok_wrong (Pr := Pr) (w := w) (base := base) T
  have c_is_loose := ok_is_loose (Pr := Pr) (w := w) (base := base) T
  have c_share := ok_share (Pr := Pr) (w := w) (base := base) T
  have c__law_greater := ok__law_greater (Pr := Pr) (w := w) (base := base) T
  refine ⟨f, fd, g, F.kp, b, fn_okF F sc__law_are_lots_right (fun i => rfl) (fun cdv A outer s H E hr => ⟨_, (pss_cons (ps_set (i := 4) sc__law_are_lots_right.nd rfl (.inr rfl) (pe_callB (kc_len K) (by rfl) T.b_len bt_len (pa_cons (pe_dget (u1 hr) (pe_ix (ki_seq K) (pv 1) pe_int (fun _ _ => rfl)) pe_str (fun _ _ => rfl)) pa_nil)))
      (pss_cons (ps_set (i := 5) sc__law_are_lots_right.nd rfl (.inl rfl) (pe_lst pa_nil))
      (pss_cons (ps_for PassesOwn.never rfl (kw_seq K (pv 1)) (pg_name (i := 6) sc__law_are_lots_right.nd rfl (by first | exact Or.inl rfl | exact Or.inr rfl)) (pss_one (ps_expr (pe_bm PySem.F.plainAttrs_list PySem.F.slot_list_append PySem.F.type_list_append mt_append (pv 5) (pa_cons (pe_callTy (kc_tuple K) (by rfl) T.b_tuple bt_tuple (pa_cons (pe_lc (own := [("at", 7)]) (g := (gName 7)) rfl sc__law_are_lots_right.nd (pi_range1 (by rfl) T.b_range (pa_cons (pe_callB (kc_len K) (by rfl) T.b_len bt_len (pa_cons (pe_dget (u1 hr) (pv 6) pe_str (fun _ _ => rfl)) pa_nil)) pa_nil)) (blkOk_by (own := [("at", 7)]) (N := N__law_are_lots_right) (sc := defScope st__law_are_lots_right) (by decide +kernel)) (fun _ _ _ _ _ => (pg_name (i := 7) sc__law_are_lots_right.nd rfl (by first | exact Or.inl rfl | exact Or.inr rfl))) (fun _ _ _ _ _ => (pts_one (pt_cmpR op_gt (pe_own c__law_take (hr.mono (by decide)) (by rfl) (pa_cons (pv 0) (pa_cons pe_int pa_nil))) pe_int (nomark _)))) (fun _ _ _ _ _ => (pv 7))) pa_nil)) pa_nil)))))
      (pss_cons (ps_set (i := 8) sc__law_are_lots_right.nd rfl (.inl rfl) (pe_op (ko_add K) (pe_ix (ki_seq K) (pv 5) pe_int (fun _ _ => rfl)) (pe_callTy (kc_tuple K) (by rfl) T.b_tuple bt_tuple (pa_cons (pe_lc (own := [("at", 7)]) (g := (gName 7)) rfl sc__law_are_lots_right.nd (kw_seq K (pe_ix (ki_seq K) (pv 5) pe_int (fun _ _ => rfl))) (blkOk_by (own := [("at", 7)]) (N := N__law_are_lots_right) (sc := defScope st__law_are_lots_right) (by decide +kernel)) (fun _ _ _ _ _ => (pg_name (i := 7) sc__law_are_lots_right.nd rfl (by first | exact Or.inl rfl | exact Or.inr rfl))) (fun _ _ _ _ _ => pts_nil) (fun _ _ _ _ _ => (pe_op (ko_add K) (pv 7) (pv 4)))) pa_nil))))
      (pss_cons (ps_setLc (i := 9) (own := [("own", 6), ("lot", 10)]) (g := (gTup K 2 (gCons (gName 6) (gCons (gName 10) gNil)))) rfl sc__law_are_lots_right.nd rfl rfl (sw_true rfl rfl rfl (by decide +kernel)) (kw_z2 K (by rfl) T.b_zip (pa_cons (pv 1) (pa_cons (pv 5) pa_nil))) (blkOk_by (own := [("own", 6), ("lot", 10)]) (N := N__law_are_lots_right) (sc := defScope st__law_are_lots_right) (by decide +kernel)) (fun _ _ _ _ _ => (kg_tup K rfl (pgs_cons (pg_name (i := 6) sc__law_are_lots_right.nd rfl (by first | exact Or.inl rfl | exact Or.inr rfl)) (pgs_cons (pg_name (i := 10) sc__law_are_lots_right.nd rfl (by first | exact Or.inl rfl | exact Or.inr rfl)) pgs_nil)))) (fun _ _ _ _ _ => pts_nil) (fun _ _ _ _ _ => (pe_own c__law_due (hr.mono (by decide)) (by rfl) (pa_cons (pv 6) (pa_cons (pv 10) pa_nil)))))
      (pss_cons (ps_par (i := 11) (j := 12) rfl sc__law_are_lots_right.nd rfl rfl (by decide) rfl rfl (pa_cons (pe_own c_wrong (hr.mono (by decide)) (by rfl) (pa_cons (pv 3) (pa_cons (pv 8) pa_nil))) (pa_cons (pe_lc (own := [("dig", 13), ("lot", 10)]) (g := (gTup K 2 (gCons (gName 13) (gCons (gName 10) gNil)))) rfl sc__law_are_lots_right.nd (kw_z2 K (by rfl) T.b_zip (pa_cons (pv 2) (pa_cons (pv 5) pa_nil))) (blkOk_by (own := [("dig", 13), ("lot", 10)]) (N := N__law_are_lots_right) (sc := defScope st__law_are_lots_right) (by decide +kernel)) (fun _ _ _ _ _ => (kg_tup K rfl (pgs_cons (pg_name (i := 13) sc__law_are_lots_right.nd rfl (by first | exact Or.inl rfl | exact Or.inr rfl)) (pgs_cons (pg_name (i := 10) sc__law_are_lots_right.nd rfl (by first | exact Or.inl rfl | exact Or.inr rfl)) pgs_nil)))) (fun _ _ _ _ _ => pts_nil) (fun _ _ _ _ _ => (pe_own c_wrong (hr.mono (by decide)) (by rfl) (pa_cons (pv 13) (pa_cons (pv 10) pa_nil))))) pa_nil)) (by rfl))
      (pss_cons (ps_for PassesOwn.never rfl (kw_z2 K (by rfl) T.b_zip (pa_cons (pv 9) (pa_cons (pv 12) pa_nil))) (kg_tup K rfl (pgs_cons (pg_name (i := 14) sc__law_are_lots_right.nd rfl (by first | exact Or.inl rfl | exact Or.inr rfl)) (pgs_cons (pg_name (i := 15) sc__law_are_lots_right.nd rfl (by first | exact Or.inl rfl | exact Or.inr rfl)) pgs_nil))) (pss_one (ps_if (PW.pt (pw_or (pt_cmpR (ko_ne K (u64 hr)) (pe_ix (ki_seq K) (pv 15) pe_int (fun _ _ => rfl)) (pe_ifExp (pt_cmp (pc_isN (pv 14)) (nomark _)) pe_str pe_str) (nomark _)) (pw_or1 (PW.pt (pw_and (pt_cmp (pc_notN (pv 14)) (nomark _)) (pw_and1 (pt_cmpR (ko_ne K (u64 hr)) (pe_ix (ki_seq K) (pv 15) pe_int (fun _ _ => rfl)) (pv 14) (nomark _)))))))) (pss_one (ps_ret pe_bl)) pss_nil)))
      (pss_cons (ps_if (pt_cmpR (ko_in K (u65 hr)) pe_non (pv 9) (by with_unfolding_all rfl)) (pss_one (ps_ret (pe_cmpR (ko_eq K (u64 hr)) (pe_ix (ki_seq K) (pv 11) pe_int (fun _ _ => rfl)) pe_str (nomark _)))) pss_nil)
      (pss_cons (ps_if (PW.pt (pw_or (pt_cmpR (ko_ne K (u64 hr)) (pe_slice (ks_g K) (pv 11) po_none (po_some pe_int)) (pe_tup (pa_cons pe_str (pa_cons (pe_callB (kc_max K rfl) (by rfl) T.b_max bt_max (pa_cons (pv 9) pa_nil)) pa_nil))) (nomark _)) (pw_or1 (pt_cmpR op_notBl (pe_own c_is_loose (hr.mono (by decide)) (by rfl) (pa_cons (pv 3) (pa_cons (pv 8) (pa_cons (pe_callB (kc_max K rfl) (by rfl) T.b_max bt_max (pa_cons (pv 9) pa_nil)) (pa_cons (pe_op (ko_add K) (pe_ix (ki_seq K) (pe_ix (ki_seq K) (pv 12) pe_int (fun _ _ => rfl)) pe_int (fun _ _ => rfl)) (pe_ix (ki_seq K) (pe_ix (ki_seq K) (pv 12) pe_int (fun _ _ => rfl)) pe_int (fun _ _ => rfl))) pa_nil))))) pe_bl (nomark _))))) (pss_one (ps_ret pe_bl)) pss_nil)
      (pss_cons (ps_setLc (i := 16) (own := [("dig", 13), ("lot", 10)]) (g := (gTup K 2 (gCons (gName 13) (gCons (gName 10) gNil)))) rfl sc__law_are_lots_right.nd rfl rfl (sw_true rfl rfl rfl (by decide +kernel)) (kw_z2 K (by rfl) T.b_zip (pa_cons (pv 2) (pa_cons (pv 5) pa_nil))) (blkOk_by (own := [("dig", 13), ("lot", 10)]) (N := N__law_are_lots_right) (sc := defScope st__law_are_lots_right) (by decide +kernel)) (fun _ _ _ _ _ => (kg_tup K rfl (pgs_cons (pg_name (i := 13) sc__law_are_lots_right.nd rfl (by first | exact Or.inl rfl | exact Or.inr rfl)) (pgs_cons (pg_name (i := 10) sc__law_are_lots_right.nd rfl (by first | exact Or.inl rfl | exact Or.inr rfl)) pgs_nil)))) (fun _ _ _ _ _ => pts_nil) (fun _ _ _ _ _ => (pe_slice (ks_g K) (pe_own c_share (hr.mono (by decide)) (by rfl) (pa_cons (pv 13) (pa_cons (pv 10) pa_nil))) po_none (po_some pe_int))))
      (pss_cons (ps_if (pt_cmpR (ko_ne K (u64 hr)) (pe_slice (ks_g K) (pe_own c_share (hr.mono (by decide)) (by rfl) (pa_cons (pv 3) (pa_cons (pv 8) pa_nil))) po_none (po_some pe_int)) (pe_own c__law_greater (hr.mono (by decide)) (by rfl) (pa_cons (pe_ix (ki_seq K) (pv 16) pe_int (fun _ _ => rfl)) (pa_cons (pe_ix (ki_seq K) (pv 16) pe_int (fun _ _ => rfl)) pa_nil))) (nomark _)) (pss_one (ps_ret pe_bl)) pss_nil)
      (pss_one (ps_ret (pe_or (pe_cmpR (ko_eq K (u64 hr)) (pe_callB (kc_max K rfl) (by rfl) T.b_max bt_max (pa_cons (pv 9) pa_nil)) pe_int (nomark _)) (pe_one (pe_cmpR op_notBl (pe_own c_is_loose (hr.mono (by decide)) (by rfl) (pa_cons (pv 3) (pa_cons (pv 8) (pa_cons (pe_op op_sub (pe_callB (kc_max K rfl) (by rfl) T.b_max bt_max (pa_cons (pv 9) pa_nil)) pe_int) (pa_cons (pe_op (ko_add K) (pe_ix (ki_seq K) (pe_ix (ki_seq K) (pv 12) pe_int (fun _ _ => rfl)) pe_int (fun _ _ => rfl)) (pe_ix (ki_seq K) (pe_ix (ki_seq K) (pv 12) pe_int (fun _ _ => rfl)) pe_int (fun _ _ => rfl))) pa_nil))))) pe_bl (nomark _))))))))))))))))), fun i => ?_⟩)⟩
  obtain ⟨p, n, a, b, g, ok, hn, h, sa, sb, la, lb⟩ := i
  refine q_setI (d := nat a.rows.length) (ev_cb (ea_cons (ev_kgS (Ev.rk (ev_op (ev_var rfl) ev_int (rd_ixL (atI_nat (j := 0) rfl)))) ev_str (own_rows _ _)) ea_nil) (by walk_at "cd")) (by rw [List.length_map]; rfl) ?_ rfl
  refine q_new (en_lst ea_nil (by decide)) ?_
  refine sx_seq (Mid := fun ds => ∃ (da dbb : List Nat) (p' : List PyData) (s6 : Sl), DbOk a.rows.length da ∧ DbOk b.rows.length dbb ∧ PotOk (n + 8) p' ∧ ds = ⟨[.lo 0, .pu (.list [eOwnD a, eOwnD b]), .pu (.list [eDig cs.Dig a, eDig cs.Dig b]), .pu (eDig cs.Dig g), .pu (nat a.rows.length), .lo 1, s6, .un, .un, .un, .un, .un, .un, .un, .un, .un, .un], [.lst p', .lst [eDb da, eDb dbb]]⟩)
    (sx_for [a, b] eOwnD (fun i ds => ∃ (lots : List (List Nat)) (p' : List PyData) (s6 : Sl), lots.length = i ∧ (∀ (j : Nat) (l : List Nat) (d : DigD), lots[j]? = some l → [a, b][j]? = some d → DbOk d.rows.length l) ∧ PotOk (n + 4 * i) p' ∧ ds = ⟨[.lo 0, .pu (.list [eOwnD a, eOwnD b]), .pu (.list [eDig cs.Dig a, eDig cs.Dig b]), .pu (eDig cs.Dig g), .pu (nat a.rows.length), .lo 1, s6, .un, .un, .un, .un, .un, .un, .un, .un, .un, .un], [.lst p', .lst (lots.map eDb)]⟩) (fun d ds => ds.set 6 (.pu (eOwnD d)))
      (eI_list (ev_var rfl)) ⟨[], p, .un, rfl, (fun j l d hl => by simp at hl), ok, rfl⟩ (fun i l ds _ ⟨lots, p', s6, _, _, _, e⟩ => by subst e; exact tg1) ?_ ?_) ?_
  · rintro i d _ hi ⟨lots, p1, s6, ll, lo, ok1, rfl⟩
    have i2 : i < 2 := (List.getElem?_eq_some_iff.mp hi).1
    have dl : d.rows.length ≤ 4 := by
      rcases List.mem_cons.mp (List.mem_of_getElem? hi) with e | e
      · rw [e]; exact la
      · rw [List.mem_singleton.mp e]; exact lb
    refine sx_app (t := tVar 5) (es_lo (l := 1) rfl ⟨1, _, rfl, rfl, es_cb (eas_one (es_lcT (List.range d.rows.length) (fun (i : Nat) => PyData.int i) (fun i ds => ds.set 7 (.pu (.int (i : Nat)))) (fun j ds acc => ∃ (db : List Nat) (p' : List PyData), DbOk j db ∧ acc = db.map nat ∧ PotOk (n + 4 * i + j) p' ∧ ds = ⟨[.lo 0, .pu (.list [eOwnD a, eOwnD b]), .pu (.list [eDig cs.Dig a, eDig cs.Dig b]), .pu (eDig cs.Dig g), .pu (nat a.rows.length), .lo 1, .pu (eOwnD d), .un, .un, .un, .un, .un, .un, .un, .un, .un, .un], [.lst p', .lst (lots.map eDb)]⟩) (js := [7])
      (eI_rng1 (n := (d.rows.length : Nat)) (ea_cons (ev_is (ev_cb (ea_cons (ev_kgS (by first | exact erk_own rfl rfl | exact Ev.rk (ev_var rfl)) ev_str (own_rows _ _)) ea_nil) (by walk_at "cd")) (by rw [List.length_map])) ea_nil) (by omega)) (by rw [List.length_range]; omega) (fun j hj => hj) ⟨[], p1, ⟨(fun x hx => nomatch hx), List.Pairwise.nil⟩, rfl, ok1, rfl⟩ (fun i l ds acc _ ⟨db, p', _, _, _, e⟩ => by subst e; exact tg1) ?_ ?_))⟩)
    · rintro j j' _ acc hj ⟨db, p2, dk, rfl, ok2, rfl⟩
      obtain ⟨jl, rfl⟩ : j < d.rows.length ∧ j' = j := by
        obtain ⟨h1, h2⟩ := List.getElem?_eq_some_iff.mp hj
        rw [List.getElem_range] at h2
        rw [List.length_range] at h1
        exact ⟨h1, h2.symm⟩
      refine ets_test (es_op (P1 := fun f ds1 => ∃ (v : Nat) (p' : List PyData), f = .pu (nat v) ∧ PotOk (n + 4 * i + j' + 1) p' ∧ ds1 = ⟨[.lo 0, .pu (.list [eOwnD a, eOwnD b]), .pu (.list [eDig cs.Dig a, eDig cs.Dig b]), .pu (eDig cs.Dig g), .pu (nat a.rows.length), .lo 1, .pu (eOwnD d), .pu (.int (j' : Nat)), .un, .un, .un, .un, .un, .un, .un, .un, .un], [.lst p', .lst (lots.map eDb)]⟩)
        (es_take (l := 0) (u := 3) rfl rfl (ea_cons ev_int ea_nil) ok2 (by omega) (by omega) (by omega) fun v p' hv ok' => ⟨v, p', rfl, ok', rfl⟩) ?_)
      rintro _ _ ⟨v, p', rfl, ok', rfl⟩
      refine ⟨_, rfl, es_ev ev_int ⟨_, _, rfl, rd_gt, _, rfl, fun _ => es_ev (ev_var rfl) ⟨_, rfl, db ++ [j'], p', dbok_snoc dk jl, by rw [List.map_append]; rfl, ok', rfl⟩, fun _ => ⟨db, p', dk.more (by omega), rfl, ok', rfl⟩⟩⟩
    · rintro _ acc ⟨db, p2, dk, rfl, ok2, rfl⟩
      rw [List.length_range] at dk ok2
      refine ⟨[.list (db.map nat)], _, rfl, cd_tupL, _, lots.map eDb, rfl, rfl, by rw [List.length_map]; omega, lots ++ [db], p2, _, by rw [List.length_append, ll]; rfl, fun j l d' hl hd => ?_, ok2.mono (by omega), by rw [List.map_append]; rfl⟩
      rw [List.getElem?_append] at hl
      split at hl
      · exact lo j l d' hl hd
      · rename_i z
        have e : j = i := by
          rcases Nat.lt_or_ge (j - lots.length) 1 with z' | z'
          · omega
          · rw [List.getElem?_eq_none (by show 1 ≤ _; omega)] at hl; cases hl
        subst e
        rw [hi] at hd
        cases hd
        rw [ll, Nat.sub_self] at hl
        cases hl
        exact dk
  · rintro _ ⟨lots, p1, s6, ll, lo, ok1, rfl⟩
    obtain ⟨da, dbb, rfl⟩ := two_lots ll
    exact ⟨da, dbb, p1, s6, lo 0 da a rfl rfl, lo 1 dbb b rfl rfl, ok1, rfl⟩
  rintro _ ⟨da, dbb, p1, s6, oka, okb, ok1, rfl⟩
  have ha : ∀ x ∈ da, x < a.rows.length := oka.1
  have dbw : DbOk g.rows.length (bothL a.rows.length da dbb) := by rw [h.rows, List.length_append]; exact both_ok oka okb
  have lda := oka.le
  have ldb := okb.le
  have lv : ∀ o ∈ [Ob.lst p1], o.live = true ∧ below 1 o = true := fun o ho => by rw [List.mem_singleton.mp ho]; exact ⟨rfl, rfl⟩
  refine sx_frz (l := 1) rfl rfl (by show 1 ≤ 1; decide) ?_
  refine q_setI (d := eDb (bothL a.rows.length da dbb)) (ev_op (ev_op (ev_var rfl) ev_int (rd_ixL (atI_nat (j := 0) rfl))) (ev_tupleR (EnL.rl (lc1 dbb nat (fun i => nat (i + a.rows.length)) (eI_tup (ev_op (ev_var rfl) ev_int (rd_ixL (atI_nat (j := 1) rfl)))).r (by omega) fun i hi => ev_is (ev_op (ev_var rfl) (ev_var rfl) (rd_addI)) rfl))) (rd_addT (by rw [List.length_map, List.length_map]; omega))) (by show PyData.tuple _ = .tuple _; unfold bothL; rw [List.map_append, List.map_map]; rfl) ?_ rfl
  refine q_setI (d := .list [eOpt (a.due da), eOpt (b.due dbb)]) (EnL.ev (lc2 [(a, da), (b, dbb)] (fun p => eOwnD p.1) (fun p => eDb p.2) (fun p => eOpt (p.1.due p.2)) ((eI_z2 (k1 := .l) (k2 := .l) (xs := [eOwnD a, eOwnD b]) (ys := [eDb da, eDb dbb]) (ev_var rfl) (ev_var rfl)).is rfl).r (by show 2 ≤ 90000; decide) fun p hp => ?_)) rfl ?_ rfl
  · rcases List.mem_cons.mp hp with e | e
    · subst e
      exact (ev_call (ea_cons (ev_var rfl) (ea_cons (ev_var rfl) ea_nil)) (⟨_, _, rfl, a.units, a.rows, da, sa.u3, la, h.oka.nd, rfl, rfl, by rw [dueG_eq h.oka sa]⟩))
    · rw [List.mem_singleton.mp e]
      exact (ev_call (ea_cons (ev_var rfl) (ea_cons (ev_var rfl) ea_nil)) (⟨_, _, rfl, b.units, b.rows, dbb, sb.u3, lb, h.okb.nd, rfl, rfl, by rw [dueG_eq h.okb sb]⟩))
  refine q_par (s1 := .pu (g.wrong (bothL a.rows.length da dbb))) (s2 := .pu (.list [a.wrong da, b.wrong dbb])) (Ev.ek (ev_call (ea_cons (ev_var rfl) (ea_cons (ev_var rfl) ea_nil)) (⟨_, _, rfl, g, _, h.ok, dbw, rfl, rfl, rfl⟩))) (Ev.ek (EnL.ev (lc2 [(a, da), (b, dbb)] (fun p => eDig cs.Dig p.1) (fun p => eDb p.2) (fun p => p.1.wrong p.2) ((eI_z2 (k1 := .l) (k2 := .l) (xs := [eDig cs.Dig a, eDig cs.Dig b]) (ys := [eDb da, eDb dbb]) (ev_var rfl) (ev_var rfl)).is rfl).r (by show 2 ≤ 90000; decide) fun p hp => ?_))) ?_
  · rcases List.mem_cons.mp hp with e | e
    · subst e
      exact (ev_call (ea_cons (ev_var rfl) (ea_cons (ev_var rfl) ea_nil)) (⟨_, _, rfl, a, da, h.oka, oka, rfl, rfl, rfl⟩))
    · rw [List.mem_singleton.mp e]
      exact (ev_call (ea_cons (ev_var rfl) (ea_cons (ev_var rfl) ea_nil)) (⟨_, _, rfl, b, dbb, h.okb, okb, rfl, rfl, rfl⟩))
  refine sx_seq (Mid := fun ds => ∃ s14 s15, ds = ⟨[.lo 0, .pu (.list [eOwnD a, eOwnD b]), .pu (.list [eDig cs.Dig a, eDig cs.Dig b]), .pu (eDig cs.Dig g), .pu (nat a.rows.length), .pu (.list [eDb da, eDb dbb]), frzSl 1 (.list [eDb da, eDb dbb]) s6, .un, .pu (eDb (bothL a.rows.length da dbb)), .pu (.list [eOpt (a.due da), eOpt (b.due dbb)]), .un, .pu (g.wrong (bothL a.rows.length da dbb)), .pu (.list [a.wrong da, b.wrong dbb]), .un, s14, s15, .un], [.lst p1, .gone]⟩)
    (sx_for [(a, da), (b, dbb)] (fun p => .tuple [eOpt (p.1.due p.2), p.1.wrong p.2]) (fun _ ds => ∃ s14 s15, ds = ⟨[.lo 0, .pu (.list [eOwnD a, eOwnD b]), .pu (.list [eDig cs.Dig a, eDig cs.Dig b]), .pu (eDig cs.Dig g), .pu (nat a.rows.length), .pu (.list [eDb da, eDb dbb]), frzSl 1 (.list [eDb da, eDb dbb]) s6, .un, .pu (eDb (bothL a.rows.length da dbb)), .pu (.list [eOpt (a.due da), eOpt (b.due dbb)]), .un, .pu (g.wrong (bothL a.rows.length da dbb)), .pu (.list [a.wrong da, b.wrong dbb]), .un, s14, s15, .un], [.lst p1, .gone]⟩) (fun p ds => (ds.set 14 (.pu (eOpt (p.1.due p.2)))).set 15 (.pu (p.1.wrong p.2)))
      ((eI_z2 (k1 := .l) (k2 := .l) (xs := [eOpt (a.due da), eOpt (b.due dbb)]) (ys := [a.wrong da, b.wrong dbb]) (ev_var rfl) (ev_var rfl)).is rfl) ⟨.un, .un, rfl⟩ (fun i l ds _ ⟨s14, s15, e⟩ => by subst e; exact tg2) ?_ (fun ds h => h)) ?_
  · rintro i ⟨d, lot⟩ _ hi ⟨s14, s15, rfl⟩
    have okd : DigOk d := by
      rcases List.mem_cons.mp (List.mem_of_getElem? hi) with e | e
      · cases e; exact h.oka
      · cases List.mem_singleton.mp e; exact h.okb
    have kne : PyData.eqv (.str "never") (.str "never") = true := by decide +kernel
    have kby : PyData.eqv (.str "by") (.str "by") = true := by decide +kernel
    dsimp only
    cases hd : d.due lot with
    | none =>
      obtain ⟨c, hw⟩ := wrong_none hd
      rw [hw]
      exact sx_noI (b := false) (et_or (a := false) (b := false) (et_is (et_test (ev_op (ev_op (ev_var rfl) ev_int (rd_ixT (atI_nat (j := 0) rfl))) (ev_ifV (et_test (ev_isN (ev_var rfl))) (fun _ => ev_str) (fun _ => ev_str)) (rd_ne (by decide +kernel) (by decide +kernel)))) (by decide +kernel)) fun _ => et_and (a := false) (b := false) (et_is (et_test (ev_notN (ev_var rfl))) rfl) fun e => nomatch e) rfl (sx_next ⟨_, _, rfl⟩)
    | some k =>
      obtain ⟨ys, c, hw, _⟩ := wrong_some okd hd
      rw [hw]
      exact sx_noI (b := false) (et_or (a := false) (b := false) (et_is (et_test (ev_op (ev_op (ev_var rfl) ev_int (rd_ixT (atI_nat (j := 0) rfl))) (ev_ifV (et_test (ev_isN (ev_var rfl))) (fun _ => ev_str) (fun _ => ev_str)) (rd_ne (by decide +kernel) (by show SeqAt.shaped (if false = true then PyData.str "never" else .str "by") = true; decide +kernel)))) (by show (!PyData.eqv (.str "by") (if false = true then PyData.str "never" else .str "by")) = false; decide +kernel)) fun _ => et_and (a := true) (b := false) (et_is (et_test (ev_notN (ev_var rfl))) rfl) fun _ => et_is (et_test (ev_op (ev_op (ev_var rfl) ev_int (rd_ixT (atI_nat (j := 1) rfl))) (ev_var rfl) (rd_ne rfl rfl))) (by simp [PyData.eqv, nat, eOpt])) rfl (sx_next ⟨_, _, rfl⟩)
  generalize frzSl 1 (.list [eDb da, eDb dbb]) s6 = s6
  rintro _ ⟨s14, s15, rfl⟩
  have hg := h.due (da := da) (dbb := dbb) ha
  have kne : PyData.eqv (.str "never") (.str "never") = true := by decide +kernel
  have never : g.due (bothL a.rows.length da dbb) = none → lrPo ⟨p, n, a, b, g, ok, hn, h, sa, sb, la, lb⟩ (.pu (.bool true)) [.lst p1] := fun _ => ⟨p1, ok1, rfl, rfl⟩
  cases hda : a.due da with
  | none =>
    have hgn : g.due (bothL a.rows.length da dbb) = none := by rw [hg, hda]; rfl
    obtain ⟨c, hw⟩ := wrong_none hgn
    rw [hw]
    have shx : SeqAt.shaped (.list [eOpt none, eOpt (b.due dbb)]) = true := by cases b.due dbb <;> rfl
    exact q_yesI (b := true) (et_test (ev_op ev_non (ev_var rfl) (rd_inL rfl shx))) rfl (sx_retI (ev_op (ev_op (ev_var rfl) ev_int (rd_ixT (atI_nat (j := 0) rfl))) ev_str (by walk_at "eq")) (congrArg PyData.bool kne) ⟨lv, never hgn⟩)
  | some ka =>
    cases hdb : b.due dbb with
    | none =>
      have hgn : g.due (bothL a.rows.length da dbb) = none := by rw [hg, hda, hdb]; rfl
      obtain ⟨c, hw⟩ := wrong_none hgn
      rw [hw]
      exact q_yesI (b := true) (et_test (ev_op ev_non (ev_var rfl) (rd_inL rfl rfl))) rfl (sx_retI (ev_op (ev_op (ev_var rfl) ev_int (rd_ixT (atI_nat (j := 0) rfl))) ev_str (by walk_at "eq")) (congrArg PyData.bool kne) ⟨lv, never hgn⟩)
    | some kb =>
      have hgs : g.due (bothL a.rows.length da dbb) = some (max ka kb) := by rw [hg, hda, hdb]; rfl
      obtain ⟨yg, cg, hwg, hlg⟩ := wrong_some h.ok hgs
      obtain ⟨ya, ca, hwa, hla⟩ := wrong_some h.oka hda
      obtain ⟨yb, cb, hwb, hlb⟩ := wrong_some h.okb hdb
      obtain ⟨yl, yt⟩ := h.loose ha hla hlb
      obtain ⟨pa, qa, sca, esa, _, sia, fa⟩ := share_of_due h.oka hda
      obtain ⟨pb, qb, scb, esb, _, sib, fb⟩ := share_of_due h.okb hdb
      obtain ⟨pg, qg, scg, esg, _, sig, fg⟩ := share_of_due h.ok hgs
      have ka60 : ka < 60 := dueG_lt (by rw [dueG_eq h.oka sa]; exact hda)
      have kb60 : kb < 60 := dueG_lt (by rw [dueG_eq h.okb sb]; exact hdb)
      have ual := h.oka.le
      have ubl := h.okb.le
      have lya := loose_len hla
      have lyb := loose_len hlb
      have hm1 : ((max ka kb : Nat) : Int) ∈ [(ka : Int), (kb : Int)] := by
        rcases Nat.le_total ka kb with l | l
        · rw [Nat.max_eq_right l]; exact List.mem_cons_of_mem _ List.mem_cons_self
        · rw [Nat.max_eq_left l]; exact List.mem_cons_self
      have hm2 : ∀ y ∈ [(ka : Int), (kb : Int)], y ≤ ((max ka kb : Nat) : Int) := fun y hy => by
        simp only [List.mem_cons, List.not_mem_nil, or_false] at hy
        rcases hy with e | e <;> omega
      rw [hwg, hwa, hwb]
      refine q_noI (b := false) (et_test (ev_op ev_non (ev_var rfl) (rd_inL rfl rfl))) rfl ?_
      refine q_noI (b := false) (et_or (a := false) (b := false) (et_is (et_test (ev_op (ev_is (x := .tuple (cutD [.str "by", nat (max ka kb), eInts yg, .tuple (eTds cg)] none (some 2))) (y := .tuple [.str "by", nat (max ka kb)]) (by first | exact ev_slT (ev_var rfl) eo_none (eo_some ev_int) | exact ev_slL (ev_var rfl) eo_none (eo_some ev_int)) rfl) (ev_tupA (ea_cons ev_str (ea_cons (ev_max (ns := [(ka : Int), (kb : Int)]) (Ev.rl (ev_var rfl)) hm1 hm2) ea_nil)) rfl) (rd_ne (sh_by ((max ka kb : Nat) : Int)) (sh_by _)))) ?_) fun _ => et_is (et_test (ev_op (ev_call (ea_cons (ev_var rfl) (ea_cons (ev_var rfl) (ea_cons (ev_max (ns := [(ka : Int), (kb : Int)]) (Ev.rl (ev_var rfl)) hm1 hm2) (ea_cons (ev_op (ev_op (ev_op (ev_var rfl) ev_int (rd_ixL (atI_nat (j := 0) rfl))) ev_int (rd_ixT (atI_nat (j := 2) rfl))) (ev_op (ev_op (ev_var rfl) ev_int (rd_ixL (atI_nat (j := 1) rfl))) ev_int (rd_ixT (atI_nat (j := 2) rfl))) (rd_addT (by rw [List.length_map, List.length_map]; omega))) ea_nil)))) (⟨_, _, _, _, rfl, g, _, max ka kb, ya ++ yb, h.ok, dbw, by omega, yl, rfl, rfl, rfl, (eInts_app ya yb).symm, rfl⟩)) ev_bl rd_notB)) (by rw [yt]; rfl)) rfl ?_
      · show (!PyData.eqv (.tuple [.str "by", nat (max ka kb)]) (.tuple [.str "by", nat (max ka kb)])) = false
        rw [eqv_two]; rfl
      refine q_setI (d := .list [.tuple [nat pa, nat qa], .tuple [nat pb, nat qb]]) (EnL.ev (lc2 [(a, da, pa, qa), (b, dbb, pb, qb)] (fun p => eDig cs.Dig p.1) (fun p => eDb p.2.1) (fun p => .tuple [nat p.2.2.1, nat p.2.2.2]) (((eI_z2 (k1 := .l) (k2 := .l) (xs := [eDig cs.Dig a, eDig cs.Dig b]) (ys := [eDb da, eDb dbb]) (ev_var rfl) (ev_var rfl)).is rfl).r) (by show 2 ≤ 90000; decide) fun p hp => ?_)) rfl ?_ rfl
      · rcases List.mem_cons.mp hp with e | e
        · subst e
          exact ev_is (x := .tuple (cutD [nat pa, nat qa, .tuple (eTds sca)] none (some 2))) (by first | exact ev_slT (ev_call (ea_cons (ev_var rfl) (ea_cons (ev_var rfl) ea_nil)) (⟨_, _, rfl, a, da, h.oka, oka, by rw [esa]; exact (fun z => nomatch z), rfl, rfl, (eShare_some esa).symm⟩)) eo_none (eo_some ev_int) | exact ev_slL (ev_call (ea_cons (ev_var rfl) (ea_cons (ev_var rfl) ea_nil)) (⟨_, _, rfl, a, da, h.oka, oka, by rw [esa]; exact (fun z => nomatch z), rfl, rfl, (eShare_some esa).symm⟩)) eo_none (eo_some ev_int)) rfl
        · rw [List.mem_singleton.mp e]
          exact ev_is (x := .tuple (cutD [nat pb, nat qb, .tuple (eTds scb)] none (some 2))) (by first | exact ev_slT (ev_call (ea_cons (ev_var rfl) (ea_cons (ev_var rfl) ea_nil)) (⟨_, _, rfl, b, dbb, h.okb, okb, by rw [esb]; exact (fun z => nomatch z), rfl, rfl, (eShare_some esb).symm⟩)) eo_none (eo_some ev_int) | exact ev_slL (ev_call (ea_cons (ev_var rfl) (ea_cons (ev_var rfl) ea_nil)) (⟨_, _, rfl, b, dbb, h.okb, okb, by rw [esb]; exact (fun z => nomatch z), rfl, rfl, (eShare_some esb).symm⟩)) eo_none (eo_some ev_int)) rfl
      have hr := h.share ha sia fa sib fb sig fg
      have b1 : pa ≤ 1000000 := by have := sia.tG; omega
      have b2 : qa ≤ 1000000 := by have := sia.lD; omega
      have b3 : pb ≤ 1000000 := by have := sib.tG; omega
      have b4 : qb ≤ 1000000 := by have := sib.lD; omega
      have ng : (g.share (bothL a.rows.length da dbb)).1 ≠ none := by rw [esg]; exact fun z => nomatch z
      refine q_noI (b := false) (et_is (et_test (ev_op (ev_is (x := .tuple (cutD [nat pg, nat qg, .tuple (eTds scg)] none (some 2))) (y := .tuple [nat pg, nat qg]) (by first | exact ev_slT (ev_call (ea_cons (ev_var rfl) (ea_cons (ev_var rfl) ea_nil)) (⟨_, _, rfl, g, _, h.ok, dbw, ng, rfl, rfl, (eShare_some esg).symm⟩)) eo_none (eo_some ev_int) | exact ev_slL (ev_call (ea_cons (ev_var rfl) (ea_cons (ev_var rfl) ea_nil)) (⟨_, _, rfl, g, _, h.ok, dbw, ng, rfl, rfl, (eShare_some esg).symm⟩)) eo_none (eo_some ev_int)) rfl) (ev_is (y := .tuple [nat pg, nat qg]) (ev_call (ea_cons (ev_op (ev_var rfl) ev_int (rd_ixL (atI_nat (j := 0) rfl))) (ea_cons (ev_op (ev_var rfl) ev_int (rd_ixL (atI_nat (j := 1) rfl))) ea_nil)) (⟨_, _, rfl, pa, qa, pb, qb, rfl, rfl, b1, b2, b3, b4, rfl⟩)) ?_) (rd_ne rfl rfl))) (by rw [eqv_pq]; rfl)) rfl ?_
      · by_cases z : pb * qa ≤ pa * qb
        · rw [if_pos z] at hr ⊢
          cases hr; rfl
        · rw [if_neg z] at hr ⊢
          cases hr; rfl
      by_cases z : max ka kb = 0
      · exact sx_retI (ev_orV (a := true) (b := true) (ev_is (ev_op (ev_max (ns := [(ka : Int), (kb : Int)]) (Ev.rl (ev_var rfl)) hm1 hm2) ev_int (rd_eq rfl rfl)) (by rw [z]; rfl)) fun e => nomatch e) rfl ⟨lv, p1, ok1, rfl, rfl⟩
      · refine sx_retI (ev_orV (a := false) (b := true) (ev_is (ev_op (ev_max (ns := [(ka : Int), (kb : Int)]) (Ev.rl (ev_var rfl)) hm1 hm2) ev_int (rd_eq rfl rfl)) (congrArg PyData.bool (decide_eq_false (by omega)))) fun _ => ev_is (ev_op (ev_call (ea_cons (ev_var rfl) (ea_cons (ev_var rfl) (ea_cons (ev_op (ev_max (ns := [(ka : Int), (kb : Int)]) (Ev.rl (ev_var rfl)) hm1 hm2) ev_int rd_sub) (ea_cons (ev_op (ev_op (ev_op (ev_var rfl) ev_int (rd_ixL (atI_nat (j := 0) rfl))) ev_int (rd_ixT (atI_nat (j := 2) rfl))) (ev_op (ev_op (ev_var rfl) ev_int (rd_ixL (atI_nat (j := 1) rfl))) ev_int (rd_ixT (atI_nat (j := 2) rfl))) (rd_addT (by rw [List.length_map, List.length_map]; omega))) ea_nil)))) (⟨_, _, _, _, rfl, g, _, max ka kb - 1, ya ++ yb, h.ok, dbw, by omega, yl, rfl, rfl, congrArg PyData.int (by omega), (eInts_app ya yb).symm, rfl⟩)) ev_bl rd_notB) (by rw [not_loose h.ok hgs (by omega)]; rfl)) rfl ⟨lv, p1, ok1, rfl, rfl⟩
end
end L4
end

section
set_option Elab.async false
set_option linter.all false
set_option maxRecDepth 100000
set_option autoImplicit false
/-! The two digs that are drawn. -/
namespace L4
open PySem L2

def poolA : List Str := ["a", "c", "floor", "x9"]
def poolB : List Str := ["b", "d", "pit", "unit"]
def nmF (s : Str) : Bool := decide (0 < s.length) && decide (s.length ≤ 8) && ((s.cps.toList[0]?).all fun c => decide (c ∈ letters.cps.toList)) && s.cps.toList.all fun c => decide (c ∈ letters.cps.toList ∨ c ∈ figures.cps.toList)
theorem nm_ofF {s : Str} (h : nmF s = true) : IsNm s := by
  unfold nmF at h
  simp only [Bool.and_eq_true, decide_eq_true_eq, List.all_eq_true] at h
  obtain ⟨⟨⟨h1, h2⟩, h3⟩, h4⟩ := h
  exact ⟨h1, h2, fun c hc => by rw [hc] at h3; simpa using h3, h4⟩
theorem poolA_nm : ∀ s ∈ poolA, IsNm s := fun s hs => nm_ofF (List.all_eq_true.mp (show poolA.all nmF = true by decide +kernel) s hs)
theorem poolB_nm : ∀ s ∈ poolB, IsNm s := fun s hs => nm_ofF (List.all_eq_true.mp (show poolB.all nmF = true by decide +kernel) s hs)
theorem poolA_nd : poolA.Nodup := by decide +kernel
theorem poolB_nd : poolB.Nodup := by decide +kernel
theorem pool_dis : ∀ u ∈ poolA, u ∉ poolB := by decide +kernel
structure RgI where
  p : List PyData
  n : Nat
  ok : PotOk n p
  hn : n ≤ 500
def rgX (_ : RgI) : List Sl := [.lo 0]
def rgZ (i : RgI) : List Ob := [.lst i.p]
def rgPo (i : RgI) (r : Rs) (st' : List Ob) : Prop := ∃ p' : List PyData, PotOk (i.n + 100) p' ∧ r = .pu (.bool true) ∧ st' = [.lst p']
section
variable {names us : List Str} {rows : List Row}
theorem row_ok {r : Row} {us : List Str} (h : RowNew us 7 r) : RowOk us r := ⟨h.ia, h.ib, h.ne, num_of (by have := h.le; omega) (num_small _ (by have := h.le; omega))⟩
theorem Drawn.dig (nm : ∀ u ∈ names, IsNm u) (d : Drawn names us rows) : DigOk ⟨us, rows⟩ where
  pos := by have := d.u2; show 1 ≤ us.length; omega
  le := by have := d.u3; show us.length ≤ 40; omega
  nd := d.nd
  nm u hu := nm u (d.nm u hu)
  rle := by have := d.rl; show rows.length ≤ 200; omega
  rnd := d.rnd
  ok r hr := row_ok (d.ok r hr)
theorem Drawn.small (d : Drawn names us rows) : Small us rows := ⟨d.u3, fun r hr => ⟨(d.ok r hr).ia, (d.ok r hr).ib⟩, fun r hr => (d.ok r hr).le⟩
end
theorem RowNew.wide {us vs : List Str} {m : Nat} {r : Row} (h : RowNew us m r) (s : ∀ u ∈ us, u ∈ vs) : RowNew vs m r := ⟨s _ h.ia, s _ h.ib, h.ne, h.le⟩
theorem beside {na nb ua ub : List Str} {ra rb : List Row} (nma : ∀ u ∈ na, IsNm u) (nmb : ∀ u ∈ nb, IsNm u) (dis : ∀ u ∈ na, u ∉ nb) (da : Drawn na ua ra) (db : Drawn nb ub rb) : Beside ⟨ua, ra⟩ ⟨ub, rb⟩ ⟨ua ++ ub, ra ++ rb⟩ where
  oka := da.dig nma
  okb := db.dig nmb
  us := rfl
  rows := rfl
  dis u hu hv := dis u (da.nm u hu) (db.nm u hv)
  ok :=
    { pos := by have := da.u2; show 1 ≤ (ua ++ ub).length; rw [List.length_append]; omega
      le := by have := da.u3; have := db.u3; show (ua ++ ub).length ≤ 40; rw [List.length_append]; omega
      nd := List.nodup_append.mpr ⟨da.nd, db.nd, fun a h b h' e => dis a (da.nm a h) (db.nm a (e ▸ h'))⟩
      nm := fun u hu => (List.mem_append.mp hu).elim (fun h => nma u (da.nm u h)) fun h => nmb u (db.nm u h)
      rle := by have := da.rl; have := db.rl; show (ra ++ rb).length ≤ 200; rw [List.length_append]; omega
      rnd := List.nodup_append.mpr ⟨da.rnd, db.rnd, fun a h b h' e => by
        subst e
        exact dis _ (da.nm _ (da.ok a h).ia) (db.nm _ (db.ok a h').ia)⟩
      ok := fun r hr => (List.mem_append.mp hr).elim (fun h => row_ok ((da.ok r h).wide fun u hu => List.mem_append_left _ hu)) fun h => row_ok ((db.ok r h).wide fun u hu => List.mem_append_right _ hu) }
/-! due of one row -/
theorem due_nil {g : DigD} (ok : DigOk g) : g.due [] = if isN (ringD g) = true then some 0 else none := by
  refine least_uniq (ok.due_least []) ?_
  have e : ∀ k, FeasT [] k 1 g.td ↔ FeasT [] 0 1 g.td := fun k => by
    have w : wtF [] k 1 = wtF [] 0 1 := by funext t; unfold wtF; simp
    unfold FeasT
    rw [w]
  by_cases z : isN (ringD g) = true
  · rw [if_pos z]
    exact ⟨ok.ring_iff.mp z, fun j _ => Nat.zero_le _⟩
  · rw [if_neg z]
    exact fun k hk => z (ok.ring_iff.mpr ((e k).mp hk))
theorem both_zero (x : Option Nat) : bothO x (some 0) = x := by
  cases x with
  | none => rfl
  | some k => show some (max k 0) = some k; rw [Nat.max_zero]
theorem zero_both (x : Option Nat) : bothO (some 0) x = x := by
  cases x with
  | none => rfl
  | some k => show some (max 0 k) = some k; rw [Nat.zero_max]
theorem none_both (x : Option Nat) : bothO none x = none := rfl
theorem Beside.aloneA {a b g : DigD} (h : Beside a b g) {n : Nat} (hn : n < a.rows.length) : g.due [n] = if isN (ringD b) = true then a.due [n] else none := by
  have e := h.due (da := [n]) (dbb := []) (fun x hx => by rw [List.mem_singleton.mp hx]; exact hn)
  have e' : g.due [n] = bothO (a.due [n]) (b.due []) := e
  rw [e', due_nil h.okb]
  split
  · exact both_zero _
  · exact bothO_none _
theorem Beside.aloneB {a b g : DigD} (h : Beside a b g) {n : Nat} : g.due [n + a.rows.length] = if isN (ringD a) = true then b.due [n] else none := by
  have e := h.due (da := []) (dbb := [n]) (fun x hx => nomatch hx)
  have e' : g.due [n + a.rows.length] = bothO (a.due []) (b.due [n]) := e
  rw [e', due_nil h.oka]
  split
  · exact zero_both _
  · exact none_both _
theorem grow_ring {g : DigD} (ok : DigOk g) (sm : Small g.units g.rows) : growF g.units g.rows [] 0 = !isN (ringD g) := by
  have e1 := grows_iff (db := []) (k := 0) sm.ab
  have e2 := ok.ring_iff
  have e3 : growF g.units g.rows [] 0 = false ↔ isN (ringD g) = true := e1.trans e2.symm
  cases h : growF g.units g.rows [] 0 <;> cases h2 : isN (ringD g) <;> rw [h, h2] at e3 <;> simp at e3 ⊢
def dueL (d : DigD) (other : Bool) : List (Option Nat) := (List.range d.rows.length).map fun n => if other = true then none else d.due [n]
theorem Beside.alone {a b g : DigD} (h : Beside a b g) : (List.range g.rows.length).map (fun n => g.due [n]) = dueL a (!isN (ringD b)) ++ dueL b (!isN (ringD a)) := by
  have el : g.rows.length = a.rows.length + b.rows.length := by rw [h.rows, List.length_append]
  rw [el, List.range_add, List.map_append, List.map_map]
  unfold dueL
  congr 1
  · refine List.map_congr_left fun n hn => ?_
    rw [h.aloneA (List.mem_range.mp hn)]
    cases isN (ringD b) <;> rfl
  · refine List.map_congr_left fun n _ => ?_
    show g.due [a.rows.length + n] = _
    rw [Nat.add_comm, h.aloneB]
    cases isN (ringD a) <;> rfl
/-! the fewest -/
theorem enough_iff {g : DigD} (ok : DigOk g) (db : List Nat) (k : Nat) : g.enough db k = true ↔ FeasT db k 1 g.td := by
  rw [← ok.loose_iff]
  unfold DigD.enough
  exact Option.isSome_iff_exists
theorem enough_grow {g : DigD} (ok : DigOk g) (sm : Small g.units g.rows) (db : List Nat) (k : Nat) : g.enough db k = !growF g.units g.rows db k := by
  have e1 := grows_iff (db := db) (k := k) sm.ab
  have e2 := enough_iff ok db k
  have e3 : growF g.units g.rows db k = false ↔ g.enough db k = true := e1.trans e2.symm
  cases h : growF g.units g.rows db k <;> cases h2 : g.enough db k <;> rw [h, h2] at e3 <;> simp at e3 ⊢
theorem fewG_eq {g : DigD} (ok : DigOk g) (sm : Small g.units g.rows) (l4 : g.rows.length ≤ 4) (k : Nat) : fewG g.units g.rows k = eLot (fewF (fun db => g.enough db k) g.rows.length) := by
  unfold fewG fineF
  have e : (fun l => !growF g.units g.rows l k) = fun db => g.enough db k := by funext l; exact (enough_grow ok sm l k).symm
  rw [e]
  exact few_sorted l4 _
theorem Beside.few {a b g : DigD} (h : Beside a b g) (k : Nat) : fewF (fun db => g.enough db k) g.rows.length = match fewF (fun db => a.enough db k) a.rows.length, fewF (fun db => b.enough db k) b.rows.length with | some la, some lb => some (bothL a.rows.length la lb) | _, _ => none := by
  rw [h.rows, List.length_append]
  refine few_both fun la lb oa ob => ?_
  have e := h.feas (da := la) (dbb := lb) (p := k) (q := 1) oa.1
  rw [← enough_iff h.ok, ← enough_iff h.oka, ← enough_iff h.okb] at e
  rw [Bool.eq_iff_iff, Bool.and_eq_true]
  exact e
theorem can_opts : ∀ l : List (Option Nat), PyData.canLayAll0 (l.map eOpt) = true
  | [] => rfl
  | o :: l => by
    show ((eOpt o).canLay0 && PyData.canLayAll0 (l.map eOpt)) = true
    rw [can_opts l]
    cases o <;> rfl
theorem dep_opts : ∀ l : List (Option Nat), PyData.depthAll (l.map eOpt) = 0
  | [] => rfl
  | o :: l => by
    show max (eOpt o).depth (PyData.depthAll (l.map eOpt)) = 0
    rw [dep_opts l]
    cases o <;> rfl
theorem sh_opts (l : List (Option Nat)) : SeqAt.shaped (.tuple (l.map eOpt)) = true := by
  show (PyData.canLayAll0 (l.map eOpt) && decide (PyData.depthAll (l.map eOpt) + 1 ≤ 64)) = true
  rw [can_opts, dep_opts]; rfl
theorem eqv_opt (o : Option Nat) : PyData.eqv (eOpt o) (eOpt o) = true := by
  cases o with
  | none => rfl
  | some k => simp [eOpt, nat, PyData.eqv]
theorem eqv_opts : ∀ l : List (Option Nat), PyData.eqv (.tuple (l.map eOpt)) (.tuple (l.map eOpt)) = true
  | [] => rfl
  | o :: l => by
    have ih := eqv_opts l
    simp only [PyData.eqv] at ih
    simp only [List.map_cons, PyData.eqv, PyData.eqvAll, eqv_opt, ih, Bool.and_self]
theorem eqv_db : ∀ db : List Nat, PyData.eqv (eDb db) (eDb db) = true
  | [] => rfl
  | k :: db => by
    have ih := eqv_db db
    simp only [eDb, PyData.eqv] at ih
    simp only [eDb, List.map_cons, PyData.eqv, PyData.eqvAll, ih, Bool.and_true]
    simp [nat, PyData.eqv]
theorem eqv_lot (o : Option (List Nat)) : PyData.eqv (eLot o) (eLot o) = true := by
  cases o with
  | none => rfl
  | some l =>
    have h := eqv_db l
    simp only [eLot, PyData.eqv, PyData.eqvAll, h, Bool.and_true]
    simp [nat, PyData.eqv]
theorem eqv_lots (x y : Option (List Nat)) : PyData.eqv (.list [eLot x, eLot y]) (.list [eLot x, eLot y]) = true := by
  simp only [PyData.eqv, PyData.eqvAll, eqv_lot, Bool.and_self]
theorem can_lot (o : Option (List Nat)) : (eLot o).canLay0 = true := by
  cases o with
  | none => rfl
  | some l =>
    show (true && (PyData.canLayAll0 (l.map nat) && true)) = true
    rw [can_nats]; rfl
theorem dep_lot (o : Option (List Nat)) : (eLot o).depth ≤ 2 := by
  cases o with
  | none => exact Nat.zero_le _
  | some l =>
    show max 0 (max (PyData.depthAll (l.map nat) + 1) 0) + 1 ≤ 2
    rw [dep_nats]; decide
theorem sh_lot (o : Option (List Nat)) : SeqAt.shaped (eLot o) = true := by
  show ((eLot o).canLay0 && decide ((eLot o).depth ≤ 64)) = true
  have := dep_lot o
  rw [can_lot, decide_eq_true (by omega)]; rfl
theorem sh_lots (x y : Option (List Nat)) : SeqAt.shaped (.list [eLot x, eLot y]) = true := by
  show (((eLot x).canLay0 && ((eLot y).canLay0 && true)) && decide (max (eLot x).depth (max (eLot y).depth 0) + 1 ≤ 64)) = true
  have := dep_lot x
  have := dep_lot y
  rw [can_lot, can_lot, decide_eq_true (by omega)]; rfl
theorem eqv_bools (x y : Bool) : PyData.eqv (.list [.bool x, .bool y]) (.list [.bool x, .bool y]) = true := by
  cases x <;> cases y <;> rfl
end L4
end

section
set_option Elab.async false
set_option linter.all false
set_option maxRecDepth 100000
set_option maxHeartbeats 1000000
set_option autoImplicit false
namespace L4
open PySem L2
section
variable {Pr : Program} {w : World} {K : PySem.W.Frag} {mg : Str → Option Value} {base : Heap} {cs : Cs}
local macro_rules
  | `(tactic| walk_at "sh") => `(tactic| first | exact rfl | assumption | exact sh_str (by first | assumption | decide +kernel) | decide +kernel)
local macro_rules
  | `(tactic| walk_at "ix") => `(tactic| first | exact rd_ixT rfl | exact rd_ixL rfl | exact rd_ixT (by assumption) | exact rd_ixL (by assumption) | exact rd_ixT (atI_nat (by assumption)) | exact rd_ixL (atI_nat (by assumption)))
local macro_rules
  | `(tactic| walk_at "add") => `(tactic| first | exact rd_addI | exact rd_addS (by first | assumption | decide) | exact rd_addT (by first | assumption | exact Nat.le_of_ble_eq_true rfl) | exact rd_addL (by first | assumption | exact Nat.le_of_ble_eq_true rfl))
local macro_rules
  | `(tactic| walk_at "mul") => `(tactic| first | exact rd_mul (.inl (by decide)) | exact rd_mul (.inr (by decide)) | exact rd_mul (.inl (by omega)) | exact rd_mul (.inr (by omega)))
local macro_rules
  | `(tactic| walk_at "mod") => `(tactic| exact rd_mod (by first | decide | omega))
local macro_rules
  | `(tactic| walk_at "div") => `(tactic| exact rd_div ⟨by first | decide | omega, by first | decide | omega⟩)
local macro_rules
  | `(tactic| walk_at "eq") => `(tactic| exact rd_eq (by walk_at "sh") (by walk_at "sh"))
local macro_rules
  | `(tactic| walk_at "ne") => `(tactic| exact rd_ne (by walk_at "sh") (by walk_at "sh"))
local macro_rules
  | `(tactic| walk_at "in") => `(tactic| first | exact rd_inT (by walk_at "sh") (by walk_at "sh") | exact rd_inL (by walk_at "sh") (by walk_at "sh"))
local macro_rules
  | `(tactic| walk_at "nin") => `(tactic| first | exact rd_ninT (by walk_at "sh") (by walk_at "sh") | exact rd_ninL (by walk_at "sh") (by walk_at "sh"))
local macro_rules
  | `(tactic| walk_at "cd") => `(tactic| first | exact cd_lenT | exact cd_lenL | exact cd_intI | exact cd_sS | exact cd_sI (by assumption) | exact cd_lenS (by assumption) | exact cd_intB)
theorem ok__law_right (T : Fx K mg cs) : Ok Pr w K mg base "_law_right" 8 ["pot"] (spF K rgX rgZ rgPo) := by
  obtain ⟨f, fd, F, b, g⟩ := T.f__law_right
  have c__law_drawn := ok__law_drawn (Pr := Pr) (w := w) (base := base) T
  have c_Dig___init__ := ok_Dig___init__ (Pr := Pr) (w := w) (base := base) T
  have c__law_text := ok__law_text (Pr := Pr) (w := w) (base := base) T
  have c__law_grows := ok__law_grows (Pr := Pr) (w := w) (base := base) T
  have c_ring := ok_ring (Pr := Pr) (w := w) (base := base) T
  have c__law_due := ok__law_due (Pr := Pr) (w := w) (base := base) T
  have c_alone := ok_alone (Pr := Pr) (w := w) (base := base) T
  have c__law_are_lots_right := ok__law_are_lots_right (Pr := Pr) (w := w) (base := base) T
  have c__law_take := ok__law_take (Pr := Pr) (w := w) (base := base) T
  have c__law_fewest := ok__law_fewest (Pr := Pr) (w := w) (base := base) T
  have c_fewest_in_doubt := ok_fewest_in_doubt (Pr := Pr) (w := w) (base := base) T
  refine ⟨f, fd, g, F.kp, b, fn_okF F sc__law_right (fun i => rfl) (fun cdv A outer s H E hr => ⟨_, (pss_cons (ps_set (i := 1) sc__law_right.nd rfl (.inr rfl) (pe_lst (pa_cons (pe_own c__law_drawn (hr.mono (by decide)) (by rfl) (pa_cons (pv 0) (pa_cons (pe_lst (pa_cons pe_str (pa_cons pe_str (pa_cons pe_str (pa_cons pe_str pa_nil))))) pa_nil))) (pa_cons (pe_own c__law_drawn (hr.mono (by decide)) (by rfl) (pa_cons (pv 0) (pa_cons (pe_lst (pa_cons pe_str (pa_cons pe_str (pa_cons pe_str (pa_cons pe_str pa_nil))))) pa_nil))) pa_nil))))
      (pss_cons (ps_set (i := 2) sc__law_right.nd rfl (.inl rfl) (pe_op (ko_add K) (pe_dget (u1 hr) (pe_ix (ki_seq K) (pv 1) pe_int (fun _ _ => rfl)) pe_str (fun _ _ => rfl)) (pe_dget (u1 hr) (pe_ix (ki_seq K) (pv 1) pe_int (fun _ _ => rfl)) pe_str (fun _ _ => rfl))))
      (pss_cons (ps_asg (pe_tup (pa_cons (pe_lc (own := [("own", 5)]) (g := (gName 5)) rfl sc__law_right.nd (kw_seq K (pv 1)) (blkOk_by (own := [("own", 5)]) (N := N__law_right) (sc := defScope st__law_right) (by decide +kernel)) (fun _ _ _ _ _ => (pg_name (i := 5) sc__law_right.nd rfl (by first | exact Or.inl rfl | exact Or.inr rfl))) (fun _ _ _ _ _ => pts_nil) (fun _ _ _ _ _ => (pe_ownI c_Dig___init__ (hr.mono (by decide)) (by rfl) (pa_cons (pe_own c__law_text (hr.mono (by decide)) (by rfl) (pa_cons (pv 5) pa_nil)) pa_nil)))) (pa_cons (pe_ownI c_Dig___init__ (hr.mono (by decide)) (by rfl) (pa_cons (pe_own c__law_text (hr.mono (by decide)) (by rfl) (pa_cons (pe_disp (pps_cons pe_str (pe_op (ko_add K) (pe_dget (u1 hr) (pe_ix (ki_seq K) (pv 1) pe_int (fun _ _ => rfl)) pe_str (fun _ _ => rfl)) (pe_dget (u1 hr) (pe_ix (ki_seq K) (pv 1) pe_int (fun _ _ => rfl)) pe_str (fun _ _ => rfl))) (pps_cons pe_str (pv 2) pps_nil)) rfl rfl (by decide) (by decide)) pa_nil)) pa_nil)) pa_nil))) (kg_tup K rfl (pgs_cons (pg_name (i := 3) sc__law_right.nd rfl (by first | exact Or.inl rfl | exact Or.inr rfl)) (pgs_cons (pg_name (i := 4) sc__law_right.nd rfl (by first | exact Or.inl rfl | exact Or.inr rfl)) pgs_nil))))
      (pss_cons (ps_setLc (i := 6) (own := [("own", 5)]) (g := (gName 5)) rfl sc__law_right.nd rfl rfl (sw_true rfl rfl rfl (by decide +kernel)) (kw_seq K (pv 1)) (blkOk_by (own := [("own", 5)]) (N := N__law_right) (sc := defScope st__law_right) (by decide +kernel)) (fun _ _ _ _ _ => (pg_name (i := 5) sc__law_right.nd rfl (by first | exact Or.inl rfl | exact Or.inr rfl))) (fun _ _ _ _ _ => pts_nil) (fun _ _ _ _ _ => (pe_own c__law_grows (hr.mono (by decide)) (by rfl) (pa_cons (pv 5) (pa_cons (pe_tup pa_nil) (pa_cons pe_int pa_nil))))))
      (pss_cons (ps_if (PW.pt (pw_or (pt_cmpR (ko_ne K (u64 hr)) (pe_lc (own := [("dig", 7)]) (g := (gName 7)) rfl sc__law_right.nd (kw_seq K (pv 3)) (blkOk_by (own := [("dig", 7)]) (N := N__law_right) (sc := defScope st__law_right) (by decide +kernel)) (fun _ _ _ _ _ => (pg_name (i := 7) sc__law_right.nd rfl (by first | exact Or.inl rfl | exact Or.inr rfl))) (fun _ _ _ _ _ => pts_nil) (fun _ _ _ _ _ => (pe_cmp (pc_notN (pe_own c_ring (hr.mono (by decide)) (by rfl) (pa_cons (pv 7) pa_nil))) (nomark _)))) (pv 6) (nomark _)) (pw_or1 (pt_cmpR (ko_ne K (u64 hr)) (pe_cmp (pc_notN (pe_own c_ring (hr.mono (by decide)) (by rfl) (pa_cons (pv 4) pa_nil))) (nomark _)) (pe_callB (kc_any K rfl) (by rfl) T.b_any bt_any (pa_cons (pv 6) pa_nil)) (nomark _))))) (pss_one (ps_ret pe_bl)) pss_nil)
      (pss_cons (ps_set (i := 8) sc__law_right.nd rfl (.inl rfl) (pe_lst pa_nil))
      (pss_cons (ps_for PassesOwn.never rfl (kw_z2 K (by rfl) T.b_zip (pa_cons (pv 1) (pa_cons (kp_revL K (pv 6)) pa_nil))) (kg_tup K rfl (pgs_cons (pg_name (i := 5) sc__law_right.nd rfl (by first | exact Or.inl rfl | exact Or.inr rfl)) (pgs_cons (pg_name (i := 9) sc__law_right.nd rfl (by first | exact Or.inl rfl | exact Or.inr rfl)) pgs_nil))) (pss_one (ps_for PassesOwn.never rfl (pi_range1 (by rfl) T.b_range (pa_cons (pe_callB (kc_len K) (by rfl) T.b_len bt_len (pa_cons (pe_dget (u1 hr) (pv 5) pe_str (fun _ _ => rfl)) pa_nil)) pa_nil)) (pg_name (i := 10) sc__law_right.nd rfl (by first | exact Or.inl rfl | exact Or.inr rfl)) (pss_one (ps_expr (pe_bm PySem.F.plainAttrs_list PySem.F.slot_list_append PySem.F.type_list_append mt_append (pv 8) (pa_cons (pe_ifExp (pt_val (pv 9)) pe_non (pe_own c__law_due (hr.mono (by decide)) (by rfl) (pa_cons (pv 5) (pa_cons (pe_tup (pa_cons (pv 10) pa_nil)) pa_nil)))) pa_nil)))))))
      (pss_cons (ps_if (pt_cmpR (ko_ne K (u64 hr)) (pe_own c_alone (hr.mono (by decide)) (by rfl) (pa_cons (pv 4) pa_nil)) (pe_callTy (kc_tuple K) (by rfl) T.b_tuple bt_tuple (pa_cons (pv 8) pa_nil)) (nomark _)) (pss_one (ps_ret pe_bl)) pss_nil)
      (pss_cons (ps_if (pt_not (pt_val (pe_callB (kc_all K rfl) (by rfl) T.b_all bt_all (pa_cons (pe_lc (own := [("lap", 11)]) (g := (gName 11)) rfl sc__law_right.nd (pi_range1 (by rfl) T.b_range (pa_cons pe_int pa_nil)) (blkOk_by (own := [("lap", 11)]) (N := N__law_right) (sc := defScope st__law_right) (by decide +kernel)) (fun _ _ _ _ _ => (pg_name (i := 11) sc__law_right.nd rfl (by first | exact Or.inl rfl | exact Or.inr rfl))) (fun _ _ _ _ _ => pts_nil) (fun _ _ _ _ _ => (pe_own c__law_are_lots_right (hr.mono (by decide)) (by rfl) (pa_cons (pv 0) (pa_cons (pv 1) (pa_cons (pv 3) (pa_cons (pv 4) pa_nil))))))) pa_nil)))) (pss_one (ps_ret pe_bl)) pss_nil)
      (pss_cons (ps_set (i := 12) sc__law_right.nd rfl (.inr rfl) (pe_callTy cr_gInt (by rfl) T.b_int bt_int (pa_cons (pe_own c__law_take (hr.mono (by decide)) (by rfl) (pa_cons (pv 0) (pa_cons pe_int pa_nil))) pa_nil)))
      (pss_cons (ps_setLc (i := 13) (own := [("own", 5)]) (g := (gName 5)) rfl sc__law_right.nd rfl rfl (sw_true rfl rfl rfl (by decide +kernel)) (kw_seq K (pv 1)) (blkOk_by (own := [("own", 5)]) (N := N__law_right) (sc := defScope st__law_right) (by decide +kernel)) (fun _ _ _ _ _ => (pg_name (i := 5) sc__law_right.nd rfl (by first | exact Or.inl rfl | exact Or.inr rfl))) (fun _ _ _ _ _ => pts_nil) (fun _ _ _ _ _ => (pe_own c__law_fewest (hr.mono (by decide)) (by rfl) (pa_cons (pv 5) (pa_cons (pv 12) pa_nil)))))
      (pss_cons (ps_if (pt_cmpR (ko_ne K (u64 hr)) (pe_lc (own := [("dig", 7)]) (g := (gName 7)) rfl sc__law_right.nd (kw_seq K (pv 3)) (blkOk_by (own := [("dig", 7)]) (N := N__law_right) (sc := defScope st__law_right) (by decide +kernel)) (fun _ _ _ _ _ => (pg_name (i := 7) sc__law_right.nd rfl (by first | exact Or.inl rfl | exact Or.inr rfl))) (fun _ _ _ _ _ => pts_nil) (fun _ _ _ _ _ => (pe_own c_fewest_in_doubt (hr.mono (by decide)) (by rfl) (pa_cons (pv 7) (pa_cons (pv 12) pa_nil))))) (pv 13) (nomark _)) (pss_one (ps_ret pe_bl)) pss_nil)
      (pss_cons (ps_set (i := 14) sc__law_right.nd rfl (.inl rfl) (pe_own c_fewest_in_doubt (hr.mono (by decide)) (by rfl) (pa_cons (pv 4) (pa_cons (pv 12) pa_nil))))
      (pss_cons (ps_if (pt_cmpR (ko_in K (u65 hr)) pe_non (pv 13) (by with_unfolding_all rfl)) (pss_one (ps_ret (pe_cmp (pc_isN (pv 14)) (nomark _)))) pss_nil)
      (pss_cons (ps_set (i := 15) sc__law_right.nd rfl (.inl rfl) (pe_callTy (kc_tuple K) (by rfl) T.b_tuple bt_tuple (pa_cons (pe_lc (own := [("at", 10)]) (g := (gName 10)) rfl sc__law_right.nd (kw_seq K (pe_ix (ki_seq K) (pe_ix (ki_seq K) (pv 13) pe_int (fun _ _ => rfl)) pe_int (fun _ _ => rfl))) (blkOk_by (own := [("at", 10)]) (N := N__law_right) (sc := defScope st__law_right) (by decide +kernel)) (fun _ _ _ _ _ => (pg_name (i := 10) sc__law_right.nd rfl (by first | exact Or.inl rfl | exact Or.inr rfl))) (fun _ _ _ _ _ => pts_nil) (fun _ _ _ _ _ => (pe_op (ko_add K) (pv 10) (pe_callB (kc_len K) (by rfl) T.b_len bt_len (pa_cons (pe_dget (u1 hr) (pe_ix (ki_seq K) (pv 1) pe_int (fun _ _ => rfl)) pe_str (fun _ _ => rfl)) pa_nil))))) pa_nil)))
      (pss_one (ps_ret (pe_cmpR (ko_eq K (u64 hr)) (pv 14) (pe_tup (pa_cons (pe_op (ko_add K) (pe_ix (ki_seq K) (pe_ix (ki_seq K) (pv 13) pe_int (fun _ _ => rfl)) pe_int (fun _ _ => rfl)) (pe_ix (ki_seq K) (pe_ix (ki_seq K) (pv 13) pe_int (fun _ _ => rfl)) pe_int (fun _ _ => rfl))) (pa_cons (pe_op (ko_add K) (pe_ix (ki_seq K) (pe_ix (ki_seq K) (pv 13) pe_int (fun _ _ => rfl)) pe_int (fun _ _ => rfl)) (pv 15)) pa_nil))) (nomark _))))))))))))))))))), fun i => ?_⟩)⟩
  obtain ⟨p, n, ok, hn⟩ := i
  refine sx_seq (Mid := fun ds => ∃ (ua ub : List Str) (ra rb : List Row) (p' : List PyData), Drawn poolA ua ra ∧ Drawn poolB ub rb ∧ PotOk (n + 50) p' ∧ ds = ⟨[.lo 0, .pu (.list [eOwn ua ra, eOwn ub rb]), .un, .un, .un, .un, .un, .un, .un, .un, .un, .un, .un, .un, .un, .un], [.lst p']⟩)
    (sx_setE (es_lstP (eas_cons (P1 := fun f ds1 => ∃ (ua : List Str) (ra : List Row) (p' : List PyData), Drawn poolA ua ra ∧ PotOk (n + 25) p' ∧ f = .pu (eOwn ua ra) ∧ ds1 = ⟨[.lo 0, .un, .un, .un, .un, .un, .un, .un, .un, .un, .un, .un, .un, .un, .un, .un], [.lst p']⟩)
      (es_callL (l := 0) ⟨p, n, poolA, ok, by omega, poolA_nd, fun u hu => (poolA_nm u hu).sok, by decide, by decide⟩ [0] rfl (ea_cons (ev_lstA (ea_cons ev_str (ea_cons ev_str (ea_cons ev_str (ea_cons ev_str ea_nil)))) rfl) ea_nil) rfl rfl (by decide) rfl ⟨⟨rfl, rfl, rfl⟩, trivial⟩ fun r st' po _ => ?_) ?_))) ?_
  · obtain ⟨ua, ra, p', da, ok', rfl, rfl⟩ := po
    exact ⟨ua, ra, p', da, ok', rfl, rfl⟩
  · rintro _ _ ⟨ua, ra, p1, da, ok1, rfl, rfl⟩
    refine eas_one (es_callL (l := 0) ⟨p1, n + 25, poolB, ok1, by omega, poolB_nd, fun u hu => (poolB_nm u hu).sok, by decide, by decide⟩ [0] rfl (ea_cons (ev_lstA (ea_cons ev_str (ea_cons ev_str (ea_cons ev_str (ea_cons ev_str ea_nil)))) rfl) ea_nil) rfl rfl (by decide) rfl ⟨⟨rfl, rfl, rfl⟩, trivial⟩ fun r st' po _ => ?_)
    obtain ⟨ub, rb, p', db, ok', rfl, rfl⟩ := po
    exact ⟨[eOwn ua ra, eOwn ub rb], rfl, by show 2 ≤ 100000; decide, by show 1 < 16; decide, ua, ub, ra, rb, p', da, db, ok', rfl⟩
  rintro _ ⟨ua, ub, ra, rb, p1, da, db, ok1, rfl⟩
  have h := beside poolA_nm poolB_nm pool_dis da db
  have sa := da.small
  have sb := db.small
  have la := da.rl
  have lb := db.rl
  have ula := da.u3
  have ulb := db.u3
  obtain ⟨a, ea⟩ : ∃ a : DigD, a = ⟨ua, ra⟩ := ⟨_, rfl⟩
  obtain ⟨b, eb⟩ : ∃ b : DigD, b = ⟨ub, rb⟩ := ⟨_, rfl⟩
  obtain ⟨g, eg⟩ : ∃ g : DigD, g = ⟨ua ++ ub, ra ++ rb⟩ := ⟨_, rfl⟩
  rw [← ea, ← eb, ← eg] at h
  have eoa : eOwn ua ra = eOwnD a := by rw [ea]; rfl
  have eob : eOwn ub rb = eOwnD b := by rw [eb]; rfl
  have sa' : Small a.units a.rows := by rw [ea]; exact sa
  have sb' : Small b.units b.rows := by rw [eb]; exact sb
  have la' : a.rows.length ≤ 4 := by rw [ea]; exact la
  have lb' : b.rows.length ≤ 4 := by rw [eb]; exact lb
  have n7 : ∀ r ∈ g.rows, r.n ≤ 99 := fun r hr => by
    rw [h.rows] at hr
    rcases List.mem_append.mp hr with m | m
    · have := sa'.n7 r m; omega
    · have := sb'.n7 r m; omega
  have lg : g.rows.length ≤ 8 := by rw [h.rows, List.length_append]; omega
  rw [eoa, eob]
  clear ea eb eg eoa eob sa sb la lb ula ulb da db
  have gu := h.us
  have gr := h.rows
  refine q_setI (d := .list (g.rows.map eRow)) (ev_op (ev_kgS (Ev.rk (ev_op (ev_var rfl) ev_int (rd_ixL (atI_nat (j := 0) rfl)))) ev_str (own_rows _ _)) (ev_kgS (Ev.rk (ev_op (ev_var rfl) ev_int (rd_ixL (atI_nat (j := 1) rfl)))) ev_str (own_rows _ _)) (rd_addL (by rw [List.length_map, List.length_map]; omega))) (by rw [gr, List.map_append]) ?_ rfl
  have mk : ∀ {d : DigD}, (d = a ∨ d = b ∨ d = g) → DigOk d ∧ ∀ r ∈ d.rows, r.n ≤ 99 := fun {d} e => by
    rcases e with e | e | e <;> subst e
    · exact ⟨h.oka, fun r hr => by have := sa'.n7 r hr; omega⟩
    · exact ⟨h.okb, fun r hr => by have := sb'.n7 r hr; omega⟩
    · exact ⟨h.ok, n7⟩
  refine sx_seq1 (ds1 := ⟨[.lo 0, .pu (.list [eOwnD a, eOwnD b]), .pu (.list (g.rows.map eRow)), .pu (.list [eDig cs.Dig a, eDig cs.Dig b]), .pu (eDig cs.Dig g), .un, .un, .un, .un, .un, .un, .un, .un, .un, .un, .un], [.lst p1]⟩) (sx_asgE (es_tup (eas_cons (P1 := fun f ds1 => f = .pu (.list [eDig cs.Dig a, eDig cs.Dig b]) ∧ ds1 = ⟨[.lo 0, .pu (.list [eOwnD a, eOwnD b]), .pu (.list (g.rows.map eRow)), .un, .un, .un, .un, .un, .un, .un, .un, .un, .un, .un, .un, .un], [.lst p1]⟩)
    (es_lc [a, b] eOwnD (fun d ds => ds.set 5 (.pu (eOwnD d))) (fun i ds acc => acc = ([a, b].take i).map (eDig cs.Dig) ∧ ds = ⟨[.lo 0, .pu (.list [eOwnD a, eOwnD b]), .pu (.list (g.rows.map eRow)), .un, .un, .un, .un, .un, .un, .un, .un, .un, .un, .un, .un, .un], [.lst p1]⟩) (js := [5]) (eI_list (ev_var rfl)) (by show 2 ≤ 90000; decide) (fun j hj => hj) ⟨rfl, rfl⟩ (fun i l ds acc _ ⟨_, e⟩ => by subst e; exact tg1) ?_ ?_) ?_))) ?_
  · rintro i d _ acc hi ⟨rfl, rfl⟩
    have hd : d = a ∨ d = b ∨ d = g := by
      have := List.mem_of_getElem? hi
      simp only [List.mem_cons, List.not_mem_nil, or_false] at this
      exact this.elim .inl fun e => .inr (.inl e)
    obtain ⟨okd, nd⟩ := mk hd
    refine es_makeF (eas_ea (ea_cons (ev_call (ea_cons (ev_var rfl) ea_nil) (⟨_, rfl, d, okd, nd, rfl, rfl⟩)) ea_nil) ⟨⟨d, okd⟩, _, rfl, rfl, rfl, fun r st' po => ?_⟩)
    obtain ⟨rfl, rfl⟩ := po
    exact ⟨rfl, _, rfl, _, rfl, by rw [List.take_add_one, hi, List.map_append]; rfl, rfl⟩
  · rintro _ acc ⟨rfl, rfl⟩
    exact ⟨rfl, rfl⟩
  · rintro _ _ ⟨rfl, rfl⟩
    refine eas_one (es_makeF (eas_ea (ea_cons (ev_call (ea_cons (EnK.ev (en_disp2 (x := .list (g.units.map .str)) (by decide +kernel) (ev_is (ev_op (ev_kgS (Ev.rk (ev_op (ev_var rfl) ev_int (rd_ixL (atI_nat (j := 0) rfl)))) ev_str (own_units _ _)) (ev_kgS (Ev.rk (ev_op (ev_var rfl) ev_int (rd_ixL (atI_nat (j := 1) rfl)))) ev_str (own_units _ _)) (rd_addL (by rw [List.length_map, List.length_map]; have := h.oka.le; have := h.okb.le; omega))) (by rw [gu, List.map_append])) (ev_var rfl))) ea_nil) ⟨_, rfl, g, h.ok, n7, rfl, rfl⟩) ea_nil) ⟨⟨g, h.ok⟩, _, rfl, rfl, rfl, fun r st' po => ?_⟩))
    obtain ⟨rfl, rfl⟩ := po
    exact ⟨rfl, _, rfl, [.list [eDig cs.Dig a, eDig cs.Dig b], eDig cs.Dig g], rfl, by show 2 ≤ 100000; decide, _, _, _, rfl, tg2, rfl⟩
  have two : ∀ d ∈ [a, b], DigOk d ∧ Small d.units d.rows ∧ d.rows.length ≤ 4 := fun d hd => by
    simp only [List.mem_cons, List.not_mem_nil, or_false] at hd
    rcases hd with e | e <;> subst e
    · exact ⟨h.oka, sa', la'⟩
    · exact ⟨h.okb, sb', lb'⟩
  refine q_setI (d := .list [.bool (!isN (ringD a)), .bool (!isN (ringD b))]) (EnL.ev (lc1 [a, b] eOwnD (fun d => .bool (!isN (ringD d))) (eI_list (ev_var rfl)).r (by show 2 ≤ 90000; decide) fun d hd => ev_is (ev_call (ea_cons (ev_var rfl) (ea_cons (ev_tupA ea_nil rfl) (ea_cons ev_int ea_nil))) (⟨_, _, _, rfl, d.units, d.rows, [], 0, (two d hd).2.1.u3, (two d hd).2.2, by omega, (two d hd).1.nd, rfl, rfl, rfl, rfl⟩)) (congrArg PyData.bool (grow_ring (two d hd).1 (two d hd).2.1)))) rfl ?_ rfl
  refine q_noI (b := false) (et_or (a := false) (b := false) (et_is (et_test (ev_op (EnL.ev (lc1 [a, b] (eDig cs.Dig) (fun d => .bool (!isN (ringD d))) (eI_list (ev_var rfl)).r (by show 2 ≤ 90000; decide) fun d hd => (ev_notN (ev_call (ea_cons (ev_var rfl) ea_nil) (⟨_, rfl, d, (two d hd).1, rfl, rfl⟩))))) (ev_var rfl) (rd_ne rfl rfl))) (by show (!PyData.eqv (.list [.bool (!isN (ringD a)), .bool (!isN (ringD b))]) (.list [.bool (!isN (ringD a)), .bool (!isN (ringD b))])) = false; rw [eqv_bools]; rfl)) fun _ => et_is (et_test (ev_op (ev_notN (ev_call (ea_cons (ev_var rfl) ea_nil) (⟨_, rfl, g, h.ok, rfl, rfl⟩))) (ev_any (bs := [!isN (ringD a), !isN (ringD b)]) (Ev.rl (ev_var rfl))) (rd_ne rfl rfl))) ?_) rfl ?_
  · rw [h.ring]
    cases isN (ringD a) <;> cases isN (ringD b) <;> rfl
  refine q_new (en_lst ea_nil (by decide)) ?_
  obtain ⟨ls, els⟩ : ∃ ls : List (DigD × Bool), ls = [(a, !isN (ringD b)), (b, !isN (ringD a))] := ⟨_, rfl⟩
  have lsok : ∀ q ∈ ls, DigOk q.1 ∧ Small q.1.units q.1.rows ∧ q.1.rows.length ≤ 4 := fun q hq => by
    rw [els] at hq
    simp only [List.mem_cons, List.not_mem_nil, or_false] at hq
    rcases hq with e | e <;> subst e
    · exact ⟨h.oka, sa', la'⟩
    · exact ⟨h.okb, sb', lb'⟩
  have lsl : ls.length = 2 := by rw [els]; rfl
  refine sx_seq (Mid := fun ds => ∃ s5 s9 s10, lowSl 1 s5 = true ∧ lowSl 1 s9 = true ∧ lowSl 1 s10 = true ∧ ds = ⟨[.lo 0, .pu (.list [eOwnD a, eOwnD b]), .pu (.list (g.rows.map eRow)), .pu (.list [eDig cs.Dig a, eDig cs.Dig b]), .pu (eDig cs.Dig g), s5, .pu (.list [.bool (!isN (ringD a)), .bool (!isN (ringD b))]), .un, .lo 1, s9, s10, .un, .un, .un, .un, .un], [.lst p1, .lst ((ls.flatMap fun q => dueL q.1 q.2).map eOpt)]⟩)
    (sx_for ls (fun q => .tuple [eOwnD q.1, .bool q.2]) (fun i ds => ∃ s5 s9 s10, lowSl 1 s5 = true ∧ lowSl 1 s9 = true ∧ lowSl 1 s10 = true ∧ ds = ⟨[.lo 0, .pu (.list [eOwnD a, eOwnD b]), .pu (.list (g.rows.map eRow)), .pu (.list [eDig cs.Dig a, eDig cs.Dig b]), .pu (eDig cs.Dig g), s5, .pu (.list [.bool (!isN (ringD a)), .bool (!isN (ringD b))]), .un, .lo 1, s9, s10, .un, .un, .un, .un, .un], [.lst p1, .lst (((ls.take i).flatMap fun q => dueL q.1 q.2).map eOpt)]⟩) (fun q ds => (ds.set 5 (.pu (eOwnD q.1))).set 9 (.pu (.bool q.2)))
      ((eI_z2 (k1 := .l) (k2 := .l) (xs := [eOwnD a, eOwnD b]) (ys := [.bool (!isN (ringD b)), .bool (!isN (ringD a))]) (ev_var rfl) (ev_is (x := .list (List.reverse [.bool (!isN (ringD a)), .bool (!isN (ringD b))])) (EnL.ev (en_revL (ev_var rfl))) rfl)).is (by rw [els]; rfl)) ⟨.un, .un, .un, rfl, rfl, rfl, by rw [List.take_zero]; rfl⟩ (fun i l ds _ ⟨s5, s9, s10, _, _, _, e⟩ => by subst e; exact tg2) ?_ ?_) ?_
  · rintro i ⟨d, oth⟩ _ hi ⟨s5, s9, s10, w5, w9, w10, rfl⟩
    obtain ⟨okd, smd, ld⟩ := lsok _ (List.mem_of_getElem? hi)
    have e1 : (ls.take (i + 1)).flatMap (fun q => dueL q.1 q.2) = (ls.take i).flatMap (fun q => dueL q.1 q.2) ++ dueL d oth := by rw [List.take_add_one, hi, Option.toList_some, List.flatMap_append, List.flatMap_singleton]
    have l1 : ((ls.take i).flatMap fun q => dueL q.1 q.2).length ≤ 8 := by
      refine Nat.le_trans (sub_flat _ _ _) ?_
      rw [els]
      show (dueL a _ ++ (dueL b _ ++ [])).length ≤ 8
      unfold dueL
      simp only [List.length_append, List.length_map, List.length_range, List.length_nil]
      dsimp only at ld
      omega
    generalize (ls.take i).flatMap (fun q => dueL q.1 q.2) = acc at *
    refine sx_for (List.range d.rows.length) (fun (i : Nat) => PyData.int i) (fun j ds => ∃ s10, lowSl 1 s10 = true ∧ ds = ⟨[.lo 0, .pu (.list [eOwnD a, eOwnD b]), .pu (.list (g.rows.map eRow)), .pu (.list [eDig cs.Dig a, eDig cs.Dig b]), .pu (eDig cs.Dig g), .pu (eOwnD d), .pu (.list [.bool (!isN (ringD a)), .bool (!isN (ringD b))]), .un, .lo 1, .pu (.bool oth), s10, .un, .un, .un, .un, .un], [.lst p1, .lst ((acc ++ (List.range j).map fun n => if oth = true then none else d.due [n]).map eOpt)]⟩) (fun i ds => ds.set 10 (.pu (.int (i : Nat))))
      (eI_rng1 (n := (d.rows.length : Nat)) (ea_cons (ev_is (ev_cb (ea_cons (ev_kgS (by first | exact erk_own rfl rfl | exact Ev.rk (ev_var rfl)) ev_str (own_rows _ _)) ea_nil) (by walk_at "cd")) (by rw [List.length_map])) ea_nil) (by dsimp only at ld; omega)) ⟨s10, w10, by rw [List.range_zero, List.map_nil, List.append_nil]; rfl⟩ (fun i l ds _ ⟨s10, _, e⟩ => by subst e; exact tg1) ?_ ?_
    · rintro j j' _ hj ⟨s10, w10, rfl⟩
      obtain ⟨jl, rfl⟩ : j < d.rows.length ∧ j' = j := by
        obtain ⟨h1, h2⟩ := List.getElem?_eq_some_iff.mp hj
        rw [List.getElem_range] at h2
        rw [List.length_range] at h1
        exact ⟨h1, h2.symm⟩
      have e2 : (acc ++ (List.range (j' + 1)).map fun n => if oth = true then none else d.due [n]).map eOpt = (acc ++ (List.range j').map fun n => if oth = true then none else d.due [n]).map eOpt ++ [eOpt (if oth = true then none else d.due [j'])] := by
        rw [List.range_succ, List.map_append, List.map_append, List.map_append, List.map_append, List.append_assoc]; rfl
      refine sx_app1 (l := 1) rfl rfl (ev_if (d := eOpt (if oth = true then none else d.due [j'])) (b := oth) (et_B (ev_var rfl)) (fun e => ev_is ev_non (by rw [if_pos e]; rfl)) fun e => ev_is (ev_call (ea_cons (ev_var rfl) (ea_cons (ev_tupA (ea_cons (ev_var rfl) ea_nil) rfl) ea_nil)) (⟨_, _, rfl, d.units, d.rows, [j'], smd.u3, ld, okd.nd, rfl, rfl, by rw [dueG_eq okd smd]⟩)) (by rw [if_neg (by rw [e]; exact Bool.false_ne_true)])) (by rw [List.length_map, List.length_append, List.length_map, List.length_range]; dsimp only at ld; omega) ⟨_, rfl, by rw [e2]; rfl⟩
    · rintro _ ⟨s10, w10, rfl⟩
      show ∃ _ _ _, _
      rw [e1, List.length_range]
      exact ⟨_, _, s10, rfl, rfl, w10, rfl⟩
  · rintro _ ⟨s5, s9, s10, w5, w9, w10, rfl⟩
    exact ⟨s5, s9, s10, w5, w9, w10, by rw [List.take_length]⟩
  rintro _ ⟨s5, s9, s10, w5, w9, w10, rfl⟩
  refine sx_frz (l := 1) rfl rfl (by show 1 ≤ 1; decide) ?_
  have eal : ls.flatMap (fun q => dueL q.1 q.2) = dueL a (!isN (ringD b)) ++ dueL b (!isN (ringD a)) := by rw [els]; show _ ++ (_ ++ []) = _; rw [List.append_nil]
  have eal2 : (List.range g.rows.length).map (fun n => eOpt (g.due [n])) = (ls.flatMap fun q => dueL q.1 q.2).map eOpt := by rw [eal, ← h.alone, List.map_map]; rfl
  generalize ls.flatMap (fun q => dueL q.1 q.2) = L at *
  refine q_noI (b := false) (et_is (et_test (ev_op (ev_call (ea_cons (ev_var rfl) ea_nil) (⟨_, rfl, g, h.ok, rfl, by rw [eal2]⟩)) (by first | exact ev_tupleT (k := .l) (ev_var rfl)) (rd_ne (sh_opts L) (sh_opts L)))) (by rw [eqv_opts]; rfl)) rfl ?_
  refine sx_seq (Mid := fun ds => ∃ (p' : List PyData) (s5 s9 s10 s11 : Sl), PotOk (n + 74) p' ∧ ds = ⟨[.lo 0, .pu (.list [eOwnD a, eOwnD b]), .pu (.list (g.rows.map eRow)), .pu (.list [eDig cs.Dig a, eDig cs.Dig b]), .pu (eDig cs.Dig g), s5, .pu (.list [.bool (!isN (ringD a)), .bool (!isN (ringD b))]), .un, .pu (.list (L.map eOpt)), s9, s10, s11, .un, .un, .un, .un], [.lst p', .gone]⟩)
    (sx_ifE (ets_not (ets_B (es_cb (eas_one (es_lc (List.range 3) (fun (i : Nat) => PyData.int i) (fun i ds => ds.set 11 (.pu (.int (i : Nat)))) (fun i ds acc => ∃ (p' : List PyData) (s11 : Sl), PotOk (n + 50 + 8 * i) p' ∧ acc = List.replicate i (.bool true) ∧ ds = ⟨[.lo 0, .pu (.list [eOwnD a, eOwnD b]), .pu (.list (g.rows.map eRow)), .pu (.list [eDig cs.Dig a, eDig cs.Dig b]), .pu (eDig cs.Dig g), frzSl 1 (.list (L.map eOpt)) s5, .pu (.list [.bool (!isN (ringD a)), .bool (!isN (ringD b))]), .un, .pu (.list (L.map eOpt)), frzSl 1 (.list (L.map eOpt)) s9, frzSl 1 (.list (L.map eOpt)) s10, s11, .un, .un, .un, .un], [.lst p', .gone]⟩) (js := [11])
      ((eI_rng1 (n := 3) (ea_cons ev_int ea_nil) (by omega)).is rfl) (by decide) (fun j hj => hj) ⟨p1, .un, ok1, rfl, rfl⟩ (fun i l ds acc _ ⟨p', s11, _, _, e⟩ => by subst e; exact tg1) ?_ ?_)))))) ?_
  · rintro i l _ acc hi ⟨p2, s11, ok2, rfl, rfl⟩
    have i3 : i < 3 := (List.getElem?_eq_some_iff.mp hi).1
    refine es_callL (l := 0) ⟨p2, n + 50 + 8 * i, a, b, g, ok2, by omega, h, sa', sb', la', lb'⟩ [0] rfl (ea_cons (ev_var rfl) (ea_cons (ev_var rfl) (ea_cons (ev_var rfl) ea_nil))) rfl rfl (by decide) rfl ⟨⟨rfl, rfl, rfl⟩, trivial⟩ fun r st' po _ => ?_
    obtain ⟨p', ok', rfl, rfl⟩ := po
    exact ⟨_, rfl, p', _, ok', by rw [List.replicate_succ'], rfl⟩
  · rintro _ acc ⟨p2, s11, ok2, rfl, rfl⟩
    exact ⟨[.list [.bool true, .bool true, .bool true]], _, rfl, cd_all (bs := [true, true, true]), true, rfl, fun e => absurd e (by decide), fun _ => sx_next ⟨p2, _, _, _, _, ok2, rfl⟩⟩
  clear w5 w9 w10 s5 s9 s10
  rintro _ ⟨p2, s5, s9, s10, s11, ok2, rfl⟩
  refine sx_seq (Mid := fun ds => ∃ (k : Nat) (p' : List PyData), k < 7 ∧ PotOk (n + 75) p' ∧ ds = ⟨[.lo 0, .pu (.list [eOwnD a, eOwnD b]), .pu (.list (g.rows.map eRow)), .pu (.list [eDig cs.Dig a, eDig cs.Dig b]), .pu (eDig cs.Dig g), s5, .pu (.list [.bool (!isN (ringD a)), .bool (!isN (ringD b))]), .un, .pu (.list (L.map eOpt)), s9, s10, s11, .pu (nat k), .un, .un, .un], [.lst p', .gone]⟩)
    (sx_setE (es_cb (eas_one (es_take (l := 0) (u := 7) rfl rfl (ea_cons ev_int ea_nil) ok2 (by omega) (by omega) (by omega) fun k p' hk ok' => ⟨[.int (k : Nat)], _, rfl, cd_intI, by show 12 < 16; decide, k, p', hk, ok', rfl⟩)))) ?_
  rintro _ ⟨k, p3, hk, ok3, rfl⟩
  have fin : rgPo ⟨p, n, ok, hn⟩ (.pu (.bool true)) [.lst p3] := ⟨p3, ok3.mono (by show n + 75 ≤ n + 100; omega), rfl, rfl⟩
  have lv : ∀ o ∈ [Ob.lst p3], o.live = true ∧ below 1 o = true := fun o ho => by rw [List.mem_singleton.mp ho]; exact ⟨rfl, rfl⟩
  obtain ⟨fe, efe⟩ : ∃ fe : DigD → Option (List Nat), fe = fun d => fewF (fun db => d.enough db k) d.rows.length := ⟨_, rfl⟩
  have hf : fe g = match fe a, fe b with | some la, some lb => some (bothL a.rows.length la lb) | _, _ => none := by rw [efe]; exact h.few k
  have fd : ∀ d, fewF (fun db => d.enough db k) d.rows.length = fe d := fun d => by rw [efe]
  refine q_setI (d := .list [eLot (fe a), eLot (fe b)]) (EnL.ev (lc1 [a, b] eOwnD (fun d => eLot (fe d)) (eI_list (ev_var rfl)).r (by show 2 ≤ 90000; decide) fun d hd => (ev_call (ea_cons (ev_var rfl) (ea_cons (ev_var rfl) ea_nil)) (⟨_, _, rfl, d.units, d.rows, k, (two d hd).2.1.u3, (two d hd).2.2, by omega, (two d hd).1.nd, rfl, rfl, by rw [fewG_eq (two d hd).1 (two d hd).2.1 (two d hd).2.2, fd]⟩)))) rfl ?_ rfl
  refine q_noI (b := false) (et_is (et_test (ev_op (EnL.ev (lc1 [a, b] (eDig cs.Dig) (fun d => eLot (fe d)) (eI_list (ev_var rfl)).r (by show 2 ≤ 90000; decide) fun d hd => (ev_call (ea_cons (ev_var rfl) (ea_cons (ev_var rfl) ea_nil)) (⟨_, _, rfl, d, k, (two d hd).1, by omega, by have := (two d hd).2.2; omega, rfl, rfl, by rw [fd]⟩)))) (ev_var rfl) (rd_ne (sh_lots (fe a) (fe b)) (sh_lots (fe a) (fe b))))) (by show (!PyData.eqv (.list [eLot (fe a), eLot (fe b)]) (.list [eLot (fe a), eLot (fe b)])) = false; rw [eqv_lots]; rfl)) rfl ?_
  refine q_setI (d := eLot (fe g)) (ev_call (ea_cons (ev_var rfl) (ea_cons (ev_var rfl) ea_nil)) (⟨_, _, rfl, g, k, h.ok, by omega, by omega, rfl, rfl, by rw [fd]⟩)) rfl ?_ rfl
  rw [hf]
  cases ha : fe a with
  | none =>
    exact q_yesI (b := true) (et_test (ev_op ev_non (ev_var rfl) (rd_inL rfl (sh_lots none (fe b))))) rfl (sx_retI (ev_isN (ev_var rfl)) rfl ⟨lv, fin⟩)
  | some xa =>
    cases hb : fe b with
    | none =>
      exact q_yesI (b := true) (et_test (ev_op ev_non (ev_var rfl) (rd_inL rfl (sh_lots (some xa) none)))) rfl (sx_retI (ev_isN (ev_var rfl)) rfl ⟨lv, fin⟩)
    | some xb =>
      refine q_noI (b := false) (et_test (ev_op ev_non (ev_var rfl) (rd_inL rfl (sh_lots (some xa) (some xb))))) rfl ?_
      have lxa : xa.length ≤ 4 := by
        rw [efe] at ha
        have := (mem_all.mp (List.mem_of_find?_eq_some ha)).le
        omega
      have lxb : xb.length ≤ 4 := by
        rw [efe] at hb
        have := (mem_all.mp (List.mem_of_find?_eq_some hb)).le
        omega
      refine q_setI (d := eDb (xb.map (· + a.rows.length))) (ev_tupleR (EnL.rl (lc1 xb nat (fun i => nat (i + a.rows.length)) (eI_tup (ev_op (ev_op (ev_var rfl) ev_int (rd_ixL (atI_nat (j := 1) rfl))) ev_int (rd_ixT (atI_nat (j := 1) rfl)))).r (by omega) fun i hi => ev_is (ev_op (ev_var rfl) (ev_cb (ea_cons (ev_kgS (Ev.rk (ev_op (ev_var rfl) ev_int (rd_ixL (atI_nat (j := 0) rfl)))) ev_str (own_rows _ _)) ea_nil) (by walk_at "cd")) (rd_addI)) (by rw [List.length_map]; rfl)))) (by unfold eDb; rw [List.map_map]; rfl) ?_ rfl
      refine sx_retI (ev_op (ev_var rfl) (ev_is (y := eLot (some (bothL a.rows.length xa xb))) (ev_tupA (ea_cons (ev_op (ev_op (ev_op (ev_var rfl) ev_int (rd_ixL (atI_nat (j := 0) rfl))) ev_int (rd_ixT (atI_nat (j := 0) rfl))) (ev_op (ev_op (ev_var rfl) ev_int (rd_ixL (atI_nat (j := 1) rfl))) ev_int (rd_ixT (atI_nat (j := 0) rfl))) (rd_addI)) (ea_cons (ev_op (ev_op (ev_op (ev_var rfl) ev_int (rd_ixL (atI_nat (j := 0) rfl))) ev_int (rd_ixT (atI_nat (j := 1) rfl))) (ev_var rfl) (rd_addT (by rw [List.length_map, List.length_map, List.length_map]; omega))) ea_nil)) rfl) ?_) (rd_eq (sh_lot _) (sh_lot _))) (congrArg PyData.bool (eqv_lot _)) ⟨lv, fin⟩
      show PyData.tuple [.int _, .tuple _] = .tuple [.int _, .tuple _]
      unfold bothL
      rw [List.map_append, List.length_append, List.length_map]
      rfl
theorem ok_law (T : Fx K mg cs) {f : Addr} {fd : FuncData} (F : Fun K "law" "law" st_law f fd) : FnOk Pr w K mg base CX0 9 f fd ["script"] (spLaw K) := by
  have c__law_cells := ok__law_cells (Pr := Pr) (w := w) (base := base) T
  have c__law_pot := ok__law_pot (Pr := Pr) (w := w) (base := base) T
  have c__law_right := ok__law_right (Pr := Pr) (w := w) (base := base) T
  refine fn_okL F sc_law (fun cdv A outer s H E hr => ⟨_, (pss_cons (ps_for PassesOwn.never rfl (kw_seq K (pe_own c__law_cells (hr.mono (by decide)) (by rfl) (pa_cons (pv 0) (pa_cons pe_int pa_nil)))) (pg_name (i := 1) sc_law.nd rfl (by first | exact Or.inl rfl | exact Or.inr rfl)) (pss_cons (ps_set (i := 2) sc_law.nd rfl (.inr rfl) (pe_own c__law_pot (hr.mono (by decide)) (by rfl) (pa_cons (pv 0) (pa_cons (pv 1) pa_nil))))
      (pss_one (ps_if (pt_not (pt_val (pe_callB (kc_all K rfl) (by rfl) T.b_all bt_all (pa_cons (pe_lc (own := [("lap", 3)]) (g := (gName 3)) rfl sc_law.nd (pi_range1 (by rfl) T.b_range (pa_cons pe_int pa_nil)) (blkOk_by (own := [("lap", 3)]) (N := N_law) (sc := defScope st_law) (by decide +kernel)) (fun _ _ _ _ _ => (pg_name (i := 3) sc_law.nd rfl (by first | exact Or.inl rfl | exact Or.inr rfl))) (fun _ _ _ _ _ => pts_nil) (fun _ _ _ _ _ => (pe_own c__law_right (hr.mono (by decide)) (by rfl) (pa_cons (pv 2) pa_nil)))) pa_nil)))) (pss_one (ps_ret pe_bl)) pss_nil))))
      (pss_one (ps_ret pe_bl))), fun ns hl => ?_⟩)
  refine q_for (List.range (cellsN (ns.map PyData.int).length).toNat) (fun (i : Nat) => .int (i : Int)) (fun _ ds => ∃ s1 s2 s3, lowSl 0 s1 = true ∧ lowSl 0 s2 = true ∧ lowSl 0 s3 = true ∧ ds = ⟨[.rl (ns.map .int), s1, s2, s3], []⟩) (fun i ds => ds.set 1 (.pu (.int (i : Int))))
    (eI_list (ev_callRl (ns.map PyData.int) rfl (ea_cons ev_int ea_nil) rfl rfl fun r st' po => po.1)) ⟨.un, .un, .un, rfl, rfl, rfl, rfl⟩ (fun i l ds _ ⟨s1, s2, s3, _, _, _, e⟩ => by subst e; exact tg1) ?_ ?_
  · rintro i p _ hi ⟨s1, s2, s3, w1, w2, w3, rfl⟩
    have hp : p < 3 := by
      have h1 := List.mem_range.mp (List.mem_of_getElem? hi)
      have := cells_n (ns.map PyData.int).length
      omega
    refine sx_seq (Mid := fun ds => ∃ p0, PotOk 0 p0 ∧ ds = ⟨[.rl (ns.map .int), .pu (.int (p : Nat)), .lo 0, s3], [.lst p0]⟩) (sx_setE (es_callRl ⟨ns, p, hp⟩ rfl (ea_cons (ev_var rfl) ea_nil) rfl rfl fun r st' po => ?_)) ?_
    · obtain ⟨p0, ok, rfl, rfl⟩ := po
      exact ⟨by show 2 < 4; decide, p0, ok, rfl⟩
    rintro _ ⟨p0, ok0, rfl⟩
    refine sx_late (Mid := fun ds => ∃ (p' : List PyData) (s3 : Sl), lowSl 0 s3 = true ∧ ds = ⟨[.rl (ns.map .int), .pu (.int (p : Nat)), .lo 0, s3], [.lst p']⟩) (sx_ifE (ets_not (ets_B (es_cb (eas_one (es_lc (List.range 2) (fun (i : Nat) => .int (i : Int)) (fun i ds => ds.set 3 (.pu (.int (i : Int)))) (fun i ds acc => ∃ (p' : List PyData), PotOk (100 * i) p' ∧ acc = List.replicate i (.bool true) ∧ ds = ⟨[.rl (ns.map .int), .pu (.int (p : Nat)), .lo 0, .un], [.lst p']⟩) (js := [3])
      ((eI_rng1 (n := 2) (ea_cons ev_int ea_nil) (by decide)).is rfl) (by decide) (fun j h => h) ⟨p0, ok0, rfl, rfl⟩ (fun i l ds acc _ ⟨p', _, _, e⟩ => by subst e; exact tg1) ?_ ?_)))))) ?_
    · rintro i l _ acc hi ⟨p2, ok2, rfl, rfl⟩
      have hi2 : i < 2 := (List.getElem?_eq_some_iff.mp hi).1
      refine es_callL (l := 0) ⟨p2, 100 * i, ok2, by omega⟩ [0] rfl ea_nil rfl rfl (by decide) rfl ⟨⟨rfl, rfl, rfl⟩, trivial⟩ fun r st' po _ => ?_
      obtain ⟨p', ok', rfl, rfl⟩ := po
      exact ⟨_, rfl, p', ok', by rw [List.replicate_succ'], rfl⟩
    · rintro _ acc ⟨p2, ok2, rfl, rfl⟩
      exact ⟨[.list [.bool true, .bool true]], _, rfl, cd_all (bs := [true, true]), true, rfl, fun e => absurd e (by decide), fun _ => sx_next ⟨p2, .un, rfl, rfl⟩⟩
    · rintro _ ⟨p2, s3, w3, rfl⟩
      refine sx_frz (l := 0) rfl rfl (Nat.zero_le _) ?_
      exact sx_trim (st := []) (sx_next ⟨.pu (.int (p : Nat)), .pu (.list p2), _, rfl, rfl, low_frz w3, rfl⟩) (by show (true && (true && (true && (_ && true)))) = true; rw [low_frz w3]; rfl) rfl (Nat.zero_le _)
  · rintro _ ⟨s1, s2, s3, w1, w2, w3, rfl⟩
    exact sx_ret ev_bl rfl
end
end L4
end

section
set_option Elab.async false
set_option linter.all false
set_option maxRecDepth 100000
set_option autoImplicit false
/-! What the top has written; the head. -/
namespace L4
open PySem L2
section
variable {K : PySem.W.Frag} {h : Heap} {mg : Str → Option Value} {x m qual : Str} {st : Stmt} {ps : List Str} {C f p : Addr} {od an : Option Addr} {sl : Array (Option Value)} {oc kV dc pm cd ct : Value} {rest : List Value}
theorem at_mk (X : K.In h) (G : h.Ns mainGlobals mg)
    (a : PySem.W.nsIn K mainGlobals x = some (some (.ref f))) (l : K.lookup f = some ⟨oc, od, .func (PySem.W.fnOf x x (defArgs st) (defBody st) (defScope st) .none kV dc pm an cd ct), sl⟩) (c : PySem.W.codeIn K cd x = true) (k : PySem.W.keepIn K (.ref f) = true)
    (b : ∀ (kV doc pm : Value) (an : Option Addr) (cdv ct : Value) (us : List Value), us.length = ps.length → bindArgs (PySem.W.fnOf x x (defArgs st) (defBody st) (defScope st) .none kV doc pm an cdv ct) ⟨us, []⟩ = pure (ps.zip us)) : At K mg x st ps :=
  ⟨f, _, fun_mk (st := st) l c k, (fun_mk (st := st) l c k).binds b, PySem.W.mg_of X G a⟩
theorem ati_mk (X : K.In h) (G : h.Ns mainGlobals mg) (aC : PySem.W.nsIn K mainGlobals x = some (some (.ref C))) (a : PySem.W.findIn K (.ref C) "__init__" = some (some (.ref f))) (i : PySem.W.isFn K (.ref f) = true)
    (l : K.lookup f = some ⟨oc, od, .func (PySem.W.fnOf "__init__" qual (defArgs st) (defBody st) (defScope st) .none kV dc pm an cd ct), sl⟩) (c : PySem.W.codeIn K cd qual = true) (k : PySem.W.keepIn K (.ref f) = true) (mk : PySem.W.makesIn K C = true) (kc : PySem.W.keepIn K (.ref C) = true)
    (b : ∀ (kV doc pm : Value) (an : Option Addr) (cdv ct : Value) (us : List Value), us.length = ps.length → bindArgs (PySem.W.fnOf "__init__" qual (defArgs st) (defBody st) (defScope st) .none kV doc pm an cdv ct) ⟨us, []⟩ = pure (ps.zip us)) : AtI K mg C x qual st ps :=
  ⟨f, _, fun_mk (st := st) l c k, (fun_mk (st := st) l c k).binds b, ⟨mk, a, i, kc⟩, PySem.W.mg_of X G aC⟩
theorem atm_mk (a : PySem.W.findIn K (.ref C) m = some (some (.ref f))) (i : PySem.W.isFn K (.ref f) = true)
    (l : K.lookup f = some ⟨oc, od, .func (PySem.W.fnOf m qual (defArgs st) (defBody st) (defScope st) .none kV dc pm an cd ct), sl⟩) (c : PySem.W.codeIn K cd qual = true) (k : PySem.W.keepIn K (.ref f) = true)
    (b : ∀ (kV doc pm : Value) (an : Option Addr) (cdv ct : Value) (us : List Value), us.length = ps.length → bindArgs (PySem.W.fnOf m qual (defArgs st) (defBody st) (defScope st) .none kV doc pm an cdv ct) ⟨us, []⟩ = pure (ps.zip us)) : AtM K C m qual st ps :=
  ⟨f, _, fun_mk (st := st) l c k, (fun_mk (st := st) l c k).binds b, ⟨a, i, k⟩⟩
theorem atp_mk (a : PySem.W.findIn K (.ref C) m = some (some (.ref p))) (gt : PySem.W.specialIn K (.ref p) "__get__" = some (some (.builtin "property.__get__"))) (tk : PySem.W.takesIn K (.ref p) = some true) (rc : PySem.W.recIn K p "property" = some (.ref f :: rest))
    (l : K.lookup f = some ⟨oc, od, .func (PySem.W.fnOf m qual (defArgs st) (defBody st) (defScope st) .none kV dc pm an cd ct), sl⟩) (c : PySem.W.codeIn K cd qual = true) (k : PySem.W.keepIn K (.ref f) = true)
    (b : ∀ (kV doc pm : Value) (an : Option Addr) (cdv ct : Value) (us : List Value), us.length = ps.length → bindArgs (PySem.W.fnOf m qual (defArgs st) (defBody st) (defScope st) .none kV doc pm an cdv ct) ⟨us, []⟩ = pure (ps.zip us)) : AtP K C m qual st ps :=
  ⟨p, f, _, fun_mk (st := st) l c k, (fun_mk (st := st) l c k).binds b, ⟨a, gt, tk, _, rc⟩⟩
theorem kit_ref (a : Addr) : PySem.W.kitOne K (.ref a) (.ref a) = some true := if_pos (by first | exact beq_self_eq_true _ | simp | (show (a == a) = true; exact beq_self_eq_true a) | rfl)
theorem no_mk (h : PySem.W.findIn K (.ref C) x = some none) : NoAttr K C x := h
theorem cst_mk {v : V} {u : Value} (X : K.In h) (G : h.Ns mainGlobals mg) (a : PySem.W.nsIn K mainGlobals x = some (some u)) (r : RelV v u) : Cst mg x v := ⟨u, PySem.W.mg_of X G a, r⟩
theorem fx_mk {C_Reader C_Dig C_Years : Addr} (x0 : At K mg "is_integer" st_is_integer ["value"]) (x1 : At K mg "is_between" st_is_between ["value", "least", "most"]) (x2 : At K mg "is_name" st_is_name ["value"]) (x3 : At K mg "is_ascending" st_is_ascending ["values"]) (x4 : At K mg "read_integer" st_read_integer ["word"]) (x5 : At K mg "has_row_form" st_has_row_form ["units", "value"]) (x6 : At K mg "row_line" st_row_line ["row"]) (x7 : At K mg "row_of" st_row_of ["words"]) (x8 : At K mg "steps_of" st_steps_of ["row"]) (x9 : AtI K mg C_Reader "Reader" "Reader.__init__" st_Reader___init__ ["self"]) (x10 : AtM K C_Reader "takes" "Reader.takes" st_Reader_takes ["self", "line"]) (x11 : AtM K C_Reader "takes_unit" "Reader.takes_unit" st_Reader_takes_unit ["self", "words"]) (x12 : AtP K C_Reader "found" "Reader.found" st_Reader_found ["self"]) (x13 : AtI K mg C_Dig "Dig" "Dig.__init__" st_Dig___init__ ["self", "text"]) (x14 : AtP K C_Dig "units" "Dig.units" st_Dig_units ["self"]) (x15 : AtP K C_Dig "rows" "Dig.rows" st_Dig_rows ["self"]) (x16 : At K mg "check_dig" st_check_dig ["dig"]) (x17 : At K mg "step_table" st_step_table ["rows"]) (x18 : At K mg "are_doubts" st_are_doubts ["dig", "value"]) (x19 : At K mg "check_doubts" st_check_doubts ["dig", "doubts"]) (x20 : At K mg "told_steps" st_told_steps ["dig"]) (x21 : At K mg "growth_of" st_growth_of ["around"]) (x22 : At K mg "doubt_of" st_doubt_of ["doubts", "around"]) (x23 : At K mg "back_around" st_back_around ["ahead", "unit"]) (x24 : At K mg "raised" st_raised ["units", "told", "weights"]) (x25 : At K mg "weights_of" st_weights_of ["told", "doubts", "top", "low"]) (x26 : At K mg "common_of" st_common_of ["one", "other"]) (x27 : At K mg "share_of" st_share_of ["dig", "doubts"]) (x28 : At K mg "loose_years" st_loose_years ["dig", "doubts", "years"]) (x29 : At K mg "wrong" st_wrong ["dig", "doubts"]) (x30 : At K mg "is_loose_of" st_is_loose_of ["dig", "doubts", "years", "value"]) (x31 : At K mg "is_loose" st_is_loose ["dig", "doubts", "years", "value"]) (x32 : At K mg "check_share" st_check_share ["dig", "doubts"]) (x33 : At K mg "share" st_share ["dig", "doubts"]) (x34 : At K mg "alone" st_alone ["dig"]) (x35 : At K mg "is_enough" st_is_enough ["dig", "doubts", "years"]) (x36 : At K mg "some_of" st_some_of ["many", "amount"]) (x37 : At K mg "fewest_in_doubt" st_fewest_in_doubt ["dig", "years"]) (x38 : AtI K mg C_Years "Years" "Years.__init__" st_Years___init__ ["self", "units", "table", "begun"]) (x39 : AtM K C_Years "go" "Years.go" st_Years_go ["self"]) (x40 : AtP K C_Years "ring" "Years.ring" st_Years_ring ["self"]) (x41 : At K mg "ring_of" st_ring_of ["dig"]) (x42 : At K mg "ring" st_ring ["dig"]) (x43 : At K mg "_law_pot" st__law_pot ["script", "place"]) (x44 : At K mg "_law_take" st__law_take ["pot", "upto"]) (x45 : At K mg "_law_of" st__law_of ["pot", "some"]) (x46 : At K mg "_law_cells" st__law_cells ["script", "most"]) (x47 : At K mg "_law_some" st__law_some ["pot", "pool", "amount"]) (x48 : At K mg "_law_row" st__law_row ["pot", "units", "most"]) (x49 : At K mg "_law_text" st__law_text ["own"]) (x50 : At K mg "_law_row_steps" st__law_row_steps ["row"]) (x51 : At K mg "_law_drawn" st__law_drawn ["pot", "names"]) (x52 : At K mg "_law_grows" st__law_grows ["own", "doubts", "by"]) (x53 : At K mg "_law_due" st__law_due ["own", "doubts"]) (x54 : At K mg "_law_fewest" st__law_fewest ["own", "by"]) (x55 : At K mg "_law_greater" st__law_greater ["one", "other"]) (x56 : At K mg "_law_are_lots_right" st__law_are_lots_right ["pot", "owns", "digs", "whole"]) (x57 : At K mg "_law_right" st__law_right ["pot"]) (x58 : At K mg "law" st_law ["script"]) (x59 : Cls K C_Reader) (x60 : Cls K C_Dig) (x61 : mg "Dig" = some (.ref C_Dig)) (x62 : C8.InsC K C_Dig) (x63 : Cls K C_Years) (x64 : NoAttr K C_Reader "own_units") (x65 : NoAttr K C_Reader "own_rows") (x66 : NoAttr K C_Dig "own_text") (x67 : NoAttr K C_Dig "own_units") (x68 : NoAttr K C_Dig "own_rows") (x69 : NoAttr K C_Years "own_units") (x70 : NoAttr K C_Years "own_rows") (x71 : NoAttr K C_Years "own_far") (x72 : NoAttr K C_Years "own_ahead") (x73 : NoAttr K C_Years "own_last") (x74 : mg "abs" = none) (x75 : mg "all" = none) (x76 : mg "any" = none) (x77 : mg "bool" = none) (x78 : mg "dict" = none) (x79 : mg "enumerate" = none) (x80 : mg "int" = none) (x81 : mg "isinstance" = none) (x82 : mg "len" = none) (x83 : mg "list" = none) (x84 : mg "max" = none) (x85 : mg "min" = none) (x86 : mg "range" = none) (x87 : mg "sorted" = none) (x88 : mg "str" = none) (x89 : mg "sum" = none) (x90 : mg "tuple" = none) (x91 : mg "zip" = none) (x92 : Cst mg "ABOVE" (.str "above")) (x93 : Cst mg "BY" (.str "by")) (x94 : Cst mg "FIGURES" (.str "0123456789")) (x95 : Cst mg "LEAST" (.str "least")) (x96 : Cst mg "LETTERS" (.str "abcdefghijklmnopqrstuvwxyz")) (x97 : Cst mg "MOST" (.str "most")) (x98 : Cst mg "MOST_ROWS_digs" (.int 200)) (x99 : Cst mg "MOST_ROWS_wrongly" (.int 10)) (x100 : Cst mg "MOST_SIGNS" (.int 8)) (x101 : Cst mg "MOST_SPAN" (.int 9999)) (x102 : Cst mg "MOST_UNITS" (.int 40)) (x103 : Cst mg "MOST_YEARS" (.int 9999)) (x104 : Cst mg "NEVER" (.str "never")) (x105 : Cst mg "SAME" (.str "same")) (x106 : Cst mg "UNIT" (.str "unit")) : Fx K mg ⟨C_Reader, C_Dig, C_Years⟩ := ⟨x0, x1, x2, x3, x4, x5, x6, x7, x8, x9, x10, x11, x12, x13, x14, x15, x16, x17, x18, x19, x20, x21, x22, x23, x24, x25, x26, x27, x28, x29, x30, x31, x32, x33, x34, x35, x36, x37, x38, x39, x40, x41, x42, x43, x44, x45, x46, x47, x48, x49, x50, x51, x52, x53, x54, x55, x56, x57, x58, x59, x60, x61, x62, x63, x64, x65, x66, x67, x68, x69, x70, x71, x72, x73, x74, x75, x76, x77, x78, x79, x80, x81, x82, x83, x84, x85, x86, x87, x88, x89, x90, x91, x92, x93, x94, x95, x96, x97, x98, x99, x100, x101, x102, x103, x104, x105, x106⟩
theorem fin_mk {l : PySem.W.OpenLaw} {w : World} {cs : Cs} {fa : Addr} (X : K.In h) (G : h.Ns mainGlobals mg) (hfa : mg "law" = some (.ref fa)) (T : Fx K mg cs)
    (a : PySem.W.nsIn K mainGlobals "law" = some (some (.ref f))) (lk : K.lookup f = some ⟨oc, od, .func (PySem.W.fnOf "law" "law" (defArgs st_law) (defBody st_law) (defScope st_law) .none kV dc pm an cd ct), sl⟩) (c : PySem.W.codeIn K cd "law" = true) (k : PySem.W.keepIn K (.ref f) = true) :
    ∃ fd : FuncData, (∀ (s : Shared) (v : Value), BindsTo s fd ⟨[v], []⟩ [("script", v)]) ∧ ∀ base : Heap, K.In base → base.Ns mainGlobals mg → FnOk l.prog w K mg base CX0 9 fa fd ["script"] (spLaw K) := by
  have e := hfa.symm.trans (PySem.W.mg_of X G a)
  cases e
  exact ⟨PySem.W.fnOf "law" "law" (defArgs st_law) (defBody st_law) (defScope st_law) .none kV dc pm an cd ct, fun s v => .of_eq rfl, fun base _ _ => ok_law T (fun_mk (st := st_law) lk c k)⟩
end
end L4
open PySem PySem.W PyProof.Rows
set_option maxHeartbeats 0 in
theorem PySem.Challenge.cw_laidbefore_k31_whole_wrong_rows_side_by_holds : PySem.Challenge.rw_laidbefore_k31_whole_wrong_rows_side_by.Holds := by
  w_on; o_law; k_head; (case hw => w_witness2)
  k_fill
  refine L2.walk_of (l := PySem.Challenge.rw_laidbefore_k31_whole_wrong_rows_side_by) (n := 63) (k := 9) (x := "script") (CX := fun _ => L2.CX0) (sp := fun w => L4.spLaw _) rfl (by decide) rfl ⟨rfl, by decide, by decide⟩ (fun w h Y => PySem.W.kIn_of Y) ?F (fun _ _ a ns hl _ hS => ⟨a, ns, rfl, hS, hl, fun _ => rfl⟩) (fun _ _ _ _ _ h => h)
  case F =>
    intro w mg fa h KX G hmg
    refine' L4.fin_mk KX G hmg (L4.fx_mk
      (L4.at_mk KX G ?a0 ?l0 ?c0 ?k0 fun _ _ _ _ _ _ us hl => match us, hl with | [_], _ => rfl)
      (L4.at_mk KX G ?a1 ?l1 ?c1 ?k1 fun _ _ _ _ _ _ us hl => match us, hl with | [_, _, _], _ => rfl)
      (L4.at_mk KX G ?a2 ?l2 ?c2 ?k2 fun _ _ _ _ _ _ us hl => match us, hl with | [_], _ => rfl)
      (L4.at_mk KX G ?a3 ?l3 ?c3 ?k3 fun _ _ _ _ _ _ us hl => match us, hl with | [_], _ => rfl)
      (L4.at_mk KX G ?a4 ?l4 ?c4 ?k4 fun _ _ _ _ _ _ us hl => match us, hl with | [_], _ => rfl)
      (L4.at_mk KX G ?a5 ?l5 ?c5 ?k5 fun _ _ _ _ _ _ us hl => match us, hl with | [_, _], _ => rfl)
      (L4.at_mk KX G ?a6 ?l6 ?c6 ?k6 fun _ _ _ _ _ _ us hl => match us, hl with | [_], _ => rfl)
      (L4.at_mk KX G ?a7 ?l7 ?c7 ?k7 fun _ _ _ _ _ _ us hl => match us, hl with | [_], _ => rfl)
      (L4.at_mk KX G ?a8 ?l8 ?c8 ?k8 fun _ _ _ _ _ _ us hl => match us, hl with | [_], _ => rfl)
      (L4.ati_mk KX G ?g9 ?a9 ?i9 ?l9 ?c9 ?k9 ?mk9 ?kc9 fun _ _ _ _ _ _ us hl => match us, hl with | [_], _ => rfl)
      (L4.atm_mk ?a10 ?i10 ?l10 ?c10 ?k10 fun _ _ _ _ _ _ us hl => match us, hl with | [_, _], _ => rfl)
      (L4.atm_mk ?a11 ?i11 ?l11 ?c11 ?k11 fun _ _ _ _ _ _ us hl => match us, hl with | [_, _], _ => rfl)
      (L4.atp_mk ?a12 ?gt12 ?tk12 ?rc12 ?l12 ?c12 ?k12 fun _ _ _ _ _ _ us hl => match us, hl with | [_], _ => rfl)
      (L4.ati_mk KX G ?g13 ?a13 ?i13 ?l13 ?c13 ?k13 ?mk13 ?kc13 fun _ _ _ _ _ _ us hl => match us, hl with | [_, _], _ => rfl)
      (L4.atp_mk ?a14 ?gt14 ?tk14 ?rc14 ?l14 ?c14 ?k14 fun _ _ _ _ _ _ us hl => match us, hl with | [_], _ => rfl)
      (L4.atp_mk ?a15 ?gt15 ?tk15 ?rc15 ?l15 ?c15 ?k15 fun _ _ _ _ _ _ us hl => match us, hl with | [_], _ => rfl)
      (L4.at_mk KX G ?a16 ?l16 ?c16 ?k16 fun _ _ _ _ _ _ us hl => match us, hl with | [_], _ => rfl)
      (L4.at_mk KX G ?a17 ?l17 ?c17 ?k17 fun _ _ _ _ _ _ us hl => match us, hl with | [_], _ => rfl)
      (L4.at_mk KX G ?a18 ?l18 ?c18 ?k18 fun _ _ _ _ _ _ us hl => match us, hl with | [_, _], _ => rfl)
      (L4.at_mk KX G ?a19 ?l19 ?c19 ?k19 fun _ _ _ _ _ _ us hl => match us, hl with | [_, _], _ => rfl)
      (L4.at_mk KX G ?a20 ?l20 ?c20 ?k20 fun _ _ _ _ _ _ us hl => match us, hl with | [_], _ => rfl)
      (L4.at_mk KX G ?a21 ?l21 ?c21 ?k21 fun _ _ _ _ _ _ us hl => match us, hl with | [_], _ => rfl)
      (L4.at_mk KX G ?a22 ?l22 ?c22 ?k22 fun _ _ _ _ _ _ us hl => match us, hl with | [_, _], _ => rfl)
      (L4.at_mk KX G ?a23 ?l23 ?c23 ?k23 fun _ _ _ _ _ _ us hl => match us, hl with | [_, _], _ => rfl)
      (L4.at_mk KX G ?a24 ?l24 ?c24 ?k24 fun _ _ _ _ _ _ us hl => match us, hl with | [_, _, _], _ => rfl)
      (L4.at_mk KX G ?a25 ?l25 ?c25 ?k25 fun _ _ _ _ _ _ us hl => match us, hl with | [_, _, _, _], _ => rfl)
      (L4.at_mk KX G ?a26 ?l26 ?c26 ?k26 fun _ _ _ _ _ _ us hl => match us, hl with | [_, _], _ => rfl)
      (L4.at_mk KX G ?a27 ?l27 ?c27 ?k27 fun _ _ _ _ _ _ us hl => match us, hl with | [_, _], _ => rfl)
      (L4.at_mk KX G ?a28 ?l28 ?c28 ?k28 fun _ _ _ _ _ _ us hl => match us, hl with | [_, _, _], _ => rfl)
      (L4.at_mk KX G ?a29 ?l29 ?c29 ?k29 fun _ _ _ _ _ _ us hl => match us, hl with | [_, _], _ => rfl)
      (L4.at_mk KX G ?a30 ?l30 ?c30 ?k30 fun _ _ _ _ _ _ us hl => match us, hl with | [_, _, _, _], _ => rfl)
      (L4.at_mk KX G ?a31 ?l31 ?c31 ?k31 fun _ _ _ _ _ _ us hl => match us, hl with | [_, _, _, _], _ => rfl)
      (L4.at_mk KX G ?a32 ?l32 ?c32 ?k32 fun _ _ _ _ _ _ us hl => match us, hl with | [_, _], _ => rfl)
      (L4.at_mk KX G ?a33 ?l33 ?c33 ?k33 fun _ _ _ _ _ _ us hl => match us, hl with | [_, _], _ => rfl)
      (L4.at_mk KX G ?a34 ?l34 ?c34 ?k34 fun _ _ _ _ _ _ us hl => match us, hl with | [_], _ => rfl)
      (L4.at_mk KX G ?a35 ?l35 ?c35 ?k35 fun _ _ _ _ _ _ us hl => match us, hl with | [_, _, _], _ => rfl)
      (L4.at_mk KX G ?a36 ?l36 ?c36 ?k36 fun _ _ _ _ _ _ us hl => match us, hl with | [_, _], _ => rfl)
      (L4.at_mk KX G ?a37 ?l37 ?c37 ?k37 fun _ _ _ _ _ _ us hl => match us, hl with | [_, _], _ => rfl)
      (L4.ati_mk KX G ?g38 ?a38 ?i38 ?l38 ?c38 ?k38 ?mk38 ?kc38 fun _ _ _ _ _ _ us hl => match us, hl with | [_, _, _, _], _ => rfl)
      (L4.atm_mk ?a39 ?i39 ?l39 ?c39 ?k39 fun _ _ _ _ _ _ us hl => match us, hl with | [_], _ => rfl)
      (L4.atp_mk ?a40 ?gt40 ?tk40 ?rc40 ?l40 ?c40 ?k40 fun _ _ _ _ _ _ us hl => match us, hl with | [_], _ => rfl)
      (L4.at_mk KX G ?a41 ?l41 ?c41 ?k41 fun _ _ _ _ _ _ us hl => match us, hl with | [_], _ => rfl)
      (L4.at_mk KX G ?a42 ?l42 ?c42 ?k42 fun _ _ _ _ _ _ us hl => match us, hl with | [_], _ => rfl)
      (L4.at_mk KX G ?a43 ?l43 ?c43 ?k43 fun _ _ _ _ _ _ us hl => match us, hl with | [_, _], _ => rfl)
      (L4.at_mk KX G ?a44 ?l44 ?c44 ?k44 fun _ _ _ _ _ _ us hl => match us, hl with | [_, _], _ => rfl)
      (L4.at_mk KX G ?a45 ?l45 ?c45 ?k45 fun _ _ _ _ _ _ us hl => match us, hl with | [_, _], _ => rfl)
      (L4.at_mk KX G ?a46 ?l46 ?c46 ?k46 fun _ _ _ _ _ _ us hl => match us, hl with | [_, _], _ => rfl)
      (L4.at_mk KX G ?a47 ?l47 ?c47 ?k47 fun _ _ _ _ _ _ us hl => match us, hl with | [_, _, _], _ => rfl)
      (L4.at_mk KX G ?a48 ?l48 ?c48 ?k48 fun _ _ _ _ _ _ us hl => match us, hl with | [_, _, _], _ => rfl)
      (L4.at_mk KX G ?a49 ?l49 ?c49 ?k49 fun _ _ _ _ _ _ us hl => match us, hl with | [_], _ => rfl)
      (L4.at_mk KX G ?a50 ?l50 ?c50 ?k50 fun _ _ _ _ _ _ us hl => match us, hl with | [_], _ => rfl)
      (L4.at_mk KX G ?a51 ?l51 ?c51 ?k51 fun _ _ _ _ _ _ us hl => match us, hl with | [_, _], _ => rfl)
      (L4.at_mk KX G ?a52 ?l52 ?c52 ?k52 fun _ _ _ _ _ _ us hl => match us, hl with | [_, _, _], _ => rfl)
      (L4.at_mk KX G ?a53 ?l53 ?c53 ?k53 fun _ _ _ _ _ _ us hl => match us, hl with | [_, _], _ => rfl)
      (L4.at_mk KX G ?a54 ?l54 ?c54 ?k54 fun _ _ _ _ _ _ us hl => match us, hl with | [_, _], _ => rfl)
      (L4.at_mk KX G ?a55 ?l55 ?c55 ?k55 fun _ _ _ _ _ _ us hl => match us, hl with | [_, _], _ => rfl)
      (L4.at_mk KX G ?a56 ?l56 ?c56 ?k56 fun _ _ _ _ _ _ us hl => match us, hl with | [_, _, _, _], _ => rfl)
      (L4.at_mk KX G ?a57 ?l57 ?c57 ?k57 fun _ _ _ _ _ _ us hl => match us, hl with | [_], _ => rfl)
      (L4.at_mk KX G ?a58 ?l58 ?c58 ?k58 fun _ _ _ _ _ _ us hl => match us, hl with | [_], _ => rfl)
      ⟨?pg59, ?hd59, ?po59, ?sa59⟩
      ⟨?pg60, ?hd60, ?po60, ?sa60⟩
      (PySem.W.mg_of KX G ?y61)
      ⟨⟨?pg62, ?hd62, ?po62, ?sa62⟩, ?ha62, ?hn62, ?ht62, ?hm62, ?me62⟩
      ⟨?pg63, ?hd63, ?po63, ?sa63⟩
      (L4.no_mk ?n64)
      (L4.no_mk ?n65)
      (L4.no_mk ?n66)
      (L4.no_mk ?n67)
      (L4.no_mk ?n68)
      (L4.no_mk ?n69)
      (L4.no_mk ?n70)
      (L4.no_mk ?n71)
      (L4.no_mk ?n72)
      (L4.no_mk ?n73)
      (PySem.W.mg_none_of KX G ?z74)
      (PySem.W.mg_none_of KX G ?z75)
      (PySem.W.mg_none_of KX G ?z76)
      (PySem.W.mg_none_of KX G ?z77)
      (PySem.W.mg_none_of KX G ?z78)
      (PySem.W.mg_none_of KX G ?z79)
      (PySem.W.mg_none_of KX G ?z80)
      (PySem.W.mg_none_of KX G ?z81)
      (PySem.W.mg_none_of KX G ?z82)
      (PySem.W.mg_none_of KX G ?z83)
      (PySem.W.mg_none_of KX G ?z84)
      (PySem.W.mg_none_of KX G ?z85)
      (PySem.W.mg_none_of KX G ?z86)
      (PySem.W.mg_none_of KX G ?z87)
      (PySem.W.mg_none_of KX G ?z88)
      (PySem.W.mg_none_of KX G ?z89)
      (PySem.W.mg_none_of KX G ?z90)
      (PySem.W.mg_none_of KX G ?z91)
      (L4.cst_mk KX G ?u92 ?r92)
      (L4.cst_mk KX G ?u93 ?r93)
      (L4.cst_mk KX G ?u94 ?r94)
      (L4.cst_mk KX G ?u95 ?r95)
      (L4.cst_mk KX G ?u96 ?r96)
      (L4.cst_mk KX G ?u97 ?r97)
      (L4.cst_mk KX G ?u98 ?r98)
      (L4.cst_mk KX G ?u99 ?r99)
      (L4.cst_mk KX G ?u100 ?r100)
      (L4.cst_mk KX G ?u101 ?r101)
      (L4.cst_mk KX G ?u102 ?r102)
      (L4.cst_mk KX G ?u103 ?r103)
      (L4.cst_mk KX G ?u104 ?r104)
      (L4.cst_mk KX G ?u105 ?r105)
      (L4.cst_mk KX G ?u106 ?r106)) ?a ?l ?c ?k
    (case g9 => k_is)
    (case g13 => k_is)
    (case g38 => k_is)
    (case a0 => k_is)
    (case l0 => k_is)
    (case c0 => k_is)
    (case k0 => k_is)
    (case a1 => k_is)
    (case l1 => k_is)
    (case c1 => k_is)
    (case k1 => k_is)
    (case a2 => k_is)
    (case l2 => k_is)
    (case c2 => k_is)
    (case k2 => k_is)
    (case a3 => k_is)
    (case l3 => k_is)
    (case c3 => k_is)
    (case k3 => k_is)
    (case a4 => k_is)
    (case l4 => k_is)
    (case c4 => k_is)
    (case k4 => k_is)
    (case a5 => k_is)
    (case l5 => k_is)
    (case c5 => k_is)
    (case k5 => k_is)
    (case a6 => k_is)
    (case l6 => k_is)
    (case c6 => k_is)
    (case k6 => k_is)
    (case a7 => k_is)
    (case l7 => k_is)
    (case c7 => k_is)
    (case k7 => k_is)
    (case a8 => k_is)
    (case l8 => k_is)
    (case c8 => k_is)
    (case k8 => k_is)
    (case a9 => k_is)
    (case i9 => k_is)
    (case l9 => k_is)
    (case c9 => k_is)
    (case k9 => k_is)
    (case mk9 => k_is)
    (case kc9 => k_is)
    (case a10 => k_is)
    (case i10 => k_is)
    (case l10 => k_is)
    (case c10 => k_is)
    (case k10 => k_is)
    (case a11 => k_is)
    (case i11 => k_is)
    (case l11 => k_is)
    (case c11 => k_is)
    (case k11 => k_is)
    (case a12 => k_is)
    (case gt12 => k_is)
    (case tk12 => k_is)
    (case rc12 => k_is)
    (case l12 => k_is)
    (case c12 => k_is)
    (case k12 => k_is)
    (case a13 => k_is)
    (case i13 => k_is)
    (case l13 => k_is)
    (case c13 => k_is)
    (case k13 => k_is)
    (case mk13 => k_is)
    (case kc13 => k_is)
    (case a14 => k_is)
    (case gt14 => k_is)
    (case tk14 => k_is)
    (case rc14 => k_is)
    (case l14 => k_is)
    (case c14 => k_is)
    (case k14 => k_is)
    (case a15 => k_is)
    (case gt15 => k_is)
    (case tk15 => k_is)
    (case rc15 => k_is)
    (case l15 => k_is)
    (case c15 => k_is)
    (case k15 => k_is)
    (case a16 => k_is)
    (case l16 => k_is)
    (case c16 => k_is)
    (case k16 => k_is)
    (case a17 => k_is)
    (case l17 => k_is)
    (case c17 => k_is)
    (case k17 => k_is)
    (case a18 => k_is)
    (case l18 => k_is)
    (case c18 => k_is)
    (case k18 => k_is)
    (case a19 => k_is)
    (case l19 => k_is)
    (case c19 => k_is)
    (case k19 => k_is)
    (case a20 => k_is)
    (case l20 => k_is)
    (case c20 => k_is)
    (case k20 => k_is)
    (case a21 => k_is)
    (case l21 => k_is)
    (case c21 => k_is)
    (case k21 => k_is)
    (case a22 => k_is)
    (case l22 => k_is)
    (case c22 => k_is)
    (case k22 => k_is)
    (case a23 => k_is)
    (case l23 => k_is)
    (case c23 => k_is)
    (case k23 => k_is)
    (case a24 => k_is)
    (case l24 => k_is)
    (case c24 => k_is)
    (case k24 => k_is)
    (case a25 => k_is)
    (case l25 => k_is)
    (case c25 => k_is)
    (case k25 => k_is)
    (case a26 => k_is)
    (case l26 => k_is)
    (case c26 => k_is)
    (case k26 => k_is)
    (case a27 => k_is)
    (case l27 => k_is)
    (case c27 => k_is)
    (case k27 => k_is)
    (case a28 => k_is)
    (case l28 => k_is)
    (case c28 => k_is)
    (case k28 => k_is)
    (case a29 => k_is)
    (case l29 => k_is)
    (case c29 => k_is)
    (case k29 => k_is)
    (case a30 => k_is)
    (case l30 => k_is)
    (case c30 => k_is)
    (case k30 => k_is)
    (case a31 => k_is)
    (case l31 => k_is)
    (case c31 => k_is)
    (case k31 => k_is)
    (case a32 => k_is)
    (case l32 => k_is)
    (case c32 => k_is)
    (case k32 => k_is)
    (case a33 => k_is)
    (case l33 => k_is)
    (case c33 => k_is)
    (case k33 => k_is)
    (case a34 => k_is)
    (case l34 => k_is)
    (case c34 => k_is)
    (case k34 => k_is)
    (case a35 => k_is)
    (case l35 => k_is)
    (case c35 => k_is)
    (case k35 => k_is)
    (case a36 => k_is)
    (case l36 => k_is)
    (case c36 => k_is)
    (case k36 => k_is)
    (case a37 => k_is)
    (case l37 => k_is)
    (case c37 => k_is)
    (case k37 => k_is)
    (case a38 => k_is)
    (case i38 => k_is)
    (case l38 => k_is)
    (case c38 => k_is)
    (case k38 => k_is)
    (case mk38 => k_is)
    (case kc38 => k_is)
    (case a39 => k_is)
    (case i39 => k_is)
    (case l39 => k_is)
    (case c39 => k_is)
    (case k39 => k_is)
    (case a40 => k_is)
    (case gt40 => k_is)
    (case tk40 => k_is)
    (case rc40 => k_is)
    (case l40 => k_is)
    (case c40 => k_is)
    (case k40 => k_is)
    (case a41 => k_is)
    (case l41 => k_is)
    (case c41 => k_is)
    (case k41 => k_is)
    (case a42 => k_is)
    (case l42 => k_is)
    (case c42 => k_is)
    (case k42 => k_is)
    (case a43 => k_is)
    (case l43 => k_is)
    (case c43 => k_is)
    (case k43 => k_is)
    (case a44 => k_is)
    (case l44 => k_is)
    (case c44 => k_is)
    (case k44 => k_is)
    (case a45 => k_is)
    (case l45 => k_is)
    (case c45 => k_is)
    (case k45 => k_is)
    (case a46 => k_is)
    (case l46 => k_is)
    (case c46 => k_is)
    (case k46 => k_is)
    (case a47 => k_is)
    (case l47 => k_is)
    (case c47 => k_is)
    (case k47 => k_is)
    (case a48 => k_is)
    (case l48 => k_is)
    (case c48 => k_is)
    (case k48 => k_is)
    (case a49 => k_is)
    (case l49 => k_is)
    (case c49 => k_is)
    (case k49 => k_is)
    (case a50 => k_is)
    (case l50 => k_is)
    (case c50 => k_is)
    (case k50 => k_is)
    (case a51 => k_is)
    (case l51 => k_is)
    (case c51 => k_is)
    (case k51 => k_is)
    (case a52 => k_is)
    (case l52 => k_is)
    (case c52 => k_is)
    (case k52 => k_is)
    (case a53 => k_is)
    (case l53 => k_is)
    (case c53 => k_is)
    (case k53 => k_is)
    (case a54 => k_is)
    (case l54 => k_is)
    (case c54 => k_is)
    (case k54 => k_is)
    (case a55 => k_is)
    (case l55 => k_is)
    (case c55 => k_is)
    (case k55 => k_is)
    (case a56 => k_is)
    (case l56 => k_is)
    (case c56 => k_is)
    (case k56 => k_is)
    (case a57 => k_is)
    (case l57 => k_is)
    (case c57 => k_is)
    (case k57 => k_is)
    (case a58 => k_is)
    (case l58 => k_is)
    (case c58 => k_is)
    (case k58 => k_is)
    (case pg59 => k_is)
    (case hd59 => k_is)
    (case po59 => k_is)
    (case sa59 => k_is)
    (case pg60 => k_is)
    (case hd60 => k_is)
    (case po60 => k_is)
    (case sa60 => k_is)
    (case y61 => k_is)
    (case pg62 => k_is)
    (case hd62 => k_is)
    (case po62 => k_is)
    (case sa62 => k_is)
    (case ha62 => k_is)
    (case hn62 => k_is)
    (case ht62 => k_is)
    (case hm62 => k_is)
    (case me62 => exact L4.kit_ref _)
    (case pg63 => k_is)
    (case hd63 => k_is)
    (case po63 => k_is)
    (case sa63 => k_is)
    (case n64 => k_is)
    (case n65 => k_is)
    (case n66 => k_is)
    (case n67 => k_is)
    (case n68 => k_is)
    (case n69 => k_is)
    (case n70 => k_is)
    (case n71 => k_is)
    (case n72 => k_is)
    (case n73 => k_is)
    (case z74 => k_is)
    (case z75 => k_is)
    (case z76 => k_is)
    (case z77 => k_is)
    (case z78 => k_is)
    (case z79 => k_is)
    (case z80 => k_is)
    (case z81 => k_is)
    (case z82 => k_is)
    (case z83 => k_is)
    (case z84 => k_is)
    (case z85 => k_is)
    (case z86 => k_is)
    (case z87 => k_is)
    (case z88 => k_is)
    (case z89 => k_is)
    (case z90 => k_is)
    (case z91 => k_is)
    (case u92 => k_is)
    (case r92 => exact ⟨_, rfl⟩)
    (case u93 => k_is)
    (case r93 => exact ⟨_, rfl⟩)
    (case u94 => k_is)
    (case r94 => exact ⟨_, rfl⟩)
    (case u95 => k_is)
    (case r95 => exact ⟨_, rfl⟩)
    (case u96 => k_is)
    (case r96 => exact ⟨_, rfl⟩)
    (case u97 => k_is)
    (case r97 => exact ⟨_, rfl⟩)
    (case u98 => k_is)
    (case r98 => exact ⟨_, rfl⟩)
    (case u99 => k_is)
    (case r99 => exact ⟨_, rfl⟩)
    (case u100 => k_is)
    (case r100 => exact ⟨_, rfl⟩)
    (case u101 => k_is)
    (case r101 => exact ⟨_, rfl⟩)
    (case u102 => k_is)
    (case r102 => exact ⟨_, rfl⟩)
    (case u103 => k_is)
    (case r103 => exact ⟨_, rfl⟩)
    (case u104 => k_is)
    (case r104 => exact ⟨_, rfl⟩)
    (case u105 => k_is)
    (case r105 => exact ⟨_, rfl⟩)
    (case u106 => k_is)
    (case r106 => exact ⟨_, rfl⟩)
    (case a => k_is)
    (case l => k_is)
    (case c => k_is)
    (case k => k_is)
end
