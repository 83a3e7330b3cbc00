import PyProof.Rows.All
import Wide.All
import OpenK.AllK
import Wide.FinOn
import HandS.ForMost
import HandS.ForExc
import HandS.TryMany
import HandS.Deep
import HandS.IsInst
import HandS.Conv
import HandS.TupAny
import HandS.TupLen
import HandS.CallSlots
import HandS.Walk
import HandS.Zip
import HandS.Flow
import HandS.Strs
import KE.GoesEnum
import HandS.TryOnly
import HandS.Style
import HandS.Defaults
import HandS.Head0
import HandS.Head1
import HandS.Head2
import HandS.EndBits
import HandS.HeadHook1
import HandS.HeadHook2
import HandS.Words
import PySem.Challenge.RW_loopproof_k03_whole_trees_of_programs
set_option Elab.async false
set_option linter.all false
set_option maxRecDepth 100000
set_option maxHeartbeats 4000000
/-! PY, part a: values D without a heap, what they stand for (Rep), the store of mutable cells, growth of the heap. -/
namespace PY
open PySem PySem.Spec PyProof.Rows L2

/-! ### strings -/
theorem char_inj {a b : Char} (h : a.toNat = b.toNat) : a = b := Char.ext (UInt32.toNat.inj h)
theorem map_char_inj : ∀ {l m : List Char}, l.map Char.toNat = m.map Char.toNat → l = m
  | [], [], _ => rfl
  | [], _ :: _, h => by simp at h
  | _ :: _, [], h => by simp at h
  | a :: l, b :: m, h => by
    simp only [List.map_cons, List.cons.injEq] at h
    rw [char_inj h.1, map_char_inj h.2]
theorem ofString_inj {s t : String} (h : Str.ofString s = Str.ofString t) : s = t := by
  rw [Str.ofString_eq_toList, Str.ofString_eq_toList] at h
  injection h with h
  have h2 : s.toList.map Char.toNat = t.toList.map Char.toNat := by simpa using congrArg Array.toList h
  exact String.toList_inj.mp (map_char_inj h2)
theorem ofString_iff {s t : String} : Str.ofString s = Str.ofString t ↔ s = t := ⟨ofString_inj, fun h => by rw [h]⟩
theorem ofString_beq (s t : String) : (Str.ofString s == Str.ofString t) = (s == t) := by
  by_cases h : s = t
  · subst h; simp
  · have h' : Str.ofString s ≠ Str.ofString t := fun q => h (ofString_inj q)
    rw [beq_eq_false_iff_ne.mpr h, beq_eq_false_iff_ne.mpr h']
theorem ofString_cps (s : String) : (Str.ofString s).cps = (s.toList.map Char.toNat).toArray := by rw [Str.ofString_eq_toList]
theorem ofString_length (s : String) : (Str.ofString s).length = s.toList.length := by
  unfold Str.length
  rw [ofString_cps]
  simp
theorem ofString_append (s t : String) : Str.ofString s ++ Str.ofString t = Str.ofString (s ++ t) := by
  show Str.append _ _ = _
  unfold Str.append
  rw [ofString_cps, ofString_cps, Str.ofString_eq_toList, String.toList_append]
  simp
theorem ofString_ok (s : String) : PyData.strOk (Str.ofString s) = true := by
  unfold PyData.strOk
  rw [ofString_cps, Array.all_eq_true]
  intro i hi
  simp only [List.getElem_toArray, List.getElem_map]
  have := (s.toList[i]'(by simpa using hi)).valid
  have h2 : (s.toList[i]'(by simpa using hi)).toNat < 1114112 := by
    have h := (s.toList[i]'(by simpa using hi)).valid
    simp only [UInt32.isValidChar, Nat.isValidChar] at h
    show (s.toList[i]'(by simpa using hi)).val.toNat < 1114112
    omega
  exact decide_eq_true h2

/-! ### values -/
inductive D where
  | non | bl (b : Bool) | int (i : Int) | str (s : String)
  | tup (xs : List D) | lst (xs : List D)
  | ins (c : Nat) (xs : List D)
  | ref (i : Nat)
  | scr (ns : List Int)
deriving Inhabited

/-- a mutable cell -/
inductive Cell where
  | lst (xs : List D)
  | dct (t : Bool) (kvs : List (D × D))
  | ins (c : Nat) (xs : List D)
deriving Inhabited
abbrev Store := List Cell

/-- the ground: the written part, where each class stands and its fields -/
structure Gd where
  K : PySem.W.Frag
  cA : Nat → Addr
  cF : Nat → List Str

/-- a tuple, a list of the written part -/
def KT (K : PySem.W.Frag) (a : Addr) (xs : List V) : Prop :=
  ∃ (o : Obj) (its : Array Value) (n : Nat), K.lookup a = some o ∧ o.cls = .type "tuple" ∧ o.data = .seq its n ∧ its.size ≤ sizeLine ∧ Vals xs its.toList

/-- a list of ints of the written part -/
def KL (K : PySem.W.Frag) (a : Addr) (ns : List Int) : Prop :=
  ∃ (o : Obj) (its : Array Value) (n : Nat), K.lookup a = some o ∧ o.cls = .type "list" ∧ o.dict = none ∧ o.data = .seq its n ∧ its.size ≤ sizeLine ∧ Vals (ns.map V.int) its.toList
/-- what stands at a, and is not to be written: neither a cell nor a list in the making -/
structure Fz (Z φ : List Addr) (H : Hp) (a : Addr) (o : HO) : Prop where
  rd : Rd H a o
  nf : a ∉ φ
  nz : a ∉ Z

mutual
/-- v in the heap H stands for d; φ: where the cells are; Z: lists in the making -/
inductive Rep (G : Gd) (Z φ : List Addr) (H : Hp) : V → D → Prop
  | non : Rep G Z φ H .non .non
  | bl (b : Bool) : Rep G Z φ H (.bl b) (.bl b)
  | int (i : Int) : Rep G Z φ H (.int i) (.int i)
  | str (s : String) : Rep G Z φ H (.str (Str.ofString s)) (.str s)
  | tup {a : Addr} {vs : List V} {ds : List D} : Fz Z φ H a (.tup vs) ∨ KT G.K a vs → Reps G Z φ H vs ds → Rep G Z φ H (.ref a) (.tup ds)
  | lst {a : Addr} {vs : List V} {ds : List D} : Fz Z φ H a (.lst vs) → Reps G Z φ H vs ds → Rep G Z φ H (.ref a) (.lst ds)
  | ins {a dx : Addr} {c : Nat} {vs : List V} {ds : List D} : Fz Z φ H a (.ins (G.cA c) dx ((G.cF c).zip vs)) → (G.cF c).length = vs.length → Reps G Z φ H vs ds → Rep G Z φ H (.ref a) (.ins c ds)
  | ref {i : Nat} {a : Addr} : φ[i]? = some a → Rep G Z φ H (.ref a) (.ref i)
  | scr {a : Addr} {ns : List Int} : KL G.K a ns → Rep G Z φ H (.ref a) (.scr ns)
inductive Reps (G : Gd) (Z φ : List Addr) (H : Hp) : List V → List D → Prop
  | nil : Reps G Z φ H [] []
  | cons {v : V} {vs : List V} {d : D} {ds : List D} : Rep G Z φ H v d → Reps G Z φ H vs ds → Reps G Z φ H (v :: vs) (d :: ds)
end

/-- a key of a dict -/
inductive KeyRep : Key → D → Prop
  | int (i : Int) : KeyRep (.inl i) (.int i)
  | str (s : String) : KeyRep (.inr (Str.ofString s)) (.str s)
inductive KeyReps : List Key → List D → Prop
  | nil : KeyReps [] []
  | cons {k : Key} {ks : List Key} {d : D} {ds : List D} : KeyRep k d → KeyReps ks ds → KeyReps (k :: ks) (d :: ds)
inductive KVRep (G : Gd) (Z φ : List Addr) (H : Hp) : List (Key × V) → List (D × D) → Prop
  | nil : KVRep G Z φ H [] []
  | cons {k : Key} {v : V} {kvs : List (Key × V)} {kd d : D} {ds : List (D × D)} : KeyRep k kd → Rep G Z φ H v d → KVRep G Z φ H kvs ds → KVRep G Z φ H ((k, v) :: kvs) ((kd, d) :: ds)
inductive TVRep (G : Gd) (Z φ : List Addr) (H : Hp) : List (List Key × V) → List (D × D) → Prop
  | nil : TVRep G Z φ H [] []
  | cons {k : List Key} {v : V} {kvs : List (List Key × V)} {kds : List D} {d : D} {ds : List (D × D)} : KeyReps k kds → Rep G Z φ H v d → TVRep G Z φ H kvs ds → TVRep G Z φ H ((k, v) :: kvs) ((.tup kds, d) :: ds)

inductive CellRep (G : Gd) (Z φ : List Addr) (H : Hp) (a : Addr) : Cell → Prop
  | lst {vs : List V} {ds : List D} : H a = some (.lst vs) → Reps G Z φ H vs ds → CellRep G Z φ H a (.lst ds)
  | dK {kvs : List (Key × V)} {ds : List (D × D)} : H a = some (.dK kvs) → KVRep G Z φ H kvs ds → CellRep G Z φ H a (.dct false ds)
  | dT {kvs : List (List Key × V)} {ds : List (D × D)} : H a = some (.dT kvs) → TVRep G Z φ H kvs ds → CellRep G Z φ H a (.dct true ds)
  | ins {dx : Addr} {c : Nat} {vs : List V} {ds : List D} : H a = some (.ins (G.cA c) dx ((G.cF c).zip vs)) → (G.cF c).length = vs.length → Reps G Z φ H vs ds → CellRep G Z φ H a (.ins c ds)

/-- the store of cells -/
structure CRel (G : Gd) (Z φ : List Addr) (H : Hp) (μ : Store) : Prop where
  len : φ.length = μ.length
  nd : φ.Nodup
  nz : ∀ a ∈ φ, a ∉ Z
  zt : ∀ a ∈ Z, H a ≠ none
  cell : ∀ (i : Nat) c, μ[i]? = some c → ∃ a, φ[i]? = some a ∧ CellRep G Z φ H a c

/-- the slots -/
abbrev Sl := List (Option D)
structure ERel (G : Gd) (Z φ : List Addr) (H : Hp) (σ : L2.St) (ρ : Sl) : Prop where
  len : σ.length = ρ.length
  at_ : ∀ (i : Nat) d, ρ[i]? = some (some d) → ∃ v, σ[i]? = some (some v) ∧ Rep G Z φ H v d

/-- from one state to a later one: what is no cell stays; new cells are new -/
structure Grow (φ : List Addr) (H : Hp) (φ' : List Addr) (H' : Hp) : Prop where
  keep : ∀ a o, H a = some o → a ∉ φ → H' a = some o
  new : ∀ a, a ∈ φ' → a ∈ φ ∨ H a = none
  pre : ∀ (i : Nat) a, φ[i]? = some a → φ'[i]? = some a

section
variable {G : Gd} {Z φ φ' φ1 φ2 : List Addr} {H H' H1 H2 : Hp}
theorem Grow.refl (φ : List Addr) (H : Hp) : Grow φ H φ H := ⟨fun _ _ h _ => h, fun _ h => .inl h, fun _ _ h => h⟩
theorem Grow.trans (x : Grow φ H φ1 H1) (y : Grow φ1 H1 φ2 H2) : Grow φ H φ2 H2 := by
  refine ⟨fun a o h n => ?_, fun a h => ?_, fun i a h => y.pre i a (x.pre i a h)⟩
  · refine y.keep a o (x.keep a o h n) fun z => ?_
    rcases x.new a z with q | q
    · exact n q
    · rw [h] at q; cases q
  · rcases y.new a h with z | z
    · exact x.new a z
    · by_cases n : a ∈ φ
      · exact .inl n
      · cases q : H a with
        | none => exact .inr rfl
        | some o =>
          rw [x.keep a o q n] at z; cases z
theorem Grow.mem (g : Grow φ H φ' H') {a : Addr} (h : a ∈ φ) : a ∈ φ' := by
  obtain ⟨i, hi, e⟩ := List.mem_iff_getElem.mp h
  have : φ[i]? = some a := by rw [List.getElem?_eq_getElem hi, e]
  exact List.mem_of_getElem? (g.pre i a this)
/-- a new object, no cell -/
theorem Grow.upd {a : Addr} {o : HO} (h : H a = none) : Grow φ H φ (upd H a o) :=
  ⟨fun b u e _ => by rw [upd_ne (ne_of_none e h)]; exact e, fun _ h => .inl h, fun _ _ h => h⟩
/-- a cell is written -/
theorem Grow.write {a : Addr} {o : HO} (h : a ∈ φ) : Grow φ H φ (L2.upd H a o) :=
  ⟨fun b u e n => by rw [upd_ne (fun q => n (by rw [q]; exact h))]; exact e, fun _ h => .inl h, fun _ _ h => h⟩
/-- a new cell -/
theorem Grow.cell {a : Addr} {o : HO} (h : H a = none) : Grow φ H (φ ++ [a]) (L2.upd H a o) :=
  ⟨fun b u e _ => by rw [upd_ne (ne_of_none e h)]; exact e, fun b hb => by
    rcases List.mem_append.mp hb with z | z
    · exact .inl z
    · rw [List.mem_singleton.mp z]; exact .inr h, fun i b e => by
    rw [List.getElem?_append_left (List.getElem?_eq_some_iff.mp e).1]; exact e⟩
/-- cells are forgotten -/
theorem Grow.forget (g : Grow φ H φ' H') (h : ∀ a ∈ φ1, a ∈ φ') (hp : ∀ (i : Nat) a, φ[i]? = some a → φ1[i]? = some a) : Grow φ H φ1 H' :=
  ⟨g.keep, fun a ha => g.new a (h a ha), hp⟩

theorem rd_grow {a : Addr} {o : HO} (g : Grow φ H φ' H') (r : Rd H a o) (n : a ∉ φ) : Rd H' a o := by
  rcases r with r | ⟨u, r⟩
  · exact .inl (g.keep a _ r n)
  · exact .inr ⟨u, g.keep a _ r n⟩
theorem rd_ne {a : Addr} {o : HO} (r : Rd H a o) : H a ≠ none := by
  rcases r with r | ⟨u, r⟩ <;> rw [r] <;> simp
theorem Fz.grow {a : Addr} {o : HO} (g : Grow φ H φ' H') (f : Fz Z φ H a o) : Fz Z φ' H' a o :=
  ⟨rd_grow g f.rd f.nf, fun z => (g.new a z).elim f.nf fun q => rd_ne f.rd q, f.nz⟩
mutual
theorem Rep.grow (g : Grow φ H φ' H') : ∀ {v : V} {d : D}, Rep G Z φ H v d → Rep G Z φ' H' v d
  | _, _, .non => .non
  | _, _, .bl b => .bl b
  | _, _, .int i => .int i
  | _, _, .str s => .str s
  | _, _, .tup h r => .tup (h.imp (fun f => f.grow g) id) (Reps.grow g r)
  | _, _, .lst h r => .lst (h.grow g) (Reps.grow g r)
  | _, _, .ins h e r => .ins (h.grow g) e (Reps.grow g r)
  | _, _, .ref h => .ref (g.pre _ _ h)
  | _, _, .scr h => .scr h
theorem Reps.grow (g : Grow φ H φ' H') : ∀ {vs : List V} {ds : List D}, Reps G Z φ H vs ds → Reps G Z φ' H' vs ds
  | _, _, .nil => .nil
  | _, _, .cons r s => .cons (Rep.grow g r) (Reps.grow g s)
end
theorem ERel.grow {σ : L2.St} {ρ : Sl} (g : Grow φ H φ' H') (r : ERel G Z φ H σ ρ) : ERel G Z φ' H' σ ρ :=
  ⟨r.len, fun i d h => let ⟨v, e, q⟩ := r.at_ i d h; ⟨v, e, q.grow g⟩⟩
theorem KVRep.grow (g : Grow φ H φ' H') : ∀ {kvs : List (Key × V)} {ds : List (D × D)}, KVRep G Z φ H kvs ds → KVRep G Z φ' H' kvs ds
  | _, _, .nil => .nil
  | _, _, .cons k r s => .cons k (r.grow g) (KVRep.grow g s)
theorem TVRep.grow (g : Grow φ H φ' H') : ∀ {kvs : List (List Key × V)} {ds : List (D × D)}, TVRep G Z φ H kvs ds → TVRep G Z φ' H' kvs ds
  | _, _, .nil => .nil
  | _, _, .cons k r s => .cons k (r.grow g) (TVRep.grow g s)
theorem Reps.length : ∀ {vs : List V} {ds : List D}, Reps G Z φ H vs ds → vs.length = ds.length
  | _, _, .nil => rfl
  | _, _, .cons _ s => by rw [List.length_cons, List.length_cons, Reps.length s]
theorem Reps.append : ∀ {vs ws : List V} {ds es : List D}, Reps G Z φ H vs ds → Reps G Z φ H ws es → Reps G Z φ H (vs ++ ws) (ds ++ es)
  | _, _, _, _, .nil, s => s
  | _, _, _, _, .cons r t, s => .cons r (Reps.append t s)
theorem Reps.get : ∀ {vs : List V} {ds : List D} {i : Nat} {d : D}, Reps G Z φ H vs ds → ds[i]? = some d → ∃ v, vs[i]? = some v ∧ Rep G Z φ H v d
  | _, _, _, _, .nil, e => by simp at e
  | _, _, 0, _, .cons r _, e => by
    simp at e; subst e; exact ⟨_, rfl, r⟩
  | _, _, i + 1, _, .cons _ s, e => by
    obtain ⟨v, h1, h2⟩ := Reps.get (i := i) s (by simpa using e)
    exact ⟨v, by simpa using h1, h2⟩
theorem Reps.get' : ∀ {vs : List V} {ds : List D} {i : Nat} {v : V}, Reps G Z φ H vs ds → vs[i]? = some v → ∃ d, ds[i]? = some d ∧ Rep G Z φ H v d
  | _, _, _, _, .nil, e => by simp at e
  | _, _, 0, _, .cons r _, e => by
    simp at e; subst e; exact ⟨_, rfl, r⟩
  | _, _, i + 1, _, .cons _ s, e => by
    obtain ⟨v, h1, h2⟩ := Reps.get' (i := i) s (by simpa using e)
    exact ⟨v, by simpa using h1, h2⟩
theorem Reps.take : ∀ (n : Nat) {vs : List V} {ds : List D}, Reps G Z φ H vs ds → Reps G Z φ H (vs.take n) (ds.take n)
  | 0, _, _, _ => .nil
  | _ + 1, _, _, .nil => .nil
  | n + 1, _, _, .cons r s => .cons r (Reps.take n s)
theorem Reps.drop : ∀ (n : Nat) {vs : List V} {ds : List D}, Reps G Z φ H vs ds → Reps G Z φ H (vs.drop n) (ds.drop n)
  | 0, _, _, r => r
  | _ + 1, _, _, .nil => .nil
  | n + 1, _, _, .cons _ s => Reps.drop n s
theorem Reps.set {v : V} {d : D} (r : Rep G Z φ H v d) : ∀ (n : Nat) {vs : List V} {ds : List D}, Reps G Z φ H vs ds → Reps G Z φ H (vs.set n v) (ds.set n d)
  | _, _, _, .nil => .nil
  | 0, _, _, .cons _ s => .cons r s
  | n + 1, _, _, .cons q s => .cons q (Reps.set r n s)
theorem Reps.replicate {v : V} {d : D} (r : Rep G Z φ H v d) : ∀ (n : Nat), Reps G Z φ H (List.replicate n v) (List.replicate n d)
  | 0 => .nil
  | n + 1 => .cons r (Reps.replicate r n)
theorem Reps.reverse : ∀ {vs : List V} {ds : List D}, Reps G Z φ H vs ds → Reps G Z φ H vs.reverse ds.reverse
  | _, _, .nil => .nil
  | _, _, .cons r s => by
    rw [List.reverse_cons, List.reverse_cons]
    exact (Reps.reverse s).append (.cons r .nil)
theorem Reps.dropLast {vs : List V} {ds : List D} (r : Reps G Z φ H vs ds) : Reps G Z φ H vs.dropLast ds.dropLast := by
  rw [List.dropLast_eq_take, List.dropLast_eq_take, r.length]
  exact r.take _
/-- the cells' own objects -/
theorem CellRep.tracked {a : Addr} {c : Cell} (h : CellRep G Z φ H a c) : H a ≠ none := by
  cases h with
  | lst h _ => rw [h]; simp
  | dK h _ => rw [h]; simp
  | dT h _ => rw [h]; simp
  | ins h _ _ => rw [h]; simp
theorem CRel.tracked {μ : Store} (r : CRel G Z φ H μ) {a : Addr} (h : a ∈ φ) : H a ≠ none := by
  obtain ⟨i, hi, e⟩ := List.mem_iff_getElem.mp h
  have hm : i < μ.length := by rw [← r.len]; exact hi
  obtain ⟨b, hb, q⟩ := r.cell i (μ[i]'hm) (List.getElem?_eq_getElem hm)
  rw [List.getElem?_eq_getElem hi, e] at hb
  cases hb
  exact q.tracked
theorem CRel.fresh {μ : Store} (r : CRel G Z φ H μ) {a : Addr} (h : H a = none) : a ∉ φ ∧ a ∉ Z := ⟨fun z => r.tracked z h, fun z => r.zt a z h⟩
theorem CellRep.keepG {a : Addr} {c : Cell} (g : Grow φ H φ' H') (e : H' a = H a) (h : CellRep G Z φ H a c) : CellRep G Z φ' H' a c := by
  cases h with
  | lst h r => exact .lst (e.trans h) (r.grow g)
  | dK h r => exact .dK (e.trans h) (r.grow g)
  | dT h r => exact .dT (e.trans h) (r.grow g)
  | ins h q r => exact .ins (e.trans h) q (r.grow g)
/-- a new object that is no cell -/
theorem CRel.upd {μ : Store} {a : Addr} {o : HO} (r : CRel G Z φ H μ) (h : H a = none) : CRel G Z φ (upd H a o) μ := by
  refine ⟨r.len, r.nd, r.nz, fun b hb => ?_, fun i c e => ?_⟩
  · have := r.zt b hb
    rw [upd_ne (fun q => this (by rw [q]; exact h))]; exact this
  · obtain ⟨b, hb, q⟩ := r.cell i c e
    exact ⟨b, hb, q.keepG (Grow.upd h) (upd_ne fun z => q.tracked (z ▸ h))⟩
/-- a cell is written -/
theorem CRel.write {μ : Store} {i : Nat} {a : Addr} {o : HO} {c : Cell} (r : CRel G Z φ H μ) (h : φ[i]? = some a) (n : CellRep G Z φ (L2.upd H a o) a c) : CRel G Z φ (L2.upd H a o) (μ.set i c) := by
  have hm : a ∈ φ := List.mem_of_getElem? h
  refine ⟨by rw [List.length_set]; exact r.len, r.nd, r.nz, fun b hb => ?_, fun j c' e => ?_⟩
  · rw [upd_ne (fun q => r.nz a hm (by rw [← q]; exact hb))]; exact r.zt b hb
  · by_cases hj : j = i
    · subst hj
      have hl : j < μ.length := by rw [← r.len]; exact (List.getElem?_eq_some_iff.mp h).1
      rw [List.getElem?_set_self hl] at e
      cases e
      exact ⟨a, h, n⟩
    · rw [List.getElem?_set_ne (Ne.symm hj)] at e
      obtain ⟨b, hb, q⟩ := r.cell j c' e
      have hne : b ≠ a := fun z => hj (by
        subst z
        have h1 := List.getElem?_eq_some_iff.mp hb
        have h2 := List.getElem?_eq_some_iff.mp h
        obtain ⟨l1, e1⟩ := h1
        obtain ⟨l2, e2⟩ := h2
        exact (List.getElem_inj r.nd).mp (e1.trans e2.symm))
      exact ⟨b, hb, q.keepG (Grow.write hm) (upd_ne hne)⟩
/-- a new cell -/
theorem CRel.push {μ : Store} {a : Addr} {o : HO} {c : Cell} (r : CRel G Z φ H μ) (h : H a = none) (n : CellRep G Z (φ ++ [a]) (L2.upd H a o) a c) : CRel G Z (φ ++ [a]) (L2.upd H a o) (μ ++ [c]) := by
  obtain ⟨n1, n2⟩ := r.fresh h
  refine ⟨by rw [List.length_append, List.length_append, r.len]; rfl, ?_, fun b hb => ?_, fun b hb => ?_, fun j c' e => ?_⟩
  · rw [List.nodup_append]
    exact ⟨r.nd, by simp, fun x hx y hy e => n1 (by rw [← List.mem_singleton.mp hy, ← e]; exact hx)⟩
  · rcases List.mem_append.mp hb with z | z
    · exact r.nz b z
    · rw [List.mem_singleton.mp z]; exact n2
  · rw [upd_ne (fun q => n2 (by rw [← q]; exact hb))]; exact r.zt b hb
  · by_cases hj : j < μ.length
    · rw [List.getElem?_append_left hj] at e
      obtain ⟨b, hb, q⟩ := r.cell j c' e
      exact ⟨b, by rw [List.getElem?_append_left (by rw [r.len]; exact hj)]; exact hb, q.keepG (Grow.cell h) (upd_ne fun z => q.tracked (z ▸ h))⟩
    · rw [List.getElem?_append_right (by omega)] at e
      have hz : j - μ.length = 0 := by
        have := (List.getElem?_eq_some_iff.mp e).1
        simp at this; omega
      rw [hz] at e
      simp at e
      subst e
      refine ⟨a, ?_, n⟩
      rw [List.getElem?_append_right (by rw [r.len]; omega), r.len, hz]
      rfl

/-! ### more, or less, that is in the making -/
/-- from Z to Z1: what is new in it was free -/
def ZUp (Z : List Addr) (H : Hp) (Z1 : List Addr) : Prop := ∀ a ∈ Z1, a ∈ Z ∨ H a = none
theorem ZUp.refl {Z : List Addr} {H : Hp} : ZUp Z H Z := fun _ h => .inl h
theorem ZUp.cons {Z : List Addr} {H : Hp} {p : Addr} (h : H p = none) : ZUp Z H (p :: Z) := fun a ha => by
  rcases List.mem_cons.mp ha with e | e
  · rw [e]; exact .inr h
  · exact .inl e
theorem Fz.lift {Z1 : List Addr} {a : Addr} {o : HO} (z : ZUp Z H Z1) (g : Grow φ H φ' H') (f : Fz Z φ H a o) : Fz Z1 φ' H' a o :=
  ⟨rd_grow g f.rd f.nf, fun z => (g.new a z).elim f.nf fun q => rd_ne f.rd q, fun q => (z a q).elim f.nz fun e => rd_ne f.rd e⟩
mutual
theorem Rep.lift {Z1 : List Addr} (z : ZUp Z H Z1) (g : Grow φ H φ' H') : ∀ {v : V} {d : D}, Rep G Z φ H v d → Rep G Z1 φ' H' v d
  | _, _, .non => .non
  | _, _, .bl b => .bl b
  | _, _, .int i => .int i
  | _, _, .str s => .str s
  | _, _, .tup h r => .tup (h.imp (fun f => f.lift z g) id) (Reps.lift z g r)
  | _, _, .lst h r => .lst (h.lift z g) (Reps.lift z g r)
  | _, _, .ins h e r => .ins (h.lift z g) e (Reps.lift z g r)
  | _, _, .ref h => .ref (g.pre _ _ h)
  | _, _, .scr h => .scr h
theorem Reps.lift {Z1 : List Addr} (z : ZUp Z H Z1) (g : Grow φ H φ' H') : ∀ {vs : List V} {ds : List D}, Reps G Z φ H vs ds → Reps G Z1 φ' H' vs ds
  | _, _, .nil => .nil
  | _, _, .cons r s => .cons (Rep.lift z g r) (Reps.lift z g s)
end
theorem KVRep.lift {Z1 : List Addr} (z : ZUp Z H Z1) (g : Grow φ H φ' H') : ∀ {kvs : List (Key × V)} {ds : List (D × D)}, KVRep G Z φ H kvs ds → KVRep G Z1 φ' H' kvs ds
  | _, _, .nil => .nil
  | _, _, .cons k r s => .cons k (r.lift z g) (KVRep.lift z g s)
theorem TVRep.lift {Z1 : List Addr} (z : ZUp Z H Z1) (g : Grow φ H φ' H') : ∀ {kvs : List (List Key × V)} {ds : List (D × D)}, TVRep G Z φ H kvs ds → TVRep G Z1 φ' H' kvs ds
  | _, _, .nil => .nil
  | _, _, .cons k r s => .cons k (r.lift z g) (TVRep.lift z g s)
theorem ERel.lift {Z1 : List Addr} {σ : L2.St} {ρ : Sl} (z : ZUp Z H Z1) (g : Grow φ H φ' H') (r : ERel G Z φ H σ ρ) : ERel G Z1 φ' H' σ ρ :=
  ⟨r.len, fun i d h => let ⟨v, e, q⟩ := r.at_ i d h; ⟨v, e, q.lift z g⟩⟩
/-- a new object in the making -/
theorem CRel.making {μ : Store} {p : Addr} {o : HO} (r : CRel G Z φ H μ) (h : H p = none) : CRel G (p :: Z) φ (L2.upd H p o) μ := by
  have n := r.fresh h
  refine ⟨r.len, r.nd, fun a ha => ?_, fun b hb => ?_, fun i c e => ?_⟩
  · intro q
    rcases List.mem_cons.mp q with e | e
    · exact n.1 (by rw [← e]; exact ha)
    · exact r.nz a ha e
  · rcases List.mem_cons.mp hb with e | e
    · rw [e, upd_same]; simp
    · rw [upd_ne (fun q => r.zt b e (by rw [q]; exact h))]; exact r.zt b e
  · obtain ⟨b, hb, q⟩ := r.cell i c e
    have hne : b ≠ p := fun z => q.tracked (by rw [z]; exact h)
    refine ⟨b, hb, ?_⟩
    have g : Grow φ H φ (L2.upd H p o) := Grow.upd h
    cases q with
    | lst h1 r1 => exact .lst (by rw [upd_ne hne]; exact h1) (r1.lift (.cons h) g)
    | dK h1 r1 => exact .dK (by rw [upd_ne hne]; exact h1) (r1.lift (.cons h) g)
    | dT h1 r1 => exact .dT (by rw [upd_ne hne]; exact h1) (r1.lift (.cons h) g)
    | ins h1 e1 r1 => exact .ins (by rw [upd_ne hne]; exact h1) e1 (r1.lift (.cons h) g)
/-- what is in the making is written: all else stands -/
structure Mk (p : Addr) (Z φ : List Addr) (H : Hp) (Z1 φ1 : List Addr) (H1 : Hp) : Prop where
  keep : ∀ a o, a ≠ p → H a = some o → H1 a = some o
  phi : ∀ a, a ≠ p → a ∉ φ → a ∉ φ1
  zed : ∀ a, a ≠ p → a ∉ Z → a ∉ Z1
  pre : ∀ (i : Nat) a, φ[i]? = some a → φ1[i]? = some a
theorem Fz.made {Z1 φ1 : List Addr} {p a : Addr} {o : HO} (hp : p ∈ Z) (m : Mk p Z φ H Z1 φ1 H1) (f : Fz Z φ H a o) : Fz Z1 φ1 H1 a o := by
  have hne : a ≠ p := fun z => f.nz (by rw [z]; exact hp)
  refine ⟨?_, m.phi a hne f.nf, m.zed a hne f.nz⟩
  rcases f.rd with r | ⟨u, r⟩
  · exact .inl (m.keep a _ hne r)
  · exact .inr ⟨u, m.keep a _ hne r⟩
mutual
theorem Rep.made {Z1 φ1 : List Addr} {p : Addr} (hp : p ∈ Z) (m : Mk p Z φ H Z1 φ1 H1) : ∀ {v : V} {d : D}, Rep G Z φ H v d → Rep G Z1 φ1 H1 v d
  | _, _, .non => .non
  | _, _, .bl b => .bl b
  | _, _, .int i => .int i
  | _, _, .str s => .str s
  | _, _, .tup h r => .tup (h.imp (fun f => f.made hp m) id) (Reps.made hp m r)
  | _, _, .lst h r => .lst (h.made hp m) (Reps.made hp m r)
  | _, _, .ins h e r => .ins (h.made hp m) e (Reps.made hp m r)
  | _, _, .ref h => .ref (m.pre _ _ h)
  | _, _, .scr h => .scr h
theorem Reps.made {Z1 φ1 : List Addr} {p : Addr} (hp : p ∈ Z) (m : Mk p Z φ H Z1 φ1 H1) : ∀ {vs : List V} {ds : List D}, Reps G Z φ H vs ds → Reps G Z1 φ1 H1 vs ds
  | _, _, .nil => .nil
  | _, _, .cons r s => .cons (Rep.made hp m r) (Reps.made hp m s)
end
theorem KVRep.made {Z1 φ1 : List Addr} {p : Addr} (hp : p ∈ Z) (m : Mk p Z φ H Z1 φ1 H1) : ∀ {kvs : List (Key × V)} {ds : List (D × D)}, KVRep G Z φ H kvs ds → KVRep G Z1 φ1 H1 kvs ds
  | _, _, .nil => .nil
  | _, _, .cons k r s => .cons k (r.made hp m) (KVRep.made hp m s)
theorem TVRep.made {Z1 φ1 : List Addr} {p : Addr} (hp : p ∈ Z) (m : Mk p Z φ H Z1 φ1 H1) : ∀ {kvs : List (List Key × V)} {ds : List (D × D)}, TVRep G Z φ H kvs ds → TVRep G Z1 φ1 H1 kvs ds
  | _, _, .nil => .nil
  | _, _, .cons k r s => .cons k (r.made hp m) (TVRep.made hp m s)
theorem CellRep.made {Z1 φ1 : List Addr} {p a : Addr} {c : Cell} (hp : p ∈ Z) (m : Mk p Z φ H Z1 φ1 H1) (hne : a ≠ p) (q : CellRep G Z φ H a c) : CellRep G Z1 φ1 H1 a c := by
  cases q with
  | lst h1 r1 => exact .lst (m.keep a _ hne h1) (r1.made hp m)
  | dK h1 r1 => exact .dK (m.keep a _ hne h1) (r1.made hp m)
  | dT h1 r1 => exact .dT (m.keep a _ hne h1) (r1.made hp m)
  | ins h1 e1 r1 => exact .ins (m.keep a _ hne h1) e1 (r1.made hp m)
/-- it is written, still in the making -/
theorem Mk.write {p : Addr} {o : HO} : Mk p Z φ H Z φ (L2.upd H p o) := ⟨fun a u n e => by rw [upd_ne n]; exact e, fun _ _ h => h, fun _ _ h => h, fun _ _ h => h⟩
/-- it is a frozen object from now on -/
theorem Mk.done {p : Addr} {o : HO} : Mk p (p :: Z) φ H Z φ (L2.upd H p o) := ⟨fun a u n e => by rw [upd_ne n]; exact e, fun _ _ h => h, fun a _ h q => h (List.mem_cons_of_mem _ q), fun _ _ h => h⟩
/-- it is a cell from now on -/
theorem Mk.cell {p : Addr} {o : HO} : Mk p (p :: Z) φ H Z (φ ++ [p]) (L2.upd H p o) := ⟨fun a u n e => by rw [upd_ne n]; exact e, fun a n h q => by
  rcases List.mem_append.mp q with z | z
  · exact h z
  · exact n (List.mem_singleton.mp z), fun a _ h q => h (List.mem_cons_of_mem _ q), fun i a h => by rw [List.getElem?_append_left (List.getElem?_eq_some_iff.mp h).1]; exact h⟩
theorem CRel.mkWrite {μ : Store} {p : Addr} {o : HO} (hp : p ∈ Z) (r : CRel G Z φ H μ) : CRel G Z φ (L2.upd H p o) μ := by
  refine ⟨r.len, r.nd, r.nz, fun b hb => ?_, fun i c e => ?_⟩
  · by_cases q : b = p
    · rw [q, upd_same]; simp
    · rw [upd_ne q]; exact r.zt b hb
  · obtain ⟨b, hb, q⟩ := r.cell i c e
    exact ⟨b, hb, q.made hp Mk.write fun z => r.nz b (List.mem_of_getElem? hb) (by rw [z]; exact hp)⟩
theorem CRel.mkDone {μ : Store} {p : Addr} {o : HO} (r : CRel G (p :: Z) φ H μ) : CRel G Z φ (L2.upd H p o) μ := by
  refine ⟨r.len, r.nd, fun a ha q => r.nz a ha (List.mem_cons_of_mem _ q), fun b hb => ?_, fun i c e => ?_⟩
  · by_cases q : b = p
    · rw [q, upd_same]; simp
    · rw [upd_ne q]; exact r.zt b (List.mem_cons_of_mem _ hb)
  · obtain ⟨b, hb, q⟩ := r.cell i c e
    exact ⟨b, hb, q.made List.mem_cons_self Mk.done fun z => r.nz b (List.mem_of_getElem? hb) (by rw [z]; exact List.mem_cons_self)⟩
theorem CRel.mkCell {μ : Store} {p : Addr} {o : HO} {k : Cell} (r : CRel G (p :: Z) φ H μ) (hp : p ∉ Z) (n : CellRep G Z (φ ++ [p]) (L2.upd H p o) p k) : CRel G Z (φ ++ [p]) (L2.upd H p o) (μ ++ [k]) := by
  have nphi : p ∉ φ := fun z => r.nz p z List.mem_cons_self
  refine ⟨by rw [List.length_append, List.length_append, r.len]; rfl, ?_, fun b hb q => ?_, fun b hb => ?_, fun j c' e => ?_⟩
  · rw [List.nodup_append]
    exact ⟨r.nd, by simp, fun x hx y hy e => nphi (by rw [← List.mem_singleton.mp hy, ← e]; exact hx)⟩
  · rcases List.mem_append.mp hb with z | z
    · exact r.nz b z (List.mem_cons_of_mem _ q)
    · rw [List.mem_singleton.mp z] at q; exact hp q
  · rw [upd_ne (fun q => hp (by rw [← q]; exact hb))]; exact r.zt b (List.mem_cons_of_mem _ hb)
  · by_cases hj : j < μ.length
    · rw [List.getElem?_append_left hj] at e
      obtain ⟨b, hb, q⟩ := r.cell j c' e
      exact ⟨b, by rw [List.getElem?_append_left (by rw [r.len]; exact hj)]; exact hb, q.made List.mem_cons_self Mk.cell fun z => nphi (by rw [← z]; exact List.mem_of_getElem? hb)⟩
    · rw [List.getElem?_append_right (by omega)] at e
      have hz : j - μ.length = 0 := by
        have := (List.getElem?_eq_some_iff.mp e).1
        simp at this; omega
      rw [hz] at e
      simp at e
      subst e
      refine ⟨p, ?_, n⟩
      rw [List.getElem?_append_right (by rw [r.len]; omega), r.len, hz]
      rfl
end
end PY

set_option Elab.async false
set_option linter.all false
set_option maxRecDepth 100000
set_option maxHeartbeats 4000000
/-! PY, part b: the small language and its meaning over D. -/
namespace PY
open PySem PySem.Spec PyProof.Rows L2

/-- the longest list, text -/
abbrev Sz : Nat := 16777216

/-! ### what a value is -/
mutual
def eqv : D → D → Bool
  | .non, .non => true
  | .bl a, .bl b => a == b
  | .bl a, .int j => (if a then 1 else 0) == j
  | .int i, .bl b => i == (if b then 1 else 0)
  | .int i, .int j => i == j
  | .str s, .str t => s == t
  | .lst xs, .lst ys => eqvs xs ys
  | .tup xs, .tup ys => eqvs xs ys
  | _, _ => false
def eqvs : List D → List D → Bool
  | [], [] => true
  | x :: xs, y :: ys => eqv x y && eqvs xs ys
  | [], _ :: _ => false
  | _ :: _, [] => false
end
mutual
/-- plain data: no cell, no instance within -/
def plain : D → Bool
  | .non | .bl _ | .int _ | .str _ => true
  | .tup xs | .lst xs => plains xs
  | .ins .. | .ref _ | .scr _ => false
def plains : List D → Bool
  | [] => true
  | x :: xs => plain x && plains xs
end
mutual
def depth : D → Nat
  | .non | .bl _ | .int _ | .str _ | .ref _ | .scr _ => 0
  | .tup xs | .lst xs | .ins _ xs => depths xs + 1
def depths : List D → Nat
  | [] => 0
  | x :: xs => max (depth x) (depths xs)
end
mutual
/-- all cells within are below n -/
def below (n : Nat) : D → Bool
  | .non | .bl _ | .int _ | .str _ | .scr _ => true
  | .tup xs | .lst xs | .ins _ xs => belows n xs
  | .ref i => decide (i < n)
def belows (n : Nat) : List D → Bool
  | [] => true
  | x :: xs => below n x && belows n xs
end
/-- the list that a cell holds, as a value -/
def deref (μ : Store) : D → D
  | .ref i => match μ[i]? with
    | some (.lst xs) => .lst xs
    | _ => .ref i
  | d => d
/-- the items of a list or tuple -/
def seqOf (μ : Store) : D → Option (List D)
  | .scr ns => some (ns.map .int)
  | .tup xs => some xs
  | .lst xs => some xs
  | .ref i => match μ[i]? with
    | some (.lst xs) => some xs
    | _ => none
  | _ => none
/-- the items of a list -/
def lstOf (μ : Store) : D → Option (List D)
  | .lst xs => some xs
  | .ref i => match μ[i]? with
    | some (.lst xs) => some xs
    | _ => none
  | _ => none
def truthD (μ : Store) : D → Option Bool
  | .non => some false
  | .bl b => some b
  | .int i => some (i != 0)
  | .str s => if s.toList.length ≤ Sz then some (!s.toList.isEmpty) else none
  | .tup xs => some (!xs.isEmpty)
  | .lst xs => some (!xs.isEmpty)
  | .ref i => match μ[i]? with
    | some (.lst xs) => some (!xs.isEmpty)
    | some (.dct false kvs) => some (!kvs.isEmpty)
    | _ => none
  | _ => none
def boolsOf : List D → Option (List Bool)
  | [] => some []
  | .bl b :: r => (boolsOf r).map (b :: ·)
  | _ => none
def look (kvs : List (D × D)) (k : D) : Option D := (kvs.find? fun p => eqv p.1 k).map (·.2)
def put (kvs : List (D × D)) (k v : D) : List (D × D) :=
  if (kvs.any fun p => eqv p.1 k) = true then kvs.map (fun p => if eqv p.1 k = true then (p.1, v) else p) else kvs ++ [(k, v)]
/-- a key that is an int or a text -/
def flatKey : D → Bool
  | .int _ | .str _ => true
  | _ => false
/-- a key of a dict; t: of one whose keys are tuples -/
def keyOf (t : Bool) (k : D) : Bool := !t && flatKey k
def atD {α : Type} (xs : List α) (i : Int) : Option α :=
  if 0 ≤ i then xs[i.toNat]? else if -(xs.length : Int) ≤ i then xs[(i + xs.length).toNat]? else none
def ixD (μ : Store) : D → D → Option D
  | .tup xs, .int i => atD xs i
  | .lst xs, .int i => atD xs i
  | .str s, .int i => if s.toList.length ≤ Sz then (atD s.toList i).map fun c => .str (String.singleton c) else none
  | .ref r, k => match μ[r]? with
    | some (.lst xs) => match k with
      | .int i => atD xs i
      | _ => none
    | some (.dct t kvs) => if keyOf t k then look kvs k else none
    | _ => none
  | _, _ => none
/-- a slice -/
def cut {α : Type} (xs : List α) (lo hi : Option Int) : List α :=
  (xs.drop (HT.sIx xs.length 0 lo)).take (HT.sIx xs.length xs.length hi - HT.sIx xs.length 0 lo)
def slD (μ : Store) (lo hi : Option Int) : D → Option D
  | .tup xs => some (.tup (cut xs lo hi))
  | .lst xs => some (.lst (cut xs lo hi))
  | .str s => if s.toList.length ≤ Sz then some (.str (String.ofList (cut s.toList lo hi))) else none
  | .ref r => match μ[r]? with
    | some (.lst xs) => some (.lst (cut xs lo hi))
    | _ => none
  | _ => none
def canEq (a b : D) : Bool := plain a && plain b && decide (min (depth a) (depth b) ≤ 150)
def eqD (μ : Store) (a b : D) : Option Bool := if canEq (deref μ a) (deref μ b) then some (eqv (deref μ a) (deref μ b)) else none
def inD (μ : Store) (x c : D) : Option Bool :=
  match deref μ c with
  | .tup xs => if plain x && plains xs && decide (min (depths xs) (depth x) ≤ 150) then some (xs.any fun y => eqv y x) else none
  | .lst xs => if plain x && plains xs && decide (min (depths xs) (depth x) ≤ 150) then some (xs.any fun y => eqv y x) else none
  | .str t => match x with
    | .str s => match s.toList with
      | [c] => some (t.toList.contains c)
      | _ => none
    | _ => none
  | .ref r => match μ[r]? with
    | some (.dct t kvs) => if keyOf t x then some (look kvs x).isSome else none
    | _ => none
  | _ => none
def lenD (μ : Store) : D → Option Nat
  | .tup xs => some xs.length
  | .lst xs => some xs.length
  | .str s => if s.toList.length ≤ Sz then some s.toList.length else none
  | .ref r => match μ[r]? with
    | some (.lst xs) => some xs.length
    | some (.dct _ kvs) => some kvs.length
    | _ => none
  | _ => none

/-! ### operators -/
inductive Op where
  | add | sub | mul | fdiv | mod | pow | shl | shr | band | bor | bxor
deriving DecidableEq, Inhabited
def intOp : Op → Int → Int → Option Int
  | .add, i, j => some (i + j)
  | .sub, i, j => some (i - j)
  | .mul, i, j => if i.natAbs < 18446744073709551616 ∨ j.natAbs < 18446744073709551616 then some (i * j) else none
  | .fdiv, i, j => if j ≠ 0 ∧ j.natAbs < 1073741824 then some (i.fdiv j) else none
  | .mod, i, j => if j ≠ 0 then some (i.fmod j) else none
  | .pow, i, j => if 0 ≤ j ∧ j ≤ 1000000 ∧ i.natAbs < 18446744073709551616 then some (i ^ j.toNat) else none
  | .shl, i, j => if 0 ≤ j ∧ j ≤ 1000000 ∧ i.natAbs < 18446744073709551616 then some (i * 2 ^ j.toNat) else none
  | .shr, i, j => if 0 ≤ j then some (i / 2 ^ j.toNat) else none
  | .band, i, j => some (Builtin.bitAnd i j)
  | .bor, i, j => some (Builtin.bitOr i j)
  | .bxor, i, j => some (Builtin.bitXor i j)
def binD (μ : Store) : Op → D → D → Option D
  | o, .int i, .int j => (intOp o i j).map .int
  | .add, .str s, .str t => if s.toList.length + t.toList.length ≤ Sz then some (.str (s ++ t)) else none
  | .add, .tup xs, .tup ys => if xs.length + ys.length ≤ Sz then some (.tup (xs ++ ys)) else none
  | .add, .lst xs, .lst ys => if xs.length + ys.length ≤ Sz then some (.lst (xs ++ ys)) else none
  | .add, .ref i, y => match μ[i]?, lstOf μ y with
    | some (.lst xs), some ys => if xs.length + ys.length ≤ Sz then some (.lst (xs ++ ys)) else none
    | _, _ => none
  | .add, .lst xs, .ref j => match μ[j]? with
    | some (.lst ys) => if xs.length + ys.length ≤ Sz then some (.lst (xs ++ ys)) else none
    | _ => none
  | .mul, .lst xs, .int k => if k.natAbs < 9223372036854775808 ∧ xs.length * k.toNat ≤ Sz then some (.lst (List.replicate k.toNat xs).flatten) else none
  | _, _, _ => none
inductive Cm where
  | eq | ne | lt | le | gt | ge | isin | notin
deriving DecidableEq, Inhabited
def cmD (μ : Store) : Cm → D → D → Option Bool
  | .eq, x, y => eqD μ x y
  | .ne, x, y => (eqD μ x y).map (!·)
  | .lt, .int i, .int j => some (decide (i < j))
  | .le, .int i, .int j => some (decide (i ≤ j))
  | .gt, .int i, .int j => some (decide (j < i))
  | .ge, .int i, .int j => some (decide (j ≤ i))
  | .isin, x, y => inD μ x y
  | .notin, x, y => (inD μ x y).map (!·)
  | _, _, _ => none
/-- the built-in types that isinstance asks for -/
inductive Ty where
  | int | bool | str | tuple | list | dict
deriving DecidableEq, Inhabited
/-- the built-in type of a value -/
inductive Vt where
  | non | bool | int | str | tuple | list | dict
deriving DecidableEq, Inhabited
def vtOf (μ : Store) : D → Option Vt
  | .non => some .non
  | .bl _ => some .bool
  | .int _ => some .int
  | .str _ => some .str
  | .tup _ => some .tuple
  | .lst _ => some .list
  | .ins _ _ => none
  | .scr _ => none
  | .ref i => match μ[i]? with
    | some (.lst _) => some .list
    | some (.dct _ _) => some .dict
    | _ => none
def vtIs : Vt → Ty → Bool
  | .bool, .int | .bool, .bool | .int, .int | .str, .str | .tuple, .tuple | .list, .list | .dict, .dict => true
  | _, _ => false
def isTys (μ : Store) (d : D) (ts : List Ty) : Option Bool := (vtOf μ d).map fun v => ts.any (vtIs v)

/-! ### what a built-in does with its arguments -/
inductive Prim where
  | tup | lst (m : Bool)                 -- displays; m: a cell
  | dct (t : Bool)                        -- {k: v, ..}; t: {}, to have tuples as keys
  | bin (o : Op) | neg
  | cm (c : Cm) | isN | notN
  | ix | sl (lo hi : Bool)
  | len | lenset | all | any | int1 | tuple1 | list1 (m : Bool)
  | isi (ts : List Ty)
  | append | pop | extend | setix
deriving DecidableEq, Inhabited
def pairsOf : List D → Option (List (D × D))
  | [] => some []
  | k :: v :: r => (pairsOf r).map ((k, v) :: ·)
  | _ => none
def putAll : List (D × D) → List (D × D) → List (D × D)
  | acc, [] => acc
  | acc, (k, v) :: r => putAll (put acc k v) r
def newL (m : Bool) (xs : List D) (μ : Store) : D × Store := if m then (.ref μ.length, μ ++ [.lst xs]) else (.lst xs, μ)
def isNonD : D → Bool
  | .non => true
  | _ => false
def ilD : D → Option Int
  | .int i => some i
  | _ => none
def strsOf : List D → Option (List String)
  | [] => some []
  | .str s :: r => (strsOf r).map (s :: ·)
  | _ => none
/-- how many different texts -/
def distD : List String → Nat
  | [] => 0
  | x :: r => distD r + (if r.any (· == x) then 0 else 1)
def primD (f : Prim) (ds : List D) (μ : Store) : Option (D × Store) :=
  match f, ds with
  | .tup, ds => if ds.length ≤ Sz then some (.tup ds, μ) else none
  | .lst m, ds => if ds.length ≤ Sz then some (newL m ds μ) else none
  | .dct t, [] => some (.ref μ.length, μ ++ [.dct t []])
  | .dct false, k :: v :: ds => (pairsOf (k :: v :: ds)).bind fun kvs => if kvs.length ≤ 15 ∧ kvs.all (fun p => flatKey p.1) then some (.ref μ.length, μ ++ [.dct false (putAll [] kvs)]) else none
  | .bin o, [x, y] => (binD μ o x y).map (·, μ)
  | .neg, [.int i] => some (.int (-i), μ)
  | .cm c, [x, y] => (cmD μ c x y).map fun b => (.bl b, μ)
  | .isN, [x] => some (.bl (isNonD x), μ)
  | .notN, [x] => some (.bl (!isNonD x), μ)
  | .ix, [x, i] => (ixD μ x i).map (·, μ)
  | .sl false false, [x] => (slD μ none none x).map (·, μ)
  | .sl true false, [x, .int i] => (slD μ (some i) none x).map (·, μ)
  | .sl false true, [x, .int j] => (slD μ none (some j) x).map (·, μ)
  | .len, [x] => (lenD μ x).map fun (n : Nat) => (D.int (n : Int), μ)
  | .lenset, [x] => ((seqOf μ x).bind strsOf).bind fun ss => if ss.length < 4000 then some (.int (distD ss : Nat), μ) else none
  | .all, [x] => ((lstOf μ x).bind boolsOf).map fun bs => (.bl (bs.all id), μ)
  | .any, [x] => ((lstOf μ x).bind boolsOf).map fun bs => (.bl (bs.any id), μ)
  | .int1, [.int i] => some (.int i, μ)
  | .int1, [.bl b] => some (.int (if b then 1 else 0), μ)
  | .tuple1, [x] => (seqOf μ x).map fun xs => (.tup xs, μ)
  | .list1 m, [x] => (seqOf μ x).map fun xs => newL m xs μ
  | .isi ts, [x] => (isTys μ x ts).map fun b => (.bl b, μ)
  | .append, [.ref i, x] => match μ[i]? with
    | some (.lst xs) => if xs.length < Sz then some (.non, μ.set i (.lst (xs ++ [x]))) else none
    | _ => none
  | .pop, [.ref i] => match μ[i]? with
    | some (.lst xs) => match xs.getLast? with
      | some y => some (y, μ.set i (.lst xs.dropLast))
      | none => none
    | _ => none
  | .extend, [.ref i, y] => match μ[i]?, lstOf μ y with
    | some (.lst xs), some ys => if xs.length + ys.length ≤ Sz then some (.non, μ.set i (.lst (xs ++ ys))) else none
    | _, _ => none
  | .setix, [.ref i, k, v] => match μ[i]? with
    | some (.dct t kvs) => if keyOf t k && decide (kvs.length < Sz) then some (.non, μ.set i (.dct t (put kvs k v))) else none
    | _ => none
  | _, _ => none

/-- what a method's receiver must be -/
def recvD (f : Prim) (μ : Store) (x : D) : Option Unit :=
  match f, x with
  | .append, .ref i | .extend, .ref i | .pop, .ref i => match μ[i]? with
    | some (.lst _) => some ()
    | _ => none
  | _, _ => none

/-! ### the language -/
inductive Tg where
  | name (i : Nat)
  | tup (ts : List Tg)
deriving Inhabited
mutual
def bindT : Tg → D → Sl → Option Sl
  | .name i, d, ρ => some (ρ.set i (some d))
  | .tup ts, d, ρ => match d with
    | .tup ds => bindTs ts ds ρ
    | .lst ds => bindTs ts ds ρ
    | _ => none
def bindTs : List Tg → List D → Sl → Option Sl
  | [], [], ρ => some ρ
  | t :: ts, d :: ds, ρ => (bindT t d ρ).bind fun ρ' => bindTs ts ds ρ'
  | _, _, _ => none
end
mutual
inductive Ex where
  | var (i : Nat)
  | con (c : Const)
  | str (s : String)
  | glo (j : Nat)
  | prim (f : Prim) (es : Exs)
  | and_ (es : Exs) | or_ (es : Exs) | not_ (a : Ex) | ife (c a b : Ex)
  | chain (f g : Cm) (a b c : Ex)
  | sl3 (a l h : Ex)
  | meth (f : Prim) (o : Ex) (es : Exs)
  | call (f : Nat) (es : Exs) (k : Nat)
  | comp (m : Bool) (elt : Ex) (tg : Tg) (it : Itx) (cond : Exs) (own : List Nat)
inductive Exs where
  | nil
  | cons (e : Ex) (es : Exs)
inductive Itx where
  | val (e : Ex)
  | rng (es : Exs)
  | enum (e : Ex)
  | zip (a b : Ex)
end
mutual
inductive St where
  | asg (t : Tg) (e : Ex)
  | par (i j : Nat) (a b : Ex)
  | par3 (i j k : Nat) (a b c : Ex)
  | setix (o i e : Ex)
  | aug (i : Nat) (e : Ex)
  | expr (e : Ex)
  | ite (c : Ex) (a b : Sts)
  | whl (c : Ex) (b : Sts)
  | forr (t : Tg) (it : Itx) (b : Sts)
  | ret (e : Ex) | retN
  | raise (c : Nat) (es : Exs)
  | pass | brk | cnt
inductive Sts where
  | nil
  | cons (s : St) (r : Sts)
end

/-! ### the meaning -/
structure XD where
  c : Nat
  args : List D
/-- what each def promises -/
abbrev Calls := Nat → List D → Store → (D → Store → Prop) → (XD → Store → Prop) → Prop
structure Sg where
  call : Calls
  con : Nat → D
  /-- the defaults of each def -/
  dfl : Nat → List D
def opt {α : Type} (o : Option α) (Q : α → Prop) : Prop := match o with
  | some a => Q a
  | none => False
@[simp] theorem opt_some {α : Type} (a : α) (Q : α → Prop) : opt (some a) Q = Q a := propext ⟨fun h => h, fun h => h⟩
@[simp] theorem opt_none {α : Type} (Q : α → Prop) : opt none Q = False := rfl
theorem opt_iff {α : Type} {o : Option α} {Q : α → Prop} : opt o Q ↔ ∃ a, o = some a ∧ Q a := by
  cases o <;> simp [opt]
def conD : Const → Option D
  | .none => some .non
  | .bool b => some (.bl b)
  | .int i => some (.int i)
  | _ => none
/-- what a loop or comprehension walks: the items, and what must stay so -/
structure Plan where
  items : List D
  guard : Store → Prop
/-- the items of the list x, walked in place -/
def valPlan (μ : Store) : D → Option Plan
  | .scr ns => some ⟨ns.map .int, fun _ => True⟩
  | .tup xs => some ⟨xs, fun _ => True⟩
  | .lst xs => some ⟨xs, fun _ => True⟩
  | .str s => some ⟨s.toList.map fun c => .str (String.singleton c), fun _ => True⟩
  | .ref i => match μ[i]? with
    | some (.lst xs) => some ⟨xs, fun μ' => μ'[i]? = some (.lst xs)⟩
    | _ => none
  | _ => none
def rngItems (lo : Int) (n : Nat) : List D := (List.range n).map fun (k : Nat) => D.int (lo + (k : Int))
def small62 (i : Int) : Bool := decide (-4611686018427387904 ≤ i) && decide (i < 4611686018427387904)
def rngPlan : List D → Option Plan
  | [.int j] => if small62 j then some ⟨rngItems 0 j.toNat, fun _ => True⟩ else none
  | [.int i, .int j] => if small62 i && small62 j then some ⟨rngItems i (j - i).toNat, fun _ => True⟩ else none
  | _ => none
def enumFrom : Nat → List D → List D
  | _, [] => []
  | k, x :: xs => .tup [.int k, x] :: enumFrom (k + 1) xs
def enumPlan (p : Plan) : Plan := ⟨enumFrom 0 p.items, p.guard⟩
def isTupD : D → Bool
  | .tup _ => true
  | _ => false
def seqPlan (μ : Store) (d : D) : Option Plan := match d with
  | .str _ => none
  | d => valPlan μ d
def zipPlan (p q : Plan) : Plan := ⟨(p.items.zip q.items).map fun z => .tup [z.1, z.2], fun μ => p.guard μ ∧ q.guard μ⟩
def zipD (μ : Store) (d d' : D) : Option Plan := (seqPlan μ d).bind fun p => (seqPlan μ d').bind fun q => if isTupD d = isTupD d' then some (zipPlan p q) else none
def wipeD (ρ : Sl) : List Nat → Sl
  | [] => ρ
  | v :: vs => (wipeD ρ vs).set v none
/-- the turns of a comprehension: turn i with its item, the store, what is made so far -/
def compTurns (turn : D → Store → (Option D → Store → Prop) → Prop) (guard : Store → Prop) : List D → Store → List D → (List D → Store → Prop) → Prop
  | [], μ, acc, Q => guard μ ∧ Q acc μ
  | d :: ds, μ, acc, Q => guard μ ∧ turn d μ fun o μ' => match o with
    | some x => acc.length < Sz ∧ compTurns turn guard ds μ' (acc ++ [x]) Q
    | none => compTurns turn guard ds μ' acc Q
section
variable (S : Sg)
mutual
def wpE (E : XD → Store → Prop) : Ex → Sl → Store → (D → Store → Prop) → Prop
  | .var i, ρ, μ, Q => match ρ[i]? with
    | some (some d) => Q d μ
    | _ => False
  | .con c, _, μ, Q => opt (conD c) fun d => Q d μ
  | .str s, _, μ, Q => Q (.str s) μ
  | .glo j, _, μ, Q => Q (S.con j) μ
  | .prim f es, ρ, μ, Q => wpEs E es ρ μ fun ds μ' => opt (primD f ds μ') fun r => Q r.1 r.2
  | .and_ es, ρ, μ, Q => wpAnd E es ρ μ Q
  | .or_ es, ρ, μ, Q => wpOr E es ρ μ Q
  | .not_ a, ρ, μ, Q => wpE E a ρ μ fun d μ' => opt (truthD μ' d) fun b => Q (.bl (!b)) μ'
  | .ife c a b, ρ, μ, Q => wpT E c ρ μ fun t μ' => if t = true then wpE E a ρ μ' Q else wpE E b ρ μ' Q
  | .chain f g a b c, ρ, μ, Q => wpE E a ρ μ fun x μ1 => wpE E b ρ μ1 fun y μ2 => opt (cmD μ2 f x y) fun t =>
      if t = true then wpE E c ρ μ2 fun z μ3 => opt (cmD μ3 g y z) fun t' => Q (.bl t') μ3 else Q (.bl false) μ2
  | .sl3 a l h, ρ, μ, Q => wpE E a ρ μ fun x μ1 => wpE E l ρ μ1 fun i μ2 => opt (ilD i) fun lo => wpE E h ρ μ2 fun j μ3 => opt (ilD j) fun hi => opt (slD μ3 (some lo) (some hi) x) fun d => Q d μ3
  | .meth f o es, ρ, μ, Q => wpE E o ρ μ fun x μ1 => opt (recvD f μ1 x) fun _ => wpEs E es ρ μ1 fun ds μ2 => opt (primD f (x :: ds) μ2) fun r => Q r.1 r.2
  | .call f es k, ρ, μ, Q => wpEs E es ρ μ fun ds μ' => S.call f (ds ++ (S.dfl f).drop k) μ' Q E
  | .comp m elt tg it cond own, ρ, μ, Q => wpI E it ρ μ fun p μ1 =>
      compTurns (fun d μ' R => opt (bindT tg d (wipeD ρ own)) fun ρ' => wpC cond ρ' μ' fun t μ'' => if t = true then wpE (fun _ _ => False) elt ρ' μ'' fun x => R (some x) else R none μ'') p.guard p.items μ1 [] fun xs μ2 =>
        Q (newL m xs μ2).1 (newL m xs μ2).2
termination_by structural a _ _ _ => a
def wpEs (E : XD → Store → Prop) : Exs → Sl → Store → (List D → Store → Prop) → Prop
  | .nil, _, μ, Q => Q [] μ
  | .cons e es, ρ, μ, Q => wpE E e ρ μ fun d μ1 => wpEs E es ρ μ1 fun ds μ2 => Q (d :: ds) μ2
termination_by structural a _ _ _ => a
/-- a comprehension's tests: none or one -/
def wpC : Exs → Sl → Store → (Bool → Store → Prop) → Prop
  | .nil, _, μ, Q => Q true μ
  | .cons e .nil, ρ, μ, Q => wpT (fun _ _ => False) e ρ μ Q
  | .cons _ (.cons _ _), _, _, _ => False
termination_by structural a _ _ _ => a
def wpAnd (E : XD → Store → Prop) : Exs → Sl → Store → (D → Store → Prop) → Prop
  | .nil, _, _, _ => False
  | .cons e .nil, ρ, μ, Q => wpE E e ρ μ Q
  | .cons e (.cons e' es), ρ, μ, Q => wpE E e ρ μ fun d μ1 => opt (truthD μ1 d) fun b => if b = true then wpAnd E (.cons e' es) ρ μ1 Q else Q d μ1
termination_by structural a _ _ _ => a
def wpOr (E : XD → Store → Prop) : Exs → Sl → Store → (D → Store → Prop) → Prop
  | .nil, _, _, _ => False
  | .cons e .nil, ρ, μ, Q => wpE E e ρ μ Q
  | .cons e (.cons e' es), ρ, μ, Q => wpE E e ρ μ fun d μ1 => opt (truthD μ1 d) fun b => if b = true then Q d μ1 else wpOr E (.cons e' es) ρ μ1 Q
termination_by structural a _ _ _ => a
def wpT (E : XD → Store → Prop) : Ex → Sl → Store → (Bool → Store → Prop) → Prop
  | .and_ es, ρ, μ, Q => wpTAnd E es ρ μ Q
  | .or_ es, ρ, μ, Q => wpTOr E es ρ μ Q
  | .not_ a, ρ, μ, Q => wpT E a ρ μ fun b μ' => Q (!b) μ'
  | .ife c a b, ρ, μ, Q => wpT E c ρ μ fun t μ' => if t = true then wpT E a ρ μ' Q else wpT E b ρ μ' Q
  | .var i, ρ, μ, Q => match ρ[i]? with
    | some (some d) => opt (truthD μ d) fun b => Q b μ
    | _ => False
  | .con c, _, μ, Q => opt (conD c) fun d => opt (truthD μ d) fun b => Q b μ
  | .str s, _, μ, Q => opt (truthD μ (.str s)) fun b => Q b μ
  | .glo j, _, μ, Q => opt (truthD μ (S.con j)) fun b => Q b μ
  | .prim f es, ρ, μ, Q => wpEs E es ρ μ fun ds μ' => opt (primD f ds μ') fun r => opt (truthD r.2 r.1) fun b => Q b r.2
  | .chain f g a b c, ρ, μ, Q => wpE E a ρ μ fun x μ1 => wpE E b ρ μ1 fun y μ2 => opt (cmD μ2 f x y) fun t =>
      if t = true then wpE E c ρ μ2 fun z μ3 => opt (cmD μ3 g y z) fun t' => Q t' μ3 else Q false μ2
  | .call f es k, ρ, μ, Q => wpEs E es ρ μ fun ds μ' => S.call f (ds ++ (S.dfl f).drop k) μ' (fun d μ'' => opt (truthD μ'' d) fun b => Q b μ'') E
  | .sl3 .., _, _, _ => False
  | .meth f o es, ρ, μ, Q => wpE E o ρ μ fun x μ1 => opt (recvD f μ1 x) fun _ => wpEs E es ρ μ1 fun ds μ2 => opt (primD f (x :: ds) μ2) fun r => opt (truthD r.2 r.1) fun b => Q b r.2
  | .comp .., _, _, _ => False
termination_by structural a _ _ _ => a
def wpTAnd (E : XD → Store → Prop) : Exs → Sl → Store → (Bool → Store → Prop) → Prop
  | .nil, _, _, _ => False
  | .cons e .nil, ρ, μ, Q => wpT E e ρ μ Q
  | .cons e (.cons e' es), ρ, μ, Q => wpT E e ρ μ fun b μ1 => if b = true then wpTAnd E (.cons e' es) ρ μ1 Q else Q false μ1
termination_by structural a _ _ _ => a
def wpTOr (E : XD → Store → Prop) : Exs → Sl → Store → (Bool → Store → Prop) → Prop
  | .nil, _, _, _ => False
  | .cons e .nil, ρ, μ, Q => wpT E e ρ μ Q
  | .cons e (.cons e' es), ρ, μ, Q => wpT E e ρ μ fun b μ1 => if b = true then Q true μ1 else wpTOr E (.cons e' es) ρ μ1 Q
termination_by structural a _ _ _ => a
def wpI (E : XD → Store → Prop) : Itx → Sl → Store → (Plan → Store → Prop) → Prop
  | .val e, ρ, μ, Q => wpE E e ρ μ fun d μ' => opt (valPlan μ' d) fun p => Q p μ'
  | .rng es, ρ, μ, Q => wpEs E es ρ μ fun ds μ' => opt (rngPlan ds) fun p => Q p μ'
  | .enum e, ρ, μ, Q => wpE E e ρ μ fun d μ' => opt (seqPlan μ' d) fun p => Q (enumPlan p) μ'
  | .zip a b, ρ, μ, Q => wpE E a ρ μ fun d μ1 => wpE E b ρ μ1 fun d' μ2 => opt (zipD μ2 d d') fun p => Q p μ2
termination_by structural a _ _ _ => a
end
end

structure PEnds where
  nx : Sl → Store → Prop
  rt : D → Store → Prop
  bk : Sl → Store → Prop := fun _ _ => False
  ct : Sl → Store → Prop := fun _ _ => False
def whileN (test : Sl → Store → (Bool → Store → Prop) → Prop) (body : Sl → Store → (Sl → Store → Prop) → Prop) (nx : Sl → Store → Prop) : Nat → Sl → Store → Prop
  | 0, _, _ => False
  | n + 1, ρ, μ => test ρ μ fun b μ' => if b = true then body ρ μ' (whileN test body nx n) else nx ρ μ'
def forN (tg : Tg) (guard : Store → Prop) (body : Sl → Store → (Sl → Store → Prop) → Prop) (nx : Sl → Store → Prop) : List D → Sl → Store → Prop
  | [], ρ, μ => guard μ ∧ nx ρ μ
  | d :: ds, ρ, μ => guard μ ∧ opt (bindT tg d ρ) fun ρ' => body ρ' μ (forN tg guard body nx ds)
/-- x += y -/
def augD : D → D → Option D
  | .int i, .int j => some (.int (i + j))
  | .str s, .str t => if s.toList.length + t.toList.length ≤ Sz then some (.str (s ++ t)) else none
  | _, _ => none
section
variable (S : Sg)
mutual
def wpS (E : Sl → XD → Store → Prop) : St → Sl → Store → PEnds → Prop
  | .asg t e, ρ, μ, D => wpE S (E ρ) e ρ μ fun d μ' => opt (bindT t d ρ) fun ρ' => D.nx ρ' μ'
  | .par i j a b, ρ, μ, D => wpE S (E ρ) a ρ μ fun x μ1 => wpE S (E ρ) b ρ μ1 fun y μ2 => D.nx ((ρ.set i (some x)).set j (some y)) μ2
  | .par3 i j k a b c, ρ, μ, D => wpE S (E ρ) a ρ μ fun x μ1 => wpE S (E ρ) b ρ μ1 fun y μ2 => wpE S (E ρ) c ρ μ2 fun z μ3 => D.nx (((ρ.set i (some x)).set j (some y)).set k (some z)) μ3
  | .setix o i e, ρ, μ, D => wpE S (E ρ) e ρ μ fun v μ1 => wpE S (E ρ) o ρ μ1 fun x μ2 => wpE S (E ρ) i ρ μ2 fun k μ3 => opt (primD .setix [x, k, v] μ3) fun r => D.nx ρ r.2
  | .aug i e, ρ, μ, D => match ρ[i]? with
    | some (some x) => wpE S (E ρ) e ρ μ fun y μ' => opt (augD x y) fun z => D.nx (ρ.set i (some z)) μ'
    | _ => False
  | .expr e, ρ, μ, D => wpE S (E ρ) e ρ μ fun _ μ' => D.nx ρ μ'
  | .ite c a b, ρ, μ, D => wpT S (E ρ) c ρ μ fun t μ' => if t = true then wpSs E a ρ μ' D else wpSs E b ρ μ' D
  | .whl c b, ρ, μ, D => ∃ n, whileN (fun ρ μ Q => wpT S (E ρ) c ρ μ Q) (fun ρ μ N => wpSs E b ρ μ { nx := N, rt := D.rt, bk := D.nx, ct := N }) D.nx n ρ μ
  | .forr t it b, ρ, μ, D => wpI S (E ρ) it ρ μ fun p μ' => forN t p.guard (fun ρ μ N => wpSs E b ρ μ { nx := N, rt := D.rt, bk := D.nx, ct := N }) D.nx p.items ρ μ'
  | .ret e, ρ, μ, D => wpE S (E ρ) e ρ μ D.rt
  | .retN, _, μ, D => D.rt .non μ
  | .raise c es, ρ, μ, _ => wpEs S (E ρ) es ρ μ fun ds μ' => E ρ ⟨c, ds⟩ μ'
  | .pass, ρ, μ, D => D.nx ρ μ
  | .brk, ρ, μ, D => D.bk ρ μ
  | .cnt, ρ, μ, D => D.ct ρ μ
termination_by structural a _ _ _ => a
def wpSs (E : Sl → XD → Store → Prop) : Sts → Sl → Store → PEnds → Prop
  | .nil, ρ, μ, D => D.nx ρ μ
  | .cons s .nil, ρ, μ, D => wpS E s ρ μ D
  | .cons s (.cons s' r), ρ, μ, D => wpS E s ρ μ { D with nx := fun ρ' μ' => wpSs E (.cons s' r) ρ' μ' D }
termination_by structural a _ _ _ => a
end
end
end PY

set_option Elab.async false
set_option linter.all false
set_option maxRecDepth 100000
set_option maxHeartbeats 4000000
/-! PY, part c: what the built-ins do, by values. -/
namespace PY
open PySem PySem.Spec PyProof.Rows L2

section
variable {X : Cx} {G : Gd} {Z φ : List Addr} {H : Hp} {μ : Store}
theorem sz_eq : (Sz : Nat) = sizeLine := by rw [sizeLine_eq]
/-! ### what stands for a value, from the value -/
theorem Rep.of_non {x : V} (r : Rep G Z φ H x .non) : x = .non := by cases r; rfl
theorem Rep.of_bl {x : V} {b : Bool} (r : Rep G Z φ H x (.bl b)) : x = .bl b := by cases r; rfl
theorem Rep.of_int {x : V} {i : Int} (r : Rep G Z φ H x (.int i)) : x = .int i := by cases r; rfl
theorem Rep.of_str {x : V} {s : String} (r : Rep G Z φ H x (.str s)) : x = .str (Str.ofString s) := by cases r; rfl
theorem Fz.seq {K : PySem.W.Frag} {a : Addr} {vs : List V} (f : Fz Z φ H a (.lst vs)) : SqL K H a vs := .inl f.rd
theorem sqT {K : PySem.W.Frag} {a : Addr} {vs : List V} (f : Fz Z φ H a (.tup vs) ∨ KT K a vs) : SqT K H a vs := by
  rcases f with f | f
  · exact .inl f.rd
  · exact .inr f
theorem Rep.of_tup {x : V} {ds : List D} (r : Rep G Z φ H x (.tup ds)) : ∃ a vs, x = .ref a ∧ SqT G.K H a vs ∧ Reps G Z φ H vs ds := by
  cases r with
  | tup h r => exact ⟨_, _, rfl, sqT h, r⟩
theorem Rep.of_lst {x : V} {ds : List D} (r : Rep G Z φ H x (.lst ds)) : ∃ a vs, x = .ref a ∧ Rd H a (.lst vs) ∧ Reps G Z φ H vs ds := by
  cases r with
  | lst h r => exact ⟨_, _, rfl, h.rd, r⟩
theorem Rep.of_ref {x : V} {i : Nat} (r : Rep G Z φ H x (.ref i)) : ∃ a, x = .ref a ∧ φ[i]? = some a := by
  cases r with
  | ref h => exact ⟨_, rfl, h⟩
theorem ints_rep (ns : List Int) : Reps G Z φ H (ns.map V.int) (ns.map D.int) := by
  induction ns with
  | nil => exact .nil
  | cons n ns ih => exact .cons (.int n) ih
theorem Rep.of_scr {x : V} {ns : List Int} (r : Rep G Z φ H x (.scr ns)) : ∃ a, x = .ref a ∧ SqL G.K H a (ns.map V.int) := by
  cases r with
  | scr h => exact ⟨_, rfl, .inr h⟩
/-- the cell at i -/
theorem CRel.at (c : CRel G Z φ H μ) {i : Nat} {a : Addr} {k : Cell} (h : φ[i]? = some a) (e : μ[i]? = some k) : CellRep G Z φ H a k := by
  obtain ⟨b, hb, q⟩ := c.cell i k e
  rw [h] at hb
  cases hb
  exact q
theorem CRel.lst (c : CRel G Z φ H μ) {i : Nat} {a : Addr} {ds : List D} (h : φ[i]? = some a) (e : μ[i]? = some (.lst ds)) : ∃ vs, H a = some (.lst vs) ∧ Reps G Z φ H vs ds := by
  cases c.at h e with
  | lst h r => exact ⟨_, h, r⟩
/-- a sequence -/
theorem Rep.seq (c : CRel G Z φ H μ) {x : V} {d : D} {ds : List D} (r : Rep G Z φ H x d) (e : seqOf μ d = some ds) :
    ∃ a vs, x = .ref a ∧ (SqL G.K H a vs ∨ SqT G.K H a vs) ∧ Reps G Z φ H vs ds := by
  cases d with
  | scr ns =>
    simp only [seqOf, Option.some.injEq] at e
    subst e
    obtain ⟨a, rfl, h⟩ := r.of_scr
    exact ⟨a, _, rfl, .inl h, ints_rep ns⟩
  | tup xs =>
    simp only [seqOf, Option.some.injEq] at e
    subst e
    obtain ⟨a, vs, rfl, h, r⟩ := r.of_tup
    exact ⟨a, vs, rfl, .inr h, r⟩
  | lst xs =>
    simp only [seqOf, Option.some.injEq] at e
    subst e
    obtain ⟨a, vs, rfl, h, r⟩ := r.of_lst
    exact ⟨a, vs, rfl, .inl (.inl h), r⟩
  | ref i =>
    obtain ⟨a, rfl, h⟩ := r.of_ref
    cases q : μ[i]? with
    | none => rw [seqOf, q] at e; cases e
    | some k =>
      cases k with
      | lst xs =>
        rw [seqOf, q] at e
        simp only [Option.some.injEq] at e
        subst e
        obtain ⟨vs, h1, r⟩ := c.lst h q
        exact ⟨a, vs, rfl, .inl (.inl (.inl h1)), r⟩
      | dct _ _ => rw [seqOf, q] at e; cases e
      | ins _ _ => rw [seqOf, q] at e; cases e
  | _ => simp [seqOf] at e
theorem Rep.list (c : CRel G Z φ H μ) {x : V} {d : D} {ds : List D} (r : Rep G Z φ H x d) (e : lstOf μ d = some ds) :
    ∃ a vs, x = .ref a ∧ Rd H a (.lst vs) ∧ Reps G Z φ H vs ds := by
  cases d with
  | lst xs =>
    simp only [lstOf, Option.some.injEq] at e
    subst e
    exact r.of_lst
  | ref i =>
    obtain ⟨a, rfl, h⟩ := r.of_ref
    cases q : μ[i]? with
    | none => rw [lstOf, q] at e; cases e
    | some k =>
      cases k with
      | lst xs =>
        rw [lstOf, q] at e
        simp only [Option.some.injEq] at e
        subst e
        obtain ⟨vs, h1, r⟩ := c.lst h q
        exact ⟨a, vs, rfl, .inl h1, r⟩
      | dct _ _ => rw [lstOf, q] at e; cases e
      | ins _ _ => rw [lstOf, q] at e; cases e
  | _ => simp [lstOf] at e

/-! ### new objects -/
theorem Reps.upd {a : Addr} {o : HO} {vs : List V} {ds : List D} (h : H a = none) (r : Reps G Z φ H vs ds) : Reps G Z φ (upd H a o) vs ds := r.grow (Grow.upd h)
theorem new_tup (c : CRel G Z φ H μ) {p : Addr} {vs : List V} {ds : List D} (h : H p = none) (r : Reps G Z φ H vs ds) : Rep G Z φ (upd H p (.tup vs)) (.ref p) (.tup ds) :=
  .tup (.inl ⟨.inl upd_same, (c.fresh h).1, (c.fresh h).2⟩) (r.upd h)
theorem new_lst (c : CRel G Z φ H μ) {p : Addr} {vs : List V} {ds : List D} (h : H p = none) (r : Reps G Z φ H vs ds) : Rep G Z φ (upd H p (.lst vs)) (.ref p) (.lst ds) :=
  .lst ⟨.inl upd_same, (c.fresh h).1, (c.fresh h).2⟩ (r.upd h)
theorem new_cell (c : CRel G Z φ H μ) {p : Addr} {vs : List V} {ds : List D} (h : H p = none) (r : Reps G Z φ H vs ds) :
    CRel G Z (φ ++ [p]) (upd H p (.lst vs)) (μ ++ [.lst ds]) ∧ Rep G Z (φ ++ [p]) (upd H p (.lst vs)) (.ref p) (.ref μ.length) := by
  refine ⟨c.push h (.lst upd_same (r.grow (Grow.cell h))), .ref ?_⟩
  rw [← c.len, List.getElem?_append_right (Nat.le_refl _), Nat.sub_self]
  rfl
/-- what is wanted of the value d behind a step that leaves the store μ' -/
def Done (G : Gd) (Z φ : List Addr) (H : Hp) (d : D) (μ' : Store) (Q : VK) : Prop := ∀ v φ' H', Rep G Z φ' H' v d → CRel G Z φ' H' μ' → Grow φ H φ' H' → Q v H'
theorem Done.now {Q : VK} {v : V} {d : D} (c : CRel G Z φ H μ) (r : Rep G Z φ H v d) (q : Done G Z φ H d μ Q) : Q v H := q v φ H r c (Grow.refl _ _)
theorem Done.tup {Q : VK} {p : Addr} {vs : List V} {ds : List D} (c : CRel G Z φ H μ) (h : H p = none) (r : Reps G Z φ H vs ds) (q : Done G Z φ H (.tup ds) μ Q) : Q (.ref p) (upd H p (.tup vs)) :=
  q _ _ _ (new_tup c h r) (c.upd h) (Grow.upd h)
theorem Done.lst {Q : VK} {p : Addr} {vs : List V} {ds : List D} (c : CRel G Z φ H μ) (h : H p = none) (r : Reps G Z φ H vs ds) (q : Done G Z φ H (.lst ds) μ Q) : Q (.ref p) (upd H p (.lst vs)) :=
  q _ _ _ (new_lst c h r) (c.upd h) (Grow.upd h)
theorem Done.newL {Q : VK} {p : Addr} {vs : List V} {ds : List D} {m : Bool} (c : CRel G Z φ H μ) (h : H p = none) (r : Reps G Z φ H vs ds) (q : Done G Z φ H (newL m ds μ).1 (newL m ds μ).2 Q) : Q (.ref p) (upd H p (.lst vs)) := by
  cases m with
  | false => exact Done.lst c h r q
  | true =>
    obtain ⟨c', r'⟩ := new_cell c h r
    exact q _ _ _ r' c' (Grow.cell h)

/-! ### readings by D -/
def R1D (G : Gd) (g : Store → D → Option (D × Store)) : V → Hp → VK → Prop := fun x H Q => ∃ Z φ μ dx d μ', CRel G Z φ H μ ∧ Rep G Z φ H x dx ∧ g μ dx = some (d, μ') ∧ Done G Z φ H d μ' Q
def R2D (G : Gd) (g : Store → D → D → Option D) : R2 := fun x y H Q => ∃ Z φ μ dx dy d, CRel G Z φ H μ ∧ Rep G Z φ H x dx ∧ Rep G Z φ H y dy ∧ g μ dx dy = some d ∧ Done G Z φ H d μ Q
def RND (G : Gd) (g : Store → List D → Option (D × Store)) : List V → Hp → VK → Prop := fun xs H Q => ∃ Z φ μ ds d μ', CRel G Z φ H μ ∧ Reps G Z φ H xs ds ∧ g μ ds = some (d, μ') ∧ Done G Z φ H d μ' Q

/-! ### list + list, whatever is read -/
theorem rd_lst {pins : List (Addr × Obj)} {σ : L2.St} {s : Shared} {l : Addr} {xs : List V} (I : Inv X pins σ H s) (hH : Rd H l (.lst xs)) :
    xs.length ≤ sizeLine ∧ ∃ (its : List Value) (n : Nat), Vals xs its ∧ xs.length = its.length ∧ s.heap.get? l = some { cls := .type "list", data := .seq its.toArray n } := by
  obtain ⟨z, its, n, r, e⟩ := hH.ok I.hok
  exact ⟨z, its, n, r, r.length, e⟩
def rCatR : R2 := fun x y H Q => ∃ l b xs zs, x = .ref l ∧ y = .ref b ∧ Rd H l (.lst xs) ∧ Rd H b (.lst zs) ∧ xs.length + zs.length ≤ sizeLine ∧ ∀ p, H p = none → Q (.ref p) (upd H p (.lst (xs ++ zs)))
theorem op_catR : OpR X (binaryOp .Add) rCatR := by
  intro pins s σ H x y v u Q I rx ry h
  obtain ⟨l, b, xs, zs, rfl, rfl, hH, hB, hz, q⟩ := h
  cases rx
  cases ry
  obtain ⟨z, its, n, r, hl, e⟩ := rd_lst I hH
  obtain ⟨z2, its2, n2, r2, hl2, e2⟩ := rd_lst I hB
  refine PySem.P.add_list e e2 ?_ (by rw [List.size_toArray, List.size_toArray]; omega)
  have ea : its.toArray ++ its2.toArray = (its ++ its2).toArray := by simp
  rw [ea]
  exact ⟨.ref _, _, I.lnew (t' := s.toks) (r.append r2) (by rw [List.length_append]; omega), rfl, q _ I.fresh⟩
def rRepR : R2 := fun x y H Q => ∃ l k xs, x = .ref l ∧ y = .int k ∧ Rd H l (.lst xs) ∧ -(2 ^ 63) ≤ k ∧ k < 2 ^ 63 ∧ xs.length * k.toNat ≤ sizeLine ∧
  ∀ p, H p = none → Q (.ref p) (upd H p (.lst (List.replicate k.toNat xs).flatten))
theorem op_repR : OpR X (binaryOp .Mult) rRepR := by
  intro pins s σ H x y v u Q I rx ry h
  obtain ⟨l, k, xs, rfl, rfl, hH, h1, h2, hz, q⟩ := h
  cases rx
  obtain ⟨t, rfl⟩ := ry
  obtain ⟨z, its, n, r, hl, e⟩ := rd_lst I hH
  have hlen : its.toArray.size * k.toNat ≤ sizeLine := by rw [List.size_toArray, ← hl]; exact hz
  have hcap : ¬ its.toArray.size * k.toNat > (2 ^ 63 - 1) / 8 := by
    have : (sizeLine : Nat) ≤ (2 ^ 63 - 1) / 8 := by decide
    omega
  have hfit : ¬ (!Builtin.List.listFitsIndex k) = true := by
    rw [fitsIndex_both h1 h2]
    exact Bool.false_ne_true
  have hlong : ¬ Builtin.List.listTooLong (its.toArray.size * k.toNat) = true := by
    rw [notLongL hlen]
    exact Bool.false_ne_true
  have hnew : List.foldl (fun x1 x2 => x1 ++ x2) #[] (List.replicate (if its.toArray.isEmpty = true then 0 else k.toNat) its.toArray) = (List.replicate k.toNat its).flatten.toArray := by
    have f0 : ∀ m : Nat, List.foldl (fun x1 x2 => x1 ++ x2) #[] (List.replicate m its.toArray) = (List.replicate m its).flatten.toArray := fun m => by
      have := foldl_rep its m []
      rw [List.nil_append] at this
      exact this
    rw [f0]
    cases its with
    | nil => simp
    | cons a r' => rw [if_neg (by simp)]
  refine wpAny_binaryOp_repeat_ref (T := "list") (U := "int") (by decide) ⟨_, e, rfl⟩ (fun s' => typeIs_int s' k t) noFill_list_mul F.fills_int_mul F.slot_int_rmul repeat_list F.slot_int_index.lookup
    (call_meets F.slot_int_rmul (typeIs_int s k t) F.entry_int_rmul (F.args_int_rmul_2 _ _) (int___rmul___int_list k t l its.toArray n)
      ⟨e, rfl, ⟨_, e, rfl⟩, call_meets F.slot_list_mul ⟨_, e, rfl⟩ F.entry_list_mul (F.args_list_mul_2 _ _) (AutoListH.list___mul___list_int_3 l its.toArray n k t hfit hcap hlong) ⟨e, ?_⟩⟩)
  rw [hnew]
  exact ⟨.ref _, _, I.lnew (t' := s.toks) (r.rep k.toNat) (by rw [PyProof.Rows.lm_len_rep_flat, Nat.mul_comm]; exact hz), rfl, q _ I.fresh⟩
theorem Reps.repl {vs : List V} {ds : List D} (r : Reps G Z φ H vs ds) : ∀ n : Nat, Reps G Z φ H (List.replicate n vs).flatten (List.replicate n ds).flatten
  | 0 => .nil
  | n + 1 => by
    rw [List.replicate_succ, List.replicate_succ, List.flatten_cons, List.flatten_cons]
    exact r.append (Reps.repl r n)

/-! ### operators -/
def opOf : Op → Operator
  | .add => .Add | .sub => .Sub | .mul => .Mult | .fdiv => .FloorDiv | .mod => .Mod | .pow => .Pow | .shl => .LShift | .shr => .RShift | .band => .BitAnd | .bor => .BitOr | .bxor => .BitXor
theorem cmul_of {i j : Int} (h : i.natAbs < 18446744073709551616 ∨ j.natAbs < 18446744073709551616) : CMul i j := by
  unfold CMul
  omega
theorem op_int {o : Op} {i j k : Int} (e : intOp o i j = some k) {pins : List (Addr × Obj)} {s : Shared} {σ : L2.St} {v u : Value} {Q : VK} (I : Inv X pins σ H s) (rx : RelV (.int i) v) (ry : RelV (.int j) u) (q : Q (.int k) H) :
    wpAny (model X.prog X.w) X.A (binaryOp (opOf o) v u) (EP X pins σ Q) X.xe s := by
  cases o with
  | add => cases e; exact op_add pins s σ H _ _ v u Q I rx ry ⟨_, _, rfl, rfl, q⟩
  | sub => cases e; exact op_sub pins s σ H _ _ v u Q I rx ry ⟨_, _, rfl, rfl, q⟩
  | mul =>
    simp only [intOp, Option.ite_none_right_eq_some, Option.some.injEq] at e
    obtain ⟨h, rfl⟩ := e
    exact op_mul pins s σ H _ _ v u Q I rx ry ⟨_, _, rfl, rfl, cmul_of h, q⟩
  | fdiv =>
    simp only [intOp, Option.ite_none_right_eq_some, Option.some.injEq] at e
    obtain ⟨h, rfl⟩ := e
    exact op_fdivN pins s σ H _ _ v u Q I rx ry ⟨_, _, rfl, rfl, h, q⟩
  | mod =>
    simp only [intOp, Option.ite_none_right_eq_some, Option.some.injEq] at e
    obtain ⟨h, rfl⟩ := e
    exact op_modN pins s σ H _ _ v u Q I rx ry ⟨_, _, rfl, rfl, h, q⟩
  | pow =>
    simp only [intOp, Option.ite_none_right_eq_some, Option.some.injEq] at e
    obtain ⟨h, rfl⟩ := e
    exact op_pow pins s σ H _ _ v u Q I rx ry ⟨_, _, rfl, rfl, ⟨h.1, h.2.1, by have := h.2.2; omega⟩, q⟩
  | shl =>
    simp only [intOp, Option.ite_none_right_eq_some, Option.some.injEq] at e
    obtain ⟨h, rfl⟩ := e
    exact op_shl pins s σ H _ _ v u Q I rx ry ⟨_, _, rfl, rfl, ⟨h.1, h.2.1, by have := h.2.2; omega⟩, q⟩
  | shr =>
    simp only [intOp, Option.ite_none_right_eq_some, Option.some.injEq] at e
    obtain ⟨h, rfl⟩ := e
    exact op_shr pins s σ H _ _ v u Q I rx ry ⟨_, _, rfl, rfl, h, q⟩
  | band => cases e; exact op_and pins s σ H _ _ v u Q I rx ry ⟨_, _, rfl, rfl, q⟩
  | bor => cases e; exact op_or pins s σ H _ _ v u Q I rx ry ⟨_, _, rfl, rfl, q⟩
  | bxor => cases e; exact op_xor pins s σ H _ _ v u Q I rx ry ⟨_, _, rfl, rfl, q⟩
/-- how a sum of lists is parted -/
theorem binD_lists {μ : Store} {x y d : D} {xs ys : List D} (hx : lstOf μ x = some xs) (hy : lstOf μ y = some ys) (e : binD μ .add x y = some d) : xs.length + ys.length ≤ Sz ∧ d = .lst (xs ++ ys) := by
  cases x with
  | lst xs' =>
    simp only [lstOf, Option.some.injEq] at hx
    subst hx
    cases y with
    | lst ys' =>
      simp only [lstOf, Option.some.injEq] at hy
      subst hy
      simp only [binD, Option.ite_none_right_eq_some, Option.some.injEq] at e
      exact ⟨e.1, e.2.symm⟩
    | ref j =>
      cases q : μ[j]? with
      | none => rw [lstOf, q] at hy; cases hy
      | some k =>
        cases k with
        | lst zs =>
          rw [lstOf, q] at hy
          simp only [Option.some.injEq] at hy
          subst hy
          simp only [binD, q, Option.ite_none_right_eq_some, Option.some.injEq] at e
          exact ⟨e.1, e.2.symm⟩
        | dct _ _ => rw [lstOf, q] at hy; cases hy
        | ins _ _ => rw [lstOf, q] at hy; cases hy
    | _ => simp [lstOf] at hy
  | ref i =>
    cases q : μ[i]? with
    | none => rw [lstOf, q] at hx; cases hx
    | some k =>
      cases k with
      | lst zs =>
        rw [lstOf, q] at hx
        simp only [Option.some.injEq] at hx
        subst hx
        have e' : (if zs.length + ys.length ≤ Sz then some (D.lst (zs ++ ys)) else none) = some d := by
          cases y <;> simpa [binD, q, hy] using e
        simp only [Option.ite_none_right_eq_some, Option.some.injEq] at e'
        exact ⟨e'.1, e'.2.symm⟩
      | dct _ _ => rw [lstOf, q] at hx; cases hx
      | ins _ _ => rw [lstOf, q] at hx; cases hx
  | _ => simp [lstOf] at hx
theorem op_lists {d dx dy : D} {xs ys : List D} (hx : lstOf μ dx = some xs) (hy : lstOf μ dy = some ys) (e : binD μ .add dx dy = some d) {pins : List (Addr × Obj)} {s : Shared} {σ : L2.St} {x y : V} {v u : Value} {Q : VK} (I : Inv X pins σ H s)
    (c : CRel G Z φ H μ) (rx : Rep G Z φ H x dx) (ry : Rep G Z φ H y dy) (vx : RelV x v) (vy : RelV y u) (q : Done G Z φ H d μ Q) :
    wpAny (model X.prog X.w) X.A (binaryOp .Add v u) (EP X pins σ Q) X.xe s := by
  obtain ⟨hz, rfl⟩ := binD_lists hx hy e
  obtain ⟨a, vs, rfl, h1, r1⟩ := rx.list c hx
  obtain ⟨b, ws, rfl, h2, r2⟩ := ry.list c hy
  exact op_catR pins s σ H _ _ v u Q I vx vy ⟨a, b, vs, ws, rfl, rfl, h1, h2, by rw [r1.length, r2.length, ← sz_eq]; exact hz, fun p hp => q.lst c hp (r1.append r2)⟩
theorem op_bin (hK : G.K = X.K) (o : Op) : OpR X (binaryOp (opOf o)) (R2D G fun μ x y => binD μ o x y) := by
  intro pins s σ H x y v u Q I vx vy h
  obtain ⟨Z, φ, μ, dx, dy, d, c, rx, ry, e, q⟩ := h
  have viaInt : ∀ {i j : Int}, dx = .int i → dy = .int j → wpAny (model X.prog X.w) X.A (binaryOp (opOf o) v u) (EP X pins σ Q) X.xe s := fun {i j} h1 h2 => by
    subst h1 h2
    obtain rfl := rx.of_int
    obtain rfl := ry.of_int
    have e' : (intOp o i j).map D.int = some d := by cases o <;> simpa [binD] using e
    obtain ⟨k, ek, rfl⟩ := Option.map_eq_some_iff.mp e'
    exact op_int ek I vx vy (q.now c (.int k))
  cases o with
  | add =>
    cases dx with
    | int i =>
      cases dy with
      | int j => exact viaInt rfl rfl
      | _ => simp [binD] at e
    | str a =>
      cases dy with
      | str b =>
        simp only [binD, Option.ite_none_right_eq_some, Option.some.injEq] at e
        obtain ⟨hz, rfl⟩ := e
        obtain rfl := rx.of_str
        obtain rfl := ry.of_str
        refine op_add_str pins s σ H _ _ v u Q I vx vy ⟨_, _, rfl, rfl, by rw [ofString_length, ofString_length, ← sz_eq]; exact hz, ?_⟩
        rw [ofString_append]
        exact q.now c (.str _)
      | _ => simp [binD] at e
    | tup xs =>
      cases dy with
      | tup ys =>
        simp only [binD, Option.ite_none_right_eq_some, Option.some.injEq] at e
        obtain ⟨hz, rfl⟩ := e
        obtain ⟨a, vs, rfl, h1, r1⟩ := rx.of_tup
        obtain ⟨b, ws, rfl, h2, r2⟩ := ry.of_tup
        rw [hK] at h1 h2
        refine op_catA pins s σ H _ _ v u Q I vx vy ⟨a, b, vs, ws, rfl, rfl, h1, h2, by rw [r1.length, r2.length, ← sz_eq]; exact hz, fun z => ?_, fun _ z => ?_, fun _ _ p hp => q.tup c hp (r1.append r2)⟩
        · subst z
          cases r1
          exact q.now c ry
        · subst z
          cases r2
          rw [List.append_nil] at q
          exact q.now c rx
      | _ => simp [binD] at e
    | lst xs =>
      cases dy with
      | lst ys => exact op_lists rfl rfl e I c rx ry vx vy q
      | ref j =>
        cases k : lstOf μ (.ref j) with
        | none =>
          exfalso
          cases z : μ[j]? with
          | none => simp [binD, z] at e
          | some w => cases w <;> simp [binD, z, lstOf] at e k
        | some ys => exact op_lists rfl k e I c rx ry vx vy q
      | _ => simp [binD] at e
    | ref i =>
      cases k1 : lstOf μ (.ref i) with
      | none =>
        exfalso
        cases z : μ[i]? with
        | none => cases dy <;> simp [binD, z] at e
        | some w => cases w <;> cases dy <;> simp [binD, z, lstOf] at e k1
      | some xs =>
        cases k2 : lstOf μ dy with
        | none =>
          exfalso
          cases z : μ[i]? with
          | none => simp [lstOf, z] at k1
          | some w => cases w <;> cases dy <;> simp_all [binD, lstOf]
        | some ys => exact op_lists k1 k2 e I c rx ry vx vy q
    | _ => simp [binD] at e
  | mul =>
    cases dx with
    | int i =>
      cases dy with
      | int j => exact viaInt rfl rfl
      | _ => simp [binD] at e
    | lst xs =>
      cases dy with
      | int k =>
        simp only [binD, Option.ite_none_right_eq_some, Option.some.injEq] at e
        obtain ⟨⟨hk, hz⟩, rfl⟩ := e
        obtain ⟨a, vs, rfl, h1, r1⟩ := rx.of_lst
        obtain rfl := ry.of_int
        exact op_repR pins s σ H _ _ v u Q I vx vy ⟨a, k, vs, rfl, rfl, h1, by omega, by omega, by rw [r1.length, ← sz_eq]; exact hz, fun p hp => q.lst c hp (r1.repl _)⟩
      | _ => simp [binD] at e
    | _ => simp [binD] at e
  | _ =>
    cases dx with
    | int i =>
      cases dy with
      | int j => exact viaInt rfl rfl
      | _ => simp [binD] at e
    | _ => simp [binD] at e
end
end PY

set_option Elab.async false
set_option linter.all false
set_option maxRecDepth 100000
set_option maxHeartbeats 4000000
/-! PY, part d: comparisons, items, slices, the built-in functions and methods, by values. -/
namespace PY
open PySem PySem.Spec PyProof.Rows L2

/-! ### plain data as the library's data -/
mutual
def toPy : D → PyData
  | .non => .none
  | .bl b => .bool b
  | .int i => .int i
  | .str s => .str (Str.ofString s)
  | .tup xs => .tuple (toPys xs)
  | .lst xs => .list (toPys xs)
  | .ins _ _ => .none
  | .ref _ => .none
  | .scr _ => .none
def toPys : List D → List PyData
  | [] => []
  | x :: xs => toPy x :: toPys xs
end
mutual
theorem toPy_lay : ∀ d : D, (toPy d).canLay0 = true
  | .non => by simp [toPy, PyData.canLay0]
  | .bl _ => by simp [toPy, PyData.canLay0]
  | .int _ => by simp [toPy, PyData.canLay0]
  | .str s => by simp [toPy, PyData.canLay0, ofString_ok]
  | .tup xs => by simp only [toPy, PyData.canLay0]; exact toPys_lay xs
  | .lst xs => by simp only [toPy, PyData.canLay0]; exact toPys_lay xs
  | .ins _ _ => by simp [toPy, PyData.canLay0]
  | .ref _ => by simp [toPy, PyData.canLay0]
  | .scr _ => by simp [toPy, PyData.canLay0]
theorem toPys_lay : ∀ ds : List D, PyData.canLayAll0 (toPys ds) = true
  | [] => by simp [toPys, PyData.canLayAll0]
  | x :: xs => by simp [toPys, PyData.canLayAll0, toPy_lay x, toPys_lay xs]
end
mutual
theorem toPy_depth : ∀ d : D, plain d = true → (toPy d).depth = depth d
  | .non, _ => by simp [toPy, PyData.depth, depth]
  | .bl _, _ => by simp [toPy, PyData.depth, depth]
  | .int _, _ => by simp [toPy, PyData.depth, depth]
  | .str s, _ => by simp [toPy, PyData.depth, depth]
  | .tup xs, h => by
    simp only [toPy, PyData.depth, depth]
    rw [toPys_depth xs (by simpa [plain] using h)]
  | .lst xs, h => by
    simp only [toPy, PyData.depth, depth]
    rw [toPys_depth xs (by simpa [plain] using h)]
  | .ins _ _, h => by simp [plain] at h
  | .ref _, h => by simp [plain] at h
  | .scr _, h => by simp [plain] at h
theorem toPys_depth : ∀ ds : List D, plains ds = true → PyData.depthAll (toPys ds) = depths ds
  | [], _ => by simp [toPys, PyData.depthAll, depths]
  | x :: xs, h => by
    simp only [plains, Bool.and_eq_true] at h
    simp only [toPys, PyData.depthAll, depths]
    rw [toPy_depth x h.1, toPys_depth xs h.2]
end
mutual
theorem toPy_eqv : ∀ a b : D, plain a = true → plain b = true → PyData.eqv (toPy a) (toPy b) = eqv a b
  | .tup xs, .tup ys, h1, h2 => by
    simp only [toPy, PyData.eqv, eqv]
    exact toPys_eqv xs ys (by simpa [plain] using h1) (by simpa [plain] using h2)
  | .lst xs, .lst ys, h1, h2 => by
    simp only [toPy, PyData.eqv, eqv]
    exact toPys_eqv xs ys (by simpa [plain] using h1) (by simpa [plain] using h2)
  | .str s, .str t, _, _ => by simp only [toPy, PyData.eqv, eqv]; exact ofString_beq s t
  | .ins _ _, _, h, _ => by simp [plain] at h
  | .ref _, _, h, _ => by simp [plain] at h
  | .scr _, _, h, _ => by simp [plain] at h
  | .non, .scr _, _, h => by simp [plain] at h
  | .bl _, .scr _, _, h => by simp [plain] at h
  | .int _, .scr _, _, h => by simp [plain] at h
  | .str _, .scr _, _, h => by simp [plain] at h
  | .tup _, .scr _, _, h => by simp [plain] at h
  | .lst _, .scr _, _, h => by simp [plain] at h
  | .non, .ins _ _, _, h => by simp [plain] at h
  | .non, .ref _, _, h => by simp [plain] at h
  | .bl _, .ins _ _, _, h => by simp [plain] at h
  | .bl _, .ref _, _, h => by simp [plain] at h
  | .int _, .ins _ _, _, h => by simp [plain] at h
  | .int _, .ref _, _, h => by simp [plain] at h
  | .str _, .ins _ _, _, h => by simp [plain] at h
  | .str _, .ref _, _, h => by simp [plain] at h
  | .tup _, .ins _ _, _, h => by simp [plain] at h
  | .tup _, .ref _, _, h => by simp [plain] at h
  | .lst _, .ins _ _, _, h => by simp [plain] at h
  | .lst _, .ref _, _, h => by simp [plain] at h
  | .non, .non, _, _ | .non, .bl _, _, _ | .non, .int _, _, _ | .non, .str _, _, _ | .non, .tup _, _, _ | .non, .lst _, _, _ => by simp [toPy, PyData.eqv, eqv]
  | .bl _, .non, _, _ | .bl _, .bl _, _, _ | .bl _, .int _, _, _ | .bl _, .str _, _, _ | .bl _, .tup _, _, _ | .bl _, .lst _, _, _ => by simp [toPy, PyData.eqv, eqv]
  | .int _, .non, _, _ | .int _, .bl _, _, _ | .int _, .int _, _, _ | .int _, .str _, _, _ | .int _, .tup _, _, _ | .int _, .lst _, _, _ => by simp [toPy, PyData.eqv, eqv]
  | .str _, .non, _, _ | .str _, .bl _, _, _ | .str _, .int _, _, _ | .str _, .tup _, _, _ | .str _, .lst _, _, _ => by simp [toPy, PyData.eqv, eqv]
  | .tup _, .non, _, _ | .tup _, .bl _, _, _ | .tup _, .int _, _, _ | .tup _, .str _, _, _ | .tup _, .lst _, _, _ => by simp [toPy, PyData.eqv, eqv]
  | .lst _, .non, _, _ | .lst _, .bl _, _, _ | .lst _, .int _, _, _ | .lst _, .str _, _, _ | .lst _, .tup _, _, _ => by simp [toPy, PyData.eqv, eqv]
theorem toPys_eqv : ∀ xs ys : List D, plains xs = true → plains ys = true → PyData.eqvAll (toPys xs) (toPys ys) = eqvs xs ys
  | [], [], _, _ => by simp [toPys, PyData.eqvAll, eqvs]
  | [], _ :: _, _, _ => by simp [toPys, PyData.eqvAll, eqvs]
  | _ :: _, [], _, _ => by simp [toPys, PyData.eqvAll, eqvs]
  | x :: xs, y :: ys, h1, h2 => by
    simp only [plains, Bool.and_eq_true] at h1 h2
    simp only [toPys, PyData.eqvAll, eqvs]
    rw [toPy_eqv x y h1.1 h2.1, toPys_eqv xs ys h1.2 h2.2]
end
theorem toPys_any (d : D) (hd : plain d = true) : ∀ xs : List D, plains xs = true → ((toPys xs).any fun y => PyData.eqv y (toPy d)) = xs.any fun y => eqv y d
  | [], _ => rfl
  | x :: xs, h => by
    simp only [plains, Bool.and_eq_true] at h
    simp only [toPys, List.any_cons]
    rw [toPy_eqv x d h.1 hd, toPys_any d hd xs h.2]

section
variable {X : Cx} {G : Gd} {Z φ : List Addr} {H : Hp} {μ : Store}
mutual
theorem Rep.dp : ∀ {d : D} {x : V}, plain d = true → Rep G Z φ H x d → Dp G.K H x (toPy d)
  | _, _, _, .non => by simp only [toPy]; exact .non
  | _, _, _, .bl b => by simp only [toPy]; exact .bl b
  | _, _, _, .int i => by simp only [toPy]; exact .int i
  | _, _, _, .str s => by simp only [toPy]; exact .str _
  | _, _, h, .tup hs r => by
    simp only [toPy]
    exact .tup (sqT hs) (Reps.dp (by simpa [plain] using h) r)
  | _, _, h, .lst hs r => by
    simp only [toPy]
    exact .lst hs.seq (Reps.dp (by simpa [plain] using h) r)
  | _, _, h, .ins _ _ _ => by simp [plain] at h
  | _, _, h, .ref _ => by simp [plain] at h
  | _, _, h, .scr _ => by simp [plain] at h
theorem Reps.dp : ∀ {ds : List D} {xs : List V}, plains ds = true → Reps G Z φ H xs ds → DpAll G.K H xs (toPys ds)
  | _, _, _, .nil => by simp only [toPys]; exact .nil
  | _, _, h, .cons r s => by
    simp only [plains, Bool.and_eq_true] at h
    simp only [toPys]
    exact .cons (Rep.dp h.1 r) (Reps.dp h.2 s)
end
/-- .. a cell's list, too -/
theorem Rep.dpr (c : CRel G Z φ H μ) {d : D} {x : V} (h : plain (deref μ d) = true) (r : Rep G Z φ H x d) : Dp G.K H x (toPy (deref μ d)) := by
  cases d with
  | ref i =>
    obtain ⟨a, rfl, ha⟩ := r.of_ref
    cases q : μ[i]? with
    | none => rw [deref, q] at h; simp [plain] at h
    | some k =>
      cases k with
      | lst xs =>
        rw [deref, q] at h ⊢
        obtain ⟨vs, h1, r1⟩ := c.lst ha q
        simp only [toPy]
        exact .lst (.inl (.inl h1)) (r1.dp (by simpa [plain] using h))
      | dct _ _ => rw [deref, q] at h; simp [plain] at h
      | ins _ _ => rw [deref, q] at h; simp [plain] at h
  | _ => exact r.dp h
theorem canEq_and {a b : D} (h : canEq a b = true) : plain a = true ∧ plain b = true ∧ min (depth a) (depth b) ≤ 150 := by
  simp only [canEq, Bool.and_eq_true, decide_eq_true_eq] at h
  exact ⟨h.1.1, h.1.2, h.2⟩
theorem op_eqD' (hK : G.K = X.K) (hu : X.A.units + 160 < cLine) : OpR X (compareOp .Eq) (R2D G fun μ x y => (eqD μ x y).map .bl) := by
  intro pins s σ H x y v u Q I vx vy h
  obtain ⟨Z, φ, μ, dx, dy, d, c, rx, ry, e, q⟩ := h
  dsimp only at e
  obtain ⟨b, e1, rfl⟩ := Option.map_eq_some_iff.mp e
  clear e
  have e := e1
  clear e1
  simp only [eqD, Option.ite_none_right_eq_some, Option.some.injEq] at e
  obtain ⟨h, rfl⟩ := e
  obtain ⟨h1, h2, h3⟩ := canEq_and h
  obtain ⟨as, ra⟩ := Dp.reads I _ x v (hK ▸ rx.dpr c h1) vx
  obtain ⟨bs, rb⟩ := Dp.reads I _ y u (hK ▸ ry.dpr c h2) vy
  refine SeqAt.compareEq_reads ra rb (toPy_lay _) (toPy_lay _) (by rw [toPy_depth _ h1, toPy_depth _ h2]; omega) ⟨.bl _, H, I, rfl, ?_⟩
  rw [toPy_eqv _ _ h1 h2]
  exact q.now c (.bl _)
theorem op_neD' (hK : G.K = X.K) (hu : X.A.units + 160 < cLine) : OpR X (compareOp .NotEq) (R2D G fun μ x y => ((eqD μ x y).map (!·)).map .bl) := by
  intro pins s σ H x y v u Q I vx vy h
  obtain ⟨Z, φ, μ, dx, dy, d, c, rx, ry, e, q⟩ := h
  dsimp only at e
  obtain ⟨b, e1, rfl⟩ := Option.map_eq_some_iff.mp e
  clear e
  obtain ⟨b', e, rfl⟩ := Option.map_eq_some_iff.mp e1
  clear e1
  simp only [eqD, Option.ite_none_right_eq_some, Option.some.injEq] at e
  obtain ⟨h, rfl⟩ := e
  obtain ⟨h1, h2, h3⟩ := canEq_and h
  obtain ⟨as, ra⟩ := Dp.reads I _ x v (hK ▸ rx.dpr c h1) vx
  obtain ⟨bs, rb⟩ := Dp.reads I _ y u (hK ▸ ry.dpr c h2) vy
  refine SeqAt.compareNe_reads ra rb (toPy_lay _) (toPy_lay _) (by rw [toPy_depth _ h1, toPy_depth _ h2]; omega) ⟨.bl _, H, I, rfl, ?_⟩
  rw [toPy_eqv _ _ h1 h2]
  exact q.now c (.bl _)

/-! ### keys -/
theorem KeyRep.of_flat {x : V} {d : D} (h : flatKey d = true) (r : Rep G Z φ H x d) : ∃ k, KeyRep k d ∧ x = kV k := by
  cases d with
  | int i => obtain rfl := r.of_int; exact ⟨.inl i, .int i, rfl⟩
  | str s => obtain rfl := r.of_str; exact ⟨.inr _, .str s, rfl⟩
  | _ => simp [flatKey] at h
theorem KeyRep.eqv {k k' : Key} {d d' : D} (h : KeyRep k d) (h' : KeyRep k' d') : decide (k = k') = PY.eqv d d' := by
  cases h with
  | int i =>
    cases h' with
    | int j => rw [key_ll]; simp [PY.eqv]
    | str t => rw [key_lr]; simp [PY.eqv]
  | str s =>
    cases h' with
    | int j => rw [key_rl]; simp [PY.eqv]
    | str t =>
      rw [key_rr]
      simp only [PY.eqv]
      by_cases e : s = t
      · subst e; simp
      · rw [decide_eq_false (fun q => e (ofString_inj q))]
        exact (beq_eq_false_iff_ne.mpr e).symm
theorem KVRep.look {k : Key} {kd : D} (hk : KeyRep k kd) : ∀ {kvs : List (Key × V)} {ds : List (D × D)}, KVRep G Z φ H kvs ds →
    (PY.look ds kd = none ∧ valV kvs k = none) ∨ ∃ d v, PY.look ds kd = some d ∧ valV kvs k = some v ∧ Rep G Z φ H v d
  | _, _, .nil => .inl ⟨rfl, rfl⟩
  | _, _, .cons (k := k') (kd := kd') (v := v) (d := d) hk' r s => by
    have e := hk'.eqv hk
    by_cases q : k' = k
    · rw [decide_eq_true q] at e
      exact .inr ⟨d, v, by simp [PY.look, List.find?_cons, ← e], valV_pos q, r⟩
    · rw [decide_eq_false q] at e
      rcases KVRep.look hk s with ⟨h1, h2⟩ | ⟨d', v', h1, h2, h3⟩
      · exact .inl ⟨by simpa [PY.look, List.find?_cons, ← e] using h1, by rw [valV_neg q]; exact h2⟩
      · exact .inr ⟨d', v', by simpa [PY.look, List.find?_cons, ← e] using h1, by rw [valV_neg q]; exact h2, h3⟩
theorem KVRep.any {k : Key} {kd : D} (hk : KeyRep k kd) : ∀ {kvs : List (Key × V)} {ds : List (D × D)}, KVRep G Z φ H kvs ds →
    (kvs.any fun kv => decide (kv.1 = k)) = ds.any fun p => PY.eqv p.1 kd
  | _, _, .nil => rfl
  | _, _, .cons hk' r s => by rw [List.any_cons, List.any_cons, hk'.eqv hk, KVRep.any hk s]
theorem KVRep.mapPut {k : Key} {kd : D} (hk : KeyRep k kd) {v : V} {d : D} (r : Rep G Z φ H v d) : ∀ {kvs : List (Key × V)} {ds : List (D × D)}, KVRep G Z φ H kvs ds →
    KVRep G Z φ H (kvs.map fun kv => if kv.1 = k then (kv.1, v) else kv) (ds.map fun p => if PY.eqv p.1 kd = true then (p.1, d) else p)
  | _, _, .nil => .nil
  | _, _, .cons (k := k') hk' r' s => by
    have e := hk'.eqv hk
    rw [List.map_cons, List.map_cons]
    by_cases q : k' = k
    · rw [decide_eq_true q] at e
      rw [if_pos q, if_pos e.symm]
      exact .cons hk' r (KVRep.mapPut hk r s)
    · rw [decide_eq_false q] at e
      rw [if_neg q, if_neg (by rw [← e]; simp)]
      exact .cons hk' r' (KVRep.mapPut hk r s)
theorem KVRep.append : ∀ {kvs kvs' : List (Key × V)} {ds ds' : List (D × D)}, KVRep G Z φ H kvs ds → KVRep G Z φ H kvs' ds' → KVRep G Z φ H (kvs ++ kvs') (ds ++ ds')
  | _, _, _, _, .nil, s => s
  | _, _, _, _, .cons a b c, s => .cons a b (KVRep.append c s)
theorem KVRep.put {k : Key} {kd : D} (hk : KeyRep k kd) {v : V} {d : D} (r : Rep G Z φ H v d) {kvs : List (Key × V)} {ds : List (D × D)} (s : KVRep G Z φ H kvs ds) : KVRep G Z φ H (putK kvs k v) (PY.put ds kd d) := by
  unfold putK PY.put
  rw [s.any hk]
  split
  · exact s.mapPut hk r
  · exact s.append (.cons hk r .nil)
theorem KVRep.length : ∀ {kvs : List (Key × V)} {ds : List (D × D)}, KVRep G Z φ H kvs ds → kvs.length = ds.length
  | _, _, .nil => rfl
  | _, _, .cons _ _ s => by rw [List.length_cons, List.length_cons, KVRep.length s]
theorem TVRep.length : ∀ {kvs : List (List Key × V)} {ds : List (D × D)}, TVRep G Z φ H kvs ds → kvs.length = ds.length
  | _, _, .nil => rfl
  | _, _, .cons _ _ s => by rw [List.length_cons, List.length_cons, TVRep.length s]
theorem CRel.dk (c : CRel G Z φ H μ) {i : Nat} {a : Addr} {ds : List (D × D)} (h : φ[i]? = some a) (e : μ[i]? = some (.dct false ds)) : ∃ kvs, H a = some (.dK kvs) ∧ KVRep G Z φ H kvs ds := by
  cases c.at h e with
  | dK h r => exact ⟨_, h, r⟩

/-! ### in -/
theorem ofSing (c : Char) : Str.ofString (String.singleton c) = ⟨#[c.toNat]⟩ := by
  rw [Str.ofString_eq_toList]
  simp
theorem str_one {s : String} {c : Char} (h : s.toList = [c]) : Str.ofString s = ⟨#[c.toNat]⟩ := by
  rw [Str.ofString_eq_toList, h]
  rfl
theorem mem_cps (t : String) (c : Char) : decide (c.toNat ∈ (Str.ofString t).cps.toList) = t.toList.contains c := by
  rw [ofString_cps]
  simp only [List.mem_map]
  by_cases h : c ∈ t.toList
  · rw [decide_eq_true ⟨c, h, rfl⟩]
    exact (List.contains_iff_mem.mpr h).symm
  · rw [decide_eq_false (fun ⟨a, h1, h2⟩ => h (by rw [← char_inj h2]; exact h1))]
    symm
    rw [Bool.eq_false_iff]
    exact fun q => h (List.contains_iff_mem.mp q)
/-- what inD is by cases, for the two operators -/
theorem op_inD' (hK : G.K = X.K) (hu : X.A.units + 160 < cLine) (neg : Bool) : OpR X (compareOp (if neg then .NotIn else .In)) (R2D G fun μ x y => ((inD μ x y).map (if neg then (!·) else id)).map .bl) := by
  intro pins s σ H x y v u Q I vx vy h
  obtain ⟨Z, φ, μ, dx, dy, d, c, rx, ry, e, q⟩ := h
  dsimp only at e
  obtain ⟨b, e1, rfl⟩ := Option.map_eq_some_iff.mp e
  clear e
  obtain ⟨b', e, rfl⟩ := Option.map_eq_some_iff.mp e1
  clear e1
  have fin : ∀ {s' : Shared}, Inv X pins σ H s' → EP X pins σ Q (.bool ((if neg then (!·) else id) b')) s' := fun I' => ⟨.bl _, H, I', rfl, q.now c (.bl _)⟩
  have seq : ∀ {ds : List D}, ((plain dx && plains ds && decide (min (depths ds) (depth dx) ≤ 150)) = true) → b' = ds.any (fun y => eqv y dx) →
      (Dp G.K H y (.list (toPys ds)) ∨ Dp G.K H y (.tuple (toPys ds))) → wpAny (model X.prog X.w) X.A (compareOp (if neg then .NotIn else .In) v u) (EP X pins σ Q) X.xe s := by
    intro ds h hb hd
    simp only [Bool.and_eq_true, decide_eq_true_eq] at h
    obtain ⟨⟨h1, h2⟩, h3⟩ := h
    obtain ⟨bs, rb⟩ := Dp.reads I _ x v (hK ▸ rx.dp h1) vx
    have hr : X.A.units + 1 + min (PyData.depthAll (toPys ds)) (toPy dx).depth < cLine := by rw [toPys_depth ds h2, toPy_depth dx h1]; omega
    have hb' : ((toPys ds).any fun y => PyData.eqv y (toPy dx)) = b' := by rw [toPys_any dx h1 ds h2, hb]
    rcases hd with hd | hd
    · obtain ⟨as, ra⟩ := Dp.reads I _ y u (hK ▸ hd) vy
      cases neg with
      | false => exact SeqAt.in_list_reads ra rb (toPys_lay _) (toPy_lay _) hr (by rw [hb']; exact fin I)
      | true => exact SeqAt.notIn_list_reads ra rb (toPys_lay _) (toPy_lay _) hr (by rw [hb']; exact fin I)
    · obtain ⟨as, ra⟩ := Dp.reads I _ y u (hK ▸ hd) vy
      cases neg with
      | false => exact SeqAt.in_tuple_reads ra rb (toPys_lay _) (toPy_lay _) hr (by rw [hb']; exact fin I)
      | true => exact SeqAt.notIn_tuple_reads ra rb (toPys_lay _) (toPy_lay _) hr (by rw [hb']; exact fin I)
  cases hy : deref μ dy with
  | tup ds =>
    simp only [inD, hy, Option.ite_none_right_eq_some, Option.some.injEq] at e
    have hp : plain (deref μ dy) = true := by
      have := e.1
      simp only [Bool.and_eq_true] at this
      rw [hy]; simpa [plain] using this.1.2
    refine seq e.1 e.2.symm (.inr ?_)
    have := ry.dpr c hp
    rw [hy] at this
    simpa only [toPy] using this
  | lst ds =>
    simp only [inD, hy, Option.ite_none_right_eq_some, Option.some.injEq] at e
    have hp : plain (deref μ dy) = true := by
      have := e.1
      simp only [Bool.and_eq_true] at this
      rw [hy]; simpa [plain] using this.1.2
    refine seq e.1 e.2.symm (.inl ?_)
    have := ry.dpr c hp
    rw [hy] at this
    simpa only [toPy] using this
  | str t =>
    have hd : dy = .str t := by
      cases dy with
      | ref i =>
        exfalso
        rw [deref] at hy
        split at hy <;> simp at hy
      | _ => exact hy
    subst hd
    cases dx with
    | str z =>
      cases hz : z.toList with
      | nil => simp [inD, deref, hz] at e
      | cons a r =>
        cases r with
        | cons _ _ => simp [inD, deref, hz] at e
        | nil =>
          simp only [inD, deref, hz, Option.some.injEq] at e
          subst e
          obtain rfl := rx.of_str
          obtain rfl := ry.of_str
          obtain ⟨t1, rfl⟩ := vx
          obtain ⟨t2, rfl⟩ := vy
          have hs := str_one hz
          cases neg with
          | false =>
            refine op_in_sign pins s σ H (.str (Str.ofString z)) (.str (Str.ofString t)) _ _ Q I ⟨_, rfl⟩ ⟨_, rfl⟩ ⟨a.toNat, Str.ofString t, by rw [hs], rfl, ?_⟩
            rw [mem_cps]
            exact q.now c (.bl _)
          | true =>
            refine op_notIn_sign pins s σ H (.str (Str.ofString z)) (.str (Str.ofString t)) _ _ Q I ⟨_, rfl⟩ ⟨_, rfl⟩ ⟨a.toNat, Str.ofString t, by rw [hs], rfl, ?_⟩
            rw [mem_cps]
            exact q.now c (.bl _)
    | _ => simp [inD, deref] at e
  | ref i =>
    have hd : dy = .ref i := by
      cases dy with
      | ref j =>
        rw [deref] at hy
        split at hy
        · simp at hy
        · exact hy
      | _ => exact hy
    subst hd
    cases z : μ[i]? with
    | none => simp [inD, hy, z] at e
    | some k =>
      cases k with
      | lst _ => simp [inD, hy, z] at e
      | ins _ _ => simp [inD, hy, z] at e
      | dct t kvs =>
        simp only [inD, hy, z, Option.ite_none_right_eq_some, Option.some.injEq] at e
        obtain ⟨hk, rfl⟩ := e
        obtain ⟨a, rfl, ha⟩ := ry.of_ref
        obtain rfl : u = Value.ref a := vy
        cases t with
        | false =>
          obtain ⟨ws, h1, r1⟩ := c.dk ha z
          obtain ⟨k, kr, rfl⟩ := KeyRep.of_flat (by simpa [keyOf] using hk) rx
          have hs : (valV ws k).isSome = (look kvs dx).isSome := by
            rcases r1.look kr with ⟨h2, h3⟩ | ⟨d', v', h2, h3, _⟩ <;> rw [h2, h3] <;> rfl
          cases neg with
          | false => exact d_in (by omega) I (DGet.k (k := k) h1) vx fun s' I' => by rw [hs]; exact fin I'
          | true => exact d_notIn (by omega) I (DGet.k (k := k) h1) vx fun s' I' => by rw [hs]; exact fin I'
        | true => simp [keyOf] at hk
  | _ => simp [inD, hy] at e

/-! ### the comparisons -/
def cmOf : Cm → CmpOp
  | .eq => .Eq | .ne => .NotEq | .lt => .Lt | .le => .LtE | .gt => .Gt | .ge => .GtE | .isin => .In | .notin => .NotIn
theorem op_cm (hK : G.K = X.K) (hu : X.A.units + 160 < cLine) (o : Cm) : OpR X (compareOp (cmOf o)) (R2D G fun μ x y => (cmD μ o x y).map .bl) := by
  have rel : ∀ (p : CmpOp) (f : Int → Int → Bool), OpR X (compareOp p) (rI0 fun i j => .bl (f i j)) → ∀ (g : Store → D → D → Option Bool), (∀ μ i j, g μ (.int i) (.int j) = some (f i j)) → (∀ μ x y b, g μ x y = some b → ∃ i j, x = .int i ∧ y = .int j) →
      OpR X (compareOp p) (R2D G fun μ x y => (g μ x y).map .bl) := by
    intro p f ho g h1 h2 pins s σ H x y v u Q I vx vy h
    obtain ⟨Z, φ, μ, dx, dy, d, c, rx, ry, e, q⟩ := h
    dsimp only at e
    obtain ⟨b, e1, rfl⟩ := Option.map_eq_some_iff.mp e
    obtain ⟨i, j, rfl, rfl⟩ := h2 _ _ _ _ e1
    rw [h1] at e1
    simp only [Option.some.injEq] at e1
    subst e1
    obtain rfl := rx.of_int
    obtain rfl := ry.of_int
    exact ho pins s σ H _ _ v u Q I vx vy ⟨_, _, rfl, rfl, q.now c (.bl _)⟩
  cases o with
  | eq => exact op_eqD' hK hu
  | ne => exact op_neD' hK hu
  | isin =>
    have h := op_inD' hK hu false
    simp only [Bool.false_eq_true, if_false, Option.map_id, id] at h
    exact h
  | notin => exact op_inD' hK hu true
  | lt => exact rel .Lt _ op_lt (fun μ x y => cmD μ .lt x y) (fun _ _ _ => rfl) (fun μ x y b h => by cases x <;> cases y <;> simp [cmD] at h ⊢)
  | le => exact rel .LtE _ op_le (fun μ x y => cmD μ .le x y) (fun _ _ _ => rfl) (fun μ x y b h => by cases x <;> cases y <;> simp [cmD] at h ⊢)
  | gt => exact rel .Gt _ op_gt (fun μ x y => cmD μ .gt x y) (fun _ _ _ => rfl) (fun μ x y b h => by cases x <;> cases y <;> simp [cmD] at h ⊢)
  | ge => exact rel .GtE _ op_ge (fun μ x y => cmD μ .ge x y) (fun _ _ _ => rfl) (fun μ x y b h => by cases x <;> cases y <;> simp [cmD] at h ⊢)

/-! ### items -/
theorem atI_atD {α : Type} (xs : List α) (i : Int) : L2.atI xs i = atD xs i := by
  unfold L2.atI L2.ixN atD
  by_cases h : 0 ≤ i
  · rw [if_pos h, if_pos h]
    by_cases h2 : i < xs.length
    · rw [if_pos h2]; rfl
    · rw [if_neg h2]
      symm
      show xs[i.toNat]? = none
      rw [List.getElem?_eq_none_iff]; omega
  · rw [if_neg h, if_neg h]
    by_cases h2 : -(xs.length : Int) ≤ i
    · rw [if_pos h2, if_pos h2]; rfl
    · rw [if_neg h2, if_neg h2]; rfl
theorem atD_map {α β : Type} (f : α → β) (xs : List α) (i : Int) : atD (xs.map f) i = (atD xs i).map f := by
  unfold atD
  rw [List.length_map]
  split
  · rw [List.getElem?_map]
  · split
    · rw [List.getElem?_map]
    · rfl
theorem Reps.at {vs : List V} {ds : List D} {i : Int} {d : D} (r : Reps G Z φ H vs ds) (e : atD ds i = some d) : ∃ v, L2.atI vs i = some v ∧ Rep G Z φ H v d := by
  rw [atI_atD]
  unfold atD at e ⊢
  rw [r.length]
  split at e
  · rename_i h
    rw [if_pos h]; exact r.get e
  · rename_i h
    rw [if_neg h]
    split at e
    · rename_i h2
      rw [if_pos h2]; exact r.get e
    · cases e
/-- d[k] as an item -/
theorem ix_dk (hu : X.A.units + 1 < cLine) : IxR X (fun x y H Q => ∃ a v, x = .ref a ∧ DGet H a y (some v) ∧ Q v H) := by
  intro value slice pins s σ H x y v u Q I rx ry h hs
  obtain ⟨a, w, rfl, g, q⟩ := h
  obtain rfl : v = Value.ref a := rx
  exact tail_any (dict_typeIs I g) PySem.F.slot_dict_getitem.lookup (d_getItem hu I g ry fun w' s3 I3 rw' => ⟨w, H, I3, rw', q⟩) hs
theorem ix_D (hK : G.K = X.K) (hu : X.A.units + 1 < cLine) : IxR X (R2D G fun μ x y => ixD μ x y) := by
  intro value slice pins s σ H x y v u Q I vx vy h hs
  obtain ⟨Z, φ, μ, dx, dy, d, c, rx, ry, e, q⟩ := h
  dsimp only at e
  cases dx with
  | tup xs =>
    cases dy with
    | int i =>
      obtain ⟨a, vs, rfl, h1, r1⟩ := rx.of_tup
      obtain rfl := ry.of_int
      obtain ⟨w, hw, rw'⟩ := r1.at e
      rw [hK] at h1
      exact ix_tup value slice pins s σ H _ _ v u Q I vx vy ⟨a, vs, i, w, rfl, rfl, h1, hw, q.now c rw'⟩ hs
    | _ => simp [ixD] at e
  | lst xs =>
    cases dy with
    | int i =>
      obtain ⟨a, vs, rfl, h1, r1⟩ := rx.of_lst
      obtain rfl := ry.of_int
      obtain ⟨w, hw, rw'⟩ := r1.at e
      exact ix_list value slice pins s σ H _ _ v u Q I vx vy ⟨a, vs, i, w, rfl, rfl, .inl h1, hw, q.now c rw'⟩ hs
    | _ => simp [ixD] at e
  | str z =>
    cases dy with
    | int i =>
      simp only [ixD, Option.ite_none_right_eq_some] at e
      obtain ⟨hz, e⟩ := e
      obtain ⟨ch, hc, rfl⟩ := Option.map_eq_some_iff.mp e
      obtain rfl := rx.of_str
      obtain rfl := ry.of_int
      refine ix_str value slice pins s σ H _ _ v u Q I vx vy ⟨_, i, ch.toNat, rfl, rfl, by rw [ofString_length, ← sz_eq]; exact hz, ?_, ?_⟩ hs
      · rw [atI_atD, ofString_cps]
        show atD (z.toList.map Char.toNat) i = _
        rw [atD_map, hc]; rfl
      · rw [← ofSing]
        exact q.now c (.str _)
    | _ => simp [ixD] at e
  | ref r =>
    obtain ⟨a, rfl, ha⟩ := rx.of_ref
    cases z : μ[r]? with
    | none => simp [ixD, z] at e
    | some k =>
      cases k with
      | lst xs =>
        cases dy with
        | int i =>
          simp only [ixD, z] at e
          obtain ⟨vs, h1, r1⟩ := c.lst ha z
          obtain rfl := ry.of_int
          obtain ⟨w, hw, rw'⟩ := r1.at e
          exact ix_list value slice pins s σ H _ _ v u Q I vx vy ⟨a, vs, i, w, rfl, rfl, .inl (.inl h1), hw, q.now c rw'⟩ hs
        | _ => simp [ixD, z] at e
      | dct t kvs =>
        simp only [ixD, z, Option.ite_none_right_eq_some] at e
        obtain ⟨hk, e⟩ := e
        cases t with
        | true => simp [keyOf] at hk
        | false =>
          obtain ⟨ws, h1, r1⟩ := c.dk ha z
          obtain ⟨k, kr, rfl⟩ := KeyRep.of_flat (by simpa [keyOf] using hk) ry
          rcases r1.look kr with ⟨h2, h3⟩ | ⟨d', v', h2, h3, h4⟩
          · rw [h2] at e; cases e
          · rw [h2] at e
            cases e
            exact ix_dk hu value slice pins s σ H _ _ v u Q I vx vy ⟨a, v', rfl, by have := DGet.k (k := k) h1; rw [h3] at this; exact this, q.now c h4⟩ hs
      | ins _ _ => simp [ixD, z] at e
  | _ => simp [ixD] at e

/-! ### slices -/
theorem cutV_cut (vs : List V) (lo hi : Option Int) : cutV vs lo hi = cut vs lo hi := rfl
theorem Reps.cut {vs : List V} {ds : List D} (r : Reps G Z φ H vs ds) (lo hi : Option Int) : Reps G Z φ H (cut vs lo hi) (cut ds lo hi) := by
  unfold PY.cut
  rw [r.length]
  exact (r.drop _).take _
theorem cut_whole {α : Type} (xs : List α) {lo hi : Option Int} (h : HT.sIx xs.length 0 lo = 0 ∧ HT.sIx xs.length xs.length hi = xs.length) : cut xs lo hi = xs := by
  unfold PY.cut
  rw [h.1, h.2, List.drop_zero, Nat.sub_zero, List.take_length]
theorem cut_map {α β : Type} (f : α → β) (xs : List α) (lo hi : Option Int) : cut (xs.map f) lo hi = (cut xs lo hi).map f := by
  unfold PY.cut
  rw [List.length_map, List.map_take, List.map_drop]
theorem cutS_str (s : String) (lo hi : Option Int) : cutS (Str.ofString s) lo hi = Str.ofString (String.ofList (cut s.toList lo hi)) := by
  unfold cutS
  rw [ofString_cps, ofString_length, Str.ofString_eq_toList]
  simp only [String.toList_ofList]
  rw [← cut_map]
  unfold PY.cut
  rw [List.length_map]
def RSlD (G : Gd) : V → Option Int → Option Int → Hp → VK → Prop := fun x lo hi H Q => ∃ Z φ μ dx d, CRel G Z φ H μ ∧ Rep G Z φ H x dx ∧ slD μ lo hi dx = some d ∧ Done G Z φ H d μ Q
theorem sl_D (hK : G.K = X.K) : SlR X (RSlD G) := by
  intro pins s σ H x v vl vu lo hi sl Q I rx hs pl pu h
  obtain ⟨Z, φ, μ, dx, d, c, rd, e, q⟩ := h
  cases dx with
  | tup xs =>
    simp only [slD, Option.some.injEq] at e
    subst e
    obtain ⟨a, vs, rfl, h1, r1⟩ := rd.of_tup
    rw [hK] at h1
    refine sl_tupA pins s σ H _ v vl vu lo hi sl Q I rx hs pl pu ⟨a, vs, rfl, h1, fun hw => ?_, fun hw p hp => q.tup c hp (r1.cut lo hi)⟩
    rw [r1.length] at hw
    rw [cut_whole xs hw] at q
    exact q.now c rd
  | lst xs =>
    simp only [slD, Option.some.injEq] at e
    subst e
    obtain ⟨a, vs, rfl, h1, r1⟩ := rd.of_lst
    exact sl_list pins s σ H _ v vl vu lo hi sl Q I rx hs pl pu ⟨a, vs, rfl, .inl h1, fun p hp => q.lst c hp (r1.cut lo hi)⟩
  | str z =>
    simp only [slD, Option.ite_none_right_eq_some, Option.some.injEq] at e
    obtain ⟨hz, rfl⟩ := e
    obtain rfl := rd.of_str
    refine sl_str pins s σ H _ v vl vu lo hi sl Q I rx hs pl pu ⟨_, rfl, by rw [ofString_length, ← sz_eq]; exact hz, ?_⟩
    rw [cutS_str]
    exact q.now c (.str _)
  | ref r =>
    obtain ⟨a, rfl, ha⟩ := rd.of_ref
    cases z : μ[r]? with
    | none => simp [slD, z] at e
    | some k =>
      cases k with
      | lst xs =>
        simp only [slD, z, Option.some.injEq] at e
        subst e
        obtain ⟨vs, h1, r1⟩ := c.lst ha z
        exact sl_list pins s σ H _ v vl vu lo hi sl Q I rx hs pl pu ⟨a, vs, rfl, .inl (.inl h1), fun p hp => q.lst c hp (r1.cut lo hi)⟩
      | dct _ _ => simp [slD, z] at e
      | ins _ _ => simp [slD, z] at e
  | _ => simp [slD] at e

/-! ### the built-in functions -/
theorem RND.one {g : Store → D → Option (D × Store)} {xs : List V} {H : Hp} {Q : VK} (h : RND G (fun μ ds => match ds with | [x] => g μ x | _ => none) xs H Q) : ∃ x, xs = [x] ∧ R1D G g x H Q := by
  obtain ⟨Z, φ, μ, ds, d, μ', c, r, e, q⟩ := h
  cases r with
  | nil => simp at e
  | cons r s =>
    cases s with
    | nil => exact ⟨_, rfl, Z, φ, μ, _, d, μ', c, r, e, q⟩
    | cons _ _ => simp at e
theorem c_len (hK : G.K = X.K) : CallR X (.builtin "len") (RND G fun μ ds => primD .len ds μ) := by
  intro pins s σ H xs us Q I r h
  obtain ⟨Z, φ, μ, ds, d, μ', c, rs, e, q⟩ := h
  cases rs with
  | nil => simp [primD] at e
  | @cons x _ dx _ rx rt =>
    cases rt with
    | cons _ _ => simp [primD] at e
    | nil =>
      simp only [primD] at e
      obtain ⟨n, e1, z⟩ := Option.map_eq_some_iff.mp e
      clear e
      have e := e1
      clear e1
      simp only [Prod.mk.injEq] at z
      obtain ⟨rfl, rfl⟩ := z
      have fin : Q (.int n) H := q.now c (.int _)
      cases dx with
      | tup ys =>
        simp only [lenD, Option.some.injEq] at e
        obtain ⟨a, vs, rfl, h1, r1⟩ := rx.of_tup
        rw [hK] at h1
        exact call_len_seq pins s σ H _ us Q I r ⟨a, vs, rfl, .inr h1, by rw [r1.length, e]; exact fin⟩
      | lst ys =>
        simp only [lenD, Option.some.injEq] at e
        obtain ⟨a, vs, rfl, h1, r1⟩ := rx.of_lst
        exact call_len_seq pins s σ H _ us Q I r ⟨a, vs, rfl, .inl (.inl h1), by rw [r1.length, e]; exact fin⟩
      | str z =>
        simp only [lenD, Option.ite_none_right_eq_some, Option.some.injEq] at e
        obtain rfl := rx.of_str
        exact call_len_str pins s σ H _ us Q I r ⟨_, rfl, by rw [ofString_length, ← sz_eq]; exact e.1, by rw [ofString_length, e.2]; exact fin⟩
      | ref i =>
        obtain ⟨a, rfl, ha⟩ := rx.of_ref
        cases z : μ[i]? with
        | none => simp [lenD, z] at e
        | some k =>
          cases k with
          | lst ys =>
            simp only [lenD, z, Option.some.injEq] at e
            obtain ⟨vs, h1, r1⟩ := c.lst ha z
            exact call_len_seq pins s σ H _ us Q I r ⟨a, vs, rfl, .inl (.inl (.inl h1)), by rw [r1.length, e]; exact fin⟩
          | dct t kvs =>
            simp only [lenD, z, Option.some.injEq] at e
            cases t with
            | false =>
              obtain ⟨ws, h1, r1⟩ := c.dk ha z
              exact call_lenD pins s σ H _ us Q I r ⟨a, ws, rfl, h1, by rw [r1.length, e]; exact fin⟩
            | true =>
              cases c.at ha z with
              | dT h1 r1 => exact call_len_dT pins s σ H _ us Q I r ⟨a, _, rfl, h1, by rw [r1.length, e]; exact fin⟩
          | ins _ _ => simp [lenD, z] at e
      | _ => simp [lenD] at e
theorem Reps.bools : ∀ {ds : List D} {xs : List V} {bs : List Bool}, Reps G Z φ H xs ds → boolsOf ds = some bs → xs = bs.map V.bl
  | _, _, _, .nil, e => by simp [boolsOf] at e; subst e; rfl
  | _, _, _, .cons (d := d) r s, e => by
    cases d with
    | bl b =>
      simp only [boolsOf] at e
      obtain ⟨bs, e1, rfl⟩ := Option.map_eq_some_iff.mp e
      clear e
      have e := e1
      clear e1
      obtain rfl := r.of_bl
      rw [Reps.bools s e]; rfl
    | _ => simp [boolsOf] at e
theorem c_all (hc : X.calm = true) : CallR X (.builtin "all") (RND G fun μ ds => primD .all ds μ) := by
  intro pins s σ H xs us Q I r h
  obtain ⟨Z, φ, μ, ds, d, μ', c, rs, e, q⟩ := h
  cases rs with
  | nil => simp [primD] at e
  | @cons x _ dx _ rx rt =>
    cases rt with
    | cons _ _ => simp [primD] at e
    | nil =>
      simp only [primD] at e
      obtain ⟨bs, e1, z⟩ := Option.map_eq_some_iff.mp e
      clear e
      have e := e1
      clear e1
      simp only [Prod.mk.injEq] at z
      obtain ⟨rfl, rfl⟩ := z
      obtain ⟨ys, e1, e2⟩ := Option.bind_eq_some_iff.mp e
      obtain ⟨a, vs, rfl, h1, r1⟩ := rx.list c e1
      have hv := r1.bools e2
      subst hv
      exact cr_all hc pins s σ H _ us Q I r ⟨a, bs, rfl, .inl h1, q.now c (.bl _)⟩
theorem c_any (hc : X.calm = true) : CallR X (.builtin "any") (RND G fun μ ds => primD .any ds μ) := by
  intro pins s σ H xs us Q I r h
  obtain ⟨Z, φ, μ, ds, d, μ', c, rs, e, q⟩ := h
  cases rs with
  | nil => simp [primD] at e
  | @cons x _ dx _ rx rt =>
    cases rt with
    | cons _ _ => simp [primD] at e
    | nil =>
      simp only [primD] at e
      obtain ⟨bs, e1, z⟩ := Option.map_eq_some_iff.mp e
      clear e
      have e := e1
      clear e1
      simp only [Prod.mk.injEq] at z
      obtain ⟨rfl, rfl⟩ := z
      obtain ⟨ys, e1, e2⟩ := Option.bind_eq_some_iff.mp e
      obtain ⟨a, vs, rfl, h1, r1⟩ := rx.list c e1
      have hv := r1.bools e2
      subst hv
      exact cr_any hc pins s σ H _ us Q I r ⟨a, bs, rfl, .inl h1, q.now c (.bl _)⟩
theorem c_int : CallR X (.type "int") (RND G fun μ ds => primD .int1 ds μ) := by
  intro pins s σ H xs us Q I r h
  obtain ⟨Z, φ, μ, ds, d, μ', c, rs, e, q⟩ := h
  cases rs with
  | nil => simp [primD] at e
  | @cons x _ dx _ rx rt =>
    cases rt with
    | cons _ _ => simp [primD] at e
    | nil =>
      cases dx with
      | int i =>
        simp only [primD, Option.some.injEq, Prod.mk.injEq] at e
        obtain ⟨rfl, rfl⟩ := e
        obtain rfl := rx.of_int
        exact call_int1 pins s σ H _ us Q I r (.inl ⟨i, rfl, q.now c (.int _)⟩)
      | bl b =>
        simp only [primD, Option.some.injEq, Prod.mk.injEq] at e
        obtain ⟨rfl, rfl⟩ := e
        obtain rfl := rx.of_bl
        exact call_int1 pins s σ H _ us Q I r (.inr ⟨b, rfl, q.now c (.int _)⟩)
      | _ => simp [primD] at e
theorem c_tuple (hK : G.K = X.K) : CallR X (.type "tuple") (RND G fun μ ds => primD .tuple1 ds μ) := by
  intro pins s σ H xs us Q I r h
  obtain ⟨Z, φ, μ, ds, d, μ', c, rs, e, q⟩ := h
  cases rs with
  | nil => simp [primD] at e
  | @cons x _ dx _ rx rt =>
    cases rt with
    | cons _ _ => simp [primD] at e
    | nil =>
      simp only [primD] at e
      obtain ⟨ys, e1, z⟩ := Option.map_eq_some_iff.mp e
      clear e
      have e := e1
      clear e1
      simp only [Prod.mk.injEq] at z
      obtain ⟨rfl, rfl⟩ := z
      cases dx with
      | tup zs =>
        simp only [seqOf, Option.some.injEq] at e
        subst e
        obtain ⟨a, vs, rfl, h1, r1⟩ := rx.of_tup
        rw [hK] at h1
        exact call_tuple_of pins s σ H _ us Q I r ⟨a, vs, rfl, .inr ⟨h1, q.now c rx⟩⟩
      | lst zs =>
        simp only [seqOf, Option.some.injEq] at e
        subst e
        obtain ⟨a, vs, rfl, h1, r1⟩ := rx.of_lst
        exact call_tuple_of pins s σ H _ us Q I r ⟨a, vs, rfl, .inl ⟨.inl h1, fun p hp => q.tup c hp r1⟩⟩
      | ref i =>
        obtain ⟨a, rfl, ha⟩ := rx.of_ref
        cases z : μ[i]? with
        | none => simp [seqOf, z] at e
        | some k =>
          cases k with
          | lst zs =>
            simp only [seqOf, z, Option.some.injEq] at e
            subst e
            obtain ⟨vs, h1, r1⟩ := c.lst ha z
            exact call_tuple_of pins s σ H _ us Q I r ⟨a, vs, rfl, .inl ⟨.inl (.inl h1), fun p hp => q.tup c hp r1⟩⟩
          | dct _ _ => simp [seqOf, z] at e
          | ins _ _ => simp [seqOf, z] at e
      | scr ns =>
        simp only [seqOf, Option.some.injEq] at e
        subst e
        obtain ⟨a, rfl, h1⟩ := rx.of_scr
        rw [hK] at h1
        exact call_tuple_of pins s σ H _ us Q I r ⟨a, _, rfl, .inl ⟨h1, fun p hp => q.tup c hp (ints_rep ns)⟩⟩
      | _ => simp [seqOf] at e
theorem c_list (hK : G.K = X.K) (m : Bool) : CallR X (.type "list") (RND G fun μ ds => primD (.list1 m) ds μ) := by
  intro pins s σ H xs us Q I r h
  obtain ⟨Z, φ, μ, ds, d, μ', c, rs, e, q⟩ := h
  cases rs with
  | nil => simp [primD] at e
  | @cons x _ dx _ rx rt =>
    cases rt with
    | cons _ _ => simp [primD] at e
    | nil =>
      simp only [primD] at e
      obtain ⟨ys, e1, z⟩ := Option.map_eq_some_iff.mp e
      clear e
      have e := e1
      clear e1
      obtain ⟨a, vs, rfl, h1, r1⟩ := rx.seq c e
      have hz : d = (newL m ys μ).1 ∧ μ' = (newL m ys μ).2 := by
        rw [z]; exact ⟨rfl, rfl⟩
      obtain ⟨rfl, rfl⟩ := hz
      rw [hK] at h1
      exact call_list_of pins s σ H _ us Q I r ⟨a, vs, rfl, h1, fun p hp => q.newL c hp r1⟩

/-! ### isinstance -/
def tyName : Ty → String
  | .int => "int" | .bool => "bool" | .str => "str" | .tuple => "tuple" | .list => "list" | .dict => "dict"
def vtName : Vt → String
  | .non => "NoneType" | .bool => "bool" | .int => "int" | .str => "str" | .tuple => "tuple" | .list => "list" | .dict => "dict"
theorem kit_all : ∀ (v : Vt) (t : Ty), kitB (vtName v) (tyName t) = some (vtIs v t)
  | .non, .int => by decide +kernel
  | .non, .bool => by decide +kernel
  | .non, .str => by decide +kernel
  | .non, .tuple => by decide +kernel
  | .non, .list => by decide +kernel
  | .non, .dict => by decide +kernel
  | .bool, .int => by decide +kernel
  | .bool, .bool => by decide +kernel
  | .bool, .str => by decide +kernel
  | .bool, .tuple => by decide +kernel
  | .bool, .list => by decide +kernel
  | .bool, .dict => by decide +kernel
  | .int, .int => by decide +kernel
  | .int, .bool => by decide +kernel
  | .int, .str => by decide +kernel
  | .int, .tuple => by decide +kernel
  | .int, .list => by decide +kernel
  | .int, .dict => by decide +kernel
  | .str, .int => by decide +kernel
  | .str, .bool => by decide +kernel
  | .str, .str => by decide +kernel
  | .str, .tuple => by decide +kernel
  | .str, .list => by decide +kernel
  | .str, .dict => by decide +kernel
  | .tuple, .int => by decide +kernel
  | .tuple, .bool => by decide +kernel
  | .tuple, .str => by decide +kernel
  | .tuple, .tuple => by decide +kernel
  | .tuple, .list => by decide +kernel
  | .tuple, .dict => by decide +kernel
  | .list, .int => by decide +kernel
  | .list, .bool => by decide +kernel
  | .list, .str => by decide +kernel
  | .list, .tuple => by decide +kernel
  | .list, .list => by decide +kernel
  | .list, .dict => by decide +kernel
  | .dict, .int => by decide +kernel
  | .dict, .bool => by decide +kernel
  | .dict, .str => by decide +kernel
  | .dict, .tuple => by decide +kernel
  | .dict, .list => by decide +kernel
  | .dict, .dict => by decide +kernel
theorem kit_any (K : PySem.W.Frag) (v : Vt) : ∀ ts : List Ty, PySem.W.kitAny K (.type (vtName v)) (ts.map fun t => .type (tyName t)) = some (ts.any (vtIs v))
  | [] => rfl
  | t :: ts => by
    rw [List.map_cons, List.any_cons]
    refine kitAny_cons (kit_ty (kit_all v t)) (fun h => ?_) (fun h => by rw [h, Bool.true_or])
    rw [h, Bool.false_or]
    exact kit_any K v ts
theorem Rep.ty (hK : G.K = X.K) (c : CRel G Z φ H μ) {x : V} {d : D} {v : Vt} (r : Rep G Z φ H x d) (e : vtOf μ d = some v) : TyX X.K H x (.type (vtName v)) := by
  cases d with
  | non => cases e; cases r; exact .base .non
  | bl b => cases e; cases r; exact .base (.bl b)
  | int i => cases e; cases r; exact .base (.int i)
  | str s => cases e; cases r; exact .base (.str _)
  | tup xs =>
    cases e
    cases r with
    | tup h _ =>
      rcases h with ⟨h | ⟨o, h⟩, _, _⟩ | ⟨o, its, n, h, hc, _⟩
      · exact .base (.tup h)
      · exact .fTuple h
      · exact .kTuple (hK ▸ h) hc
  | scr _ => simp [vtOf] at e
  | lst xs =>
    cases e
    cases r with
    | lst h _ =>
      obtain ⟨h | ⟨o, h⟩, _, _⟩ := h
      · exact .base (.lst h)
      · exact .base (.frz h)
  | ins _ _ => simp [vtOf] at e
  | ref i =>
    obtain ⟨a, rfl, ha⟩ := r.of_ref
    cases z : μ[i]? with
    | none => simp [vtOf, z] at e
    | some k =>
      cases k with
      | lst xs =>
        simp only [vtOf, z, Option.some.injEq] at e
        subst e
        obtain ⟨vs, h1, _⟩ := c.lst ha z
        exact .base (.lst h1)
      | dct t kvs =>
        simp only [vtOf, z, Option.some.injEq] at e
        subst e
        cases c.at ha z with
        | dK h1 _ => exact .base (.dK h1)
        | dT h1 _ => exact .base (.dT h1)
      | ins _ _ => simp [vtOf, z] at e

/-! ### methods and stores that change a cell -/
def rExtendR : V → List V → Hp → VK → Prop := fun x vs H Q => ∃ l b xs zs, x = .ref l ∧ vs = [.ref b] ∧ H l = some (.lst xs) ∧ Rd H b (.lst zs) ∧ xs.length + zs.length ≤ sizeLine ∧ Q .non (upd H l (.lst (xs ++ zs)))
theorem mt_extendR : MtM X "list.extend" rExtendR := by
  intro pins s σ H x vs v us Q I rx rv h
  obtain ⟨l, b, xs, zs, rfl, rfl, hH, hB, hz, q⟩ := h
  cases rx
  obtain ⟨u, rfl, ru⟩ := rv.one
  cases ru
  obtain ⟨z, its, n, r, hl, e⟩ := I.lstM hH
  obtain ⟨z2, its2, n2, r2, hl2, e2⟩ := rd_lst I hB
  have hsz : its.toArray.size + its2.toArray.size ≤ sizeLine := by rw [List.size_toArray, List.size_toArray]; omega
  have hlong : ¬ (!its.toArray.isEmpty && Builtin.List.listTooLong (its.toArray.size + its2.toArray.size)) = true := by
    rw [notLongL hsz, Bool.and_false]
    exact Bool.false_ne_true
  refine call_meets F.slot_list_extend ⟨_, e, rfl⟩ F.entry_list_extend (F.args_list_extend_2 _ _)
    (AutoSeq1.list_extend_list_list_0 l its.toArray n b its2.toArray n2 hlong (by rw [List.size_toArray]; omega) (by omega)) ⟨e, e2, ?_⟩
  refine ⟨.non, _, I.lset (its' := its ++ its2) hH e (by simp) (r.append r2) ?_, rfl, q⟩
  rw [List.length_append]
  omega
def RMD (G : Gd) (f : Prim) : V → List V → Hp → VK → Prop := fun x xs H Q => RND G (fun μ ds => primD f ds μ) (x :: xs) H Q
theorem Done.write {Q : VK} {v : V} {d : D} {i : Nat} {a : Addr} {o : HO} {k : Cell} (c : CRel G Z φ H μ) (ha : φ[i]? = some a) (hk : CellRep G Z φ (upd H a o) a k) (r : Rep G Z φ H v d) (q : Done G Z φ H d (μ.set i k) Q) : Q v (upd H a o) :=
  q v φ _ (r.grow (Grow.write (List.mem_of_getElem? ha))) (c.write ha hk) (Grow.write (List.mem_of_getElem? ha))
theorem Reps.write {i : Nat} {a : Addr} {o : HO} (ha : φ[i]? = some a) {vs : List V} {ds : List D} (r : Reps G Z φ H vs ds) : Reps G Z φ (L2.upd H a o) vs ds := r.grow (Grow.write (List.mem_of_getElem? ha))
theorem Rep.write {i : Nat} {a : Addr} {o : HO} (ha : φ[i]? = some a) {v : V} {d : D} (r : Rep G Z φ H v d) : Rep G Z φ (upd H a o) v d := r.grow (Grow.write (List.mem_of_getElem? ha))
theorem m_append : MtR X "list.append" (RMD G .append) := by
  intro pins s σ H x xs v us Q I rx rxs h
  obtain ⟨Z, φ, μ, ds, d, μ', c, rs, e, q⟩ := h
  cases rs with
  | @cons x _ dx _ r1 rt =>
    cases rt with
    | nil => cases dx <;> simp [primD] at e
    | @cons y _ dy _ r2 rt =>
      cases rt with
      | cons _ _ => cases dx <;> simp [primD] at e
      | nil =>
        cases dx with
        | ref i =>
          cases z : μ[i]? with
          | none => simp [primD, z] at e
          | some k =>
            cases k with
            | lst ys =>
              simp only [primD, z, Option.ite_none_right_eq_some, Option.some.injEq, Prod.mk.injEq] at e
              obtain ⟨hz, rfl, rfl⟩ := e
              obtain ⟨a, rfl, ha⟩ := r1.of_ref
              obtain ⟨vs, h1, rv⟩ := c.lst ha z
              exact mt_append pins s σ H _ _ v us Q I rx rxs ⟨a, vs, y, rfl, rfl, h1, by rw [rv.length, ← sz_eq]; exact hz, q.write c ha (.lst upd_same ((rv.append (.cons r2 .nil)).write ha)) .non⟩
            | dct _ _ => simp [primD, z] at e
            | ins _ _ => simp [primD, z] at e
        | _ => simp [primD] at e
theorem m_extend : MtR X "list.extend" (RMD G .extend) := by
  intro pins s σ H x xs v us Q I rx rxs h
  obtain ⟨Z, φ, μ, ds, d, μ', c, rs, e, q⟩ := h
  cases rs with
  | @cons x _ dx _ r1 rt =>
    cases rt with
    | nil => cases dx <;> simp [primD] at e
    | @cons y _ dy _ r2 rt =>
      cases rt with
      | cons _ _ => cases dx <;> simp [primD] at e
      | nil =>
        cases dx with
        | ref i =>
          cases z : μ[i]? with
          | none => simp [primD, z] at e
          | some k =>
            cases k with
            | lst ys =>
              cases z2 : lstOf μ dy with
              | none => simp [primD, z, z2] at e
              | some ws =>
                simp only [primD, z, z2, Option.ite_none_right_eq_some, Option.some.injEq, Prod.mk.injEq] at e
                obtain ⟨hz, rfl, rfl⟩ := e
                obtain ⟨a, rfl, ha⟩ := r1.of_ref
                obtain ⟨vs, h1, rv⟩ := c.lst ha z
                obtain ⟨b, zs, rfl, h2, rw'⟩ := r2.list c z2
                refine mt_extendR pins s σ H _ _ v us Q I rx rxs ⟨a, b, vs, zs, rfl, rfl, h1, h2, by rw [rv.length, rw'.length, ← sz_eq]; exact hz, q.write c ha (.lst upd_same ((rv.append rw').write ha)) .non⟩
            | dct _ _ => simp [primD, z] at e
            | ins _ _ => simp [primD, z] at e
        | _ => simp [primD] at e
theorem m_pop : MtR X "list.pop" (RMD G .pop) := by
  intro pins s σ H x xs v us Q I rx rxs h
  obtain ⟨Z, φ, μ, ds, d, μ', c, rs, e, q⟩ := h
  cases rs with
  | @cons x _ dx _ r1 rt =>
    cases rt with
    | cons _ _ => cases dx <;> simp [primD] at e
    | nil =>
      cases dx with
      | ref i =>
        cases z : μ[i]? with
        | none => simp [primD, z] at e
        | some k =>
          cases k with
          | lst ys =>
            cases z2 : ys.getLast? with
            | none => simp [primD, z, z2] at e
            | some y =>
              simp only [primD, z, z2, Option.some.injEq, Prod.mk.injEq] at e
              obtain ⟨rfl, rfl⟩ := e
              obtain ⟨a, rfl, ha⟩ := r1.of_ref
              obtain ⟨vs, h1, rv⟩ := c.lst ha z
              rw [List.getLast?_eq_getElem?, ← rv.length] at z2
              obtain ⟨w, hw, rw'⟩ := rv.get z2
              exact mt_pop pins s σ H _ _ v us Q I rx rxs ⟨a, vs, w, rfl, rfl, h1, hw, q.write c ha (.lst upd_same (rv.dropLast.write ha)) rw'⟩
          | dct _ _ => simp [primD, z] at e
          | ins _ _ => simp [primD, z] at e
      | _ => simp [primD] at e
def RSetD (G : Gd) : V → V → V → Hp → (Hp → Prop) → Prop := fun o i v H Q => ∃ Z φ μ dx di dv d μ', CRel G Z φ H μ ∧ Rep G Z φ H o dx ∧ Rep G Z φ H i di ∧ Rep G Z φ H v dv ∧ primD .setix [dx, di, dv] μ = some (d, μ') ∧
  ∀ φ' H', CRel G Z φ' H' μ' → Grow φ H φ' H' → Q H'
theorem s_setix (hu : X.A.units + 1 < cLine) : PSet X (RSetD G) := by
  intro pins s σ H o i v ov iv u Q I ro ri rv h
  obtain ⟨Z, φ, μ, dx, di, dv, d, μ', c, r1, r2, r3, e, q⟩ := h
  cases dx with
  | ref j =>
    cases z : μ[j]? with
    | none => simp [primD, z] at e
    | some k =>
      cases k with
      | lst ys => simp [primD, z] at e
      | dct t kvs =>
        simp only [primD, z, Bool.and_eq_true, decide_eq_true_eq, Option.ite_none_right_eq_some, Option.some.injEq, Prod.mk.injEq] at e
        obtain ⟨⟨hk, hl⟩, rfl, rfl⟩ := e
        obtain ⟨a, rfl, ha⟩ := r1.of_ref
        obtain rfl : ov = Value.ref a := ro
        cases t with
        | true => simp [keyOf] at hk
        | false =>
          obtain ⟨ws, h1, rw'⟩ := c.dk ha z
          obtain ⟨k, kr, rfl⟩ := KeyRep.of_flat (by simpa [keyOf] using hk) r2
          have hl' : ws.length < sizeLine := by rw [rw'.length, ← sz_eq]; exact hl
          refine d_setItem hu I (DPut.k (k := k) (v := v) h1 hl') ri rv fun s' I' => ⟨_, I', ?_⟩
          exact q φ _ (c.write ha (.dK upd_same ((rw'.put kr r3).grow (Grow.write (List.mem_of_getElem? ha))))) (Grow.write (List.mem_of_getElem? ha))
      | ins _ _ => simp [primD, z] at e
  | _ => simp [primD] at e
end
end PY

set_option Elab.async false
set_option linter.all false
set_option maxRecDepth 100000
set_option maxHeartbeats 4000000
/-! PY, part e: the small language against the model's syntax; what is known where code runs. -/
namespace PY
open PySem PySem.Spec PyProof.Rows L2

/-! ### what is known of the names -/
structure Cxt where
  N : List Str
  vis : List Str
  loc : List Str
  lcl : List Str
  cap : List Str
  gl : List Str
structure FunE where
  id : Nat
  name : Str
  n : Nat
  nd : Nat
structure PCtx where
  funs : List FunE
  con : List Str
  blt : List Str
def kindsOf (sc : Scope) (p : NameKind → Bool) : List Str := (sc.names.filter fun y => p y.2).map (·.1)
def isVis : NameKind → Bool
  | .local | .cell | .free => true
  | _ => false
def isOwn : NameKind → Bool
  | .local | .cell => true
  | _ => false
def isLcl : NameKind → Bool
  | .local => true
  | _ => false
def isCap : NameKind → Bool
  | .cell | .free => true
  | _ => false
def isGl : NameKind → Bool
  | .globalImplicit => true
  | _ => false
def cxtOf (N : List Str) (sc : Scope) : Cxt := ⟨N, kindsOf sc isVis, kindsOf sc isOwn, kindsOf sc isLcl, kindsOf sc isCap, kindsOf sc isGl⟩
/-- each name once -/
def uniqB (sc : Scope) : Bool := sc.names.all fun y => decide (sc.names.lookup y.1 = some y.2)
def noSpec (x : Str) : Bool := (x != ("__debug__" : Str)) && (x != ("__classdict__" : Str))
def isB (P : PCtx) (Γ : Cxt) (x : Str) : Bool := P.blt.contains x && Γ.gl.contains x
/-- o is no super() -/
def noSuper : Expr → Bool
  | .Call (.Name _ _) [] [] _ => false
  | _ => true
def lineOk (a c : Pos) : Bool := a.endLine == c.line
def opEq (a b : Operator) : Bool := decide (a = b)
def cmEq (a b : CmpOp) : Bool := decide (a = b)
def noSet : Expr → Bool
  | .Set .. => false
  | _ => true
def tyOf : String → Option Ty
  | "int" => some .int | "bool" => some .bool | "str" => some .str | "tuple" => some .tuple | "list" => some .list | "dict" => some .dict
  | _ => none
def tyNm (P : PCtx) (Γ : Cxt) (t : Ty) : Expr → Bool
  | .Name x _ => decide (x = Str.ofString (tyName t)) && isB P Γ x
  | _ => false
def tyNms (P : PCtx) (Γ : Cxt) : List Ty → List Expr → Bool
  | [], [] => true
  | t :: ts, e :: es => tyNm P Γ t e && tyNms P Γ ts es
  | _, _ => false
def lenNot0 : Exs → Bool
  | .nil => false
  | _ => true
def exsLen : Exs → Nat
  | .nil => 0
  | .cons _ r => exsLen r + 1
def chkTg (Γ : Cxt) : Tg → Expr → Bool
  | .name i, .Name x _ => decide (Γ.N[i]? = some x) && Γ.loc.contains x
  | .tup ts, .Tuple es _ _ => chkTgs ts es
  | _, _ => false
where chkTgs : List Tg → List Expr → Bool
  | [], [] => true
  | t :: ts, e :: es => chkTg Γ t e && chkTgs ts es
  | _, _ => false
def ownOk (Γ : Cxt) (scope : Scope) (own : List Nat) : Bool :=
  (match scope.kind with | .function => true | _ => false) && uniqB scope &&
    (scope.names.all fun y => match y.2 with
      | .free => Γ.cap.contains y.1
      | .local | .cell => (own.any fun i => decide (Γ.N[i]? = some y.1)) || !Γ.N.contains y.1
      | _ => true) && own.all fun i => (Γ.N[i]?).isSome
mutual
def tgN : Tg → List Nat
  | .name i => [i]
  | .tup ts => tgNs ts
def tgNs : List Tg → List Nat
  | [] => []
  | t :: ts => tgN t ++ tgNs ts
end
def inter : List (Option Expr) → List Expr → Option (List Expr)
  | [], [] => some []
  | some k :: ks, v :: vs => (inter ks vs).map fun r => k :: v :: r
  | _, _ => none
section
variable (P : PCtx)
/-- the parts of a piece of syntax that is to be f of them -/
def argsOf (Γ : Cxt) : Prim → Expr → Option (List Expr)
  | .tup, .Tuple xs _ _ => some xs
  | .lst _, .List xs _ => some xs
  | .dct t, .Dict ks vs _ => if (if ks.isEmpty then vs.isEmpty else !t && decide (ks.length ≤ 15)) = true then inter ks vs else none
  | .bin o, .BinOp a o' b _ => if opEq o' (opOf o) = true then some [a, b] else none
  | .neg, .UnaryOp .USub a _ => some [a]
  | .cm c, .Compare a [o] [b] _ => if (cmEq o (cmOf c) && noSet b) = true then some [a, b] else none
  | .isN, .Compare a [.Is] [.Constant .none _ _] _ => some [a]
  | .notN, .Compare a [.IsNot] [.Constant .none _ _] _ => some [a]
  | .sl false false, .Subscript a (.Slice none none none _) _ => some [a]
  | .sl true false, .Subscript a (.Slice (some l) none none _) _ => some [a, l]
  | .sl false true, .Subscript a (.Slice none (some h) none _) _ => some [a, h]
  | .ix, .Subscript a b _ => some [a, b]
  | .len, .Call (.Name x _) [a] [] _ => if (decide (x = ("len" : Str)) && isB P Γ x) = true then some [a] else none
  | .lenset, .Call (.Name x _) [.Call (.Name y _) [a] [] _] [] _ => if (decide (x = ("len" : Str)) && isB P Γ x && decide (y = ("set" : Str)) && isB P Γ y) = true then some [a] else none
  | .all, .Call (.Name x _) [a] [] _ => if (decide (x = ("all" : Str)) && isB P Γ x) = true then some [a] else none
  | .any, .Call (.Name x _) [a] [] _ => if (decide (x = ("any" : Str)) && isB P Γ x) = true then some [a] else none
  | .int1, .Call (.Name x _) [a] [] _ => if (decide (x = ("int" : Str)) && isB P Γ x) = true then some [a] else none
  | .tuple1, .Call (.Name x _) [a] [] _ => if (decide (x = ("tuple" : Str)) && isB P Γ x) = true then some [a] else none
  | .list1 _, .Call (.Name x _) [a] [] _ => if (decide (x = ("list" : Str)) && isB P Γ x) = true then some [a] else none
  | .isi ts, .Call (.Name x _) [a, .Tuple us _ _] [] _ => if (decide (x = ("isinstance" : Str)) && isB P Γ x && tyNms P Γ ts us && decide (ts.length ≤ 100)) = true then some [a] else none
  | .isi [t], .Call (.Name x _) [a, .Name u p] [] _ => if (decide (x = ("isinstance" : Str)) && isB P Γ x && tyNm P Γ t (.Name u p)) = true then some [a] else none
  | _, _ => none
/-- the name of a method -/
def methNm : Prim → Option String
  | .append => some "append" | .extend => some "extend" | .pop => some "pop"
  | _ => none
def methIs (f : Prim) (m : Str) : Bool := match methNm f with
  | some n => decide (m = Str.ofString n)
  | none => false
mutual
def chkE : Cxt → Ex → Expr → Bool
  | Γ, .var i, y => match y with
    | .Name x _ => decide (Γ.N[i]? = some x) && Γ.vis.contains x && noSpec x
    | _ => false
  | _, .con c, y => match y with
    | .Constant c' _ _ => decide (c = c') && (conD c).isSome
    | _ => false
  | _, .str s, y => match y with
    | .Constant (.str s') _ _ => decide (Str.ofString s = s')
    | _ => false
  | Γ, .glo j, y => match y with
    | .Name x _ => decide (P.con[j]? = some x) && Γ.gl.contains x && noSpec x
    | _ => false
  | Γ, .prim f es, y => match argsOf P Γ f y with
    | some xs => chkEs Γ es xs
    | none => false
  | Γ, .and_ es, y => match y with
    | .BoolOp .And vs _ => chkEs Γ es vs && lenNot0 es
    | _ => false
  | Γ, .or_ es, y => match y with
    | .BoolOp .Or vs _ => chkEs Γ es vs && lenNot0 es
    | _ => false
  | Γ, .not_ a, y => match y with
    | .UnaryOp .Not x _ => chkE Γ a x
    | _ => false
  | Γ, .ife c a b, y => match y with
    | .IfExp x y z _ => chkE Γ c x && chkE Γ a y && chkE Γ b z
    | _ => false
  | Γ, .chain f g a b c, y => match y with
    | .Compare x [o1, o2] [y, z] _ => cmEq o1 (cmOf f) && cmEq o2 (cmOf g) && noSet z && chkE Γ a x && chkE Γ b y && chkE Γ c z
    | _ => false
  | Γ, .sl3 a l h, y => match y with
    | .Subscript x (.Slice (some y) (some z) none _) _ => chkE Γ a x && chkE Γ l y && chkE Γ h z
    | _ => false
  | Γ, .meth f o es, y => match y with
    | .Call (.Attribute o' m ap) as [] cp => methIs f m && noSuper o' && lineOk ap cp && decide (as.length < 20) && chkE Γ o o' && chkEs Γ es as
    | _ => false
  | Γ, .call f es k, y => match y with
    | .Call (.Name x _) as [] _ => (P.funs.any fun d => d.id == f && decide (d.name = x) && decide (exsLen es + (d.nd - k) = d.n) && decide (k ≤ d.nd))
      && Γ.gl.contains x && noSpec x && chkEs Γ es as
    | _ => false
  | Γ, .comp _ elt tg it cond own, y => match y with
    | .ListComp elt' [⟨tg', iter, ifs, 0⟩] scope _ =>
      chkI Γ it iter tg' && noSet iter && ownOk Γ scope own && chkTg (cxtOf Γ.N scope) tg tg' && ((tgN tg).all fun i => own.contains i) && chkC (cxtOf Γ.N scope) cond ifs && chkE (cxtOf Γ.N scope) elt elt'
    | _ => false
termination_by structural _ e => e
def chkEs : Cxt → Exs → List Expr → Bool
  | _, .nil, ys => ys.isEmpty
  | Γ, .cons e es, ys => match ys with
    | x :: xs => chkE Γ e x && chkEs Γ es xs
    | [] => false
termination_by structural _ e => e
def chkC : Cxt → Exs → List Expr → Bool
  | _, .nil, ys => ys.isEmpty
  | Γ, .cons e es, ys => match es, ys with
    | .nil, [x] => chkE Γ e x
    | _, _ => false
termination_by structural _ e => e
def chkI : Cxt → Itx → Expr → Expr → Bool
  | Γ, .val e, x, _ => chkE Γ e x
  | Γ, .rng es, y, _ => match y with
    | .Call (.Name x _) as [] _ => decide (x = ("range" : Str)) && isB P Γ x && (as.length == 1 || as.length == 2) && chkEs Γ es as
    | _ => false
  | Γ, .enum e, y, t => match y, t with
    | .Call (.Name x _) [a] [] _, .Tuple .. => decide (x = ("enumerate" : Str)) && isB P Γ x && chkE Γ e a
    | _, _ => false
  | Γ, .zip e f, y, t => match y, t with
    | .Call (.Name x _) [a, b] [] _, .Tuple .. => decide (x = ("zip" : Str)) && isB P Γ x && chkE Γ e a && chkE Γ f b
    | _, _ => false
termination_by structural _ e => e
end
end

/-! ### exceptions -/
/-- a slot-wise wish about exceptions: WX -/
def XRep (G : Gd) (Z φ : List Addr) (H : Hp) (cls : Value) (dd : Option Addr) (x : XD) : Prop :=
  cls = .ref (G.cA x.c) ∧ ∃ d vs, dd = some d ∧ H d = some (.xd ((G.cF x.c).zip vs)) ∧ (G.cF x.c).length = vs.length ∧ Reps G Z φ H vs x.args
def Lk (G : Gd) (Z : List Addr) (W : WX) (E : XD → Store → Prop) (σ : L2.St) (φ : List Addr) (H : Hp) : Prop :=
  ∀ x μ', E x μ' → ∀ cls dd φ' H', XRep G Z φ' H' cls dd x → CRel G Z φ' H' μ' → Grow φ H φ' H' → W cls dd σ H'
theorem Lk.grow {G : Gd} {Z φ φ1 : List Addr} {H H1 : Hp} {W : WX} {E : XD → Store → Prop} {σ : L2.St} (l : Lk G Z W E σ φ H) (g : Grow φ H φ1 H1) : Lk G Z W E σ φ1 H1 :=
  fun x μ' e cls dd φ' H' xr c g' => l x μ' e cls dd φ' H' xr c (g.trans g')

/-! ### what is known where code runs -/
/-- a def's promise by S -/
def SpOf (G : Gd) (f : List D → Store → (D → Store → Prop) → (XD → Store → Prop) → Prop) (n : Nat) : Sp := fun vs H Q E => vs.length = n ∧
  ∃ Z φ μ ds Qd Ed, Reps G Z φ H vs ds ∧ CRel G Z φ H μ ∧ f ds μ Qd Ed ∧ (∀ d μ', Qd d μ' → Done G Z φ H d μ' Q) ∧
    ∀ x μ', Ed x μ' → ∀ cls dd φ' H', XRep G Z φ' H' cls dd x → CRel G Z φ' H' μ' → Grow φ H φ' H' → E cls dd H'
structure FunOk (G : Gd) (S : Sg) (X : Cx) (d : FunE) : Prop where
  len : ∀ ds μ Q E, S.call d.id ds μ Q E → ds.length = d.n
  ex : ∃ f fd ps ds dvs k, X.mg d.name = some (.ref f) ∧ PySem.W.keepIn X.K (.ref f) = true ∧ Room k X.A ∧ FnOk X.prog X.w X.K X.mg X.base (L2.CX X.prog X.w) k f fd ps (SpOf G (S.call d.id) d.n) ∧
    Vals dvs ds ∧ (∀ Z φ H, Reps G Z φ H dvs (S.dfl d.id)) ∧ ∀ m, m ≤ d.nd → Binds X.K fd ps (ds.drop m)
structure XOk (P : PCtx) (G : Gd) (S : Sg) (Γ : Cxt) (X : Cx) (W : WX) : Prop where
  hK : G.K = X.K
  N : X.N = Γ.N
  nd : X.N.Nodup
  vis : ∀ x ∈ Γ.vis, Vis X.env.scope x
  loc : ∀ x ∈ Γ.loc, Loc X.env.scope x ∧ (X.fn x = true ∨ X.env.scope.names.lookup x = some .local)
  lcl : ∀ x ∈ Γ.lcl, X.env.scope.names.lookup x = some .local
  cap : ∀ x ∈ Γ.cap, X.env.scope.names.lookup x = some .cell ∨ X.env.scope.names.lookup x = some .free
  gl : ∀ x ∈ Γ.gl, Gl X x
  kind : X.env.scope.kind = .function
  calm : X.calm = true
  room : Room 1 X.A
  tk : Takes X W
  pass : PassesOwn (model X.prog X.w) X.A X.env X.xe
  blt : ∀ x ∈ P.blt, X.mg x = none
  con : ∀ (j : Nat) x, P.con[j]? = some x → ∃ u v, X.mg x = some u ∧ RelV v u ∧ ∀ Z φ H, Rep G Z φ H v (S.con j)
  fn : ∀ d ∈ P.funs, FunOk G S X d

theorem kindsOf_mem {sc : Scope} {p : NameKind → Bool} {x : Str} (h : x ∈ kindsOf sc p) : ∃ k, (x, k) ∈ sc.names ∧ p k = true := by
  unfold kindsOf at h
  obtain ⟨y, hy, rfl⟩ := List.mem_map.mp h
  obtain ⟨h1, h2⟩ := List.mem_filter.mp hy
  exact ⟨y.2, h1, h2⟩
theorem uniq_of {sc : Scope} (h : uniqB sc = true) {x : Str} {k : NameKind} (hm : (x, k) ∈ sc.names) : sc.names.lookup x = some k := by
  have := List.all_eq_true.mp h (x, k) hm
  exact of_decide_eq_true this
/-- a name's kind in a comprehension's block -/
theorem lookup_relabel {env : Env} : ∀ {names : List (Str × NameKind)} {x : Str} {k : NameKind}, names.lookup x = some k →
    (names.map fun (n, k) => if (k == NameKind.free && env.scope.kind == .function && env.kindOf n == some .cell) then (n, NameKind.cell) else (n, k)).lookup x = some k ∨
    (k = .free ∧ (names.map fun (n, k) => if (k == NameKind.free && env.scope.kind == .function && env.kindOf n == some .cell) then (n, NameKind.cell) else (n, k)).lookup x = some .cell)
  | [], _, _, h => by simp at h
  | (n, k₀) :: r, x, k, h => by
    have ih := @lookup_relabel env r x k
    cases hx : x == n with
    | true =>
      simp only [List.lookup_cons, hx] at h
      obtain rfl := Option.some.inj h
      simp only [List.map_cons]
      by_cases hc : (k₀ == NameKind.free && env.scope.kind == .function && env.kindOf n == some .cell) = true
      · right
        simp only [Bool.and_eq_true, beq_iff_eq] at hc
        refine ⟨hc.1.1, ?_⟩
        rw [if_pos (by simp [hc.1.1, hc.1.2, hc.2])]
        simp only [List.lookup_cons, hx]
      · left
        rw [if_neg hc]
        simp only [List.lookup_cons, hx]
    | false =>
      simp only [List.lookup_cons, hx] at h
      have ih := ih h
      simp only [List.map_cons]
      by_cases hc : (k₀ == NameKind.free && env.scope.kind == .function && env.kindOf n == some .cell) = true
      · rw [if_pos hc]; simp only [List.lookup_cons, hx]; exact ih
      · rw [if_neg hc]; simp only [List.lookup_cons, hx]; exact ih
section
variable {P : PCtx} {G : Gd} {S : Sg} {Γ : Cxt} {X : Cx} {W : WX}
theorem ownOk_and {scope : Scope} {own : List Nat} (h : ownOk Γ scope own = true) : scope.kind = .function ∧ uniqB scope = true ∧
    (∀ y ∈ scope.names, y.2 = .free → y.1 ∈ Γ.cap) ∧ (∀ y ∈ scope.names, y.2 = .local ∨ y.2 = .cell → (∃ i ∈ own, Γ.N[i]? = some y.1) ∨ y.1 ∉ Γ.N) ∧ ∀ i ∈ own, (Γ.N[i]?).isSome = true := by
  unfold ownOk at h
  simp only [Bool.and_eq_true, List.all_eq_true] at h
  obtain ⟨⟨⟨h1, h2⟩, h3⟩, h4⟩ := h
  refine ⟨?_, h2, fun y hy e => ?_, fun y hy e => ?_, h4⟩
  · split at h1
    · assumption
    · cases h1
  · have q := h3 y hy
    rw [e] at q
    exact List.contains_iff_mem.mp q
  · have q := h3 y hy
    rcases e with e | e <;>
    · rw [e] at q
      simp only [Bool.or_eq_true, List.any_eq_true, decide_eq_true_eq, Bool.not_eq_true', List.contains_eq_mem, decide_eq_false_iff_not] at q
      exact q
/-- .. as the layer's own word -/
theorem ownOk_blk {scope : Scope} {own : List Nat} (h : ownOk Γ scope own = true) (x : XOk P G S Γ X W) :
    ∃ ow : List (Str × Nat), ow.map (·.2) = own ∧ BlkOk X.N X.env.scope scope ow := by
  obtain ⟨h1, h2, h3, h4, h5⟩ := ownOk_and h
  refine ⟨own.map fun i => ((Γ.N[i]?).getD default, i), by simp [Function.comp_def], ⟨h1, fun y hy => ?_, fun p hp => ?_, fun y hy e => ?_, fun y hy e => ?_⟩⟩
  · exact uniq_of h2 hy
  · obtain ⟨i, hi, rfl⟩ := List.mem_map.mp hp
    rw [x.N]
    obtain ⟨n, hn⟩ := Option.isSome_iff_exists.mp (h5 i hi)
    simp [hn]
  · exact x.cap _ (h3 y hy e)
  · rcases h4 y hy e with ⟨i, hi, hn⟩ | hn
    · left
      exact List.mem_map.mpr ⟨(y.1, i), List.mem_map.mpr ⟨i, hi, by rw [hn]; rfl⟩, rfl⟩
    · right
      rw [x.N]; exact hn
theorem XOk.blk {scope : Scope} {own : List Nat} (x : XOk P G S Γ X W) (h : ownOk Γ scope own = true) (s : Shared) (H : Hp) (C : Addr) (cl : List (Str × Addr)) (fp : List Addr) :
    XOk P G S (cxtOf Γ.N scope) (X.blk s H scope (compEnvC scope cl C X.env) fp) (fun _ _ _ _ => False) := by
  obtain ⟨h1, h2, h3, h4, h5⟩ := ownOk_and h
  have lk : ∀ {n : Str} {k : NameKind}, (n, k) ∈ scope.names → (relabel scope X.env).names.lookup n = some k ∨ (k = .free ∧ (relabel scope X.env).names.lookup n = some .cell) := fun {n k} hm =>
    lookup_relabel (uniq_of h2 hm)
  refine ⟨x.hK, x.N, x.nd, fun n hn => ?_, fun n hn => ?_, fun n hn => ?_, fun n hn => ?_, fun n hn => ?_, h1, x.calm, x.room, takes0, PassesOwn.never, x.blt, x.con, fun d hd => ⟨(x.fn d hd).len, (x.fn d hd).ex⟩⟩
  · obtain ⟨k, hm, hk⟩ := kindsOf_mem hn
    show Vis (relabel scope X.env) n
    rcases lk hm with e | ⟨_, e⟩
    · cases k with
      | «local» => exact .inl e
      | cell => exact .inr (.inl e)
      | free => exact .inr (.inr e)
      | globalExplicit => cases hk
      | globalImplicit => cases hk
    · exact .inr (.inl e)
  · obtain ⟨k, hm, hk⟩ := kindsOf_mem hn
    show Loc (relabel scope X.env) n ∧ ((scope.names.lookup n == some NameKind.cell) = true ∨ (relabel scope X.env).names.lookup n = some .local)
    rcases lk hm with e | ⟨z, _⟩
    · cases k with
      | «local» => exact ⟨.inl e, .inr e⟩
      | cell => exact ⟨.inr e, .inl (by rw [uniq_of h2 hm]; rfl)⟩
      | free => cases hk
      | globalExplicit => cases hk
      | globalImplicit => cases hk
    · subst z; cases hk
  · obtain ⟨k, hm, hk⟩ := kindsOf_mem hn
    show (relabel scope X.env).names.lookup n = some .local
    rcases lk hm with e | ⟨z, _⟩
    · cases k <;> first | exact e | cases hk
    · subst z; cases hk
  · obtain ⟨k, hm, hk⟩ := kindsOf_mem hn
    show (relabel scope X.env).names.lookup n = some .cell ∨ (relabel scope X.env).names.lookup n = some .free
    rcases lk hm with e | ⟨_, e⟩
    · cases k with
      | cell => exact .inl e
      | free => exact .inr e
      | «local» => cases hk
      | globalExplicit => cases hk
      | globalImplicit => cases hk
    · exact .inl e
  · obtain ⟨k, hm, hk⟩ := kindsOf_mem hn
    show (relabel scope X.env).names.lookup n = some .globalImplicit
    rcases lk hm with e | ⟨z, _⟩
    · cases k <;> first | exact e | cases hk
    · subst z; cases hk
end
end PY

set_option Elab.async false
set_option linter.all false
set_option maxRecDepth 100000
set_option maxHeartbeats 4000000
/-! PY, part f: readings of the layer from the meaning over D; expressions. -/
namespace PY
open PySem PySem.Spec PyProof.Rows L2

/-! ### readings -/
/-- where an expression begins -/
structure At (G : Gd) (Z : List Addr) (W : WX) (E : XD → Store → Prop) (σ : L2.St) (φ : List Addr) (H : Hp) (ρ : Sl) (μ : Store) : Prop where
  er : ERel G Z φ H σ ρ
  cr : CRel G Z φ H μ
  lk : Lk G Z W E σ φ H
theorem At.step {G : Gd} {Z φ φ1 : List Addr} {W : WX} {E : XD → Store → Prop} {σ : L2.St} {H H1 : Hp} {ρ : Sl} {μ μ1 : Store} (a : At G Z W E σ φ H ρ μ) (c : CRel G Z φ1 H1 μ1) (g : Grow φ H φ1 H1) : At G Z W E σ φ1 H1 ρ μ1 :=
  ⟨a.er.grow g, c, a.lk.grow g⟩
def RE (G : Gd) (W : WX) (wp : (XD → Store → Prop) → Sl → Store → (D → Store → Prop) → Prop) : TE := fun σ H Q => ∃ Z φ ρ μ E Qd, At G Z W E σ φ H ρ μ ∧ wp E ρ μ Qd ∧ ∀ d μ', Qd d μ' → Done G Z φ H d μ' Q
def RT (G : Gd) (W : WX) (wp : (XD → Store → Prop) → Sl → Store → (Bool → Store → Prop) → Prop) : TT := fun σ H Q => ∃ Z φ ρ μ E Qd, At G Z W E σ φ H ρ μ ∧ wp E ρ μ Qd ∧ ∀ b μ', Qd b μ' → ∀ φ' H', CRel G Z φ' H' μ' → Grow φ H φ' H' → Q b H'
def RA (G : Gd) (W : WX) (wp : (XD → Store → Prop) → Sl → Store → (List D → Store → Prop) → Prop) : TA := fun σ H Q => ∃ Z φ ρ μ E Qd, At G Z W E σ φ H ρ μ ∧ wp E ρ μ Qd ∧ ∀ ds μ', Qd ds μ' → ∀ vs φ' H', Reps G Z φ' H' vs ds → CRel G Z φ' H' μ' → Grow φ H φ' H' → Q vs H'
section
variable {X : Cx}
theorem pe_imp {e : Expr} {t t' : TE} (h : PE X e t) (i : ∀ σ H Q, t' σ H Q → t σ H Q) : PE X e t' := ⟨fun pins s σ H Q I q => h.run pins s σ H Q I (i σ H Q q)⟩
theorem pt_imp {e : Expr} {t t' : TT} (h : PT X e t) (i : ∀ σ H Q, t' σ H Q → t σ H Q) : PT X e t' := ⟨fun pins s σ H Q I q => h.run pins s σ H Q I (i σ H Q q)⟩
theorem pw_imp {e : Expr} {t t' : TT} (h : PW X e t) (i : ∀ σ H Q, t' σ H Q → t σ H Q) : PW X e t' := ⟨fun w pins s σ H Q I q => h.run w pins s σ H Q I (i σ H Q q)⟩
theorem pa_imp {es : List Expr} {t t' : TA} (h : PA X es t) (i : ∀ σ H Q, t' σ H Q → t σ H Q) : PA X es t' := ⟨fun pos pins s σ H Q I q => h.run pos pins s σ H Q I (i σ H Q q)⟩
end

/-! ### small facts of the syntax -/
def noStar : Expr → Bool
  | .Starred .. => false
  | _ => true
theorem star_cons {e : Expr} {es : List Expr} {env : Env} (h : noStar e = true) : starEach (e :: es) env = (false, eval e env) :: starEach es env := by
  cases e <;> first | rfl | simp [noStar] at h
theorem star_plain {env : Env} {pos : Pos} : ∀ {es : List Expr}, es.all noStar = true → (backTo pos (starEach es env)).any (·.1) = false
  | [], _ => rfl
  | e :: es, h => by
    simp only [List.all_cons, Bool.and_eq_true] at h
    rw [star_cons h.1]
    have ih := star_plain (env := env) (pos := pos) h.2
    unfold backTo at ih ⊢
    rw [List.map_cons, List.any_cons, ih]
    rfl
theorem base_of {o : Expr} {m : Str} {env : Env} {w : Sem Value} (h : noSuper o = true) : attributeBase o m env w = w := by
  unfold attributeBase
  cases o with
  | Call f as ks p =>
    cases f with
    | Name x q =>
      cases as with
      | nil =>
        cases ks with
        | nil => simp [noSuper] at h
        | cons _ _ => rfl
      | cons _ _ => rfl
    | _ => rfl
  | _ => rfl
theorem plainIx_of {b : Expr} (h : (match b with | .Slice .. => false | _ => true) = true) : PlainIx b := by
  intro o i
  cases b <;> first | rfl | simp at h
def noSlice : Expr → Bool
  | .Slice .. => false
  | _ => true
theorem mark_of {op : CmpOp} {b : Expr} (h : noSet b = true) : behindInMarks op b = false := by
  cases b <;> first | rfl | simp [noSet] at h
theorem fold_of {b : Expr} {env : Env} (h : noSet b = true) (x : Value) : foldedSetIterable b env x = pure x := by
  cases b <;> first | rfl | simp [noSet] at h
/-- a test that is its value's truth -/
def plainT : Expr → Bool
  | .UnaryOp .Not _ _ | .BoolOp .. | .IfExp .. | .Compare .. => false
  | _ => true
theorem plainT_of {e : Expr} {env : Env} (h : plainT e = true) (w : Sem Value) : isTrue e env w = (do let v ← w; standAt e.pos; holding [v] (truthy v)) := by
  cases e with
  | UnaryOp op x p => cases op <;> first | rfl | simp [plainT] at h
  | BoolOp _ _ _ => simp [plainT] at h
  | IfExp _ _ _ _ => simp [plainT] at h
  | Compare _ _ _ _ => simp [plainT] at h
  | _ => rfl
theorem noSpec_and {x : Str} (h : noSpec x = true) : (x == ("__debug__" : Str)) = false ∧ (x == ("__classdict__" : Str)) = false := by
  unfold noSpec at h
  simp only [Bool.and_eq_true, bne, Bool.not_eq_true'] at h
  exact h

section
variable {P : PCtx} {G : Gd} {S : Sg} {Γ : Cxt} {X : Cx} {W : WX}
theorem XOk.hu (x : XOk P G S Γ X W) : X.A.units + 200 < cLine := by have := x.room.un; omega
/-- a name of a built-in -/
theorem XOk.bi (x : XOk P G S Γ X W) {n : Str} (h : isB P Γ n = true) : X.mg n = none ∧ Gl X n := by
  unfold isB at h
  simp only [Bool.and_eq_true, List.contains_iff_mem] at h
  exact ⟨x.blt n h.1, x.gl n h.2⟩
/-- truth, by D -/
theorem tru_of (hK : G.K = X.K) {Z φ : List Addr} {H : Hp} {μ : Store} {x : V} {d : D} {b : Bool} (c : CRel G Z φ H μ) (r : Rep G Z φ H x d) (e : truthD μ d = some b) : TruV X.K x H b := by
  cases d with
  | non => cases e; cases r; rfl
  | bl k => cases e; cases r; rfl
  | int i => cases e; cases r; rfl
  | str s =>
    simp only [truthD, Option.ite_none_right_eq_some, Option.some.injEq] at e
    obtain ⟨h, rfl⟩ := e
    cases r
    refine ⟨by rw [ofString_length, ← sz_eq]; exact h, ?_⟩
    rw [ofString_length]
    cases s.toList with
    | nil => rfl
    | cons _ _ =>
      symm
      simp only [List.length_cons, bne_iff_ne, ne_eq, List.isEmpty_cons, Bool.not_false]
      omega
  | tup xs =>
    cases e
    obtain ⟨a, vs, rfl, h1, r1⟩ := r.of_tup
    rw [hK] at h1
    exact .inr (.inl ⟨vs, h1, by cases r1 <;> rfl⟩)
  | lst xs =>
    cases e
    obtain ⟨a, vs, rfl, h1, r1⟩ := r.of_lst
    exact .inl ⟨vs, .inl h1, by cases r1 <;> rfl⟩
  | ref i =>
    obtain ⟨a, rfl, ha⟩ := r.of_ref
    cases z : μ[i]? with
    | none => simp [truthD, z] at e
    | some k =>
      cases k with
      | lst xs =>
        simp only [truthD, z, Option.some.injEq] at e
        subst e
        obtain ⟨vs, h1, r1⟩ := c.lst ha z
        exact .inl ⟨vs, .inl (.inl h1), by cases r1 <;> rfl⟩
      | dct t kvs =>
        cases t with
        | true => simp [truthD, z] at e
        | false =>
          simp only [truthD, z, Option.some.injEq] at e
          subst e
          obtain ⟨ws, h1, r1⟩ := c.dk ha z
          exact .inr (.inr ⟨ws, h1, by cases r1 <;> rfl⟩)
      | ins _ _ => simp [truthD, z] at e
  | ins _ _ => simp [truthD] at e
  | scr _ => simp [truthD] at e

/-- the parts of an application -/
def PEs (G : Gd) (S : Sg) (X : Cx) (W : WX) : Exs → List Expr → Prop
  | .nil, [] => True
  | .cons e es, x :: xs => PE X x (RE G W fun E => wpE S E e) ∧ PEs G S X W es xs
  | _, _ => False
theorem PEs.pa (x : XOk P G S Γ X W) : ∀ {es : Exs} {xs : List Expr}, PEs G S X W es xs → xs.all noStar = true → PA X xs (RA G W fun E => wpEs S E es)
  | .nil, [], _, _ => pa_imp pa_nil fun σ H Q ⟨Z, φ, ρ, μ, E, Qd, a, w, k⟩ => k [] μ w [] φ H .nil a.cr (Grow.refl _ _)
  | .cons e es, y :: ys, h, hs => by
    simp only [List.all_cons, Bool.and_eq_true] at hs
    refine pa_imp (pa_cons h.1 (PEs.pa x h.2 hs.2) (star_cons hs.1)) fun σ H Q ⟨Z, φ, ρ, μ, E, Qd, a, w, k⟩ => ?_
    refine ⟨Z, φ, ρ, μ, E, _, a, w, fun d μ1 w1 v φ1 H1 r1 c1 g1 => ?_⟩
    exact ⟨Z, φ1, ρ, μ1, E, _, a.step c1 g1, w1, fun ds μ2 w2 vs φ2 H2 r2 c2 g2 => k _ _ w2 _ φ2 H2 (.cons (r1.grow g2) r2) c2 (g1.trans g2)⟩
  | .nil, _ :: _, h, _ => h.elim
  | .cons _ _, [], h, _ => h.elim
theorem PEs.one {es : Exs} {a : Expr} (h : PEs G S X W es [a]) : ∃ p, es = .cons p .nil ∧ PE X a (RE G W fun E => wpE S E p) := by
  cases es with
  | nil => exact h.elim
  | cons p r =>
    cases r with
    | nil => exact ⟨p, rfl, h.1⟩
    | cons _ _ => exact h.2.elim
theorem PEs.two {es : Exs} {a b : Expr} (h : PEs G S X W es [a, b]) : ∃ p q, es = .cons p (.cons q .nil) ∧ PE X a (RE G W fun E => wpE S E p) ∧ PE X b (RE G W fun E => wpE S E q) := by
  cases es with
  | nil => exact h.elim
  | cons p r =>
    obtain ⟨q, rfl, h2⟩ := PEs.one h.2
    exact ⟨p, q, rfl, h.1, h2⟩
theorem PEs.three {es : Exs} {a b c : Expr} (h : PEs G S X W es [a, b, c]) : ∃ p q r, es = .cons p (.cons q (.cons r .nil)) ∧ PE X a (RE G W fun E => wpE S E p) ∧ PE X b (RE G W fun E => wpE S E q) ∧ PE X c (RE G W fun E => wpE S E r) := by
  cases es with
  | nil => exact h.elim
  | cons p r =>
    obtain ⟨q, r, rfl, h2, h3⟩ := PEs.two h.2
    exact ⟨p, q, r, rfl, h.1, h2, h3⟩
/-- two operands, an operator by values -/
theorem pe_2 {f : Prim} {g : Store → D → D → Option D} (hf : ∀ μ x y, primD f [x, y] μ = (g μ x y).map (·, μ)) {a b : Expr} {pa pb : Ex} {e : Expr} (ha : PE X a (RE G W fun E => wpE S E pa)) (hb : PE X b (RE G W fun E => wpE S E pb))
    (hp : ∀ ta tb, PE X a ta → PE X b tb → PE X e (tOp (R2D G g) ta tb)) : PE X e (RE G W fun E => wpE S E (.prim f (.cons pa (.cons pb .nil)))) := by
  refine pe_imp (hp _ _ ha hb) fun σ H Q ⟨Z, φ, ρ, μ, E, Qd, at_, w, k⟩ => ?_
  simp only [wpE, wpEs] at w
  refine ⟨Z, φ, ρ, μ, E, _, at_, w, fun d1 μ1 w1 v φ1 H1 r1 c1 g1 => ?_⟩
  refine ⟨Z, φ1, ρ, μ1, E, _, at_.step c1 g1, w1, fun d2 μ2 w2 u φ2 H2 r2 c2 g2 => ?_⟩
  obtain ⟨z, e, q⟩ := opt_iff.mp w2
  rw [hf] at e
  obtain ⟨d, e2, rfl⟩ := Option.map_eq_some_iff.mp e
  exact ⟨Z, φ2, μ2, d1, d2, d, c2, r1.grow g2, r2, e2, fun v' φ' H' r c g => k d μ2 q v' φ' H' r c (g1.trans (g2.trans g))⟩
/-- .. as a test -/
theorem pt_2 {f : Prim} {g : Store → D → D → Option Bool} (hf : ∀ μ x y, primD f [x, y] μ = (g μ x y).map fun b => (.bl b, μ)) {a b : Expr} {pa pb : Ex} {e : Expr} (ha : PE X a (RE G W fun E => wpE S E pa)) (hb : PE X b (RE G W fun E => wpE S E pb))
    (hp : ∀ ta tb, PE X a ta → PE X b tb → PT X e (tTest (tOp (R2D G fun μ x y => (g μ x y).map .bl) ta tb))) : PT X e (RT G W fun E => wpT S E (.prim f (.cons pa (.cons pb .nil)))) := by
  refine pt_imp (hp _ _ ha hb) fun σ H Q ⟨Z, φ, ρ, μ, E, Qd, at_, w, k⟩ => ?_
  simp only [wpT, wpEs] at w
  refine ⟨Z, φ, ρ, μ, E, _, at_, w, fun d1 μ1 w1 v φ1 H1 r1 c1 g1 => ?_⟩
  refine ⟨Z, φ1, ρ, μ1, E, _, at_.step c1 g1, w1, fun d2 μ2 w2 u φ2 H2 r2 c2 g2 => ?_⟩
  obtain ⟨z, e, q⟩ := opt_iff.mp w2
  rw [hf] at e
  obtain ⟨t, e2, rfl⟩ := Option.map_eq_some_iff.mp e
  simp only [truthD, opt_some] at q
  refine ⟨Z, φ2, μ2, d1, d2, .bl t, c2, r1.grow g2, r2, by show Option.map D.bl (g μ2 d1 d2) = _; rw [e2]; rfl, fun v' φ' H' r c g => ?_⟩
  exact ⟨t, r.of_bl, k t μ2 q φ' H' c (g1.trans (g2.trans g))⟩
/-- one operand -/
theorem pe_1 {f : Prim} {g : Store → D → Option (D × Store)} (hf : ∀ μ x, primD f [x] μ = g μ x) {a : Expr} {pa : Ex} {e : Expr} (ha : PE X a (RE G W fun E => wpE S E pa))
    (hp : ∀ ta, PE X a ta → PE X e (tUn (R1D G g) ta)) : PE X e (RE G W fun E => wpE S E (.prim f (.cons pa .nil))) := by
  refine pe_imp (hp _ ha) fun σ H Q ⟨Z, φ, ρ, μ, E, Qd, at_, w, k⟩ => ?_
  simp only [wpE, wpEs] at w
  refine ⟨Z, φ, ρ, μ, E, _, at_, w, fun d1 μ1 w1 v φ1 H1 r1 c1 g1 => ?_⟩
  obtain ⟨z, e, q⟩ := opt_iff.mp w1
  rw [hf] at e
  obtain ⟨d, μ'⟩ := z
  exact ⟨Z, φ1, μ1, d1, d, μ', c1, r1, e, fun v' φ' H' r c g => k d μ' q v' φ' H' r c (g1.trans g)⟩
/-- an application by the arguments' values -/
theorem pe_n {f : Prim} {es : Exs} {xs : List Expr} {e : Expr} (x : XOk P G S Γ X W) (h : PEs G S X W es xs) (hs : xs.all noStar = true)
    (hp : ∀ t, PA X xs t → PE X e (tCB (RND G fun μ ds => primD f ds μ) t)) : PE X e (RE G W fun E => wpE S E (.prim f es)) := by
  refine pe_imp (hp _ (h.pa x hs)) fun σ H Q ⟨Z, φ, ρ, μ, E, Qd, at_, w, k⟩ => ?_
  simp only [wpE] at w
  refine ⟨Z, φ, ρ, μ, E, _, at_, w, fun ds μ1 w1 vs φ1 H1 r1 c1 g1 => ?_⟩
  obtain ⟨⟨d, μ'⟩, e, q⟩ := opt_iff.mp w1
  exact ⟨Z, φ1, μ1, ds, d, μ', c1, r1, e, fun v' φ' H' r c g => k d μ' q v' φ' H' r c (g1.trans g)⟩
end
end PY

set_option Elab.async false
set_option linter.all false
set_option maxRecDepth 100000
set_option maxHeartbeats 4000000
/-! PY, part g: applications of built-ins. -/
namespace PY
open PySem PySem.Spec PyProof.Rows L2
section
variable {G : Gd} {Z φ : List Addr} {H : Hp}
theorem Mk.drop {p : Addr} : Mk p (p :: Z) φ H Z φ H := ⟨fun _ _ _ e => e, fun _ _ h => h, fun a _ h q => h (List.mem_cons_of_mem _ q), fun _ _ h => h⟩
theorem CRel.drop {μ : Store} {p : Addr} (r : CRel G (p :: Z) φ H μ) : CRel G Z φ H μ := by
  refine ⟨r.len, r.nd, fun a ha q => r.nz a ha (List.mem_cons_of_mem _ q), fun b hb => r.zt b (List.mem_cons_of_mem _ hb), fun i c e => ?_⟩
  obtain ⟨b, hb, q⟩ := r.cell i c e
  exact ⟨b, hb, q.made List.mem_cons_self Mk.drop fun z => r.nz b (List.mem_of_getElem? hb) (by rw [z]; exact List.mem_cons_self)⟩
theorem XRep.drop {p : Addr} {cls : Value} {dd : Option Addr} {x : XD} (r : XRep G (p :: Z) φ H cls dd x) : XRep G Z φ H cls dd x := by
  obtain ⟨h, d, vs, h1, h2, h3, h4⟩ := r
  exact ⟨h, d, vs, h1, h2, h3, h4.made List.mem_cons_self Mk.drop⟩
theorem Lk.making {W : WX} {E : XD → Store → Prop} {σ : L2.St} {p : Addr} {o : HO} (l : Lk G Z W E σ φ H) (h : H p = none) : Lk G (p :: Z) W E σ φ (L2.upd H p o) :=
  fun x μ' e cls dd φ' H' xr c g => l x μ' e cls dd φ' H' xr.drop c.drop ((Grow.upd h).trans g)
theorem At.making {W : WX} {E : XD → Store → Prop} {σ : L2.St} {ρ : Sl} {μ : Store} {p : Addr} {o : HO} (a : At G Z W E σ φ H ρ μ) (h : H p = none) : At G (p :: Z) W E σ φ (L2.upd H p o) ρ μ :=
  ⟨a.er.lift (.cons h) (Grow.upd h), a.cr.making h, a.lk.making h⟩
end

section
variable {P : PCtx} {G : Gd} {S : Sg} {Γ : Cxt} {X : Cx} {W : WX}
theorem sn_tup (x : XOk P G S Γ X W) {es : Exs} {xs : List Expr} {k : Nat} {p : Pos} (h : PEs G S X W es xs) (hs : xs.all noStar = true) : PE X (.Tuple xs k p) (RE G W fun E => wpE S E (.prim .tup es)) := by
  refine pe_imp (pe_tup (h.pa x hs)) fun σ H Q ⟨Z, φ, ρ, μ, E, Qd, at_, w, kk⟩ => ?_
  simp only [wpE] at w
  refine ⟨Z, φ, ρ, μ, E, _, at_, w, fun ds μ1 w1 vs φ1 H1 r1 c1 g1 => ?_⟩
  obtain ⟨⟨d, μ'⟩, e, q⟩ := opt_iff.mp w1
  simp only [primD, Option.ite_none_right_eq_some, Option.some.injEq, Prod.mk.injEq] at e
  obtain ⟨hz, rfl, rfl⟩ := e
  exact ⟨by rw [r1.length, ← sz_eq]; exact hz, fun p hp => Done.tup c1 hp r1 fun v' φ' H' r c g => kk _ _ q v' φ' H' r c (g1.trans g)⟩
theorem sn_lst (x : XOk P G S Γ X W) {m : Bool} {es : Exs} {xs : List Expr} {p : Pos} (h : PEs G S X W es xs) (hs : xs.all noStar = true) : PE X (.List xs p) (RE G W fun E => wpE S E (.prim (.lst m) es)) := by
  refine pe_imp (pe_lst (h.pa x hs)) fun σ H Q ⟨Z, φ, ρ, μ, E, Qd, at_, w, kk⟩ => ?_
  simp only [wpE] at w
  refine ⟨Z, φ, ρ, μ, E, _, at_, w, fun ds μ1 w1 vs φ1 H1 r1 c1 g1 => ?_⟩
  obtain ⟨⟨d, μ'⟩, e, q⟩ := opt_iff.mp w1
  simp only [primD, Option.ite_none_right_eq_some, Option.some.injEq] at e
  obtain ⟨hz, e⟩ := e
  have hd : d = (newL m ds μ1).1 ∧ μ' = (newL m ds μ1).2 := by rw [e]; exact ⟨rfl, rfl⟩
  obtain ⟨rfl, rfl⟩ := hd
  exact ⟨by rw [r1.length, ← sz_eq]; exact hz, fun p hp => Done.newL (m := m) c1 hp r1 fun v' φ' H' r c g => kk _ _ q v' φ' H' r c (g1.trans g)⟩
/-- the pairs of a display -/
theorem PEs.pairs (x : XOk P G S Γ X W) {pos : Pos} : ∀ {ks : List (Option Expr)} {vs : List Expr} {es : Exs} {xs : List Expr}, inter ks vs = some xs → PEs G S X W es xs →
    ∃ trs, PPs X pos ks vs trs ∧ ks.all (·.isSome) = true ∧ ks.length = vs.length ∧ (∀ {Z φ : List Addr} {σ : L2.St} {H : Hp} {ρ : Sl} {μ : Store} {E : XD → Store → Prop} {Qd : List D → Store → Prop} {Q : List (V × V) → Hp → Prop}, At G Z W E σ φ H ρ μ → wpEs S E es ρ μ Qd →
      (∀ ds μ', Qd ds μ' → ∀ ps φ' H', (∃ kvs : List (D × D), pairsOf ds = some kvs ∧ kvs.length = ks.length ∧ (∀ (n : Nat) (p : V × V) , ps[n]? = some p → ∃ q : D × D, kvs[n]? = some q ∧ Rep G Z φ' H' p.1 q.1 ∧ Rep G Z φ' H' p.2 q.2) ∧ ps.length = kvs.length) → CRel G Z φ' H' μ' → Grow φ H φ' H' → Q ps H') → tPairs trs σ H Q)
  | [], [], es, xs, h, hp => by
    simp only [inter, Option.some.injEq] at h
    subst h
    cases es with
    | cons _ _ => exact hp.elim
    | nil => exact ⟨[], pps_nil, rfl, rfl, fun a w k => k [] _ w [] _ _ ⟨[], rfl, rfl, by simp, rfl⟩ a.cr (Grow.refl _ _)⟩
  | some k :: ks, v :: vs, es, xs, h, hp => by
    simp only [inter] at h
    obtain ⟨r, h2, rfl⟩ := Option.map_eq_some_iff.mp h
    cases es with
    | nil => exact hp.elim
    | cons e1 es =>
      cases es with
      | nil => exact hp.2.elim
      | cons e2 es =>
        obtain ⟨hk, hv, hr⟩ := hp
        obtain ⟨trs, h3, h4, h5, h6⟩ := PEs.pairs x (pos := pos) h2 hr
        refine ⟨_, pps_cons hk hv h3, by simp [h4], by simp [h5], fun {Z φ σ H ρ μ E Qd Q} a w kk => ?_⟩
        simp only [wpEs] at w
        refine ⟨Z, φ, ρ, μ, E, _, a, w, fun d1 μ1 w1 u φ1 H1 r1 c1 g1 => ?_⟩
        have a1 := a.step c1 g1
        refine ⟨Z, φ1, ρ, μ1, E, _, a1, w1, fun d2 μ2 w2 u2 φ2 H2 r2 c2 g2 => ?_⟩
        refine h6 (a1.step c2 g2) w2 fun ds μ3 w3 ps φ3 H3 hps c3 g3 => ?_
        obtain ⟨kvs, q1, q2, q3, q4⟩ := hps
        refine kk _ μ3 w3 ((u, u2) :: ps) φ3 H3 ⟨(d1, d2) :: kvs, by simp [pairsOf, q1], by simp [q2], fun n p hn => ?_, by simp [q4]⟩ c3 (g1.trans (g2.trans g3))
        cases n with
        | zero =>
          simp only [List.getElem?_cons_zero, Option.some.injEq] at hn
          subst hn
          exact ⟨(d1, d2), rfl, r1.grow (g2.trans g3), r2.grow g3⟩
        | succ n =>
          simp only [List.getElem?_cons_succ] at hn ⊢
          exact q3 n p hn
  | [], _ :: _, _, _, h, _ => by simp [inter] at h
  | none :: _, _, _, _, h, _ => by simp [inter] at h
  | some _ :: _, [], _, _, h, _ => by simp [inter] at h
/-- pairs whose keys are ints and texts -/
theorem kv_of {Z φ : List Addr} {H : Hp} : ∀ {ps : List (V × V)} {kvs : List (D × D)}, ps.length = kvs.length → (∀ (n : Nat) (p : V × V), ps[n]? = some p → ∃ q : D × D, kvs[n]? = some q ∧ Rep G Z φ H p.1 q.1 ∧ Rep G Z φ H p.2 q.2) → kvs.all (fun p => flatKey p.1) = true →
    ∃ ws : List (Key × V), ps = ws.map (fun kv => (kV kv.1, kv.2)) ∧ KVRep G Z φ H ws kvs
  | [], [], _, _, _ => ⟨[], rfl, .nil⟩
  | p :: ps, q :: kvs, hl, h, hk => by
    simp only [List.all_cons, Bool.and_eq_true] at hk
    obtain ⟨q', e, r1, r2⟩ := h 0 p rfl
    simp only [List.getElem?_cons_zero, Option.some.injEq] at e
    subst e
    obtain ⟨k, kr, ek⟩ := KeyRep.of_flat hk.1 r1
    obtain ⟨ws, e2, r3⟩ := kv_of (ps := ps) (kvs := kvs) (by simpa using hl) (fun n p' hn => h (n + 1) p' (by simpa using hn)) hk.2
    obtain ⟨p1, p2⟩ := p
    simp only at ek r2
    subst ek
    exact ⟨(k, p2) :: ws, by rw [List.map_cons, ← e2], .cons kr r2 r3⟩
  | [], _ :: _, h, _, _ => by simp at h
  | _ :: _, [], h, _, _ => by simp at h
theorem merge_rep {Z φ : List Addr} {H : Hp} : ∀ {ws acc : List (Key × V)} {kvs dacc : List (D × D)}, KVRep G Z φ H ws kvs → KVRep G Z φ H acc dacc → KVRep G Z φ H (mergeK acc ws) (putAll dacc kvs)
  | _, _, _, _, .nil, a => a
  | _, _, _, _, .cons k r s, a => by
    show KVRep G Z φ H (mergeK (putK _ _ _) _) (putAll (PY.put _ _ _) _)
    exact merge_rep s (a.put k r)
theorem sn_dct (x : XOk P G S Γ X W) {t : Bool} {ks : List (Option Expr)} {vs : List Expr} {es : Exs} {xs : List Expr} {p : Pos} (hc : (if ks.isEmpty then vs.isEmpty else !t && decide (ks.length ≤ 15)) = true) (hi : inter ks vs = some xs) (h : PEs G S X W es xs) :
    PE X (.Dict ks vs p) (RE G W fun E => wpE S E (.prim (.dct t) es)) := by
  cases ks with
  | nil =>
    have hv : vs = [] := by simpa using hc
    subst hv
    simp only [inter, Option.some.injEq] at hi
    subst hi
    cases es with
    | cons _ _ => exact h.elim
    | nil =>
      cases t with
      | false =>
        refine pe_imp pe_dnewK fun σ H Q ⟨Z, φ, ρ, μ, E, Qd, at_, w, kk⟩ => ?_
        simp only [wpE, wpEs, primD, opt_some] at w
        intro p hp
        refine kk _ _ w _ _ _ (.ref ?_) (at_.cr.push hp (.dK upd_same .nil)) (Grow.cell hp)
        rw [← at_.cr.len, List.getElem?_append_right (Nat.le_refl _), Nat.sub_self]
        rfl
      | true =>
        refine pe_imp pe_dnewT fun σ H Q ⟨Z, φ, ρ, μ, E, Qd, at_, w, kk⟩ => ?_
        simp only [wpE, wpEs, primD, opt_some] at w
        intro p hp
        refine kk _ _ w _ _ _ (.ref ?_) (at_.cr.push hp (.dT upd_same .nil)) (Grow.cell hp)
        rw [← at_.cr.len, List.getElem?_append_right (Nat.le_refl _), Nat.sub_self]
        rfl
  | cons k0 ks' =>
    simp only [List.isEmpty_cons, Bool.false_eq_true, if_false, Bool.and_eq_true, Bool.not_eq_true', decide_eq_true_eq] at hc
    obtain ⟨rfl, h15⟩ := hc
    obtain ⟨trs, h1, h2, h3, h4⟩ := PEs.pairs x (pos := p) hi h
    refine pe_imp (pe_disp h1 h2 h3 (by simp) h15) fun σ H Q ⟨Z, φ, ρ, μ, E, Qd, at_, w, kk⟩ => ?_
    simp only [wpE] at w
    intro p hp
    refine h4 (at_.making hp) w fun ds μ2 w2 ps φ2 H2 hps c2 g2 => ?_
    obtain ⟨kvs, q1, q2, q3, q4⟩ := hps
    have nz : p ∉ Z := (at_.cr.fresh hp).2
    have hH2 : H2 p = some (.dK []) := g2.keep p _ upd_same (at_.cr.fresh hp).1
    refine ⟨hH2, ?_⟩
    obtain ⟨⟨d, μ'⟩, e, q⟩ := opt_iff.mp w2
    have hl : kvs.length = ks'.length + 1 := by simpa using q2
    cases ds with
    | nil =>
      simp only [pairsOf, Option.some.injEq] at q1
      subst q1
      simp at hl
    | cons d1 ds =>
      cases ds with
      | nil => simp [pairsOf] at q1
      | cons d2 ds =>
        simp only [primD, q1, Option.bind_some, Option.ite_none_right_eq_some, Option.some.injEq, Prod.mk.injEq] at e
        obtain ⟨⟨e1, e2⟩, rfl, rfl⟩ := e
        obtain ⟨ws, rfl, r⟩ := kv_of q4 q3 e2
        refine ⟨ws, rfl, by rw [r.length]; exact e1, ?_⟩
        have rr : KVRep G Z (φ2 ++ [p]) (upd H2 p (.dK (mergeK [] ws))) (mergeK [] ws) (putAll [] kvs) := (merge_rep r .nil).made List.mem_cons_self Mk.cell
        refine kk _ _ q _ (φ2 ++ [p]) _ (.ref ?_) (c2.mkCell nz (.dK upd_same rr)) ?_
        · rw [← c2.len, List.getElem?_append_right (Nat.le_refl _), Nat.sub_self]
          rfl
        · refine ⟨fun a o e n => ?_, fun a ha => ?_, fun i a e => ?_⟩
          · have hne := ne_of_none e hp
            rw [upd_ne hne]
            exact g2.keep a o (by rw [upd_ne hne]; exact e) n
          · rcases List.mem_append.mp ha with z | z
            · by_cases q : a = p
              · rw [q]; exact .inr hp
              · rcases g2.new a z with z | z
                · exact .inl z
                · rw [upd_ne q] at z; exact .inr z
            · rw [List.mem_singleton.mp z]; exact .inr hp
          · have := g2.pre i a e
            rw [List.getElem?_append_left (List.getElem?_eq_some_iff.mp this).1]; exact this
end
end PY

set_option Elab.async false
set_option linter.all false
set_option maxRecDepth 100000
set_option maxHeartbeats 4000000
/-! PY, part h: all applications of built-ins. -/
namespace PY
open PySem PySem.Spec PyProof.Rows L2
section
variable {P : PCtx} {G : Gd} {S : Sg} {Γ : Cxt} {X : Cx} {W : WX}
theorem un_negD : UnR X (unaryOp .USub) (R1D G fun μ x => primD .neg [x] μ) := by
  intro pins s σ H x v Q I rx h
  obtain ⟨Z, φ, μ, dx, d, μ', c, r, e, q⟩ := h
  cases dx with
  | int i =>
    simp only [primD, Option.some.injEq, Prod.mk.injEq] at e
    obtain ⟨rfl, rfl⟩ := e
    obtain rfl := r.of_int
    exact un_neg pins s σ H _ v Q I rx ⟨i, rfl, q.now c (.int _)⟩
  | _ => simp [primD] at e
theorem isN_rep {Z φ : List Addr} {H : Hp} {x : V} {d : D} (r : Rep G Z φ H x d) : decide (x = .non) = isNonD d := by
  cases r <;> rfl
theorem sn_isN {a : Expr} {pa : Ex} {j : Nat} {p p' : Pos} (ha : PE X a (RE G W fun E => wpE S E pa)) : PE X (.Compare a [.Is] [.Constant .none j p'] p) (RE G W fun E => wpE S E (.prim .isN (.cons pa .nil))) := by
  refine pe_imp (pe_cmp (pc_isN ha) rfl) fun σ H Q ⟨Z, φ, ρ, μ, E, Qd, at_, w, kk⟩ => ?_
  simp only [wpE, wpEs] at w
  refine ⟨Z, φ, ρ, μ, E, _, at_, w, fun d1 μ1 w1 v φ1 H1 r1 c1 g1 => ?_⟩
  simp only [primD, opt_some] at w1
  try dsimp only
  rw [isN_rep r1]
  exact kk _ _ w1 _ φ1 H1 (.bl _) c1 g1
theorem st_isN {a : Expr} {pa : Ex} {j : Nat} {p p' : Pos} (ha : PE X a (RE G W fun E => wpE S E pa)) : PT X (.Compare a [.Is] [.Constant .none j p'] p) (RT G W fun E => wpT S E (.prim .isN (.cons pa .nil))) := by
  refine pt_imp (pt_cmp (pc_isN ha) rfl) fun σ H Q ⟨Z, φ, ρ, μ, E, Qd, at_, w, kk⟩ => ?_
  simp only [wpT, wpEs] at w
  refine ⟨Z, φ, ρ, μ, E, _, at_, w, fun d1 μ1 w1 v φ1 H1 r1 c1 g1 => ?_⟩
  simp only [primD, opt_some, truthD] at w1
  try dsimp only
  rw [isN_rep r1]
  exact ⟨_, rfl, kk _ _ w1 φ1 H1 c1 g1⟩
theorem sn_notN {a : Expr} {pa : Ex} {j : Nat} {p p' : Pos} (ha : PE X a (RE G W fun E => wpE S E pa)) : PE X (.Compare a [.IsNot] [.Constant .none j p'] p) (RE G W fun E => wpE S E (.prim .notN (.cons pa .nil))) := by
  refine pe_imp (pe_cmp (pc_notN ha) rfl) fun σ H Q ⟨Z, φ, ρ, μ, E, Qd, at_, w, kk⟩ => ?_
  simp only [wpE, wpEs] at w
  refine ⟨Z, φ, ρ, μ, E, _, at_, w, fun d1 μ1 w1 v φ1 H1 r1 c1 g1 => ?_⟩
  simp only [primD, opt_some] at w1
  try dsimp only
  rw [isN_rep r1]
  exact kk _ _ w1 _ φ1 H1 (.bl _) c1 g1
theorem st_notN {a : Expr} {pa : Ex} {j : Nat} {p p' : Pos} (ha : PE X a (RE G W fun E => wpE S E pa)) : PT X (.Compare a [.IsNot] [.Constant .none j p'] p) (RT G W fun E => wpT S E (.prim .notN (.cons pa .nil))) := by
  refine pt_imp (pt_cmp (pc_notN ha) rfl) fun σ H Q ⟨Z, φ, ρ, μ, E, Qd, at_, w, kk⟩ => ?_
  simp only [wpT, wpEs] at w
  refine ⟨Z, φ, ρ, μ, E, _, at_, w, fun d1 μ1 w1 v φ1 H1 r1 c1 g1 => ?_⟩
  simp only [primD, opt_some, truthD] at w1
  try dsimp only
  rw [isN_rep r1]
  exact ⟨_, rfl, kk _ _ w1 φ1 H1 c1 g1⟩
/-- slices -/
theorem sn_sl0 (x : XOk P G S Γ X W) {a : Expr} {pa : Ex} {p p2 : Pos} (ha : PE X a (RE G W fun E => wpE S E pa)) : PE X (.Subscript a (.Slice none none none p2) p) (RE G W fun E => wpE S E (.prim (.sl false false) (.cons pa .nil))) := by
  refine pe_imp (pe_slice (sl_D x.hK) ha po_none po_none) fun σ H Q ⟨Z, φ, ρ, μ, E, Qd, at_, w, kk⟩ => ?_
  simp only [wpE, wpEs] at w
  refine ⟨Z, φ, ρ, μ, E, _, at_, w, fun d1 μ1 w1 v φ1 H1 r1 c1 g1 => ?_⟩
  simp only [primD] at w1
  obtain ⟨z, e, q⟩ := opt_iff.mp w1
  obtain ⟨d, e2, rfl⟩ := Option.map_eq_some_iff.mp e
  exact ⟨Z, φ1, μ1, d1, d, c1, r1, e2, fun v' φ' H' r c g => kk _ _ q v' φ' H' r c (g1.trans g)⟩
theorem sn_sl1 (x : XOk P G S Γ X W) {a l : Expr} {pa pl : Ex} {p p2 : Pos} (ha : PE X a (RE G W fun E => wpE S E pa)) (hl : PE X l (RE G W fun E => wpE S E pl)) :
    PE X (.Subscript a (.Slice (some l) none none p2) p) (RE G W fun E => wpE S E (.prim (.sl true false) (.cons pa (.cons pl .nil)))) := by
  refine pe_imp (pe_slice (sl_D x.hK) ha (po_some hl) po_none) fun σ H Q ⟨Z, φ, ρ, μ, E, Qd, at_, w, kk⟩ => ?_
  simp only [wpE, wpEs] at w
  refine ⟨Z, φ, ρ, μ, E, _, at_, w, fun d1 μ1 w1 v φ1 H1 r1 c1 g1 => ?_⟩
  refine ⟨Z, φ1, ρ, μ1, E, _, at_.step c1 g1, w1, fun d2 μ2 w2 u φ2 H2 r2 c2 g2 => ?_⟩
  cases d2 with
  | int i =>
    simp only [primD] at w2
    obtain ⟨z, e, q⟩ := opt_iff.mp w2
    obtain ⟨d, e2, rfl⟩ := Option.map_eq_some_iff.mp e
    exact ⟨i, r2.of_int, Z, φ2, μ2, d1, d, c2, r1.grow g2, e2, fun v' φ' H' r c g => kk _ _ q v' φ' H' r c (g1.trans (g2.trans g))⟩
  | _ => simp [primD] at w2
theorem sn_sl2 (x : XOk P G S Γ X W) {a h : Expr} {pa ph : Ex} {p p2 : Pos} (ha : PE X a (RE G W fun E => wpE S E pa)) (hh : PE X h (RE G W fun E => wpE S E ph)) :
    PE X (.Subscript a (.Slice none (some h) none p2) p) (RE G W fun E => wpE S E (.prim (.sl false true) (.cons pa (.cons ph .nil)))) := by
  refine pe_imp (pe_slice (sl_D x.hK) ha po_none (po_some hh)) fun σ H Q ⟨Z, φ, ρ, μ, E, Qd, at_, w, kk⟩ => ?_
  simp only [wpE, wpEs] at w
  refine ⟨Z, φ, ρ, μ, E, _, at_, w, fun d1 μ1 w1 v φ1 H1 r1 c1 g1 => ?_⟩
  refine ⟨Z, φ1, ρ, μ1, E, _, at_.step c1 g1, w1, fun d2 μ2 w2 u φ2 H2 r2 c2 g2 => ?_⟩
  cases d2 with
  | int i =>
    simp only [primD] at w2
    obtain ⟨z, e, q⟩ := opt_iff.mp w2
    obtain ⟨d, e2, rfl⟩ := Option.map_eq_some_iff.mp e
    exact ⟨i, r2.of_int, Z, φ2, μ2, d1, d, c2, r1.grow g2, e2, fun v' φ' H' r c g => kk _ _ q v' φ' H' r c (g1.trans (g2.trans g))⟩
  | _ => simp [primD] at w2
theorem sn_sl3 (x : XOk P G S Γ X W) {a l h : Expr} {pa pl ph : Ex} {p p2 : Pos} (ha : PE X a (RE G W fun E => wpE S E pa)) (hl : PE X l (RE G W fun E => wpE S E pl)) (hh : PE X h (RE G W fun E => wpE S E ph)) :
    PE X (.Subscript a (.Slice (some l) (some h) none p2) p) (RE G W fun E => wpE S E (.sl3 pa pl ph)) := by
  refine pe_imp (pe_slice (sl_D x.hK) ha (po_some hl) (po_some hh)) fun σ H Q ⟨Z, φ, ρ, μ, E, Qd, at_, w, kk⟩ => ?_
  simp only [wpE] at w
  refine ⟨Z, φ, ρ, μ, E, _, at_, w, fun d1 μ1 w1 v φ1 H1 r1 c1 g1 => ?_⟩
  have a1 := at_.step c1 g1
  refine ⟨Z, φ1, ρ, μ1, E, _, a1, w1, fun d2 μ2 w2 u φ2 H2 r2 c2 g2 => ?_⟩
  cases d2 with
  | int i =>
    simp only [ilD, opt_some] at w2
    refine ⟨i, r2.of_int, Z, φ2, ρ, μ2, E, _, a1.step c2 g2, w2, fun d3 μ3 w3 u3 φ3 H3 r3 c3 g3 => ?_⟩
    cases d3 with
    | int j =>
      simp only [ilD, opt_some] at w3
      obtain ⟨d, e2, q⟩ := opt_iff.mp w3
      exact ⟨j, r3.of_int, Z, φ3, μ3, d1, d, c3, r1.grow (g2.trans g3), e2, fun v' φ' H' r c g => kk _ _ q v' φ' H' r c (g1.trans (g2.trans (g3.trans g)))⟩
    | _ => simp [ilD] at w3
  | _ => simp [ilD] at w2
/-- T(a) of a built-in class, f(a) of a built-in function -/
theorem sn_fn (x : XOk P G S Γ X W) {f : Prim} {n : Str} {id : String} {es : Exs} {a : Expr} {p pos : Pos} (hc : CallR X (.builtin id) (RND G fun μ ds => primD f ds μ)) (hb : isB P Γ n = true) (hv : bootBuiltins n = some (.builtin id)) (hn : n ≠ "__name__") (hd : (n == ("__debug__" : Str)) = false)
    (h : PEs G S X W es [a]) (hs : [a].all noStar = true) : PE X (.Call (.Name n p) [a] [] pos) (RE G W fun E => wpE S E (.prim f es)) := by
  have hs' := hs
  simp only [List.all_cons, List.all_nil, Bool.and_true] at hs
  exact pe_n x h hs' fun t ht => pe_callB hc (x.bi hb).2 (x.bi hb).1 hv ht hn hd (star_cons hs) rfl
theorem sn_ty (x : XOk P G S Γ X W) {f : Prim} {n : Str} {T : String} {es : Exs} {a : Expr} {p pos : Pos} (hc : CallR X (.type T) (RND G fun μ ds => primD f ds μ)) (hb : isB P Γ n = true) (hv : bootBuiltins n = some (.type T)) (hn : n ≠ "__name__") (hd : (n == ("__debug__" : Str)) = false)
    (h : PEs G S X W es [a]) (hs : [a].all noStar = true) : PE X (.Call (.Name n p) [a] [] pos) (RE G W fun E => wpE S E (.prim f es)) := by
  have hs' := hs
  simp only [List.all_cons, List.all_nil, Bool.and_true] at hs
  exact pe_n x h hs' fun t ht => pe_callTy hc (x.bi hb).2 (x.bi hb).1 hv ht hn hd (star_cons hs) rfl
end
end PY


set_option Elab.async false
set_option linter.all false
set_option maxRecDepth 100000
set_option maxHeartbeats 4000000
/-! PY, part t: set(xs) of texts, any number of them. -/
namespace PySem
open PySem PySem.Spec PyProof.Rows
/-- how many different texts -/
def dist : List Str → Nat
  | [] => 0
  | x :: r => dist r + (if r.any (· == x) then 0 else 1)
theorem dist_le : ∀ xs : List Str, dist xs ≤ xs.length
  | [] => Nat.le_refl _
  | x :: r => by
    have := dist_le r
    unfold dist
    split <;> simp only [List.length_cons] <;> omega
theorem any_append (xs : List Str) (x k : Str) : (xs ++ [x]).any (· == k) = (xs.any (· == k) || (x == k)) := by simp
theorem dist_snoc : ∀ (xs : List Str) (x : Str), dist (xs ++ [x]) = (if xs.any (· == x) = true then dist xs else dist xs + 1)
  | [], x => by simp [dist]
  | y :: r, x => by
    rw [List.cons_append]
    unfold dist
    rw [dist_snoc r x, any_append, List.any_cons]
    by_cases e : y = x
    · subst e
      have h1 : (y == y) = true := beq_self_eq_true y
      simp only [h1, Bool.or_true, Bool.true_or, if_true]
      by_cases h : (r.any (· == y)) = true
      · simp [h]
      · simp [h]
    · have h1 : (y == x) = false := beq_eq_false_iff_ne.mpr e
      have h2 : (x == y) = false := beq_eq_false_iff_ne.mpr (Ne.symm e)
      simp only [h1, h2, Bool.or_false, Bool.false_or]
      by_cases h : (r.any (· == x)) = true
      · simp [h]
      · simp [h]; split <;> omega
section
variable {prog : Program} {w : World} {A : Around} {R : Result → Shared → Prop} {I : Addr} {fp wr : List Addr} {G : Array GenState → Array GenState → Prop} {n : Nat} {P : Nat → Value → Prop} {St : Nat → Shared → Prop}
theorem loopStrN (W : WalksS prog w A.in1 I fp wr G n P St) (S : Addr) (hSf : S ∉ fp) (xs : List Str) (hsz : xs.length = n) (hb : xs.length + 1 < scanBound)
    (hval : ∀ i v, P i v → ∃ t, v = .str (xs.getD i Str.empty) t) :
    ∀ (k i : Nat) (s : Shared), n - i = k → i ≤ n → St i s →
      s.heap.SetOf (PySem.strKind prog w) S (fun k' => (xs.take i).any (· == k')) (dist (xs.take i)) →
      (∀ s', Moved (S :: wr) G s s' → s'.heap.SetOf (PySem.strKind prog w) S (fun k' => (xs.take n).any (· == k')) (dist (xs.take n)) → R (.ok (.ret .none)) s') →
      codeAny (model prog w) A (.builtin "set.update.loop" ⟨[.ref S, .ref I], []⟩) R s := by
  have hSw : S ∉ wr := fun h => hSf (W.sub _ h)
  have hsub : ∀ b ∈ wr, b ∈ S :: wr := fun b hb => List.mem_cons_of_mem _ hb
  intro k
  induction k with
  | zero =>
    intro i s hk hi hst hS hR
    have hin : i = n := by omega
    subst hin
    refine codeAny_builtin PyProof.Rows.F.entry_set_update_loop ?_
    rw [Around.under_plainId PyProof.Rows.F.plain_set_update_loop _]
    show wpAny _ A.in1 (pyNext (.ref I) >>= _) _ _ s
    refine wpAny_bind (W.done s _ _ hst fun s' hm => ?_)
    show wpAny _ A.in1 (ret Value.none) _ _ s'
    exact wpAny_pure (hR s' (hm.mono hsub) (by
      obtain ⟨o, es, ep, t, ho, rest⟩ := hS
      exact ⟨o, es, ep, t, hm.heap S _ hSw ho, rest⟩))
  | succ k ih =>
    intro i s hk hi hst hS hR
    have hlt : i < n := by omega
    refine codeAny_builtin PyProof.Rows.F.entry_set_update_loop ?_
    rw [Around.under_plainId PyProof.Rows.F.plain_set_update_loop _]
    show wpAny _ A.in1 (pyNext (.ref I) >>= _) _ _ s
    refine wpAny_bind (W.item i s _ _ hlt hst fun v s' hP hst' hm => ?_)
    obtain ⟨t, rfl⟩ := hval i v hP
    have hS' : s'.heap.SetOf (PySem.strKind prog w) S (fun k' => (xs.take i).any (· == k')) (dist (xs.take i)) := by
      obtain ⟨o, es, ep, tb, ho, rest⟩ := hS
      exact ⟨o, es, ep, tb, hm.heap S _ hSw ho, rest⟩
    show wpAny _ A.in1 (holding [Value.str (xs.getD i Str.empty) t] (setAdd S (.str (xs.getD i Str.empty) t)) >>= _) _ _ s'
    refine wpAny_bind (wpAny_holding ?_)
    unfold setAdd
    refine wpAny_holding ?_
    refine wpAny_bind ((PySem.strKind prog w).pyHash (k := xs.getD i Str.empty) (strKind_is _ _ _ _) ?_)
    have room : dist (xs.take i) + 1 < scanBound := by
      have h1 := dist_le (xs.take i)
      rw [List.length_take] at h1
      omega
    refine wpAny_setAddHashed_of (knd := PySem.strKind prog w) (s := { s' with toks := s'.toks + 1 }) (strKind_is _ _ _ _) rfl hS' room fun h' hsb hS2 => ?_
    have hSi : h'.SetOf (PySem.strKind prog w) S (fun k' => (xs.take (i + 1)).any (· == k')) (dist (xs.take (i + 1))) := by
      have hx : xs[i]? = some (xs.getD i Str.empty) := by
        rw [List.getD_eq_getElem?_getD, List.getElem?_eq_getElem (by omega)]; rfl
      have e1 : xs.take (i + 1) = xs.take i ++ [xs.getD i Str.empty] := by
        rw [List.take_add_one, hx]; rfl
      rw [e1, dist_snoc]
      refine SetOf_congr hS2 (fun k' => ?_) rfl
      rw [any_append]
      congr 1
      by_cases e : k' = xs.getD i Str.empty
      · subst e; simp
      · have hb : (xs.getD i Str.empty == k') = false := beq_eq_false_iff_ne.mpr fun h' => e h'.symm
        rw [hb]
        exact decide_eq_false e
    refine wpAny_pure ⟨plainId_quiet PyProof.Rows.F.plain_set_update_loop _, ih (i + 1) _ (by omega) hlt (W.frame _ s' _ _ hst' (Nat.le_succ _) fun b hb o e => ?_) hSi fun s'' hm'' hS'' => ?_⟩
    · rw [hsb.2 b (fun h : b = S => hSf (by rw [← h]; exact hb))]; exact e
    · refine hR s'' (Moved.trans W.gtrans ((hm.mono hsub).then_heap (Nat.le_succ _) fun b o hb e => ?_) hm'') hS''
      rw [hsb.2 b (fun h : b = S => hb (by rw [h]; exact List.mem_cons_self))]; exact e
end
section
variable {prog : Program} {w : World} {A : Around} {E : Value → Shared → Prop} {s : Shared}
set_option maxHeartbeats 3200000 in
theorem call_set_listN {l : Addr} {items : Array Value} {xs : List Str} {Q : Value → Shared → Prop}
    (hh : A.handled = none) (hl : s.heap.IsList l items) (hi : PyProof.Rows.StrsAre items.toList xs) (hn1 : xs.length + 1 < scanBound)
    (h : ∀ (h' : Heap) (tk : Nat), h'.SetOf (PySem.strKind prog w) s.heap.objs.size (fun k' => (xs.take items.size).any (· == k')) (dist (xs.take items.size)) →
      (∀ b o, b < s.heap.objs.size → s.heap.get? b = some o → h'.get? b = some o) → Q (.ref s.heap.objs.size) { s with heap := h', toks := tk }) :
    wpAny (model prog w) A (call (.type "set") [.ref l]) Q E s := by
  obtain ⟨c, tl, hmro⟩ := PySem.F.called_set.mro
  have hmade := PySem.F.called_set.made
  have hsub := PySem.F.called_set.sub
  refine wpAny_call (codeAny_of_tree ?_)
  show wpAny _ _ (callAny (.type "set") _) _ _ _
  refine wpAny_pure ⟨Code.quiet_builtin _ (by decide +kernel), codeAny_builtin PySem.F.entry_type_call ?_⟩
  rw [Around.under_plain (weight_type_call_type "set" [.ref l] []) rfl]
  have h1 := PySem.F.called_set.notType
  have h2 := PySem.F.called_set.canCreate
  have hct := PySem.F.typeCall_set_1 (.ref l)
  repeat (any_goals (first | assumption | wp_step))

  refine codeAny_mono (code_set_new_1 (.ref l) (E := E) (Q₁ := fun obj s₁ => ∃ led : Bool, obj = .ref s.heap.objs.size ∧ s₁ = { s with heap := s.heap.push { cls := .type "set", dict := none, data := .set #[] 0 (.fresh 0 0 led) } }) fun led => ⟨led, rfl, rfl⟩) fun r s₁ hr => ?_
  cases r with
  | error e => exact hr
  | ok fl =>
    cases fl with
    | ret obj =>
      obtain ⟨led, rfl, rfl⟩ := hr
      have hS : (s.heap.push { cls := .type "set", dict := none, data := .set #[] 0 (.fresh 0 0 led) }).get? s.heap.objs.size = some { cls := .type "set", dict := none, data := .set #[] 0 (.fresh 0 0 led) } := Heap.get?_push_size _ rfl
      have hT : Shared.TypeIs { s with heap := s.heap.push { cls := .type "set", dict := none, data := .set #[] 0 (.fresh 0 0 led) } } (.ref s.heap.objs.size) "set" := ⟨_, hS, rfl⟩
      have hli := PySem.F.called_set.init.lookup
      have hbi := PySem.F.called_set.init.bind (.ref s.heap.objs.size)
      repeat (any_goals (first | assumption | wp_step))

      refine codeAny_mono (codeAny_call_builtin (R := wants (fun r s₂ => r = .none ∧ ∃ h' tk, s₂ = { s with heap := h', toks := tk } ∧
          h'.SetOf (PySem.strKind prog w) s.heap.objs.size (fun k' => (xs.take items.size).any (· == k')) (dist (xs.take items.size)) ∧
          (∀ b o, b < s.heap.objs.size → s.heap.get? b = some o → h'.get? b = some o)) E) PySem.F.called_set.init.plain PySem.F.entry_set_init (check_set_init_1 hT ?_)) fun r₂ s₂ hr₂ => ?_
      · obtain ⟨ol, hol, hcl, nl, hdl⟩ := hl
        obtain ⟨ocls, odict, odata, oslots⟩ := ol
        simp only at hcl hdl
        subst hcl; subst hdl
        have hol' : (s.heap.push { cls := .type "set", dict := none, data := .set #[] 0 (.fresh 0 0 led) }).get? l = some { cls := .type "list", dict := odict, data := .seq items nl, slots := oslots } := Heap.get?_push_of_some _ hol
        have hsls := PySem.F.sub_list_set
        have hslf := PySem.F.sub_list_frozenset
        have hne : (Value.type "list" == Value.type "dict") = false := by decide
        have hl1 : (s.heap.push { cls := .type "set", dict := none, data := .set #[] 0 (.fresh 0 0 led) }).IsList l items := ⟨_, hol', rfl, nl, rfl⟩
        unfold Builtin.«set.__init__» noKeywords Builtin.Frozenset.updateFrom
        generalize hPI : pyIter = PI
        wp_walk
        subst hPI

        refine wpAny_pyIter_list hl1 ?_
        refine wpAny_bind (wpAny_runValue ?_)
        have hlS : l < s.heap.objs.size := Heap.lt_size hol
        have hh3 : A.in1.in1.in1.handled = none := by simp [hh]
        have hneI : l ≠ (s.heap.push { cls := .type "set", dict := none, data := .set #[] 0 (.fresh 0 0 led) }).objs.size := by
          rw [Heap.size_push]; exact Nat.ne_of_lt (Nat.lt_succ_of_lt hlS)
        have hSf : s.heap.objs.size ∉ [(s.heap.push { cls := .type "set", dict := none, data := .set #[] 0 (.fresh 0 0 led) }).objs.size, l] := by
          rw [Heap.size_push]; simp only [List.mem_cons, List.mem_singleton, List.not_mem_nil, or_false, not_or]
          exact ⟨Nat.ne_of_lt (Nat.lt_succ_self _), Nat.ne_of_gt hlS⟩
        have hsz : xs.length = items.size := by rw [← StrsAre.len_eq hi, Array.length_toList]
        have hval : ∀ (i : Nat) (v : Value), items[i]? = some v → ∃ t, v = .str (xs.getD i Str.empty) t := fun i v hv => SS.strs_at hi i v (by rw [Array.getElem?_toList]; exact hv)
        refine loopStrN ((Walks.list hh3 _ l hneI items).toS) s.heap.objs.size
          hSf xs hsz hn1 hval (items.size - 0) 0 _ (by omega) (Nat.zero_le _)
          ⟨⟨_, Heap.get?_push_size _ rfl, rfl, rfl⟩, (hl1.push _)⟩ ?hS0 ?hR
        case hS0 =>
          have hget : ((s.heap.push { cls := .type "set", dict := none, data := .set #[] 0 (.fresh 0 0 led) }).push { cls := .type "list_iterator", data := .fields #[.ref l, .int 0 0] }).get? s.heap.objs.size
              = some { cls := .type "set", dict := none, data := .set #[] 0 (.fresh 0 0 led) } := Heap.get?_push_of_some _ hS
          exact PyProof.Rows.SetOf_congr ((PyProof.Rows.setObjOf_fresh (knd := PySem.strKind prog w) led).setOf hget (by unfold scanBound; omega)) (fun _ => rfl) rfl
        case hR =>
          intro s' hm hS'
          obtain ⟨h', g', d', tk', os'⟩ := s'
          have eg : g' = s.gens := hm.gens
          have ed : d' = s.drawn := hm.drawn
          have eo : os' = s.os := hm.os
          subst eg; subst ed; subst eo
          show wpAny _ _ _ _ _ _
          refine wpAny_pure ?_
          show wpAny _ _ (ret Value.none) _ _ _
          refine wpAny_pure ⟨rfl, h', tk', rfl, hS', fun b o hb e => ?_⟩
          have hb1 : b ≠ s.heap.objs.size := Nat.ne_of_lt hb
          have hb2 : b ≠ (s.heap.push { cls := .type "set", dict := none, data := .set #[] 0 (.fresh 0 0 led) }).objs.size := by
            rw [Heap.size_push]; exact Nat.ne_of_lt (Nat.lt_succ_of_lt hb)
          exact hm.heap b o (by simp only [List.mem_cons, List.mem_singleton, List.not_mem_nil, or_false, not_or]; exact ⟨hb1, hb2⟩) (Heap.get?_push_of_some _ (Heap.get?_push_of_some _ e))

      · cases r₂ with
        | error e => exact hr₂
        | ok fl₂ =>
          cases fl₂ with
          | ret r =>
            obtain ⟨rfl, h', tk, rfl, hS', hk'⟩ := hr₂
            repeat (any_goals (first | assumption | wp_step))
            exact h _ _ hS' hk'
          | _ => exact hr₂.elim
    | _ => exact hr.elim

set_option maxHeartbeats 3200000 in
theorem call_set_tupN {l : Addr} {items : Array Value} {xs : List Str} {Q : Value → Shared → Prop}
    (hh : A.handled = none) (hl : s.heap.IsTuple l items) (hi : PyProof.Rows.StrsAre items.toList xs) (hn1 : xs.length + 1 < scanBound)
    (h : ∀ (h' : Heap) (tk : Nat), h'.SetOf (PySem.strKind prog w) s.heap.objs.size (fun k' => (xs.take items.size).any (· == k')) (dist (xs.take items.size)) →
      (∀ b o, b < s.heap.objs.size → s.heap.get? b = some o → h'.get? b = some o) → Q (.ref s.heap.objs.size) { s with heap := h', toks := tk }) :
    wpAny (model prog w) A (call (.type "set") [.ref l]) Q E s := by
  obtain ⟨c, tl, hmro⟩ := PySem.F.called_set.mro
  have hmade := PySem.F.called_set.made
  have hsub := PySem.F.called_set.sub
  refine wpAny_call (codeAny_of_tree ?_)
  show wpAny _ _ (callAny (.type "set") _) _ _ _
  refine wpAny_pure ⟨Code.quiet_builtin _ (by decide +kernel), codeAny_builtin PySem.F.entry_type_call ?_⟩
  rw [Around.under_plain (weight_type_call_type "set" [.ref l] []) rfl]
  have h1 := PySem.F.called_set.notType
  have h2 := PySem.F.called_set.canCreate
  have hct := PySem.F.typeCall_set_1 (.ref l)
  repeat (any_goals (first | assumption | wp_step))

  refine codeAny_mono (code_set_new_1 (.ref l) (E := E) (Q₁ := fun obj s₁ => ∃ led : Bool, obj = .ref s.heap.objs.size ∧ s₁ = { s with heap := s.heap.push { cls := .type "set", dict := none, data := .set #[] 0 (.fresh 0 0 led) } }) fun led => ⟨led, rfl, rfl⟩) fun r s₁ hr => ?_
  cases r with
  | error e => exact hr
  | ok fl =>
    cases fl with
    | ret obj =>
      obtain ⟨led, rfl, rfl⟩ := hr
      have hS : (s.heap.push { cls := .type "set", dict := none, data := .set #[] 0 (.fresh 0 0 led) }).get? s.heap.objs.size = some { cls := .type "set", dict := none, data := .set #[] 0 (.fresh 0 0 led) } := Heap.get?_push_size _ rfl
      have hT : Shared.TypeIs { s with heap := s.heap.push { cls := .type "set", dict := none, data := .set #[] 0 (.fresh 0 0 led) } } (.ref s.heap.objs.size) "set" := ⟨_, hS, rfl⟩
      have hli := PySem.F.called_set.init.lookup
      have hbi := PySem.F.called_set.init.bind (.ref s.heap.objs.size)
      repeat (any_goals (first | assumption | wp_step))

      refine codeAny_mono (codeAny_call_builtin (R := wants (fun r s₂ => r = .none ∧ ∃ h' tk, s₂ = { s with heap := h', toks := tk } ∧
          h'.SetOf (PySem.strKind prog w) s.heap.objs.size (fun k' => (xs.take items.size).any (· == k')) (dist (xs.take items.size)) ∧
          (∀ b o, b < s.heap.objs.size → s.heap.get? b = some o → h'.get? b = some o)) E) PySem.F.called_set.init.plain PySem.F.entry_set_init (check_set_init_1 hT ?_)) fun r₂ s₂ hr₂ => ?_
      · obtain ⟨ol, hol, hcl, nl, hdl⟩ := hl
        obtain ⟨ocls, odict, odata, oslots⟩ := ol
        simp only at hcl hdl
        subst hcl; subst hdl
        have hol' : (s.heap.push { cls := .type "set", dict := none, data := .set #[] 0 (.fresh 0 0 led) }).get? l = some { cls := .type "tuple", dict := odict, data := .seq items nl, slots := oslots } := Heap.get?_push_of_some _ hol
        have hsls := PySem.F.sub_tuple_set
        have hslf := PySem.F.sub_tuple_frozenset
        have hne : (Value.type "tuple" == Value.type "dict") = false := by decide
        have hl1 : (s.heap.push { cls := .type "set", dict := none, data := .set #[] 0 (.fresh 0 0 led) }).IsTuple l items := ⟨_, hol', rfl, nl, rfl⟩
        unfold Builtin.«set.__init__» noKeywords Builtin.Frozenset.updateFrom
        generalize hPI : pyIter = PI
        wp_walk
        subst hPI

        refine wpAny_pyIter_tuple hl1 ?_
        refine wpAny_bind (wpAny_runValue ?_)
        have hlS : l < s.heap.objs.size := Heap.lt_size hol
        have hh3 : A.in1.in1.in1.handled = none := by simp [hh]
        have hneI : l ≠ (s.heap.push { cls := .type "set", dict := none, data := .set #[] 0 (.fresh 0 0 led) }).objs.size := by
          rw [Heap.size_push]; exact Nat.ne_of_lt (Nat.lt_succ_of_lt hlS)
        have hSf : s.heap.objs.size ∉ [(s.heap.push { cls := .type "set", dict := none, data := .set #[] 0 (.fresh 0 0 led) }).objs.size, l] := by
          rw [Heap.size_push]; simp only [List.mem_cons, List.mem_singleton, List.not_mem_nil, or_false, not_or]
          exact ⟨Nat.ne_of_lt (Nat.lt_succ_self _), Nat.ne_of_gt hlS⟩
        have hsz : xs.length = items.size := by rw [← StrsAre.len_eq hi, Array.length_toList]
        have hval : ∀ (i : Nat) (v : Value), items[i]? = some v → ∃ t, v = .str (xs.getD i Str.empty) t := fun i v hv => SS.strs_at hi i v (by rw [Array.getElem?_toList]; exact hv)
        refine loopStrN ((Walks.tuple hh3 _ l hneI items).toS) s.heap.objs.size
          hSf xs hsz hn1 hval (items.size - 0) 0 _ (by omega) (Nat.zero_le _)
          ⟨⟨_, Heap.get?_push_size _ rfl, rfl, rfl⟩, (hl1.push _)⟩ ?hS0 ?hR
        case hS0 =>
          have hget : ((s.heap.push { cls := .type "set", dict := none, data := .set #[] 0 (.fresh 0 0 led) }).push { cls := .type "tuple_iterator", data := .fields #[.ref l, .int 0 0] }).get? s.heap.objs.size
              = some { cls := .type "set", dict := none, data := .set #[] 0 (.fresh 0 0 led) } := Heap.get?_push_of_some _ hS
          exact PyProof.Rows.SetOf_congr ((PyProof.Rows.setObjOf_fresh (knd := PySem.strKind prog w) led).setOf hget (by unfold scanBound; omega)) (fun _ => rfl) rfl
        case hR =>
          intro s' hm hS'
          obtain ⟨h', g', d', tk', os'⟩ := s'
          have eg : g' = s.gens := hm.gens
          have ed : d' = s.drawn := hm.drawn
          have eo : os' = s.os := hm.os
          subst eg; subst ed; subst eo
          show wpAny _ _ _ _ _ _
          refine wpAny_pure ?_
          show wpAny _ _ (ret Value.none) _ _ _
          refine wpAny_pure ⟨rfl, h', tk', rfl, hS', fun b o hb e => ?_⟩
          have hb1 : b ≠ s.heap.objs.size := Nat.ne_of_lt hb
          have hb2 : b ≠ (s.heap.push { cls := .type "set", dict := none, data := .set #[] 0 (.fresh 0 0 led) }).objs.size := by
            rw [Heap.size_push]; exact Nat.ne_of_lt (Nat.lt_succ_of_lt hb)
          exact hm.heap b o (by simp only [List.mem_cons, List.mem_singleton, List.not_mem_nil, or_false, not_or]; exact ⟨hb1, hb2⟩) (Heap.get?_push_of_some _ (Heap.get?_push_of_some _ e))

      · cases r₂ with
        | error e => exact hr₂
        | ok fl₂ =>
          cases fl₂ with
          | ret r =>
            obtain ⟨rfl, h', tk, rfl, hS', hk'⟩ := hr₂
            repeat (any_goals (first | assumption | wp_step))
            exact h _ _ hS' hk'
          | _ => exact hr₂.elim
    | _ => exact hr.elim

end
end PySem

set_option Elab.async false
set_option linter.all false
set_option maxRecDepth 100000
set_option maxHeartbeats 8000000
/-! PY, part i: isinstance, methods; every application. -/
namespace PY
open PySem PySem.Spec PyProof.Rows L2
section
variable {P : PCtx} {G : Gd} {S : Sg} {Γ : Cxt} {X : Cx} {W : WX}
/-! ### isinstance -/
theorem boot_ty : ∀ t : Ty, bootBuiltins (Str.ofString (tyName t)) = some (.type (tyName t))
  | .int => by decide +kernel
  | .bool => by decide +kernel
  | .str => by decide +kernel
  | .tuple => by decide +kernel
  | .list => by decide +kernel
  | .dict => by decide +kernel
theorem ty_nn (t : Ty) : Str.ofString (tyName t) ≠ "__name__" ∧ (Str.ofString (tyName t) == ("__debug__" : Str)) = false := by
  cases t <;> exact ⟨by decide +kernel, by decide +kernel⟩
theorem tyNm_pe (x : XOk P G S Γ X W) {t : Ty} {e : Expr} (h : tyNm P Γ t e = true) : PE X e (tC (.ty (tyName t))) ∧ noStar e = true := by
  cases e with
  | Name n p =>
    simp only [tyNm, Bool.and_eq_true, decide_eq_true_eq] at h
    obtain ⟨rfl, hb⟩ := h
    exact ⟨pe_bltn (x.bi hb).2 (x.bi hb).1 (boot_ty t) rfl (ty_nn t).1 (ty_nn t).2, rfl⟩
  | _ => simp [tyNm] at h
theorem tyNms_pa (x : XOk P G S Γ X W) : ∀ {ts : List Ty} {es : List Expr}, tyNms P Γ ts es = true → PA X es (fun _ H Q => Q (ts.map fun t => V.ty (tyName t)) H) ∧ es.all noStar = true
  | [], [], _ => ⟨pa_nil, rfl⟩
  | t :: ts, e :: es, h => by
    simp only [tyNms, Bool.and_eq_true] at h
    obtain ⟨h1, h2⟩ := tyNm_pe x h.1
    obtain ⟨h3, h4⟩ := tyNms_pa x h.2
    exact ⟨pa_imp (pa_cons h1 h3 (star_cons h2)) fun _ _ _ q => q, by simp [h2, h4]⟩
  | [], _ :: _, h => by simp [tyNms] at h
  | _ :: _, [], h => by simp [tyNms] at h
theorem clsv_all : ∀ ts : List Ty, Paired ClsV (ts.map fun t => V.ty (tyName t)) (ts.map fun t => Value.type (tyName t))
  | [] => .nil
  | t :: ts => .cons (.ty _) (clsv_all ts)
theorem sn_isi1 (x : XOk P G S Γ X W) {t : Ty} {a u : Expr} {pa : Ex} {p pos : Pos} (hb : isB P Γ ("isinstance" : Str) = true) (ht : tyNm P Γ t u = true) (ha : PE X a (RE G W fun E => wpE S E pa)) (hs : noStar a = true) :
    PE X (.Call (.Name "isinstance" p) [a, u] [] pos) (RE G W fun E => wpE S E (.prim (.isi [t]) (.cons pa .nil))) := by
  obtain ⟨h1, h2⟩ := tyNm_pe x ht
  refine pe_imp (pe_callB call_isi (x.bi hb).2 (x.bi hb).1 (by decide +kernel) (pa_cons ha (pa_cons h1 pa_nil (star_cons h2)) (star_cons hs)) (by decide) (by decide) (star_cons hs) (star_plain (by simp [h2]))) fun σ H Q ⟨Z, φ, ρ, μ, E, Qd, at_, w, kk⟩ => ?_
  simp only [wpE, wpEs] at w
  refine ⟨Z, φ, ρ, μ, E, _, at_, w, fun d1 μ1 w1 v φ1 H1 r1 c1 g1 => ?_⟩
  simp only [primD] at w1
  obtain ⟨z, e, q⟩ := opt_iff.mp w1
  obtain ⟨b, e2, rfl⟩ := Option.map_eq_some_iff.mp e
  obtain ⟨vt, e3, rfl⟩ := Option.map_eq_some_iff.mp e2
  refine ⟨v, .ty (tyName t), .type (vtName vt), .type (tyName t), _, rfl, .ty _, r1.ty x.hK c1 e3, kit_ty (kit_all vt t), ?_⟩
  have : ([t].any (vtIs vt)) = vtIs vt t := by simp
  rw [this] at q
  exact kk _ _ q _ φ1 H1 (.bl _) c1 g1
theorem sn_isiT (x : XOk P G S Γ X W) {ts : List Ty} {us : List Expr} {a : Expr} {pa : Ex} {k : Nat} {p pt pos : Pos} (hb : isB P Γ ("isinstance" : Str) = true) (ht : tyNms P Γ ts us = true) (hl : ts.length ≤ 100) (ha : PE X a (RE G W fun E => wpE S E pa)) (hs : noStar a = true) :
    PE X (.Call (.Name "isinstance" p) [a, .Tuple us k pt] [] pos) (RE G W fun E => wpE S E (.prim (.isi ts) (.cons pa .nil))) := by
  obtain ⟨h1, h2⟩ := tyNms_pa x ht
  refine pe_imp (pe_callB call_isiT (x.bi hb).2 (x.bi hb).1 (by decide +kernel) (pa_cons ha (pa_cons (pe_tup h1) pa_nil rfl) (star_cons hs)) (by decide) (by decide) (star_cons hs) rfl) fun σ H Q ⟨Z, φ, ρ, μ, E, Qd, at_, w, kk⟩ => ?_
  simp only [wpE, wpEs] at w
  refine ⟨Z, φ, ρ, μ, E, _, at_, w, fun d1 μ1 w1 v φ1 H1 r1 c1 g1 => ?_⟩
  simp only [primD] at w1
  obtain ⟨z, e, q⟩ := opt_iff.mp w1
  obtain ⟨b, e2, rfl⟩ := Option.map_eq_some_iff.mp e
  obtain ⟨vt, e3, rfl⟩ := Option.map_eq_some_iff.mp e2
  refine ⟨by rw [List.length_map, ← sz_eq]; show ts.length ≤ 16777216; omega, fun tp hp => ?_⟩
  have g2 : Grow φ1 H1 φ1 (upd H1 tp (.tup (ts.map fun t => V.ty (tyName t)))) := Grow.upd hp
  refine ⟨v, tp, _, .type (vtName vt), _, _, rfl, upd_same, clsv_all ts, (r1.grow g2).ty x.hK (c1.upd hp) e3, kit_any _ vt ts, ?_⟩
  exact kk _ _ q _ φ1 _ (.bl _) (c1.upd hp) (g1.trans g2)

/-! ### methods -/
theorem ty_list {Z φ : List Addr} {H : Hp} {K : PySem.W.Frag} {μ : Store} {x : V} {i : Nat} {ys : List D} (c : CRel G Z φ H μ) (r : Rep G Z φ H x (.ref i)) (e : μ[i]? = some (.lst ys)) : tyV K "list" x H := by
  obtain ⟨a, rfl, ha⟩ := r.of_ref
  obtain ⟨vs, h1, _⟩ := c.lst ha e
  exact .inl ⟨rfl, vs, .inl (.inl h1)⟩
theorem recv_list {f : Prim} (hf : f = .append ∨ f = .extend ∨ f = .pop) {μ : Store} {x : D} {u : Unit} (h : recvD f μ x = some u) : ∃ i ys, x = .ref i ∧ μ[i]? = some (.lst ys) := by
  cases x with
  | ref i =>
    cases z : μ[i]? with
    | none => rcases hf with rfl | rfl | rfl <;> simp [recvD, z] at h
    | some k =>
      cases k with
      | lst ys => exact ⟨i, ys, rfl, z⟩
      | _ => rcases hf with rfl | rfl | rfl <;> simp [recvD, z] at h
  | _ => rcases hf with rfl | rfl | rfl <;> simp [recvD] at h
/-- what is known of a method of a built-in type -/
structure MethOk (X : Cx) (G : Gd) (f : Prim) (name : Str) : Prop where
  ex : ∃ T id, PlainAttrs T ∧ Slot T name id ∧ typeOf (.builtin id) = pure (.type "method_descriptor") ∧ MtR X id (RMD G f) ∧
    ∀ {Z φ : List Addr} {H : Hp} {μ : Store} {x : V} {d : D} {u : Unit}, CRel G Z φ H μ → Rep G Z φ H x d → recvD f μ d = some u → tyV X.K T x H
theorem meth_ok {f : Prim} {m : Str} (h : methIs f m = true) : MethOk X G f m := by
  unfold methIs at h
  cases f with
  | append =>
    obtain rfl := of_decide_eq_true h
    exact ⟨"list", _, PySem.F.plainAttrs_list, PySem.F.slot_list_append, PySem.F.type_list_append, m_append, fun c r e => by
      obtain ⟨i, ys, rfl, h2⟩ := recv_list (.inl rfl) e
      exact ty_list c r h2⟩
  | extend =>
    obtain rfl := of_decide_eq_true h
    exact ⟨"list", _, PySem.F.plainAttrs_list, PySem.F.slot_list_extend, PySem.F.type_list_extend, m_extend, fun c r e => by
      obtain ⟨i, ys, rfl, h2⟩ := recv_list (.inr (.inl rfl)) e
      exact ty_list c r h2⟩
  | pop =>
    obtain rfl := of_decide_eq_true h
    exact ⟨"list", _, PySem.F.plainAttrs_list, PySem.F.slot_list_pop, PySem.F.type_list_pop, m_pop, fun c r e => by
      obtain ⟨i, ys, rfl, h2⟩ := recv_list (.inr (.inr rfl)) e
      exact ty_list c r h2⟩
  | _ => simp [methNm] at h
theorem star_all {env : Env} {pos : Pos} : ∀ {es : List Expr}, es.all noStar = true → (backTo pos (starEach es env)).all (fun x => !x.1) = true
  | [], _ => rfl
  | e :: es, h => by
    simp only [List.all_cons, Bool.and_eq_true] at h
    rw [star_cons h.1]
    have ih := star_all (env := env) (pos := pos) h.2
    unfold backTo at ih ⊢
    rw [List.map_cons, List.all_cons, ih]
    rfl
theorem sn_meth (x : XOk P G S Γ X W) {f : Prim} {m : Str} {o : Expr} {as : List Expr} {po : Ex} {es : Exs} {ap cp : Pos} (hm : methIs f m = true) (hb : noSuper o = true) (hl : lineOk ap cp = true) (hn : as.length < 20) (ho : PE X o (RE G W fun E => wpE S E po))
    (h : PEs G S X W es as) (hs : as.all noStar = true) : PE X (.Call (.Attribute o m ap) as [] cp) (RE G W fun E => wpE S E (.meth f po es)) := by
  obtain ⟨T, id, h1, h2, h3, h4, h5⟩ := (meth_ok (X := X) (G := G) hm).ex
  cases as with
  | nil =>
    cases es with
    | cons _ _ => exact h.elim
    | nil =>
      refine pe_imp (pe_bm0 h1 h2 h3 h4 ho (base_of hb) hl) fun σ H Q ⟨Z, φ, ρ, μ, E, Qd, at_, w, kk⟩ => ?_
      simp only [wpE, wpEs] at w
      refine ⟨Z, φ, ρ, μ, E, _, at_, w, fun d1 μ1 w1 v φ1 H1 r1 c1 g1 => ?_⟩
      obtain ⟨u, e1, w2⟩ := opt_iff.mp w1
      obtain ⟨⟨d, μ'⟩, e, q⟩ := opt_iff.mp w2
      exact ⟨h5 c1 r1 e1, Z, φ1, μ1, [d1], d, μ', c1, .cons r1 .nil, e, fun v' φ' H' r c g => kk _ _ q v' φ' H' r c (g1.trans g)⟩
  | cons a as =>
    have hs' := hs
    simp only [List.all_cons, Bool.and_eq_true] at hs
    refine pe_imp (pe_bm h1 h2 h3 h4 ho (h.pa x hs') (base_of hb) ?_ hl (star_cons hs.1) (star_plain hs.2)) fun σ H Q ⟨Z, φ, ρ, μ, E, Qd, at_, w, kk⟩ => ?_
    · rw [star_all hs']
      have : decide ((a :: as).length + ([] : List Keyword).length + (if ([] : List Keyword).isEmpty then 0 else 1) < 30) = true := by
        simp only [List.isEmpty_nil, if_true, List.length_nil, decide_eq_true_eq]; omega
      rw [this]; rfl
    simp only [wpE] at w
    refine ⟨Z, φ, ρ, μ, E, _, at_, w, fun d1 μ1 w1 v φ1 H1 r1 c1 g1 => ?_⟩
    obtain ⟨u, e1, w2⟩ := opt_iff.mp w1
    refine ⟨h5 c1 r1 e1, Z, φ1, ρ, μ1, E, _, at_.step c1 g1, w2, fun ds μ2 w3 us φ2 H2 r2 c2 g2 => ?_⟩
    obtain ⟨⟨d, μ'⟩, e, q⟩ := opt_iff.mp w3
    exact ⟨Z, φ2, μ2, d1 :: ds, d, μ', c2, .cons (r1.grow g2) r2, e, fun v' φ' H' r c g => kk _ _ q v' φ' H' r c (g1.trans (g2.trans g))⟩
theorem strs_rep {Z φ : List Addr} {H : Hp} : ∀ {vs : List V} {ds : List D} {ss : List String}, Reps G Z φ H vs ds → strsOf ds = some ss → vs = (ss.map Str.ofString).map V.str
  | _, _, ss, .nil, e => by cases e; rfl
  | _, _, ss, .cons (d := d) r rs, e => by
    cases d with
    | str s =>
      obtain ⟨t, h1, rfl⟩ := Option.map_eq_some_iff.mp (show (strsOf _).map (s :: ·) = some ss from e)
      rw [r.of_str, strs_rep rs h1]; rfl
    | _ => cases e
theorem distD_eq : ∀ ss : List String, PySem.dist (ss.map Str.ofString) = distD ss
  | [] => rfl
  | s :: r => by
    rw [List.map_cons, PySem.dist, distD, distD_eq r]
    have : (r.map Str.ofString).any (· == Str.ofString s) = r.any (· == s) := by
      rw [List.any_map]
      congr 1
      funext t
      exact ofString_beq t s
    rw [this]
theorem sn_lenset (x : XOk P G S Γ X W) {e : Ex} {a : Expr} {p p2 q pos : Pos} (hb : isB P Γ ("len" : Str) = true) (hb2 : isB P Γ ("set" : Str) = true) (ha : PE X a (RE G W fun E => wpE S E e)) (hs : noStar a = true) :
    PE X (.Call (.Name "len" p) [.Call (.Name "set" p2) [a] [] q] [] pos) (RE G W fun E => wpE S E (.prim .lenset (.cons e .nil))) := by
  obtain ⟨hm, hg⟩ := x.bi hb
  obtain ⟨hm2, hg2⟩ := x.bi hb2
  refine ⟨fun pins s σ H Q I ⟨Z, φ, ρ, μ, E, Qd, at_, w, k⟩ => ?_⟩
  simp only [wpE, wpEs] at w
  refine Call_ (ld_blt I hg hm boot_len ?_)
  refine PyProof.Rows.callWith_builtin1 (PyProof.Rows.args_cons ?_ rfl) rfl rfl
  refine Call_ (ld_blt I hg2 hm2 boot_set ?_)
  have run := ha.run pins s σ H (fun v H1 => ∃ d φ1 μ1, Rep G Z φ1 H1 v d ∧ CRel G Z φ1 H1 μ1 ∧ Grow φ H φ1 H1 ∧ opt (primD .lenset [d] μ1) fun r => Qd r.1 r.2) I ⟨Z, φ, ρ, μ, E, _, at_, w, fun d μ1 w1 v φ1 H1 r1 c1 g1 => ⟨d, φ1, μ1, r1, c1, g1, w1⟩⟩
  refine PyProof.Rows.callWith_type1 (PyProof.Rows.args_cons (thn run fun v s1 ⟨y, H1, I1, r1, q1⟩ => PyProof.Rows.args_nil ?_) (star_cons hs)) (star_cons hs) rfl
  obtain ⟨d, φ1, μ1, rd, c1, g1, q1⟩ := q1
  obtain ⟨⟨d2, μ2⟩, e1, q2⟩ := opt_iff.mp q1
  obtain ⟨ss, e2, e3⟩ := Option.bind_eq_some_iff.mp (show ((seqOf μ1 d).bind strsOf).bind _ = _ from e1)
  obtain ⟨ds, e4, e5⟩ := Option.bind_eq_some_iff.mp e2
  simp only [Option.ite_none_right_eq_some, Option.some.injEq, Prod.mk.injEq] at e3
  obtain ⟨hl, rfl, rfl⟩ := e3
  obtain ⟨l, vs, rfl, hq, rs⟩ := rd.seq c1 e4
  have hv := strs_rep rs e5
  subst hv
  cases r1
  rw [x.hK] at hq
  have hd : PySem.dist (ss.map Str.ofString) = distD ss := distD_eq ss
  have hle : distD ss ≤ ss.length := by rw [← hd]; have := PySem.dist_le (ss.map Str.ofString); simpa using this
  have fin : ∀ (its : List Value), Vals ((ss.map Str.ofString).map V.str) its → ∀ (h' : Heap) (tk : Nat), h'.SetOf (PySem.strKind X.prog X.w) s1.heap.objs.size (fun k' => ((ss.map Str.ofString).take its.toArray.size).any (· == k')) (PySem.dist ((ss.map Str.ofString).take its.toArray.size)) →
      (∀ b o, b < s1.heap.objs.size → s1.heap.get? b = some o → h'.get? b = some o) →
      wpAny (model X.prog X.w) X.A (spliced (backTo pos (starEach [] X.env))) (fun vs s₂ => wpAny (model X.prog X.w) X.A (call (.builtin "len") (Value.ref s1.heap.objs.size :: vs)) (EP X pins σ Q) X.xe s₂) X.xe { s1 with heap := h', toks := tk } := fun its r h' tk hS hk => by
    refine PyProof.Rows.args_nil ?_
    have hl2 : its.toArray.size = (ss.map Str.ofString).length := by rw [List.size_toArray, ← r.length, List.length_map]
    rw [hl2, List.take_length, hd] at hS
    obtain ⟨o, es, ep, t, ho, hex, hdt, _, _, _, hf, hn⟩ := hS
    have I2 : Inv X pins σ H1 { s1 with heap := h', toks := tk } := I1.kept fun b o e => hk b o (Heap.lt_size e) e
    exact call_len_set ho hex hdt hf (by rw [hn] <;> omega) ⟨.int (distD ss : Nat), H1, I2.tok _, ⟨_, by rw [hn]⟩, k _ _ q2 _ φ1 H1 (.int _) c1 g1⟩
  have hb3 : (ss.map Str.ofString).length + 1 < scanBound := by rw [List.length_map]; unfold scanBound; omega
  rcases hq with hq | hq
  · obtain ⟨its, r, pl, hz⟩ := I1.list hq
    exact PySem.call_set_listN (I1.ok.hd x.calm) pl.isList (by simpa using strsAre_of r) hb3 fun h' tk hS hk => fin its r h' tk hS hk
  · obtain ⟨its, r, pl, hz⟩ := I1.tuple hq
    exact PySem.call_set_tupN (I1.ok.hd x.calm) pl (by simpa using strsAre_of r) hb3 fun h' tk hS hk => fin its r h' tk hS hk
/-- every application -/
theorem sn_prim (x : XOk P G S Γ X W) {f : Prim} {e : Expr} {es : Exs} {xs : List Expr} (h : argsOf P Γ f e = some xs) (hp : PEs G S X W es xs) (hs : xs.all noStar = true) (hl : xs.all noSlice = true) : PE X e (RE G W fun E => wpE S E (.prim f es)) := by
  have hu := x.hu
  unfold argsOf at h
  split at h
  · cases h; exact sn_tup x hp hs
  · cases h; exact sn_lst x hp hs
  · simp only [Option.ite_none_right_eq_some] at h
    exact sn_dct x h.1 h.2 hp
  · simp only [Option.ite_none_right_eq_some, Option.some.injEq] at h
    obtain ⟨h1, rfl⟩ := h
    obtain ⟨p, q, rfl, ha, hb⟩ := PEs.two hp
    obtain rfl := of_decide_eq_true h1
    exact pe_2 (g := fun μ x y => binD μ _ x y) (fun _ _ _ => rfl) ha hb fun ta tb a b => pe_op (op_bin x.hK _) a b
  · cases h
    obtain ⟨p, rfl, ha⟩ := PEs.one hp
    exact pe_1 (g := fun μ x => primD .neg [x] μ) (fun _ _ => rfl) ha fun ta a => pe_un un_negD a
  · simp only [Option.ite_none_right_eq_some, Option.some.injEq, Bool.and_eq_true] at h
    obtain ⟨⟨h1, h2⟩, rfl⟩ := h
    obtain ⟨p, q, rfl, ha, hb⟩ := PEs.two hp
    obtain rfl := of_decide_eq_true h1
    exact pe_2 (g := fun μ x y => (cmD μ _ x y).map .bl) (fun μ x y => by simp [primD]; rfl) ha hb fun ta tb a b => pe_cmpR (op_cm x.hK (by omega) _) a b (mark_of h2)
  · cases h
    obtain ⟨p, rfl, ha⟩ := PEs.one hp
    exact sn_isN ha
  · cases h
    obtain ⟨p, rfl, ha⟩ := PEs.one hp
    exact sn_notN ha
  · cases h
    obtain ⟨p, rfl, ha⟩ := PEs.one hp
    exact sn_sl0 x ha
  · cases h
    obtain ⟨p, q, rfl, ha, hb⟩ := PEs.two hp
    exact sn_sl1 x ha hb
  · cases h
    obtain ⟨p, q, rfl, ha, hb⟩ := PEs.two hp
    exact sn_sl2 x ha hb
  · cases h
    obtain ⟨p, q, rfl, ha, hb⟩ := PEs.two hp
    simp only [List.all_cons, List.all_nil, Bool.and_true, Bool.and_eq_true] at hl
    exact pe_2 (g := fun μ x y => ixD μ x y) (fun _ _ _ => rfl) ha hb fun ta tb a b => pe_ix (ix_D x.hK (by omega)) a b (plainIx_of (by have := hl.2; unfold noSlice at this; exact this))
  · simp only [Option.ite_none_right_eq_some, Option.some.injEq, Bool.and_eq_true, decide_eq_true_eq] at h
    obtain ⟨⟨rfl, h2⟩, rfl⟩ := h
    exact sn_fn x (c_len x.hK) h2 PySem.boot_len (by decide) (by decide) hp hs
  · simp only [Option.ite_none_right_eq_some, Option.some.injEq, Bool.and_eq_true, decide_eq_true_eq] at h
    obtain ⟨⟨⟨⟨rfl, h2⟩, rfl⟩, h3⟩, rfl⟩ := h
    obtain ⟨p, rfl, ha⟩ := PEs.one hp
    simp only [List.all_cons, List.all_nil, Bool.and_true] at hs
    exact sn_lenset x h2 h3 ha hs
  · simp only [Option.ite_none_right_eq_some, Option.some.injEq, Bool.and_eq_true, decide_eq_true_eq] at h
    obtain ⟨⟨rfl, h2⟩, rfl⟩ := h
    exact sn_fn x (c_all x.calm) h2 (by decide +kernel) (by decide) (by decide) hp hs
  · simp only [Option.ite_none_right_eq_some, Option.some.injEq, Bool.and_eq_true, decide_eq_true_eq] at h
    obtain ⟨⟨rfl, h2⟩, rfl⟩ := h
    exact sn_fn x (c_any x.calm) h2 (by decide +kernel) (by decide) (by decide) hp hs
  · simp only [Option.ite_none_right_eq_some, Option.some.injEq, Bool.and_eq_true, decide_eq_true_eq] at h
    obtain ⟨⟨rfl, h2⟩, rfl⟩ := h
    exact sn_ty x c_int h2 (by decide +kernel) (by decide) (by decide) hp hs
  · simp only [Option.ite_none_right_eq_some, Option.some.injEq, Bool.and_eq_true, decide_eq_true_eq] at h
    obtain ⟨⟨rfl, h2⟩, rfl⟩ := h
    exact sn_ty x (c_tuple x.hK) h2 (by decide +kernel) (by decide) (by decide) hp hs
  · simp only [Option.ite_none_right_eq_some, Option.some.injEq, Bool.and_eq_true, decide_eq_true_eq] at h
    obtain ⟨⟨rfl, h2⟩, rfl⟩ := h
    exact sn_ty x (c_list x.hK _) h2 (by decide +kernel) (by decide) (by decide) hp hs
  · simp only [Option.ite_none_right_eq_some, Option.some.injEq, Bool.and_eq_true, decide_eq_true_eq] at h
    obtain ⟨⟨⟨⟨rfl, h2⟩, h3⟩, h4⟩, rfl⟩ := h
    obtain ⟨p, rfl, ha⟩ := PEs.one hp
    simp only [List.all_cons, List.all_nil, Bool.and_true] at hs
    exact sn_isiT x h2 h3 h4 ha hs
  · simp only [Option.ite_none_right_eq_some, Option.some.injEq, Bool.and_eq_true, decide_eq_true_eq] at h
    obtain ⟨⟨⟨rfl, h2⟩, h3⟩, rfl⟩ := h
    obtain ⟨p, rfl, ha⟩ := PEs.one hp
    simp only [List.all_cons, List.all_nil, Bool.and_true] at hs
    exact sn_isi1 x h2 h3 ha hs
  · cases h
end
end PY

set_option Elab.async false
set_option linter.all false
set_option maxRecDepth 100000
set_option maxHeartbeats 8000000
/-! PY, part j: enumerate of a tuple; what is walked. -/
namespace PySem
open Sem (wp)
open AutoSeq1 (wpAny_loadPart')
theorem meets_enumerate_newT (l : Addr) (items : Array Value) (n : Nat) (dct : Option Addr) (sl : Array (Option Value)) :
    Meets (Builtin.«enumerate.__new__» ⟨[.type "enumerate", .ref l], []⟩) (fun _ R s => s.heap.get? l = some { cls := .type "tuple", dict := dct, data := .seq items n, slots := sl } ∧
      R (.ok (.ret (.ref (s.heap.push { cls := .type "tuple_iterator", data := .fields #[.ref l, .int 0 0] }).objs.size)))
        { s with heap := (s.heap.push { cls := .type "tuple_iterator", data := .fields #[.ref l, .int 0 0] }).push { cls := .type "enumerate", data := .fields #[.none, .bool false, .ref s.heap.objs.size, rawInt 0, .none, .none] } }) :=
  .of_wp fun prog w A R s h => by
    obtain ⟨hp, g, d, tk, os⟩ := s; obtain ⟨hl, h⟩ := h
    have hsub := sub_enumerate
    have hL : Heap.IsTuple (Shared.heap ⟨hp, g, d, tk, os⟩) l items := ⟨_, hl, rfl, n, rfl⟩
    wp_walk using wpAny_loadPart' hl
    refine wpAny_stack_any fun st => wpAny_pure ?_
    split
    · rename_i c _ _ _ _ _
      cases (c == Value.type "enumerate")
      · wp_walk using wpAny_loadPart' hl, wpAny_pyIter_tuple hL
        exact ⟨_, rfl, h⟩
      · wp_walk using wpAny_loadPart' hl, wpAny_pyIter_tuple hL
        exact ⟨_, rfl, h⟩
    · wp_walk using wpAny_loadPart' hl, wpAny_pyIter_tuple hL
      exact ⟨_, rfl, h⟩
section
variable {prog : Program} {w : World} {A : Around} {E : Value → Shared → Prop} {s : Shared}
theorem call_enumerate_tuple {l : Addr} {items : Array Value} {Q : Value → Shared → Prop} (hL : s.heap.IsTuple l items)
    (h : ∀ h', IsEnum h' (s.heap.objs.size + 1) s.heap.objs.size 0 .none → h'.IsTupleIter s.heap.objs.size l 0 → h'.objs.size = s.heap.objs.size + 2 →
      (∀ b o, s.heap.get? b = some o → h'.get? b = some o) → Q (.ref (s.heap.objs.size + 1)) { s with heap := h' }) :
    wpAny (model prog w) A (call (.type "enumerate") [.ref l]) Q E s := by
  obtain ⟨⟨c, dct, dt, sl⟩, hl, hc, n, hd⟩ := hL
  replace hc : c = .type "tuple" := hc
  replace hd : dt = .seq items n := hd
  subst hc hd
  refine callType_new F.called_enumerate (by decide) (F.typeCall_enumerate_1 _) (F.newCall_enumerate_1 _) (fun obj => F.args_object_init_2 obj _) F.entry_enumerate_new
    (meets_enumerate_newT l items n dct sl) ⟨hl, ?_⟩
  have hz : (s.heap.push { cls := .type "tuple_iterator", data := .fields #[.ref l, .int 0 0] }).objs.size = s.heap.objs.size + 1 := Heap.size_push ..
  show _ ∧ _
  rw [hz]
  have he : IsEnum ((s.heap.push { cls := .type "tuple_iterator", data := .fields #[.ref l, .int 0 0] }).push
      { cls := .type "enumerate", data := .fields #[.none, .bool false, .ref s.heap.objs.size, rawInt 0, .none, .none] }) (s.heap.objs.size + 1) s.heap.objs.size 0 .none := by
    have := Heap.get?_push_size (s.heap.push { cls := .type "tuple_iterator", data := .fields #[.ref l, .int 0 0] })
      (o := { cls := .type "enumerate", data := .fields #[.none, .bool false, .ref s.heap.objs.size, rawInt 0, .none, .none] }) rfl
    rw [hz] at this; exact this
  refine ⟨⟨_, he, rfl⟩, h _ he ⟨_, Heap.get?_push_of_some _ (Heap.get?_push_size _ rfl), rfl, rfl⟩ (by rw [Heap.size_push, hz]) fun b o x => Heap.get?_push_of_some _ (Heap.get?_push_of_some _ x)⟩
theorem enum_endT {e it l : Addr} {i : Nat} {items : Array Value} {old : Value} {Q : Option Value → Shared → Prop} (hh : A.in1.handled = none)
    (he : IsEnum s.heap e it i old) (hit : s.heap.IsTupleIter it l i) (hl : s.heap.IsTuple l items) (hx : items[i]? = none)
    (hQ : ∀ h', Heap.ExtBut it s.heap h' → Q none { s with heap := h' }) : wpAny (model prog w) A (pyNext (.ref e)) Q E s := by
  have hT : s.TypeIs (.ref e) "enumerate" := ⟨_, he, rfl⟩
  unfold pyNext
  refine wpAny_bind (wpAny_attempt (wpAny_callSpecial?_slot (name := Str.ofString "__next__") hT F.slot_enumerate_next
    (wpAny_call_entry F.slot_enumerate_next hT F.entry_enumerate_next ?_ (F.args_enumerate_next_1 _))))
  show wpAny _ _ (field (.ref e) 2 >>= _) _ _ _
  refine wpAny_bind (wpAny_field he rfl (x := .ref it) rfl ?_)
  refine wpAny_bind (wpAny_nextOf_tuple_end hh hit hl hx fun h' x he' hx' => ?_)
  obtain ⟨o, ho, hc⟩ := hx'
  refine wpAny_bind (wpAny_isInstance (T := "StopIteration") (b := true) ⟨o, ho, hc⟩ isSubtype_stop ?_)
  exact wpAny_pure (hQ _ he')
end
end PySem
namespace PY
open PySem PySem.Spec PyProof.Rows L2
/-- the tuple at a as it stands at each turn, each item in a new pair -/
def IteT (K : PySem.W.Frag) (a : Addr) : It :=
  ⟨fun i H => ∃ (xs : List V) (x : V), SqT K H a xs ∧ xs[i]? = some x, fun i H v H' => ∃ T x, v = .ref T ∧ H T = none ∧ H' = upd H T (.tup [.int (i : Nat), x]) ∧ ∀ xs, SqT K H a xs → xs[i]? = some x, fun i H => ∃ xs : List V, SqT K H a xs ∧ xs.length ≤ i⟩
theorem turn_enumT {P : Program} {w : World} {K : PySem.W.Frag} {elts : List Expr} {kk : Nat} {tpos : Pos} (a e it : Addr) :
    Turn P w K (.Tuple elts kk tpos) (IteT K a) [e, it] e (fun i h => (∃ old, IsEnum h e it ((i : Nat) : Int) old) ∧ h.IsTupleIter it a i ∧ e ≠ it) where
  mem := by simp
  obj := fun i h st b hb => by
    obtain ⟨⟨old, he⟩, ⟨o, ho, hc, hd⟩, _⟩ := st
    have e' : b = e ∨ b = it := by simpa using hb
    rcases e' with z | z
    · rw [z]; exact ⟨_, he, fun v q => nomatch q⟩
    · rw [z]; exact ⟨o, ho, fun v q => by rw [hd] at q; cases q⟩
  keep := fun i h h' st k => let ⟨⟨old, he⟩, hi, hne⟩ := st; ⟨⟨old, k e (by simp) _ he⟩, hi.at fun o q => k it (by simp) o q, hne⟩
  item := by
    intro X hP hw hK hc i pins s σ H E I hf st hg
    subst hP hw hK
    obtain ⟨⟨old, he⟩, hit, hne⟩ := st
    obtain ⟨xs, x, hq, hx⟩ := hg
    obtain ⟨its, rv, p, hz⟩ := I.tuple hq
    have p' : s.heap.IsTuple a its.toArray := p
    obtain ⟨u, hu, ru⟩ := rv.get hx
    have hel : e < s.heap.objs.size := Heap.lt_size he
    have hil : it < s.heap.objs.size := by obtain ⟨_, q, _⟩ := hit; exact Heap.lt_size q
    have nai : a ≠ it := fun z => by
      obtain ⟨o1, h1, h2, _⟩ := id p'
      obtain ⟨o2, h3, h4, _⟩ := id hit
      rw [z, h3] at h1; cases h1
      rw [h4] at h2; revert h2; decide
    have nea : e ≠ a := fun z => by
      obtain ⟨o1, h1, h2, _⟩ := id p'
      rw [← z, he] at h1; cases h1
      have h2' : Value.type "enumerate" = Value.type "tuple" := h2
      revert h2'; decide
    have hh : X.A.in1.handled = none := I.ok.hd hc
    have hlt : i < its.toArray.size := by
      have := (List.getElem?_eq_some_iff.mp hu).1
      simpa using this
    refine wpAny_pyNext_enum_itemD (Draws.tuple hh it a nai its.toArray) he ⟨hit, p'⟩ hlt hne (by simp [hne, nea]) fun x' h' tk hP ho hst hT hsz hk => ?_
    have ex : x' = u := by
      have h1 : its.toArray[i]? = some u := by simpa using hu
      have h2 : its.toArray[i]? = some x' := hP
      rw [h1] at h2; exact (Option.some.inj h2).symm
    subst ex
    obtain ⟨hit', _⟩ := hst
    refine ⟨_, rfl, wpAny_letOwnedTupleGo_enum (s := { s with heap := h', toks := tk + 1 }) ho fun h'' he' sb => ?_⟩
    have hT2 : h''.get? s.heap.objs.size = some { cls := .type "tuple", data := .seq #[.int i tk, x'] } := (sb.2 _ (Nat.ne_of_gt hel)).trans hT
    have new : ObjOk X.prog X.w (upd H s.heap.objs.size (.tup [.int (i : Nat), x])) h'' s.heap.objs.size (.tup [.int (i : Nat), x]) :=
      ⟨by show 2 ≤ sizeLine; decide, [.int i tk, x'], .cons ⟨_, rfl⟩ (.cons ru .nil), ⟨_, hT2, rfl, _, rfl⟩⟩
    have I1 : Inv X pins σ (upd H s.heap.objs.size (.tup [.int (i : Nat), x])) { s with heap := h'', toks := tk + 1 } :=
      I.turnedNew (ch := [e, it]) (fun b ob hb q => (sb.2 b (fun z => hb (by simp [z]))).trans (hk b ob (fun z => hb (by simp [z])) (fun z => hb (by simp [z])) q)) hf (Nat.le_refl _) new
    refine ⟨.ref s.heap.objs.size, _, I1, rfl, ⟨_, x, rfl, I.hok.fresh (Nat.le_refl _), rfl, fun ys hy => by rw [I.tuple_inj hy hq]; exact hx⟩, ⟨⟨x', ?_⟩, hit'.at fun o q => (sb.2 it (Ne.symm hne)).trans q, hne⟩, fun b hb => ?_⟩
    · have e1 : ((i + 1 : Nat) : Int) = (i : Int) + 1 := by omega
      rw [e1]; exact he'
    · have hb' : b < s.heap.objs.size := by
        have e' : b = e ∨ b = it := by simpa using hb
        rcases e' with z | z
        · rw [z]; exact hel
        · rw [z]; exact hil
      rw [upd_ne (Nat.ne_of_lt hb')]
      exact (hf b hb).1
  done := by
    intro X hP hw hK hc i pins s σ H E I hf st hg
    subst hP hw hK
    obtain ⟨⟨old, he⟩, hit, hne⟩ := st
    obtain ⟨xs, hq, hx⟩ := hg
    obtain ⟨its, rv, p, hz⟩ := I.tuple hq
    have p' : s.heap.IsTuple a its.toArray := p
    obtain ⟨f0, f1, f2, f3, f4, f5⟩ := hf it (by simp)
    have hl := rv.length
    have nai : a ≠ it := fun z => by
      obtain ⟨o1, h1, h2, _⟩ := id p'
      obtain ⟨o2, h3, h4, _⟩ := id hit
      rw [z, h3] at h1; cases h1
      rw [h4] at h2; revert h2; decide
    have hh : X.A.in1.handled = none := I.ok.hd hc
    exact enum_endT hh he hit p' (by simp; omega) fun h' eb => ⟨rfl, I.turned (t' := s.toks) (fun b o hb q => eb b o hb q) f0 f1 f3 f4 f5⟩
  self := fun A i s Q E st h => let ⟨⟨_, he⟩, _⟩ := st; wpAny_pyIter_enum he h
end PY

set_option Elab.async false
set_option linter.all false
set_option maxRecDepth 100000
set_option maxHeartbeats 4000000
/-! PY, part k: what is walked. -/
namespace PY
open PySem PySem.Spec PyProof.Rows L2

/-- the iterator J gives the items of p, from the state on -/
structure ItOk (G : Gd) (J : It) (p : Plan) (Z φ : List Addr) (H : Hp) : Prop where
  go : ∀ Z1 φ1 H1 μ1, ZUp Z H Z1 → Grow φ H φ1 H1 → CRel G Z1 φ1 H1 μ1 → p.guard μ1 → ∀ i, i < p.items.length → J.go i H1
  stop : ∀ Z1 φ1 H1 μ1, ZUp Z H Z1 → Grow φ H φ1 H1 → CRel G Z1 φ1 H1 μ1 → p.guard μ1 → J.stop p.items.length H1
  yld : ∀ Z1 φ1 H1 μ1, ZUp Z H Z1 → Grow φ H φ1 H1 → CRel G Z1 φ1 H1 μ1 → p.guard μ1 → ∀ (i : Nat) x H2, i < p.items.length → J.yld i H1 x H2 →
    ∃ d, p.items[i]? = some d ∧ Rep G Z1 φ1 H2 x d ∧ CRel G Z1 φ1 H2 μ1 ∧ Grow φ1 H1 φ1 H2
/-- a list at a that stands for ds while guard -/
def LSeq (G : Gd) (Z φ : List Addr) (H : Hp) (a : Addr) (guard : Store → Prop) (ds : List D) : Prop :=
  ∀ Z1 φ1 H1 μ1, ZUp Z H Z1 → Grow φ H φ1 H1 → CRel G Z1 φ1 H1 μ1 → guard μ1 → ∃ vs, SqL G.K H1 a vs ∧ Reps G Z1 φ1 H1 vs ds
def TSeq (G : Gd) (Z φ : List Addr) (H : Hp) (a : Addr) (guard : Store → Prop) (ds : List D) : Prop :=
  ∀ Z1 φ1 H1 μ1, ZUp Z H Z1 → Grow φ H φ1 H1 → CRel G Z1 φ1 H1 μ1 → guard μ1 → ∃ vs, SqT G.K H1 a vs ∧ Reps G Z1 φ1 H1 vs ds
section
variable {G : Gd} {Z φ : List Addr} {H : Hp} {a b : Addr} {gd gd' : Store → Prop} {ds es : List D} {μ : Store}
theorem LSeq.it (s : LSeq G Z φ H a gd ds) : ItOk G (Itl G.K a) ⟨ds, gd⟩ Z φ H := by
  refine ⟨fun Z1 φ1 H1 μ1 z g c h i hi => ?_, fun Z1 φ1 H1 μ1 z g c h => ?_, fun Z1 φ1 H1 μ1 z g c h i x H2 hi y => ?_⟩
  · obtain ⟨vs, q, r⟩ := s Z1 φ1 H1 μ1 z g c h
    have hl := r.length
    exact ⟨vs, vs[i]'(by rw [hl]; exact hi), q, by simp⟩
  · obtain ⟨vs, q, r⟩ := s Z1 φ1 H1 μ1 z g c h
    exact ⟨vs, q, Nat.le_of_eq r.length⟩
  · obtain ⟨vs, q, r⟩ := s Z1 φ1 H1 μ1 z g c h
    obtain ⟨rfl, y⟩ := y
    obtain ⟨d, e, rd⟩ := r.get' (y vs q)
    exact ⟨d, e, rd, c, Grow.refl _ _⟩
theorem TSeq.it (s : TSeq G Z φ H a gd ds) : ItOk G (Itt G.K a) ⟨ds, gd⟩ Z φ H := by
  refine ⟨fun Z1 φ1 H1 μ1 z g c h i hi => ?_, fun Z1 φ1 H1 μ1 z g c h => ?_, fun Z1 φ1 H1 μ1 z g c h i x H2 hi y => ?_⟩
  · obtain ⟨vs, q, r⟩ := s Z1 φ1 H1 μ1 z g c h
    have hl := r.length
    exact ⟨vs, vs[i]'(by rw [hl]; exact hi), q, by simp⟩
  · obtain ⟨vs, q, r⟩ := s Z1 φ1 H1 μ1 z g c h
    exact ⟨vs, q, Nat.le_of_eq r.length⟩
  · obtain ⟨vs, q, r⟩ := s Z1 φ1 H1 μ1 z g c h
    obtain ⟨rfl, y⟩ := y
    obtain ⟨d, e, rd⟩ := r.get' (y vs q)
    exact ⟨d, e, rd, c, Grow.refl _ _⟩
theorem enumFrom_length : ∀ (k : Nat) (xs : List D), (enumFrom k xs).length = xs.length
  | _, [] => rfl
  | k, _ :: xs => by rw [enumFrom, List.length_cons, List.length_cons, enumFrom_length]
theorem enumFrom_get : ∀ (k : Nat) (xs : List D) (i : Nat) (d : D), xs[i]? = some d → (enumFrom k xs)[i]? = some (.tup [.int ((k + i : Nat) : Int), d])
  | _, [], i, d, h => by simp at h
  | k, x :: xs, 0, d, h => by
    simp at h; subst h; rfl
  | k, x :: xs, i + 1, d, h => by
    rw [enumFrom]
    have := enumFrom_get (k + 1) xs i d (by simpa using h)
    rw [List.getElem?_cons_succ, this]
    congr 5
    omega
theorem pair_rep {T : Addr} {x y : V} {d e : D} (c : CRel G Z φ H μ) (h : H T = none) (r1 : Rep G Z φ H x d) (r2 : Rep G Z φ H y e) :
    Rep G Z φ (upd H T (.tup [x, y])) (.ref T) (.tup [d, e]) ∧ CRel G Z φ (upd H T (.tup [x, y])) μ ∧ Grow φ H φ (upd H T (.tup [x, y])) :=
  ⟨new_tup c h (.cons r1 (.cons r2 .nil)), c.upd h, Grow.upd h⟩
theorem LSeq.enum (s : LSeq G Z φ H a gd ds) : ItOk G (Ite G.K a) (enumPlan ⟨ds, gd⟩) Z φ H := by
  refine ⟨fun Z1 φ1 H1 μ1 z g c h i hi => ?_, fun Z1 φ1 H1 μ1 z g c h => ?_, fun Z1 φ1 H1 μ1 z g c h i v H2 hi y => ?_⟩
  · obtain ⟨vs, q, r⟩ := s Z1 φ1 H1 μ1 z g c h
    have hl := r.length
    exact ⟨vs, vs[i]'(by rw [hl, ← enumFrom_length 0 ds]; exact hi), q, by simp⟩
  · obtain ⟨vs, q, r⟩ := s Z1 φ1 H1 μ1 z g c h
    exact ⟨vs, q, Nat.le_of_eq (r.length.trans (enumFrom_length 0 ds).symm)⟩
  · obtain ⟨vs, q, r⟩ := s Z1 φ1 H1 μ1 z g c h
    obtain ⟨T, x, rfl, hT, rfl, y⟩ := y
    obtain ⟨d, e, rd⟩ := r.get' (y vs q)
    obtain ⟨r1, r2, r3⟩ := pair_rep c hT (.int (i : Nat)) rd
    exact ⟨_, by have := enumFrom_get 0 ds i d e; rw [Nat.zero_add] at this; exact this, r1, r2, r3⟩
theorem TSeq.enum (s : TSeq G Z φ H a gd ds) : ItOk G (IteT G.K a) (enumPlan ⟨ds, gd⟩) Z φ H := by
  refine ⟨fun Z1 φ1 H1 μ1 z g c h i hi => ?_, fun Z1 φ1 H1 μ1 z g c h => ?_, fun Z1 φ1 H1 μ1 z g c h i v H2 hi y => ?_⟩
  · obtain ⟨vs, q, r⟩ := s Z1 φ1 H1 μ1 z g c h
    have hl := r.length
    exact ⟨vs, vs[i]'(by rw [hl, ← enumFrom_length 0 ds]; exact hi), q, by simp⟩
  · obtain ⟨vs, q, r⟩ := s Z1 φ1 H1 μ1 z g c h
    exact ⟨vs, q, Nat.le_of_eq (r.length.trans (enumFrom_length 0 ds).symm)⟩
  · obtain ⟨vs, q, r⟩ := s Z1 φ1 H1 μ1 z g c h
    obtain ⟨T, x, rfl, hT, rfl, y⟩ := y
    obtain ⟨d, e, rd⟩ := r.get' (y vs q)
    obtain ⟨r1, r2, r3⟩ := pair_rep c hT (.int (i : Nat)) rd
    exact ⟨_, by have := enumFrom_get 0 ds i d e; rw [Nat.zero_add] at this; exact this, r1, r2, r3⟩
theorem zip_get {i : Nat} {d e : D} (h1 : ds[i]? = some d) (h2 : es[i]? = some e) : ((ds.zip es).map fun z => D.tup [z.1, z.2])[i]? = some (.tup [d, e]) := by
  rw [List.getElem?_map, List.getElem?_zip_eq_some.mpr (by exact ⟨h1, h2⟩ : ds[i]? = some (d, e).1 ∧ es[i]? = some (d, e).2)]
  rfl
theorem zip_len : ((ds.zip es).map fun z => D.tup [z.1, z.2]).length = min ds.length es.length := by simp
theorem LSeq.zip (s : LSeq G Z φ H a gd ds) (t : LSeq G Z φ H b gd' es) : ItOk G (Itz G.K a b) (zipPlan ⟨ds, gd⟩ ⟨es, gd'⟩) Z φ H := by
  refine ⟨fun Z1 φ1 H1 μ1 z g c h i hi => ?_, fun Z1 φ1 H1 μ1 z g c h => ?_, fun Z1 φ1 H1 μ1 z g c h i v H2 hi y => ?_⟩
  · obtain ⟨vs, q, r⟩ := s Z1 φ1 H1 μ1 z g c h.1
    obtain ⟨ws, q', r'⟩ := t Z1 φ1 H1 μ1 z g c h.2
    have hl := r.length
    have hl' := r'.length
    have hm : i < min ds.length es.length := by rw [← zip_len]; exact hi
    exact ⟨vs, ws, vs[i]'(by omega), ws[i]'(by omega), q, q', by simp, by simp⟩
  · obtain ⟨vs, q, r⟩ := s Z1 φ1 H1 μ1 z g c h.1
    obtain ⟨ws, q', r'⟩ := t Z1 φ1 H1 μ1 z g c h.2
    have hl := r.length
    have hl' := r'.length
    refine ⟨vs, ws, q, q', ?_⟩
    show vs.length ≤ ((ds.zip es).map fun z => D.tup [z.1, z.2]).length ∨ ws.length ≤ ((ds.zip es).map fun z => D.tup [z.1, z.2]).length
    rw [zip_len]
    omega
  · obtain ⟨vs, q, r⟩ := s Z1 φ1 H1 μ1 z g c h.1
    obtain ⟨ws, q', r'⟩ := t Z1 φ1 H1 μ1 z g c h.2
    obtain ⟨T, x, x', rfl, hT, rfl, y, y'⟩ := y
    obtain ⟨d, e, rd⟩ := r.get' (y vs q)
    obtain ⟨d', e', rd'⟩ := r'.get' (y' ws q')
    obtain ⟨r1, r2, r3⟩ := pair_rep c hT rd rd'
    exact ⟨_, zip_get e e', r1, r2, r3⟩
theorem TSeq.zip (s : TSeq G Z φ H a gd ds) (t : TSeq G Z φ H b gd' es) : ItOk G (RZ.ItzT G.K a b) (zipPlan ⟨ds, gd⟩ ⟨es, gd'⟩) Z φ H := by
  refine ⟨fun Z1 φ1 H1 μ1 z g c h i hi => ?_, fun Z1 φ1 H1 μ1 z g c h => ?_, fun Z1 φ1 H1 μ1 z g c h i v H2 hi y => ?_⟩
  · obtain ⟨vs, q, r⟩ := s Z1 φ1 H1 μ1 z g c h.1
    obtain ⟨ws, q', r'⟩ := t Z1 φ1 H1 μ1 z g c h.2
    have hl := r.length
    have hl' := r'.length
    have hm : i < min ds.length es.length := by rw [← zip_len]; exact hi
    exact ⟨vs, ws, vs[i]'(by omega), ws[i]'(by omega), q, q', by simp, by simp⟩
  · obtain ⟨vs, q, r⟩ := s Z1 φ1 H1 μ1 z g c h.1
    obtain ⟨ws, q', r'⟩ := t Z1 φ1 H1 μ1 z g c h.2
    have hl := r.length
    have hl' := r'.length
    refine ⟨vs, ws, q, q', ?_⟩
    show vs.length ≤ ((ds.zip es).map fun z => D.tup [z.1, z.2]).length ∨ ws.length ≤ ((ds.zip es).map fun z => D.tup [z.1, z.2]).length
    rw [zip_len]
    omega
  · obtain ⟨vs, q, r⟩ := s Z1 φ1 H1 μ1 z g c h.1
    obtain ⟨ws, q', r'⟩ := t Z1 φ1 H1 μ1 z g c h.2
    obtain ⟨T, x, x', rfl, hT, rfl, y, y'⟩ := y
    obtain ⟨d, e, rd⟩ := r.get' (y vs q)
    obtain ⟨d', e', rd'⟩ := r'.get' (y' ws q')
    obtain ⟨r1, r2, r3⟩ := pair_rep c hT rd rd'
    exact ⟨_, zip_get e e', r1, r2, r3⟩
/-- a range -/
theorem rng_it {lo : Int} {n : Nat} : ItOk G (Itr lo n) ⟨rngItems lo n, fun _ => True⟩ Z φ H := by
  have hl : (rngItems lo n).length = n := by simp [rngItems]
  refine ⟨fun Z1 φ1 H1 μ1 z g c h i hi => ?_, fun Z1 φ1 H1 μ1 z g c h => ?_, fun Z1 φ1 H1 μ1 z g c h i x H2 hi y => ?_⟩
  · rw [hl] at hi; exact hi
  · exact Nat.le_of_eq hl.symm
  · obtain ⟨rfl, rfl⟩ := y
    rw [hl] at hi
    refine ⟨.int (lo + (i : Nat)), ?_, .int _, c, Grow.refl _ _⟩
    show (rngItems lo n)[i]? = _
    unfold rngItems
    rw [List.getElem?_map, List.getElem?_range hi]
    rfl
/-- a text -/
theorem str_it {t : String} : ItOk G (Its (Str.ofString t)) ⟨t.toList.map fun c => .str (String.singleton c), fun _ => True⟩ Z φ H := by
  have hl : (t.toList.map fun c => D.str (String.singleton c)).length = (Str.ofString t).cps.size := by
    rw [List.length_map]; exact (ofString_length t).symm
  refine ⟨fun Z1 φ1 H1 μ1 z g c h i hi => ?_, fun Z1 φ1 H1 μ1 z g c h => ?_, fun Z1 φ1 H1 μ1 z g c h i x H2 hi y => ?_⟩
  · show i < (Str.ofString t).cps.size
    rw [← hl]; exact hi
  · show (Str.ofString t).cps.size ≤ _
    exact Nat.le_of_eq hl.symm
  · obtain ⟨rfl, cc, h1, rfl⟩ := y
    have hi' : i < t.toList.length := by
      have : i < (t.toList.map fun c => D.str (String.singleton c)).length := hi
      rw [List.length_map] at this; exact this
    have hc := ofString_cps t
    refine ⟨.str (String.singleton t.toList[i]), by simp [List.getElem?_map, hi'], ?_, c, Grow.refl _ _⟩
    have e2 : (V.str ⟨#[cc]⟩) = V.str (Str.ofString (String.singleton t.toList[i])) := by
      congr 1
      rw [ofString_cps, List.getElem?_toArray, List.getElem?_map, List.getElem?_eq_getElem hi'] at h1
      have h2 : cc = (t.toList[i]).toNat := (Option.some.inj h1).symm
      subst h2
      have h3 := ofString_cps (String.singleton t.toList[i])
      cases h4 : Str.ofString (String.singleton t.toList[i]) with
      | mk cps =>
        rw [h4] at h3
        simp only at h3
        rw [h3]
        simp
    rw [e2]
    exact .str _
/-- a sequence, kept -/
theorem Rep.lseq (c : CRel G Z φ H μ) {x : V} {d : D} {p : Plan} (r : Rep G Z φ H x d) (e : seqPlan μ d = some p) :
    ∃ a, x = .ref a ∧ ((isTupD d = false ∧ LSeq G Z φ H a p.guard p.items) ∨ (isTupD d = true ∧ TSeq G Z φ H a p.guard p.items)) := by
  cases d with
  | scr ns =>
    simp only [seqPlan, valPlan, Option.some.injEq] at e
    subst e
    obtain ⟨a, rfl, h⟩ := r.of_scr
    refine ⟨a, rfl, .inl ⟨rfl, fun Z1 φ1 H1 μ1 z g c1 _ => ?_⟩⟩
    obtain ⟨a', e, h'⟩ := (r.lift z g).of_scr
    cases e
    exact ⟨_, h', ints_rep ns⟩
  | tup xs =>
    simp only [seqPlan, valPlan, Option.some.injEq] at e
    subst e
    obtain ⟨a, vs, rfl, _, _⟩ := r.of_tup
    refine ⟨a, rfl, .inr ⟨rfl, fun Z1 φ1 H1 μ1 z g c1 _ => ?_⟩⟩
    obtain ⟨a', vs', e, h, r'⟩ := (r.lift z g).of_tup
    cases e
    exact ⟨vs', h, r'⟩
  | lst xs =>
    simp only [seqPlan, valPlan, Option.some.injEq] at e
    subst e
    obtain ⟨a, vs, rfl, _, _⟩ := r.of_lst
    refine ⟨a, rfl, .inl ⟨rfl, fun Z1 φ1 H1 μ1 z g c1 _ => ?_⟩⟩
    obtain ⟨a', vs', e, h, r'⟩ := (r.lift z g).of_lst
    cases e
    exact ⟨vs', .inl h, r'⟩
  | ref i =>
    obtain ⟨a, rfl, ha⟩ := r.of_ref
    cases q : μ[i]? with
    | none => simp [seqPlan, valPlan, q] at e
    | some k =>
      cases k with
      | lst xs =>
        simp only [seqPlan, valPlan, q, Option.some.injEq] at e
        subst e
        refine ⟨a, rfl, .inl ⟨rfl, fun Z1 φ1 H1 μ1 z g c1 h => ?_⟩⟩
        obtain ⟨vs, h1, r1⟩ := c1.lst (g.pre i a ha) h
        exact ⟨vs, .inl (.inl h1), r1⟩
      | dct _ _ => simp [seqPlan, valPlan, q] at e
      | ins _ _ => simp [seqPlan, valPlan, q] at e
  | _ => simp [seqPlan, valPlan] at e
end

/-! ### iterators come -/
def RI (G : Gd) (W : WX) (wp : (XD → Store → Prop) → Sl → Store → (Plan → Store → Prop) → Prop) : TI := fun σ H R => ∃ Z φ ρ μ E Qp, At G Z W E σ φ H ρ μ ∧ wp E ρ μ Qp ∧
  ∀ p μ', Qp p μ' → ∀ J φ' H', ItOk G J p Z φ' H' → CRel G Z φ' H' μ' → Grow φ H φ' H' → R J H'
def iDyn (K : PySem.W.Frag) (te : TE) : TI := fun σ H R => te σ H fun v H1 => (∃ a, v = .ref a ∧ (∃ xs, SqL K H1 a xs) ∧ R (Itl K a) H1) ∨ (∃ a, v = .ref a ∧ (∃ xs, SqT K H1 a xs) ∧ R (Itt K a) H1) ∨ ∃ x, v = .str x ∧ R (Its x) H1
def iEnumA (K : PySem.W.Frag) (ta : TA) : TI := fun σ H R => ta σ H fun vs H1 => ∃ a xs, vs = [.ref a] ∧ ((SqL K H1 a xs ∧ R (Ite K a) H1) ∨ (SqT K H1 a xs ∧ R (IteT K a) H1))
section
variable {X : Cx} {tg : Expr}
theorem pi_imp {e : Expr} {t t' : TI} (h : PI X tg e t) (i : ∀ σ H R, t' σ H R → t σ H R) : PI X tg e t' := ⟨fun pins s σ H R I q => h.run pins s σ H R I (i σ H R q)⟩
theorem pi_dyn {l : Expr} {tl : TE} (hl : PE X l tl) : PI X tg l (iDyn X.K tl) := by
  refine ⟨fun pins s σ H R I h => ?_⟩
  refine thn (hl.run pins s σ H _ I h) fun v s1 ⟨x, H1, I1, r1, q1⟩ => ?_
  rcases q1 with ⟨a, e, ⟨xs, hq⟩, q⟩ | ⟨a, e, ⟨xs, hq⟩, q⟩ | ⟨x, ex, q⟩
  · subst e
    cases r1
    obtain ⟨its, rv, p, hz⟩ := I1.list hq
    refine wpAny_pyIter_list p.isList ?_
    refine ⟨s1.heap.objs.size, [s1.heap.objs.size], _, _, H1, rfl, I1.kept (t' := s1.toks) fun b o e => Heap.get?_push_of_some _ e, turn_list a _, ⟨_, Heap.get?_push_size _ rfl, rfl, rfl⟩, fun b hb => ?_, q⟩
    have e : b = s1.heap.objs.size := by simpa using hb
    subst e
    exact I1.fpOk (Nat.le_refl _) (I1.hok.fresh (Nat.le_refl _))
  · subst e
    cases r1
    obtain ⟨its, rv, p, hz⟩ := I1.tuple hq
    refine wpAny_pyIter_tuple (show s1.heap.IsTuple a its.toArray from p) ?_
    refine ⟨s1.heap.objs.size, [s1.heap.objs.size], _, _, H1, rfl, I1.kept (t' := s1.toks) fun b o e => Heap.get?_push_of_some _ e, turn_tuple a _, ⟨_, Heap.get?_push_size _ rfl, rfl, rfl⟩, fun b hb => ?_, q⟩
    have e : b = s1.heap.objs.size := by simpa using hb
    subst e
    exact I1.fpOk (Nat.le_refl _) (I1.hok.fresh (Nat.le_refl _))
  · subst ex
    obtain ⟨t, rfl⟩ := r1
    cases ha : x.cps.all (· < 128)
    · exact wpAny_pyIter_wide ha (pi_one (tk := s1.toks) I1 _ (turn_str _ x t "str_iterator" (.inr rfl)) ⟨_, Heap.get?_push_size _ rfl, rfl, rfl⟩ q)
    · exact wpAny_pyIter_ascii ha (pi_one (tk := s1.toks) I1 _ (turn_str _ x t "str_ascii_iterator" (.inl rfl)) ⟨_, Heap.get?_push_size _ rfl, rfl, rfl⟩ q)
theorem pi_enumA {e : Expr} {ta : TA} {p pos tpos : Pos} {elts : List Expr} {kk : Nat} (hg : Gl X "enumerate") (hm : X.mg "enumerate" = none) (ha : PA X [e] ta) (hs : starEach [e] X.env = [(false, eval e X.env)]) :
    PI X (.Tuple elts kk tpos) (.Call (.Name "enumerate" p) [e] [] pos) (iEnumA X.K ta) := by
  refine ⟨fun pins s σ H R I h => ?_⟩
  refine Call_ (ld_blt I hg hm boot_enumerate (PyProof.Rows.callWith_type1 (thn (ha.run pos pins s σ H _ I h) fun us s1 ⟨vs, H1, I1, r1, q1⟩ => ?_) hs rfl))
  obtain ⟨a, xs, ex, q1⟩ := q1
  subst ex
  cases r1 with
  | cons r rr =>
    cases rr
    cases r
    have fp2 : ∀ b, b ∈ [s1.heap.objs.size + 1, s1.heap.objs.size] → FpOk X pins H1 b := fun b hb => by
      have e' : b = s1.heap.objs.size + 1 ∨ b = s1.heap.objs.size := by simpa using hb
      have hle : s1.heap.objs.size ≤ b := by
        rcases e' with z | z
        · rw [z]; exact Nat.le_add_right _ _
        · rw [z]; exact Nat.le_refl _
      exact I1.fpOk hle (I1.hok.fresh hle)
    rcases q1 with ⟨hq, q⟩ | ⟨hq, q⟩
    · obtain ⟨its, rv, p', hz⟩ := I1.list hq
      refine call_enumerate_list p'.isList fun h' he hit hsz hk => wpAny_pyIter_enum he ?_
      have I2 : Inv X pins σ H1 { s1 with heap := h' } := I1.kept (t' := s1.toks) hk
      exact ⟨s1.heap.objs.size + 1, [s1.heap.objs.size + 1, s1.heap.objs.size], _, _, H1, rfl, I2, turn_enum a (s1.heap.objs.size + 1) s1.heap.objs.size, ⟨⟨.none, he⟩, hit, Nat.succ_ne_self _⟩, fp2, q⟩
    · obtain ⟨its, rv, p', hz⟩ := I1.tuple hq
      refine call_enumerate_tuple (show s1.heap.IsTuple a its.toArray from p') fun h' he hit hsz hk => wpAny_pyIter_enum he ?_
      have I2 : Inv X pins σ H1 { s1 with heap := h' } := I1.kept (t' := s1.toks) hk
      exact ⟨s1.heap.objs.size + 1, [s1.heap.objs.size + 1, s1.heap.objs.size], _, _, H1, rfl, I2, turn_enumT a (s1.heap.objs.size + 1) s1.heap.objs.size, ⟨⟨.none, he⟩, hit, Nat.succ_ne_self _⟩, fp2, q⟩
end
end PY

set_option Elab.async false
set_option linter.all false
set_option maxRecDepth 100000
set_option maxHeartbeats 4000000
/-! PY, part l: targets; iterators by the syntax. -/
namespace PY
open PySem PySem.Spec PyProof.Rows L2

/-! ### targets -/
structure TgTo (G : Gd) (Z φ : List Addr) (H : Hp) (σ : L2.St) (ns : List Nat) (ρ' : Sl) (σ' : L2.St) : Prop where
  er : ERel G Z φ H σ' ρ'
  len : σ'.length = σ.length
  out : ∀ i, i ∉ ns → σ'[i]? = σ[i]?
def RG (G : Gd) (t : Tg) : TG := fun v σ H Q => ∃ Z φ ρ d ρ', ERel G Z φ H σ ρ ∧ Rep G Z φ H v d ∧ bindT t d ρ = some ρ' ∧ ∀ σ', TgTo G Z φ H σ (tgN t) ρ' σ' → Q σ' H
def RGs (G : Gd) (ts : List Tg) : TGs := fun vs σ H Q => ∃ Z φ ρ ds ρ', ERel G Z φ H σ ρ ∧ Reps G Z φ H vs ds ∧ bindTs ts ds ρ = some ρ' ∧ ∀ σ', TgTo G Z φ H σ (tgNs ts) ρ' σ' → Q σ' H
theorem ERel.set {G : Gd} {Z φ : List Addr} {H : Hp} {σ : L2.St} {ρ : Sl} {v : V} {d : D} (r : ERel G Z φ H σ ρ) (h : Rep G Z φ H v d) (i : Nat) : ERel G Z φ H (σ.set i (some v)) (ρ.set i (some d)) := by
  refine ⟨by rw [List.length_set, List.length_set]; exact r.len, fun j d' e => ?_⟩
  by_cases hj : j = i
  · subst hj
    by_cases hl : j < ρ.length
    · rw [List.getElem?_set_self hl] at e
      cases e
      exact ⟨v, List.getElem?_set_self (by rw [r.len]; exact hl), h⟩
    · rw [List.getElem?_eq_none (by simpa using hl)] at e; cases e
  · rw [List.getElem?_set_ne (Ne.symm hj)] at e
    obtain ⟨w, e1, r1⟩ := r.at_ j d' e
    exact ⟨w, by rw [List.getElem?_set_ne (Ne.symm hj)]; exact e1, r1⟩
theorem ERel.unset {G : Gd} {Z φ : List Addr} {H : Hp} {σ : L2.St} {ρ : Sl} (r : ERel G Z φ H σ ρ) (i : Nat) : ERel G Z φ H (σ.set i none) (ρ.set i none) := by
  refine ⟨by rw [List.length_set, List.length_set]; exact r.len, fun j d' e => ?_⟩
  by_cases hj : j = i
  · subst hj
    by_cases hl : j < ρ.length
    · rw [List.getElem?_set_self hl] at e; cases e
    · rw [List.getElem?_eq_none (by simpa using hl)] at e; cases e
  · rw [List.getElem?_set_ne (Ne.symm hj)] at e
    obtain ⟨w, e1, r1⟩ := r.at_ j d' e
    exact ⟨w, by rw [List.getElem?_set_ne (Ne.symm hj)]; exact e1, r1⟩
theorem ERel.wipe {G : Gd} {Z φ : List Addr} {H : Hp} {σ : L2.St} {ρ : Sl} (r : ERel G Z φ H σ ρ) : ∀ (vs : List Nat), ERel G Z φ H (wipe σ vs) (wipeD ρ vs)
  | [] => r
  | v :: vs => (ERel.wipe r vs).unset v
theorem wipe_in {σ : L2.St} {i : Nat} : ∀ {vs : List Nat}, i ∈ vs → i < σ.length → (wipe σ vs)[i]? = some none
  | [], h, _ => by simp at h
  | v :: vs, h, hl => by
    unfold wipe
    by_cases e : v = i
    · subst e
      rw [List.getElem?_set_self (by rw [wipe_length]; exact hl)]
    · rw [List.getElem?_set_ne e]
      refine wipe_in ?_ hl
      rcases List.mem_cons.mp h with z | z
      · exact absurd z.symm e
      · exact z
theorem wipe_same {σ τ : L2.St} {vs : List Nat} (hl : σ.length = τ.length) (h : ∀ i, i ∉ vs → σ[i]? = τ[i]?) : wipe σ vs = wipe τ vs := by
  apply List.ext_getElem?
  intro i
  by_cases hi : i ∈ vs
  · by_cases hb : i < σ.length
    · rw [wipe_in hi hb, wipe_in hi (by rw [← hl]; exact hb)]
    · rw [List.getElem?_eq_none (by rw [wipe_length]; omega), List.getElem?_eq_none (by rw [wipe_length]; omega)]
  · rw [wipe_out hi, wipe_out hi]; exact h i hi
theorem wipe_wipe {σ : L2.St} {vs : List Nat} : wipe (wipe σ vs) vs = wipe σ vs := wipe_same (wipe_length σ vs) fun i hi => wipe_out hi
section
variable {P : PCtx} {G : Gd} {S : Sg} {Γ : Cxt} {X : Cx} {W : WX}
mutual
theorem tg_ok (x : XOk P G S Γ X W) : ∀ {t : Tg} {e : Expr}, chkTg Γ t e = true → PG X e (RG G t) ∧ ∀ es, assignEach (e :: es) X.env = (false, assign e X.env) :: assignEach es X.env
  | .name i, .Name n p, h => by
    unfold chkTg at h
    simp only [Bool.and_eq_true, decide_eq_true_eq, List.contains_iff_mem] at h
    obtain ⟨h1, h2⟩ := x.loc n h.2
    refine ⟨⟨fun pins s σ H v u Q I r ⟨Z, φ, ρ, d, ρ', er, rv, e, k⟩ => ?_⟩, fun _ => rfl⟩
    refine (pg_name (i := i) (by rw [x.N]; exact x.N ▸ x.nd) (by rw [x.N]; exact h.1) h1 h2).run pins s σ H v u Q I r ?_
    simp only [bindT, Option.some.injEq] at e
    subst e
    exact k _ ⟨er.set rv i, by rw [List.length_set], fun j hj => List.getElem?_set_ne (fun z => hj (by simp [tgN, z]))⟩
  | .tup ts, .Tuple es n p, h => by
    unfold chkTg at h
    obtain ⟨h1, h2, h3⟩ := tgs_ok x h
    refine ⟨⟨fun pins s σ H v u Q I r ⟨Z, φ, ρ, d, ρ', er, rv, e, k⟩ => ?_⟩, fun _ => rfl⟩
    have bl : ∀ (ts : List Tg) (ds : List D) (ρ ρ' : Sl), bindTs ts ds ρ = some ρ' → ds.length = ts.length := by
      intro ts
      induction ts with
      | nil => intro ds ρ ρ' h; cases ds <;> simp [bindTs] at h ⊢
      | cons t ts ih =>
        intro ds ρ ρ' h
        cases ds with
        | nil => simp [bindTs] at h
        | cons d ds =>
          simp only [bindTs] at h
          obtain ⟨ρ1, _, h2⟩ := Option.bind_eq_some_iff.mp h
          simp [ih ds ρ1 ρ' h2]
    cases d with
    | tup ds =>
      simp only [bindT] at e
      refine (pg_tup x.calm h1 (n := ts.length) h2 h3).run pins s σ H v u Q I r ?_
      obtain ⟨a, vs, rfl, q, rs⟩ := rv.of_tup
      exact ⟨a, vs, rfl, by rw [← x.hK]; exact q, rs.length.trans (bl ts ds ρ ρ' e), Z, φ, ρ, ds, ρ', er, rs, e, fun σ' t' => k σ' t'⟩
    | lst ds =>
      simp only [bindT] at e
      refine (pg_lst x.calm h1 (n := ts.length) h2 h3).run pins s σ H v u Q I r ?_
      obtain ⟨a, vs, rfl, q, rs⟩ := rv.of_lst
      exact ⟨a, vs, rfl, .inl q, rs.length.trans (bl ts ds ρ ρ' e), Z, φ, ρ, ds, ρ', er, rs, e, fun σ' t' => k σ' t'⟩
    | _ => simp [bindT] at e
  | .name _, .Tuple .., h => by simp [chkTg] at h
  | .tup _, .Name .., h => by simp [chkTg] at h
  | .name _, .Constant .., h => by simp [chkTg] at h
theorem tgs_ok (x : XOk P G S Γ X W) : ∀ {ts : List Tg} {es : List Expr}, chkTg.chkTgs Γ ts es = true → PGs X es (RGs G ts) ∧ (assignEach es X.env).length = ts.length ∧ (assignEach es X.env).findIdx? (·.1) = none
  | [], [], _ => by
    refine ⟨⟨fun pins s σ H vs us Q I r ⟨Z, φ, ρ, ds, ρ', er, rv, e, k⟩ => ?_⟩, rfl, rfl⟩
    refine pgs_nil.run pins s σ H vs us Q I r ?_
    cases ds with
    | nil =>
      cases rv
      simp only [bindTs, Option.some.injEq] at e
      subst e
      exact ⟨rfl, k σ ⟨er, rfl, fun _ _ => rfl⟩⟩
    | cons _ _ => simp [bindTs] at e
  | t :: ts, e :: es, h => by
    unfold chkTg.chkTgs at h
    simp only [Bool.and_eq_true] at h
    obtain ⟨h1, h2⟩ := tg_ok x h.1
    obtain ⟨h3, h4, h5⟩ := tgs_ok x h.2
    have he := h2 es
    refine ⟨⟨fun pins s σ H vs us Q I r ⟨Z, φ, ρ, ds, ρ', er, rv, e, k⟩ => ?_⟩, by rw [he, List.length_cons, h4, List.length_cons], by rw [he, List.findIdx?_cons, h5]; rfl⟩
    refine (pgs_cons h1 h3 (by rw [he]; rfl)).run pins s σ H vs us Q I r ?_
    cases rv with
    | nil => simp [bindTs] at e
    | cons rv rvs =>
      simp only [bindTs] at e
      obtain ⟨ρ1, e1, e2⟩ := Option.bind_eq_some_iff.mp e
      refine ⟨_, _, rfl, Z, φ, ρ, _, ρ1, er, rv, e1, fun σ1 t1 => ⟨Z, φ, ρ1, _, ρ', t1.er, rvs, e2, fun σ2 t2 => k σ2 ⟨t2.er, t2.len.trans t1.len, fun i hi => ?_⟩⟩⟩
      have hi1 : i ∉ tgN t := fun z => hi (by rw [tgNs]; exact List.mem_append_left _ z)
      have hi2 : i ∉ tgNs ts := fun z => hi (by rw [tgNs]; exact List.mem_append_right _ z)
      exact (t2.out i hi2).trans (t1.out i hi1)
  | [], _ :: _, h => by simp [chkTg.chkTgs] at h
  | _ :: _, [], h => by simp [chkTg.chkTgs] at h
end
end
/-! ### iterators by the syntax -/
section
variable {P : PCtx} {G : Gd} {S : Sg} {Γ : Cxt} {X : Cx} {W : WX} {tg : Expr}
theorem si_val (x : XOk P G S Γ X W) {e : Ex} {l : Expr} (h : PE X l (RE G W fun E => wpE S E e)) : PI X tg l (RI G W fun E => wpI S E (.val e)) := by
  refine pi_imp (pi_dyn h) fun σ H R ⟨Z, φ, ρ, μ, E, Qp, at_, w, k⟩ => ?_
  simp only [wpI] at w
  refine ⟨Z, φ, ρ, μ, E, _, at_, w, fun d μ1 w1 v φ1 H1 r1 c1 g1 => ?_⟩
  obtain ⟨p, e, q⟩ := opt_iff.mp w1
  have seq : seqPlan μ1 d = some p → _ := fun e' => r1.lseq c1 e'
  have go : seqPlan μ1 d = some p → (∃ a, v = .ref a ∧ (∃ xs, SqL X.K H1 a xs) ∧ R (Itl X.K a) H1) ∨ (∃ a, v = .ref a ∧ (∃ xs, SqT X.K H1 a xs) ∧ R (Itt X.K a) H1) ∨ ∃ x, v = .str x ∧ R (Its x) H1 := fun e' => by
    have gd : p.guard μ1 := by
      cases d with
      | ref i =>
        cases z : μ1[i]? with
        | none => simp [valPlan, z] at e
        | some k =>
          cases k with
          | lst xs => simp only [valPlan, z, Option.some.injEq] at e; subst e; exact z
          | dct _ _ => simp [valPlan, z] at e
          | ins _ _ => simp [valPlan, z] at e
      | tup xs => simp only [valPlan, Option.some.injEq] at e; subst e; trivial
      | lst xs => simp only [valPlan, Option.some.injEq] at e; subst e; trivial
      | scr xs => simp only [valPlan, Option.some.injEq] at e; subst e; trivial
      | _ => simp [seqPlan, valPlan] at e'
    obtain ⟨a, rfl, ⟨_, s⟩ | ⟨_, s⟩⟩ := r1.lseq c1 e'
    · obtain ⟨vs, hq, _⟩ := s Z φ1 H1 μ1 ZUp.refl (Grow.refl _ _) c1 gd
      rw [x.hK] at hq
      exact .inl ⟨a, rfl, ⟨vs, hq⟩, by rw [← x.hK]; exact k p μ1 q _ φ1 H1 s.it c1 g1⟩
    · obtain ⟨vs, hq, _⟩ := s Z φ1 H1 μ1 ZUp.refl (Grow.refl _ _) c1 gd
      rw [x.hK] at hq
      exact .inr (.inl ⟨a, rfl, ⟨vs, hq⟩, by rw [← x.hK]; exact k p μ1 q _ φ1 H1 s.it c1 g1⟩)
  cases d with
  | str t =>
    simp only [valPlan, Option.some.injEq] at e
    subst e
    exact .inr (.inr ⟨_, r1.of_str, k _ μ1 q _ φ1 H1 str_it c1 g1⟩)
  | tup xs => exact go e
  | lst xs => exact go e
  | scr xs => exact go e
  | ref i => exact go e
  | _ => simp [valPlan] at e
theorem guard_now {μ : Store} {d : D} {p : Plan} (e : seqPlan μ d = some p) : p.guard μ := by
  cases d with
  | ref i =>
    cases z : μ[i]? with
    | none => simp [seqPlan, valPlan, z] at e
    | some k =>
      cases k with
      | lst xs => simp only [seqPlan, valPlan, z, Option.some.injEq] at e; subst e; exact z
      | dct _ _ => simp [seqPlan, valPlan, z] at e
      | ins _ _ => simp [seqPlan, valPlan, z] at e
  | tup xs => simp only [seqPlan, valPlan, Option.some.injEq] at e; subst e; trivial
  | lst xs => simp only [seqPlan, valPlan, Option.some.injEq] at e; subst e; trivial
  | scr xs => simp only [seqPlan, valPlan, Option.some.injEq] at e; subst e; trivial
  | _ => simp [seqPlan, valPlan] at e
theorem si_enum (x : XOk P G S Γ X W) {e : Ex} {a : Expr} {n : Str} {p q pos : Pos} {elts : List Expr} {kk : Nat} (hb : isB P Γ ("enumerate" : Str) = true) (hs : noStar a = true) (h : PE X a (RE G W fun E => wpE S E e)) :
    PI X (.Tuple elts kk q) (.Call (.Name "enumerate" p) [a] [] pos) (RI G W fun E => wpI S E (.enum e)) := by
  obtain ⟨hm, hg⟩ := x.bi hb
  refine pi_imp (pi_enumA hg hm (pa_cons h pa_nil (star_cons hs)) (star_cons hs)) fun σ H R ⟨Z, φ, ρ, μ, E, Qp, at_, w, k⟩ => ?_
  simp only [wpI] at w
  refine ⟨Z, φ, ρ, μ, E, _, at_, w, fun d μ1 w1 v φ1 H1 r1 c1 g1 => ?_⟩
  obtain ⟨p, e, q⟩ := opt_iff.mp w1
  have gd := guard_now e
  obtain ⟨a, rfl, ⟨_, s⟩ | ⟨_, s⟩⟩ := r1.lseq c1 e
  · obtain ⟨vs, hq, _⟩ := s Z φ1 H1 μ1 ZUp.refl (Grow.refl _ _) c1 gd
    rw [x.hK] at hq
    exact ⟨a, vs, rfl, .inl ⟨hq, by rw [← x.hK]; exact k _ μ1 q _ φ1 H1 s.enum c1 g1⟩⟩
  · obtain ⟨vs, hq, _⟩ := s Z φ1 H1 μ1 ZUp.refl (Grow.refl _ _) c1 gd
    rw [x.hK] at hq
    exact ⟨a, vs, rfl, .inr ⟨hq, by rw [← x.hK]; exact k _ μ1 q _ φ1 H1 s.enum c1 g1⟩⟩
theorem si_zip (x : XOk P G S Γ X W) {e f : Ex} {a b : Expr} {n : Str} {p q pos : Pos} {elts : List Expr} {kk : Nat} (hb : isB P Γ ("zip" : Str) = true) (hs : noStar a = true) (hs2 : noStar b = true) (h : PE X a (RE G W fun E => wpE S E e)) (h2 : PE X b (RE G W fun E => wpE S E f)) :
    PI X (.Tuple elts kk q) (.Call (.Name "zip" p) [a, b] [] pos) (RI G W fun E => wpI S E (.zip e f)) := by
  obtain ⟨hm, hg⟩ := x.bi hb
  refine pi_imp (RZ.pi_zipA hg hm (pa_cons h (pa_cons h2 pa_nil (star_cons hs2)) (star_cons hs)) (star_cons hs) (star_plain (by simp [hs2]))) fun σ H R ⟨Z, φ, ρ, μ, E, Qp, at_, w, k⟩ => ?_
  simp only [wpI] at w
  refine ⟨Z, φ, ρ, μ, E, _, at_, w, fun d μ1 w1 v φ1 H1 r1 c1 g1 => ?_⟩
  refine ⟨Z, φ1, ρ, μ1, E, _, at_.step c1 g1, w1, fun d' μ2 w2 v' φ2 H2 r2 c2 g2 => ?_⟩
  obtain ⟨pl, e, qq⟩ := opt_iff.mp w2
  unfold zipD at e
  obtain ⟨p1, e1, e⟩ := Option.bind_eq_some_iff.mp e
  obtain ⟨p2, e2, e⟩ := Option.bind_eq_some_iff.mp e
  rw [Option.ite_none_right_eq_some] at e
  obtain ⟨hk, e⟩ := e
  cases e
  have gd1 := guard_now e1
  have gd2 := guard_now e2
  obtain ⟨a1, rfl, s1⟩ := (r1.grow g2).lseq c2 e1
  obtain ⟨a2, rfl, s2⟩ := r2.lseq c2 e2
  rcases s1 with ⟨k1, s1⟩ | ⟨k1, s1⟩
  · rcases s2 with ⟨k2, s2⟩ | ⟨k2, s2⟩
    · obtain ⟨vs, hq, _⟩ := s1 Z φ2 H2 μ2 ZUp.refl (Grow.refl _ _) c2 gd1
      obtain ⟨ws, hq2, _⟩ := s2 Z φ2 H2 μ2 ZUp.refl (Grow.refl _ _) c2 gd2
      rw [x.hK] at hq hq2
      exact ⟨a1, a2, vs, ws, rfl, .inl ⟨hq, hq2, by rw [← x.hK]; exact k _ μ2 qq _ φ2 H2 (s1.zip s2) c2 (g1.trans g2)⟩⟩
    · rw [k1, k2] at hk; cases hk
  · rcases s2 with ⟨k2, s2⟩ | ⟨k2, s2⟩
    · rw [k1, k2] at hk; cases hk
    · obtain ⟨vs, hq, _⟩ := s1 Z φ2 H2 μ2 ZUp.refl (Grow.refl _ _) c2 gd1
      obtain ⟨ws, hq2, _⟩ := s2 Z φ2 H2 μ2 ZUp.refl (Grow.refl _ _) c2 gd2
      rw [x.hK] at hq hq2
      exact ⟨a1, a2, vs, ws, rfl, .inr ⟨hq, hq2, by rw [← x.hK]; exact k _ μ2 qq _ φ2 H2 (s1.zip s2) c2 (g1.trans g2)⟩⟩
theorem small62_and {i : Int} (h : small62 i = true) : -(2 ^ 62) ≤ i ∧ i < 2 ^ 62 := by
  unfold small62 at h
  simp only [Bool.and_eq_true, decide_eq_true_eq] at h
  omega
theorem si_rng (x : XOk P G S Γ X W) {es : Exs} {as : List Expr} {p pos : Pos} (hb : isB P Γ ("range" : Str) = true) (hl : (as.length == 1 || as.length == 2) = true) (hs : as.all noStar = true) (h : PEs G S X W es as) :
    PI X tg (.Call (.Name "range" p) as [] pos) (RI G W fun E => wpI S E (.rng es)) := by
  obtain ⟨hm, hg⟩ := x.bi hb
  match as, hl with
  | [a], _ =>
    simp only [List.all_cons, List.all_nil, Bool.and_true] at hs
    obtain ⟨e1, rfl, h1⟩ := PEs.one h
    refine pi_imp (pi_range1 hg hm (pa_cons h1 pa_nil (star_cons hs)) (star_cons hs)) fun σ H R ⟨Z, φ, ρ, μ, E, Qp, at_, w, k⟩ => ?_
    simp only [wpI, wpEs] at w
    refine ⟨Z, φ, ρ, μ, E, _, at_, w, fun d μ1 w1 v φ1 H1 r c1 g1 => ?_⟩
    obtain ⟨pl, e, q⟩ := opt_iff.mp w1
    cases d with
    | int j =>
      simp only [rngPlan, Option.ite_none_right_eq_some, Option.some.injEq] at e
      obtain ⟨hj, rfl⟩ := e
      obtain ⟨h1, h2⟩ := small62_and hj
      exact ⟨j, by rw [r.of_int], h1, h2, k _ μ1 q _ φ1 H1 rng_it c1 g1⟩
    | _ => simp [rngPlan] at e
  | [a, b], _ =>
    simp only [List.all_cons, List.all_nil, Bool.and_true, Bool.and_eq_true] at hs
    obtain ⟨e1, e2, rfl, h1, h2⟩ := PEs.two h
    refine pi_imp (pi_range2 hg hm (pa_cons h1 (pa_cons h2 pa_nil (star_cons hs.2)) (star_cons hs.1)) (by rw [star_cons hs.1, star_cons hs.2]; rfl) (star_cons hs.2)) fun σ H R ⟨Z, φ, ρ, μ, E, Qp, at_, w, k⟩ => ?_
    simp only [wpI, wpEs] at w
    refine ⟨Z, φ, ρ, μ, E, _, at_, w, fun d μ1 w1 v φ1 H1 r1 c1 g1 => ?_⟩
    refine ⟨Z, φ1, ρ, μ1, E, _, at_.step c1 g1, w1, fun d' μ2 w2 v' φ2 H2 r2 c2 g2 => ?_⟩
    obtain ⟨pl, e, q⟩ := opt_iff.mp w2
    cases d with
    | int i =>
      cases d' with
      | int j =>
        simp only [rngPlan, Option.ite_none_right_eq_some, Option.some.injEq, Bool.and_eq_true] at e
        obtain ⟨⟨hi, hj⟩, rfl⟩ := e
        obtain ⟨h1, h2⟩ := small62_and hj
        obtain ⟨h3, h4⟩ := small62_and hi
        exact ⟨i, j, by rw [r1.of_int, r2.of_int], ⟨h3, h4, h1, h2⟩, k _ μ2 q _ φ2 H2 rng_it c2 (g1.trans g2)⟩
      | _ => simp [rngPlan] at e
    | _ => simp [rngPlan] at e
end
end PY

set_option Elab.async false
set_option linter.all false
set_option maxRecDepth 100000
set_option maxHeartbeats 4000000
/-! PY, part m: comprehensions. -/
namespace PY
open PySem PySem.Spec PyProof.Rows L2
theorem upd_self {H : Hp} {a : Addr} {o : HO} (h : H a = some o) : L2.upd H a o = H := by
  funext b
  by_cases e : b = a
  · subst e; rw [upd_same, h]
  · rw [upd_ne e]
section
variable {G : Gd} {Z φ φ' : List Addr} {H H' : Hp}
/-- what was free is written behind it -/
theorem Grow.mkW {p : Addr} {o : HO} (g : Grow φ H φ' H') (h : H p = none) : Grow φ H φ' (L2.upd H' p o) :=
  ⟨fun a u e n => by rw [upd_ne (ne_of_none e h)]; exact g.keep a u e n, g.new, g.pre⟩
theorem Grow.mkC {p : Addr} (g : Grow φ H φ' H') (h : H p = none) : Grow φ H (φ' ++ [p]) H' :=
  ⟨g.keep, fun a ha => by
    rcases List.mem_append.mp ha with z | z
    · exact g.new a z
    · rw [List.mem_singleton.mp z]; exact .inr h, fun i a e => by
    have := g.pre i a e
    rw [List.getElem?_append_left (List.getElem?_eq_some_iff.mp this).1]; exact this⟩
end
section
variable {P : PCtx} {G : Gd} {S : Sg} {Γ : Cxt} {X : Cx} {W : WX}
abbrev NoX : XD → Store → Prop := fun _ _ => False
abbrev NoW : WX := fun _ _ _ _ => False
theorem lk_no {Z : List Addr} {W : WX} {σ : L2.St} {φ : List Addr} {H : Hp} : Lk G Z W NoX σ φ H := fun _ _ h => h.elim
theorem tlc_of {it : Itx} {tg : Tg} {cond : Exs} {elt : Ex} {own : List Nat} {m : Bool} (ht : ∀ i ∈ tgN tg, i ∈ own) {σ : L2.St} {H : Hp} {Q : VK}
    (h : RE G W (fun E => wpE S E (.comp m elt tg it cond own)) σ H Q) :
    tLc (RI G W fun E => wpI S E it) (RG G tg) (RT G NoW fun _ => wpC S cond) (RE G NoW fun E => wpE S E elt) own σ H Q := by
  obtain ⟨Z, φ, ρ, μ, E, Qd, at_, w, k⟩ := h
  simp only [wpE] at w
  refine ⟨Z, φ, ρ, μ, E, _, at_, w, fun p μ1 w1 J φ1 H1 itk c1 g1 => ?_⟩
  intro D hD
  have fD := c1.fresh hD
  refine ⟨fun i m' H' => m' = p.items.length - i ∧ i ≤ p.items.length ∧ ∃ φ' μ' acc dacc, H' D = some (.lst acc) ∧ Reps G (D :: Z) φ' H' acc dacc ∧ CRel G (D :: Z) φ' H' μ' ∧ Grow φ1 H1 φ' H' ∧
      compTurns (fun d μ' R => opt (bindT tg d (wipeD ρ own)) fun ρ' => wpC S cond ρ' μ' fun t μ'' => if t = true then wpE S NoX elt ρ' μ'' fun x => R (some x) else R none μ'') p.guard (p.items.drop i) μ' dacc (fun xs μ2 => Qd (newL m xs μ2).1 (newL m xs μ2).2), ⟨_, rfl, Nat.zero_le _, φ1, μ1, [], [], upd_same, .nil, c1.making hD, (Grow.refl _ _).mkW hD, by rw [List.drop_zero]; exact w1⟩, ?_⟩
  rintro i m' H' ⟨rfl, hi, φ', μ', acc, dacc, hacc, racc, c', g', turn⟩
  have nD : D ∉ φ' := fun z => c'.nz D z List.mem_cons_self
  by_cases hlt : i < p.items.length
  · right
    rw [List.drop_eq_getElem_cons hlt] at turn
    obtain ⟨gd, turn⟩ := turn
    refine ⟨itk.go (D :: Z) φ' H' μ' (.cons hD) g' c' gd i hlt, fun H'' => i + 1 ≤ p.items.length ∧ ∃ φ' μ' acc dacc, H'' D = some (.lst acc) ∧ Reps G (D :: Z) φ' H'' acc dacc ∧ CRel G (D :: Z) φ' H'' μ' ∧ Grow φ1 H1 φ' H'' ∧ compTurns _ p.guard (p.items.drop (i + 1)) μ' dacc _, fun H'' q => ⟨p.items.length - (i + 1), by omega, rfl, q.1, q.2⟩, fun x H2 y => ?_⟩
    obtain ⟨d, ed, rd, c2, g2⟩ := itk.yld (D :: Z) φ' H' μ' (.cons hD) g' c' gd i x H2 hlt y
    have e2 : d = p.items[i] := by rw [List.getElem?_eq_getElem hlt] at ed; exact (Option.some.inj ed).symm
    subst e2
    obtain ⟨ρ', eb, turn⟩ := opt_iff.mp turn
    refine ⟨D :: Z, φ', wipeD ρ own, _, ρ', ((at_.er.grow g1).lift (.cons hD) (g'.trans g2)).wipe own, rd, eb, fun σ2 t2 => ⟨?_, ?_⟩⟩
    · exact (wipe_same (t2.len) fun j hj => t2.out j fun z => hj (ht j z)).trans wipe_wipe
    · refine ⟨D :: Z, φ', ρ', μ', NoX, _, ⟨t2.er, c2, lk_no⟩, turn, fun b μ3 wb φ3 H3 c3 g3 => ?_⟩
      cases b with
      | true =>
        rw [if_pos rfl]
        rw [if_pos rfl] at wb
        refine ⟨D :: Z, φ3, ρ', μ3, NoX, _, ⟨t2.er.grow g3, c3, lk_no⟩, wb, fun z μ4 wz v φ4 H4 r4 c4 g4 => ?_⟩
        have hz := (g2.trans (g3.trans g4)).keep D _ hacc nD
        have gall := g'.trans (g2.trans (g3.trans g4))
        have racc4 := racc.grow (g2.trans (g3.trans g4))
        refine ⟨acc, hz, ?_, ?_, φ4, μ4, acc ++ [v], dacc ++ [z], upd_same, ?_, c4.mkWrite List.mem_cons_self, gall.mkW hD, ?_⟩
        · rw [← sz_eq, racc.length]; exact wz.1
        · omega
        · exact (racc4.append (.cons r4 .nil)).made List.mem_cons_self Mk.write
        · exact wz.2
      | false =>
        rw [if_neg (by simp)]
        rw [if_neg (by simp)] at wb
        refine ⟨by omega, φ3, μ3, acc, dacc, (g2.trans g3).keep D _ hacc nD, racc.grow (g2.trans g3), c3, g'.trans (g2.trans g3), wb⟩
  · left
    have e : i = p.items.length := by omega
    subst e
    rw [List.drop_length] at turn
    obtain ⟨gd, turn⟩ := turn
    refine ⟨itk.stop (D :: Z) φ' H' μ' (.cons hD) g' c' gd, ?_⟩
    cases m with
    | false =>
      exact k _ _ turn _ φ' H' (.lst ⟨.inl hacc, nD, fD.2⟩ (racc.made List.mem_cons_self Mk.drop)) c'.drop (g1.trans g')
    | true =>
      have hs := upd_self hacc
      have c2 : CRel G Z (φ' ++ [D]) H' (μ' ++ [.lst dacc]) := by
        have q : CRel G Z (φ' ++ [D]) (L2.upd H' D (.lst acc)) (μ' ++ [.lst dacc]) := c'.mkCell fD.2 (.lst upd_same (racc.made List.mem_cons_self Mk.cell))
        rw [hs] at q; exact q
      refine k _ _ turn _ (φ' ++ [D]) H' (.ref ?_) c2 (g1.trans (g'.mkC hD))
      rw [← c'.len, List.getElem?_append_right (Nat.le_refl _), Nat.sub_self]
      rfl
end
end PY

set_option Elab.async false
set_option linter.all false
set_option maxRecDepth 100000
set_option maxHeartbeats 8000000
/-! PY, part n: expressions: chk is sound. -/
namespace PY
open PySem PySem.Spec PyProof.Rows L2
theorem argsOf_fit {P : PCtx} {Γ : Cxt} {f : Prim} {x : Expr} {xs : List Expr} (h : argsOf P Γ f x = some xs) : noStar x = true ∧ noSlice x = true := by
  unfold argsOf at h
  split at h <;> first | exact ⟨rfl, rfl⟩ | cases h
theorem chk_fit {P : PCtx} {Γ : Cxt} {e : Ex} {x : Expr} (h : chkE P Γ e x = true) : noStar x = true ∧ noSlice x = true := by
  cases e with
  | prim f es =>
    unfold chkE at h
    cases q : argsOf P Γ f x with
    | some xs => exact argsOf_fit q
    | none => rw [q] at h; cases h
  | _ =>
    unfold chkE at h
    split at h <;> first | exact ⟨rfl, rfl⟩ | cases h
theorem chks_fit {P : PCtx} {Γ : Cxt} : ∀ {es : Exs} {xs : List Expr}, chkEs P Γ es xs = true → xs.all noStar = true ∧ xs.all noSlice = true
  | .nil, xs, h => by
    unfold chkEs at h
    cases xs with
    | nil => exact ⟨rfl, rfl⟩
    | cons _ _ => cases h
  | .cons e es, xs, h => by
    unfold chkEs at h
    cases xs with
    | nil => cases h
    | cons x xs =>
      simp only [Bool.and_eq_true] at h
      obtain ⟨h1, h2⟩ := chk_fit h.1
      obtain ⟨h3, h4⟩ := chks_fit h.2
      exact ⟨by rw [List.all_cons, h1, h3]; rfl, by rw [List.all_cons, h2, h4]; rfl⟩
section
variable {P : PCtx} {G : Gd} {S : Sg} {Γ : Cxt} {X : Cx} {W : WX}
def PTss (G : Gd) (S : Sg) (X : Cx) (W : WX) : Exs → List Expr → Prop
  | .nil, [] => True
  | .cons e es, x :: xs => PT X x (RT G W fun E => wpT S E e) ∧ PTss G S X W es xs
  | _, _ => False
/-- a test by the value's truth -/
theorem pt_tru (x : XOk P G S Γ X W) {e : Ex} {a : Expr} (ha : PE X a (RE G W fun E => wpE S E e)) (hp : plainT a = true) {wt : (XD → Store → Prop) → Sl → Store → (Bool → Store → Prop) → Prop}
    (hw : ∀ E ρ μ Q, wt E ρ μ Q → wpE S E e ρ μ fun d μ' => opt (truthD μ' d) fun b => Q b μ') : PT X a (RT G W wt) := by
  refine pt_imp (pt_truth ha (plainT_of hp)) fun σ H Q ⟨Z, φ, ρ, μ, E, Qd, at_, w, k⟩ => ?_
  refine ⟨Z, φ, ρ, μ, E, _, at_, hw _ _ _ _ w, fun d μ1 w1 v φ1 H1 r1 c1 g1 => ?_⟩
  obtain ⟨b, e1, q⟩ := opt_iff.mp w1
  exact ⟨b, tru_of x.hK c1 r1 e1, k b μ1 q φ1 H1 c1 g1⟩
theorem and_ok (x : XOk P G S Γ X W) {pos : Pos} : ∀ {es : Exs} {xs : List Expr}, PEs G S X W es xs → lenNot0 es = true → PE X (.BoolOp .And xs pos) (RE G W fun E => wpAnd S E es)
  | .cons e .nil, [a], h, _ => pe_imp (pe_one h.1) fun σ H Q q => by simpa only [wpAnd] using q
  | .cons e (.cons e' es), a :: b :: r, h, _ => by
    refine pe_imp (pe_andT h.1 (and_ok x h.2 rfl)) fun σ H Q ⟨Z, φ, ρ, μ, E, Qd, at_, w, k⟩ => ?_
    simp only [wpAnd] at w
    refine ⟨Z, φ, ρ, μ, E, _, at_, w, fun d μ1 w1 v φ1 H1 r1 c1 g1 => ?_⟩
    obtain ⟨t, e1, q⟩ := opt_iff.mp w1
    refine ⟨t, tru_of x.hK c1 r1 e1, ?_⟩
    cases t with
    | true =>
      rw [if_pos rfl] at q ⊢
      exact ⟨Z, φ1, ρ, μ1, E, _, at_.step c1 g1, q, fun d2 μ2 q2 v2 φ2 H2 r2 c2 g2 => k d2 μ2 q2 v2 φ2 H2 r2 c2 (g1.trans g2)⟩
    | false =>
      rw [if_neg (by simp)] at q ⊢
      exact k d μ1 q v φ1 H1 r1 c1 g1
  | .nil, _, _, h => by cases h
  | .cons _ .nil, [], h, _ => h.elim
  | .cons _ .nil, _ :: _ :: _, h, _ => h.2.elim
  | .cons _ (.cons _ _), [], h, _ => h.elim
  | .cons _ (.cons _ _), [_], h, _ => h.2.elim
theorem or_ok (x : XOk P G S Γ X W) {pos : Pos} : ∀ {es : Exs} {xs : List Expr}, PEs G S X W es xs → lenNot0 es = true → PE X (.BoolOp .Or xs pos) (RE G W fun E => wpOr S E es)
  | .cons e .nil, [a], h, _ => pe_imp (pe_one h.1) fun σ H Q q => by simpa only [wpOr] using q
  | .cons e (.cons e' es), a :: b :: r, h, _ => by
    refine pe_imp (pe_orT h.1 (or_ok x h.2 rfl)) fun σ H Q ⟨Z, φ, ρ, μ, E, Qd, at_, w, k⟩ => ?_
    simp only [wpOr] at w
    refine ⟨Z, φ, ρ, μ, E, _, at_, w, fun d μ1 w1 v φ1 H1 r1 c1 g1 => ?_⟩
    obtain ⟨t, e1, q⟩ := opt_iff.mp w1
    refine ⟨t, tru_of x.hK c1 r1 e1, ?_⟩
    cases t with
    | true =>
      rw [if_pos rfl] at q ⊢
      exact k d μ1 q v φ1 H1 r1 c1 g1
    | false =>
      rw [if_neg (by simp)] at q ⊢
      exact ⟨Z, φ1, ρ, μ1, E, _, at_.step c1 g1, q, fun d2 μ2 q2 v2 φ2 H2 r2 c2 g2 => k d2 μ2 q2 v2 φ2 H2 r2 c2 (g1.trans g2)⟩
  | .nil, _, _, h => by cases h
  | .cons _ .nil, [], h, _ => h.elim
  | .cons _ .nil, _ :: _ :: _, h, _ => h.2.elim
  | .cons _ (.cons _ _), [], h, _ => h.elim
  | .cons _ (.cons _ _), [_], h, _ => h.2.elim
theorem tand_ok {pos : Pos} : ∀ {es : Exs} {xs : List Expr}, PTss G S X W es xs → lenNot0 es = true → PW X (.BoolOp .And xs pos) (RT G W fun E => wpTAnd S E es)
  | .cons e .nil, [a], h, _ => pw_imp (pw_and1 h.1) fun σ H Q q => by simpa only [wpTAnd] using q
  | .cons e (.cons e' es), a :: b :: r, h, _ => by
    refine pw_imp (pw_and h.1 (tand_ok h.2 rfl)) fun σ H Q ⟨Z, φ, ρ, μ, E, Qd, at_, w, k⟩ => ?_
    simp only [wpTAnd] at w
    refine ⟨Z, φ, ρ, μ, E, _, at_, w, fun t μ1 q φ1 H1 c1 g1 => ?_⟩
    cases t with
    | true =>
      rw [if_pos rfl] at q ⊢
      exact ⟨Z, φ1, ρ, μ1, E, _, at_.step c1 g1, q, fun d2 μ2 q2 φ2 H2 c2 g2 => k d2 μ2 q2 φ2 H2 c2 (g1.trans g2)⟩
    | false =>
      rw [if_neg (by simp)] at q ⊢
      exact k _ μ1 q φ1 H1 c1 g1
  | .nil, _, _, h => by cases h
  | .cons _ .nil, [], h, _ => h.elim
  | .cons _ .nil, _ :: _ :: _, h, _ => h.2.elim
  | .cons _ (.cons _ _), [], h, _ => h.elim
  | .cons _ (.cons _ _), [_], h, _ => h.2.elim
theorem tor_ok {pos : Pos} : ∀ {es : Exs} {xs : List Expr}, PTss G S X W es xs → lenNot0 es = true → PW X (.BoolOp .Or xs pos) (RT G W fun E => wpTOr S E es)
  | .cons e .nil, [a], h, _ => pw_imp (pw_or1 h.1) fun σ H Q q => by simpa only [wpTOr] using q
  | .cons e (.cons e' es), a :: b :: r, h, _ => by
    refine pw_imp (pw_or h.1 (tor_ok h.2 rfl)) fun σ H Q ⟨Z, φ, ρ, μ, E, Qd, at_, w, k⟩ => ?_
    simp only [wpTOr] at w
    refine ⟨Z, φ, ρ, μ, E, _, at_, w, fun t μ1 q φ1 H1 c1 g1 => ?_⟩
    cases t with
    | true =>
      rw [if_pos rfl] at q ⊢
      exact k _ μ1 q φ1 H1 c1 g1
    | false =>
      rw [if_neg (by simp)] at q ⊢
      exact ⟨Z, φ1, ρ, μ1, E, _, at_.step c1 g1, q, fun d2 μ2 q2 φ2 H2 c2 g2 => k d2 μ2 q2 φ2 H2 c2 (g1.trans g2)⟩
  | .nil, _, _, h => by cases h
  | .cons _ .nil, [], h, _ => h.elim
  | .cons _ .nil, _ :: _ :: _, h, _ => h.2.elim
  | .cons _ (.cons _ _), [], h, _ => h.elim
  | .cons _ (.cons _ _), [_], h, _ => h.2.elim
theorem last_of {o1 o2 : CmpOp} {y z : Expr} (h : noSet z = true) : lastMarks [o1, o2] [y, z] = false := mark_of h
theorem Vals.drop' {vs : List V} {us : List Value} (h : Vals vs us) : ∀ n, Vals (vs.drop n) (us.drop n) := by
  induction h with
  | nil => intro n; cases n <;> exact .nil
  | cons r rs ih => intro n; cases n with
    | zero => exact .cons r rs
    | succ n => exact ih n
/-- a call of a def -/
theorem sn_call (x : XOk P G S Γ X W) {f : Nat} {es : Exs} {k : Nat} {n : Str} {as : List Expr} {p pos : Pos} {d : FunE} (hd : d ∈ P.funs) (hf : d.id = f) (hn : d.name = n) (hk : k ≤ d.nd) (hg : n ∈ Γ.gl) (hsp : noSpec n = true)
    (h : PEs G S X W es as) (hs : as.all noStar = true) : PE X (.Call (.Name n p) as [] pos) (RE G W fun E => wpE S E (.call f es k)) := by
  obtain ⟨len, fa, fd, ps, ds, dvs, kk, h1, h2, h3, h4, h5, h6, h7⟩ := x.fn d hd
  subst hf hn
  have gl := x.gl _ hg
  have hdb := (noSpec_and hsp).1
  have conv : ∀ {σ : L2.St} {H : Hp} {Q : VK}, RE G W (fun E => wpE S E (.call d.id es k)) σ H Q → (RA G W fun E => wpEs S E es) σ H fun vs H1 => SpOf G (S.call d.id) d.n (vs ++ dvs.drop k) H1 Q (WE W σ) := by
    intro σ H Q ⟨Z, φ, ρ, μ, E, Qd, at_, w, kq⟩
    simp only [wpE] at w
    refine ⟨Z, φ, ρ, μ, E, _, at_, w, fun ds1 μ1 w1 vs φ1 H1 r1 c1 g1 => ?_⟩
    have rr : Reps G Z φ1 H1 (vs ++ dvs.drop k) (ds1 ++ (S.dfl d.id).drop k) := r1.append ((h6 Z φ1 H1).drop k)
    refine ⟨rr.length.trans (len _ _ _ _ w1), Z, φ1, μ1, _, Qd, E, rr, c1, w1, fun d' μ' q v φ' H' r c g => kq d' μ' q v φ' H' r c (g1.trans g), fun xx μ' e cls dd φ' H' xr c g => at_.lk xx μ' e cls dd φ' H' xr c (g1.trans g)⟩
  cases as with
  | nil =>
    refine ⟨fun pins s σ H Q I hw => ?_⟩
    refine wpAny_Call_Name_kw (ld_glob I gl h1 ?_ hdb)
    have hw' := conv hw
    cases es with
    | cons _ _ => exact h.elim
    | nil =>
      obtain ⟨Z, φ, ρ, μ, E, Qd, at_, w, kq⟩ := hw'
      simp only [wpEs] at w
      have q := kq _ _ w [] φ H .nil at_.cr (Grow.refl _ _)
      exact PySem.W.callWith_K0 I.kIn h2 (run_fnSD (us := []) (E := WE W) h4 h3 (h7 k hk) (Vals.drop' h5 k) (passAt x.tk σ) I .nil q)
  | cons a as =>
    have hs' := hs
    simp only [List.all_cons, Bool.and_eq_true] at hs
    exact pe_imp (pe_callSD (E := WE W) h4 h3 gl h1 h2 (h7 k hk) (Vals.drop' h5 k) (fun σ => passAt x.tk σ) (h.pa x hs') hdb (star_cons hs.1) (star_plain hs.2)) fun σ H Q q => conv q
end
end PY

set_option Elab.async false
set_option linter.all false
set_option maxRecDepth 100000
set_option maxHeartbeats 8000000
/-! PY, part o: expressions: chk is sound (the recursion). -/
namespace PY
open PySem PySem.Spec PyProof.Rows L2
section
variable {P : PCtx} {G : Gd} {S : Sg}
theorem prim_plain {Γ : Cxt} {f : Prim} {x : Expr} {xs : List Expr} (h : argsOf P Γ f x = some xs) : plainT x = true ∨ (∃ c, f = .cm c) ∨ f = .isN ∨ f = .notN := by
  unfold argsOf at h
  split at h <;> first | exact .inl rfl | exact .inr (.inl ⟨_, rfl⟩) | exact .inr (.inr (.inl rfl)) | exact .inr (.inr (.inr rfl)) | cases h
theorem st_prim {Γ : Cxt} {X : Cx} {W : WX} (x : XOk P G S Γ X W) {f : Prim} {e : Expr} {es : Exs} {xs : List Expr} (h : argsOf P Γ f e = some xs) (hp : PEs G S X W es xs) (hs : xs.all noStar = true) (hl : xs.all noSlice = true) : PT X e (RT G W fun E => wpT S E (.prim f es)) := by
  have hu := x.hu
  rcases prim_plain h with q | ⟨c, rfl⟩ | rfl | rfl
  · refine pt_tru x (sn_prim x h hp hs hl) q fun E ρ μ Q w => ?_
    simp only [wpT] at w
    simp only [wpE]
    exact w
  · unfold argsOf at h
    split at h <;> (try simp at *) <;> (try contradiction)
    rename_i heq1 heq2
    obtain ⟨⟨h1, h2⟩, rfl⟩ := h
    obtain ⟨p, q, rfl, ha, hb⟩ := PEs.two hp
    obtain rfl := of_decide_eq_true h1
    subst heq2
    exact pt_2 (g := fun μ x y => cmD μ _ x y) (fun μ x y => by simp [primD]) ha hb fun ta tb a b => pt_cmpR (op_cm x.hK (by omega) _) a b (mark_of h2)
  · unfold argsOf at h
    split at h <;> (try simp at *) <;> (try contradiction)
    subst h
    obtain ⟨p, rfl, ha⟩ := PEs.one hp
    exact st_isN ha
  · unfold argsOf at h
    split at h <;> (try simp at *) <;> (try contradiction)
    subst h
    obtain ⟨p, rfl, ha⟩ := PEs.one hp
    exact st_notN ha
theorem pt_ifE {c a b : Expr} {tA ta tb : TT} {p : Pos} {X : Cx} (hc : PT X c tA) (ha : PT X a ta) (hb : PT X b tb) : PT X (.IfExp c a b p) (fun σ H Q => tA σ H fun t H1 => if t = true then ta σ H1 Q else tb σ H1 Q) := by
  refine ⟨fun pins s σ H Q I h => ?_⟩
  refine isTrue_IfExp (thn (hc.run pins s σ H _ I h) fun d s1 ⟨H1, I1, q1⟩ => ?_)
  cases d with
  | true => exact ha.run pins s1 σ H1 Q I1 q1
  | false => exact hb.run pins s1 σ H1 Q I1 q1
theorem snd_var {i : Nat} {X : Cx} {Γ : Cxt} {W : WX} {y : Expr} (x : XOk P G S Γ X W) (h : chkE P Γ (.var i) y = true) : PE X y (RE G W fun E => wpE S E (.var i)) ∧ PT X y (RT G W fun E => wpT S E (.var i)) := by
  unfold chkE at h
  split at h
  case h_2 => cases h
  rename_i n p
  simp only [Bool.and_eq_true, decide_eq_true_eq, List.contains_iff_mem] at h
  obtain ⟨⟨h1, h2⟩, h3⟩ := h
  have hpe : PE X (.Name n p) (RE G W fun E => wpE S E (.var i)) := by
    obtain ⟨g1, g2⟩ := noSpec_and h3
    refine pe_imp (pe_var (i := i) (by rw [x.N]; exact h1) (x.vis n h2) g1 g2) fun σ H Q ⟨Z, φ, ρ, μ, E, Qd, at_, w, k⟩ => ?_
    simp only [wpE] at w
    cases q : ρ[i]? with
    | none => rw [q] at w; exact w.elim
    | some o =>
      cases o with
      | none => rw [q] at w; exact w.elim
      | some d =>
        rw [q] at w
        obtain ⟨v, e1, r⟩ := at_.er.at_ i d q
        exact ⟨v, e1, k d μ w v φ H r at_.cr (Grow.refl _ _)⟩
  refine ⟨hpe, pt_tru x hpe rfl fun E ρ μ Q w => ?_⟩
  simp only [wpT] at w
  simp only [wpE]
  cases q : ρ[i]? with
  | none => rw [q] at w; exact w.elim
  | some o =>
    cases o with
    | none => rw [q] at w; exact w.elim
    | some d => rw [q] at w; exact w
theorem snd_con {c : Const} {X : Cx} {Γ : Cxt} {W : WX} {y : Expr} (x : XOk P G S Γ X W) (h : chkE P Γ (.con c) y = true) : PE X y (RE G W fun E => wpE S E (.con c)) ∧ PT X y (RT G W fun E => wpT S E (.con c)) := by
  unfold chkE at h
  split at h
  case h_2 => cases h
  rename_i c' k p
  simp only [Bool.and_eq_true, decide_eq_true_eq] at h
  obtain ⟨rfl, h2⟩ := h
  have key : ∀ {t : TE} (v : V) (d : D), conD c = some d → (∀ Z φ H, Rep G Z φ H v d) → t = tC v → PE X (.Constant c k p) t → PE X (.Constant c k p) (RE G W fun E => wpE S E (.con c)) := by
    intro t v d hd hr ht hp
    subst ht
    refine pe_imp hp fun σ H Q ⟨Z, φ, ρ, μ, E, Qd, at_, w, k⟩ => ?_
    simp only [wpE, hd, opt_some] at w
    exact k d μ w v φ H (hr Z φ H) at_.cr (Grow.refl _ _)
  have hpe : PE X (.Constant c k p) (RE G W fun E => wpE S E (.con c)) := by
    cases c with
    | none => exact key .non .non rfl (fun _ _ _ => .non) rfl pe_non
    | bool b => exact key (.bl b) (.bl b) rfl (fun _ _ _ => .bl b) rfl pe_bl
    | int i => exact key (.int i) (.int i) rfl (fun _ _ _ => .int i) rfl pe_int
    | _ => simp [conD] at h2
  refine ⟨hpe, pt_tru x hpe rfl fun E ρ μ Q w => ?_⟩
  simp only [wpT] at w
  simp only [wpE]
  exact w
theorem snd_str {t : String} {X : Cx} {Γ : Cxt} {W : WX} {y : Expr} (x : XOk P G S Γ X W) (h : chkE P Γ (.str t) y = true) : PE X y (RE G W fun E => wpE S E (.str t)) ∧ PT X y (RT G W fun E => wpT S E (.str t)) := by
  unfold chkE at h
  split at h
  case h_2 => cases h
  rename_i s' k' p'
  simp only [decide_eq_true_eq] at h
  subst h
  have hpe : PE X (.Constant (.str (Str.ofString t)) k' p') (RE G W fun E => wpE S E (.str t)) := pe_imp pe_str fun σ H Q ⟨Z, φ, ρ, μ, E, Qd, at_, w, k⟩ => by
    simp only [wpE] at w
    exact k _ μ w _ φ H (.str t) at_.cr (Grow.refl _ _)
  refine ⟨hpe, pt_tru x hpe rfl fun E ρ μ Q w => ?_⟩
  simp only [wpT] at w
  simp only [wpE]
  exact w
theorem snd_glo {j : Nat} {X : Cx} {Γ : Cxt} {W : WX} {y : Expr} (x : XOk P G S Γ X W) (h : chkE P Γ (.glo j) y = true) : PE X y (RE G W fun E => wpE S E (.glo j)) ∧ PT X y (RT G W fun E => wpT S E (.glo j)) := by
  unfold chkE at h
  split at h
  case h_2 => cases h
  rename_i n p
  simp only [Bool.and_eq_true, decide_eq_true_eq, List.contains_iff_mem] at h
  obtain ⟨⟨h1, h2⟩, h3⟩ := h
  obtain ⟨u, v, hm, rv, hr⟩ := x.con j n h1
  have hpe : PE X (.Name n p) (RE G W fun E => wpE S E (.glo j)) := pe_imp (pe_glob (x.gl n h2) hm rv (noSpec_and h3).1) fun σ H Q ⟨Z, φ, ρ, μ, E, Qd, at_, w, k⟩ => by
    simp only [wpE] at w
    exact k _ μ w _ φ H (hr Z φ H) at_.cr (Grow.refl _ _)
  refine ⟨hpe, pt_tru x hpe rfl fun E ρ μ Q w => ?_⟩
  simp only [wpT] at w
  simp only [wpE]
  exact w
theorem snd_chain {f g : Cm} {a b c : Ex} {X : Cx} {Γ : Cxt} {W : WX} {y yb yc : Expr} {p : Pos} (x : XOk P G S Γ X W) (h3 : noSet yc = true) (ha : PE X y (RE G W fun E => wpE S E a)) (hb : PE X yb (RE G W fun E => wpE S E b)) (hc : PE X yc (RE G W fun E => wpE S E c)) :
    PE X (.Compare y [cmOf f, cmOf g] [yb, yc] p) (RE G W fun E => wpE S E (.chain f g a b c)) ∧ PT X (.Compare y [cmOf f, cmOf g] [yb, yc] p) (RT G W fun E => wpT S E (.chain f g a b c)) := by
  have hu := x.hu
  constructor
  · refine pe_imp (pe_chain (op_cm x.hK (by omega) f) (op_cm x.hK (by omega) g) ha hb hc (last_of h3)) fun σ H Q ⟨Z, φ, ρ, μ, E, Qd, at_, w, k⟩ => ?_
    simp only [wpE] at w
    refine ⟨Z, φ, ρ, μ, E, _, at_, w, fun d1 μ1 w1 v φ1 H1 r1 c1 g1 => ?_⟩
    refine ⟨Z, φ1, ρ, μ1, E, _, at_.step c1 g1, w1, fun d2 μ2 w2 u φ2 H2 r2 c2 g2 => ?_⟩
    obtain ⟨t, e1, w3⟩ := opt_iff.mp w2
    refine ⟨Z, φ2, μ2, d1, d2, .bl t, c2, r1.grow g2, r2, by show Option.map D.bl _ = _; rw [e1]; rfl, fun v' φ' H' r c g => ?_⟩
    refine ⟨t, r.of_bl, ?_⟩
    cases t with
    | true =>
      rw [if_pos rfl] at w3 ⊢
      refine ⟨Z, φ', ρ, μ2, E, _, at_.step c (g1.trans (g2.trans g)), w3, fun d3 μ3 w4 z φ3 H3 r3 c3 g3 => ?_⟩
      obtain ⟨t', e2, q⟩ := opt_iff.mp w4
      exact ⟨Z, φ3, μ3, d2, d3, .bl t', c3, r2.grow (g.trans g3), r3, by show Option.map D.bl _ = _; rw [e2]; rfl, fun v'' φ'' H'' r' c' g' => k _ _ q v'' φ'' H'' r' c' (g1.trans (g2.trans (g.trans (g3.trans g'))))⟩
    | false =>
      rw [if_neg (by simp)] at w3 ⊢
      exact k _ _ w3 _ φ' H' (.bl false) c (g1.trans (g2.trans g))
  · refine pt_imp (pt_chain (op_cm x.hK (by omega) f) (op_cm x.hK (by omega) g) ha hb hc (last_of h3)) fun σ H Q ⟨Z, φ, ρ, μ, E, Qd, at_, w, k⟩ => ?_
    simp only [wpT] at w
    refine ⟨Z, φ, ρ, μ, E, _, at_, w, fun d1 μ1 w1 v φ1 H1 r1 c1 g1 => ?_⟩
    refine ⟨Z, φ1, ρ, μ1, E, _, at_.step c1 g1, w1, fun d2 μ2 w2 u φ2 H2 r2 c2 g2 => ?_⟩
    obtain ⟨t, e1, w3⟩ := opt_iff.mp w2
    refine ⟨Z, φ2, μ2, d1, d2, .bl t, c2, r1.grow g2, r2, by show Option.map D.bl _ = _; rw [e1]; rfl, fun v' φ' H' r c g => ?_⟩
    refine ⟨t, r.of_bl, ?_⟩
    cases t with
    | true =>
      rw [if_pos rfl] at w3 ⊢
      refine ⟨Z, φ', ρ, μ2, E, _, at_.step c (g1.trans (g2.trans g)), w3, fun d3 μ3 w4 z φ3 H3 r3 c3 g3 => ?_⟩
      obtain ⟨t', e2, q⟩ := opt_iff.mp w4
      exact ⟨Z, φ3, μ3, d2, d3, .bl t', c3, r2.grow (g.trans g3), r3, by show Option.map D.bl _ = _; rw [e2]; rfl, fun v'' φ'' H'' r' c' g' => ⟨t', r'.of_bl, k _ _ q φ'' H'' c' (g1.trans (g2.trans (g.trans (g3.trans g'))))⟩⟩
    | false =>
      rw [if_neg (by simp)] at w3 ⊢
      exact ⟨false, rfl, k _ _ w3 φ' H' c (g1.trans (g2.trans g))⟩
theorem snd_not {a : Ex} {X : Cx} {Γ : Cxt} {W : WX} {y : Expr} {p : Pos} (x : XOk P G S Γ X W) (h1 : PE X y (RE G W fun E => wpE S E a)) (h2 : PT X y (RT G W fun E => wpT S E a)) :
    PE X (.UnaryOp .Not y p) (RE G W fun E => wpE S E (.not_ a)) ∧ PT X (.UnaryOp .Not y p) (RT G W fun E => wpT S E (.not_ a)) := by
  constructor
  · refine pe_imp (pe_notT h1) fun σ H Q ⟨Z, φ, ρ, μ, E, Qd, at_, w, k⟩ => ?_
    simp only [wpE] at w
    refine ⟨Z, φ, ρ, μ, E, _, at_, w, fun d μ1 w1 v φ1 H1 r1 c1 g1 => ?_⟩
    obtain ⟨t, e1, q⟩ := opt_iff.mp w1
    exact ⟨t, tru_of x.hK c1 r1 e1, k _ μ1 q _ φ1 H1 (.bl _) c1 g1⟩
  · refine pt_imp (pt_not h2) fun σ H Q ⟨Z, φ, ρ, μ, E, Qd, at_, w, k⟩ => ?_
    simp only [wpT] at w
    exact ⟨Z, φ, ρ, μ, E, _, at_, w, fun t μ1 w1 φ1 H1 c1 g1 => k _ μ1 w1 φ1 H1 c1 g1⟩
theorem snd_ife {c a b : Ex} {X : Cx} {Γ : Cxt} {W : WX} {yc ya yb : Expr} {p : Pos} (x : XOk P G S Γ X W) (hc : PT X yc (RT G W fun E => wpT S E c)) (ha : PE X ya (RE G W fun E => wpE S E a)) (hb : PE X yb (RE G W fun E => wpE S E b))
    (ha' : PT X ya (RT G W fun E => wpT S E a)) (hb' : PT X yb (RT G W fun E => wpT S E b)) :
    PE X (.IfExp yc ya yb p) (RE G W fun E => wpE S E (.ife c a b)) ∧ PT X (.IfExp yc ya yb p) (RT G W fun E => wpT S E (.ife c a b)) := by
  constructor
  · refine pe_imp (pe_ifExp hc ha hb) fun σ H Q ⟨Z, φ, ρ, μ, E, Qd, at_, w, k⟩ => ?_
    simp only [wpE] at w
    refine ⟨Z, φ, ρ, μ, E, _, at_, w, fun t μ1 w1 φ1 H1 c1 g1 => ?_⟩
    cases t with
    | true =>
      rw [if_pos rfl] at w1 ⊢
      exact ⟨Z, φ1, ρ, μ1, E, _, at_.step c1 g1, w1, fun d2 μ2 q2 v2 φ2 H2 r2 c2 g2 => k d2 μ2 q2 v2 φ2 H2 r2 c2 (g1.trans g2)⟩
    | false =>
      rw [if_neg (by simp)] at w1 ⊢
      exact ⟨Z, φ1, ρ, μ1, E, _, at_.step c1 g1, w1, fun d2 μ2 q2 v2 φ2 H2 r2 c2 g2 => k d2 μ2 q2 v2 φ2 H2 r2 c2 (g1.trans g2)⟩
  · refine pt_imp (pt_ifE hc ha' hb') fun σ H Q ⟨Z, φ, ρ, μ, E, Qd, at_, w, k⟩ => ?_
    simp only [wpT] at w
    refine ⟨Z, φ, ρ, μ, E, _, at_, w, fun t μ1 w1 φ1 H1 c1 g1 => ?_⟩
    cases t with
    | true =>
      rw [if_pos rfl] at w1 ⊢
      exact ⟨Z, φ1, ρ, μ1, E, _, at_.step c1 g1, w1, fun d2 μ2 q2 φ2 H2 c2 g2 => k d2 μ2 q2 φ2 H2 c2 (g1.trans g2)⟩
    | false =>
      rw [if_neg (by simp)] at w1 ⊢
      exact ⟨Z, φ1, ρ, μ1, E, _, at_.step c1 g1, w1, fun d2 μ2 q2 φ2 H2 c2 g2 => k d2 μ2 q2 φ2 H2 c2 (g1.trans g2)⟩
theorem pt_never {X : Cx} {W : WX} {y : Expr} {wt : (XD → Store → Prop) → Sl → Store → (Bool → Store → Prop) → Prop} (h : ∀ E ρ μ Q, ¬ wt E ρ μ Q) : PT X y (RT G W wt) := ⟨fun pins s σ H Q I ⟨Z, φ, ρ, μ, E, Qd, at_, w, k⟩ => (h _ _ _ _ w).elim⟩
mutual
theorem sndE : ∀ (e : Ex) {X : Cx} {Γ : Cxt} {W : WX} {y : Expr}, XOk P G S Γ X W → chkE P Γ e y = true → PE X y (RE G W fun E => wpE S E e) ∧ PT X y (RT G W fun E => wpT S E e)
  | .var i, X, Γ, W, y, x, h => snd_var x h
  | .con c, X, Γ, W, y, x, h => snd_con x h
  | .str s, X, Γ, W, y, x, h => snd_str x h
  | .glo j, X, Γ, W, y, x, h => snd_glo x h
  | .prim f es, X, Γ, W, y, x, h => by
    unfold chkE at h
    cases q : argsOf P Γ f y with
    | none => rw [q] at h; cases h
    | some xs =>
      rw [q] at h
      obtain ⟨h1, h2⟩ := sndEs es x h
      obtain ⟨h3, h4⟩ := chks_fit h
      exact ⟨sn_prim x q h1 h3 h4, st_prim x q h1 h3 h4⟩
  | .and_ es, X, Γ, W, y, x, h => by
    unfold chkE at h
    split at h
    case h_2 => cases h
    simp only [Bool.and_eq_true] at h
    obtain ⟨h1, h2⟩ := sndEs es x h.1
    exact ⟨pe_imp (and_ok x h1 h.2) fun σ H Q q => by simpa only [wpE] using q, pt_imp (tand_ok h2 h.2).pt fun σ H Q q => by simpa only [wpT] using q⟩
  | .or_ es, X, Γ, W, y, x, h => by
    unfold chkE at h
    split at h
    case h_2 => cases h
    simp only [Bool.and_eq_true] at h
    obtain ⟨h1, h2⟩ := sndEs es x h.1
    exact ⟨pe_imp (or_ok x h1 h.2) fun σ H Q q => by simpa only [wpE] using q, pt_imp (tor_ok h2 h.2).pt fun σ H Q q => by simpa only [wpT] using q⟩
  | .not_ a, X, Γ, W, y, x, h => by
    unfold chkE at h
    split at h
    case h_2 => cases h
    obtain ⟨h1, h2⟩ := sndE a x h
    exact snd_not x h1 h2
  | .ife c a b, X, Γ, W, y, x, h => by
    unfold chkE at h
    split at h
    case h_2 => cases h
    simp only [Bool.and_eq_true] at h
    obtain ⟨_, hc⟩ := sndE c x h.1.1
    obtain ⟨ha, ha'⟩ := sndE a x h.1.2
    obtain ⟨hb, hb'⟩ := sndE b x h.2
    exact snd_ife x hc ha hb ha' hb'
  | .chain f g a b c, X, Γ, W, y, x, h => by
    unfold chkE at h
    split at h
    case h_2 => cases h
    simp only [Bool.and_eq_true] at h
    obtain ⟨⟨⟨⟨⟨h1, h2⟩, h3⟩, ha⟩, hb⟩, hc⟩ := h
    obtain rfl := of_decide_eq_true h1
    obtain rfl := of_decide_eq_true h2
    exact snd_chain x h3 (sndE a x ha).1 (sndE b x hb).1 (sndE c x hc).1
  | .sl3 a l hh, X, Γ, W, y, x, h => by
    unfold chkE at h
    split at h
    case h_2 => cases h
    simp only [Bool.and_eq_true] at h
    exact ⟨sn_sl3 x (sndE a x h.1.1).1 (sndE l x h.1.2).1 (sndE hh x h.2).1, pt_never fun E ρ μ Q w => by simp only [wpT] at w⟩
  | .meth f o es, X, Γ, W, y, x, h => by
    unfold chkE at h
    split at h
    case h_2 => cases h
    simp only [Bool.and_eq_true, decide_eq_true_eq] at h
    obtain ⟨⟨⟨⟨⟨h1, h2⟩, h3⟩, h4⟩, h5⟩, h6⟩ := h
    have hpe := sn_meth x h1 h2 h3 h4 (sndE o x h5).1 (sndEs es x h6).1 (chks_fit h6).1
    refine ⟨hpe, pt_tru x hpe rfl fun E ρ μ Q w => ?_⟩
    simp only [wpT] at w
    simp only [wpE]
    exact w
  | .call f es k, X, Γ, W, y, x, h => by
    unfold chkE at h
    split at h
    case h_2 => cases h
    rename_i n1 p1 as1 p2
    simp only [Bool.and_eq_true, List.any_eq_true, decide_eq_true_eq, List.contains_iff_mem, beq_iff_eq] at h
    obtain ⟨⟨⟨⟨d, hd, ⟨⟨h1, h2⟩, h3⟩, h4⟩, h5⟩, h6⟩, h7⟩ := h
    have hpe := sn_call (k := k) (p := p1) (pos := p2) x hd h1 h2 h4 h5 h6 (sndEs es x h7).1 (chks_fit h7).1
    refine ⟨hpe, pt_tru x hpe rfl fun E ρ μ Q w => ?_⟩
    simp only [wpT] at w
    simp only [wpE]
    exact w
  | .comp m elt tg it cond own, X, Γ, W, y, x, h => by
    unfold chkE at h
    split at h
    case h_2 => cases h
    simp only [Bool.and_eq_true, List.all_eq_true, List.contains_iff_mem] at h
    obtain ⟨⟨⟨⟨⟨⟨h1, h2⟩, h3⟩, h4⟩, h5⟩, h6⟩, h7⟩ := h
    obtain ⟨ow, e, ok⟩ := ownOk_blk h3 x
    subst e
    exact ⟨pe_imp (pe_lc x.calm x.nd (sndI it x h1) ok (fun s H C cl fp => (tg_ok (x.blk h3 s H C cl fp) h4).1) (fun s H C cl fp => sndC cond (x.blk h3 s H C cl fp) h6) (fun s H C cl fp => (sndE elt (x.blk h3 s H C cl fp) h7).1) (fold_of h2))
      fun σ H Q q => tlc_of h5 q, pt_never fun E ρ μ Q w => by simp only [wpT] at w⟩
termination_by structural e => e
theorem sndEs : ∀ (es : Exs) {X : Cx} {Γ : Cxt} {W : WX} {xs : List Expr}, XOk P G S Γ X W → chkEs P Γ es xs = true → PEs G S X W es xs ∧ PTss G S X W es xs
  | .nil, X, Γ, W, xs, x, h => by
    unfold chkEs at h
    cases xs with
    | nil => exact ⟨trivial, trivial⟩
    | cons _ _ => cases h
  | .cons e es, X, Γ, W, xs, x, h => by
    unfold chkEs at h
    cases xs with
    | nil => cases h
    | cons y ys =>
      simp only [Bool.and_eq_true] at h
      obtain ⟨h1, h2⟩ := sndE e x h.1
      obtain ⟨h3, h4⟩ := sndEs es x h.2
      exact ⟨⟨h1, h3⟩, ⟨h2, h4⟩⟩
termination_by structural es => es
theorem sndC : ∀ (es : Exs) {X : Cx} {Γ : Cxt} {W : WX} {xs : List Expr}, XOk P G S Γ X W → chkC P Γ es xs = true → PTs X xs (RT G W fun _ => wpC S es)
  | .nil, X, Γ, W, xs, x, h => by
    unfold chkC at h
    cases xs with
    | cons _ _ => cases h
    | nil =>
      refine ⟨fun pins s σ H Q I ⟨Z, φ, ρ, μ, E, Qd, at_, w, k⟩ => ?_⟩
      simp only [wpC] at w
      exact pts_nil.run pins s σ H Q I (k _ _ w φ H at_.cr (Grow.refl _ _))
  | .cons e es, X, Γ, W, xs, x, h => by
    unfold chkC at h
    split at h
    case h_2 => cases h
    obtain ⟨h1, h2⟩ := sndE e x h
    refine ⟨fun pins s σ H Q I ⟨Z, φ, ρ, μ, E, Qd, at_, w, k⟩ => ?_⟩
    simp only [wpC] at w
    exact (pts_one h2).run pins s σ H Q I ⟨Z, φ, ρ, μ, _, Qd, ⟨at_.er, at_.cr, lk_no⟩, w, k⟩
termination_by structural es => es
theorem sndI : ∀ (it : Itx) {X : Cx} {Γ : Cxt} {W : WX} {y tg : Expr}, XOk P G S Γ X W → chkI P Γ it y tg = true → PI X tg y (RI G W fun E => wpI S E it)
  | .val e, X, Γ, W, y, tg, x, h => by
    unfold chkI at h
    exact si_val x (sndE e x h).1
  | .rng es, X, Γ, W, y, tg, x, h => by
    unfold chkI at h
    split at h
    case h_2 => cases h
    simp only [Bool.and_eq_true, decide_eq_true_eq] at h
    obtain ⟨⟨⟨rfl, h2⟩, h3⟩, h4⟩ := h
    exact si_rng x h2 h3 (chks_fit h4).1 (sndEs es x h4).1
  | .enum e, X, Γ, W, y, tg, x, h => by
    unfold chkI at h
    split at h
    case h_2 => cases h
    simp only [Bool.and_eq_true, decide_eq_true_eq] at h
    obtain ⟨⟨rfl, h2⟩, h3⟩ := h
    exact si_enum (n := ("enumerate" : Str)) x h2 (chk_fit h3).1 (sndE e x h3).1
  | .zip e f, X, Γ, W, y, tg, x, h => by
    unfold chkI at h
    split at h
    case h_2 => cases h
    simp only [Bool.and_eq_true, decide_eq_true_eq] at h
    obtain ⟨⟨⟨rfl, h2⟩, h3⟩, h4⟩ := h
    exact si_zip (n := ("zip" : Str)) x h2 (chk_fit h3).1 (chk_fit h4).1 (sndE e x h3).1 (sndE f x h4).1
termination_by structural it => it
end
end
end PY

set_option Elab.async false
set_option linter.all false
set_option maxRecDepth 100000
set_option maxHeartbeats 8000000
/-! PY, part p: statements against the model's syntax. -/
namespace PY
open PySem PySem.Spec PyProof.Rows L2
/-- no comprehension -/
def noComp : Expr → Bool
  | .ListComp .. | .SetComp .. | .DictComp .. => false
  | _ => true
def noTup : Expr → Bool
  | .Tuple .. => false
  | _ => true
/-- does name = [..] store within the comprehension -/
def swapsB (Γ : Cxt) (x : Str) (px : Pos) : Expr → Option Bool
  | .ListComp _ _ scope p => if (px.line == p.line && !(scope.names.any fun (n, k) => n == x && (k == .local || k == .cell))) = true then (if Γ.lcl.contains x = true then some true else none) else some false
  | .SetComp .. | .DictComp .. => none
  | _ => some false
def isConst (v : Expr) : Bool := foldedForSure 8 v
/-- what the model does at a store to tg is what we take it to do -/
def asgOk (Γ : Cxt) (tg v : Expr) : Bool := match tg with
  | .Name x px => (swapsB Γ x px v).isSome
  | .Tuple ts _ _ => match v with
    | .Tuple vs _ _ => !(ts.length == 2 || ts.length == 3) || vs.length != ts.length || vs.all (foldedForSure 8)
    | _ => true
  | _ => false
section
variable (P : PCtx)
mutual
def chkS : Cxt → St → Stmt → Bool
  | Γ, .asg t e, y => match y with
    | .Assign [tg] v _ => chkTg Γ t tg && chkE P Γ e v && asgOk Γ tg v
    | _ => false
  | Γ, .par i j a b, y => match y with
    | .Assign [.Tuple [.Name x px, .Name y py] _ _] (.Tuple [u, v] _ _) _ => decide (Γ.N[i]? = some x) && decide (Γ.N[j]? = some y) && decide (i ≠ j) && decide (x ≠ y) && Γ.lcl.contains x && Γ.lcl.contains y && py.line == px.line && !([u, v].all (foldedForSure 8)) && !([u, v].all (constantsAlone 8)) &&
      chkE P Γ a u && chkE P Γ b v
    | _ => false
  | Γ, .par3 i j k a b c, y => match y with
    | .Assign [.Tuple [.Name x px, .Name y py, .Name z pz] _ _] (.Tuple [u, v, w] _ _) _ => decide (Γ.N[i]? = some x) && decide (Γ.N[j]? = some y) && decide (Γ.N[k]? = some z) && decide (i ≠ j) && decide (i ≠ k) && decide (j ≠ k) && decide (x ≠ y) && decide (x ≠ z) && decide (y ≠ z) &&
      Γ.lcl.contains x && Γ.lcl.contains y && Γ.lcl.contains z && py.line == px.line && pz.line == px.line && !([u, v, w].all (foldedForSure 8)) && !([u, v, w].all (constantsAlone 8)) &&
      chkE P Γ a u && chkE P Γ b v && chkE P Γ c w
    | _ => false
  | Γ, .setix o i e, y => match y with
    | .Assign [.Subscript yo yi _] v _ => noComp v && chkE P Γ o yo && chkE P Γ i yi && chkE P Γ e v
    | _ => false
  | Γ, .aug i e, y => match y with
    | .AugAssign (.Name x _) op v _ => opEq op .Add && decide (Γ.N[i]? = some x) && Γ.loc.contains x && chkE P Γ e v
    | _ => false
  | Γ, .expr e, y => match y with
    | .Expr v _ => noComp v && chkE P Γ e v
    | _ => false
  | Γ, .ite c a b, y => match y with
    | .If v p q _ => chkE P Γ c v && chkSs Γ a p && chkSs Γ b q
    | _ => false
  | Γ, .whl c b, y => match y with
    | .While v p [] _ => chkE P Γ c v && chkSs Γ b p
    | _ => false
  | Γ, .forr t it b, y => match y with
    | .For tg v p [] _ => chkI P Γ it v tg && noSet v && chkTg Γ t tg && chkSs Γ b p
    | _ => false
  | Γ, .ret e, y => match y with
    | .Return (some v) _ => chkE P Γ e v
    | _ => false
  | _, .retN, y => match y with
    | .Return none _ => true
    | _ => false
  | _, .raise .., _ => false
  | _, .pass, y => match y with
    | .Pass _ => true
    | _ => false
  | _, .brk, y => match y with
    | .Break _ => true
    | _ => false
  | _, .cnt, y => match y with
    | .Continue _ => true
    | _ => false
termination_by structural _ s => s
def chkSs : Cxt → Sts → List Stmt → Bool
  | _, .nil, ys => ys.isEmpty
  | Γ, .cons s r, ys => match ys with
    | y :: ys => chkS Γ s y && chkSs Γ r ys
    | [] => false
termination_by structural _ s => s
end
end

/-! ### readings -/
def LkS (G : Gd) (Z : List Addr) (W : WX) (E : Sl → XD → Store → Prop) (φ : List Addr) (H : Hp) : Prop :=
  ∀ ρ x μ', E ρ x μ' → ∀ σ cls dd φ' H', ERel G Z φ' H' σ ρ → XRep G Z φ' H' cls dd x → CRel G Z φ' H' μ' → Grow φ H φ' H' → W cls dd σ H'
structure AtS (G : Gd) (Z : List Addr) (W : WX) (E : Sl → XD → Store → Prop) (σ : L2.St) (φ : List Addr) (H : Hp) (ρ : Sl) (μ : Store) : Prop where
  er : ERel G Z φ H σ ρ
  cr : CRel G Z φ H μ
  lk : LkS G Z W E φ H
structure EndsOk (G : Gd) (Z φ : List Addr) (H : Hp) (PD : PEnds) (D : Ends) : Prop where
  nx : ∀ ρ' μ', PD.nx ρ' μ' → ∀ σ' φ' H', ERel G Z φ' H' σ' ρ' → CRel G Z φ' H' μ' → Grow φ H φ' H' → D.nx σ' H'
  rt : ∀ d μ', PD.rt d μ' → Done G Z φ H d μ' D.rt
  bk : ∀ ρ' μ', PD.bk ρ' μ' → ∀ σ' φ' H', ERel G Z φ' H' σ' ρ' → CRel G Z φ' H' μ' → Grow φ H φ' H' → D.bk σ' H'
  ct : ∀ ρ' μ', PD.ct ρ' μ' → ∀ σ' φ' H', ERel G Z φ' H' σ' ρ' → CRel G Z φ' H' μ' → Grow φ H φ' H' → D.ct σ' H'
def RS (G : Gd) (W : WX) (wp : (Sl → XD → Store → Prop) → Sl → Store → PEnds → Prop) : TS := fun D σ H => ∃ Z φ ρ μ E PD, AtS G Z W E σ φ H ρ μ ∧ wp E ρ μ PD ∧ EndsOk G Z φ H PD D
section
variable {P : PCtx} {G : Gd} {S : Sg} {Γ : Cxt} {X : Cx} {W : WX} {Z φ φ1 : List Addr} {H H1 : Hp} {E : Sl → XD → Store → Prop} {σ σ1 : L2.St} {ρ ρ1 : Sl} {μ μ1 : Store} {PD : PEnds} {D : Ends}
theorem AtS.at (a : AtS G Z W E σ φ H ρ μ) : At G Z W (E ρ) σ φ H ρ μ :=
  ⟨a.er, a.cr, fun x μ' e cls dd φ' H' xr c g => a.lk ρ x μ' e σ cls dd φ' H' (a.er.grow g) xr c g⟩
theorem AtS.move (a : AtS G Z W E σ φ H ρ μ) (er : ERel G Z φ1 H1 σ1 ρ1) (c : CRel G Z φ1 H1 μ1) (g : Grow φ H φ1 H1) : AtS G Z W E σ1 φ1 H1 ρ1 μ1 :=
  ⟨er, c, fun ρ' x μ' e σ' cls dd φ' H' er' xr c' g' => a.lk ρ' x μ' e σ' cls dd φ' H' er' xr c' (g.trans g')⟩
theorem EndsOk.move (k : EndsOk G Z φ H PD D) (g : Grow φ H φ1 H1) : EndsOk G Z φ1 H1 PD D :=
  ⟨fun ρ' μ' q σ' φ' H' er c g' => k.nx ρ' μ' q σ' φ' H' er c (g.trans g'), fun d μ' q v φ' H' r c g' => k.rt d μ' q v φ' H' r c (g.trans g'),
   fun ρ' μ' q σ' φ' H' er c g' => k.bk ρ' μ' q σ' φ' H' er c (g.trans g'), fun ρ' μ' q σ' φ' H' er c g' => k.ct ρ' μ' q σ' φ' H' er c (g.trans g')⟩
theorem ps_imp {st : Stmt} {t t' : TS} (h : PS X st t) (i : ∀ D σ H, t' D σ H → t D σ H) : PS X st t' := ⟨fun pins s σ H D I q => h.run pins s σ H D I (i D σ H q)⟩
theorem pss_imp {st : List Stmt} {t t' : TS} (h : PSs X st t) (i : ∀ D σ H, t' D σ H → t D σ H) : PSs X st t' := ⟨fun pins s σ H D I q => h.run pins s σ H D I (i D σ H q)⟩

/-! ### what the model asks at a store -/
theorem swaps_no {v : Expr} {t : Option Expr} {l : Nat} {env : Env} (h : noComp v = true) : swapsWith v t l env = pure false := by
  cases v <;> first | rfl | simp [noComp] at h
theorem blockKind_fn {env : Env} (h : env.scope.kind = .function) : env.blockKind = .function := by
  unfold Env.blockKind
  rw [h]
  rfl
theorem swaps_name {x : Str} {px : Pos} {v : Expr} {b : Bool} {l : Nat} (xo : XOk P G S Γ X W) (h : swapsB Γ x px v = some b) : swapsWith v (some (.Name x px)) l X.env = pure b := by
  cases v with
  | ListComp elt gs scope p =>
    simp only [swapsB] at h
    show pure (X.env.blockKind == .function && X.env.kindOf x == some .local && px.line == p.line && !(scope.names.any fun (n, k) => n == x && (k == .local || k == .cell))) = pure b
    rw [blockKind_fn xo.kind]
    split at h
    · rename_i h1
      split at h
      · rename_i h2
        cases h
        have h3 : X.env.kindOf x = some .local := xo.lcl x (List.contains_iff_mem.mp h2)
        rw [h3, Bool.and_assoc, h1]
        rfl
      · cases h
    · rename_i h1
      cases h
      have h1' : (px.line == p.line && !(scope.names.any fun (n, k) => n == x && (k == .local || k == .cell))) = false := by
        cases q : (px.line == p.line && !(scope.names.any fun (n, k) => n == x && (k == .local || k == .cell))) with
        | true => exact absurd q h1
        | false => rfl
      rw [Bool.and_assoc, h1', Bool.and_false]
  | SetComp _ _ _ _ => simp [swapsB] at h
  | DictComp _ _ _ _ _ => simp [swapsB] at h
  | _ =>
    simp only [swapsB, Option.some.injEq] at h
    subst h
    rfl
theorem swaps_tup {es : List Expr} {k : Nat} {p : Pos} {v : Expr} {l : Nat} {env : Env} : swapsWith v (some (.Tuple es k p)) l env = pure false := by
  cases v <;> rfl
theorem stores_no {ts : List Expr} {k : Nat} {p : Pos} {v : Expr} {env : Env} (h : noTup v = true) : swappedStores [.Tuple ts k p] v env = pure none := by
  cases v <;> first | rfl | simp [noTup] at h
theorem stores_const {ts vs : List Expr} {k k2 : Nat} {p p2 : Pos} {env : Env} (hs : vs.all noStar = true) (h : (!(ts.length == 2 || ts.length == 3) || vs.length != ts.length || vs.all (foldedForSure 8)) = true) :
    swappedStores [.Tuple ts k p] (.Tuple vs k2 p2) env = pure none := by
  unfold swappedStores
  simp only [pure_bind]
  by_cases h1 : (!(ts.length == 2 || ts.length == 3) || vs.length != ts.length || env.blockKind != .function) = true
  · rw [if_pos h1]
  · rw [if_neg h1]
    simp only [Bool.or_eq_true, not_or] at h1
    have h2 : vs.all (foldedForSure 8) = true := by
      simp only [Bool.or_eq_true] at h
      rcases h with (h | h) | h
      · exact absurd h h1.1.1
      · exact absurd h h1.1.2
      · exact h
    split
    · rfl
    · split
      · rfl
      · first | rfl | rw [if_pos h2]
theorem kind_lcl {x : Str} (xo : XOk P G S Γ X W) (h : Γ.lcl.contains x = true) : X.env.kindOf x = some .local := xo.lcl x (List.contains_iff_mem.mp h)
theorem stores2 {x y : Str} {u v : Expr} {px py p p2 : Pos} {k k2 : Nat} (xo : XOk P G S Γ X W) (hx : Γ.lcl.contains x = true) (hy : Γ.lcl.contains y = true) (hxy : x ≠ y) (hl : (py.line == px.line) = true) (hu : noStar u = true) (hv : noStar v = true)
    (h1 : [u, v].all (foldedForSure 8) = false) (h2 : [u, v].all (constantsAlone 8) = false) :
    swappedStores [.Tuple [.Name x px, .Name y py] k p] (.Tuple [u, v] k2 p2) X.env = pure (some [x, y]) := by
  have e1 : (List.filterMap (fun (e : Expr) => match e with
      | .Name id pos => if X.env.kindOf id == some .local && pos.line == (([Expr.Name x px, Expr.Name y py].head?.map (·.pos.line)).getD 0) then some id else none
      | _ => none) [Expr.Name x px, Expr.Name y py]) = [x, y] := by
    have hl' : py.line = px.line := eq_of_beq hl
    have a1 : (px.line == ((some (Expr.Name x px).pos.line).getD 0)) = true := by show (px.line == px.line) = true; exact beq_self_eq_true _
    have a2 : (py.line == ((some (Expr.Name x px).pos.line).getD 0)) = true := by show (py.line == px.line) = true; exact hl
    simp only [List.filterMap_cons, List.filterMap_nil, List.head?_cons, Option.map_some, kind_lcl xo hx, kind_lcl xo hy, beq_self_eq_true, Bool.true_and, a1, a2, if_true]
  unfold swappedStores
  simp only [pure_bind]
  rw [if_neg (by simp [blockKind_fn xo.kind])]
  rw [if_neg (by
    intro h
    simp only [List.any_cons, List.any_nil, Bool.or_false, Bool.or_eq_true] at h
    rcases h with h | h
    · split at h
      · simp [noStar] at hu
      · cases h
    · split at h
      · simp [noStar] at hv
      · cases h)]
  erw [e1]
  rw [if_neg (by
    have : [x, y].eraseDups = [x, y] := by
      have : (y == x) = false := beq_eq_false_iff_ne.mpr (Ne.symm hxy)
      simp [List.eraseDups_cons, this]
    rw [this]; simp)]
  rw [if_neg (by rw [h1]; simp), if_neg (by rw [h2]; simp)]
theorem stores3 {x y z : Str} {u v w : Expr} {px py pz p p2 : Pos} {k k2 : Nat} (xo : XOk P G S Γ X W) (hx : Γ.lcl.contains x = true) (hy : Γ.lcl.contains y = true) (hz : Γ.lcl.contains z = true) (hxy : x ≠ y) (hxz : x ≠ z) (hyz : y ≠ z)
    (hl : (py.line == px.line) = true) (hl2 : (pz.line == px.line) = true) (hu : noStar u = true) (hv : noStar v = true) (hw : noStar w = true)
    (h1 : [u, v, w].all (foldedForSure 8) = false) (h2 : [u, v, w].all (constantsAlone 8) = false) :
    swappedStores [.Tuple [.Name x px, .Name y py, .Name z pz] k p] (.Tuple [u, v, w] k2 p2) X.env = pure (some [x, y, z]) := by
  have e1 : (List.filterMap (fun (e : Expr) => match e with
      | .Name id pos => if X.env.kindOf id == some .local && pos.line == (([Expr.Name x px, Expr.Name y py, Expr.Name z pz].head?.map (·.pos.line)).getD 0) then some id else none
      | _ => none) [Expr.Name x px, Expr.Name y py, Expr.Name z pz]) = [x, y, z] := by
    have a1 : (px.line == ((some (Expr.Name x px).pos.line).getD 0)) = true := by show (px.line == px.line) = true; exact beq_self_eq_true _
    have a2 : (py.line == ((some (Expr.Name x px).pos.line).getD 0)) = true := by show (py.line == px.line) = true; exact hl
    have a3 : (pz.line == ((some (Expr.Name x px).pos.line).getD 0)) = true := by show (pz.line == px.line) = true; exact hl2
    simp only [List.filterMap_cons, List.filterMap_nil, List.head?_cons, Option.map_some, kind_lcl xo hx, kind_lcl xo hy, kind_lcl xo hz, beq_self_eq_true, Bool.true_and, a1, a2, a3, if_true]
  unfold swappedStores
  simp only [pure_bind]
  rw [if_neg (by simp [blockKind_fn xo.kind])]
  rw [if_neg (by
    intro h
    simp only [List.any_cons, List.any_nil, Bool.or_false, Bool.or_eq_true] at h
    rcases h with h | h | h
    · split at h
      · simp [noStar] at hu
      · cases h
    · split at h
      · simp [noStar] at hv
      · cases h
    · split at h
      · simp [noStar] at hw
      · cases h)]
  erw [e1]
  rw [if_neg (by
    have : [x, y, z].eraseDups = [x, y, z] := by
      have h1 : (y == x) = false := beq_eq_false_iff_ne.mpr (Ne.symm hxy)
      have h2 : (z == x) = false := beq_eq_false_iff_ne.mpr (Ne.symm hxz)
      have h3 : (z == y) = false := beq_eq_false_iff_ne.mpr (Ne.symm hyz)
      simp [List.eraseDups_cons, h1, h2, h3]
    rw [this]; simp)]
  rw [if_neg (by rw [h1]; simp), if_neg (by rw [h2]; simp)]
end
end PY

set_option Elab.async false
set_option linter.all false
set_option maxRecDepth 100000
set_option maxHeartbeats 8000000
/-! PY, part q: statements: chk is sound. -/
namespace PY
open PySem PySem.Spec PyProof.Rows L2
section
variable {P : PCtx} {G : Gd} {S : Sg} {Γ : Cxt} {X : Cx} {W : WX}
/-- t = e -/
theorem sn_asg (x : XOk P G S Γ X W) {t : Tg} {e : Ex} {tg v : Expr} {pos : Pos} {te : TE} (hp : PS X (.Assign [tg] v pos) (tAsg te (RG G t))) (hte : ∀ σ H Q, RE G W (fun E => wpE S E e) σ H Q → te σ H Q) :
    PS X (.Assign [tg] v pos) (RS G W fun E => wpS S E (.asg t e)) := by
  refine ps_imp hp fun D σ H ⟨Z, φ, ρ, μ, E, PD, a, w, k⟩ => ?_
  simp only [wpS] at w
  refine hte _ _ _ ⟨Z, φ, ρ, μ, E ρ, _, a.at, w, fun d μ1 w1 v' φ1 H1 r1 c1 g1 => ?_⟩
  obtain ⟨ρ', eb, q⟩ := opt_iff.mp w1
  exact ⟨Z, φ1, ρ, d, ρ', a.er.grow g1, r1, eb, fun σ' t' => k.nx ρ' μ1 q σ' φ1 H1 t'.er c1 g1⟩
theorem sn_setix (x : XOk P G S Γ X W) {o i e : Ex} {yo yi v : Expr} {p pos : Pos} (hn : noComp v = true) (ho : PE X yo (RE G W fun E => wpE S E o)) (hi : PE X yi (RE G W fun E => wpE S E i)) (he : PE X v (RE G W fun E => wpE S E e)) (hsl : noSlice yi = true) :
    PS X (.Assign [.Subscript yo yi p] v pos) (RS G W fun E => wpS S E (.setix o i e)) := by
  have hu := x.hu
  have ha : ∀ v, assign (.Subscript yo yi p) X.env v = (do
      let ov ← holding [v] (eval yo X.env)
      let iv ← holding [v, ov] (eval yi X.env)
      standAt p
      holding [v, ov, iv] (setItem ov iv v)
      release [v, ov, iv] []) := by
    intro v
    cases yi <;> first | rfl | simp [noSlice] at hsl
  refine ps_imp (ps_asg he (pg_sub ho hi (s_setix (G := G) (by omega)) ha) (by unfold swapsWithSole; exact swaps_no hn) (by cases v <;> rfl) rfl) fun D σ H ⟨Z, φ, ρ, μ, E, PD, a, w, k⟩ => ?_
  simp only [wpS] at w
  refine ⟨Z, φ, ρ, μ, E ρ, _, a.at, w, fun dv μ1 w1 v1 φ1 H1 r1 c1 g1 => ?_⟩
  refine ⟨Z, φ1, ρ, μ1, E ρ, _, a.at.step c1 g1, w1, fun dx μ2 w2 v2 φ2 H2 r2 c2 g2 => ?_⟩
  refine ⟨Z, φ2, ρ, μ2, E ρ, _, a.at.step c2 (g1.trans g2), w2, fun dk μ3 w3 v3 φ3 H3 r3 c3 g3 => ?_⟩
  obtain ⟨⟨d, μ'⟩, e, q⟩ := opt_iff.mp w3
  exact ⟨Z, φ3, μ3, dx, dk, dv, d, μ', c3, r2.grow g3, r3, r1.grow (g2.trans g3), e, fun φ' H' c g => k.nx ρ μ' q σ φ' H' (a.er.grow (g1.trans (g2.trans (g3.trans g)))) c (g1.trans (g2.trans (g3.trans g)))⟩
theorem sn_par (x : XOk P G S Γ X W) {i j : Nat} {e1 e2 : Ex} {n1 n2 : Str} {u v : Expr} {px py pt pt2 pos : Pos} {kt k2 : Nat} (hi : Γ.N[i]? = some n1) (hj : Γ.N[j]? = some n2) (hij : i ≠ j) (hne : n1 ≠ n2) (hx : Γ.lcl.contains n1 = true) (hy : Γ.lcl.contains n2 = true)
    (hl : (py.line == px.line) = true) (h1 : [u, v].all (foldedForSure 8) = false) (h2 : [u, v].all (constantsAlone 8) = false) (hu : noStar u = true) (hv : noStar v = true) (ha : PE X u (RE G W fun E => wpE S E e1)) (hb : PE X v (RE G W fun E => wpE S E e2)) :
    PS X (.Assign [.Tuple [.Name n1 px, .Name n2 py] kt pt] (.Tuple [u, v] k2 pt2) pos) (RS G W fun E => wpS S E (.par i j e1 e2)) := by
  refine ps_imp (ps_par x.calm x.nd (by rw [x.N]; exact hi) (by rw [x.N]; exact hj) hij (kind_lcl x hx) (kind_lcl x hy) (pa_cons ha (pa_cons hb pa_nil (star_cons hv)) (star_cons hu)) (stores2 x hx hy hne hl hu hv h1 h2) (by unfold swapsWithSole; exact swaps_tup)) fun D σ H ⟨Z, φ, ρ, μ, E, PD, a, w, k⟩ => ?_
  simp only [wpS] at w
  refine ⟨Z, φ, ρ, μ, E ρ, _, a.at, w, fun d1 μ1 w1 v1 φ1 H1 r1 c1 g1 => ?_⟩
  refine ⟨Z, φ1, ρ, μ1, E ρ, _, a.at.step c1 g1, w1, fun d2 μ2 w2 v2 φ2 H2 r2 c2 g2 => ?_⟩
  exact ⟨v1, v2, rfl, k.nx _ μ2 w2 _ φ2 H2 (((a.er.grow (g1.trans g2)).set (r1.grow g2) i).set r2 j) c2 (g1.trans g2)⟩
theorem sn_par3 (x : XOk P G S Γ X W) {i j l : Nat} {e1 e2 e3 : Ex} {n1 n2 n3 : Str} {u v w : Expr} {px py pz pt pt2 pos : Pos} {kt k2 : Nat} (hi : Γ.N[i]? = some n1) (hj : Γ.N[j]? = some n2) (hk : Γ.N[l]? = some n3) (hij : i ≠ j) (hil : i ≠ l) (hjl : j ≠ l) (hxy : n1 ≠ n2) (hxz : n1 ≠ n3) (hyz : n2 ≠ n3)
    (hx : Γ.lcl.contains n1 = true) (hy : Γ.lcl.contains n2 = true) (hz : Γ.lcl.contains n3 = true)
    (hl : (py.line == px.line) = true) (hl2 : (pz.line == px.line) = true) (h1 : [u, v, w].all (foldedForSure 8) = false) (h2 : [u, v, w].all (constantsAlone 8) = false) (hu : noStar u = true) (hv : noStar v = true) (hw : noStar w = true)
    (ha : PE X u (RE G W fun E => wpE S E e1)) (hb : PE X v (RE G W fun E => wpE S E e2)) (hc : PE X w (RE G W fun E => wpE S E e3)) :
    PS X (.Assign [.Tuple [.Name n1 px, .Name n2 py, .Name n3 pz] kt pt] (.Tuple [u, v, w] k2 pt2) pos) (RS G W fun E => wpS S E (.par3 i j l e1 e2 e3)) := by
  refine ps_imp (ps_par3 x.calm x.nd (by rw [x.N]; exact hi) (by rw [x.N]; exact hj) (by rw [x.N]; exact hk) hij hil hjl (kind_lcl x hx) (kind_lcl x hy) (kind_lcl x hz) (pa_cons ha (pa_cons hb (pa_cons hc pa_nil (star_cons hw)) (star_cons hv)) (star_cons hu)) (stores3 x hx hy hz hxy hxz hyz hl hl2 hu hv hw h1 h2) (by unfold swapsWithSole; exact swaps_tup))
    fun D σ H ⟨Z, φ, ρ, μ, E, PD, a, ww, k⟩ => ?_
  simp only [wpS] at ww
  refine ⟨Z, φ, ρ, μ, E ρ, _, a.at, ww, fun d1 μ1 w1 v1 φ1 H1 r1 c1 g1 => ?_⟩
  refine ⟨Z, φ1, ρ, μ1, E ρ, _, a.at.step c1 g1, w1, fun d2 μ2 w2 v2 φ2 H2 r2 c2 g2 => ?_⟩
  refine ⟨Z, φ2, ρ, μ2, E ρ, _, a.at.step c2 (g1.trans g2), w2, fun d3 μ3 w3 v3 φ3 H3 r3 c3 g3 => ?_⟩
  exact ⟨v1, v2, v3, rfl, k.nx _ μ3 w3 _ φ3 H3 ((((a.er.grow (g1.trans (g2.trans g3))).set (r1.grow (g2.trans g3)) i).set (r2.grow g3) j).set r3 l) c3 (g1.trans (g2.trans g3))⟩
def tiD (G : Gd) : TIp := fun x y H Q => ∃ Z φ μ dx dy d, CRel G Z φ H μ ∧ Rep G Z φ H x dx ∧ Rep G Z φ H y dy ∧ augD dx dy = some d ∧ Done G Z φ H d μ Q
theorem ip_D : PIp X .Add (tiD G) := by
  intro pins s σ H x y v u Q I rx ry h
  obtain ⟨Z, φ, μ, dx, dy, d, c, r1, r2, e, q⟩ := h
  cases dx with
  | int i =>
    cases dy with
    | int j =>
      simp only [augD, Option.some.injEq] at e
      subst e
      rw [r1.of_int] at rx
      rw [r2.of_int] at ry
      exact iop_add pins s σ H _ _ v u Q I rx ry ⟨i, j, rfl, rfl, q.now c (.int _)⟩
    | _ => simp [augD] at e
  | str a =>
    cases dy with
    | str b =>
      simp only [augD, Option.ite_none_right_eq_some, Option.some.injEq] at e
      obtain ⟨hz, rfl⟩ := e
      rw [r1.of_str] at rx
      rw [r2.of_str] at ry
      refine iop_add_str pins s σ H _ _ v u Q I rx ry ⟨_, _, rfl, rfl, by rw [ofString_length, ofString_length, ← sz_eq]; exact hz, ?_⟩
      rw [ofString_append]
      exact q.now c (.str _)
    | _ => simp [augD] at e
  | _ => simp [augD] at e
theorem sn_aug (x : XOk P G S Γ X W) {i : Nat} {e : Ex} {n : Str} {v : Expr} {p pos : Pos} (hi : Γ.N[i]? = some n) (hl : Γ.loc.contains n = true) (he : PE X v (RE G W fun E => wpE S E e)) :
    PS X (.AugAssign (.Name n p) .Add v pos) (RS G W fun E => wpS S E (.aug i e)) := by
  obtain ⟨h1, h2⟩ := x.loc n (List.contains_iff_mem.mp hl)
  refine ps_imp (ps_aug x.nd (by rw [x.N]; exact hi) h1 he (ip_D (G := G)) h2) fun D σ H ⟨Z, φ, ρ, μ, E, PD, a, w, k⟩ => ?_
  simp only [wpS] at w
  cases z : ρ[i]? with
  | none => rw [z] at w; exact w.elim
  | some o =>
    cases o with
    | none => rw [z] at w; exact w.elim
    | some dx =>
      rw [z] at w
      obtain ⟨vx, e1, rx⟩ := a.er.at_ i dx z
      refine ⟨vx, e1, Z, φ, ρ, μ, E ρ, _, a.at, w, fun dy μ1 w1 v1 φ1 H1 r1 c1 g1 => ?_⟩
      obtain ⟨d, e2, q⟩ := opt_iff.mp w1
      exact ⟨Z, φ1, μ1, dx, dy, d, c1, rx.grow g1, r1, e2, fun v' φ' H' r c g => k.nx _ μ1 q _ φ' H' ((a.er.grow (g1.trans g)).set r i) c (g1.trans g)⟩
theorem sn_if {c : Ex} {p q : Sts} {y : Expr} {a b : List Stmt} {pos : Pos} (hc : PT X y (RT G W fun E => wpT S E c)) (ha : PSs X a (RS G W fun E => wpSs S E p)) (hb : PSs X b (RS G W fun E => wpSs S E q)) :
    PS X (.If y a b pos) (RS G W fun E => wpS S E (.ite c p q)) := by
  refine ps_imp (ps_if hc ha hb) fun D σ H ⟨Z, φ, ρ, μ, E, PD, at_, w, k⟩ => ?_
  simp only [wpS] at w
  refine ⟨Z, φ, ρ, μ, E ρ, _, at_.at, w, fun t μ1 w1 φ1 H1 c1 g1 => ?_⟩
  cases t with
  | true =>
    rw [if_pos rfl] at w1 ⊢
    exact ⟨Z, φ1, ρ, μ1, E, PD, at_.move (at_.er.grow g1) c1 g1, w1, k.move g1⟩
  | false =>
    rw [if_neg (by simp)] at w1 ⊢
    exact ⟨Z, φ1, ρ, μ1, E, PD, at_.move (at_.er.grow g1) c1 g1, w1, k.move g1⟩
theorem sn_while (x : XOk P G S Γ X W) {c : Ex} {p : Sts} {y : Expr} {b : List Stmt} {pos : Pos} (hc : PT X y (RT G W fun E => wpT S E c)) (hb : PSs X b (RS G W fun E => wpSs S E p)) :
    PS X (.While y b [] pos) (RS G W fun E => wpS S E (.whl c p)) := by
  refine ps_imp (ps_while x.pass hc hb) fun D σ H ⟨Z, φ, ρ, μ, E, PD, at_, w, k⟩ => ?_
  simp only [wpS] at w
  obtain ⟨n, w⟩ := w
  refine ⟨fun m σ1 H1 => ∃ φ1 ρ1 μ1, ERel G Z φ1 H1 σ1 ρ1 ∧ CRel G Z φ1 H1 μ1 ∧ Grow φ H φ1 H1 ∧ whileN (fun ρ μ Q => wpT S (E ρ) c ρ μ Q) (fun ρ μ N => wpSs S E p ρ μ { nx := N, rt := PD.rt, bk := PD.nx, ct := N }) PD.nx m ρ1 μ1, ⟨n, φ, ρ, μ, at_.er, at_.cr, Grow.refl _ _, w⟩, ?_⟩
  rintro m σ1 H1 ⟨φ1, ρ1, μ1, er, cr, g, w1⟩
  cases m with
  | zero => exact w1.elim
  | succ m =>
    have a1 := at_.move er cr g
    unfold whileN at w1
    refine ⟨Z, φ1, ρ1, μ1, E ρ1, _, a1.at, w1, fun t μ2 w2 φ2 H2 c2 g2 => ?_⟩
    cases t with
    | true =>
      rw [if_pos rfl] at w2 ⊢
      refine ⟨fun σ' H' => ∃ φ1 ρ1 μ1, ERel G Z φ1 H' σ' ρ1 ∧ CRel G Z φ1 H' μ1 ∧ Grow φ H φ1 H' ∧ whileN (fun ρ μ Q => wpT S (E ρ) c ρ μ Q) (fun ρ μ N => wpSs S E p ρ μ { nx := N, rt := PD.rt, bk := PD.nx, ct := N }) PD.nx m ρ1 μ1, fun σ' H' q => ⟨m, Nat.lt_succ_self m, q⟩, ?_⟩
      refine ⟨Z, φ2, ρ1, μ2, E, _, a1.move (er.grow g2) c2 g2, w2, ?_⟩
      exact ⟨fun ρ' μ' q σ' φ' H' er' c' g' => ⟨φ', ρ', μ', er', c', g.trans (g2.trans g'), q⟩, (k.move (g.trans g2)).rt, (k.move (g.trans g2)).nx, fun ρ' μ' q σ' φ' H' er' c' g' => ⟨φ', ρ', μ', er', c', g.trans (g2.trans g'), q⟩⟩
    | false =>
      rw [if_neg (by simp)] at w2 ⊢
      exact k.nx _ μ2 w2 σ1 φ2 H2 (er.grow g2) c2 (g.trans g2)
theorem sn_for (x : XOk P G S Γ X W) {t : Tg} {it : Itx} {p : Sts} {tg y : Expr} {b : List Stmt} {pos : Pos} (hi : PI X tg y (RI G W fun E => wpI S E it)) (hg : PG X tg (RG G t)) (hb : PSs X b (RS G W fun E => wpSs S E p)) (hs : noSet y = true) :
    PS X (.For tg y b [] pos) (RS G W fun E => wpS S E (.forr t it p)) := by
  refine ps_imp (ps_for x.pass x.calm hi hg hb (fold_of hs)) fun D σ H ⟨Z, φ, ρ, μ, E, PD, at_, w, k⟩ => ?_
  simp only [wpS] at w
  refine ⟨Z, φ, ρ, μ, E ρ, _, at_.at, w, fun pl μ0 w0 J φ0 H0 itk c0 g0 => ?_⟩
  refine ⟨fun i m σ1 H1 => m = pl.items.length - i ∧ i ≤ pl.items.length ∧ ∃ φ1 ρ1 μ1, ERel G Z φ1 H1 σ1 ρ1 ∧ CRel G Z φ1 H1 μ1 ∧ Grow φ0 H0 φ1 H1 ∧ forN t pl.guard (fun ρ μ N => wpSs S E p ρ μ { nx := N, rt := PD.rt, bk := PD.nx, ct := N }) PD.nx (pl.items.drop i) ρ1 μ1,
    ⟨_, rfl, Nat.zero_le _, φ0, ρ, μ0, at_.er.grow g0, c0, Grow.refl _ _, by rw [List.drop_zero]; exact w0⟩, ?_⟩
  rintro i m σ1 H1 ⟨rfl, hi, φ1, ρ1, μ1, er, cr, g, w1⟩
  by_cases hlt : i < pl.items.length
  · right
    rw [List.drop_eq_getElem_cons hlt] at w1
    obtain ⟨gd, w1⟩ := w1
    obtain ⟨ρ', eb, w1⟩ := opt_iff.mp w1
    refine ⟨itk.go Z φ1 H1 μ1 ZUp.refl g cr gd i hlt, fun σ' H' => i + 1 ≤ pl.items.length ∧ ∃ φ1 ρ1 μ1, ERel G Z φ1 H' σ' ρ1 ∧ CRel G Z φ1 H' μ1 ∧ Grow φ0 H0 φ1 H' ∧ forN t pl.guard (fun ρ μ N => wpSs S E p ρ μ { nx := N, rt := PD.rt, bk := PD.nx, ct := N }) PD.nx (pl.items.drop (i + 1)) ρ1 μ1,
      fun σ' H' q => ⟨pl.items.length - (i + 1), by omega, rfl, q.1, q.2⟩, fun xv H2 y => ?_⟩
    obtain ⟨d, ed, rd, c2, g2⟩ := itk.yld Z φ1 H1 μ1 ZUp.refl g cr gd i xv H2 hlt y
    have e2 : d = pl.items[i] := by rw [List.getElem?_eq_getElem hlt] at ed; exact (Option.some.inj ed).symm
    subst e2
    refine ⟨Z, φ1, ρ1, _, ρ', er.grow g2, rd, eb, fun σ2 t2 => ?_⟩
    have gt := g0.trans (g.trans g2)
    refine ⟨Z, φ1, ρ', μ1, E, _, at_.move t2.er c2 gt, w1, ?_⟩
    exact ⟨fun ρ' μ' q σ' φ' H' er' c' g' => ⟨by omega, φ', ρ', μ', er', c', g.trans (g2.trans g'), q⟩, (k.move gt).rt, (k.move gt).nx, fun ρ' μ' q σ' φ' H' er' c' g' => ⟨by omega, φ', ρ', μ', er', c', g.trans (g2.trans g'), q⟩⟩
  · left
    have e : i = pl.items.length := by omega
    subst e
    rw [List.drop_length] at w1
    obtain ⟨gd, w1⟩ := w1
    exact ⟨itk.stop Z φ1 H1 μ1 ZUp.refl g cr gd, k.nx _ μ1 w1 σ1 φ1 H1 er cr (g0.trans g)⟩

theorem sn_asgX (x : XOk P G S Γ X W) {t : Tg} {e : Ex} {tg v : Expr} {pos : Pos} (ht : chkTg Γ t tg = true) (he : chkE P Γ e v = true) (h : asgOk Γ tg v = true) : PS X (.Assign [tg] v pos) (RS G W fun E => wpS S E (.asg t e)) := by
  obtain ⟨hg, _⟩ := tg_ok x ht
  obtain ⟨hpe, _⟩ := sndE e x he
  cases tg with
  | Name n px =>
    obtain ⟨b, hb⟩ := Option.isSome_iff_exists.mp (show (swapsB Γ n px v).isSome = true from h)
    have hsw : swapsWith v (some (.Name n px)) pos.line X.env = pure b := swaps_name x hb
    cases t with
    | tup _ => simp [chkTg] at ht
    | name i =>
      unfold chkTg at ht
      simp only [Bool.and_eq_true, decide_eq_true_eq, List.contains_iff_mem] at ht
      obtain ⟨h1, h2⟩ := x.loc n ht.2
      have conv : ∀ {te : TE} D σ H, tAsg te (RG G (.name i)) D σ H → te σ H (fun v H1 => RG G (.name i) v σ H1 D.nx) := fun D σ H q => q
      cases b with
      | false =>
        refine sn_asg x (te := RE G W fun E => wpE S E e) ?_ fun σ H Q q => q
        refine ps_imp (ps_asg hpe hg (by unfold swapsWithSole; exact hsw) (by cases v <;> rfl) rfl) fun D σ H q => q
      | true =>
        cases v with
        | ListComp elt' gens scope cp =>
          cases e with
          | prim f es =>
            unfold chkE at he
            cases q : argsOf P Γ f (.ListComp elt' gens scope cp) with
            | none => rw [q] at he; cases he
            | some xs => cases f <;> simp only [argsOf] at q <;> cases q
          | comp m elt tg it cond own =>
            unfold chkE at he
            split at he
            case h_2 => cases he
            rename_i y0 elt1 tg' iter ifs scope1 p1 heq
            cases heq
            simp only [Bool.and_eq_true, List.all_eq_true, List.contains_iff_mem] at he
            obtain ⟨⟨⟨⟨⟨⟨h3, h4⟩, h5⟩, h6⟩, h7⟩, h8⟩, h9⟩ := he
            obtain ⟨ow, e, ok⟩ := ownOk_blk h5 x
            subst e
            have hlcl : X.env.scope.names.lookup n = some .local := by
              simp only [swapsB] at hb
              split at hb
              · split at hb
                · rename_i h2
                  exact x.lcl n (List.contains_iff_mem.mp h2)
                · cases hb
              · cases hb
            refine ps_imp (ps_setLc x.calm x.nd (i := i) (by rw [x.N]; exact ht.1) hlcl hsw (sndI it x h3) ok (fun s H C cl fp => (tg_ok (x.blk h5 s H C cl fp) h6).1) (fun s H C cl fp => sndC cond (x.blk h5 s H C cl fp) h8) (fun s H C cl fp => (sndE elt (x.blk h5 s H C cl fp) h9).1) (fold_of h4))
              fun D σ H ⟨Z, φ, ρ, μ, E, PD, a, w, k⟩ => ?_
            simp only [wpS] at w
            refine tlc_of h7 ⟨Z, φ, ρ, μ, E ρ, _, a.at, w, fun d μ1 w1 v' φ1 H1 r1 c1 g1 => ?_⟩
            simp only [bindT, opt_some] at w1
            exact k.nx _ μ1 w1 _ φ1 H1 ((a.er.grow g1).set r1 i) c1 g1
          | _ => unfold chkE at he; simp at he
        | SetComp _ _ _ _ => simp [swapsB] at hb
        | DictComp _ _ _ _ _ => simp [swapsB] at hb
        | _ => simp [swapsB] at hb
  | Tuple ts k p =>
    refine sn_asg x (te := RE G W fun E => wpE S E e) ?_ fun σ H Q q => q
    refine ps_asg hpe hg (by unfold swapsWithSole; exact swaps_tup) ?_ rfl
    cases v with
    | Tuple vs k2 p2 =>
      refine stores_const ?_ h
      cases e with
      | prim f es =>
        unfold chkE at he
        cases q : argsOf P Γ f (.Tuple vs k2 p2) with
        | none => rw [q] at he; cases he
        | some xs =>
          rw [q] at he
          cases f <;> simp only [argsOf] at q <;> first | (cases q; exact (chks_fit he).1) | cases q
      | _ => unfold chkE at he; simp at he
    | _ => rfl
  | _ => cases h
mutual
theorem sndS : ∀ (s : St) {y : Stmt}, XOk P G S Γ X W → chkS P Γ s y = true → PS X y (RS G W fun E => wpS S E s)
  | .asg t e, y, x, h => by
    unfold chkS at h
    split at h
    case h_2 => cases h
    simp only [Bool.and_eq_true] at h
    exact sn_asgX x h.1.1 h.1.2 h.2
  | .par i j a b, y, x, h => by
    unfold chkS at h
    split at h
    case h_2 => cases h
    simp only [Bool.and_eq_true, decide_eq_true_eq, Bool.not_eq_true'] at h
    obtain ⟨⟨⟨⟨⟨⟨⟨⟨⟨⟨h1, h2⟩, h3⟩, h4⟩, h5⟩, h6⟩, h7⟩, h8⟩, h9⟩, ha⟩, hb⟩ := h
    exact sn_par x h1 h2 h3 h4 h5 h6 h7 h8 h9 (chk_fit ha).1 (chk_fit hb).1 (sndE a x ha).1 (sndE b x hb).1
  | .par3 i j k a b c, y, x, h => by
    unfold chkS at h
    split at h
    case h_2 => cases h
    simp only [Bool.and_eq_true, decide_eq_true_eq, Bool.not_eq_true'] at h
    obtain ⟨⟨⟨⟨⟨⟨⟨⟨⟨⟨⟨⟨⟨⟨⟨⟨⟨⟨h1, h2⟩, h3⟩, h4⟩, h5⟩, h6⟩, h7⟩, h8⟩, h9⟩, h10⟩, h11⟩, h12⟩, h13⟩, h14⟩, h15⟩, h16⟩, ha⟩, hb⟩, hc⟩ := h
    exact sn_par3 x h1 h2 h3 h4 h5 h6 h7 h8 h9 h10 h11 h12 h13 h14 h15 h16 (chk_fit ha).1 (chk_fit hb).1 (chk_fit hc).1 (sndE a x ha).1 (sndE b x hb).1 (sndE c x hc).1
  | .setix o i e, y, x, h => by
    unfold chkS at h
    split at h
    case h_2 => cases h
    simp only [Bool.and_eq_true] at h
    obtain ⟨⟨⟨h1, h2⟩, h3⟩, h4⟩ := h
    exact sn_setix x h1 (sndE o x h2).1 (sndE i x h3).1 (sndE e x h4).1 (chk_fit h3).2
  | .aug i e, y, x, h => by
    unfold chkS at h
    split at h
    case h_2 => cases h
    simp only [Bool.and_eq_true, decide_eq_true_eq] at h
    obtain ⟨⟨⟨h1, h2⟩, h3⟩, h4⟩ := h
    obtain rfl := of_decide_eq_true h1
    exact sn_aug x h2 h3 (sndE e x h4).1
  | .expr e, y, x, h => by
    unfold chkS at h
    split at h
    case h_2 => cases h
    simp only [Bool.and_eq_true] at h
    refine ps_imp (ps_expr (sndE e x h.2).1 (swaps_no h.1)) fun D σ H ⟨Z, φ, ρ, μ, E, PD, a, w, k⟩ => ?_
    simp only [wpS] at w
    exact ⟨Z, φ, ρ, μ, E ρ, _, a.at, w, fun d μ1 w1 v' φ1 H1 r1 c1 g1 => k.nx ρ μ1 w1 σ φ1 H1 (a.er.grow g1) c1 g1⟩
  | .ite c a b, y, x, h => by
    unfold chkS at h
    split at h
    case h_2 => cases h
    simp only [Bool.and_eq_true] at h
    exact sn_if (sndE c x h.1.1).2 (sndSs a x h.1.2) (sndSs b x h.2)
  | .whl c b, y, x, h => by
    unfold chkS at h
    split at h
    case h_2 => cases h
    simp only [Bool.and_eq_true] at h
    exact sn_while x (sndE c x h.1).2 (sndSs b x h.2)
  | .forr t it b, y, x, h => by
    unfold chkS at h
    split at h
    case h_2 => cases h
    simp only [Bool.and_eq_true] at h
    obtain ⟨⟨⟨h1, h2⟩, h3⟩, h4⟩ := h
    exact sn_for x (sndI it x h1) (tg_ok x h3).1 (sndSs b x h4) h2
  | .ret e, y, x, h => by
    unfold chkS at h
    split at h
    case h_2 => cases h
    refine ps_imp (ps_ret (sndE e x h).1) fun D σ H ⟨Z, φ, ρ, μ, E, PD, a, w, k⟩ => ?_
    simp only [wpS] at w
    exact ⟨Z, φ, ρ, μ, E ρ, _, a.at, w, fun d μ1 w1 v' φ1 H1 r1 c1 g1 => k.rt d μ1 w1 v' φ1 H1 r1 c1 g1⟩
  | .retN, y, x, h => by
    unfold chkS at h
    split at h
    case h_2 => cases h
    refine ps_imp ps_retN fun D σ H ⟨Z, φ, ρ, μ, E, PD, a, w, k⟩ => ?_
    simp only [wpS] at w
    exact k.rt _ μ w _ φ H .non a.cr (Grow.refl _ _)
  | .raise c es, y, x, h => by
    unfold chkS at h
    cases h
  | .pass, y, x, h => by
    unfold chkS at h
    split at h
    case h_2 => cases h
    refine ps_imp ps_pass fun D σ H ⟨Z, φ, ρ, μ, E, PD, a, w, k⟩ => ?_
    simp only [wpS] at w
    exact k.nx ρ μ w σ φ H a.er a.cr (Grow.refl _ _)
  | .brk, y, x, h => by
    unfold chkS at h
    split at h
    case h_2 => cases h
    refine ps_imp ps_break fun D σ H ⟨Z, φ, ρ, μ, E, PD, a, w, k⟩ => ?_
    simp only [wpS] at w
    exact k.bk ρ μ w σ φ H a.er a.cr (Grow.refl _ _)
  | .cnt, y, x, h => by
    unfold chkS at h
    split at h
    case h_2 => cases h
    refine ps_imp ps_continue fun D σ H ⟨Z, φ, ρ, μ, E, PD, a, w, k⟩ => ?_
    simp only [wpS] at w
    exact k.ct ρ μ w σ φ H a.er a.cr (Grow.refl _ _)
termination_by structural s => s
theorem sndSs : ∀ (s : Sts) {ys : List Stmt}, XOk P G S Γ X W → chkSs P Γ s ys = true → PSs X ys (RS G W fun E => wpSs S E s)
  | .nil, ys, x, h => by
    unfold chkSs at h
    cases ys with
    | cons _ _ => cases h
    | nil =>
      refine pss_imp pss_nil fun D σ H ⟨Z, φ, ρ, μ, E, PD, a, w, k⟩ => ?_
      simp only [wpSs] at w
      exact k.nx ρ μ w σ φ H a.er a.cr (Grow.refl _ _)
  | .cons s r, ys, x, h => by
    unfold chkSs at h
    cases ys with
    | nil => cases h
    | cons y ys =>
      simp only [Bool.and_eq_true] at h
      have h1 := sndS s x h.1
      have h2 := sndSs r x h.2
      refine pss_imp (pss_cons h1 h2) fun D σ H ⟨Z, φ, ρ, μ, E, PD, a, w, k⟩ => ?_
      refine ⟨Z, φ, ρ, μ, E, { PD with nx := fun ρ' μ' => wpSs S E r ρ' μ' PD }, a, ?_, fun ρ' μ' q σ' φ' H' er c g => ⟨Z, φ', ρ', μ', E, PD, a.move er c g, q, k.move g⟩, k.rt, k.bk, k.ct⟩
      cases r with
      | nil =>
        simp only [wpSs] at w ⊢
        exact w
      | cons s' r' =>
        simp only [wpSs] at w
        exact w
termination_by structural s => s
end
end
end PY

set_option Elab.async false
set_option linter.all false
set_option maxRecDepth 100000
set_option maxHeartbeats 8000000
/-! PY, part r: defs: a def's own new cells are shed at its end. -/
namespace PY
open PySem PySem.Spec PyProof.Rows L2

/-! ### what is below -/
section
variable {G : Gd} {Z φ : List Addr} {H : Hp}
mutual
theorem Rep.blw : ∀ {v : V} {d : D}, Rep G Z φ H v d → below φ.length d = true
  | _, _, .non => rfl
  | _, _, .bl _ => rfl
  | _, _, .int _ => rfl
  | _, _, .str _ => rfl
  | _, _, .tup _ r => Reps.blws r
  | _, _, .lst _ r => Reps.blws r
  | _, _, .ins _ _ r => Reps.blws r
  | _, _, .ref h => decide_eq_true (List.getElem?_eq_some_iff.mp h).1
  | _, _, .scr _ => rfl
theorem Reps.blws : ∀ {vs : List V} {ds : List D}, Reps G Z φ H vs ds → belows φ.length ds = true
  | _, _, .nil => rfl
  | _, _, .cons r s => by
    show (PY.below φ.length _ && PY.belows φ.length _) = true
    rw [Rep.blw r, Reps.blws s]; rfl
end
end
def belowC (n : Nat) : Cell → Bool
  | .lst xs => belows n xs
  | .dct _ kvs => belows n (kvs.map (·.2))
  | .ins _ xs => belows n xs
def wfS (μ : Store) : Prop := ∀ (i : Nat) c, μ[i]? = some c → belowC μ.length c = true
theorem KVRep.belows {G : Gd} {Z φ : List Addr} {H : Hp} : ∀ {kvs : List (Key × V)} {ds : List (D × D)}, KVRep G Z φ H kvs ds → belows φ.length (ds.map (·.2)) = true
  | _, _, .nil => rfl
  | _, _, .cons _ r s => by
    show (PY.below φ.length _ && PY.belows φ.length _) = true
    rw [Rep.blw r, KVRep.belows s]; rfl
theorem TVRep.belows {G : Gd} {Z φ : List Addr} {H : Hp} : ∀ {kvs : List (List Key × V)} {ds : List (D × D)}, TVRep G Z φ H kvs ds → belows φ.length (ds.map (·.2)) = true
  | _, _, .nil => rfl
  | _, _, .cons _ r s => by
    show (PY.below φ.length _ && PY.belows φ.length _) = true
    rw [Rep.blw r, TVRep.belows s]; rfl
theorem CRel.wf {G : Gd} {Z φ : List Addr} {H : Hp} {μ : Store} (c : CRel G Z φ H μ) : wfS μ := fun i k e => by
  obtain ⟨a, _, q⟩ := c.cell i k e
  rw [← c.len]
  cases q with
  | lst _ r => exact r.blws
  | dK _ r => exact r.belows
  | dT _ r => exact r.belows
  | ins _ _ r => exact r.blws

/-! ### shedding: the cells from n on go, but for those at js; lists in them are frozen -/
mutual
def frzD (f : Nat → Option D) : D → Option D
  | .non => some .non
  | .bl b => some (.bl b)
  | .int i => some (.int i)
  | .str s => some (.str s)
  | .tup xs => (frzDs f xs).map .tup
  | .lst xs => (frzDs f xs).map .lst
  | .ins c xs => (frzDs f xs).map (.ins c)
  | .ref i => f i
  | .scr ns => some (.scr ns)
def frzDs (f : Nat → Option D) : List D → Option (List D)
  | [] => some []
  | x :: xs => (frzD f x).bind fun y => (frzDs f xs).map (y :: ·)
end
def keptAt (n : Nat) (js : List Nat) (i : Nat) : Option Nat := if i < n then some i else (js.findIdx? (· == i)).map (n + ·)
def frzR (n : Nat) (js : List Nat) (μ : Store) : Nat → Nat → Option D
  | 0, i => (keptAt n js i).map .ref
  | k + 1, i => match keptAt n js i with
    | some j => some (.ref j)
    | none => match μ[i]? with
      | some (.lst xs) => (frzDs (frzR n js μ k) xs).map .lst
      | _ => none
def frzKV (f : Nat → Option D) : List (D × D) → Option (List (D × D))
  | [] => some []
  | (k, v) :: r => (frzD f v).bind fun v' => (frzKV f r).map ((k, v') :: ·)
def frzC (f : Nat → Option D) : Cell → Option Cell
  | .lst xs => (frzDs f xs).map .lst
  | .dct t kvs => (frzKV f kvs).map (.dct t)
  | .ins c xs => (frzDs f xs).map (.ins c)
def frzCs (f : Nat → Option D) : List (Option Cell) → Option Store
  | [] => some []
  | some c :: r => (frzC f c).bind fun c' => (frzCs f r).map (c' :: ·)
  | none :: _ => none
structure Shed where
  js : List Nat := []
  fuel : Nat := 2
def shedOk (n : Nat) (js : List Nat) : Bool := decide js.Nodup && js.all fun j => decide (n ≤ j)
def shedS (n : Nat) (h : Shed) (μ : Store) : Option Store := if shedOk n h.js = true then frzCs (frzR n h.js μ h.fuel) ((List.range n ++ h.js).map fun i => μ[i]?) else none
def shedD (n : Nat) (h : Shed) (μ : Store) (d : D) : Option D := frzD (frzR n h.js μ h.fuel) d
def shedDs (n : Nat) (h : Shed) (μ : Store) (ds : List D) : Option (List D) := frzDs (frzR n h.js μ h.fuel) ds
section
variable {G : Gd} {Z φ φ' : List Addr} {H H' : Hp} {μ : Store} {n : Nat} {js : List Nat}
/-- where the kept cells are -/
def phiOf (φ' : List Addr) (n : Nat) (js : List Nat) : List Addr := φ'.take n ++ js.filterMap fun j => φ'[j]?
theorem filterMap_get {α : Type} {xs : List α} : ∀ {js : List Nat}, (∀ j ∈ js, j < xs.length) → ∀ (k : Nat), (js.filterMap fun j => xs[j]?)[k]? = (js[k]?).bind fun j => xs[j]?
  | [], _, k => by simp
  | j :: js, h, k => by
    have hj : j < xs.length := h j List.mem_cons_self
    have e : xs[j]? = some xs[j] := List.getElem?_eq_getElem hj
    rw [List.filterMap_cons, e]
    cases k with
    | zero => simp [e]
    | succ k =>
      simp only [List.getElem?_cons_succ]
      exact filterMap_get (fun i hi => h i (List.mem_cons_of_mem _ hi)) k
theorem filterMap_len {α : Type} {xs : List α} : ∀ {js : List Nat}, (∀ j ∈ js, j < xs.length) → (js.filterMap fun j => xs[j]?).length = js.length
  | [], _ => rfl
  | j :: js, h => by
    have hj : j < xs.length := h j List.mem_cons_self
    have e : xs[j]? = some xs[j] := List.getElem?_eq_getElem hj
    rw [List.filterMap_cons, e]
    simp only [List.length_cons]
    rw [filterMap_len fun i hi => h i (List.mem_cons_of_mem _ hi)]
theorem findIdx_get {js : List Nat} {i k : Nat} (h : js.findIdx? (· == i) = some k) : js[k]? = some i := by
  obtain ⟨hk, e, _⟩ := List.findIdx?_eq_some_iff_getElem.mp h
  rw [List.getElem?_eq_getElem hk]
  exact congrArg some (eq_of_beq e)
theorem phiOf_at (hn : n ≤ φ'.length) (hj : ∀ j ∈ js, j < φ'.length) {i k : Nat} {a : Addr} (h : keptAt n js i = some k) (e : φ'[i]? = some a) : (phiOf φ' n js)[k]? = some a := by
  unfold keptAt at h
  unfold phiOf
  split at h
  · rename_i hi
    cases h
    rw [List.getElem?_append_left (by rw [List.length_take]; omega), List.getElem?_take_of_lt hi]; exact e
  · obtain ⟨m, hm, rfl⟩ := Option.map_eq_some_iff.mp h
    have q := findIdx_get hm
    rw [List.getElem?_append_right (by rw [List.length_take]; omega), List.length_take]
    have e3 : n + m - min n φ'.length = m := by omega
    rw [e3, filterMap_get hj, q]
    exact e
theorem phiOf_sub {a : Addr} (h : a ∈ phiOf φ' n js) : a ∈ φ' := by
  unfold phiOf at h
  rcases List.mem_append.mp h with h | h
  · exact List.mem_of_mem_take h
  · obtain ⟨j, _, e⟩ := List.mem_filterMap.mp h
    exact List.mem_of_getElem? e
/-- a list cell that is not kept stands as a frozen list -/
theorem phiOf_out (c : CRel G Z φ' H μ) (hn : n ≤ φ'.length) {i : Nat} {a : Addr} (h : keptAt n js i = none) (e : φ'[i]? = some a) : a ∉ phiOf φ' n js := by
  unfold keptAt at h
  split at h
  · cases h
  · rename_i hi
    have h2 : js.findIdx? (· == i) = none := by
      cases q : js.findIdx? (· == i) with
      | none => rfl
      | some k => rw [q] at h; cases h
    have h3 : i ∉ js := fun hm => by
      have := List.findIdx?_eq_none_iff.mp h2 i hm
      simp at this
    intro hm
    have inj : ∀ {j : Nat}, φ'[j]? = some a → j = i := fun {j} ej => by
      obtain ⟨l1, e1⟩ := List.getElem?_eq_some_iff.mp ej
      obtain ⟨l2, e2⟩ := List.getElem?_eq_some_iff.mp e
      exact (List.getElem_inj c.nd).mp (e1.trans e2.symm)
    unfold phiOf at hm
    rcases List.mem_append.mp hm with hm | hm
    · obtain ⟨j, hj, ej⟩ := List.mem_iff_getElem.mp hm
      rw [List.length_take] at hj
      rw [List.getElem_take] at ej
      have := inj (j := j) (by rw [List.getElem?_eq_getElem (by omega), ej])
      omega
    · obtain ⟨j, hj, ej⟩ := List.mem_filterMap.mp hm
      rw [inj ej] at hj
      exact h3 hj
theorem Fz.shed {a : Addr} {o : HO} (f : Fz Z φ' H a o) : Fz Z (phiOf φ' n js) H a o := ⟨f.rd, fun q => f.nf (phiOf_sub q), f.nz⟩
/-- f is right of references -/
def FrOk (G : Gd) (Z φ φ1 : List Addr) (H : Hp) (f : Nat → Option D) : Prop := ∀ (i : Nat) a d, φ[i]? = some a → f i = some d → Rep G Z φ1 H (.ref a) d
mutual
theorem Rep.frz {f : Nat → Option D} (hf : FrOk G Z φ' (phiOf φ' n js) H f) : ∀ {v : V} {d d2 : D}, Rep G Z φ' H v d → frzD f d = some d2 → Rep G Z (phiOf φ' n js) H v d2
  | _, _, _, .non, e => by cases e; exact .non
  | _, _, _, .bl b, e => by cases e; exact .bl b
  | _, _, _, .int b, e => by cases e; exact .int b
  | _, _, _, .str b, e => by cases e; exact .str b
  | _, _, _, .tup h r, e => by
    obtain ⟨xs, e1, rfl⟩ := Option.map_eq_some_iff.mp (show (frzDs f _).map _ = _ from e)
    exact .tup (h.imp (fun q => q.shed) id) (Reps.frz hf r e1)
  | _, _, _, .lst h r, e => by
    obtain ⟨xs, e1, rfl⟩ := Option.map_eq_some_iff.mp (show (frzDs f _).map _ = _ from e)
    exact .lst h.shed (Reps.frz hf r e1)
  | _, _, _, .ins h q r, e => by
    obtain ⟨xs, e1, rfl⟩ := Option.map_eq_some_iff.mp (show (frzDs f _).map _ = _ from e)
    exact .ins h.shed q (Reps.frz hf r e1)
  | _, _, _, .ref h, e => hf _ _ _ h e
  | _, _, _, .scr h, e => by cases e; exact .scr h
theorem Reps.frz {f : Nat → Option D} (hf : FrOk G Z φ' (phiOf φ' n js) H f) : ∀ {vs : List V} {ds es : List D}, Reps G Z φ' H vs ds → frzDs f ds = some es → Reps G Z (phiOf φ' n js) H vs es
  | _, _, _, .nil, e => by cases e; exact .nil
  | _, _, _, .cons r s, e => by
    obtain ⟨y, e1, e2⟩ := Option.bind_eq_some_iff.mp (show (frzD f _).bind _ = _ from e)
    obtain ⟨ys, e3, rfl⟩ := Option.map_eq_some_iff.mp e2
    exact .cons (Rep.frz hf r e1) (Reps.frz hf s e3)
end
theorem frOk (c : CRel G Z φ' H μ) (hn : n ≤ φ'.length) (hj : ∀ j ∈ js, j < φ'.length) : ∀ k, FrOk G Z φ' (phiOf φ' n js) H (frzR n js μ k)
  | 0, i, a, d, e, h => by
    obtain ⟨j, h1, rfl⟩ := Option.map_eq_some_iff.mp (show (keptAt n js i).map _ = _ from h)
    exact .ref (phiOf_at hn hj h1 e)
  | k + 1, i, a, d, e, h => by
    unfold frzR at h
    cases q : keptAt n js i with
    | some j =>
      rw [q] at h
      cases h
      exact .ref (phiOf_at hn hj q e)
    | none =>
      rw [q] at h
      cases z : μ[i]? with
      | none => rw [z] at h; cases h
      | some cl =>
        rw [z] at h
        cases cl with
        | lst xs =>
          obtain ⟨ys, e1, rfl⟩ := Option.map_eq_some_iff.mp h
          obtain ⟨vs, h1, r1⟩ := c.lst e z
          exact .lst ⟨.inl h1, phiOf_out c hn q e, c.nz a (List.mem_of_getElem? e)⟩ (r1.frz (frOk c hn hj k) e1)
        | dct _ _ => cases h
        | ins _ _ => cases h
theorem KVRep.frz {f : Nat → Option D} (hf : FrOk G Z φ' (phiOf φ' n js) H f) : ∀ {kvs : List (Key × V)} {ds es : List (D × D)}, KVRep G Z φ' H kvs ds → frzKV f ds = some es → KVRep G Z (phiOf φ' n js) H kvs es
  | _, _, _, .nil, e => by cases e; exact .nil
  | _, _, _, .cons kr r s, e => by
    obtain ⟨y, e1, e2⟩ := Option.bind_eq_some_iff.mp (show (frzD f _).bind _ = _ from e)
    obtain ⟨ys, e3, rfl⟩ := Option.map_eq_some_iff.mp e2
    exact .cons kr (Rep.frz hf r e1) (KVRep.frz hf s e3)
theorem TVRep.frz {f : Nat → Option D} (hf : FrOk G Z φ' (phiOf φ' n js) H f) : ∀ {kvs : List (List Key × V)} {ds es : List (D × D)}, TVRep G Z φ' H kvs ds → frzKV f ds = some es → TVRep G Z (phiOf φ' n js) H kvs es
  | _, _, _, .nil, e => by cases e; exact .nil
  | _, _, _, .cons kr r s, e => by
    obtain ⟨y, e1, e2⟩ := Option.bind_eq_some_iff.mp (show (frzD f _).bind _ = _ from e)
    obtain ⟨ys, e3, rfl⟩ := Option.map_eq_some_iff.mp e2
    exact .cons kr (Rep.frz hf r e1) (TVRep.frz hf s e3)
theorem CellRep.frz {f : Nat → Option D} (hf : FrOk G Z φ' (phiOf φ' n js) H f) {a : Addr} {c c2 : Cell} (h : CellRep G Z φ' H a c) (e : frzC f c = some c2) : CellRep G Z (phiOf φ' n js) H a c2 := by
  cases h with
  | lst h r =>
    obtain ⟨xs, e1, rfl⟩ := Option.map_eq_some_iff.mp (show (frzDs f _).map _ = _ from e)
    exact .lst h (r.frz hf e1)
  | dK h r =>
    obtain ⟨xs, e1, rfl⟩ := Option.map_eq_some_iff.mp (show (frzKV f _).map _ = _ from e)
    exact .dK h (r.frz hf e1)
  | dT h r =>
    obtain ⟨xs, e1, rfl⟩ := Option.map_eq_some_iff.mp (show (frzKV f _).map _ = _ from e)
    exact .dT h (r.frz hf e1)
  | ins h q r =>
    obtain ⟨xs, e1, rfl⟩ := Option.map_eq_some_iff.mp (show (frzDs f _).map _ = _ from e)
    exact .ins h q (r.frz hf e1)
theorem frzCs_get {f : Nat → Option D} : ∀ {cs : List (Option Cell)} {ν : Store}, frzCs f cs = some ν → cs.length = ν.length ∧ ∀ (i : Nat) c2, ν[i]? = some c2 → ∃ c, cs[i]? = some (some c) ∧ frzC f c = some c2
  | [], ν, e => by
    cases e
    exact ⟨rfl, fun i c2 h => by simp at h⟩
  | some c :: r, ν, e => by
    obtain ⟨y, e1, e2⟩ := Option.bind_eq_some_iff.mp (show (frzC f _).bind _ = _ from e)
    obtain ⟨ys, e3, rfl⟩ := Option.map_eq_some_iff.mp e2
    obtain ⟨h1, h2⟩ := frzCs_get e3
    refine ⟨by rw [List.length_cons, List.length_cons, h1], fun i c2 h => ?_⟩
    cases i with
    | zero =>
      simp at h
      subst h
      exact ⟨c, rfl, e1⟩
    | succ i => exact h2 i c2 (by simpa using h)
  | none :: _, _, e => by cases e
/-- THE RULE: shedding -/
theorem CRel.shed {h : Shed} {ν : Store} (c : CRel G Z φ' H' μ) (g : Grow φ H φ' H') (hn : φ.length = n) (e : shedS n h μ = some ν) :
    CRel G Z (phiOf φ' n h.js) H' ν ∧ Grow φ H (phiOf φ' n h.js) H' ∧ FrOk G Z φ' (phiOf φ' n h.js) H' (frzR n h.js μ h.fuel) := by
  unfold shedS at e
  rw [Option.ite_none_right_eq_some] at e
  obtain ⟨h0, e⟩ := e
  unfold shedOk at h0
  simp only [Bool.and_eq_true, decide_eq_true_eq, List.all_eq_true] at h0
  obtain ⟨hl, hg⟩ := frzCs_get e
  have hnl : n ≤ φ'.length := by
    rw [← hn]
    cases hz : φ.length with
    | zero => omega
    | succ m =>
      have hm : m < φ.length := by omega
      have := g.pre m φ[m] (List.getElem?_eq_getElem hm)
      have := (List.getElem?_eq_some_iff.mp this).1
      omega
  have hj : ∀ j ∈ h.js, j < φ'.length := fun j hjm => by
    obtain ⟨k, hk, ek⟩ := List.mem_iff_getElem.mp hjm
    have hlen : (List.map (fun (i : Nat) => μ[i]?) (List.range n ++ h.js)).length = n + h.js.length := by simp
    have hi : n + k < ν.length := by rw [← hl, hlen]; omega
    obtain ⟨cc, e1, _⟩ := hg (n + k) ν[n + k] (List.getElem?_eq_getElem hi)
    rw [List.getElem?_map, List.getElem?_append_right (by simp), List.length_range, Nat.add_sub_cancel_left, List.getElem?_eq_getElem hk, ek] at e1
    simp only [Option.map_some, Option.some.injEq] at e1
    rw [c.len]
    exact (List.getElem?_eq_some_iff.mp e1).1
  have fo := frOk c hnl hj h.fuel (js := h.js)
  have pl : (phiOf φ' n h.js).length = n + h.js.length := by
    unfold phiOf
    rw [List.length_append, List.length_take, filterMap_len hj, Nat.min_eq_left hnl]
  refine ⟨⟨?_, ?_, fun a ha => c.nz a (phiOf_sub ha), c.zt, fun i c2 e2 => ?_⟩, ⟨g.keep, fun a ha => g.new a (phiOf_sub ha), fun i a ea => ?_⟩, fo⟩
  · rw [pl, ← hl]; simp
  · unfold phiOf
    rw [List.nodup_append]
    refine ⟨c.nd.sublist (List.take_sublist _ _), ?_, fun x hx y hy exy => ?_⟩
    · rw [List.Nodup, List.pairwise_filterMap]
      refine List.Pairwise.imp_of_mem ?_ h0.1
      intro a b ha hb hab x hx y hy hxy
      subst hxy
      obtain ⟨l1, e1⟩ := List.getElem?_eq_some_iff.mp hx
      obtain ⟨l2, e2⟩ := List.getElem?_eq_some_iff.mp hy
      exact hab ((List.getElem_inj c.nd).mp (e1.trans e2.symm))
    · subst exy
      obtain ⟨i, hi, ei⟩ := List.mem_iff_getElem.mp hx
      rw [List.length_take] at hi
      rw [List.getElem_take] at ei
      obtain ⟨j, hjm, ej⟩ := List.mem_filterMap.mp hy
      obtain ⟨l2, e2⟩ := List.getElem?_eq_some_iff.mp ej
      have : i = j := (List.getElem_inj c.nd).mp (ei.trans e2.symm)
      have := h0.2 j hjm
      omega
  · obtain ⟨cc, e3, e4⟩ := hg i c2 e2
    rw [List.getElem?_map] at e3
    obtain ⟨idx, e5, e6⟩ := Option.map_eq_some_iff.mp e3
    obtain ⟨a, ea, q⟩ := c.cell idx cc e6
    refine ⟨a, ?_, q.frz fo e4⟩
    unfold phiOf
    by_cases hi : i < n
    · rw [List.getElem?_append_left (by simpa using hi), List.getElem?_range hi] at e5
      cases e5
      rw [List.getElem?_append_left (by rw [List.length_take]; omega), List.getElem?_take_of_lt hi]
      exact ea
    · rw [List.getElem?_append_right (by simpa using hi), List.length_range] at e5
      rw [List.getElem?_append_right (by rw [List.length_take]; omega), List.length_take, Nat.min_eq_left hnl, filterMap_get hj, e5]
      exact ea
  · have hi := (List.getElem?_eq_some_iff.mp ea).1
    have := g.pre i a ea
    unfold phiOf
    rw [List.getElem?_append_left (by rw [List.length_take]; omega), List.getElem?_take_of_lt (by omega)]
    exact this
end
end PY

set_option Elab.async false
set_option linter.all false
set_option maxRecDepth 100000
set_option maxHeartbeats 8000000
/-! PY, part s: a def by its body. -/
namespace PY
open PySem PySem.Spec PyProof.Rows L2
/-- a def that is proved, at level k -/
structure DefOk (prog : Program) (w : World) (K : PySem.W.Frag) (mg : Str → Option Value) (base : Heap) (G : Gd) (S : Sg) (k : Nat) (d : FunE) : Prop where
  len : ∀ ds μ Q E, S.call d.id ds μ Q E → ds.length = d.n
  ex : ∃ f fd ps ds dvs, mg d.name = some (.ref f) ∧ PySem.W.keepIn K (.ref f) = true ∧ FnOk prog w K mg base (L2.CX prog w) k f fd ps (SpOf G (S.call d.id) d.n) ∧
    Vals dvs ds ∧ (∀ Z φ H, Reps G Z φ H dvs (S.dfl d.id)) ∧ ∀ m, m ≤ d.nd → Binds K fd ps (ds.drop m)
theorem DefOk.mono {prog : Program} {w : World} {K : PySem.W.Frag} {mg : Str → Option Value} {base : Heap} {G : Gd} {S : Sg} {k j : Nat} {d : FunE} (h : DefOk prog w K mg base G S k d) (hj : k ≤ j) : DefOk prog w K mg base G S j d := by
  obtain ⟨f, fd, ps, ds, dvs, h1, h2, h3, h4⟩ := h.ex
  exact ⟨h.len, f, fd, ps, ds, dvs, h1, h2, h3.mono hj, h4⟩
/-- the specs of the def stand in S as in S' -/
theorem DefOk.cast {prog : Program} {w : World} {K : PySem.W.Frag} {mg : Str → Option Value} {base : Heap} {G : Gd} {S S' : Sg} {k : Nat} {d : FunE} (h : DefOk prog w K mg base G S k d) (e : S'.call d.id = S.call d.id) (e2 : S'.dfl d.id = S.dfl d.id) : DefOk prog w K mg base G S' k d := by
  obtain ⟨f, fd, ps, ds, dvs, h1, h2, h3, h4, h5, h6⟩ := h.ex
  refine ⟨fun ds μ Q E q => h.len ds μ Q E (by rw [e] at q; exact q), f, fd, ps, ds, dvs, h1, h2, ?_, h4, ?_, h6⟩
  · rw [e]; exact h3
  · rw [e2]; exact h5
/-- the module as a body at level k finds it -/
structure Wd (P : PCtx) (G : Gd) (S : Sg) (prog : Program) (w : World) (K : PySem.W.Frag) (mg : Str → Option Value) (base : Heap) (k : Nat) : Prop where
  hK : G.K = K
  blt : ∀ x ∈ P.blt, mg x = none
  con : ∀ (j : Nat) x, P.con[j]? = some x → ∃ u v, mg x = some u ∧ RelV v u ∧ ∀ Z φ H, Rep G Z φ H v (S.con j)
  fn : ∀ d ∈ P.funs, DefOk prog w K mg base G S k d
def startD (N : List Str) (ds : List D) : Sl := ds.map some ++ List.replicate (N.length - ds.length) none
/-- the end of a def whose own new cells begin at n -/
def EndD (n : Nat) (d : D) (μ : Store) (Q : D → Store → Prop) : Prop := ∃ h, opt (shedS n h μ) fun ν => opt (shedD n h μ d) fun e => Q e ν
def EndX (n : Nat) (x : XD) (μ : Store) (E : XD → Store → Prop) : Prop := ∃ h, opt (shedS n h μ) fun ν => opt (shedDs n h μ x.args) fun es => E ⟨x.c, es⟩ ν
section
variable {P : PCtx} {G : Gd} {S : Sg} {prog : Program} {w : World} {K : PySem.W.Frag} {mg : Str → Option Value} {base : Heap} {k : Nat} {N ps : List Str} {qual : Str} {scope : Scope} {f : Addr} {cd : Value} {A : Around} {outer : List Env} {s : Shared} {H : Hp} {E : XK}
theorem XOk.make (wd : Wd P G S prog w K mg base k) (Sc : FnScope N ps scope) (hq : uniqB scope = true) (hk : 1 ≤ k) (hr : Room k (A.deeper (envOfC qual scope s.heap.objs.size f cd))) :
    XOk P G S (cxtOf N scope) (cxOf (L2.CX prog w) prog w K mg base N qual scope f cd A outer s H E) (fun cls d _ H => E cls d H) := by
  have vis : ∀ {x : Str} {p : NameKind → Bool}, x ∈ kindsOf scope p → ∃ kd, scope.names.lookup x = some kd ∧ p kd = true := fun h => by
    obtain ⟨kd, h1, h2⟩ := kindsOf_mem h
    exact ⟨kd, uniq_of hq h1, h2⟩
  refine ⟨wd.hK, rfl, Sc.nd, fun x hx => ?_, fun x hx => ?_, fun x hx => ?_, fun x hx => ?_, fun x hx => ?_, Sc.kind, rfl, hr.mono hk, takes_of rfl rfl rfl rfl, passes_of rfl, wd.blt, wd.con, fun d hd => ?_⟩
  · obtain ⟨kd, h1, h2⟩ := vis hx
    show scope.names.lookup x = _ ∨ scope.names.lookup x = _ ∨ scope.names.lookup x = _
    rw [h1]
    cases kd <;> first | exact .inl rfl | exact .inr (.inl rfl) | exact .inr (.inr rfl) | cases h2
  · obtain ⟨kd, h1, h2⟩ := vis hx
    refine ⟨?_, .inl rfl⟩
    show scope.names.lookup x = _ ∨ scope.names.lookup x = _
    rw [h1]
    cases kd <;> first | exact .inl rfl | exact .inr rfl | cases h2
  · obtain ⟨kd, h1, h2⟩ := vis hx
    show scope.names.lookup x = _
    rw [h1]
    cases kd <;> first | rfl | cases h2
  · obtain ⟨kd, h1, h2⟩ := vis hx
    show scope.names.lookup x = _ ∨ scope.names.lookup x = _
    rw [h1]
    cases kd <;> first | exact .inl rfl | exact .inr rfl | cases h2
  · obtain ⟨kd, h1, h2⟩ := vis hx
    show scope.names.lookup x = _
    rw [h1]
    cases kd <;> first | rfl | cases h2
  · obtain ⟨len, fa, fd, ps', ds, dvs, h1, h2, h3, h4, h5, h6⟩ := wd.fn d hd
    exact ⟨len, fa, fd, ps', ds, dvs, k, h1, h2, hr, h3, h4, h5, h6⟩
theorem start_rel {Z φ : List Addr} {vs : List V} {ds : List D} (r : Reps G Z φ H vs ds) : ERel G Z φ H (start N vs) (startD N ds) := by
  have hl := r.length
  refine ⟨by unfold L2.start startD; simp [hl], fun i d e => ?_⟩
  unfold startD at e
  unfold L2.start
  by_cases hi : i < ds.length
  · rw [List.getElem?_append_left (by simpa using hi), List.getElem?_map] at e
    obtain ⟨d', e1, e2⟩ := Option.map_eq_some_iff.mp e
    cases e2
    obtain ⟨v, e3, r'⟩ := r.get e1
    exact ⟨v, by rw [List.getElem?_append_left (by simpa [hl] using hi), List.getElem?_map, e3]; rfl, r'⟩
  · rw [List.getElem?_append_right (by simpa using hi), List.getElem?_replicate] at e
    split at e <;> cases e
theorem EndD.done {n : Nat} {Z φ φ' : List Addr} {H H' : Hp} {μ : Store} {d : D} {v : V} {Qd : D → Store → Prop} {Q : VK} (h : EndD n d μ Qd) (hn : φ.length = n) (r : Rep G Z φ' H' v d) (c : CRel G Z φ' H' μ) (g : Grow φ H φ' H')
    (q : ∀ d μ', Qd d μ' → Done G Z φ H d μ' Q) : Q v H' := by
  obtain ⟨sh, h⟩ := h
  obtain ⟨ν, e1, h⟩ := opt_iff.mp h
  obtain ⟨d2, e2, h⟩ := opt_iff.mp h
  obtain ⟨c2, g2, fo⟩ := c.shed g hn e1
  exact q d2 ν h v _ H' (r.frz fo e2) c2 g2
/-- THE RULE -/
theorem def_ok {x : Str} {params : Arguments} {body : List Stmt} {dvs : List V} {fd : FuncData} {b : Sts} {fsp : List D → Store → (D → Store → Prop) → (XD → Store → Prop) → Prop} {n : Nat}
    (wd : Wd P G S prog w K mg base k) (F : FunD K x qual params body scope dvs [] f fd) (Sc : FnScope N ps scope) (hq : uniqB scope = true) (hk : 1 ≤ k) (hc : chkSs P (cxtOf N scope) b body = true) (hn : ps.length = n)
    (hw : ∀ ds μ Q E, fsp ds μ Q E → ds.length = n → belows μ.length ds = true → wfS μ →
      wpSs S (fun _ x μ' => EndX μ.length x μ' E) b (startD N ds) μ { nx := fun _ μ' => EndD μ.length .non μ' Q, rt := fun d μ' => EndD μ.length d μ' Q }) :
    FnOk prog w K mg base (L2.CX prog w) (k + 1) f fd ps (SpOf G fsp n) := by
  refine F.ok Sc (fun vs H Q E h => by rw [hn]; exact h.1) fun cdv A outer s H vs Q E hr h => ?_
  have x := XOk.make (outer := outer) (H := H) (E := E) wd Sc hq hk hr
  refine ⟨_, sndSs b x hc, ?_⟩
  obtain ⟨hl, Z, φ, μ, ds, Qd, Ed, rs, c, hf, hQ, hE⟩ := h
  have hlen := c.len
  have bl := rs.blws
  rw [hlen] at bl
  refine ⟨Z, φ, startD N ds, μ, _, _, ⟨start_rel rs, c, fun ρ xx μ' e σ cls dd φ' H' er xr c' g' => ?_⟩, hw ds μ Qd Ed hf (rs.length.symm.trans hl) bl c.wf, fun ρ' μ' q σ' φ' H' er c' g' => ?_, fun d μ' q v φ' H' r c' g' => ?_, fun ρ' μ' q => q.elim, fun ρ' μ' q => q.elim⟩
  · obtain ⟨sh, e⟩ := e
    obtain ⟨ν, e1, e⟩ := opt_iff.mp e
    obtain ⟨es, e2, e⟩ := opt_iff.mp e
    obtain ⟨c2, g2, fo⟩ := c'.shed g' hlen e1
    obtain ⟨h1, d, ws, h2, h3, h4, h5⟩ := xr
    exact hE _ ν e cls dd _ H' ⟨h1, d, ws, h2, h3, h4, h5.frz fo e2⟩ c2 g2
  · exact EndD.done (Q := Q) q hlen .non c' g' hQ
  · exact EndD.done q hlen r c' g' hQ
end
end PY

set_option Elab.async false
set_option linter.all false
set_option maxRecDepth 100000
set_option maxHeartbeats 4000000
/-! PY, part w: aids for proofs about the meaning. -/
namespace PY
open PySem PySem.Spec PyProof.Rows L2
mutual
theorem frzD_below {n : Nat} {f : Nat → Option D} (hf : ∀ i, i < n → f i = some (.ref i)) : ∀ d : D, below n d = true → frzD f d = some d
  | .non, _ => rfl
  | .bl _, _ => rfl
  | .int _, _ => rfl
  | .str _, _ => rfl
  | .tup xs, h => by show (frzDs f xs).map _ = _; rw [frzDs_below hf xs h]; rfl
  | .lst xs, h => by show (frzDs f xs).map _ = _; rw [frzDs_below hf xs h]; rfl
  | .ins c xs, h => by show (frzDs f xs).map _ = _; rw [frzDs_below hf xs h]; rfl
  | .ref i, h => hf i (of_decide_eq_true h)
  | .scr _, _ => rfl
theorem frzDs_below {n : Nat} {f : Nat → Option D} (hf : ∀ i, i < n → f i = some (.ref i)) : ∀ ds : List D, belows n ds = true → frzDs f ds = some ds
  | [], _ => rfl
  | d :: ds, h => by
    have h' : (below n d && belows n ds) = true := h
    rw [Bool.and_eq_true] at h'
    show (frzD f d).bind _ = _
    rw [frzD_below hf d h'.1, frzDs_below hf ds h'.2]; rfl
end
theorem frzKV_below {n : Nat} {f : Nat → Option D} (hf : ∀ i, i < n → f i = some (.ref i)) : ∀ kvs : List (D × D), belows n (kvs.map (·.2)) = true → frzKV f kvs = some kvs
  | [], _ => rfl
  | (k, v) :: r, h => by
    have h' : (below n v && belows n (r.map (·.2))) = true := h
    rw [Bool.and_eq_true] at h'
    show (frzD f v).bind _ = _
    rw [frzD_below hf v h'.1, frzKV_below hf r h'.2]; rfl
theorem frzC_below {n : Nat} {f : Nat → Option D} (hf : ∀ i, i < n → f i = some (.ref i)) {c : Cell} (h : belowC n c = true) : frzC f c = some c := by
  cases c with
  | lst xs => show (frzDs f xs).map _ = _; rw [frzDs_below hf xs h]; rfl
  | dct t kvs => show (frzKV f kvs).map _ = _; rw [frzKV_below hf kvs h]; rfl
  | ins k xs => show (frzDs f xs).map _ = _; rw [frzDs_below hf xs h]; rfl
theorem frzR_lt {n : Nat} {js : List Nat} {μ : Store} : ∀ k i, i < n → frzR n js μ k i = some (.ref i)
  | 0, i, h => by unfold frzR keptAt; rw [if_pos h]; rfl
  | k + 1, i, h => by unfold frzR keptAt; rw [if_pos h]
theorem frzCs_some {f : Nat → Option D} : ∀ {cs : List Cell}, (∀ c ∈ cs, frzC f c = some c) → frzCs f (cs.map some) = some cs
  | [], _ => rfl
  | c :: cs, h => by
    show (frzC f c).bind _ = _
    rw [h c List.mem_cons_self, Option.bind_some, frzCs_some fun x hx => h x (List.mem_cons_of_mem _ hx)]; rfl
/-- cells of the first n only -/
def wfN (n : Nat) (μ : Store) : Prop := ∀ c ∈ μ, belowC n c = true
theorem wfS.n {μ : Store} (h : wfS μ) : wfN μ.length μ := fun c hc => by
  obtain ⟨i, hi, e⟩ := List.mem_iff_getElem.mp hc
  exact h i c (by rw [List.getElem?_eq_getElem hi, e])
theorem wfS_of {μ : Store} (h : wfN μ.length μ) : wfS μ := fun i c e => h c (List.mem_of_getElem? e)
theorem shedS_drop {ν ex : Store} {h : Shed} (hj : h.js = []) (hw : wfN ν.length ν) : shedS ν.length h (ν ++ ex) = some ν := by
  unfold shedS
  rw [hj]
  rw [if_pos (by simp [shedOk])]
  have e : ((List.range ν.length ++ []).map fun (i : Nat) => (ν ++ ex)[i]?) = ν.map some := by
    rw [List.append_nil]
    apply List.ext_getElem?
    intro i
    by_cases hi : i < ν.length
    · rw [List.getElem?_map, List.getElem?_range hi, List.getElem?_map]
      simp [List.getElem?_append_left hi, hi]
    · rw [List.getElem?_eq_none (by simpa using hi), List.getElem?_eq_none (by simpa using hi)]
  rw [e]
  exact frzCs_some fun c hc => frzC_below (fun i hi => frzR_lt _ i hi) (hw c hc)
theorem shedD_below {n : Nat} {h : Shed} {μ : Store} {d : D} (hb : below n d = true) : shedD n h μ d = some d := frzD_below (fun i hi => frzR_lt _ i hi) d hb
theorem EndD.drop {ν ex : Store} {d : D} {Q : D → Store → Prop} (hw : wfS ν) (hd : below ν.length d = true) (q : Q d ν) : EndD ν.length d (ν ++ ex) Q :=
  ⟨{}, by rw [shedS_drop rfl hw.n, opt_some, shedD_below hd, opt_some]; exact q⟩
theorem EndD.same {μ : Store} {d : D} {Q : D → Store → Prop} (hw : wfS μ) (hd : below μ.length d = true) (q : Q d μ) : EndD μ.length d μ Q := by
  have := EndD.drop (ex := []) hw hd q
  rwa [List.append_nil] at this
@[simp] theorem below_bl (n : Nat) (b : Bool) : below n (.bl b) = true := rfl
@[simp] theorem below_non (n : Nat) : below n .non = true := rfl
@[simp] theorem below_int (n : Nat) (i : Int) : below n (.int i) = true := rfl
@[simp] theorem below_str (n : Nat) (s : String) : below n (.str s) = true := rfl
@[simp] theorem below_tup (n : Nat) (xs : List D) : below n (.tup xs) = belows n xs := rfl
@[simp] theorem below_lst (n : Nat) (xs : List D) : below n (.lst xs) = belows n xs := rfl
@[simp] theorem belows_nil (n : Nat) : belows n [] = true := rfl
@[simp] theorem belows_cons (n : Nat) (x : D) (xs : List D) : belows n (x :: xs) = (below n x && belows n xs) := rfl
@[simp] theorem plain_bl (b : Bool) : plain (.bl b) = true := rfl
@[simp] theorem plain_non : plain .non = true := rfl
@[simp] theorem plain_int (i : Int) : plain (.int i) = true := rfl
@[simp] theorem plain_str (s : String) : plain (.str s) = true := rfl
@[simp] theorem plain_tup (xs : List D) : plain (.tup xs) = plains xs := rfl
@[simp] theorem plain_lst (xs : List D) : plain (.lst xs) = plains xs := rfl
@[simp] theorem plains_nil : plains [] = true := rfl
@[simp] theorem plains_cons (x : D) (xs : List D) : plains (x :: xs) = (plain x && plains xs) := rfl
mutual
theorem below_plain {n : Nat} : ∀ d : D, plain d = true → below n d = true
  | .non, _ => rfl
  | .bl _, _ => rfl
  | .int _, _ => rfl
  | .str _, _ => rfl
  | .tup xs, h => belows_plain xs h
  | .lst xs, h => belows_plain xs h
theorem belows_plain {n : Nat} : ∀ ds : List D, plains ds = true → belows n ds = true
  | [], _ => rfl
  | d :: ds, h => by
    rw [plains_cons, Bool.and_eq_true] at h
    rw [belows_cons, below_plain d h.1, belows_plain ds h.2]; rfl
end
@[simp] theorem plain_scr (ns : List Int) : plain (.scr ns) = false := rfl
@[simp] theorem plain_ref (i : Nat) : plain (.ref i) = false := rfl
@[simp] theorem plain_ins (c : Nat) (xs : List D) : plain (.ins c xs) = false := rfl
theorem plains_mem : ∀ {xs : List D} {x : D}, plains xs = true → x ∈ xs → plain x = true
  | y :: ys, x, h, hm => by
    rw [plains_cons, Bool.and_eq_true] at h
    rcases List.mem_cons.mp hm with e | e
    · rw [e]; exact h.1
    · exact plains_mem h.2 e
theorem plains_iff {xs : List D} : plains xs = true ↔ ∀ x ∈ xs, plain x = true := by
  induction xs with
  | nil => simp
  | cons y ys ih => rw [plains_cons, Bool.and_eq_true, ih]; simp
@[simp] theorem plains_append (xs ys : List D) : plains (xs ++ ys) = (plains xs && plains ys) := by
  induction xs with
  | nil => simp
  | cons x xs ih => rw [List.cons_append, plains_cons, plains_cons, ih, Bool.and_assoc]
@[simp] theorem belows_append (n : Nat) (xs ys : List D) : belows n (xs ++ ys) = (belows n xs && belows n ys) := by
  induction xs with
  | nil => simp
  | cons x xs ih => rw [List.cons_append, belows_cons, belows_cons, ih, Bool.and_assoc]
@[simp] theorem plains_str (ss : List String) : plains (ss.map D.str) = true := plains_iff.mpr fun x h => by
  obtain ⟨s, _, rfl⟩ := List.mem_map.mp h; rfl
/-! ### the meaning, step by step -/
section
variable (S : Sg) (E : XD → Store → Prop) (E' : Sl → XD → Store → Prop) (ρ : Sl) (μ : Store) (Q : D → Store → Prop) (R : Bool → Store → Prop) (D' : PEnds)
@[simp] theorem truth_bl (b : Bool) : truthD μ (.bl b) = some b := rfl
@[simp] theorem truth_non : truthD μ .non = some false := rfl
@[simp] theorem truth_int (i : Int) : truthD μ (.int i) = some (i != 0) := rfl
@[simp] theorem truth_tup (xs : List D) : truthD μ (.tup xs) = some (!xs.isEmpty) := rfl
@[simp] theorem truth_lst (xs : List D) : truthD μ (.lst xs) = some (!xs.isEmpty) := rfl
@[simp] theorem con_int (i : Int) : conD (.int i) = some (.int i) := rfl
@[simp] theorem con_non : conD .none = some .non := rfl
@[simp] theorem con_bool (b : Bool) : conD (.bool b) = some (.bl b) := rfl
@[simp] theorem p_tup (ds : List D) : primD .tup ds μ = if ds.length ≤ Sz then some (.tup ds, μ) else none := rfl
@[simp] theorem p_lstF (ds : List D) : primD (.lst false) ds μ = if ds.length ≤ Sz then some (.lst ds, μ) else none := rfl
@[simp] theorem p_lstT (ds : List D) : primD (.lst true) ds μ = if ds.length ≤ Sz then some (.ref μ.length, μ ++ [.lst ds]) else none := rfl
@[simp] theorem p_bin (o : Op) (x y : D) : primD (.bin o) [x, y] μ = (binD μ o x y).map (·, μ) := rfl
@[simp] theorem p_neg (i : Int) : primD .neg [.int i] μ = some (.int (-i), μ) := rfl
@[simp] theorem p_cm (c : Cm) (x y : D) : primD (.cm c) [x, y] μ = (cmD μ c x y).map fun b => (.bl b, μ) := rfl
@[simp] theorem p_isN (x : D) : primD .isN [x] μ = some (.bl (isNonD x), μ) := rfl
@[simp] theorem p_notN (x : D) : primD .notN [x] μ = some (.bl (!isNonD x), μ) := rfl
@[simp] theorem p_ix (x i : D) : primD .ix [x, i] μ = (ixD μ x i).map (·, μ) := rfl
@[simp] theorem p_sl0 (x : D) : primD (.sl false false) [x] μ = (slD μ none none x).map (·, μ) := rfl
@[simp] theorem p_sl1 (x : D) (i : Int) : primD (.sl true false) [x, .int i] μ = (slD μ (some i) none x).map (·, μ) := rfl
@[simp] theorem p_sl2 (x : D) (i : Int) : primD (.sl false true) [x, .int i] μ = (slD μ none (some i) x).map (·, μ) := rfl
@[simp] theorem p_len (x : D) : primD .len [x] μ = (lenD μ x).map fun (n : Nat) => (D.int (n : Int), μ) := rfl
@[simp] theorem p_all (x : D) : primD .all [x] μ = ((lstOf μ x).bind boolsOf).map fun bs => (.bl (bs.all id), μ) := rfl
@[simp] theorem p_any (x : D) : primD .any [x] μ = ((lstOf μ x).bind boolsOf).map fun bs => (.bl (bs.any id), μ) := rfl
@[simp] theorem p_int1i (i : Int) : primD .int1 [.int i] μ = some (.int i, μ) := rfl
@[simp] theorem p_int1b (b : Bool) : primD .int1 [.bl b] μ = some (.int (if b then 1 else 0), μ) := rfl
@[simp] theorem p_tuple1 (x : D) : primD .tuple1 [x] μ = (seqOf μ x).map fun xs => (.tup xs, μ) := rfl
@[simp] theorem p_list1F (x : D) : primD (.list1 false) [x] μ = (seqOf μ x).map fun xs => (.lst xs, μ) := rfl
@[simp] theorem p_list1T (x : D) : primD (.list1 true) [x] μ = (seqOf μ x).map fun xs => (.ref μ.length, μ ++ [.lst xs]) := rfl
@[simp] theorem p_isi (ts : List Ty) (x : D) : primD (.isi ts) [x] μ = (isTys μ x ts).map fun b => (.bl b, μ) := rfl
@[simp] theorem cm_eq (x y : D) : cmD μ .eq x y = eqD μ x y := rfl
@[simp] theorem cm_ne (x y : D) : cmD μ .ne x y = (eqD μ x y).map (!·) := rfl
@[simp] theorem cm_lt (i j : Int) : cmD μ .lt (.int i) (.int j) = some (decide (i < j)) := rfl
@[simp] theorem cm_le (i j : Int) : cmD μ .le (.int i) (.int j) = some (decide (i ≤ j)) := rfl
@[simp] theorem cm_gt (i j : Int) : cmD μ .gt (.int i) (.int j) = some (decide (j < i)) := rfl
@[simp] theorem cm_ge (i j : Int) : cmD μ .ge (.int i) (.int j) = some (decide (j ≤ i)) := rfl
@[simp] theorem cm_in (x y : D) : cmD μ .isin x y = inD μ x y := rfl
@[simp] theorem cm_nin (x y : D) : cmD μ .notin x y = (inD μ x y).map (!·) := rfl
@[simp] theorem len_tup (xs : List D) : lenD μ (.tup xs) = some xs.length := rfl
@[simp] theorem len_lst (xs : List D) : lenD μ (.lst xs) = some xs.length := rfl
@[simp] theorem seq_tup (xs : List D) : seqOf μ (.tup xs) = some xs := rfl
@[simp] theorem seq_lst (xs : List D) : seqOf μ (.lst xs) = some xs := rfl
@[simp] theorem lstOf_lst (xs : List D) : lstOf μ (.lst xs) = some xs := rfl
@[simp] theorem isTys_plain (ts : List Ty) (d : D) : isTys μ d ts = (vtOf μ d).map fun v => ts.any (vtIs v) := rfl
@[simp] theorem vt_non : vtOf μ .non = some .non := rfl
@[simp] theorem vt_bl (b : Bool) : vtOf μ (.bl b) = some .bool := rfl
@[simp] theorem vt_int (i : Int) : vtOf μ (.int i) = some .int := rfl
@[simp] theorem vt_str (s : String) : vtOf μ (.str s) = some .str := rfl
@[simp] theorem vt_tup (xs : List D) : vtOf μ (.tup xs) = some .tuple := rfl
@[simp] theorem vt_lst (xs : List D) : vtOf μ (.lst xs) = some .list := rfl
@[simp] theorem isNon_non : isNonD .non = true := rfl
@[simp] theorem isNon_bl (b : Bool) : isNonD (.bl b) = false := rfl
@[simp] theorem isNon_int (i : Int) : isNonD (.int i) = false := rfl
@[simp] theorem isNon_str (s : String) : isNonD (.str s) = false := rfl
@[simp] theorem isNon_tup (xs : List D) : isNonD (.tup xs) = false := rfl
@[simp] theorem isNon_lst (xs : List D) : isNonD (.lst xs) = false := rfl
@[simp] theorem isNon_ref (i : Nat) : isNonD (.ref i) = false := rfl
theorem deref_plain {d : D} (h : plain d = true) : deref μ d = d := by cases d <;> first | rfl | simp at h
@[simp] theorem deref_tup (xs : List D) : deref μ (.tup xs) = .tup xs := rfl
@[simp] theorem deref_lst (xs : List D) : deref μ (.lst xs) = .lst xs := rfl
@[simp] theorem deref_str (s : String) : deref μ (.str s) = .str s := rfl
@[simp] theorem deref_int (i : Int) : deref μ (.int i) = .int i := rfl
@[simp] theorem deref_bl (b : Bool) : deref μ (.bl b) = .bl b := rfl
@[simp] theorem deref_non : deref μ .non = .non := rfl
/-- equality of plain data, one of them flat enough -/
theorem eqD_l {x y : D} (hx : plain x = true) (hy : plain y = true) (h : depth x ≤ 150) : eqD μ x y = some (eqv x y) := by
  unfold eqD canEq
  rw [deref_plain μ hx, deref_plain μ hy, hx, hy]
  have : min (depth x) (depth y) ≤ 150 := by omega
  simp [this]
theorem eqD_r {x y : D} (hx : plain x = true) (hy : plain y = true) (h : depth y ≤ 150) : eqD μ x y = some (eqv x y) := by
  unfold eqD canEq
  rw [deref_plain μ hx, deref_plain μ hy, hx, hy]
  have : min (depth x) (depth y) ≤ 150 := by omega
  simp [this]
@[simp] theorem eqD_int (i j : Int) : eqD μ (.int i) (.int j) = some (i == j) := rfl
@[simp] theorem eqD_str (s t : String) : eqD μ (.str s) (.str t) = some (s == t) := rfl
@[simp] theorem eqD_bl (s t : Bool) : eqD μ (.bl s) (.bl t) = some (s == t) := rfl
@[simp] theorem eqv_str (s t : String) : eqv (.str s) (.str t) = (s == t) := rfl
@[simp] theorem eqv_int (s t : Int) : eqv (.int s) (.int t) = (s == t) := rfl
@[simp] theorem eqv_bl (s t : Bool) : eqv (.bl s) (.bl t) = (s == t) := rfl
@[simp] theorem depth_str (s : String) : depth (.str s) = 0 := rfl
@[simp] theorem depth_int (i : Int) : depth (.int i) = 0 := rfl
@[simp] theorem depth_bl (i : Bool) : depth (.bl i) = 0 := rfl
@[simp] theorem depth_non : depth .non = 0 := rfl
@[simp] theorem depth_tup (xs : List D) : depth (.tup xs) = depths xs + 1 := rfl
@[simp] theorem depth_lst (xs : List D) : depth (.lst xs) = depths xs + 1 := rfl
@[simp] theorem depths_nil : depths [] = 0 := rfl
@[simp] theorem depths_cons (x : D) (xs : List D) : depths (x :: xs) = max (depth x) (depths xs) := rfl
@[simp] theorem depths_strs (ss : List String) : depths (ss.map D.str) = 0 := by
  induction ss with
  | nil => rfl
  | cons s ss ih => simp [ih]
theorem inD_tup {x : D} {xs : List D} (hx : plain x = true) (hs : plains xs = true) (h : min (depths xs) (depth x) ≤ 150) : inD μ x (.tup xs) = some (xs.any fun y => eqv y x) := by
  simp [inD, hx, hs, h]
theorem inD_lst {x : D} {xs : List D} (hx : plain x = true) (hs : plains xs = true) (h : min (depths xs) (depth x) ≤ 150) : inD μ x (.lst xs) = some (xs.any fun y => eqv y x) := by
  simp [inD, hx, hs, h]
theorem inD_chr (c : Char) (t : String) : inD μ (.str (String.singleton c)) (.str t) = some (t.toList.contains c) := by
  simp [inD]
@[simp] theorem any_eqv_str (ss : List String) (s : String) : ((ss.map D.str).any fun y => eqv y (.str s)) = ss.contains s := by
  rw [List.any_map]
  induction ss with
  | nil => rfl
  | cons t ss ih =>
    rw [List.any_cons, ih, List.contains_cons]
    show (t == s || _) = (s == t || _)
    rw [Bool.beq_comm]
@[simp] theorem inD_strs (ss : List String) (s : String) : inD μ (.str s) (.tup (ss.map D.str)) = some (ss.contains s) := by
  rw [inD_tup μ rfl (plains_str ss) (by simp), any_eqv_str]
@[simp] theorem inD_chr' (c : Char) (t : String) : inD μ (.str (String.singleton c)) (.str t) = some (t.toList.contains c) := inD_chr μ c t
@[simp] theorem ix_tup (xs : List D) (i : Int) : ixD μ (.tup xs) (.int i) = atD xs i := rfl
@[simp] theorem ix_lst (xs : List D) (i : Int) : ixD μ (.lst xs) (.int i) = atD xs i := rfl
@[simp] theorem at_0 {α : Type} (x : α) (xs : List α) : atD (x :: xs) 0 = some x := rfl
@[simp] theorem at_1 {α : Type} (x y : α) (xs : List α) : atD (x :: y :: xs) 1 = some y := rfl
@[simp] theorem at_2 {α : Type} (x y z : α) (xs : List α) : atD (x :: y :: z :: xs) 2 = some z := rfl
@[simp] theorem at_3 {α : Type} (x y z u : α) (xs : List α) : atD (x :: y :: z :: u :: xs) 3 = some u := rfl
@[simp] theorem at_4 {α : Type} (x y z u v : α) (xs : List α) : atD (x :: y :: z :: u :: v :: xs) 4 = some v := rfl
end
/-- a comprehension whose turns leave the store -/
theorem comp_pure {turn : D → Store → (Option D → Store → Prop) → Prop} {guard : Store → Prop} (f : D → Option D) {μ : Store} {Q : List D → Store → Prop} (hg : guard μ) : ∀ {items acc : List D}, (∀ d ∈ items, ∀ R : Option D → Store → Prop, R (f d) μ → turn d μ R) → acc.length + items.length ≤ Sz →
    Q (acc ++ items.filterMap f) μ → compTurns turn guard items μ acc Q
  | [], acc, _, _, q => ⟨hg, by simpa using q⟩
  | d :: ds, acc, h, hl, q => by
    rw [List.length_cons] at hl
    refine ⟨hg, h d List.mem_cons_self _ ?_⟩
    cases e : f d with
    | none =>
      rw [List.filterMap_cons, e] at q
      exact comp_pure f hg (fun x hx => h x (List.mem_cons_of_mem _ hx)) (by omega) q
    | some y =>
      rw [List.filterMap_cons, e] at q
      refine ⟨by omega, comp_pure f hg (fun x hx => h x (List.mem_cons_of_mem _ hx)) (by rw [List.length_append, List.length_singleton]; omega) ?_⟩
      rw [List.append_assoc]; exact q
/-- .. of every item -/
theorem comp_map {turn : D → Store → (Option D → Store → Prop) → Prop} {guard : Store → Prop} (f : D → D) {μ : Store} {Q : List D → Store → Prop} {items : List D} (hg : guard μ) (h : ∀ d ∈ items, ∀ R : Option D → Store → Prop, R (some (f d)) μ → turn d μ R) (hl : items.length ≤ Sz)
    (q : Q (items.map f) μ) : compTurns turn guard items μ [] Q := by
  refine comp_pure (fun d => some (f d)) hg h (by simpa using hl) ?_
  simpa using q
@[simp] theorem boolsOf_nil : boolsOf [] = some [] := rfl
theorem boolsOf_map {α : Type} (f : α → Bool) : ∀ xs : List α, boolsOf (xs.map fun x => D.bl (f x)) = some (xs.map f)
  | [] => rfl
  | x :: xs => by
    show (boolsOf (xs.map fun x => D.bl (f x))).map (f x :: ·) = _
    rw [boolsOf_map f xs]; rfl
theorem all_map {α : Type} (f : α → Bool) (xs : List α) : (xs.map f).all id = xs.all f := by
  rw [List.all_map]; rfl
theorem atD0 {α : Type} {x : α} {xs : List α} : atD (x :: xs) 0 = some x := rfl
theorem le_sz {n : Nat} (h : n ≤ 16777216) : n ≤ Sz := h
theorem comp_mapF {α : Type} (g f : α → D) {turn : D → Store → (Option D → Store → Prop) → Prop} {guard : Store → Prop} {μ : Store} {Q : List D → Store → Prop} (hg : guard μ) : ∀ {xs : List α} {acc : List D}, (∀ a ∈ xs, ∀ R : Option D → Store → Prop, R (some (f a)) μ → turn (g a) μ R) → acc.length + xs.length ≤ Sz →
    Q (acc ++ xs.map f) μ → compTurns turn guard (xs.map g) μ acc Q
  | [], acc, _, _, q => ⟨hg, by simpa using q⟩
  | a :: as, acc, h, hl, q => by
    rw [List.length_cons] at hl
    refine ⟨hg, h a List.mem_cons_self _ ?_⟩
    refine ⟨by omega, comp_mapF g f hg (fun x hx => h x (List.mem_cons_of_mem _ hx)) (by rw [List.length_append, List.length_singleton]; omega) ?_⟩
    rw [List.append_assoc]; exact q
/-! ### cells -/
section
variable {μ : Store} {i : Nat} {xs ys : List D} {x : D}
theorem len_ref (h : μ[i]? = some (.lst xs)) : lenD μ (.ref i) = some xs.length := by simp [lenD, h]
theorem seq_ref (h : μ[i]? = some (.lst xs)) : seqOf μ (.ref i) = some xs := by simp [seqOf, h]
theorem lstOf_ref (h : μ[i]? = some (.lst xs)) : lstOf μ (.ref i) = some xs := by simp [lstOf, h]
theorem truth_ref (h : μ[i]? = some (.lst xs)) : truthD μ (.ref i) = some (!xs.isEmpty) := by simp [truthD, h]
theorem deref_ref (h : μ[i]? = some (.lst xs)) : deref μ (.ref i) = .lst xs := by simp [deref, h]
theorem ix_ref (h : μ[i]? = some (.lst xs)) (k : Int) : ixD μ (.ref i) (.int k) = atD xs k := by simp [ixD, h]
theorem recv_pop (h : μ[i]? = some (.lst xs)) : recvD .pop μ (.ref i) = some () := by simp [recvD, h]
theorem recv_append (h : μ[i]? = some (.lst xs)) : recvD .append μ (.ref i) = some () := by simp [recvD, h]
theorem recv_extend (h : μ[i]? = some (.lst xs)) : recvD .extend μ (.ref i) = some () := by simp [recvD, h]
theorem p_pop (h : μ[i]? = some (.lst (xs ++ [x]))) : primD .pop [.ref i] μ = some (x, μ.set i (.lst xs)) := by simp [primD, h]
theorem p_append (h : μ[i]? = some (.lst xs)) (hl : xs.length < Sz) : primD .append [.ref i, x] μ = some (.non, μ.set i (.lst (xs ++ [x]))) := by simp [primD, h, hl]
theorem p_extend {y : D} (h : μ[i]? = some (.lst xs)) (hy : lstOf μ y = some ys) (hl : xs.length + ys.length ≤ Sz) : primD .extend [.ref i, y] μ = some (.non, μ.set i (.lst (xs ++ ys))) := by simp [primD, h, hy, hl]
theorem vt_ref (h : μ[i]? = some (.lst xs)) : vtOf μ (.ref i) = some .list := by simp [vtOf, h]
end
@[simp] theorem set_last (μ : Store) (c d : Cell) : (μ ++ [c]).set μ.length d = μ ++ [d] := by simp
theorem get_last (μ : Store) (c : Cell) : (μ ++ [c])[μ.length]? = some c := by simp
/-- a while, by a bound on its turns -/
theorem while_ind {test : Sl → Store → (Bool → Store → Prop) → Prop} {body : Sl → Store → (Sl → Store → Prop) → Prop} {nx : Sl → Store → Prop} (I : Nat → Sl → Store → Prop)
    (step : ∀ k ρ μ (N : Sl → Store → Prop), (∀ ρ' μ', I k ρ' μ' → N ρ' μ') → I (k + 1) ρ μ → test ρ μ fun b μ' => if b = true then body ρ μ' N else nx ρ μ') (h0 : ∀ ρ μ, ¬ I 0 ρ μ) :
    ∀ k ρ μ, I k ρ μ → whileN test body nx k ρ μ
  | 0, ρ, μ, h => (h0 ρ μ h).elim
  | k + 1, ρ, μ, h => step k ρ μ _ (while_ind I step h0 k) h
/-- a for, item by item -/
theorem for_ind {tg : Tg} {guard : Store → Prop} {body : Sl → Store → (Sl → Store → Prop) → Prop} {nx : Sl → Store → Prop} (I : List D → Sl → Store → Prop)
    (step : ∀ d ds ρ μ (N : Sl → Store → Prop), (∀ ρ' μ', I ds ρ' μ' → N ρ' μ') → I (d :: ds) ρ μ → guard μ ∧ opt (bindT tg d ρ) fun ρ' => body ρ' μ N) (h0 : ∀ ρ μ, I [] ρ μ → guard μ ∧ nx ρ μ) :
    ∀ ds ρ μ, I ds ρ μ → forN tg guard body nx ds ρ μ
  | [], ρ, μ, h => h0 ρ μ h
  | d :: ds, ρ, μ, h => step d ds ρ μ _ (for_ind I step h0 ds) h
theorem snoc_cases {α : Type} (xs : List α) : xs = [] ∨ ∃ ys y, xs = ys ++ [y] := by
  rcases List.eq_nil_or_concat xs with h | ⟨ys, y, h⟩
  · exact .inl h
  · exact .inr ⟨ys, y, by simpa using h⟩
theorem ss_nil (S : Sg) (E : Sl → XD → Store → Prop) (ρ : Sl) (μ : Store) (D' : PEnds) : wpSs S E .nil ρ μ D' = D'.nx ρ μ := rfl
theorem ss_cons (S : Sg) (E : Sl → XD → Store → Prop) (s : St) (r : Sts) (ρ : Sl) (μ : Store) (D' : PEnds) : wpSs S E (.cons s r) ρ μ D' = wpS S E s ρ μ { nx := fun ρ' μ' => wpSs S E r ρ' μ' D', rt := D'.rt, bk := D'.bk, ct := D'.ct } := by
  cases r <;> rfl
@[simp] theorem get_off (μ cs : Store) (j : Nat) : (μ ++ cs)[μ.length + j]? = cs[j]? := by
  rw [List.getElem?_append_right (by omega)]; congr 1; omega
@[simp] theorem get_off0 (μ cs : Store) : (μ ++ cs)[μ.length]? = cs[0]? := by
  rw [List.getElem?_append_right (by omega)]; congr 1; omega
@[simp] theorem set_off (μ cs : Store) (j : Nat) (d : Cell) : (μ ++ cs).set (μ.length + j) d = μ ++ cs.set j d := by
  rw [List.set_append_right _ _ (by omega)]; congr 2; omega
@[simp] theorem set_off0 (μ cs : Store) (d : Cell) : (μ ++ cs).set μ.length d = μ ++ cs.set 0 d := by
  rw [List.set_append_right _ _ (by omega)]; congr 2; omega
theorem EndD.gen {ν ex : Store} {d d2 : D} {Q : D → Store → Prop} (hw : wfS ν) (hd : shedD ν.length {} (ν ++ ex) d = some d2) (q : Q d2 ν) : EndD ν.length d (ν ++ ex) Q :=
  ⟨{}, by rw [shedS_drop rfl hw.n, opt_some, hd, opt_some]; exact q⟩
theorem frzR_lst {n k a : Nat} {μ : Store} {xs : List D} (ha : n ≤ a) (h : μ[a]? = some (.lst xs)) (hx : belows n xs = true) : frzR n [] μ (k + 1) a = some (.lst xs) := by
  unfold frzR keptAt
  rw [if_neg (by omega), h]
  simp only [List.findIdx?_nil, Option.map_none]
  rw [frzDs_below (fun i hi => frzR_lt _ i hi) xs hx]; rfl
theorem EndD.two {ν ex : Store} {a b : Nat} {xs ys : List D} {Q : D → Store → Prop} (hw : wfS ν) (ha : ν.length ≤ a) (h1 : (ν ++ ex)[a]? = some (.lst xs)) (hx : belows ν.length xs = true) (hb : ν.length ≤ b) (h2 : (ν ++ ex)[b]? = some (.lst ys)) (hy : belows ν.length ys = true)
    (q : Q (.lst [.lst xs, .lst ys]) ν) : EndD ν.length (.lst [.ref a, .ref b]) (ν ++ ex) Q := by
  refine EndD.gen hw ?_ q
  show (frzDs (frzR ν.length [] (ν ++ ex) 2) [.ref a, .ref b]).map D.lst = _
  show ((frzR ν.length [] (ν ++ ex) 2 a).bind fun y => (((frzR ν.length [] (ν ++ ex) 2 b).bind fun z => (some []).map (z :: ·))).map (y :: ·)).map D.lst = _
  rw [frzR_lst ha h1 hx, frzR_lst hb h2 hy]; rfl
/-- a def gives a list cell of its own: it is frozen -/
theorem EndD.cell {ν ex : Store} {a : Nat} {xs : List D} {Q : D → Store → Prop} (hw : wfS ν) (ha : ν.length ≤ a) (h1 : (ν ++ ex)[a]? = some (.lst xs)) (hx : belows ν.length xs = true) (q : Q (.lst xs) ν) : EndD ν.length (.ref a) (ν ++ ex) Q := by
  refine EndD.gen hw ?_ q
  show frzR ν.length [] (ν ++ ex) 2 a = _
  exact frzR_lst ha h1 hx
theorem belows_mem {n : Nat} : ∀ {xs : List D} {x : D}, belows n xs = true → x ∈ xs → below n x = true
  | y :: ys, x, h, hm => by
    rw [belows_cons, Bool.and_eq_true] at h
    rcases List.mem_cons.mp hm with e | e
    · rw [e]; exact h.1
    · exact belows_mem h.2 e
/-! ### ints -/
section
variable (μ : Store) (i j : Int)
@[simp] theorem bi_add : binD μ .add (.int i) (.int j) = some (.int (i + j)) := rfl
@[simp] theorem bi_sub : binD μ .sub (.int i) (.int j) = some (.int (i - j)) := rfl
theorem bi_mul (h : j.natAbs < 18446744073709551616) : binD μ .mul (.int i) (.int j) = some (.int (i * j)) := by simp [binD, intOp, h]
theorem bi_mod (h : j ≠ 0) : binD μ .mod (.int i) (.int j) = some (.int (i.fmod j)) := by simp [binD, intOp, h]
theorem bi_fdiv (h : j ≠ 0) (h2 : j.natAbs < 1073741824) : binD μ .fdiv (.int i) (.int j) = some (.int (i.fdiv j)) := by simp [binD, intOp, h, h2]
theorem bi_pow (h : 0 ≤ j) (h2 : j ≤ 1000000) (h3 : i.natAbs < 18446744073709551616) : binD μ .pow (.int i) (.int j) = some (.int (i ^ j.toNat)) := by simp [binD, intOp, h, h2, h3]
end
theorem cut_take {α : Type} (xs : List α) (k : Nat) (h : k ≤ xs.length) : cut xs none (some (k : Int)) = xs.take k := by
  unfold cut
  rw [HT.sIx_none, HT.sIx_nat, Nat.min_eq_left h, List.drop_zero, Nat.sub_zero]
theorem cut_drop {α : Type} (xs : List α) (k : Nat) (h : k ≤ xs.length) : cut xs (some (k : Int)) none = xs.drop k := by
  unfold cut
  rw [HT.sIx_none, HT.sIx_nat, Nat.min_eq_left h]
  exact List.take_of_length_le (by rw [List.length_drop]; omega)
theorem put_list {α : Type} (xs : List α) (k : Nat) (y : α) (h : k < xs.length) : xs.take k ++ [y] ++ xs.drop (k + 1) = xs.set k y := by
  rw [List.set_eq_take_append_cons_drop, if_pos h]; simp
end PY

set_option Elab.async false
set_option linter.all false
set_option maxRecDepth 100000
set_option maxHeartbeats 4000000
/-! what the program's functions on names, tests, programs do, as functions on D. -/
namespace PY
abbrev Spec := List D → Store → (D → Store → Prop) → (XD → Store → Prop) → Prop
/-- a def's body keeps its promise -/
def Body (S : Sg) (sp : Spec) (b : Sts) (N : List PySem.Str) (n : Nat) : Prop := ∀ ds μ Q E, sp ds μ Q E → ds.length = n → belows μ.length ds = true → wfS μ →
  wpSs S (fun _ x μ' => EndX μ.length x μ' E) b (startD N ds) μ { nx := fun _ μ' => EndD μ.length .non μ' Q, rt := fun d μ' => EndD μ.length d μ' Q }
def smallS : String := "abcdefghijklmnopqrstuvwxyz"
def figS : String := "0123456789"
def smallL : List Char := smallS.toList
def figL : List Char := figS.toList
def wordsL : List String := ["tests", "deeds", "given", "shows", "never", "keeps", "leaves", "skip", "stop", "assume", "if", "then", "else", "end", "while", "do", "repeat", "until", "choose", "loop", "not", "and", "or", "true", "false"]
def nameS (s : String) : Bool := match s.toList with
  | [] => false
  | c :: cs => decide (cs.length < 8) && smallL.contains c && !wordsL.contains s && (c :: cs).all fun c => smallL.contains c || figL.contains c
def isName : D → Bool
  | .str s => nameS s
  | _ => false
mutual
/-- every text within is short -/
def shorts : D → Bool
  | .str s => decide (s.toList.length ≤ 1000)
  | .tup xs | .lst xs => shortss xs
  | _ => true
def shortss : List D → Bool
  | [] => true
  | x :: xs => shorts x && shortss xs
end
@[simp] theorem shorts_str (s : String) : shorts (.str s) = decide (s.toList.length ≤ 1000) := rfl
@[simp] theorem shorts_tup (xs : List D) : shorts (.tup xs) = shortss xs := rfl
@[simp] theorem shorts_lst (xs : List D) : shorts (.lst xs) = shortss xs := rfl
@[simp] theorem shorts_non : shorts .non = true := rfl
@[simp] theorem shorts_bl (b : Bool) : shorts (.bl b) = true := rfl
@[simp] theorem shorts_int (b : Int) : shorts (.int b) = true := rfl
@[simp] theorem shortss_nil : shortss [] = true := rfl
@[simp] theorem shortss_cons (x : D) (xs : List D) : shortss (x :: xs) = (shorts x && shortss xs) := rfl
/-- plain data of short texts -/
def okD (d : D) : Bool := plain d && shorts d
def isHead : D → List String → Int → Bool
  | .tup (.str s :: r), hs, n => decide ((r.length : Int) + 1 = n) && hs.contains s
  | _, _, _ => false
/-- the n-th part -/
def part (v : D) (n : Nat) : D := match v with
  | .tup xs => xs.getD n .non
  | _ => .non
def testParts (v : D) : Option (List D) :=
  if isHead v ["true", "false"] 1 = true then some []
  else if isHead v ["name"] 2 = true then (if isName (part v 1) = true then some [] else none)
  else if isHead v ["not"] 2 = true then some [part v 1]
  else if isHead v ["and", "or"] 3 = true then some [part v 1, part v 2] else none
def progParts (v : D) : Option (List D × List D) :=
  if isHead v ["skip", "stop"] 1 = true then some ([], [])
  else if isHead v ["deed"] 2 = true then (if isName (part v 1) = true then some ([], []) else none)
  else if isHead v ["assume"] 2 = true then some ([], [part v 1])
  else if isHead v ["then", "choose"] 3 = true then some ([part v 1, part v 2], [])
  else if isHead v ["loop"] 2 = true then some ([part v 1], [])
  else if isHead v ["if"] 4 = true then some ([part v 2, part v 3], [part v 1])
  else if isHead v ["while"] 3 = true then some ([part v 2], [part v 1])
  else if isHead v ["repeat"] 3 = true then some ([part v 1], [part v 2]) else none
theorem isHead_inv {v : D} {hs : List String} {n : Int} (h : isHead v hs n = true) : ∃ s r, v = .tup (.str s :: r) ∧ (r.length : Int) + 1 = n ∧ s ∈ hs := by
  unfold isHead at h
  split at h
  · rename_i s r
    simp at h
    exact ⟨s, r, rfl, h.1, h.2⟩
  · cases h
theorem head1 {v : D} {hs : List String} (h : isHead v hs 1 = true) : ∃ s, v = .tup [.str s] ∧ s ∈ hs := by
  obtain ⟨s, r, rfl, hl, hm⟩ := isHead_inv h
  match r with
  | [] => exact ⟨s, rfl, hm⟩
  | _ :: _ => simp at hl; omega
theorem head2 {v : D} {hs : List String} (h : isHead v hs 2 = true) : ∃ s x, v = .tup [.str s, x] ∧ s ∈ hs := by
  obtain ⟨s, r, rfl, hl, hm⟩ := isHead_inv h
  match r with
  | [x] => exact ⟨s, x, rfl, hm⟩
  | [] => simp at hl
  | _ :: _ :: _ => simp at hl; omega
theorem head3 {v : D} {hs : List String} (h : isHead v hs 3 = true) : ∃ s x y, v = .tup [.str s, x, y] ∧ s ∈ hs := by
  obtain ⟨s, r, rfl, hl, hm⟩ := isHead_inv h
  match r with
  | [x, y] => exact ⟨s, x, y, rfl, hm⟩
  | [] => simp at hl
  | [_] => simp at hl
  | _ :: _ :: _ :: _ => simp at hl; omega
theorem head4 {v : D} {hs : List String} (h : isHead v hs 4 = true) : ∃ s x y z, v = .tup [.str s, x, y, z] ∧ s ∈ hs := by
  obtain ⟨s, r, rfl, hl, hm⟩ := isHead_inv h
  match r with
  | [x, y, z] => exact ⟨s, x, y, z, rfl, hm⟩
  | [] => simp at hl
  | [_] => simp at hl
  | [_, _] => simp at hl
  | _ :: _ :: _ :: _ :: _ => simp at hl; omega
mutual
/-- how big -/
def wt : D → Nat
  | .tup xs | .lst xs | .ins _ xs => wts xs + 1
  | _ => 1
def wts : List D → Nat
  | [] => 0
  | x :: xs => wt x + wts xs
end
@[simp] theorem wt_tup (xs : List D) : wt (.tup xs) = wts xs + 1 := rfl
@[simp] theorem wts_nil : wts [] = 0 := rfl
@[simp] theorem wts_cons (x : D) (xs : List D) : wts (x :: xs) = wt x + wts xs := rfl
theorem wts_append (xs ys : List D) : wts (xs ++ ys) = wts xs + wts ys := by
  induction xs with
  | nil => simp
  | cons x xs ih => simp [ih]; omega
theorem wt_pos (d : D) : 1 ≤ wt d := by cases d <;> simp [wt]
theorem testParts_wt {d : D} {ps : List D} (h : testParts d = some ps) : wts ps < wt d := by
  unfold testParts at h
  split at h
  · rename_i h1
    obtain ⟨s, rfl, _⟩ := head1 h1
    cases h; simp
  split at h
  · rename_i h1
    obtain ⟨s, x, rfl, _⟩ := head2 h1
    split at h
    · cases h; simp
    · cases h
  split at h
  · rename_i h1
    obtain ⟨s, x, rfl, _⟩ := head2 h1
    cases h; simp [part]; omega
  split at h
  · rename_i h1
    obtain ⟨s, x, y, rfl, _⟩ := head3 h1
    cases h; simp [part]; omega
  cases h
theorem progParts_wt {d : D} {ps : List D × List D} (h : progParts d = some ps) : wts ps.1 + wts ps.2 < wt d := by
  unfold progParts at h
  split at h
  · rename_i h1
    obtain ⟨s, rfl, _⟩ := head1 h1
    cases h; simp
  split at h
  · rename_i h1
    obtain ⟨s, x, rfl, _⟩ := head2 h1
    split at h
    · cases h; simp
    · cases h
  split at h
  · rename_i h1
    obtain ⟨s, x, rfl, _⟩ := head2 h1
    cases h; simp [part]; omega
  split at h
  · rename_i h1
    obtain ⟨s, x, y, rfl, _⟩ := head3 h1
    cases h; simp [part]; omega
  split at h
  · rename_i h1
    obtain ⟨s, x, rfl, _⟩ := head2 h1
    cases h; simp [part]; omega
  split at h
  · rename_i h1
    obtain ⟨s, x, y, z, rfl, _⟩ := head4 h1
    cases h; simp [part]; omega
  split at h
  · rename_i h1
    obtain ⟨s, x, y, rfl, _⟩ := head3 h1
    cases h; simp [part]; omega
  split at h
  · rename_i h1
    obtain ⟨s, x, y, rfl, _⟩ := head3 h1
    cases h; simp [part]; omega
  cases h
theorem part_ok {v : D} (n : Nat) (h : okD v = true) : okD (part v n) = true := by
  unfold part
  split
  · rename_i xs
    unfold okD at h ⊢
    simp only [plain_tup, shorts_tup, Bool.and_eq_true] at h
    have key : ∀ (ys : List D) (m : Nat), plains ys = true → shortss ys = true → (plain (ys.getD m .non) && shorts (ys.getD m .non)) = true := by
      intro ys
      induction ys with
      | nil => intro m _ _; simp
      | cons y ys ih =>
        intro m h1 h2
        rw [plains_cons, Bool.and_eq_true] at h1
        rw [shortss_cons, Bool.and_eq_true] at h2
        cases m with
        | zero => simp [h1.1, h2.1]
        | succ m => simpa using ih m h1.2 h2.2
    exact key xs n h.1 h.2
  · rfl
theorem testParts_ok {v : D} {ps : List D} (h : testParts v = some ps) (ho : okD v = true) : ∀ x ∈ ps, okD x = true := by
  have h1 := part_ok 1 ho
  have h2 := part_ok 2 ho
  unfold testParts at h
  repeat' split at h
  all_goals first | (cases h; done) | (cases h; simp [h1, h2])
theorem progParts_ok {v : D} {ps : List D × List D} (h : progParts v = some ps) (ho : okD v = true) : (∀ x ∈ ps.1, okD x = true) ∧ ∀ x ∈ ps.2, okD x = true := by
  have h1 := part_ok 1 ho
  have h2 := part_ok 2 ho
  have h3 := part_ok 3 ho
  unfold progParts at h
  repeat' split at h
  all_goals first | (cases h; done) | (cases h; simp [h1, h2, h3])
theorem wts_len : ∀ xs : List D, xs.length ≤ wts xs
  | [] => Nat.le_refl _
  | x :: xs => by
    have := wts_len xs
    have := wt_pos x
    rw [wts_cons, List.length_cons]; omega
/-- is it a test: by fuel -/
def isTestF : Nat → D → Bool
  | 0, _ => false
  | n + 1, d => match testParts d with
    | none => false
    | some ps => ps.all (isTestF n)
def isTest (d : D) : Bool := isTestF (wt d) d
def isProgF : Nat → D → Bool
  | 0, _ => false
  | n + 1, d => match progParts d with
    | none => false
    | some ps => ps.1.all (isProgF n) && ps.2.all isTest
def isProg (d : D) : Bool := isProgF (wt d) d
theorem wt_mem {x : D} : ∀ {xs : List D}, x ∈ xs → wt x ≤ wts xs
  | y :: ys, h => by
    rw [wts_cons]
    rcases List.mem_cons.mp h with e | e
    · rw [e]; omega
    · have := wt_mem e; omega
theorem isTestF_le : ∀ (n m : Nat) (d : D), wt d ≤ n → wt d ≤ m → isTestF n d = isTestF m d
  | 0, _, d, h, _ => by have := wt_pos d; omega
  | _ + 1, 0, d, _, h => by have := wt_pos d; omega
  | n + 1, m + 1, d, h1, h2 => by
    unfold isTestF
    cases h : testParts d with
    | none => rfl
    | some ps =>
      have hw := testParts_wt h
      simp only []
      refine Bool.eq_iff_iff.mpr ?_
      simp only [List.all_eq_true]
      constructor
      · intro k x hx
        have := wt_mem hx
        rw [← isTestF_le n m x (by omega) (by omega)]; exact k x hx
      · intro k x hx
        have := wt_mem hx
        rw [isTestF_le n m x (by omega) (by omega)]; exact k x hx
theorem isTest_eq (d : D) : isTest d = match testParts d with
    | none => false
    | some ps => ps.all isTest := by
  unfold isTest
  have hp := wt_pos d
  obtain ⟨k, hk⟩ : ∃ k, wt d = k + 1 := ⟨wt d - 1, by omega⟩
  rw [hk]
  show (match testParts d with | none => false | some ps => ps.all (isTestF k)) = _
  cases h : testParts d with
  | none => rfl
  | some ps =>
    have hw := testParts_wt h
    simp only []
    refine Bool.eq_iff_iff.mpr ?_
    simp only [List.all_eq_true]
    constructor
    · intro q x hx
      have := wt_mem hx
      show isTestF (wt x) x = true
      rw [isTestF_le (wt x) k x (Nat.le_refl _) (by omega)]; exact q x hx
    · intro q x hx
      have := wt_mem hx
      rw [isTestF_le k (wt x) x (by omega) (Nat.le_refl _)]; exact q x hx
theorem isProgF_le : ∀ (n m : Nat) (d : D), wt d ≤ n → wt d ≤ m → isProgF n d = isProgF m d
  | 0, _, d, h, _ => by have := wt_pos d; omega
  | _ + 1, 0, d, _, h => by have := wt_pos d; omega
  | n + 1, m + 1, d, h1, h2 => by
    unfold isProgF
    cases h : progParts d with
    | none => rfl
    | some ps =>
      have hw := progParts_wt h
      simp only []
      congr 1
      refine Bool.eq_iff_iff.mpr ?_
      simp only [List.all_eq_true]
      constructor
      · intro k x hx
        have := wt_mem hx
        rw [← isProgF_le n m x (by omega) (by omega)]; exact k x hx
      · intro k x hx
        have := wt_mem hx
        rw [isProgF_le n m x (by omega) (by omega)]; exact k x hx
theorem isProg_eq (d : D) : isProg d = match progParts d with
    | none => false
    | some ps => ps.1.all isProg && ps.2.all isTest := by
  unfold isProg
  have hp := wt_pos d
  obtain ⟨k, hk⟩ : ∃ k, wt d = k + 1 := ⟨wt d - 1, by omega⟩
  rw [hk]
  show (match progParts d with | none => false | some ps => ps.1.all (isProgF k) && ps.2.all isTest) = _
  cases h : progParts d with
  | none => rfl
  | some ps =>
    have hw := progParts_wt h
    simp only []
    congr 1
    refine Bool.eq_iff_iff.mpr ?_
    simp only [List.all_eq_true]
    constructor
    · intro q x hx
      have := wt_mem hx
      show isProgF (wt x) x = true
      rw [isProgF_le (wt x) k x (Nat.le_refl _) (by omega)]; exact q x hx
    · intro q x hx
      have := wt_mem hx
      rw [isProgF_le k (wt x) x (by omega) (Nat.le_refl _)]; exact q x hx
/-! ### promises -/
def pure1 (f : D → D) : Spec
  | [v], μ, Q, _ => okD v = true ∧ Q (f v) μ
  | _, _, _, _ => False
def isRow : D → Bool
  | .tup _ | .lst _ => true
  | _ => false
def sp_is_row : Spec := pure1 fun v => .bl (isRow v)
def sp_is_name : Spec := pure1 fun v => .bl (isName v)
def sp_is_head : Spec
  | [v, .tup hs, .int n], μ, Q, _ => plain v = true ∧ 1 ≤ n ∧ opt (strsOf hs) fun ss => Q (.bl (isHead v ss n)) μ
  | _, _, _, _ => False
@[simp] theorem strsOf_nil : strsOf [] = some [] := rfl
@[simp] theorem strsOf_cons (s : String) (r : List D) : strsOf (.str s :: r) = (strsOf r).map (s :: ·) := rfl
@[simp] theorem strsOf_map : ∀ ss : List String, strsOf (ss.map D.str) = some ss
  | [] => rfl
  | s :: ss => by show (strsOf (ss.map D.str)).map (s :: ·) = _; rw [strsOf_map ss]; rfl
theorem strsOf_some : ∀ {ds : List D} {ss : List String}, strsOf ds = some ss → ds = ss.map D.str
  | [], ss, h => by cases h; rfl
  | d :: ds, ss, h => by
    cases d with
    | str s =>
      obtain ⟨t, h1, rfl⟩ := Option.map_eq_some_iff.mp (show (strsOf ds).map (s :: ·) = some ss from h)
      rw [strsOf_some h1]; rfl
    | _ => cases h
def optL : Option (List D) → D
  | none => .non
  | some l => .lst l
def optP : Option (List D × List D) → D
  | none => .non
  | some l => .tup [.lst l.1, .lst l.2]
def sp_test_parts : Spec := pure1 fun v => optL (testParts v)
/-- of one value that is not too big -/
def pureW (f : D → D) : Spec
  | [v], μ, Q, _ => okD v = true ∧ wt v ≤ 1000000 ∧ Q (f v) μ
  | _, _, _, _ => False
def sp_is_test : Spec := pureW fun v => .bl (isTest v)
def sp_program_parts : Spec := pure1 fun v => optP (progParts v)
def sp_is_program : Spec := pureW fun v => .bl (isProg v)
/-! ### statements, wholes -/
def headIn (v : D) (hs : List String) : Bool := match v with
  | .tup (.str s :: _) => hs.contains s
  | _ => false
def rawParts (v : D) : Option (List D × List D) :=
  if isHead v ["never"] 2 = true then some ([part v 1], [])
  else if isHead v ["keeps", "leaves"] 3 = true then some ([part v 1], [part v 2])
  else if isHead v ["triple"] 4 = true then some ([part v 2], [part v 1, part v 3])
  else if isHead v ["same", "below"] 3 = true then some ([part v 1, part v 2], []) else none
def stmtParts (v : D) (hs : List String) : Option (List D × List D) :=
  if headIn v hs = true then (match rawParts v with
    | some ps => if (ps.1.all isProg && ps.2.all isTest) = true then some ps else none
    | none => none) else none
theorem rawParts_ok {v : D} {ps : List D × List D} (h : rawParts v = some ps) (ho : okD v = true) : (∀ x ∈ ps.1, okD x = true) ∧ ∀ x ∈ ps.2, okD x = true := by
  have h1 := part_ok 1 ho
  have h2 := part_ok 2 ho
  have h3 := part_ok 3 ho
  unfold rawParts at h
  repeat' split at h
  all_goals first | (cases h; done) | (cases h; simp [h1, h2, h3])
theorem rawParts_wt {d : D} {ps : List D × List D} (h : rawParts d = some ps) : wts ps.1 + wts ps.2 < wt d := by
  unfold rawParts at h
  split at h
  · rename_i h1
    obtain ⟨s, x, rfl, _⟩ := head2 h1
    cases h; simp [part]; omega
  split at h
  · rename_i h1
    obtain ⟨s, x, y, rfl, _⟩ := head3 h1
    cases h; simp [part]; omega
  split at h
  · rename_i h1
    obtain ⟨s, x, y, z, rfl, _⟩ := head4 h1
    cases h; simp [part]; omega
  split at h
  · rename_i h1
    obtain ⟨s, x, y, rfl, _⟩ := head3 h1
    cases h; simp [part]; omega
  cases h
/-- the head of a statement, and whether it is in hs -/
def sp_statement_parts : Spec
  | [v, .tup hs], μ, Q, _ => okD v = true ∧ wt v ≤ 1000000 ∧ opt (strsOf hs) fun ss => Q (optP (stmtParts v ss)) μ
  | _, _, _, _ => False
def sp_hypothesis_parts : Spec := pureW fun v => optP (stmtParts v ["never", "keeps", "leaves", "triple"])
def sp_saying_parts : Spec := pureW fun v => optP (stmtParts v ["same", "below", "triple"])
def namesB (xs : List D) : Bool := xs.all isName && (match strsOf xs with
  | some ss => decide (distD ss = ss.length)
  | none => false)
def areNames : D → Bool
  | .tup xs | .lst xs => namesB xs
  | _ => false
def sp_are_names : Spec
  | [v, .non], μ, Q, _ => okD v = true ∧ wt v ≤ 3000 ∧ Q (.bl (areNames v)) μ
  | _, _, _, _ => False
theorem isName_str {d : D} (h : isName d = true) : ∃ s, d = .str s := by
  cases d <;> first | exact ⟨_, rfl⟩ | cases h
theorem names_strs : ∀ {xs : List D}, xs.all isName = true → ∃ ss, strsOf xs = some ss ∧ ss.length = xs.length
  | [], _ => ⟨[], rfl, rfl⟩
  | x :: xs, h => by
    rw [List.all_cons, Bool.and_eq_true] at h
    obtain ⟨s, rfl⟩ := isName_str h.1
    obtain ⟨ss, h1, h2⟩ := names_strs h.2
    exact ⟨s :: ss, by rw [strsOf_cons, h1]; rfl, by simp [h2]⟩
theorem oks_plains {xs : List D} (h : ∀ x ∈ xs, okD x = true) : plains xs = true := plains_iff.mpr fun x hm => by
  have := h x hm
  unfold okD at this
  rw [Bool.and_eq_true] at this
  exact this.1
theorem okD_mem {v : D} {xs : List D} (hv : v = .tup xs ∨ v = .lst xs) (h : okD v = true) : ∀ x ∈ xs, okD x = true := by
  have key : ∀ ys : List D, plains ys = true → shortss ys = true → ∀ x ∈ ys, okD x = true := by
    intro ys
    induction ys with
    | nil => intro _ _ x hx; simp at hx
    | cons y ys ih =>
      intro h1 h2 x hx
      rw [plains_cons, Bool.and_eq_true] at h1
      rw [shortss_cons, Bool.and_eq_true] at h2
      rcases List.mem_cons.mp hx with e | e
      · rw [e]; unfold okD; rw [h1.1, h2.1]; rfl
      · exact ih h1.2 h2.2 x e
  rcases hv with rfl | rfl
  · unfold okD at h
    rw [Bool.and_eq_true] at h
    exact key xs h.1 h.2
  · unfold okD at h
    rw [Bool.and_eq_true] at h
    exact key xs h.1 h.2
theorem oks_shorts : ∀ {xs : List D}, (∀ x ∈ xs, okD x = true) → shortss xs = true
  | [], _ => rfl
  | x :: xs, h => by
    have h1 := h x (by simp)
    unfold okD at h1
    rw [Bool.and_eq_true] at h1
    rw [shortss_cons, h1.2, oks_shorts fun y hy => h y (by simp [hy])]; rfl
theorem stmtParts_some {v : D} {hs : List String} {ps : List D × List D} (h : stmtParts v hs = some ps) : headIn v hs = true ∧ rawParts v = some ps ∧ ps.1.all isProg = true ∧ ps.2.all isTest = true := by
  unfold stmtParts at h
  split at h
  · rename_i h1
    split at h
    · rename_i ps' hr
      split at h
      · rename_i h2
        cases h
        rw [Bool.and_eq_true] at h2
        exact ⟨h1, hr, h2.1, h2.2⟩
      · cases h
    · cases h
  · cases h
theorem stmtParts_plain {v : D} (hs : List String) (ho : okD v = true) : plain (optP (stmtParts v hs)) = true := by
  cases h : stmtParts v hs with
  | none => rfl
  | some ps =>
    obtain ⟨_, hr, _, _⟩ := stmtParts_some h
    obtain ⟨h1, h2⟩ := rawParts_ok hr ho
    simp [optP, oks_plains h1, oks_plains h2]
/-! ### all parts -/
def allF (parts : D → List D) : Nat → (D → Bool) → D → Bool
  | 0, _, _ => true
  | n + 1, g, d => g d && (parts d).all (allF parts n g)
def allD (parts : D → List D) (g : D → Bool) (d : D) : Bool := allF parts (wt d) g d
theorem allF_le {parts : D → List D} (hp : ∀ d, wts (parts d) < wt d) (g : D → Bool) : ∀ (n m : Nat) (d : D), wt d ≤ n → wt d ≤ m → allF parts n g d = allF parts m g d
  | 0, _, d, h, _ => by have := wt_pos d; omega
  | _ + 1, 0, d, _, h => by have := wt_pos d; omega
  | n + 1, m + 1, d, h1, h2 => by
    unfold allF
    have hw := hp d
    congr 1
    refine Bool.eq_iff_iff.mpr ?_
    simp only [List.all_eq_true]
    constructor
    · intro k x hx
      have := wt_mem hx
      rw [← allF_le hp g n m x (by omega) (by omega)]; exact k x hx
    · intro k x hx
      have := wt_mem hx
      rw [allF_le hp g n m x (by omega) (by omega)]; exact k x hx
theorem allD_eq {parts : D → List D} (hp : ∀ d, wts (parts d) < wt d) (g : D → Bool) (d : D) : allD parts g d = (g d && (parts d).all (allD parts g)) := by
  unfold allD
  have h0 := wt_pos d
  obtain ⟨k, hk⟩ : ∃ k, wt d = k + 1 := ⟨wt d - 1, by omega⟩
  rw [hk]
  show (g d && (parts d).all (allF parts k g)) = _
  have hw := hp d
  congr 1
  refine Bool.eq_iff_iff.mpr ?_
  simp only [List.all_eq_true]
  constructor
  · intro q x hx
    have := wt_mem hx
    show allF parts (wt x) g x = true
    rw [allF_le hp g (wt x) k x (Nat.le_refl _) (by omega)]; exact q x hx
  · intro q x hx
    have := wt_mem hx
    have h2 : allF parts (wt x) g x = true := q x hx
    rw [allF_le hp g k (wt x) x (by omega) (Nat.le_refl _)]; exact h2
def tparts (d : D) : List D := (testParts d).getD []
def pparts (d : D) : List D := ((progParts d).map (·.1)).getD []
def ptests (d : D) : List D := ((progParts d).map (·.2)).getD []
theorem tparts_wt (d : D) : wts (tparts d) < wt d := by
  unfold tparts
  cases h : testParts d with
  | none => have := wt_pos d; simp; omega
  | some ps => exact testParts_wt h
theorem pparts_wt (d : D) : wts (pparts d) < wt d := by
  unfold pparts
  cases h : progParts d with
  | none => have := wt_pos d; simp; omega
  | some ps => have := progParts_wt h; simp; omega
abbrev subT := allD tparts
abbrev subP := allD pparts
theorem subT_eq (g : D → Bool) (d : D) : subT g d = (g d && (tparts d).all (subT g)) := allD_eq tparts_wt g d
theorem subP_eq (g : D → Bool) (d : D) : subP g d = (g d && (pparts d).all (subP g)) := allD_eq pparts_wt g d
/-- F: all parts of the programs ps; T: all parts of their tests and of ts -/
structure AllOf (ps ts F T : List D) : Prop where
  okF : ∀ x ∈ F, okD x = true
  okT : ∀ x ∈ T, okD x = true
  prF : F.all isProg = true
  teT : T.all isTest = true
  lF : F.length ≤ 500000
  lT : T.length ≤ 500000
  F : ∀ f, F.all f = ps.all (subP f)
  T : ∀ g, T.all g = (ts.all (subT g) && ps.all (subP fun p => (ptests p).all (subT g)))
def sp_all_parts : Spec
  | [.lst ps, .lst ts], μ, Q, _ => (∀ x ∈ ps, okD x = true) ∧ (∀ x ∈ ts, okD x = true) ∧ ps.all isProg = true ∧ ts.all isTest = true ∧ wts ps + wts ts ≤ 500000 ∧ ∀ F T, AllOf ps ts F T → Q (.lst [.lst F, .lst T]) μ
  | _, _, _, _ => False
/-! ### wholes -/
def sayP (v : D) : Option (List D × List D) := stmtParts v ["same", "below", "triple"]
def hypP (v : D) : Option (List D × List D) := stmtParts v ["never", "keeps", "leaves", "triple"]
def fsts (o : Option (List D × List D)) : List D := (o.map (·.1)).getD []
def snds (o : Option (List D × List D)) : List D := (o.map (·.2)).getD []
def wp1 (s : D) (c : List D) : List D := fsts (sayP s) ++ (c.map fun h => fsts (hypP h)).flatten
def wp2 (s : D) (c : List D) : List D := snds (sayP s) ++ (c.map fun h => snds (hypP h)).flatten
theorem stmtParts_wt {v : D} {hs : List String} : wts (fsts (stmtParts v hs)) + wts (snds (stmtParts v hs)) ≤ wt v := by
  cases h : stmtParts v hs with
  | none => simp [fsts, snds]
  | some ps =>
    have := rawParts_wt (stmtParts_some h).2.1
    simp [fsts, snds]; omega
theorem stmtParts_oks {v : D} {hs : List String} (ho : okD v = true) : (∀ x ∈ fsts (stmtParts v hs), okD x = true) ∧ ∀ x ∈ snds (stmtParts v hs), okD x = true := by
  cases h : stmtParts v hs with
  | none => simp [fsts, snds]
  | some ps => exact rawParts_ok (stmtParts_some h).2.1 ho
theorem stmtParts_good {v : D} {hs : List String} : (fsts (stmtParts v hs)).all isProg = true ∧ (snds (stmtParts v hs)).all isTest = true := by
  cases h : stmtParts v hs with
  | none => simp [fsts, snds]
  | some ps => exact (stmtParts_some h).2.2
theorem hyps_wt : ∀ c : List D, wts (c.map fun h => fsts (hypP h)).flatten + wts (c.map fun h => snds (hypP h)).flatten ≤ wts c
  | [] => by simp
  | h :: c => by
    have h1 := hyps_wt c
    have h2 := stmtParts_wt (v := h) (hs := ["never", "keeps", "leaves", "triple"])
    simp only [List.map_cons, List.flatten_cons, wts_append, wts_cons]
    show wts (fsts (hypP h)) + _ + (wts (snds (hypP h)) + _) ≤ _
    unfold hypP at h1 ⊢
    omega
theorem wp_wt (s : D) (c : List D) : wts (wp1 s c) + wts (wp2 s c) ≤ wt s + wts c := by
  have h1 := hyps_wt c
  have h2 := stmtParts_wt (v := s) (hs := ["same", "below", "triple"])
  unfold wp1 wp2
  rw [wts_append, wts_append]
  show wts (fsts (stmtParts s _)) + _ + (wts (snds (stmtParts s _)) + _) ≤ _
  omega
theorem wp_ok {s : D} {c : List D} (hs : okD s = true) (hc : ∀ x ∈ c, okD x = true) : (∀ x ∈ wp1 s c, okD x = true) ∧ ∀ x ∈ wp2 s c, okD x = true := by
  unfold wp1 wp2
  refine ⟨fun x hx => ?_, fun x hx => ?_⟩
  · rcases List.mem_append.mp hx with h | h
    · exact (stmtParts_oks hs).1 x h
    · obtain ⟨l, hl, hx⟩ := List.mem_flatten.mp h
      obtain ⟨y, hy, rfl⟩ := List.mem_map.mp hl
      exact (stmtParts_oks (hc y hy)).1 x hx
  · rcases List.mem_append.mp hx with h | h
    · exact (stmtParts_oks hs).2 x h
    · obtain ⟨l, hl, hx⟩ := List.mem_flatten.mp h
      obtain ⟨y, hy, rfl⟩ := List.mem_map.mp hl
      exact (stmtParts_oks (hc y hy)).2 x hx
theorem wp_good (s : D) (c : List D) : (wp1 s c).all isProg = true ∧ (wp2 s c).all isTest = true := by
  unfold wp1 wp2
  constructor
  · rw [List.all_append, Bool.and_eq_true]
    refine ⟨stmtParts_good.1, List.all_eq_true.mpr fun x h => ?_⟩
    obtain ⟨l, hl, hx⟩ := List.mem_flatten.mp h
    obtain ⟨y, hy, rfl⟩ := List.mem_map.mp hl
    exact List.all_eq_true.mp stmtParts_good.1 x hx
  · rw [List.all_append, Bool.and_eq_true]
    refine ⟨stmtParts_good.2, List.all_eq_true.mpr fun x h => ?_⟩
    obtain ⟨l, hl, hx⟩ := List.mem_flatten.mp h
    obtain ⟨y, hy, rfl⟩ := List.mem_map.mp hl
    exact List.all_eq_true.mp stmtParts_good.2 x hx
def sp_whole_parts : Spec
  | [.tup [_, _, _, .tup c, s]], μ, Q, _ => okD s = true ∧ (∀ x ∈ c, okD x = true) ∧ wt s + wts c ≤ 400000 ∧ (sayP s).isSome = true ∧ (c.all fun h => (hypP h).isSome) = true ∧ Q (.tup [.lst (wp1 s c), .lst (wp2 s c)]) μ
  | _, _, _, _ => False
/-- a node headed k has its name in vs -/
def nodeIn (k : String) (vs : List D) (d : D) : Bool := if eqv (part d 0) (.str k) = true then vs.any fun y => eqv y (part d 1) else true
def isWhole : D → Bool
  | .tup [.str h, .tup a, .tup b, .tup c, s] => (h == "whole") && namesB (a ++ b) && (sayP s).isSome && (c.all fun h => (hypP h).isSome) &&
      ((wp2 s c).all (subT (nodeIn "name" a)) && (wp1 s c).all (subP fun p => (ptests p).all (subT (nodeIn "name" a)))) && (wp1 s c).all (subP (nodeIn "deed" b))
  | _ => false
def sp_is_whole : Spec
  | [v], μ, Q, _ => okD v = true ∧ wt v ≤ 400000 ∧ wt (part v 1) + wt (part v 2) ≤ 2900 ∧ Q (.bl (isWhole v)) μ
  | _, _, _, _ => False
theorem head5 {v : D} {hs : List String} (h : isHead v hs 5 = true) : ∃ s x y z u, v = .tup [.str s, x, y, z, u] ∧ s ∈ hs := by
  obtain ⟨s, r, rfl, hl, hm⟩ := isHead_inv h
  match r with
  | [x, y, z, u] => exact ⟨s, x, y, z, u, rfl, hm⟩
  | [] => simp at hl
  | [_] => simp at hl
  | [_, _] => simp at hl
  | [_, _, _] => simp at hl
  | _ :: _ :: _ :: _ :: _ :: _ => simp at hl; omega
theorem isTest_shape {t : D} (h : isTest t = true) : ∃ s r, t = .tup (.str s :: r) ∧ (s = "name" → ∃ x, r = [x] ∧ isName x = true) := by
  rw [isTest_eq] at h
  cases ht : testParts t with
  | none => rw [ht] at h; cases h
  | some ps =>
    unfold testParts at ht
    split at ht
    · rename_i h1
      obtain ⟨s, rfl, hm⟩ := head1 h1
      exact ⟨s, [], rfl, fun e => by subst e; simp at hm⟩
    split at ht
    · rename_i h1
      obtain ⟨s, x, rfl, hm⟩ := head2 h1
      split at ht
      · rename_i h2
        exact ⟨s, [x], rfl, fun _ => ⟨x, rfl, h2⟩⟩
      · cases ht
    split at ht
    · rename_i h1
      obtain ⟨s, x, rfl, hm⟩ := head2 h1
      exact ⟨s, [x], rfl, fun e => by subst e; simp at hm⟩
    split at ht
    · rename_i h1
      obtain ⟨s, x, y, rfl, hm⟩ := head3 h1
      exact ⟨s, [x, y], rfl, fun e => by subst e; simp at hm⟩
    cases ht
theorem isProg_shape {t : D} (h : isProg t = true) : ∃ s r, t = .tup (.str s :: r) ∧ (s = "deed" → ∃ x, r = [x] ∧ isName x = true) := by
  rw [isProg_eq] at h
  cases ht : progParts t with
  | none => rw [ht] at h; cases h
  | some ps =>
    unfold progParts at ht
    split at ht
    · rename_i h1
      obtain ⟨s, rfl, hm⟩ := head1 h1
      exact ⟨s, [], rfl, fun e => by subst e; simp at hm⟩
    split at ht
    · rename_i h1
      obtain ⟨s, x, rfl, hm⟩ := head2 h1
      split at ht
      · rename_i h2
        exact ⟨s, [x], rfl, fun _ => ⟨x, rfl, h2⟩⟩
      · cases ht
    split at ht
    · rename_i h1
      obtain ⟨s, x, rfl, hm⟩ := head2 h1
      exact ⟨s, [x], rfl, fun e => by subst e; simp at hm⟩
    split at ht
    · rename_i h1
      obtain ⟨s, x, y, rfl, hm⟩ := head3 h1
      exact ⟨s, [x, y], rfl, fun e => by subst e; simp at hm⟩
    split at ht
    · rename_i h1
      obtain ⟨s, x, rfl, hm⟩ := head2 h1
      exact ⟨s, [x], rfl, fun e => by subst e; simp at hm⟩
    split at ht
    · rename_i h1
      obtain ⟨s, x, y, z, rfl, hm⟩ := head4 h1
      exact ⟨s, [x, y, z], rfl, fun e => by subst e; simp at hm⟩
    split at ht
    · rename_i h1
      obtain ⟨s, x, y, rfl, hm⟩ := head3 h1
      exact ⟨s, [x, y], rfl, fun e => by subst e; simp at hm⟩
    split at ht
    · rename_i h1
      obtain ⟨s, x, y, rfl, hm⟩ := head3 h1
      exact ⟨s, [x, y], rfl, fun e => by subst e; simp at hm⟩
    cases ht
/-- the truths of what passes a test -/
theorem boolsOf_filter (p : D → Bool) (g : D → Bool) : ∀ xs : List D, ∃ bs, boolsOf (xs.filterMap fun d => if p d = true then some (D.bl (g d)) else none) = some bs ∧ bs.all id = xs.all fun d => if p d = true then g d else true
  | [] => ⟨[], rfl, rfl⟩
  | x :: xs => by
    obtain ⟨bs, h1, h2⟩ := boolsOf_filter p g xs
    rw [List.filterMap_cons, List.all_cons]
    cases hp : p x with
    | true =>
      refine ⟨g x :: bs, ?_, ?_⟩
      · simp only [hp, if_true]
        show (boolsOf _).map (g x :: ·) = _
        rw [h1]; rfl
      · rw [List.all_cons, h2]; simp
    | false =>
      refine ⟨bs, ?_, ?_⟩
      · simp only [Bool.false_eq_true, if_false]
        exact h1
      · rw [h2]; simp
end PY

set_option Elab.async false
set_option linter.all false
set_option maxRecDepth 100000
set_option maxHeartbeats 4000000
/-! the laws' pen: what is drawn. -/
namespace PY
def penK (xs : List D) (at_ dg ct fd : Int) : List (D × D) := [(.str "cells", .lst xs), (.str "at", .int at_), (.str "digits", .int dg), (.str "count", .int ct), (.str "fold", .int fd)]
/-- a pen that has drawn C times at most -/
def PenC (C : Int) (c : Cell) : Prop := ∃ (ns : List Int) (at_ dg ct fd : Int), c = .dct false (penK (ns.map .int) at_ dg ct fd) ∧ 0 ≤ at_ ∧ 0 ≤ dg ∧ 0 ≤ ct ∧ ct ≤ C ∧ 0 ≤ fd ∧ fd < 4294967296
theorem PenC.mono {C C' : Int} {c : Cell} (h : PenC C c) (hc : C ≤ C') : PenC C' c := by
  obtain ⟨ns, a, d, t, f, e, h1, h2, h3, h4, h5, h6⟩ := h
  exact ⟨ns, a, d, t, f, e, h1, h2, h3, by omega, h5, h6⟩
/-- the most draws that are told -/
abbrev Many : Int := 1000000000000
section
variable {μ : Store} {p : Nat} {xs : List D} {a d t f : Int}
theorem pen_cells (h : μ[p]? = some (.dct false (penK xs a d t f))) : ixD μ (.ref p) (.str "cells") = some (.lst xs) := by simp [ixD, h, keyOf, flatKey, look, penK]
theorem pen_at (h : μ[p]? = some (.dct false (penK xs a d t f))) : ixD μ (.ref p) (.str "at") = some (.int a) := by simp [ixD, h, keyOf, flatKey, look, penK]
theorem pen_digits (h : μ[p]? = some (.dct false (penK xs a d t f))) : ixD μ (.ref p) (.str "digits") = some (.int d) := by simp [ixD, h, keyOf, flatKey, look, penK]
theorem pen_count (h : μ[p]? = some (.dct false (penK xs a d t f))) : ixD μ (.ref p) (.str "count") = some (.int t) := by simp [ixD, h, keyOf, flatKey, look, penK]
theorem pen_fold (h : μ[p]? = some (.dct false (penK xs a d t f))) : ixD μ (.ref p) (.str "fold") = some (.int f) := by simp [ixD, h, keyOf, flatKey, look, penK]
theorem set_at (h : μ[p]? = some (.dct false (penK xs a d t f))) (v : Int) : primD .setix [.ref p, .str "at", .int v] μ = some (.non, μ.set p (.dct false (penK xs v d t f))) := by
  simp [primD, h, keyOf, flatKey, put, penK, Sz]
theorem set_digits (h : μ[p]? = some (.dct false (penK xs a d t f))) (v : Int) : primD .setix [.ref p, .str "digits", .int v] μ = some (.non, μ.set p (.dct false (penK xs a v t f))) := by
  simp [primD, h, keyOf, flatKey, put, penK, Sz]
theorem set_count (h : μ[p]? = some (.dct false (penK xs a d t f))) (v : Int) : primD .setix [.ref p, .str "count", .int v] μ = some (.non, μ.set p (.dct false (penK xs a d v f))) := by
  simp [primD, h, keyOf, flatKey, put, penK, Sz]
theorem set_fold (h : μ[p]? = some (.dct false (penK xs a d t f))) (v : Int) : primD .setix [.ref p, .str "fold", .int v] μ = some (.non, μ.set p (.dct false (penK xs a d t v))) := by
  simp [primD, h, keyOf, flatKey, put, penK, Sz]
end
def sp_law_draw : Spec
  | [.ref p, .int many], μ, Q, _ => ∃ C pen, μ[p]? = some pen ∧ PenC C pen ∧ C < Many ∧ 1 ≤ many ∧ many < 1073741824 ∧ ∀ r pen', 0 ≤ r → r < many → PenC (C + 1) pen' → Q (.int r) (μ.set p pen')
  | _, _, _, _ => False
def sp_law_pick : Spec
  | [.ref p, .lst xs], μ, Q, _ => ∃ C pen, μ[p]? = some pen ∧ PenC C pen ∧ C < Many ∧ xs ≠ [] ∧ xs.length < 1073741824 ∧ ∀ x ∈ xs, ∀ pen', PenC (C + 1) pen' → Q x (μ.set p pen')
  | _, _, _, _ => False
def sp_law_pen : Spec
  | [.lst xs], μ, Q, _ => ∃ ns : List Int, xs = ns.map .int ∧ ns.length ≤ 1000 ∧ ∀ pen, PenC 0 pen → Q (.ref μ.length) (μ ++ [pen])
  | [.scr ns], μ, Q, _ => ns.length ≤ 1000 ∧ ∀ pen, PenC 0 pen → Q (.ref μ.length) (μ ++ [pen])
  | _, _, _, _ => False
def sp_law_is_truth : Spec
  | [v, .bl b], μ, Q, _ => okD v = true ∧ Q (.bl (match v with | .bl c => c == b | _ => false)) μ
  | _, _, _, _ => False
/-- a pen's cell keeps to what was there -/
theorem PenC.below {C : Int} {c : Cell} (h : PenC C c) (n : Nat) : belowC n c = true := by
  obtain ⟨ns, a, d, t, f, rfl, _⟩ := h
  show belows n ((penK (ns.map .int) a d t f).map (·.2)) = true
  simp [penK]
  exact belows_plain _ (plains_iff.mpr fun x hx => by obtain ⟨n, _, rfl⟩ := List.mem_map.mp hx; rfl)
theorem wfS.set {μ : Store} {p : Nat} {c : Cell} (h : wfS μ) (hc : belowC μ.length c = true) : wfS (μ.set p c) := by
  intro i k e
  rw [List.length_set]
  by_cases hi : i = p
  · subst hi
    by_cases hl : i < μ.length
    · rw [List.getElem?_set_self hl] at e
      cases e; exact hc
    · rw [List.getElem?_eq_none (by simpa using hl)] at e; cases e
  · rw [List.getElem?_set_ne (Ne.symm hi)] at e
    exact h i k e
/-- the end of a def that wrote the pen -/
theorem EndD.pen {μ : Store} {p : Nat} {c : Cell} {d : D} {Q : D → Store → Prop} (hw : wfS μ) (hc : belowC μ.length c = true) (hd : below μ.length d = true) (q : Q d (μ.set p c)) : EndD μ.length d (μ.set p c) Q := by
  have h := EndD.same (μ := μ.set p c) (Q := Q) (hw.set hc) (by rw [List.length_set]; exact hd) q
  rw [List.length_set] at h
  exact h
/-- a def gives a new cell, and keeps it -/
theorem EndD.keep {ν : Store} {c : Cell} {Q : D → Store → Prop} (hw : wfS ν) (hc : belowC ν.length c = true) (q : Q (.ref ν.length) (ν ++ [c])) : EndD ν.length (.ref ν.length) (ν ++ [c]) Q := by
  refine ⟨{ js := [ν.length] }, ?_⟩
  have e1 : shedS ν.length { js := [ν.length] } (ν ++ [c]) = some (ν ++ [c]) := by
    unfold shedS
    rw [if_pos (by simp [shedOk])]
    have e : ((List.range ν.length ++ [ν.length]).map fun (i : Nat) => (ν ++ [c])[i]?) = (ν ++ [c]).map some := by
      apply List.ext_getElem?
      intro i
      by_cases hi : i < ν.length
      · rw [List.getElem?_map, List.getElem?_append_left (by simpa using hi), List.getElem?_range hi, List.getElem?_map]
        simp [List.getElem?_append_left hi, hi]
      · by_cases hi2 : i = ν.length
        · subst hi2; simp
        · rw [List.getElem?_eq_none (by simp; omega), List.getElem?_eq_none (by simp; omega)]
    rw [e]
    refine frzCs_some fun x hx => frzC_below (fun i hi => frzR_lt _ i hi) ?_
    rcases List.mem_append.mp hx with h | h
    · exact hw.n x h
    · rw [List.mem_singleton.mp h]; exact hc
  have e2 : shedD ν.length { js := [ν.length] } (ν ++ [c]) (.ref ν.length) = some (.ref ν.length) := by
    show frzR ν.length [ν.length] (ν ++ [c]) 2 ν.length = _
    unfold frzR keptAt
    rw [if_neg (by omega)]
    simp
  rw [e1, opt_some, e2, opt_some]
  exact q
/-- a test over the names ts -/
def GenT (ts : List String) (t : D) : Prop := isTest t = true ∧ okD t = true ∧ subT (nodeIn "name" (ts.map .str)) t = true
def sp_law_test (m : Nat) : Spec
  | [.ref p, .lst tl, .int n], μ, Q, _ => ∃ (k : Nat) (ts : List String) (C : Int) (pen : Cell), n = (k : Int) ∧ k < m ∧ k ≤ 20 ∧ tl = ts.map .str ∧ ts.all nameS = true ∧ ts.length ≤ 100 ∧ μ[p]? = some pen ∧ PenC C pen ∧ C + 8 * 2 ^ k < Many ∧
      ∀ t pen', GenT ts t → wt t + 2 ≤ 8 * 2 ^ k → depth t ≤ k + 1 → PenC (C + 8 * 2 ^ k - 2) pen' → Q t (μ.set p pen')
  | _, _, _, _ => False
theorem gen_true (ts : List String) : GenT ts (.tup [.str "true"]) ∧ GenT ts (.tup [.str "false"]) := by
  refine ⟨⟨by decide +kernel, by decide +kernel, ?_⟩, ⟨by decide +kernel, by decide +kernel, ?_⟩⟩
  · rw [subT_eq]
    have e1 : tparts (.tup [.str "true"]) = [] := by decide +kernel
    rw [e1]; simp [nodeIn, part]
  · rw [subT_eq]
    have e1 : tparts (.tup [.str "false"]) = [] := by decide +kernel
    rw [e1]; simp [nodeIn, part]
theorem nameS_short {s : String} (h : nameS s = true) : s.toList.length ≤ 1000 := by
  unfold nameS at h
  split at h
  · rename_i e; rw [e]; simp
  · rename_i c cs e
    rw [e]
    simp at h
    simp; omega
theorem parts_name {s : String} (h : nameS s = true) : testParts (.tup [.str "name", .str s]) = some [] := by
  have : isName (.str s) = true := h
  simp [testParts, isHead, part, this]
theorem parts_not (x : D) : testParts (.tup [.str "not", x]) = some [x] := by simp [testParts, isHead, part]
theorem parts_and (x y : D) : testParts (.tup [.str "and", x, y]) = some [x, y] := by simp [testParts, isHead, part]
theorem parts_or (x y : D) : testParts (.tup [.str "or", x, y]) = some [x, y] := by simp [testParts, isHead, part]
theorem gen_name {ts : List String} (h : ts.all nameS = true) {s : String} (hs : s ∈ ts) : GenT ts (.tup [.str "name", .str s]) := by
  have hn := List.all_eq_true.mp h s hs
  refine ⟨by rw [isTest_eq, parts_name hn]; rfl, ?_, ?_⟩
  · have := nameS_short hn
    simp [okD, this]
  · rw [subT_eq]
    unfold tparts
    rw [parts_name hn]
    simp [nodeIn, part, hs]
theorem ok_tup {s : String} {xs : List D} (hs : s.toList.length ≤ 1000) (h : ∀ x ∈ xs, okD x = true) : okD (.tup (.str s :: xs)) = true := by
  unfold okD
  rw [plain_tup, shorts_tup, plains_cons, shortss_cons, oks_plains h, oks_shorts h]
  simp [hs]
theorem gen_not {ts : List String} {x : D} (h : GenT ts x) : GenT ts (.tup [.str "not", x]) := by
  refine ⟨by rw [isTest_eq, parts_not]; simp [h.1], ok_tup (by decide) (by simp [h.2.1]), ?_⟩
  rw [subT_eq]
  unfold tparts
  rw [parts_not]
  simp [nodeIn, part, h.2.2]
theorem gen_and {ts : List String} {x y : D} (h : GenT ts x) (h2 : GenT ts y) : GenT ts (.tup [.str "and", x, y]) ∧ GenT ts (.tup [.str "or", x, y]) := by
  refine ⟨⟨by rw [isTest_eq, parts_and]; simp [h.1, h2.1], ok_tup (by decide) (by simp [h.2.1, h2.2.1]), ?_⟩, ⟨by rw [isTest_eq, parts_or]; simp [h.1, h2.1], ok_tup (by decide) (by simp [h.2.1, h2.2.1]), ?_⟩⟩
  · rw [subT_eq]
    unfold tparts
    rw [parts_and]
    simp [nodeIn, part, h.2.2, h2.2.2]
  · rw [subT_eq]
    unfold tparts
    rw [parts_or]
    simp [nodeIn, part, h.2.2, h2.2.2]
def testNames : List (List String) := [[], ["p"], ["p"], ["p", "q"], ["q", "p"]]
def deedNames : List (List String) := [["a"], ["a", "b"], ["b", "a"]]
def sp_law_names : Spec
  | [.ref p], μ, Q, _ => ∃ (C : Int) (pen : Cell), μ[p]? = some pen ∧ PenC C pen ∧ C + 2 < Many ∧ ∀ ts ∈ testNames, ∀ ds ∈ deedNames, ∀ pen', PenC (C + 2) pen' → Q (.tup [.lst (ts.map .str), .lst (ds.map .str)]) (μ.set p pen')
  | _, _, _, _ => False
/-- what stands at a path; what comes of putting something there -/
def subAt : D → List Nat → Option D
  | d, [] => some d
  | .tup xs, k :: ks => (xs[k]?).bind fun x => subAt x ks
  | _, _ :: _ => none
def putAt : D → List Nat → D → D
  | _, [], new => new
  | .tup xs, k :: ks, new => .tup (xs.set k (putAt (xs.getD k .non) ks new))
  | d, _ :: _, _ => d
def pathD (ks : List Nat) : List D := ks.map fun (k : Nat) => D.int (k : Int)
def sp_law_put (m : Nat) : Spec
  | [t, .tup path, new], μ, Q, _ => ∃ ks : List Nat, path = pathD ks ∧ ks.length < m ∧ (subAt t ks).isSome = true ∧ plain t = true ∧ plain new = true ∧ wt t ≤ 1000000 ∧ Q (putAt t ks new) μ
  | _, _, _, _ => False
theorem putAt_plain : ∀ (ks : List Nat) (t new : D), plain t = true → plain new = true → plain (putAt t ks new) = true
  | [], t, new, _, h => by cases t <;> exact h
  | k :: ks, t, new, ht, hn => by
    cases t with
    | tup xs =>
      show plains (xs.set k _) = true
      rw [plain_tup] at ht
      refine plains_iff.mpr fun x hx => ?_
      rcases List.mem_or_eq_of_mem_set hx with h | h
      · exact plains_iff.mp ht x h
      · rw [h]
        refine putAt_plain ks _ new ?_ hn
        by_cases hk : k < xs.length
        · rw [List.getD_eq_getElem?_getD, List.getElem?_eq_getElem hk]
          exact plains_iff.mp ht _ (List.getElem_mem hk)
        · rw [List.getD_eq_getElem?_getD, List.getElem?_eq_none (by omega)]; rfl
    | _ => exact ht
def badL (xs : List D) : List D := [.non, .int 3, .str "skip", .tup [], .lst xs, .tup (xs ++ [.tup [.str "skip"]]), .tup [.str "do", .tup xs], .tup [.str "deed", .str "If"], .tup [.str "deed", .str "end"], .tup [.str "name", .str "1p"], .tup [.str "name", .str ""], .tup [.str "deed", .str "abcdefghi"], .tup [.non]]
def sp_law_bad : Spec
  | [.ref p, .tup xs], μ, Q, _ => ∃ (C : Int) (pen : Cell), μ[p]? = some pen ∧ PenC C pen ∧ C < Many ∧ plains xs = true ∧ xs.length ≤ 1000000 ∧ ∀ b ∈ badL xs, ∀ pen', PenC (C + 1) pen' → Q b (μ.set p pen')
  | _, _, _, _ => False
def skipD : D := .tup [.str "skip"]
def sameSkip : D := .tup [.str "same", .tup [.str "skip"], .tup [.str "skip"]]
def noneL : List D := [.non, .int 3, .str "a", .tup [], .tup [.str "skip"], .tup [.str "true"], .tup [.str "whole", .tup [], .tup [], .tup []], .tup [.str "whole", .tup [.str "a"], .tup [.str "a"], .tup [], sameSkip], .lst [.str "whole", .tup [], .tup [], .tup [], sameSkip], .bl true]
def sp_law_l_none : Spec
  | [.ref p], μ, Q, _ => ∃ (C : Int) (pen : Cell), μ[p]? = some pen ∧ PenC C pen ∧ C < Many ∧ ∀ b ∈ noneL, ∀ pen', PenC (C + 1) pen' → Q b (μ.set p pen')
  | _, _, _, _ => False
/-- a program over the names ts, ds -/
def GenP (ts ds : List String) (p : D) : Prop := isProg p = true ∧ okD p = true ∧ subP (fun p => (ptests p).all (subT (nodeIn "name" (ts.map .str)))) p = true ∧ subP (nodeIn "deed" (ds.map .str)) p = true
theorem gen_of {ts ds : List String} {p : D} {ps qs : List D} (h : progParts p = some (ps, qs)) (ho : okD p = true) (hd : nodeIn "deed" (ds.map .str) p = true) (hp : ∀ x ∈ ps, GenP ts ds x) (hq : ∀ x ∈ qs, GenT ts x) : GenP ts ds p := by
  have e1 : pparts p = ps := by unfold pparts; rw [h]; rfl
  have e2 : ptests p = qs := by unfold ptests; rw [h]; rfl
  refine ⟨?_, ho, ?_, ?_⟩
  · rw [isProg_eq, h]
    simp only [Bool.and_eq_true, List.all_eq_true]
    exact ⟨fun x hx => (hp x hx).1, fun x hx => (hq x hx).1⟩
  · rw [subP_eq, e1, e2]
    simp only [Bool.and_eq_true, List.all_eq_true]
    exact ⟨fun x hx => (hq x hx).2.2, fun x hx => (hp x hx).2.2.1⟩
  · rw [subP_eq, e1, hd]
    simp only [Bool.true_and, List.all_eq_true]
    exact fun x hx => (hp x hx).2.2.2
section
variable {ts ds : List String} {x y t u : D}
theorem pp_skip : progParts (.tup [.str "skip"]) = some ([], []) := by simp [progParts, isHead]
theorem pp_stop : progParts (.tup [.str "stop"]) = some ([], []) := by simp [progParts, isHead]
theorem pp_deed {s : String} (h : nameS s = true) : progParts (.tup [.str "deed", .str s]) = some ([], []) := by
  have : isName (.str s) = true := h
  simp [progParts, isHead, part, this]
theorem pp_assume : progParts (.tup [.str "assume", t]) = some ([], [t]) := by simp [progParts, isHead, part]
theorem pp_then : progParts (.tup [.str "then", x, y]) = some ([x, y], []) := by simp [progParts, isHead, part]
theorem pp_choose : progParts (.tup [.str "choose", x, y]) = some ([x, y], []) := by simp [progParts, isHead, part]
theorem pp_loop : progParts (.tup [.str "loop", x]) = some ([x], []) := by simp [progParts, isHead, part]
theorem pp_if : progParts (.tup [.str "if", t, x, y]) = some ([x, y], [t]) := by simp [progParts, isHead, part]
theorem pp_while : progParts (.tup [.str "while", t, x]) = some ([x], [t]) := by simp [progParts, isHead, part]
theorem pp_repeat : progParts (.tup [.str "repeat", x, t]) = some ([x], [t]) := by simp [progParts, isHead, part]
theorem genP_skip : GenP ts ds skipD := gen_of pp_skip (by decide) (by simp [nodeIn, part, skipD]) (by simp) (by simp)
theorem genP_stop : GenP ts ds (.tup [.str "stop"]) := gen_of pp_stop (by decide) (by simp [nodeIn, part]) (by simp) (by simp)
theorem genP_deed {s : String} (hd : ds.all nameS = true) (hs : s ∈ ds) : GenP ts ds (.tup [.str "deed", .str s]) := by
  have hn := List.all_eq_true.mp hd s hs
  exact gen_of (pp_deed hn) (ok_tup (by decide) (by have := nameS_short hn; simp [okD, this])) (by simp [nodeIn, part, hs]) (by simp) (by simp)
theorem genP_assume (h : GenT ts t) : GenP ts ds (.tup [.str "assume", t]) := gen_of pp_assume (ok_tup (by decide) (by simp [h.2.1])) (by simp [nodeIn, part]) (by simp) (by simp [h])
theorem genP_then (h : GenP ts ds x) (h2 : GenP ts ds y) : GenP ts ds (.tup [.str "then", x, y]) := gen_of pp_then (ok_tup (by decide) (by simp [h.2.1, h2.2.1])) (by simp [nodeIn, part]) (by simp [h, h2]) (by simp)
theorem genP_choose (h : GenP ts ds x) (h2 : GenP ts ds y) : GenP ts ds (.tup [.str "choose", x, y]) := gen_of pp_choose (ok_tup (by decide) (by simp [h.2.1, h2.2.1])) (by simp [nodeIn, part]) (by simp [h, h2]) (by simp)
theorem genP_loop (h : GenP ts ds x) : GenP ts ds (.tup [.str "loop", x]) := gen_of pp_loop (ok_tup (by decide) (by simp [h.2.1])) (by simp [nodeIn, part]) (by simp [h]) (by simp)
theorem genP_if (h : GenT ts t) (h2 : GenP ts ds x) (h3 : GenP ts ds y) : GenP ts ds (.tup [.str "if", t, x, y]) := gen_of pp_if (ok_tup (by decide) (by simp [h.2.1, h2.2.1, h3.2.1])) (by simp [nodeIn, part]) (by simp [h2, h3]) (by simp [h])
theorem genP_while (h : GenT ts t) (h2 : GenP ts ds x) : GenP ts ds (.tup [.str "while", t, x]) := gen_of pp_while (ok_tup (by decide) (by simp [h.2.1, h2.2.1])) (by simp [nodeIn, part]) (by simp [h2]) (by simp [h])
theorem genP_repeat (h : GenT ts t) (h2 : GenP ts ds x) : GenP ts ds (.tup [.str "repeat", x, t]) := gen_of pp_repeat (ok_tup (by decide) (by simp [h.2.1, h2.2.1])) (by simp [nodeIn, part]) (by simp [h2]) (by simp [h])
end
/-! ### the pen's cell, and one of one's own behind -/
section
variable {μ : Store} {p : Nat} {pen pen' : Cell} {cs : Store}
theorem pen_get (hp : p < μ.length) : (μ.set p pen ++ cs)[p]? = some pen := by
  rw [List.getElem?_append_left (by simpa using hp), List.getElem?_set_self hp]
theorem pen_set (hp : p < μ.length) : (μ.set p pen ++ cs).set p pen' = μ.set p pen' ++ cs := by
  rw [List.set_append_left _ _ (by simpa using hp), List.set_set]
theorem own_get (j : Nat) : (μ.set p pen ++ cs)[μ.length + j]? = cs[j]? := by
  have := get_off (μ.set p pen) cs j
  rwa [List.length_set] at this
theorem own_get0 : (μ.set p pen ++ cs)[μ.length]? = cs[0]? := own_get 0
theorem own_set (j : Nat) (d : Cell) : (μ.set p pen ++ cs).set (μ.length + j) d = μ.set p pen ++ cs.set j d := by
  have := set_off (μ.set p pen) cs j d
  rwa [List.length_set] at this
theorem own_set0 (d : Cell) : (μ.set p pen ++ cs).set μ.length d = μ.set p pen ++ cs.set 0 d := own_set 0 d
end
/-- the end of a def that wrote the pen and had cells of its own -/
theorem EndD.penDrop {μ ex : Store} {p : Nat} {c : Cell} {d : D} {Q : D → Store → Prop} (hw : wfS μ) (hc : belowC μ.length c = true) (hd : below μ.length d = true) (q : Q d (μ.set p c)) : EndD μ.length d (μ.set p c ++ ex) Q := by
  have h := EndD.drop (ν := μ.set p c) (ex := ex) (Q := Q) (hw.set hc) (by rw [List.length_set]; exact hd) q
  rw [List.length_set] at h
  exact h
def sp_law_l_program : Spec
  | [.ref p, .lst tl, .lst dl, .int n], μ, Q, _ => ∃ (k : Nat) (ts ds : List String) (C : Int) (pen : Cell), n = (k : Int) ∧ 1 ≤ k ∧ k ≤ 100 ∧ tl = ts.map .str ∧ ts.all nameS = true ∧ ts.length ≤ 100 ∧ dl = ds.map .str ∧ ds.all nameS = true ∧ ds.length ≤ 100 ∧
      μ[p]? = some pen ∧ PenC C pen ∧ C + 10000 < Many ∧ ∀ t pen', GenP ts ds t → wt t ≤ 100 * k → depth t ≤ 6 * k + 10 → PenC (C + 10000) pen' → Q t (μ.set p pen')
  | _, _, _, _ => False
end PY

set_option Elab.async false
set_option linter.all false
set_option maxRecDepth 100000
set_option maxHeartbeats 4000000
/-! trees with one part changed. -/
namespace PY
theorem isTest_cases {t : D} (h : isTest t = true) : t = .tup [.str "true"] ∨ t = .tup [.str "false"] ∨ (∃ s, nameS s = true ∧ t = .tup [.str "name", .str s]) ∨ (∃ x, isTest x = true ∧ t = .tup [.str "not", x]) ∨
    (∃ s x y, (s = "and" ∨ s = "or") ∧ isTest x = true ∧ isTest y = true ∧ t = .tup [.str s, x, y]) := by
  rw [isTest_eq] at h
  cases ht : testParts t with
  | none => rw [ht] at h; cases h
  | some ps =>
    rw [ht] at h
    unfold testParts at ht
    split at ht
    · rename_i h1
      obtain ⟨s, rfl, hm⟩ := head1 h1
      simp at hm
      rcases hm with rfl | rfl
      · exact .inl rfl
      · exact .inr (.inl rfl)
    split at ht
    · rename_i h1
      obtain ⟨s, x, rfl, hm⟩ := head2 h1
      simp at hm
      subst hm
      split at ht
      · rename_i h2
        obtain ⟨s, hs⟩ := isName_str h2
        have hs' : x = .str s := hs
        subst hs'
        exact .inr (.inr (.inl ⟨s, h2, rfl⟩))
      · cases ht
    split at ht
    · rename_i h1
      obtain ⟨s, x, rfl, hm⟩ := head2 h1
      simp at hm
      subst hm
      cases ht
      simp [part] at h
      exact .inr (.inr (.inr (.inl ⟨x, h, rfl⟩)))
    split at ht
    · rename_i h1
      obtain ⟨s, x, y, rfl, hm⟩ := head3 h1
      simp at hm
      cases ht
      simp [part] at h
      exact .inr (.inr (.inr (.inr ⟨s, x, y, hm, h.1, h.2, rfl⟩)))
    cases ht
theorem isProg_cases {t : D} (h : isProg t = true) : t = .tup [.str "skip"] ∨ t = .tup [.str "stop"] ∨ (∃ s, nameS s = true ∧ t = .tup [.str "deed", .str s]) ∨ (∃ x, isTest x = true ∧ t = .tup [.str "assume", x]) ∨
    (∃ s x y, (s = "then" ∨ s = "choose") ∧ isProg x = true ∧ isProg y = true ∧ t = .tup [.str s, x, y]) ∨ (∃ x, isProg x = true ∧ t = .tup [.str "loop", x]) ∨
    (∃ u x y, isTest u = true ∧ isProg x = true ∧ isProg y = true ∧ t = .tup [.str "if", u, x, y]) ∨ (∃ u x, isTest u = true ∧ isProg x = true ∧ t = .tup [.str "while", u, x]) ∨
    (∃ u x, isTest u = true ∧ isProg x = true ∧ t = .tup [.str "repeat", x, u]) := by
  rw [isProg_eq] at h
  cases ht : progParts t with
  | none => rw [ht] at h; cases h
  | some ps =>
    rw [ht] at h
    unfold progParts at ht
    split at ht
    · rename_i h1
      obtain ⟨s, rfl, hm⟩ := head1 h1
      simp at hm
      rcases hm with rfl | rfl
      · exact .inl rfl
      · exact .inr (.inl rfl)
    split at ht
    · rename_i h1
      obtain ⟨s, x, rfl, hm⟩ := head2 h1
      simp at hm
      subst hm
      split at ht
      · rename_i h2
        obtain ⟨s, hs⟩ := isName_str h2
        have hs' : x = .str s := hs
        subst hs'
        exact .inr (.inr (.inl ⟨s, h2, rfl⟩))
      · cases ht
    split at ht
    · rename_i h1
      obtain ⟨s, x, rfl, hm⟩ := head2 h1
      simp at hm
      subst hm
      cases ht
      simp [part] at h
      exact .inr (.inr (.inr (.inl ⟨x, h, rfl⟩)))
    split at ht
    · rename_i h1
      obtain ⟨s, x, y, rfl, hm⟩ := head3 h1
      simp at hm
      cases ht
      simp [part] at h
      exact .inr (.inr (.inr (.inr (.inl ⟨s, x, y, hm, h.1, h.2, rfl⟩))))
    split at ht
    · rename_i h1
      obtain ⟨s, x, rfl, hm⟩ := head2 h1
      simp at hm
      subst hm
      cases ht
      simp [part] at h
      exact .inr (.inr (.inr (.inr (.inr (.inl ⟨x, h, rfl⟩)))))
    split at ht
    · rename_i h1
      obtain ⟨s, u, x, y, rfl, hm⟩ := head4 h1
      simp at hm
      subst hm
      cases ht
      simp [part] at h
      exact .inr (.inr (.inr (.inr (.inr (.inr (.inl ⟨u, x, y, h.2, h.1.1, h.1.2, rfl⟩))))))
    split at ht
    · rename_i h1
      obtain ⟨s, u, x, rfl, hm⟩ := head3 h1
      simp at hm
      subst hm
      cases ht
      simp [part] at h
      exact .inr (.inr (.inr (.inr (.inr (.inr (.inr (.inl ⟨u, x, h.2, h.1, rfl⟩)))))))
    split at ht
    · rename_i h1
      obtain ⟨s, x, u, rfl, hm⟩ := head3 h1
      simp at hm
      subst hm
      cases ht
      simp [part] at h
      exact .inr (.inr (.inr (.inr (.inr (.inr (.inr (.inr ⟨u, x, h.2, h.1, rfl⟩)))))))
    cases ht
/-! what a head makes of it -/
section
variable {x y t u : D}
theorem it_not : isTest (.tup [.str "not", x]) = isTest x := by rw [isTest_eq, parts_not]; simp
theorem it_and {s : String} (h : s = "and" ∨ s = "or") : isTest (.tup [.str s, x, y]) = (isTest x && isTest y) := by
  rcases h with rfl | rfl
  · rw [isTest_eq, parts_and]; simp
  · rw [isTest_eq, parts_or]; simp
theorem ip_assume : isProg (.tup [.str "assume", t]) = isTest t := by rw [isProg_eq, pp_assume]; simp
theorem ip_then {s : String} (h : s = "then" ∨ s = "choose") : isProg (.tup [.str s, x, y]) = (isProg x && isProg y) := by
  rcases h with rfl | rfl
  · rw [isProg_eq, pp_then]; simp
  · rw [isProg_eq, pp_choose]; simp
theorem ip_loop : isProg (.tup [.str "loop", x]) = isProg x := by rw [isProg_eq, pp_loop]; simp
theorem ip_if : isProg (.tup [.str "if", t, x, y]) = (isProg x && isProg y && isTest t) := by rw [isProg_eq, pp_if]; simp
theorem ip_while : isProg (.tup [.str "while", t, x]) = (isProg x && isTest t) := by rw [isProg_eq, pp_while]; simp
theorem ip_repeat : isProg (.tup [.str "repeat", x, t]) = (isProg x && isTest t) := by rw [isProg_eq, pp_repeat]; simp
end
/-- no test and no program -/
def Neither (d : D) : Prop := isTest d = false ∧ isProg d = false
def testHeads : List String := ["true", "false", "name", "not", "and", "or"]
def progHeads : List String := ["skip", "stop", "deed", "assume", "then", "choose", "loop", "if", "while", "repeat"]
theorem isHead_headIn {v : D} {hs : List String} {n : Int} (h : isHead v hs n = true) : headIn v hs = true := by
  obtain ⟨s, r, rfl, _, hm⟩ := isHead_inv h
  simpa [headIn] using hm
theorem headIn_sub {v : D} {hs hs2 : List String} (h : headIn v hs = true) (hh : ∀ s ∈ hs, s ∈ hs2) : headIn v hs2 = true := by
  unfold headIn at h ⊢
  split at h
  · simp at h ⊢; exact hh _ h
  · cases h
theorem isTest_head {v : D} (h : headIn v testHeads = false) : isTest v = false := by
  cases e : isTest v with
  | false => rfl
  | true =>
    rcases isTest_cases e with rfl | rfl | ⟨s, _, rfl⟩ | ⟨x, _, rfl⟩ | ⟨s, x, y, (rfl | rfl), _, _, rfl⟩ <;> simp [headIn, testHeads] at h
theorem isProg_head {v : D} (h : headIn v progHeads = false) : isProg v = false := by
  cases e : isProg v with
  | false => rfl
  | true =>
    rcases isProg_cases e with rfl | rfl | ⟨s, _, rfl⟩ | ⟨x, _, rfl⟩ | ⟨s, x, y, (rfl | rfl), _, _, rfl⟩ | ⟨x, _, rfl⟩ | ⟨u, x, y, _, _, _, rfl⟩ | ⟨u, x, _, _, rfl⟩ | ⟨u, x, _, _, rfl⟩ <;> simp [headIn, progHeads] at h
theorem test_no_prog {t : D} (h : isTest t = true) : isProg t = false := by
  refine isProg_head ?_
  rcases isTest_cases h with rfl | rfl | ⟨s, _, rfl⟩ | ⟨x, _, rfl⟩ | ⟨s, x, y, (rfl | rfl), _, _, rfl⟩ <;> simp [headIn, progHeads]
theorem prog_no_test {t : D} (h : isProg t = true) : isTest t = false := by
  cases e : isTest t with
  | false => rfl
  | true => rw [test_no_prog e] at h; cases h
/-- a tree of a test or program -/
def Tree (d : D) : Prop := isTest d = true ∨ isProg d = true
theorem set1 {α : Type} (a b : α) : ([a].set 1 b) = [a] := rfl
/-- a test with a part at a path -/
theorem sub_test : ∀ (ks : List Nat) {t v : D} {xs : List D}, isTest t = true → subAt t ks = some v → v = .tup xs → isTest v = true
  | [], t, v, xs, h, hs, hv => by
    have e : subAt t [] = some t := by cases t <;> rfl
    rw [e] at hs; cases hs; exact h
  | k :: ks, t, v, xs, h, hs, hv => by
    have key : ∀ (zs : List D), t = .tup zs → (∀ x, zs[k]? = some x → isTest x = true ∨ ∃ s, x = .str s) → isTest v = true := by
      intro zs ht hz
      subst ht
      have hs' : (zs[k]?).bind (fun x => subAt x ks) = some v := hs
      cases hk : zs[k]? with
      | none => rw [hk] at hs'; cases hs'
      | some x =>
        rw [hk] at hs'
        have hs2 : subAt x ks = some v := hs'
        rcases hz x hk with h1 | ⟨s, rfl⟩
        · exact sub_test ks h1 hs2 hv
        · cases ks with
          | nil => cases hs2; cases hv
          | cons _ _ => cases hs2
    rcases isTest_cases h with rfl | rfl | ⟨s, _, rfl⟩ | ⟨x, hx, rfl⟩ | ⟨s, x, y, _, hx, hy, rfl⟩
    · refine key _ rfl fun z hz => ?_
      match k, hz with
      | 0, hz => cases hz; exact .inr ⟨_, rfl⟩
    · refine key _ rfl fun z hz => ?_
      match k, hz with
      | 0, hz => cases hz; exact .inr ⟨_, rfl⟩
    · refine key _ rfl fun z hz => ?_
      match k, hz with
      | 0, hz => cases hz; exact .inr ⟨_, rfl⟩
      | 1, hz => cases hz; exact .inr ⟨_, rfl⟩
    · refine key _ rfl fun z hz => ?_
      match k, hz with
      | 0, hz => cases hz; exact .inr ⟨_, rfl⟩
      | 1, hz => cases hz; exact .inl hx
    · refine key _ rfl fun z hz => ?_
      match k, hz with
      | 0, hz => cases hz; exact .inr ⟨_, rfl⟩
      | 1, hz => cases hz; exact .inl hx
      | 2, hz => cases hz; exact .inl hy
theorem sub_prog : ∀ (ks : List Nat) {t v : D} {xs : List D}, isProg t = true → subAt t ks = some v → v = .tup xs → Tree v
  | [], t, v, xs, h, hs, hv => by
    have e : subAt t [] = some t := by cases t <;> rfl
    rw [e] at hs; cases hs; exact .inr h
  | k :: ks, t, v, xs, h, hs, hv => by
    have key : ∀ (zs : List D), t = .tup zs → (∀ x, zs[k]? = some x → isTest x = true ∨ isProg x = true ∨ ∃ s, x = .str s) → Tree v := by
      intro zs ht hz
      subst ht
      have hs' : (zs[k]?).bind (fun x => subAt x ks) = some v := hs
      cases hk : zs[k]? with
      | none => rw [hk] at hs'; cases hs'
      | some x =>
        rw [hk] at hs'
        have hs2 : subAt x ks = some v := hs'
        rcases hz x hk with h1 | h1 | ⟨s, rfl⟩
        · exact .inl (sub_test ks h1 hs2 hv)
        · exact sub_prog ks h1 hs2 hv
        · cases ks with
          | nil => cases hs2; cases hv
          | cons _ _ => cases hs2
    rcases isProg_cases h with rfl | rfl | ⟨s, _, rfl⟩ | ⟨x, hx, rfl⟩ | ⟨s, x, y, _, hx, hy, rfl⟩ | ⟨x, hx, rfl⟩ | ⟨u, x, y, hu, hx, hy, rfl⟩ | ⟨u, x, hu, hx, rfl⟩ | ⟨u, x, hu, hx, rfl⟩
    all_goals refine key _ rfl fun z hz => ?_
    · match k, hz with
      | 0, hz => cases hz; exact .inr (.inr ⟨_, rfl⟩)
    · match k, hz with
      | 0, hz => cases hz; exact .inr (.inr ⟨_, rfl⟩)
    · match k, hz with
      | 0, hz => cases hz; exact .inr (.inr ⟨_, rfl⟩)
      | 1, hz => cases hz; exact .inr (.inr ⟨_, rfl⟩)
    · match k, hz with
      | 0, hz => cases hz; exact .inr (.inr ⟨_, rfl⟩)
      | 1, hz => cases hz; exact .inl hx
    · match k, hz with
      | 0, hz => cases hz; exact .inr (.inr ⟨_, rfl⟩)
      | 1, hz => cases hz; exact .inr (.inl hx)
      | 2, hz => cases hz; exact .inr (.inl hy)
    · match k, hz with
      | 0, hz => cases hz; exact .inr (.inr ⟨_, rfl⟩)
      | 1, hz => cases hz; exact .inr (.inl hx)
    · match k, hz with
      | 0, hz => cases hz; exact .inr (.inr ⟨_, rfl⟩)
      | 1, hz => cases hz; exact .inl hu
      | 2, hz => cases hz; exact .inr (.inl hx)
      | 3, hz => cases hz; exact .inr (.inl hy)
    · match k, hz with
      | 0, hz => cases hz; exact .inr (.inr ⟨_, rfl⟩)
      | 1, hz => cases hz; exact .inl hu
      | 2, hz => cases hz; exact .inr (.inl hx)
    · match k, hz with
      | 0, hz => cases hz; exact .inr (.inr ⟨_, rfl⟩)
      | 1, hz => cases hz; exact .inr (.inl hx)
      | 2, hz => cases hz; exact .inl hu
theorem putAt_nil (t b : D) : putAt t [] b = b := by cases t <;> rfl
theorem sub_str {s : String} {ks : List Nat} {xs : List D} (h : subAt (.str s) ks = some (.tup xs)) : False := by
  cases ks with
  | nil => cases h
  | cons _ _ => cases h
theorem put_test : ∀ (ks : List Nat) {t b : D} {xs : List D}, isTest t = true → subAt t ks = some (.tup xs) → isTest b = false → isTest (putAt t ks b) = false
  | [], t, b, xs, h, hs, hb => by rw [putAt_nil]; exact hb
  | k :: ks, t, b, xs, h, hs, hb => by
    rcases isTest_cases h with rfl | rfl | ⟨s, _, rfl⟩ | ⟨x, hx, rfl⟩ | ⟨s, x, y, hs0, hx, hy, rfl⟩
    · match k, hs with
      | 0, hs => exact (sub_str hs).elim
    · match k, hs with
      | 0, hs => exact (sub_str hs).elim
    · match k, hs with
      | 0, hs => exact (sub_str hs).elim
      | 1, hs => exact (sub_str hs).elim
    · match k, hs with
      | 0, hs => exact (sub_str hs).elim
      | 1, hs =>
        show isTest (.tup [.str "not", putAt x ks b]) = false
        rw [it_not]; exact put_test ks hx hs hb
    · match k, hs with
      | 0, hs => exact (sub_str hs).elim
      | 1, hs =>
        show isTest (.tup [.str s, putAt x ks b, y]) = false
        rw [it_and hs0, put_test ks hx hs hb]; rfl
      | 2, hs =>
        show isTest (.tup [.str s, x, putAt y ks b]) = false
        rw [it_and hs0, put_test ks hy hs hb]; simp
theorem put_prog : ∀ (ks : List Nat) {t b : D} {xs : List D}, isProg t = true → subAt t ks = some (.tup xs) → Neither b → isProg (putAt t ks b) = false
  | [], t, b, xs, h, hs, hb => by rw [putAt_nil]; exact hb.2
  | k :: ks, t, b, xs, h, hs, hb => by
    rcases isProg_cases h with rfl | rfl | ⟨s, _, rfl⟩ | ⟨x, hx, rfl⟩ | ⟨s, x, y, hs0, hx, hy, rfl⟩ | ⟨x, hx, rfl⟩ | ⟨u, x, y, hu, hx, hy, rfl⟩ | ⟨u, x, hu, hx, rfl⟩ | ⟨u, x, hu, hx, rfl⟩
    · match k, hs with
      | 0, hs => exact (sub_str hs).elim
    · match k, hs with
      | 0, hs => exact (sub_str hs).elim
    · match k, hs with
      | 0, hs => exact (sub_str hs).elim
      | 1, hs => exact (sub_str hs).elim
    · match k, hs with
      | 0, hs => exact (sub_str hs).elim
      | 1, hs =>
        show isProg (.tup [.str "assume", putAt x ks b]) = false
        rw [ip_assume]; exact put_test ks hx hs hb.1
    · match k, hs with
      | 0, hs => exact (sub_str hs).elim
      | 1, hs =>
        show isProg (.tup [.str s, putAt x ks b, y]) = false
        rw [ip_then hs0, put_prog ks hx hs hb]; rfl
      | 2, hs =>
        show isProg (.tup [.str s, x, putAt y ks b]) = false
        rw [ip_then hs0, put_prog ks hy hs hb]; simp
    · match k, hs with
      | 0, hs => exact (sub_str hs).elim
      | 1, hs =>
        show isProg (.tup [.str "loop", putAt x ks b]) = false
        rw [ip_loop]; exact put_prog ks hx hs hb
    · match k, hs with
      | 0, hs => exact (sub_str hs).elim
      | 1, hs =>
        show isProg (.tup [.str "if", putAt u ks b, x, y]) = false
        rw [ip_if, put_test ks hu hs hb.1]; simp
      | 2, hs =>
        show isProg (.tup [.str "if", u, putAt x ks b, y]) = false
        rw [ip_if, put_prog ks hx hs hb]; simp
      | 3, hs =>
        show isProg (.tup [.str "if", u, x, putAt y ks b]) = false
        rw [ip_if, put_prog ks hy hs hb]; simp
    · match k, hs with
      | 0, hs => exact (sub_str hs).elim
      | 1, hs =>
        show isProg (.tup [.str "while", putAt u ks b, x]) = false
        rw [ip_while, put_test ks hu hs hb.1]; simp
      | 2, hs =>
        show isProg (.tup [.str "while", u, putAt x ks b]) = false
        rw [ip_while, put_prog ks hx hs hb]; simp
    · match k, hs with
      | 0, hs => exact (sub_str hs).elim
      | 1, hs =>
        show isProg (.tup [.str "repeat", putAt x ks b, u]) = false
        rw [ip_repeat, put_prog ks hx hs hb]; simp
      | 2, hs =>
        show isProg (.tup [.str "repeat", x, putAt u ks b]) = false
        rw [ip_repeat, put_test ks hu hs hb.1]; simp
theorem neither_of {d : D} (h : testParts d = none) (h2 : progParts d = none) : Neither d := ⟨by rw [isTest_eq, h], by rw [isProg_eq, h2]⟩
theorem bad_neither {xs : List D} (h : Tree (.tup xs)) : ∀ b ∈ badL xs, Neither b := by
  intro b hb
  simp only [badL, List.mem_cons, List.mem_nil_iff, or_false] at hb
  rcases hb with rfl | rfl | rfl | rfl | rfl | rfl | rfl | rfl | rfl | rfl | rfl | rfl | rfl
  · exact neither_of rfl rfl
  · exact neither_of rfl rfl
  · exact neither_of rfl rfl
  · exact neither_of rfl rfl
  · exact neither_of rfl rfl
  · rcases h with h | h
    · rcases isTest_cases h with e | e | ⟨s, _, e⟩ | ⟨x, _, e⟩ | ⟨s, x, y, (rfl | rfl), _, _, e⟩ <;> cases e <;> exact neither_of (by simp [testParts, isHead]) (by simp [progParts, isHead])
    · rcases isProg_cases h with e | e | ⟨s, _, e⟩ | ⟨x, _, e⟩ | ⟨s, x, y, (rfl | rfl), _, _, e⟩ | ⟨x, _, e⟩ | ⟨u, x, y, _, _, _, e⟩ | ⟨u, x, _, _, e⟩ | ⟨u, x, _, _, e⟩ <;> cases e <;> exact neither_of (by simp [testParts, isHead]) (by simp [progParts, isHead])
  · exact neither_of (by simp [testParts, isHead]) (by simp [progParts, isHead])
  · exact neither_of (by decide +kernel) (by decide +kernel)
  · exact neither_of (by decide +kernel) (by decide +kernel)
  · exact neither_of (by decide +kernel) (by decide +kernel)
  · exact neither_of (by decide +kernel) (by decide +kernel)
  · exact neither_of (by decide +kernel) (by decide +kernel)
  · exact neither_of (by decide +kernel) (by decide +kernel)
theorem sub_wt : ∀ (ks : List Nat) {t v : D}, subAt t ks = some v → ks.length + wt v ≤ wt t
  | [], t, v, h => by
    have e : subAt t [] = some t := by cases t <;> rfl
    rw [e] at h; cases h; simp
  | k :: ks, t, v, h => by
    cases t with
    | tup xs =>
      have h' : (xs[k]?).bind (fun x => subAt x ks) = some v := h
      cases hk : xs[k]? with
      | none => rw [hk] at h'; cases h'
      | some x =>
        rw [hk] at h'
        have h1 := sub_wt ks (show subAt x ks = some v from h')
        have h2 := wt_mem (List.mem_of_getElem? hk)
        rw [wt_tup, List.length_cons]; omega
    | _ => cases h
theorem depth_mem {x : D} : ∀ {xs : List D}, x ∈ xs → depth x ≤ depths xs
  | y :: ys, h => by
    rw [depths_cons]
    rcases List.mem_cons.mp h with e | e
    · rw [e]; omega
    · have := depth_mem e; omega
theorem sub_depth : ∀ (ks : List Nat) {t v : D}, subAt t ks = some v → ks.length + depth v ≤ depth t
  | [], t, v, h => by
    have e : subAt t [] = some t := by cases t <;> rfl
    rw [e] at h; cases h; simp
  | k :: ks, t, v, h => by
    cases t with
    | tup xs =>
      have h' : (xs[k]?).bind (fun x => subAt x ks) = some v := h
      cases hk : xs[k]? with
      | none => rw [hk] at h'; cases h'
      | some x =>
        rw [hk] at h'
        have h1 := sub_depth ks (show subAt x ks = some v from h')
        have h2 := depth_mem (List.mem_of_getElem? hk)
        rw [depth_tup, List.length_cons]; omega
    | _ => cases h
theorem sub_snoc : ∀ (ks : List Nat) (k : Nat) {t x : D} {xs : List D}, subAt t ks = some (.tup xs) → xs[k]? = some x → subAt t (ks ++ [k]) = some x
  | [], k, t, x, xs, h, hx => by
    have e : subAt t [] = some t := by cases t <;> rfl
    rw [e] at h; cases h
    show (xs[k]?).bind (fun x => subAt x []) = _
    rw [hx]
    cases x <;> rfl
  | j :: ks, k, t, x, xs, h, hx => by
    cases t with
    | tup ys =>
      have h' : (ys[j]?).bind (fun x => subAt x ks) = some (.tup xs) := h
      cases hk : ys[j]? with
      | none => rw [hk] at h'; cases h'
      | some y =>
        rw [hk] at h'
        show (ys[j]?).bind (fun x => subAt x (ks ++ [k])) = _
        rw [hk]
        exact sub_snoc ks k (show subAt y ks = some (.tup xs) from h') hx
    | _ => cases h
end PY

set_option Elab.async false
set_option linter.all false
set_option maxRecDepth 100000
set_option maxHeartbeats 4000000
/-! statements and wholes that are drawn. -/
namespace PY
/-- a statement over the names ts, ds with a head of hs -/
def GenS (ts ds hs : List String) (v : D) : Prop := okD v = true ∧ ∃ ps, stmtParts v hs = some ps ∧ (∀ x ∈ ps.1, GenP ts ds x) ∧ ∀ x ∈ ps.2, GenT ts x
def stmtHeads : List String := ["never", "keeps", "leaves", "triple", "same", "below"]
theorem stmtParts_of {v : D} {hs : List String} {ps : List D × List D} (h1 : headIn v hs = true) (h2 : rawParts v = some ps) (h3 : ps.1.all isProg = true) (h4 : ps.2.all isTest = true) : stmtParts v hs = some ps := by
  unfold stmtParts
  rw [if_pos h1, h2]
  simp only [h3, h4, Bool.and_self, if_true]
theorem genS_of {ts ds hs : List String} {h : String} {r : List D} {ps : List D × List D} (hh : h ∈ hs) (hl : h.toList.length ≤ 1000) (hr : rawParts (.tup (.str h :: r)) = some ps) (ho : ∀ x ∈ r, okD x = true) (hp : ∀ x ∈ ps.1, GenP ts ds x) (hq : ∀ x ∈ ps.2, GenT ts x) :
    GenS ts ds hs (.tup (.str h :: r)) := by
  refine ⟨ok_tup hl ho, ps, stmtParts_of (by simpa [headIn] using hh) hr ?_ ?_, hp, hq⟩
  · exact List.all_eq_true.mpr fun x hx => (hp x hx).1
  · exact List.all_eq_true.mpr fun x hx => (hq x hx).1
section
variable {x y t u : D}
theorem raw_never : rawParts (.tup [.str "never", x]) = some ([x], []) := by simp [rawParts, isHead, part]
theorem raw_keeps : rawParts (.tup [.str "keeps", x, t]) = some ([x], [t]) := by simp [rawParts, isHead, part]
theorem raw_leaves : rawParts (.tup [.str "leaves", x, t]) = some ([x], [t]) := by simp [rawParts, isHead, part]
theorem raw_triple : rawParts (.tup [.str "triple", t, x, u]) = some ([x], [t, u]) := by simp [rawParts, isHead, part]
theorem raw_same : rawParts (.tup [.str "same", x, y]) = some ([x, y], []) := by simp [rawParts, isHead, part]
theorem raw_below : rawParts (.tup [.str "below", x, y]) = some ([x, y], []) := by simp [rawParts, isHead, part]
end
def sp_law_l_statement : Spec
  | [.ref p, .lst tl, .lst dl, .lst hl, .int n], μ, Q, _ => ∃ (k : Nat) (ts ds hs : List String) (C : Int) (pen : Cell), n = (k : Int) ∧ 1 ≤ k ∧ k ≤ 50 ∧ tl = ts.map .str ∧ ts.all nameS = true ∧ ts.length ≤ 100 ∧ dl = ds.map .str ∧ ds.all nameS = true ∧ ds.length ≤ 100 ∧
      hl = hs.map .str ∧ hs ≠ [] ∧ hs.length ≤ 100 ∧ (∀ h ∈ hs, h ∈ stmtHeads) ∧
      μ[p]? = some pen ∧ PenC C pen ∧ C + 30000 < Many ∧ ∀ v pen', GenS ts ds hs v → wt v ≤ 200 * k + 100 → PenC (C + 30000) pen' → Q v (μ.set p pen')
  | _, _, _, _ => False
def hypHeads : List String := ["never", "keeps", "leaves", "triple"]
def sayHeads : List String := ["same", "below", "triple"]
/-- a whole that is drawn -/
def GenW (ts ds : List String) (c : List D) (s : D) : Prop := ts ∈ testNames ∧ ds ∈ deedNames ∧ c.length ≤ 3 ∧ (∀ h ∈ c, GenS ts ds hypHeads h) ∧ GenS ts ds sayHeads s ∧ wts c ≤ 1500 ∧ wt s ≤ 900
def wholeD (ts ds : List String) (c : List D) (s : D) : D := .tup [.str "whole", .tup (ts.map .str), .tup (ds.map .str), .tup c, s]
def sp_law_l_whole : Spec
  | [.ref p, .lst hl, .int 4, .int 3], μ, Q, _ => ∃ (C : Int) (pen : Cell), hl = sayHeads.map .str ∧ μ[p]? = some pen ∧ PenC C pen ∧ C + 200000 < Many ∧ ∀ ts ds c s pen', GenW ts ds c s → PenC (C + 200000) pen' → Q (wholeD ts ds c s) (μ.set p pen')
  | _, _, _, _ => False
theorem names_all {ts : List String} (h : ts ∈ testNames) : ts.all nameS = true ∧ ts.length ≤ 2 := by
  have : ∀ ts ∈ testNames, ts.all nameS = true ∧ ts.length ≤ 2 := by decide +kernel
  exact this ts h
theorem deeds_all {ts : List String} (h : ts ∈ deedNames) : ts.all nameS = true ∧ ts.length ≤ 2 := by
  have : ∀ ts ∈ deedNames, ts.all nameS = true ∧ ts.length ≤ 2 := by decide +kernel
  exact this ts h
/-- a comprehension whose turns change the store -/
theorem comp_ind {turn : D → Store → (Option D → Store → Prop) → Prop} {guard : Store → Prop} {Q : List D → Store → Prop} (I : List D → List D → Store → Prop)
    (step : ∀ d ds acc μ (N : List D → Store → Prop), (∀ acc' μ', I ds acc' μ' → N acc' μ') → I (d :: ds) acc μ → guard μ ∧ turn d μ fun o μ' => match o with
      | some x => acc.length < Sz ∧ N (acc ++ [x]) μ'
      | none => N acc μ') (h0 : ∀ acc μ, I [] acc μ → guard μ ∧ Q acc μ) :
    ∀ ds acc μ, I ds acc μ → compTurns turn guard ds μ acc Q
  | [], acc, μ, h => h0 acc μ h
  | d :: ds, acc, μ, h => step d ds acc μ (fun acc' μ' => compTurns turn guard ds μ' acc' Q) (fun acc' μ' i => comp_ind I step h0 ds acc' μ' i) h
/-! ### wholes -/
section
variable {ts ds hs : List String} {c : List D} {s v : D}
theorem GenS.some (h : GenS ts ds hs v) : (stmtParts v hs).isSome = true := by
  obtain ⟨_, ps, e, _⟩ := h
  rw [e]; rfl
theorem GenS.fsts (h : GenS ts ds hs v) : ∀ x ∈ PY.fsts (stmtParts v hs), GenP ts ds x := by
  obtain ⟨_, ps, e, h1, h2⟩ := h
  rw [e]; exact h1
theorem GenS.snds (h : GenS ts ds hs v) : ∀ x ∈ PY.snds (stmtParts v hs), GenT ts x := by
  obtain ⟨_, ps, e, h1, h2⟩ := h
  rw [e]; exact h2
theorem wp_gen (hs : GenS ts ds sayHeads s) (hc : ∀ h ∈ c, GenS ts ds hypHeads h) : (∀ x ∈ wp1 s c, GenP ts ds x) ∧ ∀ x ∈ wp2 s c, GenT ts x := by
  unfold wp1 wp2
  refine ⟨fun x hx => ?_, fun x hx => ?_⟩
  · rcases List.mem_append.mp hx with h | h
    · exact hs.fsts x h
    · obtain ⟨l, hl, hx⟩ := List.mem_flatten.mp h
      obtain ⟨y, hy, rfl⟩ := List.mem_map.mp hl
      exact (hc y hy).fsts x hx
  · rcases List.mem_append.mp hx with h | h
    · exact hs.snds x h
    · obtain ⟨l, hl, hx⟩ := List.mem_flatten.mp h
      obtain ⟨y, hy, rfl⟩ := List.mem_map.mp hl
      exact (hc y hy).snds x hx
theorem names_both (h1 : ts ∈ testNames) (h2 : ds ∈ deedNames) : namesB (ts.map .str ++ ds.map .str) = true := by
  have : ∀ ts ∈ testNames, ∀ ds ∈ deedNames, namesB (ts.map D.str ++ ds.map .str) = true := by decide +kernel
  exact this ts h1 ds h2
theorem whole_ok (h : GenW ts ds c s) : okD (wholeD ts ds c s) = true := by
  obtain ⟨h1, h2, _, hc, hs, _⟩ := h
  refine ok_tup (by decide) ?_
  have key : ∀ l : List String, l.all nameS = true → okD (.tup (l.map .str)) = true := fun l hl => by
    unfold okD
    rw [plain_tup, shorts_tup, Bool.and_eq_true]
    have ho : ∀ x ∈ l.map D.str, okD x = true := fun x hx => by
      obtain ⟨s, hs, rfl⟩ := List.mem_map.mp hx
      have := nameS_short (List.all_eq_true.mp hl s hs)
      simp [okD, this]
    exact ⟨oks_plains ho, oks_shorts ho⟩
  intro x hx
  simp only [List.mem_cons, List.mem_nil_iff, or_false] at hx
  rcases hx with rfl | rfl | rfl | rfl
  · exact key _ (names_all h1).1
  · exact key _ (deeds_all h2).1
  · unfold okD
    rw [plain_tup, shorts_tup, Bool.and_eq_true]
    exact ⟨oks_plains fun x hx => (hc x hx).1, oks_shorts fun x hx => (hc x hx).1⟩
  · exact hs.1
theorem whole_is (h : GenW ts ds c s) : isWhole (wholeD ts ds c s) = true := by
  obtain ⟨h1, h2, _, hc, hs, _⟩ := h
  obtain ⟨g1, g2⟩ := wp_gen hs hc
  have e1 : (sayP s).isSome = true := hs.some
  have e2 : (c.all fun h => (hypP h).isSome) = true := List.all_eq_true.mpr fun x hx => (hc x hx).some
  show ((("whole" == "whole") && namesB (ts.map D.str ++ ds.map .str) && (sayP s).isSome && (c.all fun h => (hypP h).isSome) &&
      ((wp2 s c).all (subT (nodeIn "name" (ts.map .str))) && (wp1 s c).all (subP fun p => (ptests p).all (subT (nodeIn "name" (ts.map .str)))))) && (wp1 s c).all (subP (nodeIn "deed" (ds.map .str)))) = true
  have e3 : (wp2 s c).all (subT (nodeIn "name" (ts.map .str))) = true := List.all_eq_true.mpr fun x hx => (g2 x hx).2.2
  have e4 : (wp1 s c).all (subP fun p => (ptests p).all (subT (nodeIn "name" (ts.map .str)))) = true := List.all_eq_true.mpr fun x hx => (g1 x hx).2.2.1
  have e5 : (wp1 s c).all (subP (nodeIn "deed" (ds.map .str))) = true := List.all_eq_true.mpr fun x hx => (g1 x hx).2.2.2
  rw [names_both h1 h2, e1, e2, e3, e4, e5]; rfl
/-! what makes a whole none -/
theorem whole_no {h : String} {a b : List D} (q : (h == "whole" && namesB (a ++ b) && (sayP s).isSome && (c.all fun h => (hypP h).isSome)) = false) : isWhole (.tup [.str h, .tup a, .tup b, .tup c, s]) = false := by
  show ((h == "whole" && namesB (a ++ b) && (sayP s).isSome && (c.all fun h => (hypP h).isSome)) && _ && _) = false
  rw [q]; rfl
theorem whole_no1 {h : String} {a b : List D} (q : (wp1 s c).all (subP (nodeIn "deed" b)) = false) : isWhole (.tup [.str h, .tup a, .tup b, .tup c, s]) = false := by
  show (_ && (wp1 s c).all (subP (nodeIn "deed" b))) = false
  rw [q, Bool.and_false]
theorem whole_no2 {h : String} {a b : List D} (q : (wp1 s c).all (subP fun p => (ptests p).all (subT (nodeIn "name" a))) = false) : isWhole (.tup [.str h, .tup a, .tup b, .tup c, s]) = false := by
  show (_ && (_ && (wp1 s c).all (subP fun p => (ptests p).all (subT (nodeIn "name" a)))) && _) = false
  rw [q]; simp
theorem say_head {r : List D} {h : String} (hh : h ∉ sayHeads) : sayP (.tup (.str h :: r)) = none := by
  unfold sayP stmtParts
  rw [if_neg]
  intro q
  exact hh (by simpa [headIn, sayHeads] using q)
theorem hyp_head {r : List D} {h : String} (hh : h ∉ hypHeads) : hypP (.tup (.str h :: r)) = none := by
  unfold hypP stmtParts
  rw [if_neg]
  intro q
  exact hh (by simpa [headIn, hypHeads] using q)
theorem names_twice (h1 : ts ∈ testNames) (h2 : ds ∈ deedNames) : namesB ((ts.map .str ++ ds.map .str) ++ ds.map .str) = false := by
  have : ∀ ts ∈ testNames, ∀ ds ∈ deedNames, namesB ((ts.map D.str ++ ds.map .str) ++ ds.map .str) = false := by decide +kernel
  exact this ts h1 ds h2
theorem names_x (h2 : ds ∈ deedNames) : namesB ([.str "x", .str "x"] ++ ds.map .str) = false := by
  have : ∀ ds ∈ deedNames, namesB ([.str "x", .str "x"] ++ ds.map D.str) = false := by decide +kernel
  exact this ds h2
def deedZ : D := .tup [.str "same", .tup [.str "deed", .str "zz"], .tup [.str "skip"]]
def nameZ : D := .tup [.str "never", .tup [.str "assume", .tup [.str "name", .str "zz"]]]
theorem deedZ_parts : sayP deedZ = some ([.tup [.str "deed", .str "zz"], .tup [.str "skip"]], []) := by
  unfold sayP
  refine stmtParts_of (by decide) raw_same (by decide +kernel) rfl
theorem nameZ_parts : hypP nameZ = some ([.tup [.str "assume", .tup [.str "name", .str "zz"]]], []) := by
  unfold hypP
  refine stmtParts_of (by decide) raw_never (by decide +kernel) rfl
theorem deedZ_no (h2 : ds ∈ deedNames) : subP (nodeIn "deed" (ds.map .str)) (.tup [.str "deed", .str "zz"]) = false := by
  have : ∀ ds ∈ deedNames, nodeIn "deed" (ds.map D.str) (.tup [.str "deed", .str "zz"]) = false := by decide +kernel
  rw [subP_eq, this ds h2]; rfl
theorem nameZ_no (h1 : ts ∈ testNames) : subP (fun p => (ptests p).all (subT (nodeIn "name" (ts.map .str)))) (.tup [.str "assume", .tup [.str "name", .str "zz"]]) = false := by
  have : ∀ ts ∈ testNames, nodeIn "name" (ts.map D.str) (.tup [.str "name", .str "zz"]) = false := by decide +kernel
  rw [subP_eq]
  have e : ptests (.tup [.str "assume", .tup [.str "name", .str "zz"]]) = [.tup [.str "name", .str "zz"]] := by unfold ptests; rw [pp_assume]; rfl
  rw [e, List.all_cons, subT_eq, this ts h1]; rfl
/-- the wholes that are none -/
def badW (ts ds : List String) (c : List D) (s test prog : D) : List D :=
  [.tup [.str "whole", .lst (ts.map .str), .tup (ds.map .str), .tup c, s],
   .tup [.str "whole", .tup (ts.map .str ++ ds.map .str), .tup (ds.map .str), .tup c, s],
   .tup [.str "whole", .tup (ts.map .str), .tup (ds.map .str), .lst c, s],
   .tup [.str "whole", .tup (ts.map .str), .tup (ds.map .str), .tup c, .tup [.str "keeps", prog, test]],
   .tup [.str "whole", .tup (ts.map .str), .tup (ds.map .str), .tup c, s, .tup []],
   .tup [.str "Whole", .tup (ts.map .str), .tup (ds.map .str), .tup c, s],
   .tup [.str "whole", .tup (ts.map .str), .tup (ds.map .str), .tup (c ++ [sameSkip]), s],
   .tup [.str "whole", .tup (ts.map .str), .tup (ds.map .str), .tup c, deedZ],
   .tup [.str "whole", .tup (ts.map .str), .tup (ds.map .str), .tup [nameZ], s],
   .tup [.str "whole", .tup [.str "x", .str "x"], .tup (ds.map .str), .tup [], sameSkip],
   .tup [.str "whole", .tup [.str "and"], .tup [], .tup [], sameSkip],
   .tup [.str "whole", .tup (ts.map .str), .tup (ds.map .str), .tup c, .tup [.str "same", .tup [.str "skip"]]],
   .tup [.str "whole", .tup (ts.map .str), .tup (ds.map .str), .tup c, .non]]
theorem badW_no {test prog : D} (h : GenW ts ds c s) : ∀ b ∈ badW ts ds c s test prog, isWhole b = false := by
  obtain ⟨h1, h2, _, hc, hs, _⟩ := h
  intro b hb
  simp only [badW, List.mem_cons, List.mem_nil_iff, or_false] at hb
  rcases hb with rfl | rfl | rfl | rfl | rfl | rfl | rfl | rfl | rfl | rfl | rfl | rfl | rfl
  · rfl
  · exact whole_no (by rw [names_twice h1 h2]; simp)
  · rfl
  · exact whole_no (by rw [say_head (by decide)]; simp)
  · rfl
  · exact whole_no (by have : ("Whole" == "whole") = false := by decide
                       rw [this]; simp)
  · refine whole_no ?_
    have : ((c ++ [sameSkip]).all fun h => (hypP h).isSome) = false := by
      rw [List.all_append]
      have : hypP sameSkip = none := hyp_head (by decide)
      simp [this]
    rw [this, Bool.and_false]
  · refine whole_no1 ?_
    unfold wp1
    rw [List.all_append, deedZ_parts]
    simp [fsts, deedZ_no h2]
  · refine whole_no2 ?_
    unfold wp1
    rw [List.all_append]
    simp [nameZ_parts, fsts, nameZ_no h1]
  · exact whole_no (by rw [names_x h2]; simp)
  · exact whole_no (by have : namesB ([.str "and"] ++ []) = false := by decide +kernel
                       rw [this]; simp)
  · refine whole_no ?_
    have : sayP (.tup [.str "same", .tup [.str "skip"]]) = none := by decide +kernel
    rw [this]; simp
  · refine whole_no ?_
    have : sayP .non = none := by decide +kernel
    rw [this]; simp
theorem none_no : ∀ b ∈ noneL, isWhole b = false := by decide +kernel
end
/-! ### paths -/
def PathIt (t d : D) : Prop := ∃ (ks : List Nat) (xs : List D), d = .tup [.tup (pathD ks), .tup xs] ∧ subAt t ks = some (.tup xs)
def sp_law_paths : Spec
  | [t], μ, Q, _ => ∃ xs, t = .tup xs ∧ plain t = true ∧ wt t ≤ 100000 ∧ ∀ its : List D, its ≠ [] → its.length ≤ wt t → (∀ d ∈ its, PathIt t d) → Q (.lst its) μ
  | _, _, _, _ => False
end PY

set_option Elab.async false
set_option linter.all false
set_option maxRecDepth 100000
set_option maxHeartbeats 4000000
/-! paths within a tree. -/
namespace PY
def itw : D → Nat
  | .tup [_, x] => wt x
  | _ => 1
def itws : List D → Nat
  | [] => 0
  | d :: ds => itw d + itws ds
theorem itws_append (xs ys : List D) : itws (xs ++ ys) = itws xs + itws ys := by
  induction xs with
  | nil => simp [itws]
  | cons x xs ih => simp [itws, ih]; omega
theorem itw_pos (d : D) : 1 ≤ itw d := by
  unfold itw
  split
  · exact wt_pos _
  · exact Nat.le_refl _
theorem itws_len : ∀ ds : List D, ds.length ≤ itws ds
  | [] => Nat.le_refl _
  | d :: ds => by have := itw_pos d; have := itws_len ds; simp [itws]; omega
/-- what the comprehension makes of an item -/
def pathF (P : List D) : D → Option D
  | .tup [.int i, .tup ys] => some (.tup [.tup (P ++ [.int i]), .tup ys])
  | _ => none
theorem pathF_wt (P : List D) : ∀ (xs : List D) (j : Nat), itws ((enumFrom j xs).filterMap (pathF P)) ≤ wts xs
  | [], j => Nat.le_refl _
  | x :: xs, j => by
    have ih := pathF_wt P xs (j + 1)
    show itws ((D.tup [.int j, x] :: enumFrom (j + 1) xs).filterMap (pathF P)) ≤ _
    rw [List.filterMap_cons]
    have hp := wt_pos x
    cases x with
    | tup ys =>
      show itw _ + itws _ ≤ _
      rw [wts_cons]
      show wt (.tup ys) + _ ≤ _
      omega
    | _ => rw [wts_cons]; show itws ((enumFrom (j + 1) xs).filterMap (pathF P)) ≤ _; omega
theorem enum_mem : ∀ (xs : List D) (j : Nat) {d : D}, d ∈ enumFrom j xs → ∃ (i : Nat) (x : D), d = .tup [.int ((j + i : Nat) : Int), x] ∧ xs[i]? = some x
  | x :: xs, j, d, h => by
    rcases List.mem_cons.mp h with e | e
    · exact ⟨0, x, e, rfl⟩
    · obtain ⟨i, y, e2, h2⟩ := enum_mem xs (j + 1) e
      exact ⟨i + 1, y, by rw [e2]; congr 3; omega, h2⟩
theorem enum_len : ∀ (xs : List D) (j : Nat), (enumFrom j xs).length = xs.length
  | [], _ => rfl
  | x :: xs, j => by show (enumFrom (j + 1) xs).length + 1 = _; rw [enum_len xs (j + 1)]; rfl
theorem sub_plain : ∀ (ks : List Nat) {t v : D}, plain t = true → subAt t ks = some v → plain v = true
  | [], t, v, ht, h => by
    have e : subAt t [] = some t := by cases t <;> rfl
    rw [e] at h; cases h; exact ht
  | k :: ks, t, v, ht, h => by
    cases t with
    | tup xs =>
      have h' : (xs[k]?).bind (fun x => subAt x ks) = some v := h
      cases hk : xs[k]? with
      | none => rw [hk] at h'; cases h'
      | some x =>
        rw [hk] at h'
        exact sub_plain ks (plains_iff.mp (by simpa using ht) x (List.mem_of_getElem? hk)) h'
    | _ => cases h
theorem pathD_plain (ks : List Nat) : plains (pathD ks) = true := plains_iff.mpr fun x hx => by obtain ⟨n, _, rfl⟩ := List.mem_map.mp hx; rfl
theorem PathIt.plain {t d : D} (ht : PY.plain t = true) (h : PathIt t d) : PY.plain d = true := by
  obtain ⟨ks, xs, rfl, hs⟩ := h
  have := sub_plain ks ht hs
  rw [plain_tup, plains_cons, plain_tup, pathD_plain, plains_cons, this]; rfl
theorem pathF_it {t : D} {ks : List Nat} {xs : List D} (hs : subAt t ks = some (.tup xs)) : ∀ d ∈ (enumFrom 0 xs).filterMap (pathF (pathD ks)), PathIt t d := by
  intro d hd
  obtain ⟨a, ha, e⟩ := List.mem_filterMap.mp hd
  obtain ⟨i, x, rfl, hx⟩ := enum_mem xs 0 ha
  cases x with
  | tup ys =>
    have e' : D.tup [.tup (pathD ks ++ [.int ((0 + i : Nat) : Int)]), .tup ys] = d := by simpa [pathF] using e
    refine ⟨ks ++ [i], ys, ?_, sub_snoc ks i hs hx⟩
    rw [← e', Nat.zero_add]
    simp [pathD]
  | _ => simp [pathF] at e
end PY

set_option Elab.async false
set_option linter.all false
set_option maxRecDepth 100000
set_option maxHeartbeats 4000000
/-! sizes and goodness of what the law makes. -/
namespace PY
theorem okD_tup {xs : List D} : okD (.tup xs) = true ↔ ∀ x ∈ xs, okD x = true := by
  constructor
  · intro h; exact okD_mem (.inl rfl) h
  · intro h
    unfold okD
    rw [plain_tup, shorts_tup, oks_plains h, oks_shorts h]; rfl
theorem okD_lst {xs : List D} : okD (.lst xs) = true ↔ ∀ x ∈ xs, okD x = true := by
  constructor
  · intro h; exact okD_mem (.inr rfl) h
  · intro h
    unfold okD
    rw [plain_lst, shorts_lst, oks_plains h, oks_shorts h]; rfl
theorem sub_ok : ∀ (ks : List Nat) {t v : D}, okD t = true → subAt t ks = some v → okD v = true
  | [], t, v, ht, h => by
    have e : subAt t [] = some t := by cases t <;> rfl
    rw [e] at h; cases h; exact ht
  | k :: ks, t, v, ht, h => by
    cases t with
    | tup xs =>
      have h' : (xs[k]?).bind (fun x => subAt x ks) = some v := h
      cases hk : xs[k]? with
      | none => rw [hk] at h'; cases h'
      | some x =>
        rw [hk] at h'
        exact sub_ok ks (okD_tup.mp ht x (List.mem_of_getElem? hk)) h'
    | _ => cases h
theorem putAt_ok : ∀ (ks : List Nat) (t new : D), okD t = true → okD new = true → okD (putAt t ks new) = true
  | [], t, new, _, h => by rw [putAt_nil]; exact h
  | k :: ks, t, new, ht, hn => by
    cases t with
    | tup xs =>
      show okD (.tup (xs.set k _)) = true
      refine okD_tup.mpr fun x hx => ?_
      rcases List.mem_or_eq_of_mem_set hx with h | h
      · exact okD_tup.mp ht x h
      · rw [h]
        refine putAt_ok ks _ new ?_ hn
        by_cases hk : k < xs.length
        · rw [List.getD_eq_getElem?_getD, List.getElem?_eq_getElem hk]
          exact okD_tup.mp ht _ (List.getElem_mem hk)
        · rw [List.getD_eq_getElem?_getD, List.getElem?_eq_none (by omega)]; rfl
    | _ => exact ht
theorem wts_set (y : D) : ∀ (xs : List D) (k : Nat) {x : D}, xs[k]? = some x → wts (xs.set k y) + wt x = wts xs + wt y
  | x :: xs, 0, z, h => by cases h; simp; omega
  | x :: xs, k + 1, z, h => by
    have := wts_set y xs k (show xs[k]? = some z from h)
    simp; omega
theorem putAt_wt : ∀ (ks : List Nat) (t new : D) {v : D}, subAt t ks = some v → wt (putAt t ks new) ≤ wt t + wt new
  | [], t, new, _, _ => by rw [putAt_nil]; omega
  | k :: ks, t, new, v, h => by
    cases t with
    | tup xs =>
      have h' : (xs[k]?).bind (fun x => subAt x ks) = some v := h
      cases hk : xs[k]? with
      | none => rw [hk] at h'; cases h'
      | some x =>
        rw [hk] at h'
        have e : putAt (.tup xs) (k :: ks) new = .tup (xs.set k (putAt x ks new)) := by
          show D.tup (xs.set k (putAt (xs.getD k .non) ks new)) = _
          rw [List.getD_eq_getElem?_getD, hk]; rfl
        have ih := putAt_wt ks x new (show subAt x ks = some v from h')
        have := wts_set (putAt x ks new) xs k hk
        rw [e, wt_tup, wt_tup]; omega
    | _ => cases h
theorem badL_ok {xs : List D} (h : okD (.tup xs) = true) : ∀ b ∈ badL xs, okD b = true ∧ wt b ≤ wt (.tup xs) + 10 := by
  have h' := okD_tup.mp h
  have hl : okD (.lst xs) = true := okD_lst.mpr h'
  have ha : okD (.tup (xs ++ [.tup [.str "skip"]])) = true := okD_tup.mpr fun x hx => by
    rcases List.mem_append.mp hx with h1 | h1
    · exact h' x h1
    · rw [List.mem_singleton.mp h1]; decide +kernel
  have hd : okD (.tup [.str "do", .tup xs]) = true := ok_tup (by decide) (by simp [h])
  intro b hb
  simp only [badL, List.mem_cons, List.mem_nil_iff, or_false] at hb
  rcases hb with rfl | rfl | rfl | rfl | rfl | rfl | rfl | rfl | rfl | rfl | rfl | rfl | rfl
  · exact ⟨by decide +kernel, by simp [wt]⟩
  · exact ⟨by decide +kernel, by simp [wt]⟩
  · exact ⟨by decide +kernel, by simp [wt]⟩
  · exact ⟨by decide +kernel, by simp [wt]⟩
  · exact ⟨hl, by simp [wt]⟩
  · exact ⟨ha, by simp [wt, wts_append]; try omega⟩
  · exact ⟨hd, by simp [wt]; try omega⟩
  · exact ⟨by decide +kernel, by simp [wt]⟩
  · exact ⟨by decide +kernel, by simp [wt]⟩
  · exact ⟨by decide +kernel, by simp [wt]⟩
  · exact ⟨by decide +kernel, by simp [wt]⟩
  · exact ⟨by decide +kernel, by simp [wt]⟩
  · exact ⟨by decide +kernel, by simp [wt]⟩
theorem okStrs {l : List String} (hl : l.all nameS = true) : ∀ x ∈ l.map D.str, okD x = true := fun x hx => by
  obtain ⟨s, hs, rfl⟩ := List.mem_map.mp hx
  have := nameS_short (List.all_eq_true.mp hl s hs)
  simp [okD, this]
theorem wts_strs : ∀ l : List String, wts (l.map D.str) = l.length
  | [] => rfl
  | s :: l => by simp [wts_strs l, wt]; omega
theorem badW_ok {ts ds : List String} {c : List D} {s test prog : D} (h : GenW ts ds c s) (ht : okD test = true) (hp : okD prog = true) (wt1 : wt test ≤ 2000) (wt2 : wt prog ≤ 2000) :
    ∀ b ∈ badW ts ds c s test prog, okD b = true ∧ wt b ≤ 400000 ∧ wt (part b 1) + wt (part b 2) ≤ 2900 := by
  obtain ⟨h1, h2, hcl, hc, hs, hw1, hw2⟩ := h
  have okT := okStrs (names_all h1).1
  have okS := okStrs (deeds_all h2).1
  have lT := (names_all h1).2
  have lS := (deeds_all h2).2
  have wT := wts_strs ts
  have wS := wts_strs ds
  have o1 : okD (.tup (ts.map .str)) = true := okD_tup.mpr okT
  have o1l : okD (.lst (ts.map .str)) = true := okD_lst.mpr okT
  have o2 : okD (.tup (ds.map .str)) = true := okD_tup.mpr okS
  have o3 : okD (.tup c) = true := okD_tup.mpr fun x hx => (hc x hx).1
  have o3l : okD (.lst c) = true := okD_lst.mpr fun x hx => (hc x hx).1
  have o4 := hs.1
  have o5 : okD (.tup (ts.map .str ++ ds.map .str)) = true := okD_tup.mpr fun x hx => by
    rcases List.mem_append.mp hx with q | q
    · exact okT x q
    · exact okS x q
  have o6 : okD (.tup [.str "keeps", prog, test]) = true := ok_tup (by decide) (by simp [ht, hp])
  have o7 : okD (.tup (c ++ [sameSkip])) = true := okD_tup.mpr fun x hx => by
    rcases List.mem_append.mp hx with q | q
    · exact (hc x q).1
    · rw [List.mem_singleton.mp q]; decide +kernel
  have o8 : okD deedZ = true := by decide +kernel
  have o9 : okD (.tup [nameZ]) = true := by decide +kernel
  have o10 : okD sameSkip = true := by decide +kernel
  have w8 : wt deedZ = 7 := by decide +kernel
  have w9 : wt nameZ = 7 := by decide +kernel
  have w10 : wt sameSkip = 6 := by decide +kernel
  intro b hb
  simp only [badW, List.mem_cons, List.mem_nil_iff, or_false] at hb
  rcases hb with rfl | rfl | rfl | rfl | rfl | rfl | rfl | rfl | rfl | rfl | rfl | rfl | rfl
  · exact ⟨ok_tup (by decide) (by simp [o1l, o2, o3, o4]), by simp [wt, wT, wS]; omega, by simp [part, wt, wT, wS]; omega⟩
  · exact ⟨ok_tup (by decide) (by simp [o5, o2, o3, o4]), by simp [wt, wts_append, wT, wS]; omega, by simp [part, wt, wts_append, wT, wS]; omega⟩
  · exact ⟨ok_tup (by decide) (by simp [o1, o2, o3l, o4]), by simp [wt, wT, wS]; omega, by simp [part, wt, wT, wS]; omega⟩
  · exact ⟨ok_tup (by decide) (by simp [o1, o2, o3, o6]), by simp [wt, wT, wS]; omega, by simp [part, wt, wT, wS]; omega⟩
  · exact ⟨ok_tup (by decide) (by simp [o1, o2, o3, o4]; decide +kernel), by simp [wt, wT, wS]; omega, by simp [part, wt, wT, wS]; omega⟩
  · exact ⟨ok_tup (by decide) (by simp [o1, o2, o3, o4]), by simp [wt, wT, wS]; omega, by simp [part, wt, wT, wS]; omega⟩
  · exact ⟨ok_tup (by decide) (by simp [o1, o2, o7, o4]), by simp [wt, wts_append, wT, wS, w10]; omega, by simp [part, wt, wT, wS]; omega⟩
  · exact ⟨ok_tup (by decide) (by simp [o1, o2, o3, o8]), by simp [wt, wT, wS, w8]; omega, by simp [part, wt, wT, wS]; omega⟩
  · exact ⟨ok_tup (by decide) (by simp [o1, o2, o9, o4]), by simp [wt, wT, wS, w9]; omega, by simp [part, wt, wT, wS]; omega⟩
  · exact ⟨ok_tup (by decide) (by simp [o2, o10]; decide +kernel), by simp [wt, wT, wS, w10]; omega, by simp [part, wt, wT, wS]; omega⟩
  · exact ⟨by decide +kernel, by decide +kernel, by decide +kernel⟩
  · exact ⟨ok_tup (by decide) (by simp [o1, o2, o3]; decide +kernel), by simp [wt, wT, wS]; omega, by simp [part, wt, wT, wS]; omega⟩
  · exact ⟨ok_tup (by decide) (by simp [o1, o2, o3]; decide +kernel), by simp [wt, wT, wS]; omega, by simp [part, wt, wT, wS]; omega⟩
theorem whole_wt {ts ds : List String} {c : List D} {s : D} (h : GenW ts ds c s) : wt (wholeD ts ds c s) ≤ 3000 ∧ wt (part (wholeD ts ds c s) 1) + wt (part (wholeD ts ds c s) 2) ≤ 2900 := by
  obtain ⟨h1, h2, hcl, hc, hs, hw1, hw2⟩ := h
  have lT := (names_all h1).2
  have lS := (deeds_all h2).2
  have wT := wts_strs ts
  have wS := wts_strs ds
  constructor
  · simp [wholeD, wt, wT, wS]; omega
  · simp [wholeD, part, wt, wT, wS]; omega
theorem test_in {t : D} (h : isTest t = true) : ([D.tup [.str "skip"], .tup [.str "stop"]].any fun y => eqv y t) = false := by
  rcases isTest_cases h with rfl | rfl | ⟨s, _, rfl⟩ | ⟨x, _, rfl⟩ | ⟨s, x, y, (rfl | rfl), _, _, rfl⟩ <;> simp [eqv, eqvs]
theorem isWhole_len {xs : List D} (h : xs.length ≠ 5) : isWhole (.tup xs) = false := by
  unfold isWhole
  split
  · rename_i e
    cases e
    simp at h
  · rfl
theorem prog_part {p : D} (h : isProg p = true) : isWhole p = false ∧ wt (part p 1) + wt (part p 2) ≤ wt p := by
  rcases isProg_cases h with rfl | rfl | ⟨s, _, rfl⟩ | ⟨x, _, rfl⟩ | ⟨s, x, y, _, _, _, rfl⟩ | ⟨x, _, rfl⟩ | ⟨u, x, y, _, _, _, rfl⟩ | ⟨u, x, _, _, rfl⟩ | ⟨u, x, _, _, rfl⟩ <;> exact ⟨isWhole_len (by simp), by simp [part, wt]; try omega⟩
theorem testD_head {ts ds : List String} {c : List D} {s : D} : isTest (wholeD ts ds c s) = false ∧ isProg (wholeD ts ds c s) = false := by
  constructor
  · exact isTest_head (by simp [wholeD, headIn, testHeads])
  · exact isProg_head (by simp [wholeD, headIn, progHeads])
end PY

set_option Elab.async false
set_option linter.all false
set_option maxRecDepth 100000
set_option maxHeartbeats 4000000
/-! the head: what the module's top holds, read by a hook; the chain of defs. -/
namespace PY
open PySem PySem.Spec PyProof.Rows L2
/-! ### a hook with one more Bool -/
def obsP (fa : List He.Fa) (fn : List He.DefD) (ex : PySem.W.Frag → Bool) (K : PySem.W.Frag) : He.AlD × Bool := (He.obsD fa fn K, ex K)
def SaysP (fa : List He.Fa) (fn : List He.DefD) (ex : PySem.W.Frag → Bool) (K : PySem.W.Frag) : Prop := obsP fa fn ex K = (He.valD fn, true)
def obsPG (n : Nat) (fa : List He.Fa) (fn : List He.DefD) (ex : PySem.W.Frag → Bool) (g : Addr → Option Obj) : He.AlD × Bool := obsP fa fn ex (He.frG g (He.asD g n))
def hookP (n : Nat) (fa : List He.Fa) (fn : List He.DefD) (ex : PySem.W.Frag → Bool) : PySem.W.Hook where
  α := He.AlD × Bool
  obs := fun s => obsPG n fa fn ex s.heap.get?
  val := fun _ => (He.valD fn, true)
  says := fun _ h => ∃ K : PySem.W.Frag, K.In h ∧ SaysP fa fn ex K
  of := fun _ _ e => ⟨_, He.frG_in, e⟩
  keeps := fun _ _ _ ⟨K, hK, c⟩ k => ⟨K, PySem.W.Frag.In.keeps hK k, c⟩
theorem obsPG_eq {n : Nat} {fa : List He.Fa} {fn : List He.DefD} {ex : PySem.W.Frag → Bool} {g : Addr → Option Obj} {s : Shared} (h : ∀ a, g a = s.heap.get? a) : obsPG n fa fn ex g = (hookP n fa fn ex).obs s := by
  have e : g = s.heap.get? := funext h
  rw [e] <;> rfl
theorem SaysP.d {fa : List He.Fa} {fn : List He.DefD} {ex : PySem.W.Frag → Bool} {K : PySem.W.Frag} (c : SaysP fa fn ex K) : He.SaysD fa fn K := congrArg (fun z : He.AlD × Bool => z.1) c
theorem SaysP.ex {fa : List He.Fa} {fn : List He.DefD} {ex : PySem.W.Frag → Bool} {K : PySem.W.Frag} (c : SaysP fa fn ex K) : ex K = true := congrArg (fun z : He.AlD × Bool => z.2) c
theorem says_fact {fa : List He.Fa} {fn : List He.DefD} {K : PySem.W.Frag} (c : He.SaysD fa fn K) {f : He.Fa} (h : f ∈ fa) : f.ok K = true := by
  obtain ⟨i, hi, e⟩ := List.mem_iff_getElem.mp h
  exact c.fact i (f := f) (by rw [List.getElem?_eq_getElem hi, e])
/-- a tuple of the module's -/
theorem tupB_KT {K : PySem.W.Frag} {x : Str} {vs : List He.Dv} (h : He.tupB K x vs = true) : KT K (He.ga K x) (vs.map (He.Dv.v K)) := by
  rcases He.tupB_ok h (fun _ => none) with q | q
  · rcases q with q | ⟨_, q⟩ <;> cases q
  · exact q
/-! ### binding -/
section
variable {K : PySem.W.Frag} {x qual : Str} {params : Arguments} {body : List Stmt} {scope : Scope} {dvs : List V} {f : Addr} {fd : FuncData} {ps : List Str}
theorem binds_all (F : FunD K x qual params body scope dvs [] f fd) (hd : dvs ≠ [])
    (h : ∀ j, j ≤ dvs.length → ∀ (T : Addr) (kV doc pm : Value) (an : Option Addr) (cdv ct : Value) (us its : List Value), us.length + (dvs.length - j) = ps.length → its.length = dvs.length →
      ∃ k, bindArgs (PySem.W.fnOf x qual params body scope (.ref T) kV doc pm an cdv ct) ⟨us, []⟩ = seqItems? (.ref T) >>= k ∧ k (some its.toArray) = pure (ps.zip (us ++ its.drop j))) :
    ∃ ds, Vals dvs ds ∧ ∀ j, j ≤ dvs.length → Binds K fd ps (ds.drop j) := by
  obtain ⟨oc, od, dV, kV, doc, pm, an, cdv, ct, osl, rfl, lk, hcd, hD, hK⟩ := F.ex
  rcases hD with ⟨e, _⟩ | ⟨_, T, o, its, m, rfl, lT, oT, rT⟩
  · exact absurd e hd
  · refine ⟨its, rT, fun j hj s us X hlen => ?_⟩
    have l1 : its.length = dvs.length := rT.length.symm
    have l2 : us.length + (dvs.length - j) = ps.length := by
      rw [List.length_append, List.length_drop, l1] at hlen
      omega
    obtain ⟨k, e1, e2⟩ := h j hj T kV doc pm an cdv ct us its l2 l1
    refine BindsTo.of_looks fun M => ?_
    rw [e1]
    exact looks_items X lT oT (.of_pure e2)
end
section
variable {prog : Program} {w : World} {K : PySem.W.Frag} {mg : Str → Option Value} {base : Heap} {G : Gd} {S S' : Sg} {k : Nat} {d : FunE} {x qual : Str} {params : Arguments} {body : List Stmt} {scope : Scope} {f : Addr} {fd : FuncData} {ps : List Str}
/-- a def without defaults -/
theorem DefOk.mk0 (len : ∀ ds μ Q E, S.call d.id ds μ Q E → ds.length = d.n) (hg : mg d.name = some (.ref f)) (F : FunD K x qual params body scope [] [] f fd) (ok : FnOk prog w K mg base (L2.CX prog w) k f fd ps (SpOf G (S.call d.id) d.n)) (hnd : d.nd = 0) (hd : S.dfl d.id = [])
    (bind : ∀ (kV doc pm : Value) (an : Option Addr) (cdv ct : Value) (us : List Value), us.length = ps.length → bindArgs (PySem.W.fnOf x qual params body scope .none kV doc pm an cdv ct) ⟨us, []⟩ = pure (ps.zip us)) : DefOk prog w K mg base G S k d := by
  refine ⟨len, f, fd, ps, [], [], hg, F.kp, ok, .nil, fun Z φ H => by rw [hd]; exact .nil, fun m hm => ?_⟩
  rw [hnd] at hm
  have : m = 0 := by omega
  subst this
  exact F.bindsN bind
/-- a def with defaults -/
theorem DefOk.mkD {dvs : List V} (len : ∀ ds μ Q E, S.call d.id ds μ Q E → ds.length = d.n) (hg : mg d.name = some (.ref f)) (F : FunD K x qual params body scope dvs [] f fd) (ok : FnOk prog w K mg base (L2.CX prog w) k f fd ps (SpOf G (S.call d.id) d.n)) (hne : dvs ≠ []) (hnd : d.nd = dvs.length) (hd : ∀ Z φ H, Reps G Z φ H dvs (S.dfl d.id))
    (bind : ∀ j, j ≤ dvs.length → ∀ (T : Addr) (kV doc pm : Value) (an : Option Addr) (cdv ct : Value) (us its : List Value), us.length + (dvs.length - j) = ps.length → its.length = dvs.length →
      ∃ k, bindArgs (PySem.W.fnOf x qual params body scope (.ref T) kV doc pm an cdv ct) ⟨us, []⟩ = seqItems? (.ref T) >>= k ∧ k (some its.toArray) = pure (ps.zip (us ++ its.drop j))) : DefOk prog w K mg base G S k d := by
  obtain ⟨ds, h1, h2⟩ := binds_all F hne bind
  exact ⟨len, f, fd, ps, ds, dvs, hg, F.kp, ok, h1, hd, fun m hm => h2 m (by rw [← hnd]; exact hm)⟩
/-! ### the chain -/
variable {fs cs bs : List Str} {fl : List FunE} {j : Nat}
theorem Wd.next (h : Wd ⟨fl, cs, bs⟩ G S prog w K mg base k) (hd : DefOk prog w K mg base G S j d) (hj : k ≤ j) : Wd ⟨fl ++ [d], cs, bs⟩ G S prog w K mg base j :=
  ⟨h.hK, h.blt, h.con, fun e he => by
    rcases List.mem_append.mp he with q | q
    · exact (h.fn e q).mono hj
    · rw [List.mem_singleton.mp q]; exact hd⟩
theorem Wd.mono (h : Wd ⟨fl, cs, bs⟩ G S prog w K mg base k) (hj : k ≤ j) : Wd ⟨fl, cs, bs⟩ G S prog w K mg base j :=
  ⟨h.hK, h.blt, h.con, fun e he => (h.fn e he).mono hj⟩
/-- the same under another table of promises -/
theorem Wd.cast (h : Wd ⟨fl, cs, bs⟩ G S prog w K mg base k) (hc : S'.con = S.con) (hf : ∀ d ∈ fl, S'.call d.id = S.call d.id ∧ S'.dfl d.id = S.dfl d.id) : Wd ⟨fl, cs, bs⟩ G S' prog w K mg base k :=
  ⟨h.hK, h.blt, fun j x e => by rw [hc]; exact h.con j x e, fun d hd => (h.fn d hd).cast (hf d hd).1 (hf d hd).2⟩
/-- S with another promise of def i -/
def Sg.put (S : Sg) (i : Nat) (sp : List D → Store → (D → Store → Prop) → (XD → Store → Prop) → Prop) : Sg := { S with call := fun j => if j = i then sp else S.call j }
theorem Sg.put_at (S : Sg) (i : Nat) (sp) : (S.put i sp).call i = sp := by show (if i = i then _ else _) = _; rw [if_pos rfl]
theorem Sg.put_ne (S : Sg) {i j : Nat} (sp) (h : j ≠ i) : (S.put i sp).call j = S.call j := by show (if j = i then _ else _) = _; rw [if_neg h]
/-- nothing is promised -/
theorem fn_none {sp : Sp} (h : ∀ vs H Q E, ¬ sp vs H Q E) : FnOk prog w K mg base (L2.CX prog w) k f fd ps sp :=
  ⟨fun vs H Q E q => absurd q (h vs H Q E), fun A outer s H args us vs Q E _ _ _ _ q => absurd q (h vs H Q E)⟩
/-- a def that calls itself: by a bound -/
theorem fn_rec {sp : Nat → List D → Store → (D → Store → Prop) → (XD → Store → Prop) → Prop} {n : Nat} (h0 : ∀ ds μ Q E, ¬ sp 0 ds μ Q E)
    (step : ∀ m j, k ≤ j → FnOk prog w K mg base (L2.CX prog w) j f fd ps (SpOf G (sp m) n) → FnOk prog w K mg base (L2.CX prog w) (j + 1) f fd ps (SpOf G (sp (m + 1)) n)) :
    ∀ m, FnOk prog w K mg base (L2.CX prog w) (k + m) f fd ps (SpOf G (sp m) n)
  | 0 => fn_none fun vs H Q E h => by
    obtain ⟨_, Z, φ, μ, ds, Qd, Ed, _, _, hf, _⟩ := h
    exact h0 ds μ Qd Ed hf
  | m + 1 => step m (k + m) (by omega) (fn_rec h0 step m)
end
/-! ### a law -/
def spLaw (K : PySem.W.Frag) : Sp := fun vs H Q _ => ∃ (a : Addr) (ns : List Int), vs = [.ref a] ∧ ns.length ≤ 63 ∧ (∀ z ∈ ns, Builtin.Int.intBits z ≤ 1048576) ∧ SqL K H a (ns.map V.int) ∧ ∀ H', Q (.bl true) H'
/-- what a law's def promises over D -/
def LawSp (sp : List D → Store → (D → Store → Prop) → (XD → Store → Prop) → Prop) : Prop := ∀ (ns : List Int) (Q : D → Store → Prop) (E : XD → Store → Prop), ns.length ≤ 63 → (∀ z ∈ ns, Builtin.Int.intBits z ≤ 1048576) → (∀ μ, Q (.bl true) μ) → sp [.scr ns] [] Q E ∧ sp [.lst (ns.map .int)] [] Q E
theorem reps_ints {G : Gd} {Z φ : List Addr} {H : Hp} : ∀ ns : List Int, Reps G Z φ H (ns.map V.int) (ns.map D.int)
  | [] => .nil
  | n :: ns => .cons (.int n) (reps_ints ns)
theorem law_imp {G : Gd} {K : PySem.W.Frag} (hK : G.K = K) {sp : List D → Store → (D → Store → Prop) → (XD → Store → Prop) → Prop} (hs : LawSp sp) {vs : List V} {H : Hp} {Q : VK} {E : XK} (h : spLaw K vs H Q E) : SpOf G sp 1 vs H Q E := by
  obtain ⟨a, ns, rfl, hn, hbt, hS, q⟩ := h
  have c : CRel G [] [] H [] := ⟨rfl, List.nodup_nil, fun a h => by simp at h, fun a h => by simp at h, fun i c e => by simp at e⟩
  obtain ⟨h1, h2⟩ := hs ns (fun d _ => d = .bl true) (fun _ _ => False) hn hbt fun _ => rfl
  have done : ∀ d μ', d = D.bl true → Done G [] [] H d μ' Q := by
    rintro d μ' rfl v φ' H' r _ _
    cases r
    exact q H'
  rcases hS with hS | hS
  · exact ⟨rfl, [], [], [], [.lst (ns.map .int)], _, _, .cons (.lst ⟨hS, by simp, by simp⟩ (reps_ints ns)) .nil, c, h2, done, fun _ _ z => z.elim⟩
  · exact ⟨rfl, [], [], [], [.scr ns], _, _, .cons (.scr (by rw [hK]; exact hS)) .nil, c, h1, done, fun _ _ z => z.elim⟩
theorem reps_strs {G : Gd} {Z φ : List Addr} {H : Hp} : ∀ ss : List String, Reps G Z φ H (ss.map fun s => V.str (Str.ofString s)) (ss.map D.str)
  | [] => .nil
  | s :: ss => .cons (.str s) (reps_strs ss)
/-- the walk of a law's head -/
theorem walkP {l : PySem.W.OpenLaw} {n k : Nat} {q : Program} {loose : List Str} {XP : (Str → Option Value) → Heap → Prop} {YP : World → Heap → Prop} {d : DefRec}
    (hn : l.most = some n) (hn2 : n ≤ 63) (hdf : d.params.defaults = []) (hr : Room k callerA)
    (F : ∀ (w : World) (mg : Str → Option Value) (fa : Addr) (h : Heap), YP w h → h.Ns mainGlobals mg → mg d.name = some (.ref fa) →
      ∃ (K : PySem.W.Frag) (fd : FuncData), K.In h ∧ (∀ (s : Shared) (u : Value), BindsTo s fd ⟨[u], []⟩ [("script", u)]) ∧
        ∀ base : Heap, K.In base → base.Ns mainGlobals mg → FnOk l.prog w K mg base (L2.CX l.prog w) k fa fd ["script"] (spLaw K)) :
    PySem.W.WalkO q loose XP YP l.row.toRowW d [] (fun f vs => PySem.call f vs) := by
  refine Att.attach_callB hn hdf fun w s₀ s₁ mg mb fa o pm cd doc a vs ns G Y ho hd hcd hmg hobj hints hlen hbits hg => ?_
  obtain ⟨K, fd, KX, hb, hF⟩ := F w mg fa _ Y G.T.g hmg
  refine law_call KX G.T.g G.T.b G.T.builtins G.T.nolimit hg hobj hints (Nat.le_trans hlen (Nat.le_trans hn2 (by decide))) hr hF hb (fun H _ hS => ⟨a, ns, rfl, Nat.le_trans hlen hn2, hbits, hS, fun _ => rfl⟩) fun H e s' hx => ?_
  obtain ⟨_, _, _, _, _, _, _, _, _, _, _, _, hx⟩ := hx
  exact hx
theorem bindsTo_one {K : PySem.W.Frag} {x qual : Str} {params : Arguments} {body : List Stmt} {scope : Scope} {f : Addr} {fd : FuncData} (F : FunD K x qual params body scope [] [] f fd)
    (bind : ∀ (kV doc pm : Value) (an : Option Addr) (cdv ct : Value) (us : List Value), us.length = 1 → bindArgs (PySem.W.fnOf x qual params body scope .none kV doc pm an cdv ct) ⟨us, []⟩ = pure ((["script"] : List Str).zip us)) (s : Shared) (u : Value) : BindsTo s fd ⟨[u], []⟩ [("script", u)] :=
  F.bindsA (ps := ["script"]) bind s [u] rfl
end PY

set_option Elab.async false
set_option linter.all false
set_option maxRecDepth 100000
set_option maxHeartbeats 0
namespace K03
open PySem PySem.Spec PyProof.Rows L2 PY
def top (i : Nat) : Stmt := PySem.Challenge.pw_loopproof_k03_whole_trees_of_programs.main.body.getD i (.Pass ⟨0, 0, 0, 0⟩)
def funs : List FunE := [⟨0, "is_row", 1, 0⟩, ⟨1, "is_name", 1, 0⟩, ⟨2, "are_names", 2, 1⟩, ⟨3, "is_head", 3, 0⟩, ⟨4, "test_parts", 1, 0⟩, ⟨5, "is_test", 1, 0⟩, ⟨6, "program_parts", 1, 0⟩, ⟨7, "is_program", 1, 0⟩, ⟨8, "statement_parts", 2, 0⟩, ⟨9, "hypothesis_parts", 1, 0⟩, ⟨10, "saying_parts", 1, 0⟩, ⟨11, "all_parts", 2, 0⟩, ⟨12, "whole_parts", 1, 0⟩, ⟨13, "is_whole", 1, 0⟩, ⟨14, "_law_pen", 1, 0⟩, ⟨15, "_law_draw", 2, 0⟩, ⟨16, "_law_pick", 2, 0⟩, ⟨17, "_law_is_truth", 2, 0⟩, ⟨18, "_law_test", 3, 0⟩, ⟨19, "_law_names", 1, 0⟩, ⟨20, "_law_l_none", 1, 0⟩, ⟨21, "_law_l_program", 4, 0⟩, ⟨22, "_law_l_statement", 5, 0⟩, ⟨23, "_law_l_whole", 4, 0⟩, ⟨24, "_law_paths", 1, 0⟩, ⟨25, "_law_put", 3, 0⟩, ⟨26, "_law_bad", 2, 0⟩, ⟨27, "law", 1, 0⟩]
def cons : List Str := ["SMALL", "FIGURES", "LONGEST", "WORDS"]
def blts : List Str := ["all", "bool", "enumerate", "int", "isinstance", "len", "list", "range", "set", "str", "tuple"]
abbrev Pn (n : Nat) : PCtx := ⟨funs.take n, cons, blts⟩
def N_is_row : List Str := ["value"]
def b_is_row : Sts := .cons (.ret (.prim (.isi [.list, .tuple]) (.cons (.var 0) (.nil))))
  (.nil)
theorem c_is_row : chkSs (Pn 0) (cxtOf N_is_row (defScope (top 1))) b_is_row (defBody (top 1)) = true := by decide +kernel
theorem u_is_row : uniqB (defScope (top 1)) = true := by decide +kernel
theorem s_is_row : FnScope N_is_row ["value"] (defScope (top 1)) := ⟨rfl, rfl, rfl, by decide +kernel, by decide +kernel, by decide +kernel, by decide +kernel⟩
def N_is_name : List Str := ["value", "sign"]
def b_is_name : Sts := .cons (.ite (.or_ (.cons (.not_ (.prim (.isi [.str]) (.cons (.var 0) (.nil)))) (.cons (.not_ (.chain .le .le (.con (.int 1)) (.prim (.len) (.cons (.var 0) (.nil))) (.glo 2))) (.cons (.prim (.cm .notin) (.cons (.prim (.ix) (.cons (.var 0) (.cons (.con (.int 0)) (.nil)))) (.cons (.glo 0) (.nil)))) (.cons (.prim (.cm .isin) (.cons (.var 0) (.cons (.glo 3) (.nil)))) (.nil)))))) (.cons (.ret (.con (.bool false)))
  (.nil)) (.nil))
  (.cons (.ret (.prim (.all) (.cons (.comp false (.or_ (.cons (.prim (.cm .isin) (.cons (.var 1) (.cons (.glo 0) (.nil)))) (.cons (.prim (.cm .isin) (.cons (.var 1) (.cons (.glo 1) (.nil)))) (.nil)))) (.name 1) (.val (.var 0)) (.nil) [1]) (.nil))))
  (.nil))
theorem c_is_name : chkSs (Pn 1) (cxtOf N_is_name (defScope (top 7))) b_is_name (defBody (top 7)) = true := by decide +kernel
theorem u_is_name : uniqB (defScope (top 7)) = true := by decide +kernel
theorem s_is_name : FnScope N_is_name ["value"] (defScope (top 7)) := ⟨rfl, rfl, rfl, by decide +kernel, by decide +kernel, by decide +kernel, by decide +kernel⟩
def N_are_names : List Str := ["value", "most", "name"]
def b_are_names : Sts := .cons (.ite (.or_ (.cons (.not_ (.call 0 (.cons (.var 0) (.nil)) 0)) (.cons (.not_ (.prim (.all) (.cons (.comp false (.call 1 (.cons (.var 2) (.nil)) 0) (.name 2) (.val (.var 0)) (.nil) [2]) (.nil)))) (.cons (.prim (.cm .ne) (.cons (.prim (.lenset) (.cons (.var 0) (.nil))) (.cons (.prim (.len) (.cons (.var 0) (.nil))) (.nil)))) (.nil))))) (.cons (.ret (.con (.bool false)))
  (.nil)) (.nil))
  (.cons (.ret (.or_ (.cons (.prim (.isN) (.cons (.var 1) (.nil))) (.cons (.prim (.cm .le) (.cons (.prim (.len) (.cons (.var 0) (.nil))) (.cons (.var 1) (.nil)))) (.nil)))))
  (.nil))
theorem c_are_names : chkSs (Pn 2) (cxtOf N_are_names (defScope (top 8))) b_are_names (defBody (top 8)) = true := by decide +kernel
theorem u_are_names : uniqB (defScope (top 8)) = true := by decide +kernel
theorem s_are_names : FnScope N_are_names ["value", "most"] (defScope (top 8)) := ⟨rfl, rfl, rfl, by decide +kernel, by decide +kernel, by decide +kernel, by decide +kernel⟩
def N_is_head : List Str := ["value", "heads", "length"]
def b_is_head : Sts := .cons (.ret (.and_ (.cons (.prim (.isi [.tuple]) (.cons (.var 0) (.nil))) (.cons (.prim (.cm .eq) (.cons (.prim (.len) (.cons (.var 0) (.nil))) (.cons (.var 2) (.nil)))) (.cons (.prim (.isi [.str]) (.cons (.prim (.ix) (.cons (.var 0) (.cons (.con (.int 0)) (.nil)))) (.nil))) (.cons (.prim (.cm .isin) (.cons (.prim (.ix) (.cons (.var 0) (.cons (.con (.int 0)) (.nil)))) (.cons (.var 1) (.nil)))) (.nil)))))))
  (.nil)
theorem c_is_head : chkSs (Pn 3) (cxtOf N_is_head (defScope (top 10))) b_is_head (defBody (top 10)) = true := by decide +kernel
theorem u_is_head : uniqB (defScope (top 10)) = true := by decide +kernel
theorem s_is_head : FnScope N_is_head ["value", "heads", "length"] (defScope (top 10)) := ⟨rfl, rfl, rfl, by decide +kernel, by decide +kernel, by decide +kernel, by decide +kernel⟩
def N_test_parts : List Str := ["value"]
def b_test_parts : Sts := .cons (.ite (.call 3 (.cons (.var 0) (.cons (.prim (.tup) (.cons (.str "true") (.cons (.str "false") (.nil)))) (.cons (.con (.int 1)) (.nil)))) 0) (.cons (.ret (.prim (.lst false) (.nil)))
  (.nil)) (.nil))
  (.cons (.ite (.call 3 (.cons (.var 0) (.cons (.prim (.tup) (.cons (.str "name") (.nil))) (.cons (.con (.int 2)) (.nil)))) 0) (.cons (.ret (.ife (.call 1 (.cons (.prim (.ix) (.cons (.var 0) (.cons (.con (.int 1)) (.nil)))) (.nil)) 0) (.prim (.lst false) (.nil)) (.con .none)))
  (.nil)) (.nil))
  (.cons (.ite (.call 3 (.cons (.var 0) (.cons (.prim (.tup) (.cons (.str "not") (.nil))) (.cons (.con (.int 2)) (.nil)))) 0) (.cons (.ret (.prim (.lst false) (.cons (.prim (.ix) (.cons (.var 0) (.cons (.con (.int 1)) (.nil)))) (.nil))))
  (.nil)) (.nil))
  (.cons (.ret (.ife (.call 3 (.cons (.var 0) (.cons (.prim (.tup) (.cons (.str "and") (.cons (.str "or") (.nil)))) (.cons (.con (.int 3)) (.nil)))) 0) (.prim (.lst false) (.cons (.prim (.ix) (.cons (.var 0) (.cons (.con (.int 1)) (.nil)))) (.cons (.prim (.ix) (.cons (.var 0) (.cons (.con (.int 2)) (.nil)))) (.nil)))) (.con .none)))
  (.nil))))
theorem c_test_parts : chkSs (Pn 4) (cxtOf N_test_parts (defScope (top 11))) b_test_parts (defBody (top 11)) = true := by decide +kernel
theorem u_test_parts : uniqB (defScope (top 11)) = true := by decide +kernel
theorem s_test_parts : FnScope N_test_parts ["value"] (defScope (top 11)) := ⟨rfl, rfl, rfl, by decide +kernel, by decide +kernel, by decide +kernel, by decide +kernel⟩
def N_is_test : List Str := ["value", "waiting", "parts"]
def b_is_test_1 : Sts := .cons (.asg (.name 2) (.call 4 (.cons (.meth .pop (.var 1) .nil) (.nil)) 0))
  (.cons (.ite (.prim (.isN) (.cons (.var 2) (.nil))) (.cons (.ret (.con (.bool false)))
  (.nil)) (.nil))
  (.cons (.expr (.meth .extend (.var 1) (.cons (.var 2) (.nil))))
  (.nil)))
def b_is_test_2 : Sts := .cons (.ret (.con (.bool true)))
  (.nil)
def b_is_test : Sts := .cons (.asg (.name 1) (.prim (.lst true) (.cons (.var 0) (.nil))))
  (.cons (.whl (.prim (.cm .gt) (.cons (.prim (.len) (.cons (.var 1) (.nil))) (.cons (.con (.int 0)) (.nil)))) (b_is_test_1))
  (b_is_test_2))
theorem c_is_test : chkSs (Pn 5) (cxtOf N_is_test (defScope (top 12))) b_is_test (defBody (top 12)) = true := by decide +kernel
theorem u_is_test : uniqB (defScope (top 12)) = true := by decide +kernel
theorem s_is_test : FnScope N_is_test ["value"] (defScope (top 12)) := ⟨rfl, rfl, rfl, by decide +kernel, by decide +kernel, by decide +kernel, by decide +kernel⟩
def N_program_parts : List Str := ["value"]
def b_program_parts : Sts := .cons (.ite (.call 3 (.cons (.var 0) (.cons (.prim (.tup) (.cons (.str "skip") (.cons (.str "stop") (.nil)))) (.cons (.con (.int 1)) (.nil)))) 0) (.cons (.ret (.prim (.tup) (.cons (.prim (.lst false) (.nil)) (.cons (.prim (.lst false) (.nil)) (.nil)))))
  (.nil)) (.nil))
  (.cons (.ite (.call 3 (.cons (.var 0) (.cons (.prim (.tup) (.cons (.str "deed") (.nil))) (.cons (.con (.int 2)) (.nil)))) 0) (.cons (.ret (.ife (.call 1 (.cons (.prim (.ix) (.cons (.var 0) (.cons (.con (.int 1)) (.nil)))) (.nil)) 0) (.prim (.tup) (.cons (.prim (.lst false) (.nil)) (.cons (.prim (.lst false) (.nil)) (.nil)))) (.con .none)))
  (.nil)) (.nil))
  (.cons (.ite (.call 3 (.cons (.var 0) (.cons (.prim (.tup) (.cons (.str "assume") (.nil))) (.cons (.con (.int 2)) (.nil)))) 0) (.cons (.ret (.prim (.tup) (.cons (.prim (.lst false) (.nil)) (.cons (.prim (.lst false) (.cons (.prim (.ix) (.cons (.var 0) (.cons (.con (.int 1)) (.nil)))) (.nil))) (.nil)))))
  (.nil)) (.nil))
  (.cons (.ite (.call 3 (.cons (.var 0) (.cons (.prim (.tup) (.cons (.str "then") (.cons (.str "choose") (.nil)))) (.cons (.con (.int 3)) (.nil)))) 0) (.cons (.ret (.prim (.tup) (.cons (.prim (.lst false) (.cons (.prim (.ix) (.cons (.var 0) (.cons (.con (.int 1)) (.nil)))) (.cons (.prim (.ix) (.cons (.var 0) (.cons (.con (.int 2)) (.nil)))) (.nil)))) (.cons (.prim (.lst false) (.nil)) (.nil)))))
  (.nil)) (.nil))
  (.cons (.ite (.call 3 (.cons (.var 0) (.cons (.prim (.tup) (.cons (.str "loop") (.nil))) (.cons (.con (.int 2)) (.nil)))) 0) (.cons (.ret (.prim (.tup) (.cons (.prim (.lst false) (.cons (.prim (.ix) (.cons (.var 0) (.cons (.con (.int 1)) (.nil)))) (.nil))) (.cons (.prim (.lst false) (.nil)) (.nil)))))
  (.nil)) (.nil))
  (.cons (.ite (.call 3 (.cons (.var 0) (.cons (.prim (.tup) (.cons (.str "if") (.nil))) (.cons (.con (.int 4)) (.nil)))) 0) (.cons (.ret (.prim (.tup) (.cons (.prim (.lst false) (.cons (.prim (.ix) (.cons (.var 0) (.cons (.con (.int 2)) (.nil)))) (.cons (.prim (.ix) (.cons (.var 0) (.cons (.con (.int 3)) (.nil)))) (.nil)))) (.cons (.prim (.lst false) (.cons (.prim (.ix) (.cons (.var 0) (.cons (.con (.int 1)) (.nil)))) (.nil))) (.nil)))))
  (.nil)) (.nil))
  (.cons (.ite (.call 3 (.cons (.var 0) (.cons (.prim (.tup) (.cons (.str "while") (.nil))) (.cons (.con (.int 3)) (.nil)))) 0) (.cons (.ret (.prim (.tup) (.cons (.prim (.lst false) (.cons (.prim (.ix) (.cons (.var 0) (.cons (.con (.int 2)) (.nil)))) (.nil))) (.cons (.prim (.lst false) (.cons (.prim (.ix) (.cons (.var 0) (.cons (.con (.int 1)) (.nil)))) (.nil))) (.nil)))))
  (.nil)) (.nil))
  (.cons (.ret (.ife (.call 3 (.cons (.var 0) (.cons (.prim (.tup) (.cons (.str "repeat") (.nil))) (.cons (.con (.int 3)) (.nil)))) 0) (.prim (.tup) (.cons (.prim (.lst false) (.cons (.prim (.ix) (.cons (.var 0) (.cons (.con (.int 1)) (.nil)))) (.nil))) (.cons (.prim (.lst false) (.cons (.prim (.ix) (.cons (.var 0) (.cons (.con (.int 2)) (.nil)))) (.nil))) (.nil)))) (.con .none)))
  (.nil))))))))
theorem c_program_parts : chkSs (Pn 6) (cxtOf N_program_parts (defScope (top 13))) b_program_parts (defBody (top 13)) = true := by decide +kernel
theorem u_program_parts : uniqB (defScope (top 13)) = true := by decide +kernel
theorem s_program_parts : FnScope N_program_parts ["value"] (defScope (top 13)) := ⟨rfl, rfl, rfl, by decide +kernel, by decide +kernel, by decide +kernel, by decide +kernel⟩
def N_is_program : List Str := ["value", "waiting", "parts", "test"]
def b_is_program_1 : Sts := .cons (.asg (.name 2) (.call 6 (.cons (.meth .pop (.var 1) .nil) (.nil)) 0))
  (.cons (.ite (.or_ (.cons (.prim (.isN) (.cons (.var 2) (.nil))) (.cons (.not_ (.prim (.all) (.cons (.comp false (.call 5 (.cons (.var 3) (.nil)) 0) (.name 3) (.val (.prim (.ix) (.cons (.var 2) (.cons (.con (.int 1)) (.nil))))) (.nil) [3]) (.nil)))) (.nil)))) (.cons (.ret (.con (.bool false)))
  (.nil)) (.nil))
  (.cons (.expr (.meth .extend (.var 1) (.cons (.prim (.ix) (.cons (.var 2) (.cons (.con (.int 0)) (.nil)))) (.nil))))
  (.nil)))
def b_is_program_2 : Sts := .cons (.ret (.con (.bool true)))
  (.nil)
def b_is_program : Sts := .cons (.asg (.name 1) (.prim (.lst true) (.cons (.var 0) (.nil))))
  (.cons (.whl (.prim (.cm .gt) (.cons (.prim (.len) (.cons (.var 1) (.nil))) (.cons (.con (.int 0)) (.nil)))) (b_is_program_1))
  (b_is_program_2))
theorem c_is_program : chkSs (Pn 7) (cxtOf N_is_program (defScope (top 14))) b_is_program (defBody (top 14)) = true := by decide +kernel
theorem u_is_program : uniqB (defScope (top 14)) = true := by decide +kernel
theorem s_is_program : FnScope N_is_program ["value"] (defScope (top 14)) := ⟨rfl, rfl, rfl, by decide +kernel, by decide +kernel, by decide +kernel, by decide +kernel⟩
def N_statement_parts : List Str := ["value", "heads", "parts", "one"]
def b_statement_parts_1 : Sts := .cons (.ret (.ife (.and_ (.cons (.prim (.all) (.cons (.comp false (.call 7 (.cons (.var 3) (.nil)) 0) (.name 3) (.val (.prim (.ix) (.cons (.var 2) (.cons (.con (.int 0)) (.nil))))) (.nil) [3]) (.nil))) (.cons (.prim (.all) (.cons (.comp false (.call 5 (.cons (.var 3) (.nil)) 0) (.name 3) (.val (.prim (.ix) (.cons (.var 2) (.cons (.con (.int 1)) (.nil))))) (.nil) [3]) (.nil))) (.nil)))) (.var 2) (.con .none)))
  (.nil)
def b_statement_parts : Sts := .cons (.ite (.or_ (.cons (.not_ (.prim (.isi [.tuple]) (.cons (.var 0) (.nil)))) (.cons (.prim (.cm .eq) (.cons (.prim (.len) (.cons (.var 0) (.nil))) (.cons (.con (.int 0)) (.nil)))) (.cons (.not_ (.prim (.isi [.str]) (.cons (.prim (.ix) (.cons (.var 0) (.cons (.con (.int 0)) (.nil)))) (.nil)))) (.cons (.prim (.cm .notin) (.cons (.prim (.ix) (.cons (.var 0) (.cons (.con (.int 0)) (.nil)))) (.cons (.var 1) (.nil)))) (.nil)))))) (.cons (.ret (.con .none))
  (.nil)) (.nil))
  (.cons (.ite (.call 3 (.cons (.var 0) (.cons (.prim (.tup) (.cons (.str "never") (.nil))) (.cons (.con (.int 2)) (.nil)))) 0) (.cons (.asg (.name 2) (.prim (.tup) (.cons (.prim (.lst false) (.cons (.prim (.ix) (.cons (.var 0) (.cons (.con (.int 1)) (.nil)))) (.nil))) (.cons (.prim (.lst false) (.nil)) (.nil)))))
  (.nil)) (.cons (.ite (.call 3 (.cons (.var 0) (.cons (.prim (.tup) (.cons (.str "keeps") (.cons (.str "leaves") (.nil)))) (.cons (.con (.int 3)) (.nil)))) 0) (.cons (.asg (.name 2) (.prim (.tup) (.cons (.prim (.lst false) (.cons (.prim (.ix) (.cons (.var 0) (.cons (.con (.int 1)) (.nil)))) (.nil))) (.cons (.prim (.lst false) (.cons (.prim (.ix) (.cons (.var 0) (.cons (.con (.int 2)) (.nil)))) (.nil))) (.nil)))))
  (.nil)) (.cons (.ite (.call 3 (.cons (.var 0) (.cons (.prim (.tup) (.cons (.str "triple") (.nil))) (.cons (.con (.int 4)) (.nil)))) 0) (.cons (.asg (.name 2) (.prim (.tup) (.cons (.prim (.lst false) (.cons (.prim (.ix) (.cons (.var 0) (.cons (.con (.int 2)) (.nil)))) (.nil))) (.cons (.prim (.lst false) (.cons (.prim (.ix) (.cons (.var 0) (.cons (.con (.int 1)) (.nil)))) (.cons (.prim (.ix) (.cons (.var 0) (.cons (.con (.int 3)) (.nil)))) (.nil)))) (.nil)))))
  (.nil)) (.cons (.ite (.call 3 (.cons (.var 0) (.cons (.prim (.tup) (.cons (.str "same") (.cons (.str "below") (.nil)))) (.cons (.con (.int 3)) (.nil)))) 0) (.cons (.asg (.name 2) (.prim (.tup) (.cons (.prim (.lst false) (.cons (.prim (.ix) (.cons (.var 0) (.cons (.con (.int 1)) (.nil)))) (.cons (.prim (.ix) (.cons (.var 0) (.cons (.con (.int 2)) (.nil)))) (.nil)))) (.cons (.prim (.lst false) (.nil)) (.nil)))))
  (.nil)) (.cons (.ret (.con .none))
  (.nil)))
  (.nil)))
  (.nil)))
  (.nil)))
  (b_statement_parts_1))
theorem c_statement_parts : chkSs (Pn 8) (cxtOf N_statement_parts (defScope (top 15))) b_statement_parts (defBody (top 15)) = true := by decide +kernel
theorem u_statement_parts : uniqB (defScope (top 15)) = true := by decide +kernel
theorem s_statement_parts : FnScope N_statement_parts ["value", "heads"] (defScope (top 15)) := ⟨rfl, rfl, rfl, by decide +kernel, by decide +kernel, by decide +kernel, by decide +kernel⟩
def N_hypothesis_parts : List Str := ["value"]
def b_hypothesis_parts : Sts := .cons (.ret (.call 8 (.cons (.var 0) (.cons (.prim (.tup) (.cons (.str "never") (.cons (.str "keeps") (.cons (.str "leaves") (.cons (.str "triple") (.nil)))))) (.nil))) 0))
  (.nil)
theorem c_hypothesis_parts : chkSs (Pn 9) (cxtOf N_hypothesis_parts (defScope (top 16))) b_hypothesis_parts (defBody (top 16)) = true := by decide +kernel
theorem u_hypothesis_parts : uniqB (defScope (top 16)) = true := by decide +kernel
theorem s_hypothesis_parts : FnScope N_hypothesis_parts ["value"] (defScope (top 16)) := ⟨rfl, rfl, rfl, by decide +kernel, by decide +kernel, by decide +kernel, by decide +kernel⟩
def N_saying_parts : List Str := ["value"]
def b_saying_parts : Sts := .cons (.ret (.call 8 (.cons (.var 0) (.cons (.prim (.tup) (.cons (.str "same") (.cons (.str "below") (.cons (.str "triple") (.nil))))) (.nil))) 0))
  (.nil)
theorem c_saying_parts : chkSs (Pn 10) (cxtOf N_saying_parts (defScope (top 17))) b_saying_parts (defBody (top 17)) = true := by decide +kernel
theorem u_saying_parts : uniqB (defScope (top 17)) = true := by decide +kernel
theorem s_saying_parts : FnScope N_saying_parts ["value"] (defScope (top 17)) := ⟨rfl, rfl, rfl, by decide +kernel, by decide +kernel, by decide +kernel, by decide +kernel⟩
def N_all_parts : List Str := ["programs", "tests", "waiting", "found", "here", "parts"]
def b_all_parts_1 : Sts := .cons (.asg (.name 4) (.meth .pop (.var 2) .nil))
  (.cons (.expr (.meth .append (.prim (.ix) (.cons (.var 3) (.cons (.con (.int 0)) (.nil)))) (.cons (.var 4) (.nil))))
  (.cons (.asg (.name 5) (.call 6 (.cons (.var 4) (.nil)) 0))
  (.cons (.expr (.meth .extend (.var 2) (.cons (.prim (.ix) (.cons (.var 5) (.cons (.con (.int 0)) (.nil)))) (.nil))))
  (.cons (.asg (.name 1) (.prim (.bin .add) (.cons (.prim (.list1 false) (.cons (.var 1) (.nil))) (.cons (.prim (.ix) (.cons (.var 5) (.cons (.con (.int 1)) (.nil)))) (.nil)))))
  (.nil)))))
def b_all_parts_2 : Sts := .cons (.asg (.name 4) (.meth .pop (.var 2) .nil))
  (.cons (.expr (.meth .append (.prim (.ix) (.cons (.var 3) (.cons (.con (.int 1)) (.nil)))) (.cons (.var 4) (.nil))))
  (.cons (.expr (.meth .extend (.var 2) (.cons (.call 4 (.cons (.var 4) (.nil)) 0) (.nil))))
  (.nil)))
def b_all_parts_3 : Sts := .cons (.ret (.var 3))
  (.nil)
def b_all_parts_4 : Sts := .cons (.asg (.name 2) (.prim (.list1 true) (.cons (.var 1) (.nil))))
  (.cons (.whl (.prim (.cm .gt) (.cons (.prim (.len) (.cons (.var 2) (.nil))) (.cons (.con (.int 0)) (.nil)))) (b_all_parts_2))
  (b_all_parts_3))
def b_all_parts : Sts := .cons (.par 3 2 (.prim (.lst false) (.cons (.prim (.lst true) (.nil)) (.cons (.prim (.lst true) (.nil)) (.nil)))) (.prim (.list1 true) (.cons (.var 0) (.nil))))
  (.cons (.whl (.prim (.cm .gt) (.cons (.prim (.len) (.cons (.var 2) (.nil))) (.cons (.con (.int 0)) (.nil)))) (b_all_parts_1))
  (b_all_parts_4))
theorem c_all_parts : chkSs (Pn 11) (cxtOf N_all_parts (defScope (top 18))) b_all_parts (defBody (top 18)) = true := by decide +kernel
theorem u_all_parts : uniqB (defScope (top 18)) = true := by decide +kernel
theorem s_all_parts : FnScope N_all_parts ["programs", "tests"] (defScope (top 18)) := ⟨rfl, rfl, rfl, by decide +kernel, by decide +kernel, by decide +kernel, by decide +kernel⟩
def N_whole_parts : List Str := ["whole", "one", "programs", "tests", "more"]
def b_whole_parts_1 : Sts := .cons (.asg (.name 4) (.call 9 (.cons (.var 1) (.nil)) 0))
  (.cons (.par 2 3 (.prim (.bin .add) (.cons (.var 2) (.cons (.prim (.ix) (.cons (.var 4) (.cons (.con (.int 0)) (.nil)))) (.nil)))) (.prim (.bin .add) (.cons (.var 3) (.cons (.prim (.ix) (.cons (.var 4) (.cons (.con (.int 1)) (.nil)))) (.nil)))))
  (.nil))
def b_whole_parts_2 : Sts := .cons (.ret (.prim (.tup) (.cons (.var 2) (.cons (.var 3) (.nil)))))
  (.nil)
def b_whole_parts : Sts := .cons (.asg (.tup [.name 2, .name 3]) (.call 10 (.cons (.prim (.ix) (.cons (.var 0) (.cons (.con (.int 4)) (.nil)))) (.nil)) 0))
  (.cons (.forr (.name 1) (.val (.prim (.ix) (.cons (.var 0) (.cons (.con (.int 3)) (.nil))))) (b_whole_parts_1))
  (b_whole_parts_2))
theorem c_whole_parts : chkSs (Pn 12) (cxtOf N_whole_parts (defScope (top 19))) b_whole_parts (defBody (top 19)) = true := by decide +kernel
theorem u_whole_parts : uniqB (defScope (top 19)) = true := by decide +kernel
theorem s_whole_parts : FnScope N_whole_parts ["whole"] (defScope (top 19)) := ⟨rfl, rfl, rfl, by decide +kernel, by decide +kernel, by decide +kernel, by decide +kernel⟩
def N_is_whole : List Str := ["value", "first", "second", "programs", "tests", "one", "test", "row"]
def b_is_whole : Sts := .cons (.ite (.or_ (.cons (.not_ (.call 3 (.cons (.var 0) (.cons (.prim (.tup) (.cons (.str "whole") (.nil))) (.cons (.con (.int 5)) (.nil)))) 0)) (.cons (.not_ (.prim (.all) (.cons (.comp false (.prim (.isi [.tuple]) (.cons (.var 7) (.nil))) (.name 7) (.val (.sl3 (.var 0) (.con (.int 1)) (.con (.int 4)))) (.nil) [7]) (.nil)))) (.nil)))) (.cons (.ret (.con (.bool false)))
  (.nil)) (.nil))
  (.cons (.ite (.or_ (.cons (.not_ (.call 2 (.cons (.prim (.bin .add) (.cons (.prim (.ix) (.cons (.var 0) (.cons (.con (.int 1)) (.nil)))) (.cons (.prim (.ix) (.cons (.var 0) (.cons (.con (.int 2)) (.nil)))) (.nil)))) (.nil)) 0)) (.cons (.prim (.isN) (.cons (.call 10 (.cons (.prim (.ix) (.cons (.var 0) (.cons (.con (.int 4)) (.nil)))) (.nil)) 0) (.nil))) (.nil)))) (.cons (.ret (.con (.bool false)))
  (.nil)) (.nil))
  (.cons (.ite (.not_ (.prim (.all) (.cons (.comp false (.prim (.notN) (.cons (.call 9 (.cons (.var 5) (.nil)) 0) (.nil))) (.name 5) (.val (.prim (.ix) (.cons (.var 0) (.cons (.con (.int 3)) (.nil))))) (.nil) [5]) (.nil)))) (.cons (.ret (.con (.bool false)))
  (.nil)) (.nil))
  (.cons (.asg (.tup [.name 1, .name 2]) (.call 12 (.cons (.var 0) (.nil)) 0))
  (.cons (.asg (.tup [.name 3, .name 4]) (.call 11 (.cons (.var 1) (.cons (.var 2) (.nil))) 0))
  (.cons (.ite (.not_ (.prim (.all) (.cons (.comp false (.prim (.cm .isin) (.cons (.prim (.ix) (.cons (.var 6) (.cons (.con (.int 1)) (.nil)))) (.cons (.prim (.ix) (.cons (.var 0) (.cons (.con (.int 1)) (.nil)))) (.nil)))) (.name 6) (.val (.var 4)) (.cons (.prim (.cm .eq) (.cons (.prim (.ix) (.cons (.var 6) (.cons (.con (.int 0)) (.nil)))) (.cons (.str "name") (.nil)))) (.nil)) [6]) (.nil)))) (.cons (.ret (.con (.bool false)))
  (.nil)) (.nil))
  (.cons (.ret (.prim (.all) (.cons (.comp false (.prim (.cm .isin) (.cons (.prim (.ix) (.cons (.var 5) (.cons (.con (.int 1)) (.nil)))) (.cons (.prim (.ix) (.cons (.var 0) (.cons (.con (.int 2)) (.nil)))) (.nil)))) (.name 5) (.val (.var 3)) (.cons (.prim (.cm .eq) (.cons (.prim (.ix) (.cons (.var 5) (.cons (.con (.int 0)) (.nil)))) (.cons (.str "deed") (.nil)))) (.nil)) [5]) (.nil))))
  (.nil)))))))
theorem c_is_whole : chkSs (Pn 13) (cxtOf N_is_whole (defScope (top 20))) b_is_whole (defBody (top 20)) = true := by decide +kernel
theorem u_is_whole : uniqB (defScope (top 20)) = true := by decide +kernel
theorem s_is_whole : FnScope N_is_whole ["value"] (defScope (top 20)) := ⟨rfl, rfl, rfl, by decide +kernel, by decide +kernel, by decide +kernel, by decide +kernel⟩
def N__law_pen : List Str := ["script", "fold", "cell"]
def b__law_pen_1 : Sts := .cons (.ret (.prim (.dct false) (.cons (.str "cells") (.cons (.prim (.list1 false) (.cons (.var 0) (.nil))) (.cons (.str "at") (.cons (.con (.int 0)) (.cons (.str "digits") (.cons (.con (.int 0)) (.cons (.str "count") (.cons (.con (.int 0)) (.cons (.str "fold") (.cons (.var 1) (.nil)))))))))))))
  (.nil)
def b__law_pen : Sts := .cons (.asg (.name 1) (.con (.int 0)))
  (.cons (.forr (.name 2) (.val (.var 0)) (.cons (.asg (.name 1) (.prim (.bin .mod) (.cons (.prim (.int1) (.cons (.prim (.bin .add) (.cons (.prim (.bin .mul) (.cons (.var 1) (.cons (.con (.int 47)) (.nil)))) (.cons (.var 2) (.nil)))) (.nil))) (.cons (.con (.int 1000000007)) (.nil)))))
  (.nil)))
  (b__law_pen_1))
theorem c__law_pen : chkSs (Pn 14) (cxtOf N__law_pen (defScope (top 22))) b__law_pen (defBody (top 22)) = true := by decide +kernel
theorem u__law_pen : uniqB (defScope (top 22)) = true := by decide +kernel
theorem s__law_pen : FnScope N__law_pen ["script"] (defScope (top 22)) := ⟨rfl, rfl, rfl, by decide +kernel, by decide +kernel, by decide +kernel, by decide +kernel⟩
def N__law_draw : List Str := ["pen", "many", "mixed", "cell", "digit"]
def b__law_draw_1 : Sts := .cons (.ite (.prim (.cm .gt) (.cons (.prim (.ix) (.cons (.var 0) (.cons (.str "digits") (.nil)))) (.cons (.con (.int 0)) (.nil)))) (.cons (.asg (.name 4) (.prim (.bin .mod) (.cons (.prim (.int1) (.cons (.prim (.ix) (.cons (.var 0) (.cons (.str "digits") (.nil)))) (.nil))) (.cons (.var 1) (.nil)))))
  (.cons (.setix (.var 0) (.str "digits") (.prim (.bin .fdiv) (.cons (.prim (.ix) (.cons (.var 0) (.cons (.str "digits") (.nil)))) (.cons (.var 1) (.nil)))))
  (.cons (.ret (.var 4))
  (.nil)))) (.nil))
  (.cons (.asg (.name 2) (.prim (.bin .add) (.cons (.prim (.bin .add) (.cons (.prim (.ix) (.cons (.var 0) (.cons (.str "fold") (.nil)))) (.cons (.prim (.bin .mul) (.cons (.prim (.ix) (.cons (.var 0) (.cons (.str "count") (.nil)))) (.cons (.con (.int 7907)) (.nil)))) (.nil)))) (.cons (.con (.int 37)) (.nil)))))
  (.cons (.ret (.prim (.bin .mod) (.cons (.prim (.bin .fdiv) (.cons (.prim (.int1) (.cons (.prim (.bin .mod) (.cons (.prim (.bin .pow) (.cons (.var 2) (.cons (.con (.int 17)) (.nil)))) (.cons (.con (.int 2305843009213693951)) (.nil)))) (.nil))) (.cons (.con (.int 128)) (.nil)))) (.cons (.var 1) (.nil)))))
  (.nil)))
def b__law_draw : Sts := .cons (.setix (.var 0) (.str "count") (.prim (.bin .add) (.cons (.prim (.ix) (.cons (.var 0) (.cons (.str "count") (.nil)))) (.cons (.con (.int 1)) (.nil)))))
  (.cons (.ite (.and_ (.cons (.prim (.cm .eq) (.cons (.prim (.ix) (.cons (.var 0) (.cons (.str "digits") (.nil)))) (.cons (.con (.int 0)) (.nil)))) (.cons (.prim (.cm .lt) (.cons (.prim (.ix) (.cons (.var 0) (.cons (.str "at") (.nil)))) (.cons (.prim (.len) (.cons (.prim (.ix) (.cons (.var 0) (.cons (.str "cells") (.nil)))) (.nil))) (.nil)))) (.nil)))) (.cons (.asg (.name 3) (.prim (.ix) (.cons (.prim (.ix) (.cons (.var 0) (.cons (.str "cells") (.nil)))) (.cons (.prim (.ix) (.cons (.var 0) (.cons (.str "at") (.nil)))) (.nil)))))
  (.cons (.setix (.var 0) (.str "at") (.prim (.bin .add) (.cons (.prim (.ix) (.cons (.var 0) (.cons (.str "at") (.nil)))) (.cons (.con (.int 1)) (.nil)))))
  (.cons (.ite (.prim (.cm .ge) (.cons (.var 3) (.cons (.prim (.bin .pow) (.cons (.con (.int 10)) (.cons (.con (.int 18)) (.nil)))) (.nil)))) (.cons (.setix (.var 0) (.str "digits") (.prim (.bin .sub) (.cons (.var 3) (.cons (.prim (.bin .pow) (.cons (.con (.int 10)) (.cons (.con (.int 18)) (.nil)))) (.nil)))))
  (.nil)) (.cons (.setix (.var 0) (.str "fold") (.prim (.bin .mod) (.cons (.prim (.int1) (.cons (.prim (.bin .add) (.cons (.prim (.bin .mul) (.cons (.prim (.ix) (.cons (.var 0) (.cons (.str "fold") (.nil)))) (.cons (.con (.int 69069)) (.nil)))) (.cons (.var 3) (.nil)))) (.nil))) (.cons (.con (.int 2147483587)) (.nil)))))
  (.nil)))
  (.nil)))) (.nil))
  (b__law_draw_1))
theorem c__law_draw : chkSs (Pn 15) (cxtOf N__law_draw (defScope (top 23))) b__law_draw (defBody (top 23)) = true := by decide +kernel
theorem u__law_draw : uniqB (defScope (top 23)) = true := by decide +kernel
theorem s__law_draw : FnScope N__law_draw ["pen", "many"] (defScope (top 23)) := ⟨rfl, rfl, rfl, by decide +kernel, by decide +kernel, by decide +kernel, by decide +kernel⟩
def N__law_pick : List Str := ["pen", "some"]
def b__law_pick : Sts := .cons (.ret (.prim (.ix) (.cons (.var 1) (.cons (.call 15 (.cons (.var 0) (.cons (.prim (.len) (.cons (.var 1) (.nil))) (.nil))) 0) (.nil)))))
  (.nil)
theorem c__law_pick : chkSs (Pn 16) (cxtOf N__law_pick (defScope (top 24))) b__law_pick (defBody (top 24)) = true := by decide +kernel
theorem u__law_pick : uniqB (defScope (top 24)) = true := by decide +kernel
theorem s__law_pick : FnScope N__law_pick ["pen", "some"] (defScope (top 24)) := ⟨rfl, rfl, rfl, by decide +kernel, by decide +kernel, by decide +kernel, by decide +kernel⟩
def N__law_is_truth : List Str := ["value", "due"]
def b__law_is_truth : Sts := .cons (.ret (.and_ (.cons (.prim (.isi [.bool]) (.cons (.var 0) (.nil))) (.cons (.prim (.cm .eq) (.cons (.var 0) (.cons (.var 1) (.nil)))) (.nil)))))
  (.nil)
theorem c__law_is_truth : chkSs (Pn 17) (cxtOf N__law_is_truth (defScope (top 25))) b__law_is_truth (defBody (top 25)) = true := by decide +kernel
theorem u__law_is_truth : uniqB (defScope (top 25)) = true := by decide +kernel
theorem s__law_is_truth : FnScope N__law_is_truth ["value", "due"] (defScope (top 25)) := ⟨rfl, rfl, rfl, by decide +kernel, by decide +kernel, by decide +kernel, by decide +kernel⟩
def N__law_test : List Str := ["pen", "tests", "size", "way"]
def b__law_test : Sts := .cons (.ite (.or_ (.cons (.prim (.cm .lt) (.cons (.var 2) (.cons (.con (.int 2)) (.nil)))) (.cons (.prim (.cm .eq) (.cons (.call 15 (.cons (.var 0) (.cons (.con (.int 3)) (.nil))) 0) (.cons (.con (.int 0)) (.nil)))) (.nil)))) (.cons (.ite (.or_ (.cons (.prim (.cm .eq) (.cons (.var 1) (.cons (.prim (.lst false) (.nil)) (.nil)))) (.cons (.prim (.cm .eq) (.cons (.call 15 (.cons (.var 0) (.cons (.con (.int 6)) (.nil))) 0) (.cons (.con (.int 0)) (.nil)))) (.nil)))) (.cons (.ret (.prim (.tup) (.cons (.call 16 (.cons (.var 0) (.cons (.prim (.lst false) (.cons (.str "true") (.cons (.str "false") (.nil)))) (.nil))) 0) (.nil))))
  (.nil)) (.nil))
  (.cons (.ret (.prim (.tup) (.cons (.str "name") (.cons (.call 16 (.cons (.var 0) (.cons (.prim (.list1 false) (.cons (.var 1) (.nil))) (.nil))) 0) (.nil)))))
  (.nil))) (.nil))
  (.cons (.asg (.name 3) (.call 15 (.cons (.var 0) (.cons (.con (.int 3)) (.nil))) 0))
  (.cons (.ite (.prim (.cm .eq) (.cons (.var 3) (.cons (.con (.int 0)) (.nil)))) (.cons (.ret (.prim (.tup) (.cons (.str "not") (.cons (.call 18 (.cons (.var 0) (.cons (.var 1) (.cons (.prim (.bin .sub) (.cons (.var 2) (.cons (.con (.int 1)) (.nil)))) (.nil)))) 0) (.nil)))))
  (.nil)) (.nil))
  (.cons (.ret (.prim (.tup) (.cons (.prim (.ix) (.cons (.prim (.lst false) (.cons (.str "and") (.cons (.str "or") (.nil)))) (.cons (.prim (.bin .sub) (.cons (.var 3) (.cons (.con (.int 1)) (.nil)))) (.nil)))) (.cons (.call 18 (.cons (.var 0) (.cons (.var 1) (.cons (.prim (.bin .fdiv) (.cons (.var 2) (.cons (.con (.int 2)) (.nil)))) (.nil)))) 0) (.cons (.call 18 (.cons (.var 0) (.cons (.var 1) (.cons (.prim (.bin .fdiv) (.cons (.var 2) (.cons (.con (.int 2)) (.nil)))) (.nil)))) 0) (.nil))))))
  (.nil))))
theorem c__law_test : chkSs (Pn 19) (cxtOf N__law_test (defScope (top 26))) b__law_test (defBody (top 26)) = true := by decide +kernel
theorem u__law_test : uniqB (defScope (top 26)) = true := by decide +kernel
theorem s__law_test : FnScope N__law_test ["pen", "tests", "size"] (defScope (top 26)) := ⟨rfl, rfl, rfl, by decide +kernel, by decide +kernel, by decide +kernel, by decide +kernel⟩
def N__law_names : List Str := ["pen", "tests", "deeds"]
def b__law_names : Sts := .cons (.asg (.name 1) (.call 16 (.cons (.var 0) (.cons (.prim (.lst false) (.cons (.prim (.lst false) (.nil)) (.cons (.prim (.lst false) (.cons (.str "p") (.nil))) (.cons (.prim (.lst false) (.cons (.str "p") (.nil))) (.cons (.prim (.lst false) (.cons (.str "p") (.cons (.str "q") (.nil)))) (.cons (.prim (.lst false) (.cons (.str "q") (.cons (.str "p") (.nil)))) (.nil))))))) (.nil))) 0))
  (.cons (.asg (.name 2) (.call 16 (.cons (.var 0) (.cons (.prim (.lst false) (.cons (.prim (.lst false) (.cons (.str "a") (.nil))) (.cons (.prim (.lst false) (.cons (.str "a") (.cons (.str "b") (.nil)))) (.cons (.prim (.lst false) (.cons (.str "b") (.cons (.str "a") (.nil)))) (.nil))))) (.nil))) 0))
  (.cons (.ret (.prim (.tup) (.cons (.prim (.list1 false) (.cons (.var 1) (.nil))) (.cons (.prim (.list1 false) (.cons (.var 2) (.nil))) (.nil)))))
  (.nil)))
theorem c__law_names : chkSs (Pn 19) (cxtOf N__law_names (defScope (top 27))) b__law_names (defBody (top 27)) = true := by decide +kernel
theorem u__law_names : uniqB (defScope (top 27)) = true := by decide +kernel
theorem s__law_names : FnScope N__law_names ["pen"] (defScope (top 27)) := ⟨rfl, rfl, rfl, by decide +kernel, by decide +kernel, by decide +kernel, by decide +kernel⟩
def N__law_l_none : List Str := ["pen"]
def b__law_l_none : Sts := .cons (.ret (.call 16 (.cons (.var 0) (.cons (.prim (.lst false) (.cons (.con .none) (.cons (.con (.int 3)) (.cons (.str "a") (.cons (.prim (.tup) (.nil)) (.cons (.prim (.tup) (.cons (.str "skip") (.nil))) (.cons (.prim (.tup) (.cons (.str "true") (.nil))) (.cons (.prim (.tup) (.cons (.str "whole") (.cons (.prim (.tup) (.nil)) (.cons (.prim (.tup) (.nil)) (.cons (.prim (.tup) (.nil)) (.nil)))))) (.cons (.prim (.tup) (.cons (.str "whole") (.cons (.prim (.tup) (.cons (.str "a") (.nil))) (.cons (.prim (.tup) (.cons (.str "a") (.nil))) (.cons (.prim (.tup) (.nil)) (.cons (.prim (.tup) (.cons (.str "same") (.cons (.prim (.tup) (.cons (.str "skip") (.nil))) (.cons (.prim (.tup) (.cons (.str "skip") (.nil))) (.nil))))) (.nil))))))) (.cons (.prim (.lst false) (.cons (.str "whole") (.cons (.prim (.tup) (.nil)) (.cons (.prim (.tup) (.nil)) (.cons (.prim (.tup) (.nil)) (.cons (.prim (.tup) (.cons (.str "same") (.cons (.prim (.tup) (.cons (.str "skip") (.nil))) (.cons (.prim (.tup) (.cons (.str "skip") (.nil))) (.nil))))) (.nil))))))) (.cons (.con (.bool true)) (.nil)))))))))))) (.nil))) 0))
  (.nil)
theorem c__law_l_none : chkSs (Pn 20) (cxtOf N__law_l_none (defScope (top 28))) b__law_l_none (defBody (top 28)) = true := by decide +kernel
theorem u__law_l_none : uniqB (defScope (top 28)) = true := by decide +kernel
theorem s__law_l_none : FnScope N__law_l_none ["pen"] (defScope (top 28)) := ⟨rfl, rfl, rfl, by decide +kernel, by decide +kernel, by decide +kernel, by decide +kernel⟩
def N__law_l_program : List Str := ["pen", "tests", "deeds", "size", "some", "lap", "found", "part", "head", "leaf", "other"]
def b__law_l_program_l156 : Sts := .cons (.ite (.and_ (.cons (.prim (.cm .lt) (.cons (.var 9) (.cons (.con (.int 4)) (.nil)))) (.cons (.prim (.cm .ne) (.cons (.var 2) (.cons (.prim (.lst false) (.nil)) (.nil)))) (.nil)))) (.cons (.expr (.meth .append (.var 4) (.cons (.prim (.tup) (.cons (.str "deed") (.cons (.call 16 (.cons (.var 0) (.cons (.var 2) (.nil))) 0) (.nil)))) (.nil))))
  (.nil)) (.cons (.expr (.meth .append (.var 4) (.cons (.call 16 (.cons (.var 0) (.cons (.prim (.lst false) (.cons (.prim (.tup) (.cons (.str "skip") (.nil))) (.cons (.prim (.tup) (.cons (.str "stop") (.nil))) (.cons (.prim (.tup) (.cons (.str "assume") (.cons (.call 18 (.cons (.var 0) (.cons (.var 1) (.cons (.con (.int 2)) (.nil)))) 0) (.nil)))) (.nil))))) (.nil))) 0) (.nil))))
  (.nil)))
  (.nil)
def b__law_l_program_l155 : Sts := .cons (.asg (.name 9) (.call 15 (.cons (.var 0) (.cons (.con (.int 7)) (.nil))) 0))
  (b__law_l_program_l156)
def b__law_l_program_l162 : Sts := .cons (.expr (.meth .append (.var 4) (.cons (.prim (.tup) (.cons (.call 16 (.cons (.var 0) (.cons (.prim (.lst false) (.cons (.str "then") (.cons (.str "then") (.cons (.str "choose") (.nil))))) (.nil))) 0) (.cons (.meth .pop (.var 4) .nil) (.cons (.var 10) (.nil))))) (.nil))))
  (.nil)
def b__law_l_program_l161 : Sts := .cons (.asg (.name 10) (.meth .pop (.var 4) .nil))
  (b__law_l_program_l162)
def b__law_l_program_l165 : Sts := .cons (.expr (.meth .append (.var 4) (.cons (.prim (.tup) (.cons (.str "if") (.cons (.call 18 (.cons (.var 0) (.cons (.var 1) (.cons (.con (.int 2)) (.nil)))) 0) (.cons (.meth .pop (.var 4) .nil) (.cons (.var 10) (.nil)))))) (.nil))))
  (.nil)
def b__law_l_program_l164 : Sts := .cons (.asg (.name 10) (.meth .pop (.var 4) .nil))
  (b__law_l_program_l165)
def b__law_l_program_l168 : Sts := .cons (.ite (.prim (.cm .eq) (.cons (.var 8) (.cons (.con (.int 7)) (.nil)))) (.cons (.expr (.meth .append (.var 4) (.cons (.call 16 (.cons (.var 0) (.cons (.prim (.lst false) (.cons (.prim (.tup) (.cons (.str "loop") (.cons (.meth .pop (.var 4) .nil) (.nil)))) (.cons (.prim (.tup) (.cons (.str "if") (.cons (.call 18 (.cons (.var 0) (.cons (.var 1) (.cons (.con (.int 2)) (.nil)))) 0) (.cons (.prim (.tup) (.cons (.str "skip") (.nil))) (.cons (.prim (.tup) (.cons (.str "skip") (.nil))) (.nil)))))) (.nil)))) (.nil))) 0) (.nil))))
  (.nil)) (.cons (.expr (.meth .append (.var 4) (.cons (.prim (.tup) (.cons (.str "repeat") (.cons (.meth .pop (.var 4) .nil) (.cons (.call 18 (.cons (.var 0) (.cons (.var 1) (.cons (.con (.int 2)) (.nil)))) 0) (.nil))))) (.nil))))
  (.nil)))
  (.nil)
def b__law_l_program_l166 : Sts := .cons (.ite (.prim (.cm .eq) (.cons (.var 8) (.cons (.con (.int 6)) (.nil)))) (.cons (.expr (.meth .append (.var 4) (.cons (.prim (.tup) (.cons (.str "while") (.cons (.call 18 (.cons (.var 0) (.cons (.var 1) (.cons (.con (.int 2)) (.nil)))) 0) (.cons (.meth .pop (.var 4) .nil) (.nil))))) (.nil))))
  (.nil)) (b__law_l_program_l168))
  (.nil)
def b__law_l_program_l163 : Sts := .cons (.ite (.and_ (.cons (.prim (.cm .eq) (.cons (.var 8) (.cons (.con (.int 5)) (.nil)))) (.cons (.prim (.cm .gt) (.cons (.prim (.len) (.cons (.var 4) (.nil))) (.cons (.con (.int 1)) (.nil)))) (.nil)))) (b__law_l_program_l164) (b__law_l_program_l166))
  (.nil)
def b__law_l_program_l160 : Sts := .cons (.ite (.and_ (.cons (.prim (.cm .lt) (.cons (.var 8) (.cons (.con (.int 5)) (.nil)))) (.cons (.prim (.cm .gt) (.cons (.prim (.len) (.cons (.var 4) (.nil))) (.cons (.con (.int 1)) (.nil)))) (.nil)))) (b__law_l_program_l161) (b__law_l_program_l163))
  (.nil)
def b__law_l_program_l154 : Sts := .cons (.ite (.prim (.cm .lt) (.cons (.var 8) (.cons (.con (.int 3)) (.nil)))) (b__law_l_program_l155) (b__law_l_program_l160))
  (.nil)
def b__law_l_program_l153 : Sts := .cons (.asg (.name 8) (.ife (.prim (.cm .ne) (.cons (.var 4) (.cons (.prim (.lst false) (.nil)) (.nil)))) (.call 15 (.cons (.var 0) (.cons (.con (.int 9)) (.nil))) 0) (.con (.int 0))))
  (b__law_l_program_l154)
def b__law_l_program_l175 : Sts := .cons (.ret (.var 6))
  (.nil)
def b__law_l_program_l173 : Sts := .cons (.forr (.name 7) (.val (.prim (.sl true false) (.cons (.var 4) (.cons (.con (.int 1)) (.nil))))) (.cons (.asg (.name 6) (.prim (.tup) (.cons (.str "then") (.cons (.var 6) (.cons (.var 7) (.nil))))))
  (.nil)))
  (b__law_l_program_l175)
def b__law_l_program_l172 : Sts := .cons (.asg (.name 6) (.prim (.ix) (.cons (.var 4) (.cons (.con (.int 0)) (.nil)))))
  (b__law_l_program_l173)
def b__law_l_program_l152 : Sts := .cons (.forr (.name 5) (.rng (.cons (.var 3) (.nil))) (b__law_l_program_l153))
  (b__law_l_program_l172)
def b__law_l_program : Sts := .cons (.asg (.name 4) (.prim (.lst true) (.nil)))
  (b__law_l_program_l152)
theorem c__law_l_program : chkSs (Pn 21) (cxtOf N__law_l_program (defScope (top 29))) b__law_l_program (defBody (top 29)) = true := by decide +kernel
theorem u__law_l_program : uniqB (defScope (top 29)) = true := by decide +kernel
theorem s__law_l_program : FnScope N__law_l_program ["pen", "tests", "deeds", "size"] (defScope (top 29)) := ⟨rfl, rfl, rfl, by decide +kernel, by decide +kernel, by decide +kernel, by decide +kernel⟩
def N__law_l_statement : List Str := ["pen", "tests", "deeds", "heads", "size", "head", "program"]
def b__law_l_statement : Sts := .cons (.asg (.name 5) (.call 16 (.cons (.var 0) (.cons (.var 3) (.nil))) 0))
  (.cons (.asg (.name 6) (.call 21 (.cons (.var 0) (.cons (.var 1) (.cons (.var 2) (.cons (.prim (.bin .add) (.cons (.con (.int 1)) (.cons (.call 15 (.cons (.var 0) (.cons (.var 4) (.nil))) 0) (.nil)))) (.nil))))) 0))
  (.cons (.ite (.prim (.cm .eq) (.cons (.var 5) (.cons (.str "never") (.nil)))) (.cons (.ret (.prim (.tup) (.cons (.var 5) (.cons (.var 6) (.nil)))))
  (.nil)) (.nil))
  (.cons (.ite (.prim (.cm .isin) (.cons (.var 5) (.cons (.prim (.lst false) (.cons (.str "keeps") (.cons (.str "leaves") (.nil)))) (.nil)))) (.cons (.ret (.prim (.tup) (.cons (.var 5) (.cons (.var 6) (.cons (.call 18 (.cons (.var 0) (.cons (.var 1) (.cons (.con (.int 2)) (.nil)))) 0) (.nil))))))
  (.nil)) (.nil))
  (.cons (.ite (.prim (.cm .eq) (.cons (.var 5) (.cons (.str "triple") (.nil)))) (.cons (.ret (.prim (.tup) (.cons (.var 5) (.cons (.call 18 (.cons (.var 0) (.cons (.var 1) (.cons (.con (.int 2)) (.nil)))) 0) (.cons (.var 6) (.cons (.call 18 (.cons (.var 0) (.cons (.var 1) (.cons (.con (.int 2)) (.nil)))) 0) (.nil)))))))
  (.nil)) (.nil))
  (.cons (.ret (.prim (.tup) (.cons (.var 5) (.cons (.var 6) (.cons (.call 21 (.cons (.var 0) (.cons (.var 1) (.cons (.var 2) (.cons (.prim (.bin .add) (.cons (.con (.int 1)) (.cons (.call 15 (.cons (.var 0) (.cons (.var 4) (.nil))) 0) (.nil)))) (.nil))))) 0) (.nil))))))
  (.nil))))))
theorem c__law_l_statement : chkSs (Pn 22) (cxtOf N__law_l_statement (defScope (top 30))) b__law_l_statement (defBody (top 30)) = true := by decide +kernel
theorem u__law_l_statement : uniqB (defScope (top 30)) = true := by decide +kernel
theorem s__law_l_statement : FnScope N__law_l_statement ["pen", "tests", "deeds", "heads", "size"] (defScope (top 30)) := ⟨rfl, rfl, rfl, by decide +kernel, by decide +kernel, by decide +kernel, by decide +kernel⟩
def N__law_l_whole : List Str := ["pen", "heads", "size", "given", "some", "tests", "deeds", "lap"]
def b__law_l_whole : Sts := .cons (.asg (.tup [.name 5, .name 6]) (.call 19 (.cons (.var 0) (.nil)) 0))
  (.cons (.asg (.name 4) (.comp false (.call 22 (.cons (.var 0) (.cons (.var 5) (.cons (.var 6) (.cons (.prim (.lst false) (.cons (.str "never") (.cons (.str "keeps") (.cons (.str "leaves") (.cons (.str "triple") (.nil)))))) (.cons (.con (.int 2)) (.nil)))))) 0) (.name 7) (.rng (.cons (.call 15 (.cons (.var 0) (.cons (.prim (.bin .add) (.cons (.var 3) (.cons (.con (.int 1)) (.nil)))) (.nil))) 0) (.nil))) (.nil) [7]))
  (.cons (.ret (.prim (.tup) (.cons (.str "whole") (.cons (.prim (.tuple1) (.cons (.var 5) (.nil))) (.cons (.prim (.tuple1) (.cons (.var 6) (.nil))) (.cons (.prim (.tuple1) (.cons (.var 4) (.nil))) (.cons (.call 22 (.cons (.var 0) (.cons (.var 5) (.cons (.var 6) (.cons (.var 1) (.cons (.var 2) (.nil)))))) 0) (.nil))))))))
  (.nil)))
theorem c__law_l_whole : chkSs (Pn 23) (cxtOf N__law_l_whole (defScope (top 31))) b__law_l_whole (defBody (top 31)) = true := by decide +kernel
theorem u__law_l_whole : uniqB (defScope (top 31)) = true := by decide +kernel
theorem s__law_l_whole : FnScope N__law_l_whole ["pen", "heads", "size", "given"] (defScope (top 31)) := ⟨rfl, rfl, rfl, by decide +kernel, by decide +kernel, by decide +kernel, by decide +kernel⟩
def N__law_paths : List Str := ["tree", "found", "at", "path", "here", "k", "part"]
def b__law_paths_1 : Sts := .cons (.asg (.tup [.name 3, .name 4]) (.prim (.ix) (.cons (.var 1) (.cons (.var 2) (.nil)))))
  (.cons (.asg (.name 1) (.prim (.bin .add) (.cons (.var 1) (.cons (.comp false (.prim (.tup) (.cons (.prim (.bin .add) (.cons (.var 3) (.cons (.prim (.tup) (.cons (.var 5) (.nil))) (.nil)))) (.cons (.var 6) (.nil)))) (.tup [.name 5, .name 6]) (.enum (.var 4)) (.cons (.prim (.isi [.tuple]) (.cons (.var 6) (.nil))) (.nil)) [5, 6]) (.nil)))))
  (.cons (.asg (.name 2) (.prim (.bin .add) (.cons (.var 2) (.cons (.con (.int 1)) (.nil)))))
  (.nil)))
def b__law_paths_2 : Sts := .cons (.ret (.var 1))
  (.nil)
def b__law_paths : Sts := .cons (.par 1 2 (.prim (.lst false) (.cons (.prim (.tup) (.cons (.prim (.tup) (.nil)) (.cons (.var 0) (.nil)))) (.nil))) (.con (.int 0)))
  (.cons (.whl (.prim (.cm .lt) (.cons (.var 2) (.cons (.prim (.len) (.cons (.var 1) (.nil))) (.nil)))) (b__law_paths_1))
  (b__law_paths_2))
theorem c__law_paths : chkSs (Pn 24) (cxtOf N__law_paths (defScope (top 32))) b__law_paths (defBody (top 32)) = true := by decide +kernel
theorem u__law_paths : uniqB (defScope (top 32)) = true := by decide +kernel
theorem s__law_paths : FnScope N__law_paths ["tree"] (defScope (top 32)) := ⟨rfl, rfl, rfl, by decide +kernel, by decide +kernel, by decide +kernel, by decide +kernel⟩
def N__law_put : List Str := ["tree", "path", "new"]
def b__law_put : Sts := .cons (.ite (.prim (.cm .eq) (.cons (.var 1) (.cons (.prim (.tup) (.nil)) (.nil)))) (.cons (.ret (.var 2))
  (.nil)) (.nil))
  (.cons (.ret (.prim (.bin .add) (.cons (.prim (.bin .add) (.cons (.prim (.sl false true) (.cons (.var 0) (.cons (.prim (.ix) (.cons (.var 1) (.cons (.con (.int 0)) (.nil)))) (.nil)))) (.cons (.prim (.tup) (.cons (.call 25 (.cons (.prim (.ix) (.cons (.var 0) (.cons (.prim (.ix) (.cons (.var 1) (.cons (.con (.int 0)) (.nil)))) (.nil)))) (.cons (.prim (.sl true false) (.cons (.var 1) (.cons (.con (.int 1)) (.nil)))) (.cons (.var 2) (.nil)))) 0) (.nil))) (.nil)))) (.cons (.prim (.sl true false) (.cons (.var 0) (.cons (.prim (.bin .add) (.cons (.prim (.ix) (.cons (.var 1) (.cons (.con (.int 0)) (.nil)))) (.cons (.con (.int 1)) (.nil)))) (.nil)))) (.nil)))))
  (.nil))
theorem c__law_put : chkSs (Pn 26) (cxtOf N__law_put (defScope (top 33))) b__law_put (defBody (top 33)) = true := by decide +kernel
theorem u__law_put : uniqB (defScope (top 33)) = true := by decide +kernel
theorem s__law_put : FnScope N__law_put ["tree", "path", "new"] (defScope (top 33)) := ⟨rfl, rfl, rfl, by decide +kernel, by decide +kernel, by decide +kernel, by decide +kernel⟩
def N__law_bad : List Str := ["pen", "part"]
def b__law_bad : Sts := .cons (.ret (.call 16 (.cons (.var 0) (.cons (.prim (.lst false) (.cons (.con .none) (.cons (.con (.int 3)) (.cons (.str "skip") (.cons (.prim (.tup) (.nil)) (.cons (.prim (.list1 false) (.cons (.var 1) (.nil))) (.cons (.prim (.bin .add) (.cons (.var 1) (.cons (.prim (.tup) (.cons (.prim (.tup) (.cons (.str "skip") (.nil))) (.nil))) (.nil)))) (.cons (.prim (.tup) (.cons (.str "do") (.cons (.var 1) (.nil)))) (.cons (.prim (.tup) (.cons (.str "deed") (.cons (.str "If") (.nil)))) (.cons (.prim (.tup) (.cons (.str "deed") (.cons (.str "end") (.nil)))) (.cons (.prim (.tup) (.cons (.str "name") (.cons (.str "1p") (.nil)))) (.cons (.prim (.tup) (.cons (.str "name") (.cons (.str "") (.nil)))) (.cons (.prim (.tup) (.cons (.str "deed") (.cons (.str "abcdefghi") (.nil)))) (.cons (.prim (.tup) (.cons (.con .none) (.nil))) (.nil))))))))))))))) (.nil))) 0))
  (.nil)
theorem c__law_bad : chkSs (Pn 26) (cxtOf N__law_bad (defScope (top 34))) b__law_bad (defBody (top 34)) = true := by decide +kernel
theorem u__law_bad : uniqB (defScope (top 34)) = true := by decide +kernel
theorem s__law_bad : FnScope N__law_bad ["pen", "part"] (defScope (top 34)) := ⟨rfl, rfl, rfl, by decide +kernel, by decide +kernel, by decide +kernel, by decide +kernel⟩
def N_law : List Str := ["script", "pen", "lap", "plain", "nothing", "whole", "first", "some", "tests", "deeds", "test", "program", "path", "part", "value"]
def b_law_l225 : Sts := .cons (.ite (.prim (.cm .ne) (.cons (.comp false (.con (.int 1)) (.name 14) (.val (.var 7)) (.cons (.call 13 (.cons (.var 14) (.nil)) 0) (.nil)) [14]) (.cons (.prim (.lst false) (.nil)) (.nil)))) (.cons (.ret (.con (.bool false)))
  (.nil)) (.nil))
  (.nil)
def b_law_l224 : Sts := .cons (.asg (.name 7) (.prim (.bin .add) (.cons (.var 7) (.cons (.prim (.lst false) (.cons (.prim (.tup) (.cons (.str "whole") (.cons (.prim (.tup) (.cons (.str "x") (.cons (.str "x") (.nil)))) (.cons (.prim (.ix) (.cons (.var 5) (.cons (.con (.int 2)) (.nil)))) (.cons (.prim (.tup) (.nil)) (.cons (.prim (.tup) (.cons (.str "same") (.cons (.prim (.tup) (.cons (.str "skip") (.nil))) (.cons (.prim (.tup) (.cons (.str "skip") (.nil))) (.nil))))) (.nil))))))) (.cons (.prim (.tup) (.cons (.str "whole") (.cons (.prim (.tup) (.cons (.str "and") (.nil))) (.cons (.prim (.tup) (.nil)) (.cons (.prim (.tup) (.nil)) (.cons (.prim (.tup) (.cons (.str "same") (.cons (.prim (.tup) (.cons (.str "skip") (.nil))) (.cons (.prim (.tup) (.cons (.str "skip") (.nil))) (.nil))))) (.nil))))))) (.cons (.prim (.bin .add) (.cons (.prim (.sl false true) (.cons (.var 5) (.cons (.con (.int 4)) (.nil)))) (.cons (.prim (.tup) (.cons (.prim (.tup) (.cons (.str "same") (.cons (.prim (.tup) (.cons (.str "skip") (.nil))) (.nil)))) (.nil))) (.nil)))) (.cons (.prim (.bin .add) (.cons (.prim (.sl false true) (.cons (.var 5) (.cons (.con (.int 4)) (.nil)))) (.cons (.prim (.tup) (.cons (.con .none) (.nil))) (.nil)))) (.nil)))))) (.nil)))))
  (b_law_l225)
def b_law_l223 : Sts := .cons (.asg (.name 7) (.prim (.bin .add) (.cons (.var 7) (.cons (.prim (.lst false) (.cons (.prim (.bin .add) (.cons (.prim (.sl false true) (.cons (.var 5) (.cons (.con (.int 3)) (.nil)))) (.cons (.prim (.tup) (.cons (.prim (.bin .add) (.cons (.prim (.ix) (.cons (.var 5) (.cons (.con (.int 3)) (.nil)))) (.cons (.prim (.tup) (.cons (.prim (.tup) (.cons (.str "same") (.cons (.prim (.tup) (.cons (.str "skip") (.nil))) (.cons (.prim (.tup) (.cons (.str "skip") (.nil))) (.nil))))) (.nil))) (.nil)))) (.cons (.prim (.ix) (.cons (.var 5) (.cons (.con (.int 4)) (.nil)))) (.nil)))) (.nil)))) (.cons (.prim (.bin .add) (.cons (.prim (.sl false true) (.cons (.var 5) (.cons (.con (.int 4)) (.nil)))) (.cons (.prim (.tup) (.cons (.prim (.tup) (.cons (.str "same") (.cons (.prim (.tup) (.cons (.str "deed") (.cons (.str "zz") (.nil)))) (.cons (.prim (.tup) (.cons (.str "skip") (.nil))) (.nil))))) (.nil))) (.nil)))) (.cons (.prim (.bin .add) (.cons (.prim (.sl false true) (.cons (.var 5) (.cons (.con (.int 3)) (.nil)))) (.cons (.prim (.tup) (.cons (.prim (.tup) (.cons (.prim (.tup) (.cons (.str "never") (.cons (.prim (.tup) (.cons (.str "assume") (.cons (.prim (.tup) (.cons (.str "name") (.cons (.str "zz") (.nil)))) (.nil)))) (.nil)))) (.nil))) (.cons (.prim (.ix) (.cons (.var 5) (.cons (.con (.int 4)) (.nil)))) (.nil)))) (.nil)))) (.nil))))) (.nil)))))
  (b_law_l224)
def b_law_l222 : Sts := .cons (.asg (.name 7) (.prim (.lst false) (.cons (.prim (.bin .add) (.cons (.prim (.tup) (.cons (.str "whole") (.cons (.prim (.list1 false) (.cons (.prim (.ix) (.cons (.var 5) (.cons (.con (.int 1)) (.nil)))) (.nil))) (.nil)))) (.cons (.prim (.sl true false) (.cons (.var 5) (.cons (.con (.int 2)) (.nil)))) (.nil)))) (.cons (.prim (.bin .add) (.cons (.prim (.bin .add) (.cons (.prim (.sl false true) (.cons (.var 5) (.cons (.con (.int 1)) (.nil)))) (.cons (.prim (.tup) (.cons (.var 6) (.cons (.prim (.ix) (.cons (.var 5) (.cons (.con (.int 2)) (.nil)))) (.nil)))) (.nil)))) (.cons (.prim (.sl true false) (.cons (.var 5) (.cons (.con (.int 3)) (.nil)))) (.nil)))) (.cons (.prim (.bin .add) (.cons (.prim (.sl false true) (.cons (.var 5) (.cons (.con (.int 3)) (.nil)))) (.cons (.prim (.tup) (.cons (.prim (.list1 false) (.cons (.prim (.ix) (.cons (.var 5) (.cons (.con (.int 3)) (.nil)))) (.nil))) (.cons (.prim (.ix) (.cons (.var 5) (.cons (.con (.int 4)) (.nil)))) (.nil)))) (.nil)))) (.cons (.prim (.bin .add) (.cons (.prim (.sl false true) (.cons (.var 5) (.cons (.con (.int 4)) (.nil)))) (.cons (.prim (.tup) (.cons (.prim (.tup) (.cons (.str "keeps") (.cons (.var 11) (.cons (.var 10) (.nil))))) (.nil))) (.nil)))) (.cons (.prim (.bin .add) (.cons (.var 5) (.cons (.prim (.tup) (.cons (.prim (.tup) (.nil)) (.nil))) (.nil)))) (.cons (.prim (.bin .add) (.cons (.prim (.tup) (.cons (.str "Whole") (.nil))) (.cons (.prim (.sl true false) (.cons (.var 5) (.cons (.con (.int 1)) (.nil)))) (.nil)))) (.nil)))))))))
  (b_law_l223)
def b_law_l221 : Sts := .cons (.asg (.name 6) (.prim (.bin .add) (.cons (.prim (.ix) (.cons (.var 5) (.cons (.con (.int 1)) (.nil)))) (.cons (.prim (.ix) (.cons (.var 5) (.cons (.con (.int 2)) (.nil)))) (.nil)))))
  (b_law_l222)
def b_law_l219 : Sts := .cons (.ite (.or_ (.cons (.prim (.cm .ne) (.cons (.call 7 (.cons (.prim (.tup) (.cons (.str "then") (.cons (.var 11) (.cons (.var 10) (.nil))))) (.nil)) 0) (.cons (.call 7 (.cons (.var 10) (.nil)) 0) (.nil)))) (.cons (.call 5 (.cons (.prim (.tup) (.cons (.str "and") (.cons (.var 10) (.cons (.var 11) (.nil))))) (.nil)) 0) (.cons (.call 7 (.cons (.prim (.tup) (.cons (.str "assume") (.cons (.var 11) (.nil)))) (.nil)) 0) (.nil))))) (.cons (.ret (.con (.bool false)))
  (.nil)) (.nil))
  (b_law_l221)
def b_law_l217 : Sts := .cons (.ite (.not_ (.call 17 (.cons (.call 7 (.cons (.call 25 (.cons (.var 11) (.cons (.var 12) (.cons (.call 26 (.cons (.var 1) (.cons (.var 13) (.nil))) 0) (.nil)))) 0) (.nil)) 0) (.cons (.con (.bool false)) (.nil))) 0)) (.cons (.ret (.con (.bool false)))
  (.nil)) (.nil))
  (b_law_l219)
def b_law_l216 : Sts := .cons (.asg (.tup [.name 12, .name 13]) (.call 16 (.cons (.var 1) (.cons (.call 24 (.cons (.var 11) (.nil)) 0) (.nil))) 0))
  (b_law_l217)
def b_law_l214 : Sts := .cons (.ite (.not_ (.call 17 (.cons (.call 5 (.cons (.call 25 (.cons (.var 10) (.cons (.var 12) (.cons (.call 26 (.cons (.var 1) (.cons (.var 13) (.nil))) 0) (.nil)))) 0) (.nil)) 0) (.cons (.con (.bool false)) (.nil))) 0)) (.cons (.ret (.con (.bool false)))
  (.nil)) (.nil))
  (b_law_l216)
def b_law_l213 : Sts := .cons (.asg (.tup [.name 12, .name 13]) (.call 16 (.cons (.var 1) (.cons (.call 24 (.cons (.var 10) (.nil)) 0) (.nil))) 0))
  (b_law_l214)
def b_law_l211 : Sts := .cons (.ite (.or_ (.cons (.prim (.cm .ne) (.cons (.call 7 (.cons (.var 10) (.nil)) 0) (.cons (.prim (.cm .isin) (.cons (.var 10) (.cons (.prim (.lst false) (.cons (.prim (.tup) (.cons (.str "skip") (.nil))) (.cons (.prim (.tup) (.cons (.str "stop") (.nil))) (.nil)))) (.nil)))) (.nil)))) (.cons (.call 5 (.cons (.var 5) (.nil)) 0) (.cons (.call 7 (.cons (.var 5) (.nil)) 0) (.cons (.call 13 (.cons (.var 11) (.nil)) 0) (.nil)))))) (.cons (.ret (.con (.bool false)))
  (.nil)) (.nil))
  (b_law_l213)
def b_law_l209 : Sts := .cons (.ite (.or_ (.cons (.not_ (.call 17 (.cons (.call 5 (.cons (.var 10) (.nil)) 0) (.cons (.con (.bool true)) (.nil))) 0)) (.cons (.not_ (.call 17 (.cons (.call 7 (.cons (.var 11) (.nil)) 0) (.cons (.con (.bool true)) (.nil))) 0)) (.cons (.not_ (.call 17 (.cons (.call 13 (.cons (.var 5) (.nil)) 0) (.cons (.con (.bool true)) (.nil))) 0)) (.nil))))) (.cons (.ret (.con (.bool false)))
  (.nil)) (.nil))
  (b_law_l211)
def b_law_l208 : Sts := .cons (.asg (.name 5) (.call 23 (.cons (.var 1) (.cons (.prim (.lst false) (.cons (.str "same") (.cons (.str "below") (.cons (.str "triple") (.nil))))) (.cons (.con (.int 4)) (.cons (.con (.int 3)) (.nil))))) 0))
  (b_law_l209)
def b_law_l207 : Sts := .cons (.par 10 11 (.call 18 (.cons (.var 1) (.cons (.var 8) (.cons (.con (.int 6)) (.nil)))) 0) (.call 21 (.cons (.var 1) (.cons (.var 8) (.cons (.var 9) (.cons (.prim (.bin .add) (.cons (.con (.int 2)) (.cons (.call 15 (.cons (.var 1) (.cons (.con (.int 9)) (.nil))) 0) (.nil)))) (.nil))))) 0))
  (b_law_l208)
def b_law_l206 : Sts := .cons (.asg (.tup [.name 8, .name 9]) (.call 19 (.cons (.var 1) (.nil)) 0))
  (b_law_l207)
def b_law_l231 : Sts := .cons (.ret (.and_ (.cons (.call 13 (.cons (.var 3) (.nil)) 0) (.cons (.call 13 (.cons (.prim (.tup) (.cons (.str "whole") (.cons (.prim (.tup) (.cons (.str "p") (.nil))) (.cons (.prim (.tup) (.cons (.str "a") (.nil))) (.cons (.prim (.tup) (.cons (.prim (.tup) (.cons (.str "leaves") (.cons (.prim (.tup) (.cons (.str "deed") (.cons (.str "a") (.nil)))) (.cons (.prim (.tup) (.cons (.str "name") (.cons (.str "p") (.nil)))) (.nil))))) (.nil))) (.cons (.prim (.tup) (.cons (.str "triple") (.cons (.prim (.tup) (.cons (.str "name") (.cons (.str "p") (.nil)))) (.cons (.prim (.tup) (.cons (.str "deed") (.cons (.str "a") (.nil)))) (.cons (.prim (.tup) (.cons (.str "true") (.nil))) (.nil)))))) (.nil))))))) (.nil)) 0) (.nil)))))
  (.nil)
def b_law_l229 : Sts := .cons (.ite (.or_ (.cons (.call 13 (.cons (.var 4) (.nil)) 0) (.cons (.call 5 (.cons (.con .none) (.nil)) 0) (.cons (.call 7 (.cons (.con .none) (.nil)) 0) (.cons (.call 5 (.cons (.str "true") (.nil)) 0) (.cons (.call 7 (.cons (.prim (.lst false) (.cons (.str "skip") (.nil))) (.nil)) 0) (.nil))))))) (.cons (.ret (.con (.bool false)))
  (.nil)) (.nil))
  (b_law_l231)
def b_law_l228 : Sts := .cons (.asg (.name 4) (.call 20 (.cons (.var 1) (.nil)) 0))
  (b_law_l229)
def b_law_l227 : Sts := .cons (.asg (.name 3) (.prim (.tup) (.cons (.str "whole") (.cons (.prim (.tup) (.nil)) (.cons (.prim (.tup) (.nil)) (.cons (.prim (.tup) (.nil)) (.cons (.prim (.tup) (.cons (.str "same") (.cons (.prim (.tup) (.cons (.str "skip") (.nil))) (.cons (.prim (.tup) (.cons (.str "stop") (.nil))) (.nil))))) (.nil))))))))
  (b_law_l228)
def b_law_l205 : Sts := .cons (.forr (.name 2) (.rng (.cons (.con (.int 3)) (.nil))) (b_law_l206))
  (b_law_l227)
def b_law : Sts := .cons (.asg (.name 1) (.call 14 (.cons (.var 0) (.nil)) 0))
  (b_law_l205)
theorem c_law : chkSs (Pn 27) (cxtOf N_law (defScope (top 35))) b_law (defBody (top 35)) = true := by decide +kernel
theorem u_law : uniqB (defScope (top 35)) = true := by decide +kernel
theorem s_law : FnScope N_law ["script"] (defScope (top 35)) := ⟨rfl, rfl, rfl, by decide +kernel, by decide +kernel, by decide +kernel, by decide +kernel⟩
end K03

set_option Elab.async false
set_option linter.all false
set_option maxRecDepth 100000
set_option maxHeartbeats 4000000
namespace K03
open PySem PY
/-- the constants -/
structure Cn (S : Sg) : Prop where
  small : S.con 0 = .str smallS
  fig : S.con 1 = .str figS
  longest : S.con 2 = .int 8
  words : S.con 3 = .tup (wordsL.map .str)
theorem ok_and {d : D} (h : okD d = true) : plain d = true ∧ shorts d = true := by
  unfold okD at h; rwa [Bool.and_eq_true] at h
theorem w_is_row (S : Sg) : Body S sp_is_row b_is_row N_is_row 1 := by
  intro ds μ Q E h hl hb hw
  match ds, hl with
  | [v], _ =>
    obtain ⟨hp, q⟩ := h
    obtain ⟨hp, hs⟩ := ok_and hp
    have e : startD N_is_row [v] = [some v] := rfl
    rw [e]
    unfold b_is_row
    have ed := EndD.same (d := .bl (isRow v)) hw rfl q
    cases v <;> simp [isRow, ss_nil, ss_cons, wpS, wpE, wpAnd, wpEs, vtIs] at hp ed ⊢ <;> exact ed
theorem w_is_head (S : Sg) : Body S sp_is_head b_is_head N_is_head 3 := by
  intro ds μ Q E h hl hb hw
  match ds, hl with
  | [v, hh, nn], _ =>
    cases hh with
    | tup hs =>
      cases nn with
      | int n =>
        obtain ⟨hp, hn, q0⟩ := h
        obtain ⟨ss, hss, q⟩ := opt_iff.mp q0
        clear q0
        have := strsOf_some hss
        subst this
        have e : startD N_is_head [v, .tup (ss.map .str), .int n] = [some v, some (.tup (ss.map .str)), some (.int n)] := rfl
        rw [e]
        unfold b_is_head
        have ed := EndD.same (d := .bl (isHead v ss n)) hw rfl q
        cases v with
        | tup xs =>
          cases xs with
          | nil =>
            have h0 : ((0 : Int) == n) = false := by rw [beq_eq_false_iff_ne]; omega
            simp [ss_nil, ss_cons, wpS, wpE, wpAnd, wpEs, vtIs, h0]
            exact ed
          | cons x r =>
            by_cases hr : ((r.length : Int) + 1 = n)
            · have h0 : (((r.length : Int) + 1) == n) = true := by rw [hr]; exact beq_self_eq_true _
              cases x with
              | str s =>
                rw [plain_tup, plains_cons] at hp
                simp [ss_nil, ss_cons, wpS, wpE, wpAnd, wpEs, vtIs, h0, inD_tup]
                have : isHead (.tup (.str s :: r)) ss n = ss.contains s := by simp [isHead, hr]
                rw [this] at ed
                simpa using ed
              | ref i => simp at hp
              | scr i => simp at hp
              | ins c xs => simp at hp
              | _ =>
                simp [ss_nil, ss_cons, wpS, wpE, wpAnd, wpEs, vtIs, h0]
                exact ed
            · have h0 : (((r.length : Int) + 1) == n) = false := by rw [beq_eq_false_iff_ne]; exact hr
              simp [ss_nil, ss_cons, wpS, wpE, wpAnd, wpEs, vtIs, h0]
              have : isHead (.tup (x :: r)) ss n = false := by
                cases x <;> simp [isHead, hr]
              rw [this] at ed
              exact ed
        | ref i => simp at hp
        | scr i => simp at hp
        | ins c xs => simp at hp
        | _ =>
          simp [ss_nil, ss_cons, wpS, wpE, wpAnd, wpEs, vtIs]
          exact ed
      | _ => simp [sp_is_head] at h
    | _ => simp [sp_is_head] at h
theorem w_is_name (S : Sg) (cn : Cn S) : Body S sp_is_name b_is_name N_is_name 1 := by
  intro ds μ Q E h hl hb hw
  match ds, hl with
  | [v], _ =>
    obtain ⟨hp, q⟩ := h
    obtain ⟨hp, hs⟩ := ok_and hp
    have e : startD N_is_name [v] = [some v, none] := rfl
    rw [e]
    unfold b_is_name
    have ed := EndD.same (d := .bl (isName v)) hw rfl q
    cases v with
    | str s =>
      have hs' : s.toList.length ≤ 1000 := by simpa using hs
      have hz : s.toList.length ≤ Sz := Nat.le_trans hs' (by decide)
      have hlen : lenD μ (.str s) = some s.toList.length := if_pos hz
      have hix : ixD μ (.str s) (.int 0) = (atD s.toList 0).map fun c => .str (String.singleton c) := if_pos hz
      have hns : isName (.str s) = nameS s := rfl
      rw [hns] at ed
      unfold nameS at ed
      cases hc : s.toList with
      | nil =>
        rw [hc] at ed hlen
        simp [ss_nil, ss_cons, wpS, wpE, wpT, wpTOr, wpEs, vtIs, hlen, cn.longest]
        exact ed
      | cons c cs =>
        rw [hc] at ed hlen hix
        by_cases h8 : cs.length < 8
        · have h1 : (1 : Int) ≤ (cs.length : Int) + 1 := by omega
          have h2 : (cs.length : Int) + 1 ≤ 8 := by omega
          simp only [h8, decide_true, Bool.true_and] at ed
          simp only [ss_nil, ss_cons, wpS, wpE, wpT, wpTOr, wpEs, vtIs, hlen, cn.longest, hix, cn.small, cn.words, h1, h2, List.getElem?_cons_zero, p_isi, isTys_plain, vt_str, Option.map_some, List.any_cons, List.any_nil, Bool.or_false, opt_some, truth_bl, Bool.not_true, Bool.false_eq_true, if_false, if_true, con_int, p_len, cm_le, List.length_cons, Int.natCast_add, Int.cast_ofNat_Int, decide_true, p_ix, at_0, p_cm, cm_nin, cm_in, inD_chr, inD_strs]
          have hsm : smallS.toList.contains c = smallL.contains c := rfl
          rw [hsm]
          cases h3 : smallL.contains c with
          | false =>
            rw [h3] at ed
            simp at ed ⊢
            exact ed
          | true =>
            rw [h3] at ed
            cases h4 : wordsL.contains s with
            | true =>
              rw [h4] at ed
              simp at ed ⊢
              exact ed
            | false =>
              rw [h4] at ed
              simp only [Bool.not_true, Bool.not_false, Bool.true_and, Bool.false_eq_true, if_false] at ed ⊢
              simp only [wpI, wpE, List.getElem?_cons_zero, valPlan, opt_some, hc]
              refine comp_mapF (fun c => .str (String.singleton c)) (fun c => .bl (smallL.contains c || figL.contains c)) trivial (fun c' hc' R r => ?_) ?_ ?_
              · simp only [wipeD, List.set_cons_succ, List.set_cons_zero, bindT, opt_some, wpC, if_true, wpOr, wpE, wpEs, List.getElem?_cons_succ, List.getElem?_cons_zero, cn.small, cn.fig, p_cm, cm_in, inD_chr, Option.map_some, truth_bl]
                have e3 : smallS.toList.contains c' = smallL.contains c' := rfl
                have e4 : figS.toList.contains c' = figL.contains c' := rfl
                rw [e3, e4]
                cases h5 : smallL.contains c' with
                | true => rw [h5] at r; simpa using r
                | false => rw [h5] at r; simpa using r
              · exact le_sz (by simp; omega)
              · simp only [List.nil_append, newL, Bool.false_eq_true, if_false, p_all, lstOf_lst, Option.bind_some, boolsOf_map, Option.map_some, opt_some, all_map]
                exact ed
        · have h2 : ¬ (cs.length : Int) + 1 ≤ 8 := by omega
          have h1 : (1 : Int) ≤ (cs.length : Int) + 1 := by omega
          simp [ss_nil, ss_cons, wpS, wpE, wpT, wpTOr, wpEs, vtIs, hlen, cn.longest, h1, h2]
          simp [h8] at ed
          exact ed
    | ref i => simp at hp
    | scr i => simp at hp
    | ins c xs => simp at hp
    | _ =>
      simp [ss_nil, ss_cons, wpS, wpE, wpT, wpTOr, wpAnd, wpEs, vtIs]
      exact ed
theorem okD_at1 {s : String} {x : D} {r : List D} (h : okD (.tup (.str s :: x :: r)) = true) : okD x = true := by
  unfold okD at h ⊢
  simp at h ⊢
  exact ⟨h.1.1, h.2.2.1⟩
/-- the promises of the tree functions -/
structure Ca (S : Sg) : Prop where
  c0 : S.call 0 = sp_is_row
  c1 : S.call 1 = sp_is_name
  c3 : S.call 3 = sp_is_head
  c4 : S.call 4 = sp_test_parts
  c5 : S.call 5 = sp_is_test
  c6 : S.call 6 = sp_program_parts
  c7 : S.call 7 = sp_is_program
  c2 : S.call 2 = sp_are_names
  c8 : S.call 8 = sp_statement_parts
  c9 : S.call 9 = sp_hypothesis_parts
  c10 : S.call 10 = sp_saying_parts
  d2 : S.dfl 2 = [.non]
  d8 : S.dfl 8 = []
  d9 : S.dfl 9 = []
  d10 : S.dfl 10 = []
  c11 : S.call 11 = sp_all_parts
  c12 : S.call 12 = sp_whole_parts
  c13 : S.call 13 = sp_is_whole
  d11 : S.dfl 11 = []
  d12 : S.dfl 12 = []
  d13 : S.dfl 13 = []
  d0 : S.dfl 0 = []
  d1 : S.dfl 1 = []
  d3 : S.dfl 3 = []
  d4 : S.dfl 4 = []
  d5 : S.dfl 5 = []
  d6 : S.dfl 6 = []
  d7 : S.dfl 7 = []
theorem w_test_parts (S : Sg) (ca : Ca S) : Body S sp_test_parts b_test_parts N_test_parts 1 := by
  intro ds μ Q E h hl hb hw
  match ds, hl with
  | [v], _ =>
    obtain ⟨ho, q⟩ := h
    obtain ⟨hp, hs⟩ := ok_and ho
    have e : startD N_test_parts [v] = [some v] := rfl
    rw [e]
    unfold b_test_parts
    have ed : ∀ d, optL (testParts v) = d → plain d = true → EndD μ.length d μ Q := fun d e h => EndD.same hw (below_plain d h) (by rw [← e]; exact q)
    simp [hp, ss_nil, ss_cons, wpS, wpE, wpT, wpEs, ca.c1, ca.c3, ca.d1, ca.d3, sp_is_head, sp_is_name, pure1, Sz]
    unfold testParts at ed
    split
    · rename_i h1
      exact ed _ (by rw [if_pos h1]; rfl) rfl
    rename_i n1
    rw [if_neg n1] at ed
    split
    · rename_i h1
      rw [if_pos h1] at ed
      obtain ⟨s, x, rfl, _⟩ := head2 h1
      simp [okD] at ho
      simp [okD, ho]
      split
      · rename_i h2
        exact ed _ (by simp [part, h2, optL]) rfl
      · rename_i h2
        exact ed _ (by simp [part, h2, optL]) rfl
    rename_i n2
    rw [if_neg n2] at ed
    split
    · rename_i h1
      rw [if_pos h1] at ed
      obtain ⟨s, x, rfl, _⟩ := head2 h1
      simp at hp
      simp
      exact ed _ (by simp [part, optL]) (by simp [hp])
    rename_i n3
    rw [if_neg n3] at ed
    split
    · rename_i h1
      rw [if_pos h1] at ed
      obtain ⟨s, x, y, rfl, _⟩ := head3 h1
      simp at hp
      simp
      exact ed _ (by simp [part, optL]) (by simp [hp])
    rename_i n4
    rw [if_neg n4] at ed
    exact ed _ rfl rfl
theorem w_is_test (S : Sg) (ca : Ca S) : Body S sp_is_test b_is_test N_is_test 1 := by
  intro ds μ Q E h hl hb hw
  match ds, hl with
  | [v], _ =>
    obtain ⟨ho, hz, q⟩ := h
    have e : startD N_is_test [v] = [some v, none, none] := rfl
    rw [e]
    unfold b_is_test
    simp [b_is_test_1, b_is_test_2, ss_nil, ss_cons, wpS, wpE, wpT, wpEs, bindT, Sz]
    refine ⟨wt v + 2, while_ind (fun k ρ μ' => ∃ ws ρ2, ρ = [some v, some (.ref μ.length), ρ2] ∧ μ' = μ ++ [.lst ws] ∧ wts ws < k ∧ wts ws ≤ wt v ∧ (∀ w ∈ ws, okD w = true) ∧ Q (.bl (ws.all isTest)) μ) ?_ ?_ _ _ _ ⟨[v], none, rfl, rfl, by simp, by simp, by simpa using ho, by simpa using q⟩⟩
    · rintro k ρ μ' N ih ⟨ws, ρ2, rfl, rfl, hk, hk2, hok, hq⟩
      rcases snoc_cases ws with rfl | ⟨ys, y, rfl⟩
      · simp [len_ref (get_last μ _)]
        exact EndD.drop hw rfl (by simpa using hq)
      · have hpos : ((ys.length : Int) + 1 > 0) := by omega
        simp [len_ref (get_last μ _), recv_pop (get_last μ _), p_pop (get_last μ _), ca.c4, ca.d4, sp_test_parts, pure1, hpos]
        have hy : okD y = true := hok y (by simp)
        refine ⟨hy, ?_⟩
        rw [List.all_append] at hq
        have ey : [y].all isTest = isTest y := by simp
        rw [ey, isTest_eq y] at hq
        cases ht : testParts y with
        | none =>
          rw [ht] at hq
          simp [optL]
          exact EndD.drop hw rfl (by simpa using hq)
        | some ps =>
          have hwt := testParts_wt ht
          rw [wts_append] at hk hk2
          simp at hk hk2
          have l1 := wts_len ys
          have l2 := wts_len ps
          have hle : ys.length + ps.length ≤ Sz := le_sz (by omega)
          simp [optL, recv_extend (get_last μ _), p_extend (y := .lst ps) (get_last μ _) rfl hle]
          refine ih _ _ ⟨ys ++ ps, some (.lst ps), rfl, rfl, by rw [wts_append]; omega, by rw [wts_append]; omega, fun w hw' => ?_, ?_⟩
          · rcases List.mem_append.mp hw' with h' | h'
            · exact hok w (by simp [h'])
            · exact testParts_ok ht hy w h'
          · rw [ht] at hq
            rw [List.all_append]
            exact hq
    · rintro ρ μ' ⟨ws, ρ2, _, _, h, _⟩
      omega
theorem w_program_parts (S : Sg) (ca : Ca S) : Body S sp_program_parts b_program_parts N_program_parts 1 := by
  intro ds μ Q E h hl hb hw
  match ds, hl with
  | [v], _ =>
    obtain ⟨ho, q⟩ := h
    obtain ⟨hp, hs⟩ := ok_and ho
    have e : startD N_program_parts [v] = [some v] := rfl
    rw [e]
    unfold b_program_parts
    have ed : ∀ d, optP (progParts v) = d → plain d = true → EndD μ.length d μ Q := fun d e h => EndD.same hw (below_plain d h) (by rw [← e]; exact q)
    simp [hp, ss_nil, ss_cons, wpS, wpE, wpT, wpEs, ca.c1, ca.c3, ca.d1, ca.d3, sp_is_head, sp_is_name, pure1, Sz]
    unfold progParts at ed
    split
    · rename_i h1
      exact ed _ (by rw [if_pos h1]; rfl) rfl
    rename_i n1
    rw [if_neg n1] at ed
    split
    · rename_i h1
      rw [if_pos h1] at ed
      obtain ⟨s, x, rfl, _⟩ := head2 h1
      simp [okD] at ho
      simp [okD, ho]
      split
      · rename_i h2
        exact ed _ (by simp [part, h2, optP]) rfl
      · rename_i h2
        exact ed _ (by simp [part, h2, optP]) rfl
    rename_i n2
    rw [if_neg n2] at ed
    split
    · rename_i h1
      rw [if_pos h1] at ed
      obtain ⟨s, x, rfl, _⟩ := head2 h1
      simp at hp
      simp
      exact ed _ (by simp [part, optP]) (by simp [hp])
    rename_i n3
    rw [if_neg n3] at ed
    split
    · rename_i h1
      rw [if_pos h1] at ed
      obtain ⟨s, x, y, rfl, _⟩ := head3 h1
      simp at hp
      simp
      exact ed _ (by simp [part, optP]) (by simp [hp])
    rename_i n4
    rw [if_neg n4] at ed
    split
    · rename_i h1
      rw [if_pos h1] at ed
      obtain ⟨s, x, rfl, _⟩ := head2 h1
      simp at hp
      simp
      exact ed _ (by simp [part, optP]) (by simp [hp])
    rename_i n5
    rw [if_neg n5] at ed
    split
    · rename_i h1
      rw [if_pos h1] at ed
      obtain ⟨s, x, y, z, rfl, _⟩ := head4 h1
      simp at hp
      simp
      exact ed _ (by simp [part, optP]) (by simp [hp])
    rename_i n6
    rw [if_neg n6] at ed
    split
    · rename_i h1
      rw [if_pos h1] at ed
      obtain ⟨s, x, y, rfl, _⟩ := head3 h1
      simp at hp
      simp
      exact ed _ (by simp [part, optP]) (by simp [hp])
    rename_i n7
    rw [if_neg n7] at ed
    split
    · rename_i h1
      rw [if_pos h1] at ed
      obtain ⟨s, x, y, rfl, _⟩ := head3 h1
      simp at hp
      simp
      exact ed _ (by simp [part, optP]) (by simp [hp])
    rename_i n8
    rw [if_neg n8] at ed
    exact ed _ rfl rfl
theorem w_is_program (S : Sg) (ca : Ca S) : Body S sp_is_program b_is_program N_is_program 1 := by
  intro ds μ Q E h hl hb hw
  match ds, hl with
  | [v], _ =>
    obtain ⟨ho, hz, q⟩ := h
    have e : startD N_is_program [v] = [some v, none, none, none] := rfl
    rw [e]
    unfold b_is_program
    simp [b_is_program_1, b_is_program_2, ss_nil, ss_cons, wpS, wpE, wpT, wpTOr, wpEs, bindT, Sz]
    refine ⟨wt v + 2, while_ind (fun k ρ μ' => ∃ ws ρ2, ρ = [some v, some (.ref μ.length), ρ2, none] ∧ μ' = μ ++ [.lst ws] ∧ wts ws < k ∧ wts ws ≤ wt v ∧ (∀ w ∈ ws, okD w = true) ∧ Q (.bl (ws.all isProg)) μ) ?_ ?_ _ _ _ ⟨[v], none, rfl, rfl, by simp, by simp, by simpa using ho, by simpa using q⟩⟩
    · rintro k ρ μ' N ih ⟨ws, ρ2, rfl, rfl, hk, hk2, hok, hq⟩
      rcases snoc_cases ws with rfl | ⟨ys, y, rfl⟩
      · simp [len_ref (get_last μ _)]
        exact EndD.drop hw rfl (by simpa using hq)
      · have hpos : ((ys.length : Int) + 1 > 0) := by omega
        simp [len_ref (get_last μ _), recv_pop (get_last μ _), p_pop (get_last μ _), ca.c6, ca.d6, sp_program_parts, pure1, hpos]
        have hy : okD y = true := hok y (by simp)
        refine ⟨hy, ?_⟩
        rw [List.all_append] at hq
        have ey : [y].all isProg = isProg y := by simp
        rw [ey, isProg_eq y] at hq
        cases ht : progParts y with
        | none =>
          rw [ht] at hq
          simp [optP]
          exact EndD.drop hw rfl (by simpa using hq)
        | some ps =>
          have hwt := progParts_wt ht
          rw [wts_append] at hk hk2
          simp at hk hk2
          have l1 := wts_len ys
          have l2 := wts_len ps.1
          have l3 := wts_len ps.2
          have hpo := progParts_ok ht hy
          have hle : ys.length + ps.1.length ≤ Sz := le_sz (by omega)
          simp [optP, wpI, wpE, wpEs, valPlan]
          refine comp_map (fun t => .bl (isTest t)) trivial (fun t ht' R r => ?_) (le_sz (by omega)) ?_
          · have h1 := hpo.2 t ht'
            have h2 := wt_mem ht'
            simp [wipeD, bindT, wpC, wpE, wpEs, ca.c5, ca.d5, sp_is_test, pureW, h1]
            exact ⟨by omega, r⟩
          · simp only [newL, Bool.false_eq_true, if_false, p_all, lstOf_lst, Option.bind_some, boolsOf_map, Option.map_some, opt_some, all_map, truth_bl]
            simp only [Function.comp, boolsOf_map, Option.map_some, opt_some, all_map, truth_bl]
            rw [ht] at hq
            replace hq : Q (.bl (ys.all isProg && (ps.1.all isProg && ps.2.all isTest))) μ := hq
            cases hat : ps.2.all isTest with
            | false =>
              rw [hat] at hq
              simp at hq ⊢
              exact EndD.drop hw rfl hq
            | true =>
              rw [hat] at hq
              simp [recv_extend (get_last μ _), p_extend (y := .lst ps.1) (get_last μ _) rfl hle]
              refine ih _ _ ⟨ys ++ ps.1, _, rfl, rfl, by rw [wts_append]; omega, by rw [wts_append]; omega, fun w hw' => ?_, ?_⟩
              · rcases List.mem_append.mp hw' with h' | h'
                · exact hok w (by simp [h'])
                · exact hpo.1 w h'
              · rw [List.all_append]
                simpa using hq
    · rintro ρ μ' ⟨ws, ρ2, _, _, h, _⟩
      omega
end K03

set_option Elab.async false
set_option linter.all false
set_option maxRecDepth 100000
set_option maxHeartbeats 4000000
namespace K03
open PySem PY
theorem w_hypothesis_parts (S : Sg) (ca : Ca S) : Body S sp_hypothesis_parts b_hypothesis_parts N_hypothesis_parts 1 := by
  intro ds μ Q E h hl hb hw
  match ds, hl with
  | [v], _ =>
    obtain ⟨ho, hz, q⟩ := h
    have e : startD N_hypothesis_parts [v] = [some v] := rfl
    rw [e]
    unfold b_hypothesis_parts
    simp [ss_nil, ss_cons, wpS, wpE, wpEs, ca.c8, ca.d8, sp_statement_parts, Sz, ho, hz]
    exact EndD.same hw (below_plain _ (stmtParts_plain _ ho)) q
/-- the tail: parts are there -/
theorem w_statement_tail (S : Sg) (ca : Ca S) {E : Sl → XD → Store → Prop} {v h : D} {a b : List D} {μ : Store} {n : Nat} {Q : D → Store → Prop} {PD : PEnds} (ha : ∀ x ∈ a, okD x = true) (hb : ∀ x ∈ b, okD x = true) (hz : wts a + wts b ≤ 1000000)
    (q : PD.rt (if (a.all isProg && b.all isTest) = true then .tup [.lst a, .lst b] else .non) μ) :
    wpSs S E b_statement_parts_1 [some v, some h, some (.tup [.lst a, .lst b]), none] μ PD := by
  unfold b_statement_parts_1
  have l1 := wts_len a
  have l2 := wts_len b
  simp [ss_nil, ss_cons, wpS, wpE, wpT, wpTAnd, wpEs, wpI, valPlan]
  refine comp_map (fun t => .bl (isProg t)) trivial (fun t ht' R r => ?_) (le_sz (by omega)) ?_
  · have h2 := wt_mem ht'
    simp [wipeD, bindT, wpC, wpE, wpEs, ca.c7, ca.d7, sp_is_program, pureW, ha t ht']
    exact ⟨by omega, r⟩
  · simp only [newL, Bool.false_eq_true, if_false, p_all, lstOf_lst, Option.bind_some, boolsOf_map, Option.map_some, opt_some, all_map, truth_bl, Function.comp]
    cases h1 : a.all isProg with
    | false =>
      rw [h1] at q
      simpa using q
    | true =>
      rw [h1] at q
      simp only [if_true]
      refine comp_map (fun t => .bl (isTest t)) trivial (fun t ht' R r => ?_) (le_sz (by omega)) ?_
      · have h2 := wt_mem ht'
        simp [wipeD, bindT, wpC, wpE, wpEs, ca.c5, ca.d5, sp_is_test, pureW, hb t ht']
        exact ⟨by omega, r⟩
      · simp only [newL, Bool.false_eq_true, if_false, p_all, lstOf_lst, Option.bind_some, boolsOf_map, Option.map_some, opt_some, all_map, truth_bl, Function.comp]
        cases h2 : b.all isTest with
        | false =>
          rw [h2] at q
          simpa using q
        | true =>
          rw [h2] at q
          simpa using q
theorem w_saying_parts (S : Sg) (ca : Ca S) : Body S sp_saying_parts b_saying_parts N_saying_parts 1 := by
  intro ds μ Q E h hl hb hw
  match ds, hl with
  | [v], _ =>
    obtain ⟨ho, hz, q⟩ := h
    have e : startD N_saying_parts [v] = [some v] := rfl
    rw [e]
    unfold b_saying_parts
    simp [ss_nil, ss_cons, wpS, wpE, wpEs, ca.c8, ca.d8, sp_statement_parts, Sz, ho, hz]
    exact EndD.same hw (below_plain _ (stmtParts_plain _ ho)) q
theorem w_are_names (S : Sg) (ca : Ca S) : Body S sp_are_names b_are_names N_are_names 2 := by
  intro ds μ Q E h hl hb hw
  match ds, hl with
  | [v, m], _ =>
    cases m with
    | non =>
      obtain ⟨ho, hz, q⟩ := h
      have e : startD N_are_names [v, .non] = [some v, some .non, none] := rfl
      rw [e]
      unfold b_are_names
      have ed := EndD.same (d := .bl (areNames v)) hw rfl q
      have main : ∀ xs, seqOf μ v = some xs → valPlan μ v = some ⟨xs, fun _ => True⟩ → lenD μ v = some xs.length → areNames v = namesB xs → isRow v = true → (∀ x ∈ xs, okD x = true) → xs.length ≤ 3000 → wpSs S (fun _ x μ' => EndX μ.length x μ' E) b_are_names [some v, some .non, none] μ { nx := fun _ μ' => EndD μ.length .non μ' Q, rt := fun d μ' => EndD μ.length d μ' Q } := by
        intro xs h1 h2 h3 h4 h5 h6 h7
        rw [h4] at ed
        unfold b_are_names
        simp [ss_nil, ss_cons, wpS, wpE, wpT, wpTOr, wpOr, wpEs, wpI, ca.c0, ca.d0, sp_is_row, pure1, ho, h5, h2]
        refine comp_map (fun t => .bl (isName t)) trivial (fun t ht' R r => ?_) (le_sz (by omega)) ?_
        · simp [wipeD, bindT, wpC, wpE, wpEs, ca.c1, ca.d1, sp_is_name, pure1, h6 t ht']
          exact r
        · simp only [newL, Bool.false_eq_true, if_false, p_all, lstOf_lst, Option.bind_some, boolsOf_map, Option.map_some, opt_some, all_map, truth_bl, Function.comp]
          unfold namesB at ed
          cases hn : xs.all isName with
          | false =>
            rw [hn] at ed
            simpa using ed
          | true =>
            obtain ⟨ss, hss, hsl⟩ := names_strs hn
            rw [hn, hss] at ed
            have hlt : ss.length < 4000 := by omega
            simp [primD, h1, hss, h3, hlt]
            by_cases hd : distD ss = ss.length
            · simp [hd, hsl] at ed ⊢
              simpa using ed
            · have hd2 : ((distD ss : Nat) : Int) ≠ ((xs.length : Nat) : Int) := by omega
              have hd3 : ¬ distD ss = xs.length := by omega
              simp [hd, hd2, hd3] at ed ⊢
              exact ed
      have hplain := (ok_and ho).1
      have hoks : ∀ xs, (v = .tup xs ∨ v = .lst xs) → (∀ x ∈ xs, okD x = true) ∧ xs.length ≤ 3000 := by
        intro xs hv
        have hl := wts_len xs
        rcases hv with rfl | rfl
        · have : wt (.tup xs) = wts xs + 1 := rfl
          exact ⟨okD_mem (.inl rfl) ho, by omega⟩
        · have : wt (.lst xs) = wts xs + 1 := rfl
          exact ⟨okD_mem (.inr rfl) ho, by omega⟩
      cases v with
      | tup xs => exact main xs rfl rfl rfl rfl rfl (hoks xs (.inl rfl)).1 (hoks xs (.inl rfl)).2
      | lst xs => exact main xs rfl rfl rfl rfl rfl (hoks xs (.inr rfl)).1 (hoks xs (.inr rfl)).2
      | ref i => simp at hplain
      | scr i => simp at hplain
      | ins c xs => simp at hplain
      | _ =>
        simp [ss_nil, ss_cons, wpS, wpE, wpT, wpTOr, wpEs, ca.c0, ca.d0, sp_is_row, pure1, ho, isRow]
        exact ed
    | _ => simp [sp_are_names] at h
theorem w_statement_parts (S : Sg) (ca : Ca S) : Body S sp_statement_parts b_statement_parts N_statement_parts 2 := by
  intro ds μ Q E h hl hb hw
  match ds, hl with
  | [v, hh], _ =>
    cases hh with
    | tup hs =>
      obtain ⟨ho, hz, q0⟩ := h
      obtain ⟨ss, hss, q⟩ := opt_iff.mp q0
      clear q0
      have := strsOf_some hss
      subst this
      obtain ⟨hp, hs'⟩ := ok_and ho
      have e : startD N_statement_parts [v, .tup (ss.map .str)] = [some v, some (.tup (ss.map .str)), none, none] := rfl
      rw [e]
      unfold b_statement_parts
      have ed : ∀ d, optP (stmtParts v ss) = d → below μ.length d = true → EndD μ.length d μ Q := fun d e h => EndD.same hw h (by rw [← e]; exact q)
      cases v with
      | tup xs =>
        cases xs with
        | nil =>
          simp [ss_nil, ss_cons, wpS, wpE, wpT, wpTOr, wpEs, vtIs]
          exact ed _ rfl rfl
        | cons x r =>
          cases x with
          | str s =>
            have h0 : ((r.length : Int) + 1 == 0) = false := by rw [beq_eq_false_iff_ne]; omega
            have hin : headIn (.tup (.str s :: r)) ss = ss.contains s := rfl
            have tail : ∀ (a b : List D), rawParts (.tup (.str s :: r)) = some (a, b) → ss.contains s = true → wpSs S (fun _ x μ' => EndX μ.length x μ' E) b_statement_parts_1 [some (.tup (.str s :: r)), some (.tup (ss.map .str)), some (.tup [.lst a, .lst b]), none] μ { nx := fun _ μ' => EndD μ.length .non μ' Q, rt := fun d μ' => EndD μ.length d μ' Q } := by
              intro a b hr hs
              have hok := rawParts_ok hr ho
              have hwt := rawParts_wt hr
              refine w_statement_tail S ca (n := μ.length) (Q := Q) hok.1 hok.2 (by simp only at hwt; omega) ?_
              unfold stmtParts at ed
              rw [hin, if_pos hs, hr] at ed
              refine ed _ ?_ ?_
              · simp only []
                split <;> rfl
              · split
                · have h1 : ∀ (xs : List D), (∀ x ∈ xs, okD x = true) → belows μ.length xs = true := fun xs hx => belows_plain _ (plains_iff.mpr fun x hm => (ok_and (hx x hm)).1)
                  simp [h1 a hok.1, h1 b hok.2]
                · rfl
            simp [ss_nil, ss_cons, wpS, wpE, wpT, wpTOr, wpTAnd, wpEs, vtIs, h0]
            split
            · rename_i hs
              have hs' : ss.contains s = true := by simpa using hs
              simp [ca.c3, ca.d3, sp_is_head, hp, Sz, bindT]
              unfold rawParts at tail
              split
              · rename_i h1
                rw [if_pos h1] at tail
                obtain ⟨s', x, hv, _⟩ := head2 h1
                cases hv
                simp [part] at tail ⊢
                exact tail hs
              rename_i n1
              rw [if_neg n1] at tail
              split
              · rename_i h1
                rw [if_pos h1] at tail
                obtain ⟨s', x, y, hv, _⟩ := head3 h1
                cases hv
                simp [part] at tail ⊢
                exact tail hs
              rename_i n2
              rw [if_neg n2] at tail
              split
              · rename_i h1
                rw [if_pos h1] at tail
                obtain ⟨s', x, y, z, hv, _⟩ := head4 h1
                cases hv
                simp [part] at tail ⊢
                exact tail hs
              rename_i n3
              rw [if_neg n3] at tail
              split
              · rename_i h1
                rw [if_pos h1] at tail
                obtain ⟨s', x, y, hv, _⟩ := head3 h1
                cases hv
                simp [part] at tail ⊢
                exact tail hs
              rename_i n4
              refine ed _ ?_ rfl
              unfold stmtParts rawParts
              rw [hin, if_pos hs', if_neg n1, if_neg n2, if_neg n3, if_neg n4]; rfl
            · rename_i hs
              refine ed _ ?_ rfl
              unfold stmtParts
              rw [hin, if_neg (by simpa using hs)]; rfl
          | ref i => simp at hp
          | scr i => simp at hp
          | ins c xs => simp at hp
          | _ =>
            have h0 : ((r.length : Int) + 1 == 0) = false := by rw [beq_eq_false_iff_ne]; omega
            simp [ss_nil, ss_cons, wpS, wpE, wpT, wpTOr, wpEs, vtIs, h0]
            exact ed _ rfl rfl
      | ref i => simp at hp
      | scr i => simp at hp
      | ins c xs => simp at hp
      | _ =>
        simp [ss_nil, ss_cons, wpS, wpE, wpT, wpTOr, wpEs, vtIs]
        exact ed _ rfl rfl
    | _ => simp [sp_statement_parts] at h
end K03

set_option Elab.async false
set_option linter.all false
set_option maxRecDepth 100000
set_option maxHeartbeats 4000000
namespace K03
open PySem PY
/-- the second loop -/
theorem w_all_tail (S : Sg) (ca : Ca S) {E : Sl → XD → Store → Prop} {ps ts F T : List D} {x1 x2 : Option D} {W : D} {μ : Store} {Q : D → Store → Prop} (hw : wfS μ)
    (hz : wts ps + wts ts ≤ 500000) (okF : ∀ x ∈ F, okD x = true) (okT : ∀ x ∈ T, okD x = true) (pF : F.all isProg = true) (tT : T.all isTest = true) (lF : F.length ≤ wts ps) (lT : wts T ≤ wts ts + wts ps)
    (eF : ∀ f, F.all f = ps.all (subP f)) (eT : ∀ g, T.all g = (ts.all g && ps.all (subP fun p => (ptests p).all g))) (q : ∀ F T, AllOf ps ts F T → Q (.lst [.lst F, .lst T]) μ) {PD : PEnds} (hrt : PD.rt = fun d μ' => EndD μ.length d μ' Q) :
    wpSs S E b_all_parts_4 [some (.lst ps), some (.lst T), some W, some (.lst [.ref μ.length, .ref (μ.length + 1)]), x1, x2] (μ ++ [.lst F, .lst [], .lst []]) PD := by
  unfold b_all_parts_4
  simp [ss_nil, ss_cons, wpS, wpE, wpT, wpEs, Sz, bindT]
  refine ⟨wts T + 1, while_ind (fun k ρ μ' => ∃ F1 W x1, ρ = [some (.lst ps), some (.lst T), some (.ref (μ.length + 3)), some (.lst [.ref μ.length, .ref (μ.length + 1)]), x1, x2] ∧ μ' = μ ++ [.lst F, .lst F1, .lst [], .lst W] ∧ wts W < k ∧
      F1.length + wts W ≤ wts T ∧ (∀ x ∈ F1, okD x = true) ∧ (∀ x ∈ W, okD x = true) ∧ F1.all isTest = true ∧ W.all isTest = true ∧ (∀ f, (F1.all f && W.all (subT f)) = T.all (subT f))) ?_ ?_ _ _ _ ⟨[], T, x1, rfl, rfl, by omega, by simp, by simp, okT, rfl, tT, by simp⟩⟩
  · rintro k ρ μ' N ih ⟨F1, W, x1, rfl, rfl, hk, hF1, okF1, okW, tF1, tW, eF1⟩
    rcases snoc_cases W with rfl | ⟨ys, y, rfl⟩
    · have g3 : (μ ++ [.lst F, .lst F1, .lst [], .lst []])[μ.length + 3]? = some (.lst []) := by simp
      simp [len_ref g3, b_all_parts_3, ss_nil, ss_cons, wpS, wpE, hrt]
      refine EndD.two hw (Nat.le_refl _) (by simp) (belows_plain _ (oks_plains okF)) (by omega) (by simp) (belows_plain _ (oks_plains okF1)) (q F F1 ⟨okF, okF1, pF, tF1, by omega, by simp at hF1; have := wts_len T; omega, eF, fun g => ?_⟩)
      have h1 := eF1 g
      simp at h1
      rw [h1, eT]
    · have g3 : (μ ++ [.lst F, .lst F1, .lst [], .lst (ys ++ [y])])[μ.length + 3]? = some (.lst (ys ++ [y])) := by simp
      have g1 : (μ ++ [.lst F, .lst F1, .lst [], .lst ys])[μ.length + 1]? = some (.lst F1) := by simp
      have hpos : ((ys.length : Int) + 1 > 0) := by omega
      have hy : okD y = true := okW y (by simp)
      rw [wts_append] at hk hF1
      simp at hk hF1
      have hty : isTest y = true := by
        rw [List.all_append, Bool.and_eq_true] at tW
        simpa using tW.2
      rw [isTest_eq y] at hty
      cases htp : testParts y with
      | none => rw [htp] at hty; cases hty
      | some tp =>
        rw [htp] at hty
        have hwt := testParts_wt htp
        have l1 := wts_len ys
        have l2 := wts_len tp
        have hpos1 := wt_pos y
        have hlt : F1.length < Sz := Nat.lt_of_le_of_lt (m := 1000000) (by omega) (by decide)
        have hle : ys.length + tp.length ≤ Sz := le_sz (by omega)
        have g3' : (μ ++ [.lst F, .lst (F1 ++ [y]), .lst [], .lst ys])[μ.length + 3]? = some (.lst ys) := by simp
        simp [len_ref g3, hpos, b_all_parts_2, ss_nil, ss_cons, wpS, wpE, wpEs, bindT, recv_pop g3, p_pop g3, recv_append g1, p_append g1 hlt, ca.c4, ca.d4, sp_test_parts, pure1, hy, recv_extend g3', htp, optL, p_extend (y := .lst tp) g3' rfl hle]
        refine ih _ _ ⟨F1 ++ [y], ys ++ tp, _, rfl, rfl, by rw [wts_append]; omega, by rw [wts_append]; simp; omega, fun x hx => ?_, fun x hx => ?_, ?_, ?_, fun f => ?_⟩
        · rcases List.mem_append.mp hx with h' | h'
          · exact okF1 x h'
          · rw [List.mem_singleton.mp h']; exact hy
        · rcases List.mem_append.mp hx with h' | h'
          · exact okW x (by simp [h'])
          · exact testParts_ok htp hy x h'
        · rw [List.all_append, tF1]
          have : isTest y = true := by rw [isTest_eq y, htp]; exact hty
          simp [this]
        · rw [List.all_append, Bool.and_eq_true] at tW
          rw [List.all_append, tW.1]
          exact hty
        · rw [← eF1 f, List.all_append, List.all_append, List.all_append]
          have e1 : subT f y = (f y && tp.all (subT f)) := by
            rw [subT_eq f y]
            unfold tparts
            rw [htp]; rfl
          simp [e1]
          cases F1.all f <;> cases f y <;> simp [Bool.and_comm]
  · rintro ρ μ' ⟨F1, W, x1, _, _, h, _⟩
    omega
theorem w_all_parts (S : Sg) (ca : Ca S) : Body S sp_all_parts b_all_parts N_all_parts 2 := by
  intro ds μ Q E h hl hb hw
  match ds, hl with
  | [p, t], _ =>
    cases p with
    | lst ps =>
      cases t with
      | lst ts =>
        obtain ⟨hp, ht, hpp, htt, hz, q⟩ := h
        have e : startD N_all_parts [.lst ps, .lst ts] = [some (.lst ps), some (.lst ts), none, none, none, none] := rfl
        rw [e]
        unfold b_all_parts
        simp [ss_nil, ss_cons, wpS, wpE, wpT, wpEs, Sz]
        refine ⟨wts ps + 1, while_ind (fun k ρ μ' => ∃ F W T x1 x2, ρ = [some (.lst ps), some (.lst T), some (.ref (μ.length + 2)), some (.lst [.ref μ.length, .ref (μ.length + 1)]), x1, x2] ∧ μ' = μ ++ [.lst F, .lst [], .lst W] ∧ wts W < k ∧
            F.length + wts W ≤ wts ps ∧ wts T + wts W ≤ wts ts + wts ps ∧ (∀ x ∈ F, okD x = true) ∧ (∀ x ∈ W, okD x = true) ∧ (∀ x ∈ T, okD x = true) ∧ F.all isProg = true ∧ W.all isProg = true ∧ T.all isTest = true ∧
            (∀ f, (F.all f && W.all (subP f)) = ps.all (subP f)) ∧ (∀ g, (T.all g && W.all (subP fun p => (ptests p).all g)) = (ts.all g && ps.all (subP fun p => (ptests p).all g)))) ?_ ?_ _ _ _ ⟨[], ps, ts, none, none, rfl, rfl, by omega, by simp, by omega, by simp, hp, ht, rfl, hpp, htt, by simp, by simp⟩⟩
        · rintro k ρ μ' N ih ⟨F, W, T, x1, x2, rfl, rfl, hk, hF, hT, okF, okW, okT, pF, pW, tT, eF, eT⟩
          rcases snoc_cases W with rfl | ⟨ys, y, rfl⟩
          · have g2 : (μ ++ [.lst F, .lst [], .lst []])[μ.length + 2]? = some (.lst []) := by simp
            simp [len_ref g2]
            exact w_all_tail S ca hw (by omega) okF okT pF tT (by simpa using hF) (by simpa using hT) (fun f => by simpa using eF f) (fun g => by simpa using eT g) q rfl
          · have g2 : (μ ++ [.lst F, .lst [], .lst (ys ++ [y])])[μ.length + 2]? = some (.lst (ys ++ [y])) := by simp
            have g0 : (μ ++ [.lst F, .lst [], .lst ys])[μ.length]? = some (.lst F) := by simp
            have hpos : ((ys.length : Int) + 1 > 0) := by omega
            have hy : okD y = true := okW y (by simp)
            rw [wts_append] at hk hF hT
            simp at hk hF hT
            have hpy : isProg y = true := by
              rw [List.all_append, Bool.and_eq_true] at pW
              simpa using pW.2
            rw [isProg_eq y] at hpy
            cases hpp' : progParts y with
            | none => rw [hpp'] at hpy; cases hpy
            | some pp =>
              rw [hpp'] at hpy
              replace hpy : (pp.1.all isProg && pp.2.all isTest) = true := hpy
              rw [Bool.and_eq_true] at hpy
              have hwt := progParts_wt hpp'
              have hpo := progParts_ok hpp' hy
              have l1 := wts_len ys
              have l2 := wts_len pp.1
              have l3 := wts_len pp.2
              have l4 := wts_len T
              have hpos1 := wt_pos y
              have hlt : F.length < Sz := Nat.lt_of_le_of_lt (m := 1000000) (by omega) (by decide)
              have hle : ys.length + pp.1.length ≤ Sz := le_sz (by omega)
              have hle2 : T.length + pp.2.length ≤ Sz := le_sz (by omega)
              have g2' : (μ ++ [.lst (F ++ [y]), .lst [], .lst ys])[μ.length + 2]? = some (.lst ys) := by simp
              simp [len_ref g2, hpos, b_all_parts_1, ss_nil, ss_cons, wpS, wpE, wpEs, bindT, recv_pop g2, p_pop g2, recv_append g0, p_append g0 hlt, ca.c6, ca.d6, sp_program_parts, pure1, hy, recv_extend g2', hpp', optP, p_extend (y := .lst pp.1) g2' rfl hle, binD, hle2]
              refine ih _ _ ⟨F ++ [y], ys ++ pp.1, T ++ pp.2, _, _, rfl, rfl, by rw [wts_append]; omega, by rw [wts_append]; simp; omega, by rw [wts_append, wts_append]; omega, fun x hx => ?_, fun x hx => ?_, fun x hx => ?_, ?_, ?_, ?_, fun f => ?_, fun g => ?_⟩
              · rcases List.mem_append.mp hx with h' | h'
                · exact okF x h'
                · rw [List.mem_singleton.mp h']; exact hy
              · rcases List.mem_append.mp hx with h' | h'
                · exact okW x (by simp [h'])
                · exact hpo.1 x h'
              · rcases List.mem_append.mp hx with h' | h'
                · exact okT x h'
                · exact hpo.2 x h'
              · rw [List.all_append, pF]
                have : isProg y = true := by rw [isProg_eq y, hpp']; simp [hpy.1, hpy.2]
                simp [this]
              · rw [List.all_append, Bool.and_eq_true] at pW
                rw [List.all_append, pW.1]
                exact hpy.1
              · rw [List.all_append, tT]
                exact hpy.2
              · rw [← eF f, List.all_append, List.all_append, List.all_append]
                have e1 : subP f y = (f y && pp.1.all (subP f)) := by
                  rw [subP_eq f y]
                  unfold pparts
                  rw [hpp']; rfl
                simp [e1]
                cases F.all f <;> cases f y <;> simp [Bool.and_comm]
              · rw [← eT g, List.all_append, List.all_append, List.all_append]
                have e1 : subP (fun p => (ptests p).all g) y = (pp.2.all g && pp.1.all (subP fun p => (ptests p).all g)) := by
                  rw [subP_eq _ y]
                  unfold pparts ptests
                  rw [hpp']; rfl
                simp [e1]
                cases T.all g <;> cases pp.2.all g <;> simp [Bool.and_comm]
        · rintro ρ μ' ⟨F, W, T, x1, x2, _, _, h, _⟩
          omega
      | _ => simp [sp_all_parts] at h
    | _ => simp [sp_all_parts] at h
end K03

set_option Elab.async false
set_option linter.all false
set_option maxRecDepth 100000
set_option maxHeartbeats 4000000
namespace K03
open PySem PY
theorem isSome_opt {o : Option (List D × List D)} (h : o.isSome = true) : optP o = .tup [.lst (fsts o), .lst (snds o)] := by
  cases o with
  | none => cases h
  | some ps => rfl
theorem w_whole_parts (S : Sg) (ca : Ca S) : Body S sp_whole_parts b_whole_parts N_whole_parts 1 := by
  intro ds μ Q E h hl hb hw
  match ds, hl, h with
  | [.tup [x0, x1, x2, .tup c, s]], _, h =>
    obtain ⟨hs, hc, hz, h1, h2, q⟩ := h
    have e : startD N_whole_parts [.tup [x0, x1, x2, .tup c, s]] = [some (.tup [x0, x1, x2, .tup c, s]), none, none, none, none] := rfl
    rw [e]
    unfold b_whole_parts
    have hzs : wt s ≤ 1000000 := by omega
    have hop : optP (stmtParts s ["same", "below", "triple"]) = .tup [.lst (fsts (sayP s)), .lst (snds (sayP s))] := isSome_opt h1
    simp [ss_nil, ss_cons, wpS, wpE, wpEs, ca.c10, ca.d10, sp_saying_parts, pureW, hs, hzs, hop, bindT, bindTs, wpI, valPlan]
    refine for_ind (fun ds ρ μ' => ∃ A B y1 y4, ρ = [some (.tup [x0, x1, x2, .tup c, s]), y1, some (.lst A), some (.lst B), y4] ∧ μ' = μ ∧ (∀ x ∈ ds, x ∈ c) ∧ A ++ (ds.map fun h => fsts (hypP h)).flatten = wp1 s c ∧ B ++ (ds.map fun h => snds (hypP h)).flatten = wp2 s c) ?_ ?_ _ _ _ ⟨_, _, _, _, rfl, rfl, fun x hx => hx, rfl, rfl⟩
    · rintro d ds ρ μ' N ih ⟨A, B, y1, y4, rfl, rfl, hm, hA, hB⟩
      refine ⟨trivial, ?_⟩
      have hd := hm d (by simp)
      have hdo := hc d hd
      have hdw := wt_mem hd
      have hds : (hypP d).isSome = true := List.all_eq_true.mp h2 d hd
      have hop : optP (stmtParts d ["never", "keeps", "leaves", "triple"]) = .tup [.lst (fsts (hypP d)), .lst (snds (hypP d))] := isSome_opt hds
      have hzd : wt d ≤ 1000000 := by omega
      have lA := congrArg List.length hA
      have lB := congrArg List.length hB
      simp at lA lB
      have l1 := wts_len (wp1 s c)
      have l2 := wts_len (wp2 s c)
      have l3 := wp_wt s c
      have hle : A.length + (fsts (hypP d)).length ≤ Sz := le_sz (by omega)
      have hle2 : B.length + (snds (hypP d)).length ≤ Sz := le_sz (by omega)
      simp [bindT, b_whole_parts_1, ss_nil, ss_cons, wpS, wpE, wpEs, ca.c9, ca.d9, sp_hypothesis_parts, pureW, hdo, hzd, hop, binD, hle, hle2]
      refine ih _ _ ⟨_, _, _, _, rfl, rfl, fun x hx => hm x (by simp [hx]), ?_, ?_⟩
      · rw [← hA]; simp
      · rw [← hB]; simp
    · rintro ρ μ' ⟨A, B, y1, y4, rfl, rfl, hm, hA, hB⟩
      refine ⟨trivial, ?_⟩
      simp at hA hB
      subst hA hB
      simp [b_whole_parts_2, ss_nil, ss_cons, wpS, wpE, wpEs, Sz]
      have hok := wp_ok hs hc
      exact EndD.same hw (below_plain _ (by simp [oks_plains hok.1, oks_plains hok.2])) q
theorem isWhole_head {v : D} (hh : ¬ isHead v ["whole"] 5 = true) : isWhole v = false := by
  unfold isWhole
  split
  · rename_i h a b c s
    have : isHead (.tup [.str h, .tup a, .tup b, .tup c, s]) ["whole"] 5 = (h == "whole") := by simp [isHead]; rfl
    rw [this] at hh
    simp at hh
    simp [hh]
  · rfl
def isTupB : D → Bool
  | .tup _ => true
  | _ => false
theorem w_is_whole (S : Sg) (ca : Ca S) : Body S sp_is_whole b_is_whole N_is_whole 1 := by
  intro ds μ Q E h hl hb hw
  match ds, hl with
  | [v], _ =>
    obtain ⟨ho, hz, hn, q⟩ := h
    obtain ⟨hp, hs⟩ := ok_and ho
    have e : startD N_is_whole [v] = [some v, none, none, none, none, none, none, none] := rfl
    rw [e]
    unfold b_is_whole
    have ed : ∀ b, isWhole v = b → EndD μ.length (.bl b) μ Q := fun b e => EndD.same hw rfl (by rw [← e]; exact q)
    simp [ss_nil, ss_cons, wpS, wpE, wpT, wpTOr, wpEs, ca.c3, ca.d3, sp_is_head, hp, Sz]
    by_cases hh : isHead v ["whole"] 5 = true
    · obtain ⟨h0, x1, x2, x3, x4, rfl, hm⟩ := head5 hh
      have hm' : h0 = "whole" := by simpa using hm
      subst hm'
      have hcut : cut [D.str "whole", x1, x2, x3, x4] (some 1) (some 4) = [x1, x2, x3] := by rfl
      simp [hh, wpI, wpE, wpEs, ilD, slD, hcut, valPlan]
      refine comp_map (fun t => .bl (isTupB t)) trivial (fun t ht' R r => ?_) (le_sz (by simp)) ?_
      · have ht : plain t = true := by
          simp at hp
          simp at ht'
          rcases ht' with rfl | rfl | rfl
          · exact hp.1
          · exact hp.2.1
          · exact hp.2.2.1
        cases t with
        | ref i => simp at ht
        | scr i => simp at ht
        | ins c xs => simp at ht
        | _ => simpa [wipeD, bindT, wpC, wpE, wpEs, vtIs, isTupB] using r
      · simp only [newL, Bool.false_eq_true, if_false, p_all, lstOf_lst, Option.bind_some, boolsOf_map, Option.map_some, opt_some, all_map, truth_bl, Function.comp]
        cases x1 with
        | tup a =>
          cases x2 with
          | tup b =>
            cases x3 with
            | tup c =>
              simp [isTupB]
              have hoks := okD_mem (.inl rfl) ho
              have oka := okD_mem (.inl rfl) (hoks (.tup a) (by simp))
              have okb := okD_mem (.inl rfl) (hoks (.tup b) (by simp))
              have okc := okD_mem (.inl rfl) (hoks (.tup c) (by simp))
              have ok4 := hoks x4 (by simp)
              simp [part] at hn
              simp at hz
              have la := wts_len a
              have lb := wts_len b
              have lc := wts_len c
              have hab : a.length + b.length ≤ Sz := le_sz (by omega)
              have okab : okD (.tup (a ++ b)) = true := by
                have h1 : ∀ x ∈ a ++ b, okD x = true := fun x hx => by
                  rcases List.mem_append.mp hx with h' | h'
                  · exact oka x h'
                  · exact okb x h'
                have h2 : shortss (a ++ b) = true := oks_shorts h1
                unfold okD
                rw [plain_tup, shorts_tup, oks_plains h1, h2]; rfl
              have wab : wt (.tup (a ++ b)) ≤ 3000 := by rw [wt_tup, wts_append]; omega
              have w4 : wt x4 ≤ 1000000 := by omega
              have wab2 : wts (a ++ b) ≤ 2999 := by rw [wts_append]; omega
              have eqW : ∀ bb, ((namesB (a ++ b)) && (sayP x4).isSome && (c.all fun h => (hypP h).isSome) && ((wp2 x4 c).all (subT (nodeIn "name" a)) && (wp1 x4 c).all (subP fun p => (ptests p).all (subT (nodeIn "name" a)))) && (wp1 x4 c).all (subP (nodeIn "deed" b))) = bb → EndD μ.length (.bl bb) μ Q := fun bb e => ed bb (by rw [← e]; unfold isWhole; simp)
              simp [binD, hab, ca.c2, ca.d2, sp_are_names, okab, wab2, areNames]
              cases hnb : namesB (a ++ b) with
              | false =>
                simp
                exact eqW _ (by rw [hnb]; rfl)
              | true =>
                simp [ca.c10, ca.d10, sp_saying_parts, pureW, ok4, w4]
                by_cases hss : (sayP x4).isSome = true
                case neg =>
                  have hop : optP (stmtParts x4 ["same", "below", "triple"]) = .non := by
                    unfold sayP at hss
                    cases hq : stmtParts x4 ["same", "below", "triple"] with
                    | none => rfl
                    | some _ => rw [hq] at hss; simp at hss
                  have hss' : (sayP x4).isSome = false := by simpa using hss
                  simp [hop]
                  exact eqW _ (by rw [hnb, hss']; rfl)
                case pos =>
                  have hop : optP (stmtParts x4 ["same", "below", "triple"]) = .tup [.lst (fsts (sayP x4)), .lst (snds (sayP x4))] := isSome_opt hss
                  simp [hop]
                  refine comp_map (fun t => .bl (hypP t).isSome) trivial (fun t ht' R r => ?_) (le_sz (by omega)) ?_
                  · have := wt_mem ht'
                    have h1 : wt t ≤ 1000000 := by omega
                    simp [wipeD, bindT, wpC, ca.c9, ca.d9, sp_hypothesis_parts, pureW, okc t ht', h1]
                    have e1 : (!isNonD (optP (stmtParts t ["never", "keeps", "leaves", "triple"]))) = (hypP t).isSome := by
                      unfold hypP
                      cases stmtParts t ["never", "keeps", "leaves", "triple"] <;> rfl
                    rw [e1]; exact r
                  · simp only [boolsOf_map, Option.map_some, opt_some, all_map, truth_bl]
                    cases hc : c.all (fun h => (hypP h).isSome) with
                    | false =>
                      simp
                      exact eqW _ (by rw [hnb, hss, hc]; rfl)
                    | true =>
                      have hwz : wt x4 + wts c ≤ 400000 := by omega
                      have hwp := wp_wt x4 c
                      have hgo := wp_good x4 c
                      have hok := wp_ok ok4 okc
                      have hwz2 : wts (wp1 x4 c) + wts (wp2 x4 c) ≤ 500000 := by omega
                      simp only [if_true, ca.c12, ca.d12, sp_whole_parts, ok4, hwz, hss, hc, bindT, bindTs, opt_some, Option.bind_some, List.set_cons_succ, List.set_cons_zero, List.getElem?_cons_succ, List.getElem?_cons_zero, ca.c11, ca.d11, sp_all_parts]
                      refine ⟨trivial, okc, trivial, trivial, trivial, hok.1, hok.2, hgo.1, hgo.2, hwz2, fun F T hA => ?_⟩
                      have pla : plains a = true := oks_plains oka
                      have plb : plains b = true := oks_plains okb
                      refine comp_pure (fun d => if eqv (part d 0) (.str "name") = true then some (.bl (a.any fun y => eqv y (part d 1))) else none) trivial (fun t ht' R r => ?_) (le_sz (by have := hA.lT; simp; omega)) ?_
                      · obtain ⟨s, rr, rfl, hnm⟩ := isTest_shape (List.all_eq_true.mp hA.teT t ht')
                        simp [wipeD, wpC, wpT, wpEs, wpE]
                        by_cases e1 : s = "name"
                        · obtain ⟨x, rfl, hx⟩ := hnm e1
                          obtain ⟨nm, rfl⟩ := isName_str hx
                          subst e1
                          have h2 : inD μ (.str nm) (.tup a) = some (a.any fun y => eqv y (.str nm)) := inD_tup μ rfl pla (by simp)
                          simp [h2]
                          simpa [part] using r
                        · have e2 : (s == "name") = false := beq_eq_false_iff_ne.mpr e1
                          simp [e1]
                          simpa [part, e1] using r
                      · obtain ⟨bs, hbs, hall⟩ := boolsOf_filter (fun d => eqv (part d 0) (.str "name")) (fun d => a.any fun y => eqv y (part d 1)) T
                        have eT : (T.all fun d => if eqv (part d 0) (.str "name") = true then (a.any fun y => eqv y (part d 1)) else true) = ((wp2 x4 c).all (subT (nodeIn "name" a)) && (wp1 x4 c).all (subP fun p => (ptests p).all (subT (nodeIn "name" a)))) := hA.T (nodeIn "name" a)
                        rw [eT] at hall
                        simp only [List.nil_append, hbs, Option.map_some, opt_some, truth_bl, hall]
                        cases hT1 : ((wp2 x4 c).all (subT (nodeIn "name" a)) && (wp1 x4 c).all (subP fun p => (ptests p).all (subT (nodeIn "name" a)))) with
                        | false =>
                          simp
                          exact eqW _ (by rw [hnb, hss, hc, hT1]; rfl)
                        | true =>
                          simp only [if_true]
                          refine comp_pure (fun d => if eqv (part d 0) (.str "deed") = true then some (.bl (b.any fun y => eqv y (part d 1))) else none) trivial (fun t ht' R r => ?_) (le_sz (by have := hA.lF; simp; omega)) ?_
                          · obtain ⟨s, rr, rfl, hnm⟩ := isProg_shape (List.all_eq_true.mp hA.prF t ht')
                            simp [wipeD, wpC, wpT, wpEs, wpE]
                            by_cases e1 : s = "deed"
                            · obtain ⟨x, rfl, hx⟩ := hnm e1
                              obtain ⟨nm, rfl⟩ := isName_str hx
                              subst e1
                              have h2 : inD μ (.str nm) (.tup b) = some (b.any fun y => eqv y (.str nm)) := inD_tup μ rfl plb (by simp)
                              simp [h2]
                              simpa [part] using r
                            · have e2 : (s == "deed") = false := beq_eq_false_iff_ne.mpr e1
                              simp [e1]
                              simpa [part, e1] using r
                          · obtain ⟨bs, hbs, hall⟩ := boolsOf_filter (fun d => eqv (part d 0) (.str "deed")) (fun d => b.any fun y => eqv y (part d 1)) F
                            have eF : (F.all fun d => if eqv (part d 0) (.str "deed") = true then (b.any fun y => eqv y (part d 1)) else true) = (wp1 x4 c).all (subP (nodeIn "deed" b)) := hA.F (nodeIn "deed" b)
                            rw [eF] at hall
                            simp only [List.nil_append, hbs, Option.map_some, opt_some, hall]
                            exact eqW _ (by rw [hnb, hss, hc, hT1]; rfl)
            | _ => simp [isTupB]; exact ed _ rfl
          | _ => simp [isTupB]; exact ed _ rfl
        | _ => simp [isTupB]; exact ed _ rfl
    · simp [hh]
      exact ed _ (isWhole_head hh)
end K03

set_option Elab.async false
set_option linter.all false
set_option maxRecDepth 100000
set_option maxHeartbeats 4000000
namespace K03
open PySem PY
theorem w_draw_tail (S : Sg) {E : Sl → XD → Store → Prop} {p : Nat} {many C : Int} {x3 : Option D} {μ : Store} {Q : D → Store → Prop} {PD : PEnds} {ns : List Int} {a d t f : Int} (hw : wfS μ) (hpl : p < μ.length)
    (h1 : 0 ≤ a) (h2 : 0 ≤ d) (h3 : 0 ≤ t) (h4 : t ≤ C + 1) (h5 : 0 ≤ f) (h6 : f < 4294967296) (hC : C < Many) (hm1 : 1 ≤ many) (hm2 : many < 1073741824)
    (q : ∀ (r : Int) (pen' : Cell), 0 ≤ r → r < many → PenC (C + 1) pen' → Q (.int r) (μ.set p pen')) (hrt : PD.rt = fun d μ' => EndD μ.length d μ' Q) :
    wpSs S E b__law_draw_1 [some (.ref p), some (.int many), none, x3, none] (μ.set p (.dct false (penK (ns.map .int) a d t f))) PD := by
  have g : (μ.set p (.dct false (penK (ns.map .int) a d t f)))[p]? = some (.dct false (penK (ns.map .int) a d t f)) := List.getElem?_set_self hpl
  have hC' : C < 1000000000000 := hC
  have hm0 : many ≠ 0 := by omega
  have hmn : many.natAbs < 1073741824 := by omega
  unfold b__law_draw_1
  simp [ss_nil, ss_cons, wpS, wpE, wpT, wpEs, pen_digits g, hrt]
  by_cases hd : 0 < d
  · simp [hd, pen_digits g, bi_mod _ _ _ hm0, bi_fdiv _ _ _ hm0 hmn, bindT, set_digits g]
    have pc : PenC (C + 1) (.dct false (penK (ns.map .int) a (d.fdiv many) t f)) := ⟨ns, a, _, t, f, rfl, h1, Int.fdiv_nonneg h2 (by omega), h3, h4, h5, h6⟩
    exact EndD.pen hw (pc.below _) rfl (q _ _ (Int.fmod_nonneg_of_pos _ (by omega)) (Int.fmod_lt_of_pos _ (by omega)) pc)
  · simp [hd, pen_fold g, pen_count g]
    rw [bi_mul _ _ _ (by decide)]
    simp [bindT]
    rw [bi_pow _ _ _ (by decide) (by decide) (by show (f + t * 7907 + 37).natAbs < _; omega)]
    simp
    rw [bi_mod _ _ _ (by decide)]
    simp
    rw [bi_fdiv _ _ _ (by decide) (by decide)]
    simp
    rw [bi_mod _ _ _ hm0]
    simp
    have pc : PenC (C + 1) (.dct false (penK (ns.map .int) a d t f)) := ⟨ns, a, d, t, f, rfl, h1, h2, h3, h4, h5, h6⟩
    exact EndD.pen hw (pc.below _) rfl (q _ _ (Int.fmod_nonneg_of_pos _ (by omega)) (Int.fmod_lt_of_pos _ (by omega)) pc)
theorem w_law_draw (S : Sg) : Body S sp_law_draw b__law_draw N__law_draw 2 := by
  intro ds μ Q E h hl hb hw
  match ds, hl, h with
  | [.ref p, .int many], _, h =>
    obtain ⟨C, pen, hp, ⟨ns, a, d, t, f, rfl, h1, h2, h3, h4, h5, h6⟩, hC, hm1, hm2, q⟩ := h
    have e : startD N__law_draw [.ref p, .int many] = [some (.ref p), some (.int many), none, none, none] := rfl
    rw [e]
    unfold b__law_draw
    have hpl : p < μ.length := (List.getElem?_eq_some_iff.mp hp).1
    have g1 : (μ.set p (.dct false (penK (ns.map .int) a d (t + 1) f)))[p]? = some (.dct false (penK (ns.map .int) a d (t + 1) f)) := List.getElem?_set_self hpl
    simp [ss_nil, ss_cons, wpS, wpE, wpT, wpTAnd, wpEs, pen_count hp, set_count hp, pen_digits g1, pen_at g1, pen_cells g1]
    split
    · rename_i hd
      split
      · rename_i ha
        have hx : ∃ c, atD (ns.map D.int) a = some (.int c) := by
          have hal : a.toNat < ns.length := by omega
          refine ⟨ns[a.toNat], ?_⟩
          unfold atD
          rw [if_pos h1, List.getElem?_map, List.getElem?_eq_getElem hal]; rfl
        obtain ⟨c, hx⟩ := hx
        have g2 : (μ.set p (.dct false (penK (ns.map .int) (a + 1) d (t + 1) f)))[p]? = some (.dct false (penK (ns.map .int) (a + 1) d (t + 1) f)) := List.getElem?_set_self hpl
        have hpw : ∀ ν, binD ν .pow (.int 10) (.int 18) = some (.int (10 ^ 18)) := fun ν => bi_pow _ _ _ (by decide) (by decide) (by decide)
        simp [hx, bindT, pen_at g1, set_at g1, hpw]
        split
        · simp [set_digits g2]
          exact w_draw_tail S hw hpl (by omega) (by omega) (by omega) (by omega) h5 h6 hC hm1 hm2 q rfl
        · rename_i hc
          simp [pen_fold g2]
          rw [bi_mul _ _ _ (by decide)]
          simp
          rw [bi_mod _ _ _ (by decide)]
          simp [set_fold g2]
          exact w_draw_tail S hw hpl (by omega) (by omega) (by omega) (by omega) (Int.fmod_nonneg_of_pos _ (by decide)) (Int.lt_trans (Int.fmod_lt_of_pos _ (by decide)) (by decide)) hC hm1 hm2 q rfl
      · exact w_draw_tail S hw hpl h1 h2 (by omega) (by omega) h5 h6 hC hm1 hm2 q rfl
    · exact w_draw_tail S hw hpl h1 h2 (by omega) (by omega) h5 h6 hC hm1 hm2 q rfl
/-- the promises of the pen -/
structure Cp (S : Sg) : Prop where
  c14 : S.call 14 = sp_law_pen
  c15 : S.call 15 = sp_law_draw
  c16 : S.call 16 = sp_law_pick
  c17 : S.call 17 = sp_law_is_truth
  d14 : S.dfl 14 = []
  d15 : S.dfl 15 = []
  d16 : S.dfl 16 = []
  d17 : S.dfl 17 = []
theorem w_law_pick (S : Sg) (cp : Cp S) : Body S sp_law_pick b__law_pick N__law_pick 2 := by
  intro ds μ Q E h hl hb hw
  match ds, hl, h with
  | [.ref p, .lst xs], _, h =>
    obtain ⟨C, pen, hp, hpen, hC, hne, hlen, q⟩ := h
    have e : startD N__law_pick [.ref p, .lst xs] = [some (.ref p), some (.lst xs)] := rfl
    rw [e]
    unfold b__law_pick
    have hpos : 0 < xs.length := List.length_pos_iff.mpr hne
    have hbx : belows μ.length xs = true := by simp at hb; exact hb.2
    simp [ss_nil, ss_cons, wpS, wpE, wpEs, cp.c15, cp.d15, sp_law_draw]
    refine ⟨C, pen, hp, hpen, hC, by omega, by omega, fun r pen' h1 h2 hp' => ?_⟩
    have hr : r.toNat < xs.length := by omega
    have hx : atD xs r = some xs[r.toNat] := by
      unfold atD
      rw [if_pos h1, List.getElem?_eq_getElem hr]
    simp [hx]
    refine EndD.pen hw (hp'.below _) ?_ (q _ (List.getElem_mem hr) pen' hp')
    exact belows_mem hbx (List.getElem_mem hr)
theorem w_law_is_truth (S : Sg) : Body S sp_law_is_truth b__law_is_truth N__law_is_truth 2 := by
  intro ds μ Q E h hl hb hw
  match ds, hl, h with
  | [v, .bl b], _, h =>
    obtain ⟨ho, q⟩ := h
    have hp := (ok_and ho).1
    have e : startD N__law_is_truth [v, .bl b] = [some v, some (.bl b)] := rfl
    rw [e]
    unfold b__law_is_truth
    have ed := EndD.same hw rfl q
    cases v with
    | ref i => simp at hp
    | scr i => simp at hp
    | ins c xs => simp at hp
    | _ =>
      simp [ss_nil, ss_cons, wpS, wpE, wpAnd, wpEs, vtIs]
      exact ed
theorem w_pen_body (S : Sg) (sc : D) (ns : List Int) {μ : Store} {Q : D → Store → Prop} {E : XD → Store → Prop} (hw : wfS μ) (hv : valPlan μ sc = some ⟨ns.map .int, fun _ => True⟩) (hsq : ∀ μ, seqOf μ sc = some (ns.map .int)) (hn : ns.length ≤ 1000)
    (q : ∀ pen, PenC 0 pen → Q (.ref μ.length) (μ ++ [pen])) :
    wpSs S (fun _ x μ' => EndX μ.length x μ' E) b__law_pen [some sc, none, none] μ { nx := fun _ μ' => EndD μ.length .non μ' Q, rt := fun d μ' => EndD μ.length d μ' Q } := by
  unfold b__law_pen
  simp [ss_nil, ss_cons, wpS, wpE, wpEs, bindT, wpI, hv]
  refine for_ind (fun ds ρ μ' => ∃ f x, ρ = [some sc, some (.int f), x] ∧ μ' = μ ∧ 0 ≤ f ∧ f < 4294967296 ∧ ∀ d ∈ ds, ∃ n : Int, d = .int n) ?_ ?_ _ _ _ ⟨0, none, rfl, rfl, by decide, by decide, fun d hd => by obtain ⟨n, _, rfl⟩ := List.mem_map.mp hd; exact ⟨n, rfl⟩⟩
  · rintro d ds ρ μ' N ih ⟨f, x, rfl, rfl, h1, h2, h3⟩
    obtain ⟨n, rfl⟩ := h3 d (by simp)
    refine ⟨trivial, ?_⟩
    simp [bindT, ss_nil, ss_cons, wpS, wpE, wpEs]
    rw [bi_mul _ _ _ (by decide)]
    simp
    rw [bi_mod _ _ _ (by decide)]
    simp
    exact ih _ _ ⟨_, _, rfl, rfl, Int.fmod_nonneg_of_pos _ (by decide), Int.lt_trans (Int.fmod_lt_of_pos _ (by decide)) (by decide), fun d hd => h3 d (by simp [hd])⟩
  · rintro ρ μ' ⟨f, x, rfl, rfl, h1, h2, h3⟩
    refine ⟨trivial, ?_⟩
    simp [b__law_pen_1, ss_nil, ss_cons, wpS, wpE, wpEs, hsq, primD, pairsOf, flatKey, putAll, put]
    have pc : PenC 0 (.dct false (penK (ns.map .int) 0 0 0 f)) := ⟨ns, 0, 0, 0, f, rfl, by decide, by decide, by decide, by decide, h1, h2⟩
    exact EndD.keep hw (pc.below _) (q _ pc)
theorem w_law_pen (S : Sg) : Body S sp_law_pen b__law_pen N__law_pen 1 := by
  intro ds μ Q E h hl hb hw
  match ds, hl, h with
  | [.lst xs], _, h =>
    obtain ⟨ns, rfl, hn, q⟩ := h
    exact w_pen_body S (.lst (ns.map .int)) ns hw rfl (fun _ => rfl) hn q
  | [.scr ns], _, h =>
    obtain ⟨hn, q⟩ := h
    exact w_pen_body S (.scr ns) ns hw rfl (fun _ => rfl) hn q
end K03

set_option Elab.async false
set_option linter.all false
set_option maxRecDepth 100000
set_option maxHeartbeats 4000000
namespace K03
open PySem PY
def leafB : Sts := (.cons (.ite (.or_ (.cons (.prim (.cm .eq) (.cons (.var 1) (.cons (.prim (.lst false) (.nil)) (.nil)))) (.cons (.prim (.cm .eq) (.cons (.call 15 (.cons (.var 0) (.cons (.con (.int 6)) (.nil))) 0) (.cons (.con (.int 0)) (.nil)))) (.nil)))) (.cons (.ret (.prim (.tup) (.cons (.call 16 (.cons (.var 0) (.cons (.prim (.lst false) (.cons (.str "true") (.cons (.str "false") (.nil)))) (.nil))) 0) (.nil))))
  (.nil)) (.nil))
  (.cons (.ret (.prim (.tup) (.cons (.str "name") (.cons (.call 16 (.cons (.var 0) (.cons (.prim (.list1 false) (.cons (.var 1) (.nil))) (.nil))) 0) (.nil)))))
  (.nil)))
def restB : Sts := (.cons (.asg (.name 3) (.call 15 (.cons (.var 0) (.cons (.con (.int 3)) (.nil))) 0))
  (.cons (.ite (.prim (.cm .eq) (.cons (.var 3) (.cons (.con (.int 0)) (.nil)))) (.cons (.ret (.prim (.tup) (.cons (.str "not") (.cons (.call 18 (.cons (.var 0) (.cons (.var 1) (.cons (.prim (.bin .sub) (.cons (.var 2) (.cons (.con (.int 1)) (.nil)))) (.nil)))) 0) (.nil)))))
  (.nil)) (.nil))
  (.cons (.ret (.prim (.tup) (.cons (.prim (.ix) (.cons (.prim (.lst false) (.cons (.str "and") (.cons (.str "or") (.nil)))) (.cons (.prim (.bin .sub) (.cons (.var 3) (.cons (.con (.int 1)) (.nil)))) (.nil)))) (.cons (.call 18 (.cons (.var 0) (.cons (.var 1) (.cons (.prim (.bin .fdiv) (.cons (.var 2) (.cons (.con (.int 2)) (.nil)))) (.nil)))) 0) (.cons (.call 18 (.cons (.var 0) (.cons (.var 1) (.cons (.prim (.bin .fdiv) (.cons (.var 2) (.cons (.con (.int 2)) (.nil)))) (.nil)))) 0) (.nil))))))
  (.nil))))
theorem b_split : b__law_test = .cons (.ite (.or_ (.cons (.prim (.cm .lt) (.cons (.var 2) (.cons (.con (.int 2)) (.nil)))) (.cons (.prim (.cm .eq) (.cons (.call 15 (.cons (.var 0) (.cons (.con (.int 3)) (.nil))) 0) (.cons (.con (.int 0)) (.nil)))) (.nil)))) leafB .nil) restB := rfl
theorem w_law_test (S : Sg) (cp : Cp S) (m : Nat) (h18 : S.call 18 = sp_law_test m) (d18 : S.dfl 18 = []) : Body S (sp_law_test (m + 1)) b__law_test N__law_test 3 := by
  intro ds μ Q E h hl hb hw
  match ds, hl, h with
  | [.ref p, .lst tl, .int n], _, h =>
    obtain ⟨k, ts, C, pen, rfl, hkm, hk20, rfl, hts, htl, hp, hpen, hC, q⟩ := h
    have e : startD N__law_test [.ref p, .lst (ts.map .str), .int (k : Int)] = [some (.ref p), some (.lst (ts.map .str)), some (.int (k : Int)), none] := rfl
    rw [e]
    rw [b_split]
    have hpl : p < μ.length := (List.getElem?_eq_some_iff.mp hp).1
    have hC' : C + 8 * 2 ^ k < 1000000000000 := hC
    have hk1 : (1 : Int) ≤ 2 ^ k := by
      have h0 : 1 ≤ 2 ^ k := Nat.one_le_two_pow
      exact_mod_cast h0
    have hk2 : 1 ≤ 2 ^ k := Nat.one_le_two_pow
    -- the leaf
    have leaf : ∀ (C' : Int) (pen' : Cell), PenC C' pen' → C' ≤ C + 1 → wpSs S (fun _ x μ' => EndX μ.length x μ' E) leafB
        [some (.ref p), some (.lst (ts.map .str)), some (.int (k : Int)), none] (μ.set p pen') { nx := fun _ μ' => EndD μ.length .non μ' Q, rt := fun d μ' => EndD μ.length d μ' Q } := by
      intro C' pen' hp' hC2
      have gp : (μ.set p pen')[p]? = some pen' := List.getElem?_set_self hpl
      unfold leafB
      simp [ss_nil, ss_cons, wpS, wpE, wpT, wpTOr, wpEs, Sz]
      have heq : ∀ ν, eqD ν (.lst (ts.map .str)) (.lst []) = some ts.isEmpty := fun ν => by
        rw [eqD_r ν (by simp) rfl (by decide)]
        cases ts <;> rfl
      have hts2 : ts.length < 1073741824 := by omega
      have tf : ∀ (C2 : Int) (pen2 : Cell), PenC C2 pen2 → C2 ≤ C + 2 → sp_law_pick [.ref p, .lst [.str "true", .str "false"]] (μ.set p pen2) (fun d μ1 => EndD μ.length (.tup [d]) μ1 Q) (fun x μ' => EndX μ.length x μ' E) := by
        intro C2 pen2 hp2 hC3
        refine ⟨C2, pen2, List.getElem?_set_self hpl, hp2, by show C2 < 1000000000000; omega, by simp, by simp, fun x hx pen3 hp3 => ?_⟩
        rw [List.set_set]
        have hp4 : PenC (C + 8 * 2 ^ k - 2) pen3 := hp3.mono (by omega)
        simp at hx
        rcases hx with rfl | rfl
        · exact EndD.pen hw (hp4.below _) rfl (q _ _ (gen_true ts).1 (by simp [wt]; omega) (by simp; try omega) hp4)
        · exact EndD.pen hw (hp4.below _) rfl (q _ _ (gen_true ts).2 (by simp [wt]; omega) (by simp; try omega) hp4)
      simp [heq, cp.c16, cp.d16]
      split
      · exact tf C' pen' hp' (by omega)
      · rename_i hne
        simp [cp.c15, cp.d15, sp_law_draw]
        refine ⟨C', pen', gp, hp', by show C' < 1000000000000; omega, fun r pen2 h1 h2 hp2 => ?_⟩
        split
        · exact tf (C' + 1) pen2 hp2 (by omega)
        · refine ⟨C' + 1, pen2, List.getElem?_set_self hpl, hp2, by show C' + 1 < 1000000000000; omega, by simpa using hne, by simpa using hts2, fun x hx pen3 hp3 => ?_⟩
          rw [List.set_set]
          obtain ⟨s, hs, rfl⟩ := List.mem_map.mp hx
          have hp4 : PenC (C + 8 * 2 ^ k - 2) pen3 := hp3.mono (by omega)
          exact EndD.pen hw (hp4.below _) rfl (q _ _ (gen_name hts hs) (by simp [wt]; omega) (by simp; try omega) hp4)
    have hset : μ.set p pen = μ := by
      apply List.ext_getElem?
      intro i
      by_cases hi : i = p
      · subst hi; rw [List.getElem?_set_self hpl]; exact hp.symm
      · rw [List.getElem?_set_ne (Ne.symm hi)]
    simp [ss_nil, ss_cons, wpS, wpE, wpT, wpTOr, wpEs]
    split
    · have := leaf C pen hpen (by omega)
      rw [hset] at this
      exact this
    · rename_i hk
      simp [cp.c15, cp.d15, sp_law_draw]
      refine ⟨C, pen, hp, hpen, by show C < 1000000000000; omega, fun r pen' h1 h2 hp' => ?_⟩
      split
      · exact leaf (C + 1) pen' hp' (by omega)
      · unfold restB
        simp [ss_nil, ss_cons, wpS, wpE, wpT, wpEs, bindT, cp.c15, cp.d15, sp_law_draw]
        refine ⟨C + 1, pen', List.getElem?_set_self hpl, hp', by show C + 1 < 1000000000000; omega, fun w pen2 hw1 hw2 hp2 => ?_⟩
        obtain ⟨k', rfl⟩ : ∃ k', k = k' + 1 := ⟨k - 1, by omega⟩
        have hk' : 1 ≤ k' := by omega
        have pow1 : (2 : Int) ^ (k' + 1) = 2 * 2 ^ k' := by rw [Int.pow_succ]; omega
        have pow2 : (2 : Nat) ^ (k' + 1) = 2 * 2 ^ k' := by rw [Nat.pow_succ]; omega
        have one1 : (1 : Int) ≤ 2 ^ k' := by
          have h0 : 1 ≤ 2 ^ k' := Nat.one_le_two_pow
          exact_mod_cast h0
        have one2 : 1 ≤ 2 ^ k' := Nat.one_le_two_pow
        split
        · have ek : ((k' + 1 : Nat) : Int) - 1 = (k' : Int) := by omega
          rw [ek, h18, d18]
          refine ⟨k', ts, C + 1 + 1, pen2, rfl, by omega, by omega, rfl, hts, htl, List.getElem?_set_self hpl, hp2, by show _ < (1000000000000 : Int); omega, fun t pen3 ht hwt hdt hp3 => ?_⟩
          rw [List.set_set]
          have hp4 : PenC (C + 8 * 2 ^ (k' + 1) - 2) pen3 := hp3.mono (by omega)
          simp [Sz]
          have g := gen_not ht
          exact EndD.pen hw (hp4.below _) (below_plain _ (ok_and g.2.1).1) (q _ _ g (by simp [wt]; omega) (by simp; try omega) hp4)
        · rename_i hw0
          have hwr : w = 1 ∨ w = 2 := by omega
          have ef : ((k' + 1 : Nat) : Int).fdiv 2 = (((k' + 1) / 2 : Nat) : Int) := by
            rw [Int.fdiv_eq_ediv_of_nonneg _ (by decide)]; rfl
          have hbf : ∀ ν, binD ν .fdiv (.int ((k' + 1 : Nat) : Int)) (.int 2) = some (.int (((k' + 1) / 2 : Nat) : Int)) := fun ν => by
            rw [bi_fdiv _ _ _ (by decide) (by decide), ef]
          have hh : (k' + 1) / 2 ≤ k' := by omega
          have pw1 : (2 : Int) ^ ((k' + 1) / 2) ≤ 2 ^ k' := by
            have h0 : 2 ^ ((k' + 1) / 2) ≤ 2 ^ k' := Nat.pow_le_pow_right (by decide) hh
            exact_mod_cast h0
          have pw2 : (2 : Nat) ^ ((k' + 1) / 2) ≤ 2 ^ k' := Nat.pow_le_pow_right (by decide) hh
          have hix : ∃ s, (s = "and" ∨ s = "or") ∧ atD [D.str "and", D.str "or"] (w - 1) = some (.str s) := by
            rcases hwr with rfl | rfl
            · exact ⟨"and", .inl rfl, rfl⟩
            · exact ⟨"or", .inr rfl, rfl⟩
          obtain ⟨s, hs, hix⟩ := hix
          simp only [Sz, opt_some, ix_lst, hix, Option.map_some, hbf, h18, d18, show (2 : Nat) ≤ 16777216 from by decide, show (3 : Nat) ≤ 16777216 from by decide, if_true]
          refine ⟨(k' + 1) / 2, ts, C + 1 + 1, pen2, rfl, by omega, by omega, rfl, hts, htl, List.getElem?_set_self hpl, hp2, by show _ < (1000000000000 : Int); omega, fun t pen3 ht hwt hdt hp3 => ?_⟩
          rw [List.set_set]
          refine ⟨(k' + 1) / 2, ts, _, pen3, rfl, by omega, by omega, rfl, hts, htl, List.getElem?_set_self hpl, hp3, by show _ < (1000000000000 : Int); omega, fun t2 pen4 ht2 hwt2 hdt2 hp4 => ?_⟩
          rw [List.set_set]
          have hp5 : PenC (C + 8 * 2 ^ (k' + 1) - 2) pen4 := hp4.mono (by omega)
          have g : GenT ts (.tup [.str s, t, t2]) := by
            rcases hs with rfl | rfl
            · exact (gen_and ht ht2).1
            · exact (gen_and ht ht2).2
          exact EndD.pen hw (hp5.below _) (below_plain _ (ok_and g.2.1).1) (q _ _ g (by simp [wt]; omega) (by simp; try omega) hp5)
end K03

set_option Elab.async false
set_option linter.all false
set_option maxRecDepth 100000
set_option maxHeartbeats 4000000
namespace K03
open PySem PY
theorem w_law_names (S : Sg) (cp : Cp S) : Body S sp_law_names b__law_names N__law_names 1 := by
  intro ds μ Q E h hl hb hw
  match ds, hl, h with
  | [.ref p], _, h =>
    obtain ⟨C, pen, hp, hpen, hC, q⟩ := h
    have hC' : C + 2 < 1000000000000 := hC
    have hpl : p < μ.length := (List.getElem?_eq_some_iff.mp hp).1
    have e : startD N__law_names [.ref p] = [some (.ref p), none, none] := rfl
    rw [e]
    unfold b__law_names
    simp [ss_nil, ss_cons, wpS, wpE, wpEs, bindT, cp.c16, cp.d16, Sz]
    refine ⟨C, pen, hp, hpen, by show C < 1000000000000; omega, by simp, by simp, fun x hx pen2 hp2 => ?_⟩
    refine ⟨C + 1, pen2, List.getElem?_set_self hpl, hp2, by show C + 1 < 1000000000000; omega, by simp, by simp, fun y hy pen3 hp3 => ?_⟩
    rw [List.set_set]
    have hx' : ∃ ts ∈ testNames, x = .lst (ts.map .str) := by
      simp at hx
      rcases hx with rfl | rfl | rfl | rfl
      · exact ⟨[], by decide, rfl⟩
      · exact ⟨["p"], by decide, rfl⟩
      · exact ⟨["p", "q"], by decide, rfl⟩
      · exact ⟨["q", "p"], by decide, rfl⟩
    have hy' : ∃ ts ∈ deedNames, y = .lst (ts.map .str) := by
      simp at hy
      rcases hy with rfl | rfl | rfl
      · exact ⟨["a"], by decide, rfl⟩
      · exact ⟨["a", "b"], by decide, rfl⟩
      · exact ⟨["b", "a"], by decide, rfl⟩
    obtain ⟨ts, h1, rfl⟩ := hx'
    obtain ⟨ds, h2, rfl⟩ := hy'
    have hp4 : PenC (C + 2) pen3 := hp3.mono (by omega)
    simp
    exact EndD.pen hw (hp4.below _) (by simp [belows_plain]) (q ts h1 ds h2 pen3 hp4)
end K03

set_option Elab.async false
set_option linter.all false
set_option maxRecDepth 100000
set_option maxHeartbeats 4000000
namespace K03
open PySem PY
theorem w_law_put (S : Sg) (m : Nat) (h25 : S.call 25 = sp_law_put m) (d25 : S.dfl 25 = []) : Body S (sp_law_put (m + 1)) b__law_put N__law_put 3 := by
  intro ds μ Q E h hl hb hw
  match ds, hl, h with
  | [t, .tup path, new], _, h =>
    obtain ⟨ks, rfl, hm, hsub, ht, hn, hz, q⟩ := h
    have e : startD N__law_put [t, .tup (pathD ks), new] = [some t, some (.tup (pathD ks)), some new] := rfl
    rw [e]
    unfold b__law_put
    cases ks with
    | nil =>
      have heq : ∀ ν, eqD ν (.tup (pathD [])) (.tup []) = some true := fun ν => rfl
      simp [ss_nil, ss_cons, wpS, wpE, wpT, wpEs, heq]
      have : putAt t [] new = new := by cases t <;> rfl
      rw [this] at q
      exact EndD.same hw (below_plain _ hn) q
    | cons k ks =>
      cases t with
      | tup xs =>
        have hpp : plains (pathD (k :: ks)) = true := plains_iff.mpr fun x hx => by obtain ⟨n, _, rfl⟩ := List.mem_map.mp hx; rfl
        have heq : ∀ ν, eqD ν (.tup (pathD (k :: ks))) (.tup []) = some false := fun ν => by
          rw [eqD_r ν (by simpa using hpp) rfl (by decide)]; rfl
        have hx : ∃ x, xs[k]? = some x ∧ (subAt x ks).isSome = true := by
          cases hx : xs[k]? with
          | none =>
            have : subAt (.tup xs) (k :: ks) = none := by show (xs[k]?).bind _ = _; rw [hx]; rfl
            rw [this] at hsub; cases hsub
          | some x =>
            have : subAt (.tup xs) (k :: ks) = subAt x ks := by show (xs[k]?).bind _ = _; rw [hx]; rfl
            rw [this] at hsub
            exact ⟨x, rfl, hsub⟩
        obtain ⟨x, hx, hsx⟩ := hx
        have hk : k < xs.length := (List.getElem?_eq_some_iff.mp hx).1
        have hix : atD xs (k : Int) = some x := by
          unfold atD
          rw [if_pos (by omega), Int.toNat_natCast]; exact hx
        have hip : atD (pathD (k :: ks)) 0 = some (.int (k : Int)) := rfl
        have hcd : cut (pathD (k :: ks)) (some 1) none = pathD ks := cut_drop (pathD (k :: ks)) 1 (by simp [pathD])
        have hct : cut xs none (some (k : Int)) = xs.take k := cut_take xs k (by omega)
        have hcd2 : cut xs (some ((k : Int) + 1)) none = xs.drop (k + 1) := cut_drop xs (k + 1) (by omega)
        have hmem : x ∈ xs := List.mem_of_getElem? hx
        have hwx := wt_mem hmem
        rw [wt_tup] at hz
        have hl := wts_len xs
        simp [ss_nil, ss_cons, wpS, wpE, wpT, wpEs, heq, hip, slD, hct, hix, hcd, h25, d25]
        have hpx : PY.plain x = true := plains_iff.mp (by simpa using ht) x hmem
        refine ⟨ks, rfl, by simp at hm; omega, hsx, hpx, hn, by omega, ?_⟩
        have hle1 : (xs.take k).length + 1 ≤ Sz := le_sz (by rw [List.length_take]; omega)
        have hle2 : (xs.take k).length + 1 + (xs.drop (k + 1)).length ≤ Sz := le_sz (by rw [List.length_take, List.length_drop]; omega)
        have hb1 : ∀ y, binD μ .add (.tup (xs.take k)) (.tup [y]) = some (.tup (xs.take k ++ [y])) := fun y => by
          show (if (xs.take k).length + [y].length ≤ Sz then _ else none) = _
          exact if_pos hle1
        have hb2 : ∀ y, binD μ .add (.tup (xs.take k ++ [y])) (.tup (xs.drop (k + 1))) = some (.tup (xs.set k y)) := fun y => by
          show (if (xs.take k ++ [y]).length + (xs.drop (k + 1)).length ≤ Sz then some (D.tup (xs.take k ++ [y] ++ xs.drop (k + 1))) else none) = _
          rw [if_pos (by rw [List.length_append]; exact hle2), put_list xs k y hk]
        simp only [Sz, show (1 : Nat) ≤ 16777216 from by decide, if_true, opt_some, hb1, Option.map_some, hcd2, hb2]
        have hq : PY.putAt (.tup xs) (k :: ks) new = .tup (xs.set k (PY.putAt x ks new)) := by
          show D.tup (xs.set k (PY.putAt (xs.getD k .non) ks new)) = _
          rw [List.getD_eq_getElem?_getD, hx]; rfl
        rw [← hq]
        exact EndD.same hw (below_plain _ (putAt_plain _ _ _ ht hn)) q
      | _ => cases hsub
end K03

set_option Elab.async false
set_option linter.all false
set_option maxRecDepth 100000
set_option maxHeartbeats 4000000
namespace K03
open PySem PY
theorem w_law_bad (S : Sg) (cp : Cp S) : Body S sp_law_bad b__law_bad N__law_bad 2 := by
  intro ds μ Q E h hl hb hw
  match ds, hl, h with
  | [.ref p, .tup xs], _, h =>
    obtain ⟨C, pen, hp, hpen, hC, hpl, hlen, q⟩ := h
    have e : startD N__law_bad [.ref p, .tup xs] = [some (.ref p), some (.tup xs)] := rfl
    rw [e]
    unfold b__law_bad
    have hle : xs.length + 1 ≤ Sz := le_sz (by omega)
    have hbin : ∀ ν, binD ν .add (.tup xs) (.tup [.tup [.str "skip"]]) = some (.tup (xs ++ [.tup [.str "skip"]])) := fun ν => by
      show (if xs.length + 1 ≤ Sz then _ else none) = _
      exact if_pos hle
    simp [ss_nil, ss_cons, wpS, wpE, wpEs, cp.c16, cp.d16, Sz, hbin]
    refine ⟨C, pen, hp, hpen, hC, by simp, by simp, fun x hx pen2 hp2 => ?_⟩
    have hx' : x ∈ badL xs := hx
    refine EndD.pen hw (hp2.below _) (below_plain _ ?_) (q x hx' pen2 hp2)
    simp at hx
    rcases hx with rfl | rfl | rfl | rfl | rfl | rfl | rfl | rfl | rfl | rfl | rfl | rfl | rfl <;> simp [hpl]
end K03

set_option Elab.async false
set_option linter.all false
set_option maxRecDepth 100000
set_option maxHeartbeats 4000000
namespace K03
open PySem PY
theorem w_law_l_none (S : Sg) (cp : Cp S) : Body S sp_law_l_none b__law_l_none N__law_l_none 1 := by
  intro ds μ Q E h hl hb hw
  match ds, hl, h with
  | [.ref p], _, h =>
    obtain ⟨C, pen, hp, hpen, hC, q⟩ := h
    have e : startD N__law_l_none [.ref p] = [some (.ref p)] := rfl
    rw [e]
    unfold b__law_l_none
    simp [ss_nil, ss_cons, wpS, wpE, wpEs, cp.c16, cp.d16, Sz]
    refine ⟨C, pen, hp, hpen, hC, by simp, by simp, fun x hx pen2 hp2 => ?_⟩
    have hx' : x ∈ noneL := hx
    refine EndD.pen hw (hp2.below _) (below_plain _ ?_) (q x hx' pen2 hp2)
    exact plains_mem (by decide +kernel) hx'
end K03

set_option Elab.async false
set_option linter.all false
set_option maxRecDepth 100000
set_option maxHeartbeats 4000000
namespace K03
open PySem PY
section
variable {S : Sg} {μ cs : Store} {p : Nat} {pen : Cell} {C : Int} {E : XD → Store → Prop} {Q : D → Store → Prop}
theorem do_draw (hpl : p < μ.length) (hp : PenC C pen) (hC : C < 1000000000000) {many : Int} (h1 : 1 ≤ many) (h2 : many < 1073741824)
    (q : ∀ r pen', 0 ≤ r → r < many → PenC (C + 1) pen' → Q (.int r) (μ.set p pen' ++ cs)) : sp_law_draw [.ref p, .int many] (μ.set p pen ++ cs) Q E :=
  ⟨C, pen, pen_get hpl, hp, hC, h1, h2, fun r pen' a b c => by rw [pen_set hpl]; exact q r pen' a b c⟩
theorem do_pick (hpl : p < μ.length) (hp : PenC C pen) (hC : C < 1000000000000) {xs : List D} (h1 : xs ≠ []) (h2 : xs.length < 1073741824)
    (q : ∀ x ∈ xs, ∀ pen', PenC (C + 1) pen' → Q x (μ.set p pen' ++ cs)) : sp_law_pick [.ref p, .lst xs] (μ.set p pen ++ cs) Q E :=
  ⟨C, pen, pen_get hpl, hp, hC, h1, h2, fun r hr pen' c => by rw [pen_set hpl]; exact q r hr pen' c⟩
theorem do_test {m : Nat} (hm : 2 < m) {ts : List String} (hts : ts.all nameS = true) (htl : ts.length ≤ 100) (hpl : p < μ.length) (hp : PenC C pen) (hC : C + 32 < 1000000000000)
    (q : ∀ t pen', GenT ts t → wt t ≤ 30 → depth t ≤ 3 → PenC (C + 30) pen' → Q t (μ.set p pen' ++ cs)) : sp_law_test m [.ref p, .lst (ts.map .str), .int 2] (μ.set p pen ++ cs) Q E :=
  ⟨2, ts, C, pen, rfl, hm, by omega, rfl, hts, htl, pen_get hpl, hp, hC, fun t pen' a b d c => by
    rw [pen_set hpl]
    exact q t pen' a (by omega) d (c.mono (by omega))⟩
end
theorem gens_plain {ts ds : List String} {W : List D} (h : ∀ x ∈ W, GenP ts ds x) : plains W = true := plains_iff.mpr fun x hx => (ok_and (h x hx).2.1).1
theorem eq_nil {ν : Store} {i : Nat} {W : List D} (h : ν[i]? = some (.lst W)) (hp : plains W = true) : eqD ν (.ref i) (.lst []) = some W.isEmpty := by
  unfold eqD
  rw [deref_ref h]
  show (if canEq (.lst W) (.lst []) = true then some (eqv (.lst W) (.lst [])) else none) = _
  have : canEq (.lst W) (.lst []) = true := by simp [canEq, hp]
  rw [if_pos this]
  cases W <;> rfl
theorem eq_nil2 {ν : Store} {ts : List String} : eqD ν (.lst (ts.map .str)) (.lst []) = some ts.isEmpty := by
  rw [eqD_r ν (by simp) rfl (by decide)]
  cases ts <;> rfl
theorem opt_s {α : Type} (a : α) (Q : α → Prop) : opt (some a) Q = Q a := propext ⟨fun h => h, fun h => h⟩
theorem new_lst (ν : Store) : primD (.lst true) [] ν = some (.ref ν.length, ν ++ [.lst []]) := by
  unfold primD
  exact if_pos (Nat.zero_le _)
theorem w_prog_lap (S : Sg) (cp : Cp S) {m : Nat} (hm : 2 < m) (h18 : S.call 18 = sp_law_test m) (d18 : S.dfl 18 = []) {E : Sl → XD → Store → Prop} {PD : PEnds} {μ : Store} {p : Nat} {ts ds : List String} {n : D} {x5 x8 x9 x10 : Option D} {W : List D} {C : Int} {pen : Cell}
    (hpl : p < μ.length) (hts : ts.all nameS = true) (htl : ts.length ≤ 100) (hds : ds.all nameS = true) (hdl : ds.length ≤ 100) (hW : ∀ x ∈ W, GenP ts ds x) (hWl : W.length ≤ 900) (hp : PenC C pen) (hC : C + 100 < 1000000000000)
    (nx : ∀ x8 x9 x10 W' pen', (∀ x ∈ W', GenP ts ds x) → W' ≠ [] → wts W' ≤ wts W + 40 → W'.length ≤ W.length + 1 → depths W' ≤ depths W + 5 → PenC (C + 40) pen' →
      PD.nx [some (.ref p), some (.lst (ts.map .str)), some (.lst (ds.map .str)), some n, some (.ref μ.length), x5, none, none, x8, x9, x10] (μ.set p pen' ++ [.lst W'])) :
    wpSs S E b__law_l_program_l153 [some (.ref p), some (.lst (ts.map .str)), some (.lst (ds.map .str)), some n, some (.ref μ.length), x5, none, none, x8, x9, x10] (μ.set p pen ++ [.lst W]) PD := by
  have own : ∀ pen' (W' : List D), (μ.set p pen' ++ [Cell.lst W'])[μ.length]? = some (.lst W') := fun pen' W' => own_get0
  have oset : ∀ pen' (W' W2 : List D), (μ.set p pen' ++ [Cell.lst W']).set μ.length (.lst W2) = μ.set p pen' ++ [.lst W2] := fun pen' W' W2 => own_set0 _
  have hWp := gens_plain hW
  have app : ∀ pen' (W' : List D) (x : D), W'.length ≤ 1000 → primD .append [.ref μ.length, x] (μ.set p pen' ++ [.lst W']) = some (.non, μ.set p pen' ++ [.lst (W' ++ [x])]) := fun pen' W' x hl => by
    rw [p_append (own pen' W') (by show _ < 16777216; omega), oset]
  have ra : ∀ pen' (W' : List D), recvD .append (μ.set p pen' ++ [.lst W']) (.ref μ.length) = some () := fun pen' W' => recv_append (own pen' W')
  have rp : ∀ pen' (W' : List D), recvD .pop (μ.set p pen' ++ [.lst W']) (.ref μ.length) = some () := fun pen' W' => recv_pop (own pen' W')
  have pp : ∀ pen' (W' : List D) (x : D), primD .pop [.ref μ.length] (μ.set p pen' ++ [.lst (W' ++ [x])]) = some (x, μ.set p pen' ++ [.lst W']) := fun pen' W' x => by
    rw [p_pop (own pen' (W' ++ [x])), oset]
  have pp2 : ∀ pen' (W' : List D) (y x : D), primD .pop [.ref μ.length] (μ.set p pen' ++ [.lst (W' ++ [y, x])]) = some (x, μ.set p pen' ++ [.lst (W' ++ [y])]) := fun pen' W' y x => by
    have h := pp pen' (W' ++ [y]) x
    rw [List.append_assoc] at h
    exact h
  have len : ∀ pen' (W' : List D), lenD (μ.set p pen' ++ [.lst W']) (.ref μ.length) = some W'.length := fun pen' W' => len_ref (own pen' W')
  have fin : ∀ x8 x9 x10 W0 x pen2 C2, (∀ y ∈ W0, GenP ts ds y) → GenP ts ds x → W0.length ≤ W.length → wts W0 + wt x ≤ wts W + 40 → depths W0 ≤ depths W → depth x ≤ depths W + 5 → PenC C2 pen2 → C2 ≤ C + 40 →
      PD.nx [some (.ref p), some (.lst (ts.map .str)), some (.lst (ds.map .str)), some n, some (.ref μ.length), x5, none, none, x8, x9, x10] (μ.set p pen2 ++ [.lst (W0 ++ [x])]) := by
    intro x8 x9 x10 W0 x pen2 C2 h1 h2 h3 h4 h5 h6 h7 h8
    refine nx _ _ _ _ _ ?_ (by simp) (by rw [wts_append]; simp; omega) (by simp; omega) ?_ (h7.mono h8)
    · intro y hy
      rcases List.mem_append.mp hy with q | q
      · exact h1 y q
      · rw [List.mem_singleton.mp q]; exact h2
    · have : ∀ ys : List D, depths (ys ++ [x]) = max (depths ys) (depth x) := by
        intro ys
        induction ys with
        | nil => simp
        | cons y ys ih => simp [ih] <;> omega
      rw [this]; omega
  have leaf : ∀ x8 x9 x10 pen1 C1, PenC C1 pen1 → C1 ≤ C + 1 → wpSs S E b__law_l_program_l155 [some (.ref p), some (.lst (ts.map .str)), some (.lst (ds.map .str)), some n, some (.ref μ.length), x5, none, none, x8, x9, x10] (μ.set p pen1 ++ [.lst W]) PD := by
    intro x8 x9 x10 pen1 C1 hp1 hC1
    unfold b__law_l_program_l155; rw [ss_cons]
    simp [wpS, wpE, wpEs, bindT, cp.c15, cp.d15]
    refine do_draw hpl hp1 (by omega) (by omega) (by omega) fun r pen2 _ _ hp2 => ?_
    unfold b__law_l_program_l156; rw [ss_cons]
    have other : ∀ pen3, PenC (C1 + 1) pen3 → wpSs S E (.cons (.expr (.meth .append (.var 4) (.cons (.call 16 (.cons (.var 0) (.cons (.prim (.lst false) (.cons (.prim (.tup) (.cons (.str "skip") (.nil))) (.cons (.prim (.tup) (.cons (.str "stop") (.nil))) (.cons (.prim (.tup) (.cons (.str "assume") (.cons (.call 18 (.cons (.var 0) (.cons (.var 1) (.cons (.con (.int 2)) (.nil)))) 0) (.nil)))) (.nil))))) (.nil))) 0) (.nil)))) .nil)
        [some (.ref p), some (.lst (ts.map .str)), some (.lst (ds.map .str)), some n, some (.ref μ.length), x5, none, none, x8, some (.int r), x10] (μ.set p pen3 ++ [.lst W]) PD := by
      intro pen3 hp3
      simp [ss_nil, ss_cons, wpS, wpE, wpEs, ra, Sz, h18, d18, cp.c16, cp.d16]
      refine do_test hm hts htl hpl hp3 (by omega) fun t pen4 ht hwt hdt hp4 => ?_
      refine do_pick hpl hp4 (by omega) (by simp) (by simp) fun x hx pen5 hp5 => ?_
      rw [app _ _ _ (by omega)]
      simp at hx
      rcases hx with rfl | rfl | rfl
      · exact fin _ _ _ W _ pen5 _ hW genP_skip (by omega) (by simp [wt]) (by omega) (by simp) hp5 (by omega)
      · exact fin _ _ _ W _ pen5 _ hW genP_stop (by omega) (by simp [wt]) (by omega) (by simp) hp5 (by omega)
      · exact fin _ _ _ W _ pen5 _ hW (genP_assume ht) (by omega) (by simp [wt]; omega) (by omega) (by simp; omega) hp5 (by omega)
    simp [wpS, wpE, wpT, wpTAnd, wpEs, eq_nil2]
    split
    · split
      · exact other pen2 hp2
      · rename_i hne
        simp [ss_nil, ss_cons, wpS, wpE, wpEs, ra, cp.c16, cp.d16, Sz]
        refine do_pick hpl hp2 (by omega) (by simpa using hne) (by simp; omega) fun x hx pen5 hp5 => ?_
        obtain ⟨s, hs, rfl⟩ := List.mem_map.mp hx
        rw [app _ _ _ (by omega)]
        exact fin _ _ _ W _ pen5 _ hW (genP_deed hds hs) (by omega) (by simp [wt]) (by omega) (by simp) hp5 (by omega)
    · exact other pen2 hp2
  -- one part at least
  have rest1 : ∀ W0 x, W = W0 ++ [x] → ∀ h x9 x10 pen1 C1, PenC C1 pen1 → C1 ≤ C + 1 → wpSs S E b__law_l_program_l166 [some (.ref p), some (.lst (ts.map .str)), some (.lst (ds.map .str)), some n, some (.ref μ.length), x5, none, none, some (.int h), x9, x10] (μ.set p pen1 ++ [.lst W]) PD := by
    intro W0 x hWx h x9 x10 pen1 C1 hp1 hC1
    have hx : GenP ts ds x := hW x (by simp [hWx])
    have hW0 : ∀ y ∈ W0, GenP ts ds y := fun y hy => hW y (by simp [hWx, hy])
    have hl : W0.length ≤ W.length := by simp [hWx]
    have hw : wts W0 + wt x ≤ wts W := by simp [hWx, wts_append]
    have hd : depths W0 ≤ depths W ∧ depth x ≤ depths W := by
      have : ∀ ys : List D, depths (ys ++ [x]) = max (depths ys) (depth x) := by
        intro ys
        induction ys with
        | nil => simp
        | cons y ys ih => simp [ih] <;> omega
      rw [hWx, this]; omega
    have hl0 : W0.length ≤ 1000 := by omega
    unfold b__law_l_program_l166; rw [ss_cons]
    simp [wpS, wpE, wpT, wpEs, ss_nil]
    split
    · simp [ss_nil, ss_cons, wpS, wpE, wpEs, ra, Sz, h18, d18]
      refine do_test hm hts htl hpl hp1 (by omega) fun t pen4 ht hwt hdt hp4 => ?_
      simp [rp, hWx, pp, app _ _ _ hl0]
      exact fin _ _ _ W0 _ pen4 _ hW0 (genP_while ht hx) hl (by simp [wt]; omega) hd.1 (by simp <;> omega) hp4 (by omega)
    · unfold b__law_l_program_l168; rw [ss_cons]
      simp [wpS, wpE, wpT, wpEs, ss_nil]
      split
      · simp [ss_nil, ss_cons, wpS, wpE, wpEs, ra, rp, hWx, pp, Sz, h18, d18, cp.c16, cp.d16]
        refine do_test hm hts htl hpl hp1 (by omega) fun t pen4 ht hwt hdt hp4 => ?_
        refine do_pick hpl hp4 (by omega) (by simp) (by simp) fun z hz pen5 hp5 => ?_
        rw [app _ _ _ hl0]
        simp at hz
        rcases hz with rfl | rfl
        · exact fin _ _ _ W0 _ pen5 _ hW0 (genP_loop hx) hl (by simp [wt]; omega) hd.1 (by simp; omega) hp5 (by omega)
        · exact fin _ _ _ W0 _ pen5 _ hW0 (genP_if ht genP_skip genP_skip) hl (by simp [wt, skipD]; omega) hd.1 (by simp [skipD]; omega) hp5 (by omega)
      · simp [ss_nil, ss_cons, wpS, wpE, wpEs, ra, rp, hWx, pp, Sz, h18, d18]
        refine do_test hm hts htl hpl hp1 (by omega) fun t pen4 ht hwt hdt hp4 => ?_
        simp [app _ _ _ hl0]
        exact fin _ _ _ W0 _ pen4 _ hW0 (genP_repeat ht hx) hl (by simp [wt]; omega) hd.1 (by simp <;> omega) hp4 (by omega)
  unfold b__law_l_program_l153; rw [ss_cons]
  simp [wpS, wpE, wpT, wpEs, eq_nil (own _ _) hWp, bindT, cp.c15, cp.d15]
  split
  · unfold b__law_l_program_l154; rw [ss_cons]
    simp [wpS, wpE, wpT, wpEs, ss_nil]
    exact leaf _ _ _ pen C hp (by omega)
  · rename_i hne
    refine do_draw hpl hp (by omega) (by omega) (by omega) fun h pen1 _ _ hp1 => ?_
    unfold b__law_l_program_l154; rw [ss_cons]
    simp [wpS, wpE, wpT, wpEs, ss_nil]
    split
    · exact leaf _ _ _ pen1 _ hp1 (by omega)
    · obtain ⟨W0, x, hWx⟩ : ∃ W0 x, W = W0 ++ [x] := by
        rcases snoc_cases W with q | q
        · exact absurd q hne
        · exact q
      have one := rest1 W0 x hWx h x9 x10 pen1 _ hp1 (by omega)
      have hx : GenP ts ds x := hW x (by simp [hWx])
      have two : 1 < W.length → ∃ W1 y, W0 = W1 ++ [y] := fun hl => by
        rcases snoc_cases W0 with q | q
        · rw [hWx, q] at hl; simp at hl
        · exact q
      have hdp : ∀ (ys : List D) x, depths (ys ++ [x]) = max (depths ys) (depth x) := by
        intro ys x
        induction ys with
        | nil => simp
        | cons y ys ih => simp [ih] <;> omega
      unfold b__law_l_program_l160; rw [ss_cons]
      simp [wpS, wpE, wpT, wpTAnd, wpEs, ss_nil, len]
      have five : wpSs S E b__law_l_program_l163 [some (.ref p), some (.lst (ts.map .str)), some (.lst (ds.map .str)), some n, some (.ref μ.length), x5, none, none, some (.int h), x9, x10] (μ.set p pen1 ++ [.lst W]) PD := by
        unfold b__law_l_program_l163; rw [ss_cons]
        simp [wpS, wpE, wpT, wpTAnd, wpEs, ss_nil, len]
        split
        · split
          · rename_i hl
            obtain ⟨W1, y, rfl⟩ := two (by omega)
            have hy : GenP ts ds y := hW y (by simp [hWx])
            have hW1 : ∀ z ∈ W1, GenP ts ds z := fun z hz => hW z (by simp [hWx, hz])
            unfold b__law_l_program_l164; rw [ss_cons]
            simp [wpS, wpE, wpEs, rp, hWx, bindT]
            rw [pp2]
            simp
            unfold b__law_l_program_l165
            simp [ss_nil, ss_cons, wpS, wpE, wpEs, ra, Sz, h18, d18]
            refine do_test hm hts htl hpl hp1 (by omega) fun t pen4 ht hwt hdt hp4 => ?_
            simp [rp, pp]
            rw [app _ _ _ (by simp [hWx] at hWl; omega)]
            have e1 := wts_append W1 [y]
            have e2 : wts W = wts W1 + wt y + wt x := by simp [hWx, wts_append]; omega
            have e3 : depths W = max (depths W1) (max (depth y) (depth x)) := by rw [hWx, hdp, hdp]; omega
            refine fin _ _ _ W1 _ pen4 _ hW1 (genP_if ht hy hx) (by simp [hWx] <;> omega) (by simp [wt]; omega) (by omega) (by simp <;> omega) hp4 (by omega)
          · exact one
        · exact one
      split
      · split
        · rename_i hl
          obtain ⟨W1, y, rfl⟩ := two (by omega)
          have hy : GenP ts ds y := hW y (by simp [hWx])
          have hW1 : ∀ z ∈ W1, GenP ts ds z := fun z hz => hW z (by simp [hWx, hz])
          unfold b__law_l_program_l161; rw [ss_cons]
          simp [wpS, wpE, wpEs, rp, hWx, bindT]
          rw [pp2]
          simp
          unfold b__law_l_program_l162
          simp [ss_nil, ss_cons, wpS, wpE, wpEs, ra, Sz, cp.c16, cp.d16]
          refine do_pick hpl hp1 (by omega) (by simp) (by simp) fun z hz pen4 hp4 => ?_
          simp [rp, pp]
          rw [app _ _ _ (by simp [hWx] at hWl; omega)]
          have e2 : wts W = wts W1 + wt y + wt x := by simp [hWx, wts_append]; omega
          have e3 : depths W = max (depths W1) (max (depth y) (depth x)) := by rw [hWx, hdp, hdp]; omega
          simp at hz
          rcases hz with rfl | rfl
          · refine fin _ _ _ W1 _ pen4 _ hW1 (genP_then hy hx) (by simp [hWx] <;> omega) (by simp [wt]; omega) (by omega) (by simp <;> omega) hp4 (by omega)
          · refine fin _ _ _ W1 _ pen4 _ hW1 (genP_choose hy hx) (by simp [hWx] <;> omega) (by simp [wt]; omega) (by omega) (by simp <;> omega) hp4 (by omega)
        · exact five
      · exact five
theorem w_law_l_program (S : Sg) (cp : Cp S) {m : Nat} (hm : 2 < m) (h18 : S.call 18 = sp_law_test m) (d18 : S.dfl 18 = []) : Body S sp_law_l_program b__law_l_program N__law_l_program 4 := by
  intro ds0 μ Q E h hl hb hw
  match ds0, hl, h with
  | [.ref p, .lst tl, .lst dl, .int n], _, h =>
    obtain ⟨k, ts, ds, C, pen, hn, hk1, hk2, ht, hts, htl, hd, hds, hdl, hp, hpen, hC, q⟩ := h
    subst hn ht hd
    have hC' : C + 10000 < 1000000000000 := hC
    have hpl : p < μ.length := (List.getElem?_eq_some_iff.mp hp).1
    have e : startD N__law_l_program [.ref p, .lst (ts.map .str), .lst (ds.map .str), .int (k : Int)] = [some (.ref p), some (.lst (ts.map .str)), some (.lst (ds.map .str)), some (.int (k : Int)), none, none, none, none, none, none, none] := rfl
    rw [e]
    have hset : μ.set p pen = μ := by
      apply List.ext_getElem?
      intro i
      by_cases hi : i = p
      · subst hi; rw [List.getElem?_set_self hpl]; exact hp.symm
      · rw [List.getElem?_set_ne (Ne.symm hi)]
    unfold b__law_l_program; simp only [ss_cons]
    simp [-opt_some, opt_s, wpS, wpE, wpEs, new_lst, bindT]
    unfold b__law_l_program_l152; simp only [ss_cons]
    have hsm : small62 (k : Int) = true := by
      unfold small62
      rw [Bool.and_eq_true]
      exact ⟨decide_eq_true (by omega), decide_eq_true (by omega)⟩
    simp [-opt_some, opt_s, wpS, wpI, wpE, wpEs, rngPlan, hsm]
    refine for_ind (fun its ρ ν => ∃ x5 x8 x9 x10 W pen' j, ρ = [some (.ref p), some (.lst (ts.map .str)), some (.lst (ds.map .str)), some (.int (k : Int)), some (.ref μ.length), x5, none, none, x8, x9, x10] ∧ ν = μ.set p pen' ++ [.lst W] ∧ j + its.length = k ∧ PenC (C + 40 * (j : Int)) pen' ∧ (∀ x ∈ W, GenP ts ds x) ∧ wts W ≤ 40 * j ∧ W.length ≤ j ∧ depths W ≤ 5 * j ∧ (0 < j → W ≠ [])) ?_ ?_ _ _ _ ⟨none, none, none, none, [], pen, 0, rfl, by rw [hset], by simp [rngItems], by simpa using hpen, by simp, by simp, by simp, by simp, by simp⟩
    · rintro d its ρ ν N ih ⟨x5, x8, x9, x10, W, pen', j, rfl, rfl, hj, hp', hW, hw1, hw2, hw3, hw4⟩
      refine ⟨trivial, ?_⟩
      simp at hj
      simp [-opt_some, opt_s, bindT]
      refine w_prog_lap S cp hm h18 d18 (n := .int (k : Int)) (x5 := some d) hpl hts htl hds hdl hW (by omega) hp' (by omega) fun x8 x9 x10 W' pen2 g1 g2 g3 g4 g5 g6 => ?_
      exact ih _ _ ⟨_, _, _, _, W', pen2, j + 1, rfl, rfl, by omega, g6.mono (by omega), g1, by omega, by omega, by omega, fun _ => g2⟩
    · rintro ρ ν ⟨x5, x8, x9, x10, W, pen', j, rfl, rfl, hj, hp', hW, hw1, hw2, hw3, hw4⟩
      refine ⟨trivial, ?_⟩
      simp at hj
      subst hj
      have hne := hw4 (by omega)
      obtain ⟨x, W', rfl⟩ := List.exists_cons_of_ne_nil hne
      have own : ((μ.set p pen') ++ [Cell.lst (x :: W')])[μ.length]? = some (.lst (x :: W')) := own_get0
      unfold b__law_l_program_l172; simp only [ss_cons]
      simp [-opt_some, opt_s, wpS, wpE, wpEs, ix_ref own, bindT]
      unfold b__law_l_program_l173; simp only [ss_cons]
      have hsl : slD (μ.set p pen' ++ [Cell.lst (x :: W')]) (some 1) none (.ref μ.length) = some (.lst W') := by
        have hcut : cut (x :: W') (some 1) none = W' := cut_drop (x :: W') 1 (by simp)
        simp only [slD, own, hcut]
      simp [-opt_some, opt_s, wpS, wpI, wpE, wpEs, hsl, valPlan]
      simp at hw1 hw2 hw3
      have hx := hW x (by simp)
      refine for_ind (fun its ρ ν => ∃ f x7, ρ = [some (.ref p), some (.lst (ts.map .str)), some (.lst (ds.map .str)), some (.int ((j : Nat) : Int)), some (.ref μ.length), x5, some f, x7, x8, x9, x10] ∧ ν = μ.set p pen' ++ [.lst (x :: W')] ∧ (∀ y ∈ its, y ∈ W') ∧ GenP ts ds f ∧ wt f + wts its + 2 * its.length ≤ 40 * j + 2 * W'.length ∧ depth f + its.length ≤ 5 * j + W'.length ∧ its.length ≤ W'.length) ?_ ?_ _ _ _ ⟨x, none, rfl, rfl, fun y hy => hy, hx, by omega, by omega, by omega⟩
      · rintro d its ρ ν N ih ⟨f, x7, rfl, rfl, hm, hf, h1, h2, h3⟩
        refine ⟨trivial, ?_⟩
        have hd := hW d (by simp [hm d (by simp)])
        have hdd := depth_mem (hm d (by simp))
        simp at h1 h2 h3
        simp [-opt_some, opt_s, bindT, ss_nil, ss_cons, wpS, wpE, wpEs, Sz]
        exact ih _ _ ⟨_, _, rfl, rfl, fun y hy => hm y (by simp [hy]), genP_then hf hd, by simp [wt]; omega, by simp; omega, by omega⟩
      · rintro ρ ν ⟨f, x7, rfl, rfl, hm, hf, h1, h2, h3⟩
        refine ⟨trivial, ?_⟩
        simp at h1 h2
        unfold b__law_l_program_l175
        simp [ss_nil, ss_cons, wpS, wpE]
        have hp4 : PenC (C + 10000) pen' := hp'.mono (by omega)
        exact EndD.penDrop hw (hp4.below _) (below_plain _ (ok_and hf.2.1).1) (q _ _ hf (by omega) (by omega) hp4)
end K03

set_option Elab.async false
set_option linter.all false
set_option maxRecDepth 100000
set_option maxHeartbeats 4000000
namespace K03
open PySem PY
theorem w_law_l_statement (S : Sg) (cp : Cp S) {m : Nat} (hm : 2 < m) (h18 : S.call 18 = sp_law_test m) (d18 : S.dfl 18 = []) (h21 : S.call 21 = sp_law_l_program) (d21 : S.dfl 21 = []) : Body S sp_law_l_statement b__law_l_statement N__law_l_statement 5 := by
  intro ds0 μ Q E h hl hb hw
  match ds0, hl, h with
  | [.ref p, .lst tl, .lst dl, .lst hl, .int n], _, h =>
    obtain ⟨k, ts, ds, hs, C, pen, rfl, hk1, hk2, rfl, hts, htl, rfl, hds, hdl, rfl, hne, hhl, hhs, hp, hpen, hC, q⟩ := h
    have hC' : C + 30000 < 1000000000000 := hC
    have hpl : p < μ.length := (List.getElem?_eq_some_iff.mp hp).1
    have e : startD N__law_l_statement [.ref p, .lst (ts.map .str), .lst (ds.map .str), .lst (hs.map .str), .int (k : Int)] = [some (.ref p), some (.lst (ts.map .str)), some (.lst (ds.map .str)), some (.lst (hs.map .str)), some (.int (k : Int)), none, none] := rfl
    rw [e]
    unfold b__law_l_statement
    have get : ∀ pen', (μ.set p pen')[p]? = some pen' := fun pen' => List.getElem?_set_self hpl
    -- what ends it
    have fin : ∀ (h : String) (r : List D) (ps : List D × List D) (C2 : Int) (pen2 : Cell), h ∈ hs → rawParts (.tup (.str h :: r)) = some ps → (∀ x ∈ r, okD x = true) → (∀ x ∈ ps.1, GenP ts ds x) → (∀ x ∈ ps.2, GenT ts x) → wt (.tup (.str h :: r)) ≤ 200 * k + 100 → PenC C2 pen2 → C2 ≤ C + 30000 →
        EndD μ.length (.tup (.str h :: r)) (μ.set p pen2) Q := by
      intro h r ps C2 pen2 hh hr ho h1 h2 hwt hp2 hC2
      have hll : h.toList.length ≤ 1000 := by
        have : ∀ h ∈ stmtHeads, h.toList.length ≤ 1000 := by decide +kernel
        exact this h (hhs h hh)
      have g := genS_of (ts := ts) (ds := ds) hh hll hr ho h1 h2
      have hp3 : PenC (C + 30000) pen2 := hp2.mono hC2
      exact EndD.pen hw (hp3.below _) (below_plain _ (ok_and g.1).1) (q _ _ g hwt hp3)
    simp [ss_nil, ss_cons, wpS, wpE, wpEs, bindT, cp.c16, cp.d16]
    refine ⟨C, pen, hp, hpen, by show C < 1000000000000; omega, by simpa using hne, by simp; omega, fun hd0 hm0 pen1 hp1 => ?_⟩
    obtain ⟨hd, hhd, rfl⟩ := List.mem_map.mp hm0
    have hhd2 := hhs hd hhd
    simp [cp.c15, cp.d15]
    refine ⟨C + 1, pen1, get _, hp1, by show _ < (1000000000000 : Int); omega, by omega, by omega, fun r pen2 hr1 hr2 hp2 => ?_⟩
    rw [List.set_set]
    simp [h21, d21]
    refine ⟨r.toNat + 1, ts, ds, _, pen2, by omega, by omega, by omega, rfl, hts, htl, rfl, hds, hdl, get _, hp2, by show _ < (1000000000000 : Int); omega, fun t pen3 ht hwt _ hp3 => ?_⟩
    rw [List.set_set]
    have hwt2 : wt t ≤ 100 * k := by have : r.toNat + 1 ≤ k := by omega
                                     omega
    have tcall : ∀ {Q' : D → Store → Prop} {E' : XD → Store → Prop} {C1 : Int} {pen4 : Cell}, PenC C1 pen4 → C1 + 32 < 1000000000000 → (∀ t pen', GenT ts t → wt t ≤ 30 → PenC (C1 + 30) pen' → Q' t (μ.set p pen')) → sp_law_test m [.ref p, .lst (ts.map .str), .int 2] (μ.set p pen4) Q' E' := by
      intro Q' E' C1 pen4 hp4 hC4 q'
      refine ⟨2, ts, C1, pen4, rfl, hm, by omega, rfl, hts, htl, get _, hp4, hC4, fun t pen' a b _ c => ?_⟩
      rw [List.set_set]
      exact q' t pen' a (by omega) (c.mono (by omega))
    simp only [stmtHeads, List.mem_cons, List.mem_nil_iff, or_false] at hhd2
    have hin : ∀ (ν : Store) (s : String), inD ν (.str s) (.lst [.str "keeps", .str "leaves"]) = some (["keeps", "leaves"].contains s) := fun ν s => by
      rw [inD_lst ν rfl rfl (by simp)]
      rw [show [D.str "keeps", D.str "leaves"] = ["keeps", "leaves"].map D.str from rfl, any_eqv_str]
    rcases hhd2 with rfl | rfl | rfl | rfl | rfl | rfl
    · simp [wpT, wpEs, wpE, Sz, hin]
      exact fin "never" [t] _ _ pen3 hhd raw_never (by simp [ht.2.1]) (by simp [ht]) (by simp) (by simp [wt]; omega) hp3 (by omega)
    · simp [wpT, wpEs, wpE, Sz, hin, h18, d18]
      refine tcall hp3 (by omega) fun t2 pen4 ht2 hw2 hp4 => ?_
      exact fin "keeps" [t, t2] _ _ pen4 hhd raw_keeps (by simp [ht.2.1, ht2.2.1]) (by simp [ht]) (by simp [ht2]) (by simp [wt]; omega) hp4 (by omega)
    · simp [wpT, wpEs, wpE, Sz, hin, h18, d18]
      refine tcall hp3 (by omega) fun t2 pen4 ht2 hw2 hp4 => ?_
      exact fin "leaves" [t, t2] _ _ pen4 hhd raw_leaves (by simp [ht.2.1, ht2.2.1]) (by simp [ht]) (by simp [ht2]) (by simp [wt]; omega) hp4 (by omega)
    · simp [wpT, wpEs, wpE, Sz, hin, h18, d18]
      refine tcall hp3 (by omega) fun t2 pen4 ht2 hw2 hp4 => ?_
      refine tcall hp4 (by omega) fun t3 pen5 ht3 hw3 hp5 => ?_
      exact fin "triple" [t2, t, t3] _ _ pen5 hhd raw_triple (by simp [ht.2.1, ht2.2.1, ht3.2.1]) (by simp [ht]) (by simp [ht2, ht3]) (by simp [wt]; omega) hp5 (by omega)
    all_goals
      simp [wpT, wpEs, wpE, Sz, hin, cp.c15, cp.d15]
      refine ⟨_, pen3, get _, hp3, by show _ < (1000000000000 : Int); omega, by omega, by omega, fun r2 pen4 hr3 hr4 hp4 => ?_⟩
      rw [List.set_set]
      simp [h21, d21]
      refine ⟨r2.toNat + 1, ts, ds, _, pen4, by omega, by omega, by omega, rfl, hts, htl, rfl, hds, hdl, get _, hp4, by show _ < (1000000000000 : Int); omega, fun t2 pen5 ht2 hw2 _ hp5 => ?_⟩
      rw [List.set_set]
      have hw3 : wt t2 ≤ 100 * k := by have : r2.toNat + 1 ≤ k := by omega
                                       omega
    · exact fin "same" [t, t2] _ _ pen5 hhd raw_same (by simp [ht.2.1, ht2.2.1]) (by simp [ht, ht2]) (by simp) (by simp [wt]; omega) hp5 (by omega)
    · exact fin "below" [t, t2] _ _ pen5 hhd raw_below (by simp [ht.2.1, ht2.2.1]) (by simp [ht, ht2]) (by simp) (by simp [wt]; omega) hp5 (by omega)
theorem w_law_l_whole (S : Sg) (cp : Cp S) (h19 : S.call 19 = sp_law_names) (d19 : S.dfl 19 = []) (h22 : S.call 22 = sp_law_l_statement) (d22 : S.dfl 22 = []) : Body S sp_law_l_whole b__law_l_whole N__law_l_whole 4 := by
  intro ds0 μ Q E h hl hb hw
  match ds0, hl, h with
  | [.ref p, .lst hl, .int 4, .int 3], _, h =>
    obtain ⟨C, pen, rfl, hp, hpen, hC, q⟩ := h
    have hC' : C + 200000 < 1000000000000 := hC
    have hpl : p < μ.length := (List.getElem?_eq_some_iff.mp hp).1
    have e : startD N__law_l_whole [.ref p, .lst (sayHeads.map .str), .int 4, .int 3] = [some (.ref p), some (.lst (sayHeads.map .str)), some (.int 4), some (.int 3), none, none, none, none] := rfl
    rw [e]
    unfold b__law_l_whole
    have get : ∀ pen', (μ.set p pen')[p]? = some pen' := fun pen' => List.getElem?_set_self hpl
    simp [ss_nil, ss_cons, wpS, wpE, wpEs, wpI, h19, d19]
    refine ⟨C, pen, hp, hpen, by show C + 2 < 1000000000000; omega, fun ts hts ds hds pen1 hp1 => ?_⟩
    simp [bindT, bindTs, cp.c15, cp.d15]
    refine ⟨_, pen1, get _, hp1, by show _ < (1000000000000 : Int); omega, by omega, by omega, fun r pen2 hr1 hr2 hp2 => ?_⟩
    rw [List.set_set]
    obtain ⟨ta, tb⟩ := names_all hts
    obtain ⟨da, db⟩ := deeds_all hds
    have hsm : small62 r = true := by simp [small62]; omega
    simp [rngPlan, hsm]
    refine comp_ind (fun its acc ν => ∃ (pen' : Cell), ν = μ.set p pen' ∧ PenC (C + 3 + 30000 * acc.length) pen' ∧ acc.length + its.length ≤ 3 ∧ (∀ h ∈ acc, GenS ts ds hypHeads h) ∧ wts acc ≤ 500 * acc.length) ?_ ?_ _ _ _ ⟨pen2, rfl, hp2.mono (by simp; omega), by simp [rngItems]; omega, by simp, by simp⟩
    · rintro d its acc ν N ih ⟨pen', rfl, hp', hl', hg, hwt⟩
      simp at hl'
      refine ⟨trivial, ?_⟩
      simp [wpC, wpE, wpEs, wipeD, bindT, Sz, h22, d22]
      refine ⟨2, ts, ds, hypHeads, _, pen', rfl, by omega, by omega, rfl, ta, by omega, rfl, da, by omega, rfl, by decide, by decide, by decide, get _, hp', by show _ < (1000000000000 : Int); omega, fun v pen3 hv hwv hp3 => ?_⟩
      rw [List.set_set]
      refine ⟨by omega, ih _ _ ⟨pen3, rfl, hp3.mono (by simp; omega), by simp; omega, ?_, by simp [wts_append]; omega⟩⟩
      intro h hh
      rcases List.mem_append.mp hh with h1 | h1
      · exact hg h h1
      · rw [List.mem_singleton.mp h1]; exact hv
    · rintro acc ν ⟨pen', rfl, hp', hl', hg, hwt⟩
      refine ⟨trivial, ?_⟩
      simp at hl'
      simp [newL, bindT, wpE, wpEs, seqOf, Sz, primD, h22, d22]
      refine ⟨4, ts, ds, sayHeads, _, pen', rfl, by omega, by omega, rfl, ta, by omega, rfl, da, by omega, rfl, by decide, by decide, by decide, get _, hp', by show _ < (1000000000000 : Int); omega, fun v pen3 hv hwv hp3 => ?_⟩
      rw [List.set_set]
      have g : GenW ts ds acc v := ⟨hts, hds, by omega, hg, hv, by omega, by omega⟩
      have hp4 : PenC (C + 200000) pen3 := hp3.mono (by omega)
      exact EndD.pen hw (hp4.below _) (below_plain _ (ok_and (whole_ok g)).1) (q _ _ _ _ _ g hp4)
end K03

set_option Elab.async false
set_option linter.all false
set_option maxRecDepth 100000
set_option maxHeartbeats 4000000
namespace K03
open PySem PY
theorem w_law_paths (S : Sg) : Body S sp_law_paths b__law_paths N__law_paths 1 := by
  intro ds0 μ Q E h hl hb hw
  match ds0, hl, h with
  | [t], _, h =>
    obtain ⟨xs0, rfl, ht, hz, q⟩ := h
    have e : startD N__law_paths [.tup xs0] = [some (.tup xs0), none, none, none, none, none, none] := rfl
    rw [e]
    unfold b__law_paths
    simp [ss_nil, ss_cons, wpS, wpE, wpT, wpEs, Sz, primD, newL, wpI]
    refine ⟨wt (.tup xs0) + 1, ?_⟩
    refine while_ind (fun k ρ ν => ∃ its n x3 x4, ρ = [some (.tup xs0), some (.lst its), some (.int ((n : Nat) : Int)), x3, x4, none, none] ∧ ν = μ ∧ (∀ d ∈ its, PathIt (.tup xs0) d) ∧ n ≤ its.length ∧ its ≠ [] ∧ itws (its.drop n) < k ∧ n + itws (its.drop n) ≤ wt (.tup xs0)) ?_ ?_ _ _ _ ⟨[.tup [.tup [], .tup xs0]], 0, none, none, rfl, rfl, ?_, by simp, by simp, ?_, ?_⟩
    · rintro k ρ ν N ih ⟨its, n, x3, x4, rfl, rfl, hit, hn, hne, hk, hwn⟩
      have hlt : ((n : Int) < (its.length : Int)) ↔ n < its.length := by omega
      simp [lenD, cmD, hlt]
      split
      · rename_i hnl
        have hd := hit its[n] (List.getElem_mem hnl)
        have hdrop : its.drop n = its[n] :: its.drop (n + 1) := List.drop_eq_getElem_cons hnl
        have hat : atD its (n : Int) = some its[n] := by
          unfold atD
          rw [if_pos (by omega), Int.toNat_natCast, List.getElem?_eq_getElem hnl]
        obtain ⟨ks, ys, hi, hsub⟩ := hd
        rw [hi] at hdrop hat
        have hwy : wt (.tup ys) ≤ wt (.tup xs0) := by have := sub_wt ks hsub; omega
        have hkw : ks.length ≤ wt (.tup xs0) := by have := sub_wt ks hsub; omega
        have hpy : PY.plain (.tup ys) = true := sub_plain ks ht hsub
        have hlen := itws_len (its.drop n)
        rw [List.length_drop] at hlen
        have e1 : itws (its.drop n) = wts ys + 1 + itws (its.drop (n + 1)) := by rw [hdrop]; rfl
        have hnew := pathF_wt (pathD ks) ys 0
        have hnl2 := itws_len ((enumFrom 0 ys).filterMap (pathF (pathD ks)))
        have hyl := wts_len ys
        rw [wt_tup] at hwy
        unfold b__law_paths_1
        simp [ss_nil, ss_cons, wpS, wpE, wpEs, wpI, hat, bindT, bindTs, seqPlan, valPlan, enumPlan]
        refine comp_pure (pathF (pathD ks)) trivial (fun d hd R r => ?_) (le_sz (by rw [enum_len]; simp; omega)) ?_
        · obtain ⟨i, x, rfl, hx⟩ := enum_mem ys 0 hd
          have hpx : PY.plain x = true := plains_iff.mp (by simpa using hpy) x (List.mem_of_getElem? hx)
          have hle : (pathD ks).length + 1 ≤ Sz := le_sz (by simp [pathD]; omega)
          simp [wipeD, bindT, bindTs, wpC, wpT, wpEs, wpE]
          cases x with
          | ref i => simp at hpx
          | scr i => simp at hpx
          | ins c xs => simp at hpx
          | tup zs =>
            have hr : R (some (.tup [.tup (pathD ks ++ [.int ((0 + i : Nat) : Int)]), .tup zs])) ν := r
            simp [isTys, vtOf, vtIs, Sz, binD]
            have hle' : (pathD ks).length ≤ 16777215 := by have : (pathD ks).length + 1 ≤ 16777216 := hle
                                                           omega
            rw [if_pos hle']
            simp only [Nat.zero_add] at hr
            exact hr
          | _ =>
            have hr : R none ν := r
            simp [isTys, vtOf, vtIs]
            exact hr
        · have hle : its.length + ((enumFrom 0 ys).filterMap (pathF (pathD ks))).length ≤ Sz := le_sz (by omega)
          simp [newL, binD, hle]
          rw [show ((n : Int) + 1) = ((n + 1 : Nat) : Int) from by omega]
          refine ih _ _ ⟨its ++ (enumFrom 0 ys).filterMap (pathF (pathD ks)), n + 1, _, _, rfl, rfl, ?_, by simp; omega, by simp [hne], ?_, ?_⟩
          · intro d hd
            rcases List.mem_append.mp hd with h1 | h1
            · exact hit d h1
            · exact pathF_it hsub d h1
          · rw [List.drop_append_of_le_length (by omega), itws_append]; omega
          · rw [List.drop_append_of_le_length (by omega), itws_append]; omega
      · rename_i hnl
        unfold b__law_paths_2
        have hpl : plains its = true := plains_iff.mpr fun d hd => (hit d hd).plain ht
        simp [ss_nil, ss_cons, wpS, wpE]
        exact EndD.same hw (below_plain _ (by simpa using hpl)) (q its hne (by omega) hit)
    · rintro ρ ν ⟨its, n, x3, x4, _, _, _, _, _, h, _⟩
      omega
    · intro d hd
      simp at hd
      subst hd
      exact ⟨[], xs0, rfl, rfl⟩
    · simp [itws, itw]
    · simp [itws, itw]
end K03

set_option Elab.async false
set_option linter.all false
set_option maxRecDepth 100000
set_option maxHeartbeats 8000000
namespace K03
open PySem PY
/-- all promises that the law leans on -/
structure Cl (S : Sg) : Prop where
  ca : Ca S
  cp : Cp S
  c18 : S.call 18 = sp_law_test 7
  d18 : S.dfl 18 = []
  c19 : S.call 19 = sp_law_names
  d19 : S.dfl 19 = []
  c20 : S.call 20 = sp_law_l_none
  d20 : S.dfl 20 = []
  c21 : S.call 21 = sp_law_l_program
  d21 : S.dfl 21 = []
  c23 : S.call 23 = sp_law_l_whole
  d23 : S.dfl 23 = []
  c24 : S.call 24 = sp_law_paths
  d24 : S.dfl 24 = []
  c25 : S.call 25 = sp_law_put 100
  d25 : S.dfl 25 = []
  c26 : S.call 26 = sp_law_bad
  d26 : S.dfl 26 = []
def sp_law : PY.Spec
  | [.scr ns], μ, Q, _ => ns.length ≤ 1000 ∧ Q (.bl true) μ
  | [.lst xs], μ, Q, _ => ∃ ns : List Int, xs = ns.map .int ∧ ns.length ≤ 1000 ∧ Q (.bl true) μ
  | _, _, _, _ => False
theorem add_tup {ν : Store} {xs ys : List D} (h : xs.length + ys.length ≤ 16777216) : binD ν .add (.tup xs) (.tup ys) = some (.tup (xs ++ ys)) := if_pos h
theorem add_lst {ν : Store} {xs ys : List D} (h : xs.length + ys.length ≤ 16777216) : binD ν .add (.lst xs) (.lst ys) = some (.lst (xs ++ ys)) := if_pos h
theorem put_no {t b : D} {ks : List Nat} {xs : List D} (h : isTest t = true) (hs : subAt t ks = some (.tup xs)) (hb : b ∈ badL xs) : isTest (PY.putAt t ks b) = false :=
  put_test ks h hs (bad_neither (.inl (sub_test ks h hs rfl)) b hb).1
theorem put_no2 {t b : D} {ks : List Nat} {xs : List D} (h : isProg t = true) (hs : subAt t ks = some (.tup xs)) (hb : b ∈ badL xs) : isProg (PY.putAt t ks b) = false :=
  put_prog ks h hs (bad_neither (sub_prog ks h hs rfl) b hb)
section
variable {S : Sg} {E : Sl → XD → Store → Prop} {PD : PEnds} {μ : Store} {sc : D} {x2 x5 x6 x7 x8 x9 x10 x11 x12 x13 : Option D} {C : Int} {pen : Cell}
theorem w_lap (cl : Cl S) (hp : PenC C pen) (hC : C + 400000 < 1000000000000)
    (nx : ∀ x5 x6 x7 x8 x9 x10 x11 x12 x13 pen', PenC (C + 400000) pen' → PD.nx [some sc, some (.ref μ.length), x2, none, none, x5, x6, x7, x8, x9, x10, x11, x12, x13, none] (μ ++ [pen'])) :
    wpSs S E b_law_l206 [some sc, some (.ref μ.length), x2, none, none, x5, x6, x7, x8, x9, x10, x11, x12, x13, none] (μ ++ [pen]) PD := by
  have get : ∀ pen' : Cell, (μ ++ [pen'])[μ.length]? = some pen' := fun pen' => get_last μ pen'
  have oset : ∀ pen' pen2 : Cell, (μ ++ [pen']).set μ.length pen2 = μ ++ [pen2] := fun pen' pen2 => set_last μ pen' pen2
  obtain ⟨ca, cp, c18, d18, c19, d19, c20, d20, c21, d21, c23, d23, c24, d24, c25, d25, c26, d26⟩ := cl
  unfold b_law_l206; simp only [ss_cons]
  simp [wpS, wpE, wpEs, c19, d19]
  refine ⟨C, pen, get _, hp, by show C + 2 < (1000000000000 : Int); omega, fun ts hts ds hds pen1 hp1 => ?_⟩
  rw [oset]
  obtain ⟨ta, tb⟩ := names_all hts
  obtain ⟨da, db⟩ := deeds_all hds
  simp [bindT, bindTs]
  unfold b_law_l207; simp only [ss_cons]
  simp [wpS, wpE, wpEs, c18, d18]
  refine ⟨6, ts, _, pen1, rfl, by omega, by omega, rfl, ta, by omega, get _, hp1, by show _ < (1000000000000 : Int); omega, fun t pen2 ht hwt hdt hp2 => ?_⟩
  rw [oset]
  simp [cp.c15, cp.d15]
  refine ⟨_, pen2, get _, hp2, by show _ < (1000000000000 : Int); omega, by omega, by omega, fun r pen3 hr1 hr2 hp3 => ?_⟩
  rw [oset]
  simp [c21, d21]
  refine ⟨r.toNat + 2, ts, ds, _, pen3, by omega, by omega, by omega, rfl, ta, by omega, rfl, da, by omega, get _, hp3, by show _ < (1000000000000 : Int); omega, fun pr pen4 hpr hwp hdp hp4 => ?_⟩
  rw [oset]
  have hwt2 : wt t ≤ 2000 := by omega
  have hwp2 : wt pr ≤ 2000 := by omega
  have hdp2 : PY.depth pr ≤ 70 := by omega
  unfold b_law_l208; simp only [ss_cons]
  simp [wpS, wpE, wpEs, c23, d23, bindT, Sz]
  refine ⟨_, pen4, rfl, get _, hp4, by show _ < (1000000000000 : Int); omega, fun tw dw c s pen5 hw hp5 => ?_⟩
  rw [oset]
  have hwo := whole_ok hw
  have hww := whole_wt hw
  have hwi := whole_is hw
  have hti := ht.1
  have hto := ht.2.1
  have hpi := hpr.1
  have hpo := hpr.2.1
  have hpt := prog_no_test hpi
  have htp := test_no_prog hti
  have hpp := prog_part hpi
  have i5 : ∀ v ν Q E, sp_is_test [v] ν Q E = (okD v = true ∧ wt v ≤ 1000000 ∧ Q (.bl (isTest v)) ν) := fun v ν Q E => rfl
  have i7 : ∀ v ν Q E, sp_is_program [v] ν Q E = (okD v = true ∧ wt v ≤ 1000000 ∧ Q (.bl (isProg v)) ν) := fun v ν Q E => rfl
  have i13 : ∀ v ν Q E, sp_is_whole [v] ν Q E = (okD v = true ∧ wt v ≤ 400000 ∧ wt (part v 1) + wt (part v 2) ≤ 2900 ∧ Q (.bl (isWhole v)) ν) := fun v ν Q E => rfl
  have i17 : ∀ b c ν Q E, sp_law_is_truth [.bl b, .bl c] ν Q E = Q (.bl (b == c)) ν := fun b c ν Q E => propext ⟨fun h => h.2, fun h => ⟨rfl, h⟩⟩
  have b1 : wt t ≤ 1000000 := by omega
  have b2 : wt pr ≤ 1000000 := by omega
  have b3 : wt (wholeD tw dw c s) ≤ 1000000 := by omega
  have b4 : wt (wholeD tw dw c s) ≤ 400000 := by omega
  have b5 : wt pr ≤ 400000 := by omega
  have b6 : wt (part pr 1) + wt (part pr 2) ≤ 2900 := by omega
  unfold b_law_l209; simp only [ss_cons]
  simp [wpS, wpT, wpTOr, wpE, wpEs, ca.c5, ca.d5, ca.c7, ca.d7, ca.c13, ca.d13, cp.c17, cp.d17, i5, i7, i13, i17, hti, hto, hpi, hpo, hwi, hwo, hww.2, b1, b2, b3, b4, ss_nil]
  unfold b_law_l211; simp only [ss_cons]
  have hpt1 := (ok_and hto).1
  have hpp1 := (ok_and hpo).1
  have hin : ∀ ν, inD ν t (.lst [.tup [.str "skip"], .tup [.str "stop"]]) = some false := fun ν => by
    rw [inD_lst ν hpt1 (by simp) (by simp; omega), test_in hti]
  have tw1 := (testD_head (ts := tw) (ds := dw) (c := c) (s := s)).1
  have tw2 := (testD_head (ts := tw) (ds := dw) (c := c) (s := s)).2
  simp [wpS, wpT, wpTOr, wpE, wpEs, ca.c5, ca.d5, ca.c7, ca.d7, ca.c13, ca.d13, i5, i7, i13, hto, hpo, hwo, hin, htp, tw1, tw2, hpp.1, b1, b2, b3, b5, b6, ss_nil, Sz]
  unfold b_law_l213; simp only [ss_cons]
  obtain ⟨s0, r0, et, _⟩ := isTest_shape hti
  obtain ⟨s1, r1, ep, _⟩ := isProg_shape hpi
  simp [wpS, wpE, wpEs, c24, d24, cp.c16, cp.d16]
  refine ⟨_, et, hpt1, by omega, fun its hne hlen hits => ?_⟩
  refine ⟨_, pen5, get _, hp5, by show _ < (1000000000000 : Int); omega, hne, by omega, fun x hx pen6 hp6 => ?_⟩
  rw [oset]
  obtain ⟨ks, xs, rfl, hsub⟩ := hits x hx
  have hkd := sub_depth ks hsub
  have hxo := sub_ok ks hto hsub
  have hxp := (ok_and hxo).1
  have hxw := sub_wt ks hsub
  have hxl := wts_len xs
  rw [wt_tup] at hxw
  simp [bindT, bindTs]
  unfold b_law_l214; simp only [ss_cons]
  simp [wpS, wpT, wpE, wpEs, c26, d26, c25, d25]
  refine ⟨_, pen6, get _, hp6, by show _ < (1000000000000 : Int); omega, by simpa using hxp, by omega, fun b hb pen7 hp7 => ?_⟩
  rw [oset]
  obtain ⟨hbo, hbw⟩ := badL_ok hxo b hb
  rw [wt_tup] at hbw
  refine ⟨ks, rfl, by omega, by rw [hsub]; rfl, hpt1, (ok_and hbo).1, by omega, ?_⟩
  have hpw := putAt_wt ks t b hsub
  simp [ca.c5, ca.d5, cp.c17, cp.d17, i5, i17, putAt_ok ks t b hto hbo, put_no hti hsub hb, show wt (PY.putAt t ks b) ≤ 1000000 by omega, ss_nil]
  unfold b_law_l216; simp only [ss_cons]
  simp [wpS, wpE, wpEs, c24, d24, cp.c16, cp.d16]
  refine ⟨_, ep, hpp1, by omega, fun its2 hne2 hlen2 hits2 => ?_⟩
  refine ⟨_, pen7, get _, hp7, by show _ < (1000000000000 : Int); omega, hne2, by omega, fun x2 hx2 pen8 hp8 => ?_⟩
  rw [oset]
  obtain ⟨ks2, xs2, rfl, hsub2⟩ := hits2 x2 hx2
  have hkd2 := sub_depth ks2 hsub2
  have hxo2 := sub_ok ks2 hpo hsub2
  have hxp2 := (ok_and hxo2).1
  have hxw2 := sub_wt ks2 hsub2
  have hxl2 := wts_len xs2
  rw [wt_tup] at hxw2
  simp [bindT, bindTs]
  unfold b_law_l217; simp only [ss_cons]
  simp [wpS, wpT, wpE, wpEs, c26, d26, c25, d25]
  refine ⟨_, pen8, get _, hp8, by show _ < (1000000000000 : Int); omega, by simpa using hxp2, by omega, fun b9 hb9 pen9 hp9 => ?_⟩
  rw [oset]
  obtain ⟨hbo2, hbw2⟩ := badL_ok hxo2 b9 hb9
  rw [wt_tup] at hbw2
  refine ⟨ks2, rfl, by omega, by rw [hsub2]; rfl, hpp1, (ok_and hbo2).1, by omega, ?_⟩
  have hpw2 := putAt_wt ks2 pr b9 hsub2
  simp [ca.c7, ca.d7, cp.c17, cp.d17, i7, i17, putAt_ok ks2 pr b9 hpo hbo2, put_no2 hpi hsub2 hb9, show wt (PY.putAt pr ks2 b9) ≤ 1000000 by omega, ss_nil]
  unfold b_law_l219; simp only [ss_cons]
  have q1 : okD (.tup [.str "then", pr, t]) = true := ok_tup (by decide) (by simp [hto, hpo])
  have q2 : okD (.tup [.str "and", t, pr]) = true := ok_tup (by decide) (by simp [hto, hpo])
  have q3 : okD (.tup [.str "assume", pr]) = true := ok_tup (by decide) (by simp [hto, hpo])
  have q4 : wt (.str "then") + (wt pr + wt t) ≤ 999999 := by simp [wt]; omega
  have q5 : wt (.str "and") + (wt t + wt pr) ≤ 999999 := by simp [wt]; omega
  have q6 : wt (.str "assume") + wt pr ≤ 999999 := by simp [wt]; omega
  have q7 : isProg (.tup [.str "then", pr, t]) = false := by rw [ip_then (.inl rfl), htp]; simp
  have q8 : isTest (.tup [.str "and", t, pr]) = false := by rw [it_and (.inl rfl), hpt]; simp
  have q9 : isProg (.tup [.str "assume", pr]) = false := by rw [ip_assume, hpt]
  simp [wpS, wpT, wpTOr, wpE, wpEs, ca.c5, ca.d5, ca.c7, ca.d7, i5, i7, q1, q2, q3, q4, q5, q6, q7, q8, q9, htp, hto, b1, ss_nil, Sz]
  unfold b_law_l221; simp only [ss_cons]
  have la := (names_all hw.1).2
  have lb := (deeds_all hw.2.1).2
  have lc := hw.2.2.1
  have hle : tw.length + dw.length ≤ 16777216 := by omega
  have hle2 : c.length + 1 ≤ 16777216 := by omega
  have ew : wholeD tw dw c s = .tup [.str "whole", .tup (tw.map .str), .tup (dw.map .str), .tup c, s] := rfl
  rw [ew]
  simp only [wpS, wpE, wpEs]
  simp [bindT, add_tup, hle]
  unfold b_law_l222; simp only [ss_cons]
  have k1 : ∀ w0 w1 w2 w3 w4 : D, cut [w0, w1, w2, w3, w4] none (some 1) = [w0] := fun _ _ _ _ _ => rfl
  have k2 : ∀ w0 w1 w2 w3 w4 : D, cut [w0, w1, w2, w3, w4] none (some 3) = [w0, w1, w2] := fun _ _ _ _ _ => rfl
  have k3 : ∀ w0 w1 w2 w3 w4 : D, cut [w0, w1, w2, w3, w4] none (some 4) = [w0, w1, w2, w3] := fun _ _ _ _ _ => rfl
  have k4 : ∀ w0 w1 w2 w3 w4 : D, cut [w0, w1, w2, w3, w4] (some 1) none = [w1, w2, w3, w4] := fun _ _ _ _ _ => rfl
  have k5 : ∀ w0 w1 w2 w3 w4 : D, cut [w0, w1, w2, w3, w4] (some 2) none = [w2, w3, w4] := fun _ _ _ _ _ => rfl
  have k6 : ∀ w0 w1 w2 w3 w4 : D, cut [w0, w1, w2, w3, w4] (some 3) none = [w3, w4] := fun _ _ _ _ _ => rfl
  simp only [wpS, wpE, wpEs]
  simp [bindT, add_tup, add_lst, slD, k1, k2, k3, k4, k5, k6, Sz, newL, seqOf]
  unfold b_law_l223; simp only [ss_cons]
  simp only [wpS, wpE, wpEs]
  simp [bindT, add_tup, add_lst, slD, k1, k2, k3, k4, k5, k6, Sz, newL, seqOf, hle2]
  unfold b_law_l224; simp only [ss_cons]
  simp only [wpS, wpE, wpEs]
  simp [bindT, add_tup, add_lst, slD, k1, k2, k3, k4, k5, k6, Sz, newL, seqOf, hle2]
  show wpSs S E b_law_l225 [some sc, some (D.ref (List.length μ)), x2, none, none, some (wholeD tw dw c s), some (D.tup (List.map D.str tw ++ List.map D.str dw)), some (D.lst (badW tw dw c s t pr)),
    some (D.lst (List.map D.str ts)), some (D.lst (List.map D.str ds)), some t, some pr, some (D.tup (pathD ks2)), some (D.tup xs2), none] (μ ++ [pen9]) PD
  have bok := badW_ok hw hto hpo hwt2 hwp2
  have bno := badW_no (test := t) (prog := pr) hw
  have bl : (badW tw dw c s t pr).length = 13 := rfl
  generalize badW tw dw c s t pr = W at bok bno bl
  unfold b_law_l225; simp only [ss_cons]
  simp only [wpS, wpT, wpE, wpEs, wpI]
  simp [valPlan]
  refine comp_pure (fun _ => none) trivial (fun d hd R r => ?_) (by rw [bl]; show 13 ≤ 16777216; decide) ?_
  · obtain ⟨g1, g2, g3⟩ := bok d hd
    have g4 := bno d hd
    simp only [bindT, opt_some, wipeD, wpC, wpT, wpEs, wpE]
    simp [ca.c13, ca.d13, i13, g1, g2, g3, g4]
    exact r
  · have fm : ∀ W : List D, W.filterMap (fun _ => (none : Option D)) = [] := fun W => by
      induction W with
      | nil => rfl
      | cons a W ih => rw [List.filterMap_cons]; exact ih
    rw [fm]
    simp [newL, eqD, canEq, deref, eqv, eqvs, ss_nil, Sz]
    exact nx _ _ _ _ _ _ _ _ _ pen9 (hp9.mono (by omega))
end
end K03

set_option Elab.async false
set_option linter.all false
set_option maxRecDepth 100000
set_option maxHeartbeats 8000000
namespace K03
open PySem PY
def plainW : D := .tup [.str "whole", .tup [], .tup [], .tup [], .tup [.str "same", .tup [.str "skip"], .tup [.str "stop"]]]
def fullW : D := .tup [.str "whole", .tup [.str "p"], .tup [.str "a"], .tup [.tup [.str "leaves", .tup [.str "deed", .str "a"], .tup [.str "name", .str "p"]]], .tup [.str "triple", .tup [.str "name", .str "p"], .tup [.str "deed", .str "a"], .tup [.str "true"]]]
theorem plainW_ok : okD plainW = true ∧ wt plainW ≤ 400000 ∧ wt (part plainW 1) + wt (part plainW 2) ≤ 2900 ∧ isWhole plainW = true := by decide +kernel
theorem fullW_ok : okD fullW = true ∧ wt fullW ≤ 400000 ∧ wt (part fullW 1) + wt (part fullW 2) ≤ 2900 ∧ isWhole fullW = true := by decide +kernel
theorem noneL_ok : ∀ b ∈ noneL, okD b = true ∧ wt b ≤ 400000 ∧ wt (part b 1) + wt (part b 2) ≤ 2900 ∧ isWhole b = false := by decide +kernel
theorem w_law_end (S : Sg) (cl : Cl S) {E : Sl → XD → Store → Prop} {PD : PEnds} {μ : Store} {sc : D} {x2 x5 x6 x7 x8 x9 x10 x11 x12 x13 : Option D} {C : Int} {pen : Cell} (hp : PenC C pen) (hC : C < 1000000000000)
    (rt : ∀ pen', PenC (C + 1) pen' → PD.rt (.bl true) (μ ++ [pen'])) :
    wpSs S E b_law_l227 [some sc, some (.ref μ.length), x2, none, none, x5, x6, x7, x8, x9, x10, x11, x12, x13, none] (μ ++ [pen]) PD := by
  have get : ∀ pen' : Cell, (μ ++ [pen'])[μ.length]? = some pen' := fun pen' => get_last μ pen'
  have oset : ∀ pen' pen2 : Cell, (μ ++ [pen']).set μ.length pen2 = μ ++ [pen2] := fun pen' pen2 => set_last μ pen' pen2
  obtain ⟨ca, cp, c18, d18, c19, d19, c20, d20, c21, d21, c23, d23, c24, d24, c25, d25, c26, d26⟩ := cl
  have i5 : ∀ v ν Q E, sp_is_test [v] ν Q E = (okD v = true ∧ wt v ≤ 1000000 ∧ Q (.bl (isTest v)) ν) := fun v ν Q E => rfl
  have i7 : ∀ v ν Q E, sp_is_program [v] ν Q E = (okD v = true ∧ wt v ≤ 1000000 ∧ Q (.bl (isProg v)) ν) := fun v ν Q E => rfl
  have i13 : ∀ v ν Q E, sp_is_whole [v] ν Q E = (okD v = true ∧ wt v ≤ 400000 ∧ wt (part v 1) + wt (part v 2) ≤ 2900 ∧ Q (.bl (isWhole v)) ν) := fun v ν Q E => rfl
  unfold b_law_l227; simp only [ss_cons]
  simp only [wpS, wpE, wpEs]
  simp [bindT, Sz]
  unfold b_law_l228; simp only [ss_cons]
  simp only [wpS, wpE, wpEs]
  simp [bindT, c20, d20]
  refine ⟨C, pen, get _, hp, hC, fun b hb pen' hp' => ?_⟩
  rw [oset]
  obtain ⟨g1, g2, g3, g4⟩ := noneL_ok b hb
  obtain ⟨p1, p2, p3, p4⟩ := plainW_ok
  obtain ⟨f1, f2, f3, f4⟩ := fullW_ok
  show wpSs S E b_law_l229 [some sc, some (D.ref (List.length μ)), x2, some plainW, some b, x5, x6, x7, x8, x9, x10, x11, x12, x13, none] (μ ++ [pen']) PD
  generalize plainW = PW at p1 p2 p3 p4
  have n1 : okD .non = true := rfl
  have n2 : wt .non ≤ 1000000 := by decide
  have n3 : isTest .non = false := by decide +kernel
  have n4 : isProg .non = false := by decide +kernel
  have n5 : okD (.str "true") = true := by decide +kernel
  have n6 : wt (.str "true") ≤ 1000000 := by decide
  have n7 : isTest (.str "true") = false := by decide +kernel
  have n8 : okD (.lst [.str "skip"]) = true := by decide +kernel
  have n9 : wt (.lst [.str "skip"]) ≤ 1000000 := by decide +kernel
  have n10 : isProg (.lst [.str "skip"]) = false := by decide +kernel
  unfold b_law_l229; simp only [ss_cons]
  simp only [wpS, wpT, wpTOr, wpE, wpEs, ss_nil]
  simp [ca.c5, ca.d5, ca.c7, ca.d7, ca.c13, ca.d13, i5, i7, i13, n1, n2, n3, n4, n5, n6, n7, n8, n9, n10, g1, g2, g3, g4, Sz]
  unfold b_law_l231; simp only [ss_cons]
  simp only [wpS, wpE, wpAnd, wpEs, ss_nil]
  simp [ca.c13, ca.d13, i13, p1, p2, p3, p4, Sz]
  unfold fullW at f4
  rw [f4]
  exact ⟨f1, by simp [wt], f3, rt pen' hp'⟩
theorem w_law_sc (S : Sg) (cl : Cl S) {sc : D} {μ : Store} {Q : D → Store → Prop} {E : XD → Store → Prop} (hw : wfS μ) (h14 : ∀ (Q' : D → Store → Prop) E', (∀ pen, PenC 0 pen → Q' (.ref μ.length) (μ ++ [pen])) → sp_law_pen [sc] μ Q' E') (q : Q (.bl true) μ) :
    wpSs S (fun _ x μ' => EndX μ.length x μ' E) b_law [some sc, none, none, none, none, none, none, none, none, none, none, none, none, none, none] μ { nx := fun _ μ' => EndD μ.length .non μ' Q, rt := fun d μ' => EndD μ.length d μ' Q } := by
  unfold b_law; simp only [ss_cons]
  simp only [wpS, wpE, wpEs]
  simp [bindT, cl.cp.c14, cl.cp.d14]
  refine h14 _ _ fun pen hp => ?_
  unfold b_law_l205; simp only [ss_cons]
  simp only [wpS, wpI, wpE, wpEs]
  simp [rngPlan, small62]
  refine for_ind (fun its ρ ν => ∃ x2 x5 x6 x7 x8 x9 x10 x11 x12 x13 pen' j, ρ = [some sc, some (.ref μ.length), x2, none, none, x5, x6, x7, x8, x9, x10, x11, x12, x13, none] ∧ ν = μ ++ [pen'] ∧ PenC (400000 * (j : Int)) pen' ∧ j + its.length = 3) ?_ ?_ _ _ _ ⟨none, none, none, none, none, none, none, none, none, none, pen, 0, rfl, rfl, by simpa using hp, by simp [rngItems]⟩
  · rintro d its ρ ν N ih ⟨x2, x5, x6, x7, x8, x9, x10, x11, x12, x13, pen', j, rfl, rfl, hp', hj⟩
    refine ⟨trivial, ?_⟩
    simp at hj
    simp [bindT]
    exact w_lap cl hp' (by omega) fun x5 x6 x7 x8 x9 x10 x11 x12 x13 pen2 hp2 => ih _ _ ⟨_, x5, x6, x7, x8, x9, x10, x11, x12, x13, pen2, j + 1, rfl, rfl, hp2.mono (by omega), by omega⟩
  · rintro ρ ν ⟨x2, x5, x6, x7, x8, x9, x10, x11, x12, x13, pen', j, rfl, rfl, hp', hj⟩
    refine ⟨trivial, ?_⟩
    simp at hj
    exact w_law_end S cl hp' (by omega) fun pen2 _ => EndD.drop hw rfl q
theorem w_law (S : Sg) (cl : Cl S) : Body S sp_law b_law N_law 1 := by
  intro ds μ Q E h hl hb hw
  match ds, hl, h with
  | [.scr ns], _, h => exact w_law_sc S cl hw (fun Q' E' k => ⟨h.1, k⟩) h.2
  | [.lst xs], _, h =>
    obtain ⟨ns, rfl, hn, q⟩ := h
    exact w_law_sc S cl hw (fun Q' E' k => ⟨ns, rfl, hn, k⟩) q
end K03

set_option Elab.async false
set_option linter.all false
set_option maxRecDepth 100000
set_option maxHeartbeats 0
namespace K03
open PySem PySem.Spec PyProof.Rows L2 PY
/-! ### the head: what stands at the top -/
abbrev d_is_row : He.DefD := ⟨("is_row", none), "is_row", "is_row", defArgs (top 1), defBody (top 1), defScope (top 1), [], []⟩
abbrev d_is_name : He.DefD := ⟨("is_name", none), "is_name", "is_name", defArgs (top 7), defBody (top 7), defScope (top 7), [], []⟩
abbrev d_are_names : He.DefD := ⟨("are_names", none), "are_names", "are_names", defArgs (top 8), defBody (top 8), defScope (top 8), [.non], []⟩
abbrev d_is_head : He.DefD := ⟨("is_head", none), "is_head", "is_head", defArgs (top 10), defBody (top 10), defScope (top 10), [], []⟩
abbrev d_test_parts : He.DefD := ⟨("test_parts", none), "test_parts", "test_parts", defArgs (top 11), defBody (top 11), defScope (top 11), [], []⟩
abbrev d_is_test : He.DefD := ⟨("is_test", none), "is_test", "is_test", defArgs (top 12), defBody (top 12), defScope (top 12), [], []⟩
abbrev d_program_parts : He.DefD := ⟨("program_parts", none), "program_parts", "program_parts", defArgs (top 13), defBody (top 13), defScope (top 13), [], []⟩
abbrev d_is_program : He.DefD := ⟨("is_program", none), "is_program", "is_program", defArgs (top 14), defBody (top 14), defScope (top 14), [], []⟩
abbrev d_statement_parts : He.DefD := ⟨("statement_parts", none), "statement_parts", "statement_parts", defArgs (top 15), defBody (top 15), defScope (top 15), [], []⟩
abbrev d_hypothesis_parts : He.DefD := ⟨("hypothesis_parts", none), "hypothesis_parts", "hypothesis_parts", defArgs (top 16), defBody (top 16), defScope (top 16), [], []⟩
abbrev d_saying_parts : He.DefD := ⟨("saying_parts", none), "saying_parts", "saying_parts", defArgs (top 17), defBody (top 17), defScope (top 17), [], []⟩
abbrev d_all_parts : He.DefD := ⟨("all_parts", none), "all_parts", "all_parts", defArgs (top 18), defBody (top 18), defScope (top 18), [], []⟩
abbrev d_whole_parts : He.DefD := ⟨("whole_parts", none), "whole_parts", "whole_parts", defArgs (top 19), defBody (top 19), defScope (top 19), [], []⟩
abbrev d_is_whole : He.DefD := ⟨("is_whole", none), "is_whole", "is_whole", defArgs (top 20), defBody (top 20), defScope (top 20), [], []⟩
abbrev d__law_pen : He.DefD := ⟨("_law_pen", none), "_law_pen", "_law_pen", defArgs (top 22), defBody (top 22), defScope (top 22), [], []⟩
abbrev d__law_draw : He.DefD := ⟨("_law_draw", none), "_law_draw", "_law_draw", defArgs (top 23), defBody (top 23), defScope (top 23), [], []⟩
abbrev d__law_pick : He.DefD := ⟨("_law_pick", none), "_law_pick", "_law_pick", defArgs (top 24), defBody (top 24), defScope (top 24), [], []⟩
abbrev d__law_is_truth : He.DefD := ⟨("_law_is_truth", none), "_law_is_truth", "_law_is_truth", defArgs (top 25), defBody (top 25), defScope (top 25), [], []⟩
abbrev d__law_test : He.DefD := ⟨("_law_test", none), "_law_test", "_law_test", defArgs (top 26), defBody (top 26), defScope (top 26), [], []⟩
abbrev d__law_names : He.DefD := ⟨("_law_names", none), "_law_names", "_law_names", defArgs (top 27), defBody (top 27), defScope (top 27), [], []⟩
abbrev d__law_l_none : He.DefD := ⟨("_law_l_none", none), "_law_l_none", "_law_l_none", defArgs (top 28), defBody (top 28), defScope (top 28), [], []⟩
abbrev d__law_l_program : He.DefD := ⟨("_law_l_program", none), "_law_l_program", "_law_l_program", defArgs (top 29), defBody (top 29), defScope (top 29), [], []⟩
abbrev d__law_l_statement : He.DefD := ⟨("_law_l_statement", none), "_law_l_statement", "_law_l_statement", defArgs (top 30), defBody (top 30), defScope (top 30), [], []⟩
abbrev d__law_l_whole : He.DefD := ⟨("_law_l_whole", none), "_law_l_whole", "_law_l_whole", defArgs (top 31), defBody (top 31), defScope (top 31), [], []⟩
abbrev d__law_paths : He.DefD := ⟨("_law_paths", none), "_law_paths", "_law_paths", defArgs (top 32), defBody (top 32), defScope (top 32), [], []⟩
abbrev d__law_put : He.DefD := ⟨("_law_put", none), "_law_put", "_law_put", defArgs (top 33), defBody (top 33), defScope (top 33), [], []⟩
abbrev d__law_bad : He.DefD := ⟨("_law_bad", none), "_law_bad", "_law_bad", defArgs (top 34), defBody (top 34), defScope (top 34), [], []⟩
abbrev d_law : He.DefD := ⟨("law", none), "law", "law", defArgs (top 35), defBody (top 35), defScope (top 35), [], []⟩
def fn : List He.DefD := [d_is_row, d_is_name, d_are_names, d_is_head, d_test_parts, d_is_test, d_program_parts, d_is_program, d_statement_parts, d_hypothesis_parts, d_saying_parts, d_all_parts, d_whole_parts, d_is_whole, d__law_pen, d__law_draw, d__law_pick, d__law_is_truth, d__law_test, d__law_names, d__law_l_none, d__law_l_program, d__law_l_statement, d__law_l_whole, d__law_paths, d__law_put, d__law_bad, d_law]
def fa : List He.Fa := [.glo "is_row", .glo "is_name", .glo "are_names", .glo "is_head", .glo "test_parts", .glo "is_test", .glo "program_parts", .glo "is_program", .glo "statement_parts", .glo "hypothesis_parts", .glo "saying_parts", .glo "all_parts", .glo "whole_parts", .glo "is_whole", .glo "_law_pen", .glo "_law_draw", .glo "_law_pick", .glo "_law_is_truth", .glo "_law_test", .glo "_law_names", .glo "_law_l_none", .glo "_law_l_program", .glo "_law_l_statement", .glo "_law_l_whole", .glo "_law_paths", .glo "_law_put", .glo "_law_bad", .glo "law", .free "all", .free "bool", .free "enumerate", .free "int", .free "isinstance", .free "len", .free "list", .free "range", .free "set", .free "str", .free "tuple", .str "SMALL" "abcdefghijklmnopqrstuvwxyz", .str "FIGURES" "0123456789", .int "LONGEST" 8, .glo "WORDS"]
def ex (K : PySem.W.Frag) : Bool := He.tupB K "WORDS" [.str "tests", .str "deeds", .str "given", .str "shows", .str "never", .str "keeps", .str "leaves", .str "skip", .str "stop", .str "assume", .str "if", .str "then", .str "else", .str "end", .str "while", .str "do", .str "repeat", .str "until", .str "choose", .str "loop", .str "not", .str "and", .str "or", .str "true", .str "false"]
-- law: def 27, top 35
-- const 0 SMALL top 3: Constant(value='abcdefghijklmnopqrstuvwxyz')
-- const 1 FIGURES top 4: Constant(value='0123456789')
-- const 2 LONGEST top 5: Constant(value=8)
-- const 3 WORDS top 6: Tuple(elts=[Constant(value='tests'), Constant(value='deeds')
def specs : List PY.Spec := [(sp_is_row), (sp_is_name), (sp_are_names), (sp_is_head), (sp_test_parts), (sp_is_test), (sp_program_parts), (sp_is_program), (sp_statement_parts), (sp_hypothesis_parts), (sp_saying_parts), (sp_all_parts), (sp_whole_parts), (sp_is_whole), (sp_law_pen), (sp_law_draw), (sp_law_pick), (sp_law_is_truth), (sp_law_test 7), (sp_law_names), (sp_law_l_none), (sp_law_l_program), (sp_law_l_statement), (sp_law_l_whole), (sp_law_paths), (sp_law_put 100), (sp_law_bad), (sp_law)]
def S0 : Sg := { call := fun i => specs.getD i (fun _ _ _ _ => False), con := fun j => ([.str smallS, .str figS, .int 8, .tup (wordsL.map .str)] : List D).getD j .non, dfl := fun i => if i = 2 then [.non] else [] }
theorem cn0 : Cn S0 := ⟨rfl, rfl, rfl, rfl⟩
theorem ca0 : Ca S0 := by constructor <;> rfl
theorem cp0 : Cp S0 := by constructor <;> rfl
theorem cpP (i : Nat) (sp : PY.Spec) (h : 17 < i) : Cp (S0.put i sp) := ⟨(Sg.put_ne S0 sp (by omega)).trans rfl, (Sg.put_ne S0 sp (by omega)).trans rfl, (Sg.put_ne S0 sp (by omega)).trans rfl, (Sg.put_ne S0 sp (by omega)).trans rfl, rfl, rfl, rfl, rfl⟩
theorem cl0 : Cl S0 := ⟨ca0, cp0, rfl, rfl, rfl, rfl, rfl, rfl, rfl, rfl, rfl, rfl, rfl, rfl, rfl, rfl, rfl, rfl⟩
section
variable {prog : Program} {w : World} {K : PySem.W.Frag} {mg : Str → Option Value} {base : Heap} {h : Heap} {k : Nat}
abbrev G0 (K : PySem.W.Frag) : Gd := ⟨K, fun _ => 0, fun _ => []⟩
theorem w0 (X : K.In h) (Gn : h.Ns mainGlobals mg) (c : SaysP fa fn ex K) : Wd (Pn 0) (G0 K) S0 prog w K mg base 1 := by
  refine ⟨rfl, fun x hx => ?_, fun j x e => ?_, fun d hd => by cases hd⟩
  · simp only [blts, List.mem_cons, List.mem_nil_iff, or_false] at hx
    rcases hx with rfl | rfl | rfl | rfl | rfl | rfl | rfl | rfl | rfl | rfl | rfl
    · exact He.free_ok X Gn (c.d.fact 28 (f := .free "all") rfl)
    · exact He.free_ok X Gn (c.d.fact 29 (f := .free "bool") rfl)
    · exact He.free_ok X Gn (c.d.fact 30 (f := .free "enumerate") rfl)
    · exact He.free_ok X Gn (c.d.fact 31 (f := .free "int") rfl)
    · exact He.free_ok X Gn (c.d.fact 32 (f := .free "isinstance") rfl)
    · exact He.free_ok X Gn (c.d.fact 33 (f := .free "len") rfl)
    · exact He.free_ok X Gn (c.d.fact 34 (f := .free "list") rfl)
    · exact He.free_ok X Gn (c.d.fact 35 (f := .free "range") rfl)
    · exact He.free_ok X Gn (c.d.fact 36 (f := .free "set") rfl)
    · exact He.free_ok X Gn (c.d.fact 37 (f := .free "str") rfl)
    · exact He.free_ok X Gn (c.d.fact 38 (f := .free "tuple") rfl)
  · match j, e with
    | 0, e =>
      cases e
      obtain ⟨t, e⟩ := He.str_ok X Gn (c.d.fact 39 (f := .str "SMALL" "abcdefghijklmnopqrstuvwxyz") rfl)
      exact ⟨_, .str (Str.ofString "abcdefghijklmnopqrstuvwxyz"), e, ⟨t, rfl⟩, fun _ _ _ => .str _⟩
    | 1, e =>
      cases e
      obtain ⟨t, e⟩ := He.str_ok X Gn (c.d.fact 40 (f := .str "FIGURES" "0123456789") rfl)
      exact ⟨_, .str (Str.ofString "0123456789"), e, ⟨t, rfl⟩, fun _ _ _ => .str _⟩
    | 2, e =>
      cases e
      obtain ⟨t, e⟩ := He.int_ok X Gn (c.d.fact 41 (f := .int "LONGEST" 8) rfl)
      exact ⟨_, .int 8, e, ⟨t, rfl⟩, fun _ _ _ => .int _⟩
    | 3, e =>
      cases e
      exact ⟨_, .ref (He.ga K "WORDS"), He.glo_ok X Gn (c.d.fact 42 (f := .glo "WORDS") rfl), rfl, fun _ _ _ => .tup (.inr (tupB_KT c.ex)) (reps_strs wordsL)⟩
    | (j + 4), e => cases e
theorem l_is_row : ∀ ds μ Q E, S0.call 0 ds μ Q E → ds.length = 1 := fun ds μ Q E h => by
    have h : (sp_is_row) ds μ Q E := h
    unfold sp_is_row pure1 at h
    split at h <;> first | rfl | exact h.elim
theorem k_is_row (X : K.In h) (Gn : h.Ns mainGlobals mg) (c : He.SaysD fa fn K) (wd : Wd (Pn 0) (G0 K) S0 prog w K mg base 1) : Wd (Pn 1) (G0 K) S0 prog w K mg base 2 := by
  obtain ⟨fd, F⟩ := c.def_ 0 (d := d_is_row) rfl
  have hg : mg "is_row" = some (.ref (He.ga K "is_row")) := He.glo_ok X Gn (c.fact 0 (f := .glo "is_row") rfl)
  have ok := def_ok wd F s_is_row u_is_row (by decide) c_is_row rfl (w_is_row S0)
  exact wd.next (d := ⟨0, "is_row", 1, 0⟩) (DefOk.mk0 l_is_row hg F ok rfl rfl (fun _ _ _ _ _ _ us hl => match us, hl with | [_], _ => rfl)) (by decide)
theorem l_is_name : ∀ ds μ Q E, S0.call 1 ds μ Q E → ds.length = 1 := fun ds μ Q E h => by
    have h : (sp_is_name) ds μ Q E := h
    unfold sp_is_name pure1 at h
    split at h <;> first | rfl | exact h.elim
theorem k_is_name (X : K.In h) (Gn : h.Ns mainGlobals mg) (c : He.SaysD fa fn K) (wd : Wd (Pn 1) (G0 K) S0 prog w K mg base 2) : Wd (Pn 2) (G0 K) S0 prog w K mg base 3 := by
  obtain ⟨fd, F⟩ := c.def_ 1 (d := d_is_name) rfl
  have hg : mg "is_name" = some (.ref (He.ga K "is_name")) := He.glo_ok X Gn (c.fact 1 (f := .glo "is_name") rfl)
  have ok := def_ok wd F s_is_name u_is_name (by decide) c_is_name rfl (w_is_name S0 cn0)
  exact wd.next (d := ⟨1, "is_name", 1, 0⟩) (DefOk.mk0 l_is_name hg F ok rfl rfl (fun _ _ _ _ _ _ us hl => match us, hl with | [_], _ => rfl)) (by decide)
theorem l_are_names : ∀ ds μ Q E, S0.call 2 ds μ Q E → ds.length = 2 := fun ds μ Q E h => by
    have h : (sp_are_names) ds μ Q E := h
    unfold sp_are_names at h
    split at h <;> first | rfl | exact h.elim
theorem k_are_names (X : K.In h) (Gn : h.Ns mainGlobals mg) (c : He.SaysD fa fn K) (wd : Wd (Pn 2) (G0 K) S0 prog w K mg base 3) : Wd (Pn 3) (G0 K) S0 prog w K mg base 4 := by
  obtain ⟨fd, F⟩ := c.def_ 2 (d := d_are_names) rfl
  have hg : mg "are_names" = some (.ref (He.ga K "are_names")) := He.glo_ok X Gn (c.fact 2 (f := .glo "are_names") rfl)
  have ok := def_ok wd F s_are_names u_are_names (by decide) c_are_names rfl (w_are_names S0 ca0)
  refine wd.next (d := ⟨2, "are_names", 2, 1⟩) (DefOk.mkD l_are_names hg F ok (by simp [He.DefD.dvs]) rfl (fun Z φ H => .cons .non .nil) (fun j hj T kV doc pm an cdv ct us its h1 h2 => ?_)) (by decide)
  · match j, hj, us, its, h1, h2 with
    | 0, _, us, its, h1, h2 => exact match us, its, h1, h2 with | [_], [_], _, _ => ⟨_, rfl, rfl⟩
    | 1, _, us, its, h1, h2 => exact match us, its, h1, h2 with | [_, _], [_], _, _ => ⟨_, rfl, rfl⟩
theorem l_is_head : ∀ ds μ Q E, S0.call 3 ds μ Q E → ds.length = 3 := fun ds μ Q E h => by
    have h : (sp_is_head) ds μ Q E := h
    unfold sp_is_head at h
    split at h <;> first | rfl | exact h.elim
theorem k_is_head (X : K.In h) (Gn : h.Ns mainGlobals mg) (c : He.SaysD fa fn K) (wd : Wd (Pn 3) (G0 K) S0 prog w K mg base 4) : Wd (Pn 4) (G0 K) S0 prog w K mg base 5 := by
  obtain ⟨fd, F⟩ := c.def_ 3 (d := d_is_head) rfl
  have hg : mg "is_head" = some (.ref (He.ga K "is_head")) := He.glo_ok X Gn (c.fact 3 (f := .glo "is_head") rfl)
  have ok := def_ok wd F s_is_head u_is_head (by decide) c_is_head rfl (w_is_head S0)
  exact wd.next (d := ⟨3, "is_head", 3, 0⟩) (DefOk.mk0 l_is_head hg F ok rfl rfl (fun _ _ _ _ _ _ us hl => match us, hl with | [_, _, _], _ => rfl)) (by decide)
theorem l_test_parts : ∀ ds μ Q E, S0.call 4 ds μ Q E → ds.length = 1 := fun ds μ Q E h => by
    have h : (sp_test_parts) ds μ Q E := h
    unfold sp_test_parts pure1 at h
    split at h <;> first | rfl | exact h.elim
theorem k_test_parts (X : K.In h) (Gn : h.Ns mainGlobals mg) (c : He.SaysD fa fn K) (wd : Wd (Pn 4) (G0 K) S0 prog w K mg base 5) : Wd (Pn 5) (G0 K) S0 prog w K mg base 6 := by
  obtain ⟨fd, F⟩ := c.def_ 4 (d := d_test_parts) rfl
  have hg : mg "test_parts" = some (.ref (He.ga K "test_parts")) := He.glo_ok X Gn (c.fact 4 (f := .glo "test_parts") rfl)
  have ok := def_ok wd F s_test_parts u_test_parts (by decide) c_test_parts rfl (w_test_parts S0 ca0)
  exact wd.next (d := ⟨4, "test_parts", 1, 0⟩) (DefOk.mk0 l_test_parts hg F ok rfl rfl (fun _ _ _ _ _ _ us hl => match us, hl with | [_], _ => rfl)) (by decide)
theorem l_is_test : ∀ ds μ Q E, S0.call 5 ds μ Q E → ds.length = 1 := fun ds μ Q E h => by
    have h : (sp_is_test) ds μ Q E := h
    unfold sp_is_test pureW at h
    split at h <;> first | rfl | exact h.elim
theorem k_is_test (X : K.In h) (Gn : h.Ns mainGlobals mg) (c : He.SaysD fa fn K) (wd : Wd (Pn 5) (G0 K) S0 prog w K mg base 6) : Wd (Pn 6) (G0 K) S0 prog w K mg base 7 := by
  obtain ⟨fd, F⟩ := c.def_ 5 (d := d_is_test) rfl
  have hg : mg "is_test" = some (.ref (He.ga K "is_test")) := He.glo_ok X Gn (c.fact 5 (f := .glo "is_test") rfl)
  have ok := def_ok wd F s_is_test u_is_test (by decide) c_is_test rfl (w_is_test S0 ca0)
  exact wd.next (d := ⟨5, "is_test", 1, 0⟩) (DefOk.mk0 l_is_test hg F ok rfl rfl (fun _ _ _ _ _ _ us hl => match us, hl with | [_], _ => rfl)) (by decide)
theorem l_program_parts : ∀ ds μ Q E, S0.call 6 ds μ Q E → ds.length = 1 := fun ds μ Q E h => by
    have h : (sp_program_parts) ds μ Q E := h
    unfold sp_program_parts pure1 at h
    split at h <;> first | rfl | exact h.elim
theorem k_program_parts (X : K.In h) (Gn : h.Ns mainGlobals mg) (c : He.SaysD fa fn K) (wd : Wd (Pn 6) (G0 K) S0 prog w K mg base 7) : Wd (Pn 7) (G0 K) S0 prog w K mg base 8 := by
  obtain ⟨fd, F⟩ := c.def_ 6 (d := d_program_parts) rfl
  have hg : mg "program_parts" = some (.ref (He.ga K "program_parts")) := He.glo_ok X Gn (c.fact 6 (f := .glo "program_parts") rfl)
  have ok := def_ok wd F s_program_parts u_program_parts (by decide) c_program_parts rfl (w_program_parts S0 ca0)
  exact wd.next (d := ⟨6, "program_parts", 1, 0⟩) (DefOk.mk0 l_program_parts hg F ok rfl rfl (fun _ _ _ _ _ _ us hl => match us, hl with | [_], _ => rfl)) (by decide)
theorem l_is_program : ∀ ds μ Q E, S0.call 7 ds μ Q E → ds.length = 1 := fun ds μ Q E h => by
    have h : (sp_is_program) ds μ Q E := h
    unfold sp_is_program pureW at h
    split at h <;> first | rfl | exact h.elim
theorem k_is_program (X : K.In h) (Gn : h.Ns mainGlobals mg) (c : He.SaysD fa fn K) (wd : Wd (Pn 7) (G0 K) S0 prog w K mg base 8) : Wd (Pn 8) (G0 K) S0 prog w K mg base 9 := by
  obtain ⟨fd, F⟩ := c.def_ 7 (d := d_is_program) rfl
  have hg : mg "is_program" = some (.ref (He.ga K "is_program")) := He.glo_ok X Gn (c.fact 7 (f := .glo "is_program") rfl)
  have ok := def_ok wd F s_is_program u_is_program (by decide) c_is_program rfl (w_is_program S0 ca0)
  exact wd.next (d := ⟨7, "is_program", 1, 0⟩) (DefOk.mk0 l_is_program hg F ok rfl rfl (fun _ _ _ _ _ _ us hl => match us, hl with | [_], _ => rfl)) (by decide)
theorem l_statement_parts : ∀ ds μ Q E, S0.call 8 ds μ Q E → ds.length = 2 := fun ds μ Q E h => by
    have h : (sp_statement_parts) ds μ Q E := h
    unfold sp_statement_parts at h
    split at h <;> first | rfl | exact h.elim
theorem k_statement_parts (X : K.In h) (Gn : h.Ns mainGlobals mg) (c : He.SaysD fa fn K) (wd : Wd (Pn 8) (G0 K) S0 prog w K mg base 9) : Wd (Pn 9) (G0 K) S0 prog w K mg base 10 := by
  obtain ⟨fd, F⟩ := c.def_ 8 (d := d_statement_parts) rfl
  have hg : mg "statement_parts" = some (.ref (He.ga K "statement_parts")) := He.glo_ok X Gn (c.fact 8 (f := .glo "statement_parts") rfl)
  have ok := def_ok wd F s_statement_parts u_statement_parts (by decide) c_statement_parts rfl (w_statement_parts S0 ca0)
  exact wd.next (d := ⟨8, "statement_parts", 2, 0⟩) (DefOk.mk0 l_statement_parts hg F ok rfl rfl (fun _ _ _ _ _ _ us hl => match us, hl with | [_, _], _ => rfl)) (by decide)
theorem l_hypothesis_parts : ∀ ds μ Q E, S0.call 9 ds μ Q E → ds.length = 1 := fun ds μ Q E h => by
    have h : (sp_hypothesis_parts) ds μ Q E := h
    unfold sp_hypothesis_parts pureW at h
    split at h <;> first | rfl | exact h.elim
theorem k_hypothesis_parts (X : K.In h) (Gn : h.Ns mainGlobals mg) (c : He.SaysD fa fn K) (wd : Wd (Pn 9) (G0 K) S0 prog w K mg base 10) : Wd (Pn 10) (G0 K) S0 prog w K mg base 11 := by
  obtain ⟨fd, F⟩ := c.def_ 9 (d := d_hypothesis_parts) rfl
  have hg : mg "hypothesis_parts" = some (.ref (He.ga K "hypothesis_parts")) := He.glo_ok X Gn (c.fact 9 (f := .glo "hypothesis_parts") rfl)
  have ok := def_ok wd F s_hypothesis_parts u_hypothesis_parts (by decide) c_hypothesis_parts rfl (w_hypothesis_parts S0 ca0)
  exact wd.next (d := ⟨9, "hypothesis_parts", 1, 0⟩) (DefOk.mk0 l_hypothesis_parts hg F ok rfl rfl (fun _ _ _ _ _ _ us hl => match us, hl with | [_], _ => rfl)) (by decide)
theorem l_saying_parts : ∀ ds μ Q E, S0.call 10 ds μ Q E → ds.length = 1 := fun ds μ Q E h => by
    have h : (sp_saying_parts) ds μ Q E := h
    unfold sp_saying_parts pureW at h
    split at h <;> first | rfl | exact h.elim
theorem k_saying_parts (X : K.In h) (Gn : h.Ns mainGlobals mg) (c : He.SaysD fa fn K) (wd : Wd (Pn 10) (G0 K) S0 prog w K mg base 11) : Wd (Pn 11) (G0 K) S0 prog w K mg base 12 := by
  obtain ⟨fd, F⟩ := c.def_ 10 (d := d_saying_parts) rfl
  have hg : mg "saying_parts" = some (.ref (He.ga K "saying_parts")) := He.glo_ok X Gn (c.fact 10 (f := .glo "saying_parts") rfl)
  have ok := def_ok wd F s_saying_parts u_saying_parts (by decide) c_saying_parts rfl (w_saying_parts S0 ca0)
  exact wd.next (d := ⟨10, "saying_parts", 1, 0⟩) (DefOk.mk0 l_saying_parts hg F ok rfl rfl (fun _ _ _ _ _ _ us hl => match us, hl with | [_], _ => rfl)) (by decide)
theorem l_all_parts : ∀ ds μ Q E, S0.call 11 ds μ Q E → ds.length = 2 := fun ds μ Q E h => by
    have h : (sp_all_parts) ds μ Q E := h
    unfold sp_all_parts at h
    split at h <;> first | rfl | exact h.elim
theorem k_all_parts (X : K.In h) (Gn : h.Ns mainGlobals mg) (c : He.SaysD fa fn K) (wd : Wd (Pn 11) (G0 K) S0 prog w K mg base 12) : Wd (Pn 12) (G0 K) S0 prog w K mg base 13 := by
  obtain ⟨fd, F⟩ := c.def_ 11 (d := d_all_parts) rfl
  have hg : mg "all_parts" = some (.ref (He.ga K "all_parts")) := He.glo_ok X Gn (c.fact 11 (f := .glo "all_parts") rfl)
  have ok := def_ok wd F s_all_parts u_all_parts (by decide) c_all_parts rfl (w_all_parts S0 ca0)
  exact wd.next (d := ⟨11, "all_parts", 2, 0⟩) (DefOk.mk0 l_all_parts hg F ok rfl rfl (fun _ _ _ _ _ _ us hl => match us, hl with | [_, _], _ => rfl)) (by decide)
theorem l_whole_parts : ∀ ds μ Q E, S0.call 12 ds μ Q E → ds.length = 1 := fun ds μ Q E h => by
    have h : (sp_whole_parts) ds μ Q E := h
    unfold sp_whole_parts at h
    split at h <;> first | rfl | exact h.elim
theorem k_whole_parts (X : K.In h) (Gn : h.Ns mainGlobals mg) (c : He.SaysD fa fn K) (wd : Wd (Pn 12) (G0 K) S0 prog w K mg base 13) : Wd (Pn 13) (G0 K) S0 prog w K mg base 14 := by
  obtain ⟨fd, F⟩ := c.def_ 12 (d := d_whole_parts) rfl
  have hg : mg "whole_parts" = some (.ref (He.ga K "whole_parts")) := He.glo_ok X Gn (c.fact 12 (f := .glo "whole_parts") rfl)
  have ok := def_ok wd F s_whole_parts u_whole_parts (by decide) c_whole_parts rfl (w_whole_parts S0 ca0)
  exact wd.next (d := ⟨12, "whole_parts", 1, 0⟩) (DefOk.mk0 l_whole_parts hg F ok rfl rfl (fun _ _ _ _ _ _ us hl => match us, hl with | [_], _ => rfl)) (by decide)
theorem l_is_whole : ∀ ds μ Q E, S0.call 13 ds μ Q E → ds.length = 1 := fun ds μ Q E h => by
    have h : (sp_is_whole) ds μ Q E := h
    unfold sp_is_whole at h
    split at h <;> first | rfl | exact h.elim
theorem k_is_whole (X : K.In h) (Gn : h.Ns mainGlobals mg) (c : He.SaysD fa fn K) (wd : Wd (Pn 13) (G0 K) S0 prog w K mg base 14) : Wd (Pn 14) (G0 K) S0 prog w K mg base 15 := by
  obtain ⟨fd, F⟩ := c.def_ 13 (d := d_is_whole) rfl
  have hg : mg "is_whole" = some (.ref (He.ga K "is_whole")) := He.glo_ok X Gn (c.fact 13 (f := .glo "is_whole") rfl)
  have ok := def_ok wd F s_is_whole u_is_whole (by decide) c_is_whole rfl (w_is_whole S0 ca0)
  exact wd.next (d := ⟨13, "is_whole", 1, 0⟩) (DefOk.mk0 l_is_whole hg F ok rfl rfl (fun _ _ _ _ _ _ us hl => match us, hl with | [_], _ => rfl)) (by decide)
theorem l__law_pen : ∀ ds μ Q E, S0.call 14 ds μ Q E → ds.length = 1 := fun ds μ Q E h => by
    have h : (sp_law_pen) ds μ Q E := h
    unfold sp_law_pen at h
    split at h <;> first | rfl | exact h.elim
theorem k__law_pen (X : K.In h) (Gn : h.Ns mainGlobals mg) (c : He.SaysD fa fn K) (wd : Wd (Pn 14) (G0 K) S0 prog w K mg base 15) : Wd (Pn 15) (G0 K) S0 prog w K mg base 16 := by
  obtain ⟨fd, F⟩ := c.def_ 14 (d := d__law_pen) rfl
  have hg : mg "_law_pen" = some (.ref (He.ga K "_law_pen")) := He.glo_ok X Gn (c.fact 14 (f := .glo "_law_pen") rfl)
  have ok := def_ok wd F s__law_pen u__law_pen (by decide) c__law_pen rfl (w_law_pen S0)
  exact wd.next (d := ⟨14, "_law_pen", 1, 0⟩) (DefOk.mk0 l__law_pen hg F ok rfl rfl (fun _ _ _ _ _ _ us hl => match us, hl with | [_], _ => rfl)) (by decide)
theorem l__law_draw : ∀ ds μ Q E, S0.call 15 ds μ Q E → ds.length = 2 := fun ds μ Q E h => by
    have h : (sp_law_draw) ds μ Q E := h
    unfold sp_law_draw at h
    split at h <;> first | rfl | exact h.elim
theorem k__law_draw (X : K.In h) (Gn : h.Ns mainGlobals mg) (c : He.SaysD fa fn K) (wd : Wd (Pn 15) (G0 K) S0 prog w K mg base 16) : Wd (Pn 16) (G0 K) S0 prog w K mg base 17 := by
  obtain ⟨fd, F⟩ := c.def_ 15 (d := d__law_draw) rfl
  have hg : mg "_law_draw" = some (.ref (He.ga K "_law_draw")) := He.glo_ok X Gn (c.fact 15 (f := .glo "_law_draw") rfl)
  have ok := def_ok wd F s__law_draw u__law_draw (by decide) c__law_draw rfl (w_law_draw S0)
  exact wd.next (d := ⟨15, "_law_draw", 2, 0⟩) (DefOk.mk0 l__law_draw hg F ok rfl rfl (fun _ _ _ _ _ _ us hl => match us, hl with | [_, _], _ => rfl)) (by decide)
theorem l__law_pick : ∀ ds μ Q E, S0.call 16 ds μ Q E → ds.length = 2 := fun ds μ Q E h => by
    have h : (sp_law_pick) ds μ Q E := h
    unfold sp_law_pick at h
    split at h <;> first | rfl | exact h.elim
theorem k__law_pick (X : K.In h) (Gn : h.Ns mainGlobals mg) (c : He.SaysD fa fn K) (wd : Wd (Pn 16) (G0 K) S0 prog w K mg base 17) : Wd (Pn 17) (G0 K) S0 prog w K mg base 18 := by
  obtain ⟨fd, F⟩ := c.def_ 16 (d := d__law_pick) rfl
  have hg : mg "_law_pick" = some (.ref (He.ga K "_law_pick")) := He.glo_ok X Gn (c.fact 16 (f := .glo "_law_pick") rfl)
  have ok := def_ok wd F s__law_pick u__law_pick (by decide) c__law_pick rfl (w_law_pick S0 cp0)
  exact wd.next (d := ⟨16, "_law_pick", 2, 0⟩) (DefOk.mk0 l__law_pick hg F ok rfl rfl (fun _ _ _ _ _ _ us hl => match us, hl with | [_, _], _ => rfl)) (by decide)
theorem l__law_is_truth : ∀ ds μ Q E, S0.call 17 ds μ Q E → ds.length = 2 := fun ds μ Q E h => by
    have h : (sp_law_is_truth) ds μ Q E := h
    unfold sp_law_is_truth at h
    split at h <;> first | rfl | exact h.elim
theorem k__law_is_truth (X : K.In h) (Gn : h.Ns mainGlobals mg) (c : He.SaysD fa fn K) (wd : Wd (Pn 17) (G0 K) S0 prog w K mg base 18) : Wd (Pn 18) (G0 K) S0 prog w K mg base 19 := by
  obtain ⟨fd, F⟩ := c.def_ 17 (d := d__law_is_truth) rfl
  have hg : mg "_law_is_truth" = some (.ref (He.ga K "_law_is_truth")) := He.glo_ok X Gn (c.fact 17 (f := .glo "_law_is_truth") rfl)
  have ok := def_ok wd F s__law_is_truth u__law_is_truth (by decide) c__law_is_truth rfl (w_law_is_truth S0)
  exact wd.next (d := ⟨17, "_law_is_truth", 2, 0⟩) (DefOk.mk0 l__law_is_truth hg F ok rfl rfl (fun _ _ _ _ _ _ us hl => match us, hl with | [_, _], _ => rfl)) (by decide)
theorem l__law_test : ∀ ds μ Q E, S0.call 18 ds μ Q E → ds.length = 3 := fun ds μ Q E h => by
    have h : (sp_law_test 7) ds μ Q E := h
    unfold sp_law_test at h
    split at h <;> first | rfl | exact h.elim
theorem k__law_test (X : K.In h) (Gn : h.Ns mainGlobals mg) (c : He.SaysD fa fn K) (wd : Wd (Pn 18) (G0 K) S0 prog w K mg base 19) : Wd (Pn 19) (G0 K) S0 prog w K mg base 27 := by
  obtain ⟨fd, F⟩ := c.def_ 18 (d := d__law_test) rfl
  have hg : mg "_law_test" = some (.ref (He.ga K "_law_test")) := He.glo_ok X Gn (c.fact 18 (f := .glo "_law_test") rfl)
  have ok := fn_rec (prog := prog) (w := w) (mg := mg) (base := base) (K := K) (G := G0 K) (k := 19) (f := He.ga K "_law_test") (fd := fd) (ps := ["pen", "tests", "size"]) (sp := sp_law_test) (n := 3) (fun ds μ Q E h => by
      unfold sp_law_test at h
      split at h
      · obtain ⟨_, _, _, _, _, h, _⟩ := h; omega
      · exact h.elim) (fun m j hj ih => by
    have wd1 : Wd (Pn 18) (G0 K) (S0.put 18 (sp_law_test m)) prog w K mg base j := (wd.mono hj).cast rfl (fun d hd => by
      have : d.id < 18 := by
        have H : ∀ d ∈ funs.take 18, d.id < 18 := by decide
        exact H d hd
      exact ⟨Sg.put_ne S0 _ (by omega), rfl⟩)
    have wd2 : Wd (Pn 19) (G0 K) (S0.put 18 (sp_law_test m)) prog w K mg base j := wd1.next (d := ⟨18, "_law_test", 3, 0⟩) (DefOk.mk0 (fun ds μ Q E h => by
      have h : (sp_law_test m) ds μ Q E := h
      unfold sp_law_test at h
      split at h <;> first | rfl | exact h.elim) hg F ih rfl rfl (fun _ _ _ _ _ _ us hl => match us, hl with | [_, _, _], _ => rfl)) (Nat.le_refl _)
    exact def_ok wd2 F s__law_test u__law_test (by omega) c__law_test rfl (w_law_test _ (cpP _ _ (by decide)) m (Sg.put_at _ _ _) rfl)) 7
  exact wd.next (d := ⟨18, "_law_test", 3, 0⟩) (DefOk.mk0 l__law_test hg F (ok.mono (by decide)) rfl rfl (fun _ _ _ _ _ _ us hl => match us, hl with | [_, _, _], _ => rfl)) (by decide)
theorem l__law_names : ∀ ds μ Q E, S0.call 19 ds μ Q E → ds.length = 1 := fun ds μ Q E h => by
    have h : (sp_law_names) ds μ Q E := h
    unfold sp_law_names at h
    split at h <;> first | rfl | exact h.elim
theorem k__law_names (X : K.In h) (Gn : h.Ns mainGlobals mg) (c : He.SaysD fa fn K) (wd : Wd (Pn 19) (G0 K) S0 prog w K mg base 27) : Wd (Pn 20) (G0 K) S0 prog w K mg base 28 := by
  obtain ⟨fd, F⟩ := c.def_ 19 (d := d__law_names) rfl
  have hg : mg "_law_names" = some (.ref (He.ga K "_law_names")) := He.glo_ok X Gn (c.fact 19 (f := .glo "_law_names") rfl)
  have ok := def_ok wd F s__law_names u__law_names (by decide) c__law_names rfl (w_law_names S0 cp0)
  exact wd.next (d := ⟨19, "_law_names", 1, 0⟩) (DefOk.mk0 l__law_names hg F ok rfl rfl (fun _ _ _ _ _ _ us hl => match us, hl with | [_], _ => rfl)) (by decide)
theorem l__law_l_none : ∀ ds μ Q E, S0.call 20 ds μ Q E → ds.length = 1 := fun ds μ Q E h => by
    have h : (sp_law_l_none) ds μ Q E := h
    unfold sp_law_l_none at h
    split at h <;> first | rfl | exact h.elim
theorem k__law_l_none (X : K.In h) (Gn : h.Ns mainGlobals mg) (c : He.SaysD fa fn K) (wd : Wd (Pn 20) (G0 K) S0 prog w K mg base 28) : Wd (Pn 21) (G0 K) S0 prog w K mg base 29 := by
  obtain ⟨fd, F⟩ := c.def_ 20 (d := d__law_l_none) rfl
  have hg : mg "_law_l_none" = some (.ref (He.ga K "_law_l_none")) := He.glo_ok X Gn (c.fact 20 (f := .glo "_law_l_none") rfl)
  have ok := def_ok wd F s__law_l_none u__law_l_none (by decide) c__law_l_none rfl (w_law_l_none S0 cp0)
  exact wd.next (d := ⟨20, "_law_l_none", 1, 0⟩) (DefOk.mk0 l__law_l_none hg F ok rfl rfl (fun _ _ _ _ _ _ us hl => match us, hl with | [_], _ => rfl)) (by decide)
theorem l__law_l_program : ∀ ds μ Q E, S0.call 21 ds μ Q E → ds.length = 4 := fun ds μ Q E h => by
    have h : (sp_law_l_program) ds μ Q E := h
    unfold sp_law_l_program at h
    split at h <;> first | rfl | exact h.elim
theorem k__law_l_program (X : K.In h) (Gn : h.Ns mainGlobals mg) (c : He.SaysD fa fn K) (wd : Wd (Pn 21) (G0 K) S0 prog w K mg base 29) : Wd (Pn 22) (G0 K) S0 prog w K mg base 30 := by
  obtain ⟨fd, F⟩ := c.def_ 21 (d := d__law_l_program) rfl
  have hg : mg "_law_l_program" = some (.ref (He.ga K "_law_l_program")) := He.glo_ok X Gn (c.fact 21 (f := .glo "_law_l_program") rfl)
  have ok := def_ok wd F s__law_l_program u__law_l_program (by decide) c__law_l_program rfl (w_law_l_program S0 cp0 (m := 7) (by decide) rfl rfl)
  exact wd.next (d := ⟨21, "_law_l_program", 4, 0⟩) (DefOk.mk0 l__law_l_program hg F ok rfl rfl (fun _ _ _ _ _ _ us hl => match us, hl with | [_, _, _, _], _ => rfl)) (by decide)
theorem l__law_l_statement : ∀ ds μ Q E, S0.call 22 ds μ Q E → ds.length = 5 := fun ds μ Q E h => by
    have h : (sp_law_l_statement) ds μ Q E := h
    unfold sp_law_l_statement at h
    split at h <;> first | rfl | exact h.elim
theorem k__law_l_statement (X : K.In h) (Gn : h.Ns mainGlobals mg) (c : He.SaysD fa fn K) (wd : Wd (Pn 22) (G0 K) S0 prog w K mg base 30) : Wd (Pn 23) (G0 K) S0 prog w K mg base 31 := by
  obtain ⟨fd, F⟩ := c.def_ 22 (d := d__law_l_statement) rfl
  have hg : mg "_law_l_statement" = some (.ref (He.ga K "_law_l_statement")) := He.glo_ok X Gn (c.fact 22 (f := .glo "_law_l_statement") rfl)
  have ok := def_ok wd F s__law_l_statement u__law_l_statement (by decide) c__law_l_statement rfl (w_law_l_statement S0 cp0 (m := 7) (by decide) rfl rfl rfl rfl)
  exact wd.next (d := ⟨22, "_law_l_statement", 5, 0⟩) (DefOk.mk0 l__law_l_statement hg F ok rfl rfl (fun _ _ _ _ _ _ us hl => match us, hl with | [_, _, _, _, _], _ => rfl)) (by decide)
theorem l__law_l_whole : ∀ ds μ Q E, S0.call 23 ds μ Q E → ds.length = 4 := fun ds μ Q E h => by
    have h : (sp_law_l_whole) ds μ Q E := h
    unfold sp_law_l_whole at h
    split at h <;> first | rfl | exact h.elim
theorem k__law_l_whole (X : K.In h) (Gn : h.Ns mainGlobals mg) (c : He.SaysD fa fn K) (wd : Wd (Pn 23) (G0 K) S0 prog w K mg base 31) : Wd (Pn 24) (G0 K) S0 prog w K mg base 32 := by
  obtain ⟨fd, F⟩ := c.def_ 23 (d := d__law_l_whole) rfl
  have hg : mg "_law_l_whole" = some (.ref (He.ga K "_law_l_whole")) := He.glo_ok X Gn (c.fact 23 (f := .glo "_law_l_whole") rfl)
  have ok := def_ok wd F s__law_l_whole u__law_l_whole (by decide) c__law_l_whole rfl (w_law_l_whole S0 cp0 rfl rfl rfl rfl)
  exact wd.next (d := ⟨23, "_law_l_whole", 4, 0⟩) (DefOk.mk0 l__law_l_whole hg F ok rfl rfl (fun _ _ _ _ _ _ us hl => match us, hl with | [_, _, _, _], _ => rfl)) (by decide)
theorem l__law_paths : ∀ ds μ Q E, S0.call 24 ds μ Q E → ds.length = 1 := fun ds μ Q E h => by
    have h : (sp_law_paths) ds μ Q E := h
    unfold sp_law_paths at h
    split at h <;> first | rfl | exact h.elim
theorem k__law_paths (X : K.In h) (Gn : h.Ns mainGlobals mg) (c : He.SaysD fa fn K) (wd : Wd (Pn 24) (G0 K) S0 prog w K mg base 32) : Wd (Pn 25) (G0 K) S0 prog w K mg base 33 := by
  obtain ⟨fd, F⟩ := c.def_ 24 (d := d__law_paths) rfl
  have hg : mg "_law_paths" = some (.ref (He.ga K "_law_paths")) := He.glo_ok X Gn (c.fact 24 (f := .glo "_law_paths") rfl)
  have ok := def_ok wd F s__law_paths u__law_paths (by decide) c__law_paths rfl (w_law_paths S0)
  exact wd.next (d := ⟨24, "_law_paths", 1, 0⟩) (DefOk.mk0 l__law_paths hg F ok rfl rfl (fun _ _ _ _ _ _ us hl => match us, hl with | [_], _ => rfl)) (by decide)
theorem l__law_put : ∀ ds μ Q E, S0.call 25 ds μ Q E → ds.length = 3 := fun ds μ Q E h => by
    have h : (sp_law_put 100) ds μ Q E := h
    unfold sp_law_put at h
    split at h <;> first | rfl | exact h.elim
theorem k__law_put (X : K.In h) (Gn : h.Ns mainGlobals mg) (c : He.SaysD fa fn K) (wd : Wd (Pn 25) (G0 K) S0 prog w K mg base 33) : Wd (Pn 26) (G0 K) S0 prog w K mg base 134 := by
  obtain ⟨fd, F⟩ := c.def_ 25 (d := d__law_put) rfl
  have hg : mg "_law_put" = some (.ref (He.ga K "_law_put")) := He.glo_ok X Gn (c.fact 25 (f := .glo "_law_put") rfl)
  have ok := fn_rec (prog := prog) (w := w) (mg := mg) (base := base) (K := K) (G := G0 K) (k := 33) (f := He.ga K "_law_put") (fd := fd) (ps := ["tree", "path", "new"]) (sp := sp_law_put) (n := 3) (fun ds μ Q E h => by
      unfold sp_law_put at h
      split at h
      · obtain ⟨_, _, h, _⟩ := h; omega
      · exact h.elim) (fun m j hj ih => by
    have wd1 : Wd (Pn 25) (G0 K) (S0.put 25 (sp_law_put m)) prog w K mg base j := (wd.mono hj).cast rfl (fun d hd => by
      have : d.id < 25 := by
        have H : ∀ d ∈ funs.take 25, d.id < 25 := by decide
        exact H d hd
      exact ⟨Sg.put_ne S0 _ (by omega), rfl⟩)
    have wd2 : Wd (Pn 26) (G0 K) (S0.put 25 (sp_law_put m)) prog w K mg base j := wd1.next (d := ⟨25, "_law_put", 3, 0⟩) (DefOk.mk0 (fun ds μ Q E h => by
      have h : (sp_law_put m) ds μ Q E := h
      unfold sp_law_put at h
      split at h <;> first | rfl | exact h.elim) hg F ih rfl rfl (fun _ _ _ _ _ _ us hl => match us, hl with | [_, _, _], _ => rfl)) (Nat.le_refl _)
    exact def_ok wd2 F s__law_put u__law_put (by omega) c__law_put rfl (w_law_put _ m (Sg.put_at _ _ _) rfl)) 100
  exact wd.next (d := ⟨25, "_law_put", 3, 0⟩) (DefOk.mk0 l__law_put hg F (ok.mono (by decide)) rfl rfl (fun _ _ _ _ _ _ us hl => match us, hl with | [_, _, _], _ => rfl)) (by decide)
theorem l__law_bad : ∀ ds μ Q E, S0.call 26 ds μ Q E → ds.length = 2 := fun ds μ Q E h => by
    have h : (sp_law_bad) ds μ Q E := h
    unfold sp_law_bad at h
    split at h <;> first | rfl | exact h.elim
theorem k__law_bad (X : K.In h) (Gn : h.Ns mainGlobals mg) (c : He.SaysD fa fn K) (wd : Wd (Pn 26) (G0 K) S0 prog w K mg base 134) : Wd (Pn 27) (G0 K) S0 prog w K mg base 135 := by
  obtain ⟨fd, F⟩ := c.def_ 26 (d := d__law_bad) rfl
  have hg : mg "_law_bad" = some (.ref (He.ga K "_law_bad")) := He.glo_ok X Gn (c.fact 26 (f := .glo "_law_bad") rfl)
  have ok := def_ok wd F s__law_bad u__law_bad (by decide) c__law_bad rfl (w_law_bad S0 cp0)
  exact wd.next (d := ⟨26, "_law_bad", 2, 0⟩) (DefOk.mk0 l__law_bad hg F ok rfl rfl (fun _ _ _ _ _ _ us hl => match us, hl with | [_, _], _ => rfl)) (by decide)
end
abbrev LV : Nat := 136
theorem law_sp : LawSp sp_law := fun ns Q E hn _ q => ⟨⟨by omega, q _⟩, ns, rfl, by omega, q _⟩
theorem facts {P : Program} {w : World} {K : PySem.W.Frag} {h : Heap} {mg : Str → Option Value} {f : Addr} (X : K.In h) (G : h.Ns mainGlobals mg) (hfa : mg ("law" : Str) = some (.ref f)) (c : SaysP fa fn ex K) :
    ∃ fd : FuncData, (∀ (s : Shared) (v : Value), BindsTo s fd ⟨[v], []⟩ [("script", v)]) ∧ ∀ base : Heap, K.In base → base.Ns mainGlobals mg → FnOk P w K mg base (L2.CX P w) LV f fd ["script"] (spLaw K) := by
  obtain ⟨fd, F⟩ := c.d.def_ 27 (d := d_law) rfl
  have e := hfa.symm.trans (He.glo_ok X G (c.d.fact 27 (f := .glo "law") rfl))
  cases e
  refine ⟨fd, bindsTo_one F fun _ _ _ _ _ _ us hl => match us, hl with | [_], _ => rfl, fun base _ _ => ?_⟩
  have wd0 : Wd (Pn 0) (G0 K) S0 P w K mg base 1 := w0 X G c
  have wd1 := k_is_row X G c.d wd0
  have wd2 := k_is_name X G c.d wd1
  have wd3 := k_are_names X G c.d wd2
  have wd4 := k_is_head X G c.d wd3
  have wd5 := k_test_parts X G c.d wd4
  have wd6 := k_is_test X G c.d wd5
  have wd7 := k_program_parts X G c.d wd6
  have wd8 := k_is_program X G c.d wd7
  have wd9 := k_statement_parts X G c.d wd8
  have wd10 := k_hypothesis_parts X G c.d wd9
  have wd11 := k_saying_parts X G c.d wd10
  have wd12 := k_all_parts X G c.d wd11
  have wd13 := k_whole_parts X G c.d wd12
  have wd14 := k_is_whole X G c.d wd13
  have wd15 := k__law_pen X G c.d wd14
  have wd16 := k__law_draw X G c.d wd15
  have wd17 := k__law_pick X G c.d wd16
  have wd18 := k__law_is_truth X G c.d wd17
  have wd19 := k__law_test X G c.d wd18
  have wd20 := k__law_names X G c.d wd19
  have wd21 := k__law_l_none X G c.d wd20
  have wd22 := k__law_l_program X G c.d wd21
  have wd23 := k__law_l_statement X G c.d wd22
  have wd24 := k__law_l_whole X G c.d wd23
  have wd25 := k__law_paths X G c.d wd24
  have wd26 := k__law_put X G c.d wd25
  have wd27 := k__law_bad X G c.d wd26
  have ok := def_ok wd27 F s_law u_law (by decide) c_law rfl (w_law S0 cl0)
  exact ok.imp fun vs H Q E q => law_imp rfl law_sp q
end K03

set_option Elab.async false
set_option linter.all false
set_option maxRecDepth 100000
set_option maxHeartbeats 0
namespace K03
open PySem PySem.Spec PyProof.Rows L2 PY
abbrev R : PySem.W.OpenRow := PySem.W.OpenLaw.row PySem.Challenge.rw_loopproof_k03_whole_trees_of_programs
abbrev hk : PySem.W.Hook := hookP 4 fa fn ex
abbrev lo0 : List PySem.Str := ["is_row", "SMALL", "FIGURES", "LONGEST", "WORDS", "is_name", "are_names", "is_head", "test_parts", "is_test", "program_parts", "is_program", "statement_parts", "hypothesis_parts", "saying_parts", "all_parts", "whole_parts", "is_whole", "_law_pen", "_law_draw", "_law_pick", "_law_is_truth", "_law_test", "_law_names", "_law_l_none", "_law_l_program", "_law_l_statement", "_law_l_whole", "_law_paths", "_law_put", "_law_bad"]
abbrev loose : List PySem.Str := lo0
def ob (s : PySem.W.SharedT) : He.AlD × Bool := obsPG 4 fa fn ex (HandSHeadRun.getT s)
theorem ob_eq (s : PySem.W.SharedT) : ob s = hk.obs s.abs := obsPG_eq (HandSHeadRun.getT_eq s)
theorem run (w : World) : HandSHeadRun.RunEq R (PySem.W.view R.prog [35]) hk ob 4000 K03.loose w := by
  intro os
  kernel_rfl
end K03
open PySem PySem.W PySem.Calls PyProof.Rows
theorem PySem.Challenge.cw_loopproof_k03_whole_trees_of_programs_holds : PySem.Challenge.rw_loopproof_k03_whole_trees_of_programs.Holds := by
  w_on; o_law
  refine HandSHeadRun.head_any (r := OpenLaw.row PySem.Challenge.rw_loopproof_k03_whole_trees_of_programs) (q := view (OpenLaw.row PySem.Challenge.rw_loopproof_k03_whole_trees_of_programs).prog [35]) (H := K03.hk) (ob := K03.ob) (M := 4000) (loose := K03.loose) (d := HandSHeadRun.topDef (OpenLaw.row PySem.Challenge.rw_loopproof_k03_whole_trees_of_programs).prog 35) (kwd := []) K03.ob_eq
    (by kernel_rfl) (fun s => by kernel_rfl) K03.run (by kernel_rfl) (by kernel_rfl) (by kernel_rfl) (by rfl) (by first | assumption | decide +kernel) (by decide +kernel) ⟨rfl, rfl, rfl, rfl, rfl, by decide +kernel⟩ ?hw ?hc
  case hw => w_witness2
  case hc =>
    refine PY.walkP (l := PySem.Challenge.rw_loopproof_k03_whole_trees_of_programs) (n := 63) (k := K03.LV) rfl (by decide) (by kernel_rfl) ⟨rfl, by decide, by decide⟩ ?F
    intro w mg fa h Y G hmg0
    obtain ⟨K, KX, c⟩ := Y
    have hmg : mg ("law" : PySem.Str) = some (.ref fa) := by
      have e : (HandSHeadRun.topDef (OpenLaw.row PySem.Challenge.rw_loopproof_k03_whole_trees_of_programs).prog 35).name = ("law" : PySem.Str) := by kernel_rfl
      rw [← e]
      exact hmg0
    obtain ⟨fd, hb, hF⟩ := K03.facts (P := (PySem.Challenge.rw_loopproof_k03_whole_trees_of_programs).prog) (w := w) KX G hmg c
    exact ⟨K, fd, KX, hb, hF⟩
