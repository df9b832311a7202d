import PyProof.Rows.All
import Wide.All
import OpenK.AllK
import Wide.FinOn
import HandS.ForMost
import HandS.Exc
import HandS.ExcOwn
import HandS.ExcInit
import HandS.ExcField
import HandS.CallLocal
import HandS.WordsExc
import HandS.IsInst
import HandS.Deep
import HandS.Zip
import HandS.Conv
import PyProof.ReprRoads
import KE.GoesMore
import KE.GoesEnum
import HandS.Ends
import HandS.Text
import PySem.Challenge.RW_cancelleaves_k75_papers_as_texts
set_option Elab.async false
set_option linter.all false
set_option maxRecDepth 100000
set_option maxHeartbeats 4000000
/-! Layer M2, part a: plain data, a plain store, what relates them to the hand layer's heap; programs as functions on these. -/
namespace M2
open PySem PySem.Spec PyProof.Rows L2

/-- plain data: tuples are values; a list is a place of the store; fro: a list that nobody writes (the script); fn: a def or class of the module by its name -/
inductive Da where
  | non | bl (b : Bool) | int (i : Int) | str (x : Str) | tup (xs : List Da) | fro (xs : List Da) | ref (r : Nat) | fn (n : Str) | ty (n : String) | adr (a : Addr)
  deriving Inhabited
/-- what stands in the store -/
inductive SO where
  | lst (xs : List Da)
abbrev Store := List SO
/-- how a piece ends -/
inductive Res (α : Type) where
  | ok (a : α) (S : Store) | exc (c : Str) (fs : List (Str × Da)) (S : Store) | bad
def M (α : Type) := Store → Res α
def M.pur {α : Type} (a : α) : M α := fun S => .ok a S
def Res.thn {α β : Type} (r : Res α) (f : α → M β) : Res β := match r with
  | .ok a S => f a S
  | .exc c fs S => .exc c fs S
  | .bad => .bad
def M.bnd {α β : Type} (m : M α) (f : α → M β) : M β := fun S => (m S).thn f
instance : Monad M where
  pure := M.pur
  bind := M.bnd
theorem pure_ap {α : Type} (a : α) (S : Store) : (pure a : M α) S = .ok a S := rfl
theorem bind_ap {α β : Type} (m : M α) (f : α → M β) (S : Store) : (m >>= f) S = (m S).thn f := rfl
@[simp] theorem thn_ok {α β : Type} (a : α) (S : Store) (f : α → M β) : (Res.ok a S).thn f = f a S := rfl
@[simp] theorem thn_exc {α β : Type} (c : Str) (fs : List (Str × Da)) (S : Store) (f : α → M β) : (Res.exc c fs S : Res α).thn f = .exc c fs S := rfl
@[simp] theorem thn_bad {α β : Type} (f : α → M β) : (Res.bad : Res α).thn f = .bad := rfl
def M.bad {α : Type} : M α := fun _ => .bad
/-- a partial reckoning, as a piece -/
def ofO {α : Type} : Option α → M α
  | some a => pure a
  | none => M.bad
abbrev Ev := List (Option Da)
/-- how a statement ends -/
inductive SR where
  | nx (ρ : Ev) (S : Store) | rt (d : Da) (S : Store) | bk (ρ : Ev) (S : Store) | ct (ρ : Ev) (S : Store) | exc (c : Str) (fs : List (Str × Da)) (ρ : Ev) (S : Store) | bad
abbrev FS := Ev → Store → SR

/-! ### the relation to the hand layer's heap -/
/-- what the relations lean on -/
structure Mon (μ : List Addr) (H : Hp) (μ' : List Addr) (H' : Hp) : Prop where
  pre : ∃ ν, μ' = μ ++ ν
  tup : ∀ a xs, a ∉ μ → H a = some (.tup xs) → a ∉ μ' ∧ H' a = some (.tup xs)
  frz : ∀ a o u, a ∉ μ → H a = some (.frz o u) → a ∉ μ' ∧ H' a = some (.frz o u)
  xd : ∀ a fs, a ∉ μ → H a = some (.xd fs) → a ∉ μ' ∧ H' a = some (.xd fs)
/-- the names of defs and classes; what else stays -/
structure Nv where
  nm : Str → Addr
  inv : List Addr → Hp → Prop
  mono : ∀ μ H μ' H', Mon μ H μ' H' → inv μ H → inv μ' H'
def nv (nm : Str → Addr) : Nv := ⟨nm, fun _ _ => True, fun _ _ _ _ _ _ => trivial⟩
structure Cz where
  K : PySem.W.Frag
  n : Nv
section
variable (K : PySem.W.Frag) (nm : Str → Addr)
def KT (a : Addr) (xs : List V) : Prop := ∃ (o : Obj) (its : Array Value) (n : Nat), K.lookup a = some o ∧ o.cls = .type "tuple" ∧ o.data = .seq its n ∧ its.size ≤ sizeLine ∧ Vals xs its.toList
def KL (a : Addr) (xs : List V) : Prop := ∃ (o : Obj) (its : Array Value) (n : Nat), K.lookup a = some o ∧ o.cls = .type "list" ∧ o.dict = none ∧ o.data = .seq its n ∧ its.size ≤ sizeLine ∧ Vals xs its.toList
def RT (μ : List Addr) (H : Hp) (a : Addr) (xs : List V) : Prop := (a ∉ μ ∧ Rd H a (.tup xs)) ∨ KT K a xs
def RL (μ : List Addr) (H : Hp) (a : Addr) (xs : List V) : Prop := (a ∉ μ ∧ ∃ o, H a = some (.frz o (.lst xs))) ∨ KL K a xs
mutual
def RelDk (μ : List Addr) (H : Hp) : Da → V → Prop
  | .non, v => v = .non
  | .bl b, v => v = .bl b
  | .int i, v => v = .int i
  | .str x, v => v = .str x
  | .tup ds, v => ∃ a vs, v = .ref a ∧ RT K μ H a vs ∧ RelLk μ H ds vs
  | .fro ds, v => ∃ a vs, v = .ref a ∧ RL K μ H a vs ∧ RelLk μ H ds vs
  | .ref r, v => ∃ a, v = .ref a ∧ μ[r]? = some a
  | .fn n, v => v = .ref (nm n)
  | .ty n, v => v = .ty n
  | .adr a, v => v = .ref a
def RelLk (μ : List Addr) (H : Hp) : List Da → List V → Prop
  | [], vs => vs = []
  | d :: ds, vs => ∃ v r, vs = v :: r ∧ RelDk μ H d v ∧ RelLk μ H ds r
end
end
abbrev RelD (z : Cz) := RelDk z.K z.n.nm
abbrev RelL (z : Cz) := RelLk z.K z.n.nm
section
variable (z : Cz)
def RelO (μ : List Addr) (H : Hp) : SO → Addr → Prop
  | .lst ds, a => ∃ vs, H a = some (.lst vs) ∧ RelL z μ H ds vs
structure RelS (μ : List Addr) (H : Hp) (S : Store) : Prop where
  nd : μ.Nodup
  len : μ.length = S.length
  inv : z.n.inv μ H
  at_ : ∀ (r : Nat) (a : Addr) (o : SO), μ[r]? = some a → S[r]? = some o → RelO z μ H o a
structure RelE (μ : List Addr) (H : Hp) (σ : L2.St) (ρ : Ev) : Prop where
  len : σ.length = ρ.length
  at_ : ∀ (i : Nat) (d : Da), ρ[i]? = some (some d) → ∃ v, σ[i]? = some (some v) ∧ RelD z μ H d v
def RelF (μ : List Addr) (H : Hp) (fs : List (Str × Da)) (vs : List (Str × V)) : Prop := Paired (fun (p : Str × Da) (q : Str × V) => p.1 = q.1 ∧ RelD z μ H p.2 q.2) fs vs
end
structure Ext (μ : List Addr) (H : Hp) (μ' : List Addr) (H' : Hp) : Prop where
  pre : ∃ ν, μ' = μ ++ ν
  keep : ∀ a o, a ∉ μ → H a = some o → H' a = some o
  new : ∀ a, a ∈ μ' → a ∈ μ ∨ H a = none
theorem Ext.refl {μ : List Addr} {H : Hp} : Ext μ H μ H := ⟨⟨[], by simp⟩, fun _ _ _ h => h, fun _ h => .inl h⟩
theorem Ext.out {μ μ' : List Addr} {H H' : Hp} (e : Ext μ H μ' H') {a : Addr} {o : HO} (h : a ∉ μ) (ha : H a = some o) : a ∉ μ' := fun m => by
  rcases e.new a m with q | q
  · exact h q
  · rw [ha] at q; cases q
theorem Ext.trans {μ μ1 μ2 : List Addr} {H H1 H2 : Hp} (a : Ext μ H μ1 H1) (b : Ext μ1 H1 μ2 H2) : Ext μ H μ2 H2 where
  pre := by
    obtain ⟨x, hx⟩ := a.pre
    obtain ⟨y, hy⟩ := b.pre
    exact ⟨x ++ y, by rw [hy, hx, List.append_assoc]⟩
  keep := fun c o h hc => b.keep c o (a.out h hc) (a.keep c o h hc)
  new := fun c hc => by
    rcases b.new c hc with q | q
    · exact a.new c q
    · by_cases hm : c ∈ μ
      · exact .inl hm
      · cases e : H c with
        | none => exact .inr rfl
        | some o => rw [a.keep c o hm e] at q; cases q
theorem Ext.get {μ μ' : List Addr} {H H' : Hp} (e : Ext μ H μ' H') {r : Nat} {a : Addr} (h : μ[r]? = some a) : μ'[r]? = some a := by
  obtain ⟨ν, rfl⟩ := e.pre
  rw [List.getElem?_append_left (List.getElem?_eq_some_iff.mp h).1]
  exact h
section
variable {z : Cz} {μ μ' : List Addr} {H H' : Hp}
theorem Ext.mon (e : Ext μ H μ' H') : Mon μ H μ' H' := ⟨e.pre, fun a xs n h => ⟨e.out n h, e.keep _ _ n h⟩, fun a o u n h => ⟨e.out n h, e.keep _ _ n h⟩, fun a fs n h => ⟨e.out n h, e.keep _ _ n h⟩⟩
theorem RT.mon (e : Mon μ H μ' H') {a : Addr} {xs : List V} (h : RT z.K μ H a xs) : RT z.K μ' H' a xs := by
  rcases h with ⟨n, h | ⟨o, h⟩⟩ | h
  · obtain ⟨n', h'⟩ := e.tup _ _ n h
    exact .inl ⟨n', .inl h'⟩
  · obtain ⟨n', h'⟩ := e.frz _ _ _ n h
    exact .inl ⟨n', .inr ⟨o, h'⟩⟩
  · exact .inr h
theorem RL.mon (e : Mon μ H μ' H') {a : Addr} {xs : List V} (h : RL z.K μ H a xs) : RL z.K μ' H' a xs := by
  rcases h with ⟨n, o, h⟩ | h
  · obtain ⟨n', h'⟩ := e.frz _ _ _ n h
    exact .inl ⟨n', o, h'⟩
  · exact .inr h
theorem RT.sq {K : PySem.W.Frag} {a : Addr} {xs : List V} (h : RT K μ H a xs) : SqT K H a xs := h.imp (·.2) id
theorem RL.sq {K : PySem.W.Frag} {a : Addr} {xs : List V} (h : RL K μ H a xs) : SqL K H a xs := h.imp (fun q => .inr q.2) id
mutual
theorem RelD.mon (e : Mon μ H μ' H') : ∀ {d : Da} {v : V}, RelD z μ H d v → RelD z μ' H' d v
  | .non, _, h => by simpa only [RelDk] using h
  | .bl _, _, h => by simpa only [RelDk] using h
  | .int _, _, h => by simpa only [RelDk] using h
  | .str _, _, h => by simpa only [RelDk] using h
  | .tup ds, _, h => by
    simp only [RelDk] at h ⊢
    obtain ⟨a, vs, r, t, l⟩ := h
    exact ⟨a, vs, r, t.mon e, RelL.mon e l⟩
  | .fro ds, _, h => by
    simp only [RelDk] at h ⊢
    obtain ⟨a, vs, r, t, l⟩ := h
    exact ⟨a, vs, r, t.mon e, RelL.mon e l⟩
  | .ref r, _, h => by
    simp only [RelDk] at h ⊢
    obtain ⟨a, rfl, h⟩ := h
    obtain ⟨ν, rfl⟩ := e.pre
    exact ⟨a, rfl, by rw [List.getElem?_append_left (List.getElem?_eq_some_iff.mp h).1]; exact h⟩
  | .fn _, _, h => by simpa only [RelDk] using h
  | .ty _, _, h => by simpa only [RelDk] using h
  | .adr _, _, h => by simpa only [RelDk] using h
theorem RelL.mon (e : Mon μ H μ' H') : ∀ {ds : List Da} {vs : List V}, RelL z μ H ds vs → RelL z μ' H' ds vs
  | [], _, h => by simpa only [RelLk] using h
  | d :: ds, _, h => by
    simp only [RelLk] at h ⊢
    obtain ⟨v, r, hv, h1, h2⟩ := h
    exact ⟨v, r, hv, RelD.mon e h1, RelL.mon e h2⟩
end
theorem RelD.ext (e : Ext μ H μ' H') {d : Da} {v : V} (h : RelD z μ H d v) : RelD z μ' H' d v := h.mon e.mon
theorem RelL.ext (e : Ext μ H μ' H') {ds : List Da} {vs : List V} (h : RelL z μ H ds vs) : RelL z μ' H' ds vs := h.mon e.mon
theorem RelE.mon (e : Mon μ H μ' H') {σ : L2.St} {ρ : Ev} (h : RelE z μ H σ ρ) : RelE z μ' H' σ ρ := ⟨h.len, fun i d q => by
  obtain ⟨v, h1, h2⟩ := h.at_ i d q
  exact ⟨v, h1, h2.mon e⟩⟩
theorem RelE.ext (e : Ext μ H μ' H') {σ : L2.St} {ρ : Ev} (h : RelE z μ H σ ρ) : RelE z μ' H' σ ρ := h.mon e.mon
theorem RelF.ext (e : Ext μ H μ' H') : ∀ {fs : List (Str × Da)} {vs : List (Str × V)}, RelF z μ H fs vs → RelF z μ' H' fs vs := fun h =>
  L2.Paired.mapP h fun _ _ q => ⟨q.1, q.2.ext e⟩
theorem RelL.length : ∀ {ds : List Da} {vs : List V}, RelL z μ H ds vs → ds.length = vs.length
  | [], _, h => by simp only [RelLk] at h; subst h; rfl
  | d :: ds, _, h => by
    simp only [RelLk] at h
    obtain ⟨v, r, rfl, _, h2⟩ := h
    simp [RelL.length h2]
theorem RelL.get : ∀ {ds : List Da} {vs : List V} {i : Nat} {d : Da}, RelL z μ H ds vs → ds[i]? = some d → ∃ v, vs[i]? = some v ∧ RelD z μ H d v
  | [], _, _, _, _, h => by simp at h
  | d :: ds, _, i, x, h, q => by
    simp only [RelLk] at h
    obtain ⟨v, r, rfl, h1, h2⟩ := h
    cases i with
    | zero => simp at q; subst q; exact ⟨v, rfl, h1⟩
    | succ i => simpa using RelL.get h2 (by simpa using q)
theorem RelL.app : ∀ {ds es : List Da} {vs ws : List V}, RelL z μ H ds vs → RelL z μ H es ws → RelL z μ H (ds ++ es) (vs ++ ws)
  | [], _, _, _, h, k => by simp only [RelLk] at h; subst h; exact k
  | d :: ds, _, _, _, h, k => by
    simp only [RelLk] at h
    obtain ⟨v, r, rfl, h1, h2⟩ := h
    simp only [List.cons_append, RelLk]
    exact ⟨v, _, rfl, h1, RelL.app h2 k⟩
theorem RelL.one {d : Da} {v : V} (h : RelD z μ H d v) : RelL z μ H [d] [v] := by
  simp only [RelLk]
  exact ⟨v, [], rfl, h, rfl⟩
theorem RelL.of_get : ∀ {ds : List Da} {vs : List V}, ds.length = vs.length → (∀ (i : Nat) (d : Da) (v : V), ds[i]? = some d → vs[i]? = some v → RelD z μ H d v) → RelL z μ H ds vs
  | [], [], _, _ => by simp only [RelLk]
  | [], _ :: _, h, _ => by simp at h
  | _ :: _, [], h, _ => by simp at h
  | d :: ds, v :: vs, h, k => by
    simp only [RelLk]
    exact ⟨v, vs, rfl, k 0 d v rfl rfl, RelL.of_get (by simpa using h) fun i x y hx hy => k (i + 1) x y (by simpa using hx) (by simpa using hy)⟩
theorem RelL.get2 {ds : List Da} {vs : List V} (h : RelL z μ H ds vs) {i : Nat} {d : Da} {v : V} (h1 : ds[i]? = some d) (h2 : vs[i]? = some v) : RelD z μ H d v := by
  obtain ⟨v', e, r⟩ := h.get h1
  rw [h2] at e; cases e
  exact r
theorem RelL.take {ds : List Da} {vs : List V} (h : RelL z μ H ds vs) (n : Nat) : RelL z μ H (ds.take n) (vs.take n) :=
  .of_get (by simp [h.length]) fun i d v h1 h2 => by
    rw [List.getElem?_take] at h1 h2
    split at h1
    · rename_i hi
      rw [if_pos hi] at h2
      exact h.get2 h1 h2
    · cases h1
theorem RelL.drop {ds : List Da} {vs : List V} (h : RelL z μ H ds vs) (n : Nat) : RelL z μ H (ds.drop n) (vs.drop n) :=
  .of_get (by simp [h.length]) fun i d v h1 h2 => by
    rw [List.getElem?_drop] at h1 h2
    exact h.get2 h1 h2
theorem RelL.set {ds : List Da} {vs : List V} (h : RelL z μ H ds vs) (n : Nat) {d : Da} {v : V} (r : RelD z μ H d v) : RelL z μ H (ds.set n d) (vs.set n v) :=
  .of_get (by simp [h.length]) fun i x y h1 h2 => by
    by_cases e : n = i
    · subst e
      rw [List.getElem?_set_self'] at h1 h2
      cases hd : ds[n]? with
      | none => rw [hd] at h1; cases h1
      | some _ =>
        cases hv : vs[n]? with
        | none => rw [hv] at h2; cases h2
        | some _ =>
          rw [hd] at h1; rw [hv] at h2
          cases h1; cases h2
          exact r
    · rw [List.getElem?_set_ne e] at h1 h2
      exact h.get2 h1 h2

section
variable {K : PySem.W.Frag} {nm : Str → Addr}
theorem RelDk.ext (e : Ext μ H μ' H') {d : Da} {v : V} (h : RelDk K nm μ H d v) : RelDk K nm μ' H' d v := RelD.ext (z := ⟨K, nv nm⟩) e h
theorem RelDk.mon (e : Mon μ H μ' H') {d : Da} {v : V} (h : RelDk K nm μ H d v) : RelDk K nm μ' H' d v := RelD.mon (z := ⟨K, nv nm⟩) e h
theorem RelLk.ext (e : Ext μ H μ' H') {d : List Da} {v : List V} (h : RelLk K nm μ H d v) : RelLk K nm μ' H' d v := RelL.ext (z := ⟨K, nv nm⟩) e h
theorem RelLk.mon (e : Mon μ H μ' H') {d : List Da} {v : List V} (h : RelLk K nm μ H d v) : RelLk K nm μ' H' d v := RelL.mon (z := ⟨K, nv nm⟩) e h
theorem RelLk.length {d : List Da} {v : List V} (h : RelLk K nm μ H d v) : d.length = v.length := RelL.length (z := ⟨K, nv nm⟩) h
theorem RelLk.get {ds : List Da} {vs : List V} {i : Nat} {d : Da} (h : RelLk K nm μ H ds vs) (q : ds[i]? = some d) : ∃ v, vs[i]? = some v ∧ RelDk K nm μ H d v := RelL.get (z := ⟨K, nv nm⟩) h q
theorem RelLk.get2 {ds : List Da} {vs : List V} {i : Nat} {d : Da} {v : V} (h : RelLk K nm μ H ds vs) (q : ds[i]? = some d) (q2 : vs[i]? = some v) : RelDk K nm μ H d v := RelL.get2 (z := ⟨K, nv nm⟩) h q q2
end
/-! ### the store's steps -/
/-- a new object that is tracked but no place of the store (a tuple) -/
theorem ext_new (rs : RelS z μ H S) {p : Addr} {o : HO} (hp : H p = none) : Ext μ H μ (upd H p o) where
  pre := ⟨[], by simp⟩
  keep := fun a u _ h => by rw [upd_ne (ne_of_none h hp)]; exact h
  new := fun _ h => .inl h
theorem RelS.mem (rs : RelS z μ H S) {a : Addr} (h : a ∈ μ) : ∃ (r : Nat) (o : SO), μ[r]? = some a ∧ S[r]? = some o ∧ RelO z μ H o a := by
  obtain ⟨r, hr⟩ := List.mem_iff_getElem?.mp h
  have hl : r < S.length := by rw [← rs.len]; exact (List.getElem?_eq_some_iff.mp hr).1
  exact ⟨r, S[r], hr, List.getElem?_eq_getElem hl, rs.at_ r a _ hr (List.getElem?_eq_getElem hl)⟩
theorem RelO.some {o : SO} {a : Addr} (h : RelO z μ H o a) : ∃ u, H a = some u := by
  cases o with
  | lst xs => obtain ⟨vs, e, _⟩ := h; exact ⟨_, e⟩
theorem RelS.not_mem (rs : RelS z μ H S) {p : Addr} (hp : H p = none) : p ∉ μ := fun m => by
  obtain ⟨r, o, _, _, h⟩ := rs.mem m
  obtain ⟨u, e⟩ := h.some
  rw [hp] at e; cases e
theorem RelO.mon {o : SO} {a : Addr} (e : Mon μ H μ' H') (ha : H' a = H a) (h : RelO z μ H o a) : RelO z μ' H' o a := by
  cases o with
  | lst xs =>
    obtain ⟨vs, q, l⟩ := h
    exact ⟨vs, ha.trans q, l.mon e⟩
theorem RelO.ext {o : SO} {a : Addr} (e : Ext μ H μ' H') (ha : H' a = H a) (h : RelO z μ H o a) : RelO z μ' H' o a := h.mon e.mon ha
/-- the store stays where its places stay -/
theorem RelS.mon (rs : RelS z μ H S) (e : Mon μ H μ H') (k : ∀ a ∈ μ, H' a = H a) : RelS z μ H' S :=
  ⟨rs.nd, rs.len, z.n.mono _ _ _ _ e rs.inv, fun r a o h1 h2 => (rs.at_ r a o h1 h2).mon e (k a (List.mem_of_getElem? h1))⟩
theorem RelS.ext (rs : RelS z μ H S) (e : Ext μ H μ H') (k : ∀ a ∈ μ, H' a = H a) : RelS z μ H' S := rs.mon e.mon k
/-- a list beside the store is written -/
theorem mon_list {p : Addr} {xs : List V} {o : HO} (hp : H p = some (.lst xs)) : Mon μ H μ (upd H p o) where
  pre := ⟨[], by simp⟩
  tup := fun a ys n h => ⟨n, by
    have : a ≠ p := fun q => by subst q; rw [hp] at h; cases h
    rw [upd_ne this]; exact h⟩
  frz := fun a u w n h => ⟨n, by
    have : a ≠ p := fun q => by subst q; rw [hp] at h; cases h
    rw [upd_ne this]; exact h⟩
  xd := fun a w n h => ⟨n, by
    have : a ≠ p := fun q => by subst q; rw [hp] at h; cases h
    rw [upd_ne this]; exact h⟩
theorem Ext.over (e : Ext μ H μ' H') {p : Addr} {o : HO} (hp : H p = none) : Ext μ H μ' (upd H' p o) where
  pre := e.pre
  keep := fun a u n h => by rw [upd_ne (ne_of_none h hp)]; exact e.keep a u n h
  new := e.new
theorem RelS.upd_out (rs : RelS z μ H S) {p : Addr} {o : HO} (hp : H p = none) : RelS z μ (upd H p o) S :=
  rs.ext (ext_new rs hp) fun a h => by
    have : a ≠ p := fun q => rs.not_mem hp (q ▸ h)
    rw [upd_ne this]
/-- a new place -/
theorem ext_push (rs : RelS z μ H S) {p : Addr} {o : HO} (hp : H p = none) : Ext μ H (μ ++ [p]) (upd H p o) where
  pre := ⟨[p], rfl⟩
  keep := fun a u _ h => by rw [upd_ne (ne_of_none h hp)]; exact h
  new := fun a h => by
    rcases List.mem_append.mp h with h | h
    · exact .inl h
    · rw [List.mem_singleton.mp h]; exact .inr hp
theorem RelS.push (rs : RelS z μ H S) {p : Addr} {xs : List V} {ds : List Da} (hp : H p = none) (l : RelL z μ H ds xs) : RelS z (μ ++ [p]) (upd H p (.lst xs)) (S ++ [.lst ds]) where
  nd := by
    rw [List.nodup_append]
    refine ⟨rs.nd, by simp, fun a ha b hb q => ?_⟩
    rw [List.mem_singleton] at hb
    subst hb; subst q
    exact rs.not_mem hp ha
  len := by simp [rs.len]
  inv := z.n.mono _ _ _ _ (ext_push rs hp).mon rs.inv
  at_ := fun r a o h1 h2 => by
    have e := ext_push (o := .lst xs) rs hp
    by_cases hr : r < μ.length
    · rw [List.getElem?_append_left hr] at h1
      rw [List.getElem?_append_left (by rw [← rs.len]; exact hr)] at h2
      refine (rs.at_ r a o h1 h2).ext e ?_
      have : a ≠ p := fun q => rs.not_mem hp (q ▸ List.mem_of_getElem? h1)
      rw [upd_ne this]
    · have hr' : μ.length ≤ r := Nat.le_of_not_lt hr
      rw [List.getElem?_append_right hr'] at h1
      rw [List.getElem?_append_right (by rw [← rs.len]; exact hr'), ← rs.len] at h2
      cases hk : r - μ.length with
      | succ k => rw [hk] at h1; simp at h1
      | zero =>
        rw [hk] at h1 h2
        simp at h1 h2
        subst h1; subst h2
        exact ⟨xs, upd_same, l.ext e⟩
theorem push_at (rs : RelS z μ H S) {p : Addr} : (μ ++ [p])[S.length]? = some p := by
  rw [← rs.len]; simp
/-- a place is written -/
theorem ext_set (rs : RelS z μ H S) {p : Addr} {o : HO} (hp : p ∈ μ) : Ext μ H μ (upd H p o) where
  pre := ⟨[], by simp⟩
  keep := fun a u h e => by
    have n : a ≠ p := fun q => h (by rw [q]; exact hp)
    rw [upd_ne n]; exact e
  new := fun _ h => .inl h
theorem RelS.set (rs : RelS z μ H S) {p : Addr} {r : Nat} {xs : List V} {ds : List Da} (hp : μ[r]? = some p) (l : RelL z μ H ds xs) : RelS z μ (upd H p (.lst xs)) (S.set r (.lst ds)) where
  nd := rs.nd
  len := by simp [rs.len]
  inv := z.n.mono _ _ _ _ (ext_set rs (List.mem_of_getElem? hp)).mon rs.inv
  at_ := fun r' a o h1 h2 => by
    have e := ext_set (o := .lst xs) rs (List.mem_of_getElem? hp)
    by_cases hr : r = r'
    · subst hr
      rw [hp] at h1; cases h1
      have hl : r < S.length := by rw [← rs.len]; exact (List.getElem?_eq_some_iff.mp hp).1
      rw [List.getElem?_set_self hl] at h2
      cases h2
      exact ⟨xs, upd_same, l.ext e⟩
    · rw [List.getElem?_set_ne hr] at h2
      refine (rs.at_ r' a o h1 h2).ext e ?_
      have : a ≠ p := fun q => hr (by
        subst q
        obtain ⟨i1, e1⟩ := List.getElem?_eq_some_iff.mp hp
        obtain ⟨i2, e2⟩ := List.getElem?_eq_some_iff.mp h1
        exact (List.getElem_inj rs.nd).mp (e1.trans e2.symm))
      rw [upd_ne this]
end
end M2

/-! Layer M2, part b: what is wanted behind a piece; the judgements; names, constants, operators, tests, calls. -/
namespace M2
open PySem PySem.Spec PyProof.Rows L2

abbrev OpF := Store → Option (Da × Store)
def liftO {α : Type} (g : Store → Option (α × Store)) : M α := fun S => match g S with
  | some (a, S') => .ok a S'
  | none => .bad
def Post {α β : Type} (z : Cz) (R : List Addr → Hp → α → β → Prop) (W : Value → Option Addr → Hp → Prop) (μ : List Addr) (H : Hp) (Q : β → Hp → Prop) : Res α → Prop
  | .ok a S' => ∀ μ' H' b, Ext μ H μ' H' → RelS z μ' H' S' → R μ' H' a b → Q b H'
  | .exc c fs S' => ∀ μ' H' x vs, Ext μ H μ' H' → RelS z μ' H' S' → H' x = some (.xd vs) → x ∉ μ' → RelF z μ' H' fs vs → W (.ref (z.n.nm c)) (some x) H'
  | .bad => False
def POk {α β : Type} (z : Cz) (R : List Addr → Hp → α → β → Prop) (μ : List Addr) (H : Hp) (Q : β → Hp → Prop) : Option (α × Store) → Prop
  | some (a, S') => ∀ μ' H' b, Ext μ H μ' H' → RelS z μ' H' S' → R μ' H' a b → Q b H'
  | none => False
section
variable {z : Cz} {μ μ' : List Addr} {H H' : Hp} {S : Store} {α β γ δ : Type} {R R1 : List Addr → Hp → α → β → Prop} {R2 : List Addr → Hp → γ → δ → Prop} {W : Value → Option Addr → Hp → Prop}
theorem Post.later {Q : β → Hp → Prop} {r : Res α} (e : Ext μ H μ' H') (h : Post z R W μ H Q r) : Post z R W μ' H' Q r := by
  cases r with
  | ok a S' => exact fun μ2 H2 b e2 => h μ2 H2 b (e.trans e2)
  | exc c fs S' => exact fun μ2 H2 x vs e2 => h μ2 H2 x vs (e.trans e2)
  | bad => exact h
theorem post_bind {Q : δ → Hp → Prop} {r : Res α} {g : α → M γ} (R1 : List Addr → Hp → α → β → Prop) (h : Post z R2 W μ H Q (r.thn g)) :
    Post z R1 W μ H (fun b H1 => ∃ μ1 S1 a, Ext μ H μ1 H1 ∧ RelS z μ1 H1 S1 ∧ R1 μ1 H1 a b ∧ Post z R2 W μ1 H1 Q (g a S1)) r := by
  cases r with
  | ok a S' => exact fun μ1 H1 b e rs r1 => ⟨μ1, S', a, e, rs, r1, Post.later e h⟩
  | exc c fs S' => exact h
  | bad => exact h
theorem Post.imp {Q Q' : β → Hp → Prop} {r : Res α} (h : Post z R W μ H Q r) (k : ∀ b H1, Q b H1 → Q' b H1) : Post z R W μ H Q' r := by
  cases r with
  | ok a S' => exact fun μ1 H1 b e rs r1 => k _ _ (h μ1 H1 b e rs r1)
  | exc c fs S' => exact h
  | bad => exact h
theorem Post.pok {Q : β → Hp → Prop} {g : Store → Option (α × Store)} (h : Post z R W μ H Q (liftO g S)) : POk z R μ H Q (g S) := by
  unfold liftO at h
  cases e : g S with
  | none => rw [e] at h; exact h
  | some p => rw [e] at h; exact h
theorem Post.now {Q : β → Hp → Prop} {a : α} {b : β} (h : Post z R W μ H Q (.ok a S)) (rs : RelS z μ H S) (r : R μ H a b) : Q b H := h μ H b .refl rs r
theorem POk.now {Q : β → Hp → Prop} {a : α} {b : β} (h : POk z R μ H Q (some (a, S))) (rs : RelS z μ H S) (r : R μ H a b) : Q b H := h μ H b .refl rs r
/-- a new place -/
theorem POk.push {Q : V → Hp → Prop} {ds : List Da} {xs : List V} (h : POk z (RelD z) μ H Q (some (.ref S.length, S ++ [.lst ds]))) (rs : RelS z μ H S) (l : RelL z μ H ds xs) {p : Addr} (hp : H p = none) : Q (.ref p) (upd H p (.lst xs)) :=
  h _ _ _ (ext_push rs hp) (rs.push hp l) (by simp only [RelDk]; exact ⟨p, rfl, push_at rs⟩)
/-- a new tuple -/
theorem POk.tup {Q : V → Hp → Prop} {ds : List Da} {xs : List V} (h : POk z (RelD z) μ H Q (some (.tup ds, S))) (rs : RelS z μ H S) (l : RelL z μ H ds xs) {p : Addr} (hp : H p = none) : Q (.ref p) (upd H p (.tup xs)) :=
  h _ _ _ (ext_new rs hp) (rs.upd_out hp) (by simp only [RelDk]; exact ⟨p, xs, rfl, .inl ⟨rs.not_mem hp, .inl upd_same⟩, l.ext (ext_new rs hp)⟩)
end

/-! ### the judgements -/
def tM {α β : Type} (z : Cz) (R : List Addr → Hp → α → β → Prop) (W : WX) (f : Ev → M α) : L2.St → Hp → (β → Hp → Prop) → Prop := fun σ H Q =>
  ∃ μ ρ S, RelS z μ H S ∧ RelE z μ H σ ρ ∧ Post z R (fun c d H' => W c d σ H') μ H Q (f ρ S)
abbrev cz (X : Cx) (nm : Nv) : Cz := ⟨X.K, nm⟩
def RelB (μ : List Addr) (H : Hp) (a b : Bool) : Prop := a = b
abbrev ME (X : Cx) (nm : Nv) (W : WX) (e : Expr) (f : Ev → M Da) : Prop := PE X e (tM (cz X nm) (RelD (cz X nm)) W f)
abbrev MT (X : Cx) (nm : Nv) (W : WX) (e : Expr) (f : Ev → M Bool) : Prop := PT X e (tM (cz X nm) RelB W f)
abbrev MW (X : Cx) (nm : Nv) (W : WX) (e : Expr) (f : Ev → M Bool) : Prop := PW X e (tM (cz X nm) RelB W f)
abbrev MA (X : Cx) (nm : Nv) (W : WX) (es : List Expr) (f : Ev → M (List Da)) : Prop := PA X es (tM (cz X nm) (RelL (cz X nm)) W f)

section
variable {X : Cx} {nm : Nv} {W : WX} {e a b c : Expr} {es : List Expr} {pos : Pos} {f fa fb fc : Ev → M Da} {g ga gb : Ev → M Bool} {fs : Ev → M (List Da)}
theorem PE.of {t t' : TE} (h : PE X e t) (k : ∀ σ H Q, t' σ H Q → t σ H Q) : PE X e t' := ⟨fun pins s σ H Q I q => h.run pins s σ H Q I (k σ H Q q)⟩
theorem PT.of {t t' : TT} (h : PT X e t) (k : ∀ σ H Q, t' σ H Q → t σ H Q) : PT X e t' := ⟨fun pins s σ H Q I q => h.run pins s σ H Q I (k σ H Q q)⟩
theorem PW.of {t t' : TT} (h : PW X e t) (k : ∀ σ H Q, t' σ H Q → t σ H Q) : PW X e t' := ⟨fun wh pins s σ H Q I q => h.run wh pins s σ H Q I (k σ H Q q)⟩
theorem PA.of {t t' : TA} (h : PA X es t) (k : ∀ σ H Q, t' σ H Q → t σ H Q) : PA X es t' := ⟨fun pos pins s σ H Q I q => h.run pos pins s σ H Q I (k σ H Q q)⟩

/-! ### names, constants -/
def getV (ρ : Ev) (i : Nat) : M Da := fun S => match ρ[i]? with
  | some (some d) => .ok d S
  | _ => .bad
theorem me_var (i : Nat) {x : Str} (hN : X.N[i]? = some x := by rfl) (hv : Vis X.env.scope x := by first | exact Or.inl rfl | exact Or.inr (Or.inl rfl) | exact Or.inr (Or.inr rfl)) (hd : (x == ("__debug__" : Str)) = false := by decide)
    (hcd : (x == ("__classdict__" : Str)) = false := by decide) : ME X nm W (.Name x pos) (fun ρ => getV ρ i) := PE.of (pe_var (i := i) hN hv hd hcd) fun σ H Q ⟨μ, ρ, S, rs, re, p⟩ => by
  have p : Post (cz X nm) (RelD (cz X nm)) (fun c d H' => W c d σ H') μ H Q (getV ρ i S) := p
  unfold getV at p
  cases q : ρ[i]? with
  | none => rw [q] at p; exact p.elim
  | some o =>
    cases o with
    | none => rw [q] at p; exact p.elim
    | some d =>
      rw [q] at p
      obtain ⟨v, h1, h2⟩ := re.at_ i d q
      exact ⟨v, h1, Post.now p rs h2⟩
theorem me_const {v : V} {d : Da} (h : PE X e (tC v)) (r : ∀ μ H, RelD (cz X nm) μ H d v) : ME X nm W e (fun _ => pure d) := PE.of h fun σ H Q ⟨μ, ρ, S, rs, re, p⟩ => Post.now p rs (r μ H)
theorem me_int {i j} : ME X nm W (.Constant (.int i) j pos) (fun _ => pure (.int i)) := me_const pe_int fun _ _ => by simp only [RelDk]
theorem me_bl {i j} : ME X nm W (.Constant (.bool i) j pos) (fun _ => pure (.bl i)) := me_const pe_bl fun _ _ => by simp only [RelDk]
theorem me_non {j} : ME X nm W (.Constant .none j pos) (fun _ => pure .non) := me_const pe_non fun _ _ => by simp only [RelDk]
theorem me_str {x j} : ME X nm W (.Constant (.str x) j pos) (fun _ => pure (.str x)) := me_const pe_str fun _ _ => by simp only [RelDk]
/-- a module's text, number, def or class -/
theorem me_gstr {x y : Str} (hg : Gl X x) (hm : ∃ t, X.mg x = some (.str y t)) (hd : (x == ("__debug__" : Str)) = false := by decide) : ME X nm W (.Name x pos) (fun _ => pure (.str y)) := by
  obtain ⟨t, hm⟩ := hm
  exact me_const (v := .str y) (pe_glob hg hm ⟨t, rfl⟩ hd) fun _ _ => by simp only [RelDk]
theorem me_gint {x : Str} {i : Int} (hg : Gl X x) (hm : ∃ t, X.mg x = some (.int i t)) (hd : (x == ("__debug__" : Str)) = false := by decide) : ME X nm W (.Name x pos) (fun _ => pure (.int i)) := by
  obtain ⟨t, hm⟩ := hm
  exact me_const (v := .int i) (pe_glob hg hm ⟨t, rfl⟩ hd) fun _ _ => by simp only [RelDk]
theorem me_gfn {x : Str} (hg : Gl X x) (hm : X.mg x = some (.ref (nm.nm x))) (hd : (x == ("__debug__" : Str)) = false := by decide) : ME X nm W (.Name x pos) (fun _ => pure (.fn x)) :=
  me_const (v := .ref (nm.nm x)) (pe_glob hg hm rfl hd) fun _ _ => by simp only [RelDk]

/-! ### operators -/
def rM (z : Cz) (h : Da → Da → OpF) : R2 := fun x y H Q => ∃ μ S d1 d2, RelS z μ H S ∧ RelD z μ H d1 x ∧ RelD z μ H d2 y ∧ POk z (RelD z) μ H Q (h d1 d2 S)
abbrev OpM (X : Cx) (nm : Nv) (op : Value → Value → Sem Value) (h : Da → Da → OpF) : Prop := OpR X op (rM (cz X nm) h)
def op2 (h : Da → Da → OpF) (fa fb : Ev → M Da) : Ev → M Da := fun ρ => fa ρ >>= fun x => fb ρ >>= fun y => liftO (h x y)
theorem op2_run {h : Da → Da → OpF} {σ : L2.St} {H : Hp} {Q : VK} (q : tM (cz X nm) (RelD (cz X nm)) W (op2 h fa fb) σ H Q) : tOp (rM (cz X nm) h) (tM (cz X nm) (RelD (cz X nm)) W fa) (tM (cz X nm) (RelD (cz X nm)) W fb) σ H Q := by
  obtain ⟨μ, ρ, S, rs, re, p⟩ := q
  refine ⟨μ, ρ, S, rs, re, (post_bind (RelD (cz X nm)) p).imp fun x H1 ⟨μ1, S1, d1, e1, rs1, r1, p1⟩ => ?_⟩
  exact ⟨μ1, ρ, S1, rs1, re.ext e1, (post_bind (RelD (cz X nm)) p1).imp fun y H2 ⟨μ2, S2, d2, e2, rs2, r2, p2⟩ => ⟨μ2, S2, d1, d2, rs2, r1.ext e2, r2, p2.pok⟩⟩
theorem me_op {op : Operator} {h : Da → Da → OpF} (ho : OpM X nm (binaryOp op) h) (ha : ME X nm W a fa) (hb : ME X nm W b fb) : ME X nm W (.BinOp a op b pos) (op2 h fa fb) := PE.of (pe_op ho ha hb) fun _ _ _ q => op2_run q
theorem me_cmp {op : CmpOp} {h : Da → Da → OpF} (ho : OpM X nm (compareOp op) h) (ha : ME X nm W a fa) (hb : ME X nm W b fb) (hm : behindInMarks op b = false := by first | exact nomark _ | rfl) : ME X nm W (.Compare a [op] [b] pos) (op2 h fa fb) :=
  PE.of (pe_cmpR ho ha hb hm) fun _ _ _ q => op2_run q
def toB : Da → M Bool
  | .bl b => pure b
  | _ => M.bad
theorem toB_run {z : Cz} {μ : List Addr} {H : Hp} {S : Store} {W : Value → Option Addr → Hp → Prop} {Q : Bool → Hp → Prop} {d : Da} {v : V} (p : Post z RelB W μ H Q (toB d S)) (rs : RelS z μ H S) (r : RelD z μ H d v) : ∃ k, v = .bl k ∧ Q k H := by
  cases d with
  | bl b => simp only [RelDk] at r; exact ⟨b, r, Post.now p rs rfl⟩
  | _ => exact p.elim
def tst (f : Ev → M Da) : Ev → M Bool := fun ρ => f ρ >>= toB
theorem mt_of {t : TE} (ht : PT X e (tTest t)) (k : ∀ σ H Q, tM (cz X nm) (RelD (cz X nm)) W f σ H Q → t σ H Q) : MT X nm W e (tst f) := PT.of ht fun σ H Q ⟨μ, ρ, S, rs, re, p⟩ => by
  refine k σ H _ ⟨μ, ρ, S, rs, re, (post_bind (RelD (cz X nm)) p).imp fun x H1 ⟨μ1, S1, d1, e1, rs1, r1, p1⟩ => ?_⟩
  exact toB_run p1 rs1 r1
theorem mt_cmp {op : CmpOp} {h : Da → Da → OpF} (ho : OpM X nm (compareOp op) h) (ha : ME X nm W a fa) (hb : ME X nm W b fb) (hm : behindInMarks op b = false := by first | exact nomark _ | rfl) : MT X nm W (.Compare a [op] [b] pos) (tst (op2 h fa fb)) :=
  mt_of (pt_cmpR ho ha hb hm) fun _ _ _ q => op2_run q
def chn (h h' : Da → Da → OpF) (fa fb fc : Ev → M Da) : Ev → M Da := fun ρ => fa ρ >>= fun x => fb ρ >>= fun y => liftO (h x y) >>= toB >>= fun k => if k = true then fc ρ >>= fun u => liftO (h' y u) else pure (.bl false)
theorem chn_run {h h' : Da → Da → OpF} {σ : L2.St} {H : Hp} {Q : VK} (q : tM (cz X nm) (RelD (cz X nm)) W (chn h h' fa fb fc) σ H Q) :
    tChain (rM (cz X nm) h) (rM (cz X nm) h') (tM (cz X nm) (RelD (cz X nm)) W fa) (tM (cz X nm) (RelD (cz X nm)) W fb) (tM (cz X nm) (RelD (cz X nm)) W fc) σ H Q := by
  obtain ⟨μ, ρ, S, rs, re, p⟩ := q
  refine ⟨μ, ρ, S, rs, re, (post_bind (RelD (cz X nm)) p).imp fun x H1 ⟨μ1, S1, d1, e1, rs1, r1, p1⟩ => ?_⟩
  refine ⟨μ1, ρ, S1, rs1, re.ext e1, (post_bind (RelD (cz X nm)) p1).imp fun y H2 ⟨μ2, S2, d2, e2, rs2, r2, p2⟩ => ?_⟩
  refine ⟨μ2, S2, d1, d2, rs2, r1.ext e2, r2, ?_⟩
  have p3 : Post (cz X nm) (RelD (cz X nm)) (fun c d H' => W c d σ H') μ2 H2 Q ((liftO (h d1 d2) S2).thn fun d => (toB d >>= fun k => if k = true then fc ρ >>= fun u => liftO (h' d2 u) else pure (.bl false))) := by
    show Post _ _ _ _ _ _ _
    have e : ∀ r : Res Da, ((r.thn toB).thn fun k => if k = true then fc ρ >>= fun u => liftO (h' d2 u) else pure (.bl false)) = r.thn fun d => (toB d >>= fun k => if k = true then fc ρ >>= fun u => liftO (h' d2 u) else pure (.bl false)) := by
      intro r; cases r <;> rfl
    exact (e _) ▸ p2
  refine (post_bind (RelD (cz X nm)) p3).pok |> fun w => ?_
  cases hh : h d1 d2 S2 with
  | none => rw [hh] at w; exact w
  | some o =>
    obtain ⟨d, S3⟩ := o
    rw [hh] at w
    intro μ3 H3 v e3 rs3 r3
    obtain ⟨μ4, S4, d4, e4, rs4, r4, p4⟩ := w μ3 H3 v e3 rs3 r3
    cases d4 with
    | bl k =>
      simp only [RelDk] at r4
      refine ⟨k, r4, ?_⟩
      have p5 : Post (cz X nm) (RelD (cz X nm)) (fun c d H' => W c d σ H') μ4 H3 Q ((if k = true then fc ρ >>= fun u => liftO (h' d2 u) else pure (.bl false)) S4) := p4
      cases k with
      | false => exact Post.now p5 rs4 (by simp only [RelDk])
      | true =>
        refine ⟨μ4, ρ, S4, rs4, (re.ext e1).ext (e2.trans e4), (post_bind (RelD (cz X nm)) p5).imp fun y H6 ⟨μ6, S6, d6, e6, rs6, r6, p6⟩ => ?_⟩
        exact ⟨μ6, S6, d2, d6, rs6, (r2.ext e4).ext e6, r6, p6.pok⟩
    | _ => exact p4.elim
theorem me_chain {op op' : CmpOp} {h h' : Da → Da → OpF} (ho : OpM X nm (compareOp op) h) (ho' : OpM X nm (compareOp op') h') (ha : ME X nm W a fa) (hb : ME X nm W b fb) (hc : ME X nm W c fc) (hm : lastMarks [op, op'] [b, c] = false := by rfl) : ME X nm W (.Compare a [op, op'] [b, c] pos) (chn h h' fa fb fc) :=
  PE.of (pe_chain ho ho' ha hb hc (hm := hm)) fun _ _ _ q => chn_run q
theorem mt_chain {op op' : CmpOp} {h h' : Da → Da → OpF} (ho : OpM X nm (compareOp op) h) (ho' : OpM X nm (compareOp op') h') (ha : ME X nm W a fa) (hb : ME X nm W b fb) (hc : ME X nm W c fc) (hm : lastMarks [op, op'] [b, c] = false := by rfl) : MT X nm W (.Compare a [op, op'] [b, c] pos) (tst (chn h h' fa fb fc)) :=
  mt_of (pt_chain ho ho' ha hb hc (hm := hm)) fun _ _ _ q => chn_run q
/-- an expression that gives True or False, as a test -/
theorem mt_val (h : ME X nm W e f) (he : ∀ whole, isTrue e X.env whole = (do let v ← whole; standAt e.pos; holding [v] (truthy v)) := by intro _; rfl) : MT X nm W e (tst f) := mt_of (pt_val h he) fun _ _ _ q => q
/-! ### and, or, not, if -/
def bAnd (ga gb : Ev → M Bool) : Ev → M Bool := fun ρ => ga ρ >>= fun k => if k = true then gb ρ else pure false
def bOr (ga gb : Ev → M Bool) : Ev → M Bool := fun ρ => ga ρ >>= fun k => if k = true then pure true else gb ρ
def bNot (ga : Ev → M Bool) : Ev → M Bool := fun ρ => ga ρ >>= fun k => pure (!k)
theorem mw_and1 (h : MT X nm W a ga) : MW X nm W (.BoolOp .And [a] pos) ga := pw_and1 h
theorem mw_or1 (h : MT X nm W a ga) : MW X nm W (.BoolOp .Or [a] pos) ga := pw_or1 h
theorem and_run {σ : L2.St} {H : Hp} {Q : Bool → Hp → Prop} (q : tM (cz X nm) RelB W (bAnd ga gb) σ H Q) : tAnd (tM (cz X nm) RelB W ga) (tM (cz X nm) RelB W gb) σ H Q := by
  obtain ⟨μ, ρ, S, rs, re, p⟩ := q
  refine ⟨μ, ρ, S, rs, re, (post_bind RelB p).imp fun k H1 ⟨μ1, S1, k1, e1, rs1, r1, p1⟩ => ?_⟩
  obtain rfl : k1 = k := r1
  cases k1 with
  | true => exact ⟨μ1, ρ, S1, rs1, re.ext e1, p1⟩
  | false => exact Post.now p1 rs1 rfl
theorem or_run {σ : L2.St} {H : Hp} {Q : Bool → Hp → Prop} (q : tM (cz X nm) RelB W (bOr ga gb) σ H Q) : tOr (tM (cz X nm) RelB W ga) (tM (cz X nm) RelB W gb) σ H Q := by
  obtain ⟨μ, ρ, S, rs, re, p⟩ := q
  refine ⟨μ, ρ, S, rs, re, (post_bind RelB p).imp fun k H1 ⟨μ1, S1, k1, e1, rs1, r1, p1⟩ => ?_⟩
  obtain rfl : k1 = k := r1
  cases k1 with
  | false => exact ⟨μ1, ρ, S1, rs1, re.ext e1, p1⟩
  | true => exact Post.now p1 rs1 rfl
theorem mw_and {rest : List Expr} (ha : MT X nm W a ga) (hb : MW X nm W (.BoolOp .And (b :: rest) pos) gb) : MW X nm W (.BoolOp .And (a :: b :: rest) pos) (bAnd ga gb) := PW.of (pw_and ha hb) fun _ _ _ q => and_run q
theorem mw_or {rest : List Expr} (ha : MT X nm W a ga) (hb : MW X nm W (.BoolOp .Or (b :: rest) pos) gb) : MW X nm W (.BoolOp .Or (a :: b :: rest) pos) (bOr ga gb) := PW.of (pw_or ha hb) fun _ _ _ q => or_run q
theorem mt_w (h : MW X nm W e g) : MT X nm W e g := h.pt
theorem mt_not (h : MT X nm W a ga) : MT X nm W (.UnaryOp .Not a pos) (bNot ga) := PT.of (pt_not h) fun σ H Q ⟨μ, ρ, S, rs, re, p⟩ => by
  refine ⟨μ, ρ, S, rs, re, (post_bind RelB p).imp fun k H1 ⟨μ1, S1, k1, e1, rs1, r1, p1⟩ => ?_⟩
  obtain rfl : k1 = k := r1
  exact Post.now p1 rs1 rfl
/-- .. as values -/
def ofB (g : Ev → M Bool) : Ev → M Da := fun ρ => g ρ >>= fun k => pure (.bl k)
def vAnd (fa fb : Ev → M Da) : Ev → M Da := fun ρ => fa ρ >>= toB >>= fun k => if k = true then fb ρ else pure (.bl false)
def vOr (fa fb : Ev → M Da) : Ev → M Da := fun ρ => fa ρ >>= toB >>= fun k => if k = true then pure (.bl true) else fb ρ
def vNot (fa : Ev → M Da) : Ev → M Da := fun ρ => fa ρ >>= toB >>= fun k => pure (.bl (!k))
theorem assoc {α β γ : Type} (r : Res α) (g : α → M β) (h : β → M γ) : (r.thn g).thn h = r.thn fun a => g a >>= h := by cases r <;> rfl
theorem me_one {op} (h : ME X nm W a f) : ME X nm W (.BoolOp op [a] pos) f := pe_one h
theorem me_and {rest : List Expr} (ha : ME X nm W a fa) (hb : ME X nm W (.BoolOp .And (b :: rest) pos) fb) : ME X nm W (.BoolOp .And (a :: b :: rest) pos) (vAnd fa fb) := PE.of (pe_and ha hb) fun σ H Q ⟨μ, ρ, S, rs, re, p⟩ => by
  have p' := p
  simp only [vAnd, bind_ap, assoc] at p'
  refine ⟨μ, ρ, S, rs, re, (post_bind (RelD (cz X nm)) p').imp fun x H1 ⟨μ1, S1, d1, e1, rs1, r1, p1⟩ => ?_⟩
  cases d1 with
  | bl k =>
    simp only [RelDk] at r1
    refine ⟨k, r1, ?_⟩
    cases k with
    | true => exact ⟨μ1, ρ, S1, rs1, re.ext e1, p1⟩
    | false => exact Post.now p1 rs1 (by simp only [RelDk])
  | _ => exact p1.elim
theorem me_or {rest : List Expr} (ha : ME X nm W a fa) (hb : ME X nm W (.BoolOp .Or (b :: rest) pos) fb) : ME X nm W (.BoolOp .Or (a :: b :: rest) pos) (vOr fa fb) := PE.of (pe_or ha hb) fun σ H Q ⟨μ, ρ, S, rs, re, p⟩ => by
  have p' := p
  simp only [vOr, bind_ap, assoc] at p'
  refine ⟨μ, ρ, S, rs, re, (post_bind (RelD (cz X nm)) p').imp fun x H1 ⟨μ1, S1, d1, e1, rs1, r1, p1⟩ => ?_⟩
  cases d1 with
  | bl k =>
    simp only [RelDk] at r1
    refine ⟨k, r1, ?_⟩
    cases k with
    | false => exact ⟨μ1, ρ, S1, rs1, re.ext e1, p1⟩
    | true => exact Post.now p1 rs1 (by simp only [RelDk])
  | _ => exact p1.elim
theorem me_not (ha : ME X nm W a fa) : ME X nm W (.UnaryOp .Not a pos) (vNot fa) := PE.of (pe_not ha) fun σ H Q ⟨μ, ρ, S, rs, re, p⟩ => by
  have p' := p
  simp only [vNot, bind_ap, assoc] at p'
  refine ⟨μ, ρ, S, rs, re, (post_bind (RelD (cz X nm)) p').imp fun x H1 ⟨μ1, S1, d1, e1, rs1, r1, p1⟩ => ?_⟩
  cases d1 with
  | bl k =>
    simp only [RelDk] at r1
    exact ⟨k, r1, Post.now p1 rs1 (by simp only [RelDk])⟩
  | _ => exact p1.elim
def ifE (g : Ev → M Bool) (fa fb : Ev → M Da) : Ev → M Da := fun ρ => g ρ >>= fun k => if k = true then fa ρ else fb ρ
theorem me_if (hc : MT X nm W c g) (ha : ME X nm W a fa) (hb : ME X nm W b fb) : ME X nm W (.IfExp c a b pos) (ifE g fa fb) := PE.of (pe_ifExp hc ha hb) fun σ H Q ⟨μ, ρ, S, rs, re, p⟩ => by
  refine ⟨μ, ρ, S, rs, re, (post_bind RelB p).imp fun k H1 ⟨μ1, S1, k1, e1, rs1, r1, p1⟩ => ?_⟩
  obtain rfl : k1 = k := r1
  cases k1 with
  | true => exact ⟨μ1, ρ, S1, rs1, re.ext e1, p1⟩
  | false => exact ⟨μ1, ρ, S1, rs1, re.ext e1, p1⟩
/-! ### argument lists, displays -/
def nilA : Ev → M (List Da) := fun _ => pure []
def consA (f : Ev → M Da) (fs : Ev → M (List Da)) : Ev → M (List Da) := fun ρ => f ρ >>= fun x => fs ρ >>= fun xs => pure (x :: xs)
theorem ma_nil : MA X nm W [] nilA := PA.of pa_nil fun σ H Q ⟨μ, ρ, S, rs, re, p⟩ => Post.now p rs (by simp only [RelLk])
theorem ma_cons (ha : ME X nm W e f) (hr : MA X nm W es fs) (hs : starEach (e :: es) X.env = (false, eval e X.env) :: starEach es X.env := by rfl) : MA X nm W (e :: es) (consA f fs) := PA.of (pa_cons ha hr hs) fun σ H Q ⟨μ, ρ, S, rs, re, p⟩ => by
  refine ⟨μ, ρ, S, rs, re, (post_bind (RelD (cz X nm)) p).imp fun x H1 ⟨μ1, S1, d1, e1, rs1, r1, p1⟩ => ?_⟩
  refine ⟨μ1, ρ, S1, rs1, re.ext e1, (post_bind (RelL (cz X nm)) p1).imp fun xs H2 ⟨μ2, S2, ds, e2, rs2, r2, p2⟩ => ?_⟩
  exact Post.now p2 rs2 (by simp only [RelLk]; exact ⟨x, xs, rfl, r1.ext e2, r2⟩)
def mkTup (ds : List Da) : OpF := fun S => if ds.length ≤ sizeLine then some (.tup ds, S) else none
def mkLst (ds : List Da) : OpF := fun S => if ds.length ≤ sizeLine then some (.ref S.length, S ++ [.lst ds]) else none
def tupE (fs : Ev → M (List Da)) : Ev → M Da := fun ρ => fs ρ >>= fun ds => liftO (mkTup ds)
def lstE (fs : Ev → M (List Da)) : Ev → M Da := fun ρ => fs ρ >>= fun ds => liftO (mkLst ds)
theorem me_tup {x1} (h : MA X nm W es fs) : ME X nm W (.Tuple es x1 pos) (tupE fs) := PE.of (pe_tup h) fun σ H Q ⟨μ, ρ, S, rs, re, p⟩ => by
  refine ⟨μ, ρ, S, rs, re, (post_bind (RelL (cz X nm)) p).imp fun xs H1 ⟨μ1, S1, ds, e1, rs1, r1, p1⟩ => ?_⟩
  have p2 := p1.pok
  unfold mkTup at p2
  split at p2
  · rename_i hl
    exact ⟨by rw [← r1.length]; exact hl, fun q hq => p2.tup rs1 r1 hq⟩
  · exact p2.elim
theorem me_lst (h : MA X nm W es fs) : ME X nm W (.List es pos) (lstE fs) := PE.of (pe_lst h) fun σ H Q ⟨μ, ρ, S, rs, re, p⟩ => by
  refine ⟨μ, ρ, S, rs, re, (post_bind (RelL (cz X nm)) p).imp fun xs H1 ⟨μ1, S1, ds, e1, rs1, r1, p1⟩ => ?_⟩
  have p2 := p1.pok
  unfold mkLst at p2
  split at p2
  · rename_i hl
    exact ⟨by rw [← r1.length]; exact hl, fun q hq => p2.push rs1 r1 hq⟩
  · exact p2.elim
/-! ### calls -/
/-- built-in functions and types -/
def rMc (z : Cz) (h : List Da → OpF) : List V → Hp → VK → Prop := fun xs H Q => ∃ μ S ds, RelS z μ H S ∧ RelL z μ H ds xs ∧ POk z (RelD z) μ H Q (h ds S)
abbrev CallM (X : Cx) (nm : Nv) (f : Value) (h : List Da → OpF) : Prop := CallR X f (rMc (cz X nm) h)
def callE (fs : Ev → M (List Da)) (h : List Da → OpF) : Ev → M Da := fun ρ => fs ρ >>= fun ds => liftO (h ds)
theorem callE_run {h : List Da → OpF} {σ : L2.St} {H : Hp} {Q : VK} (q : tM (cz X nm) (RelD (cz X nm)) W (callE fs h) σ H Q) : tCB (rMc (cz X nm) h) (tM (cz X nm) (RelL (cz X nm)) W fs) σ H Q := by
  obtain ⟨μ, ρ, S, rs, re, p⟩ := q
  refine ⟨μ, ρ, S, rs, re, (post_bind (RelL (cz X nm)) p).imp fun xs H1 ⟨μ1, S1, ds, e1, rs1, r1, p1⟩ => ⟨μ1, S1, ds, rs1, r1, p1.pok⟩⟩
theorem me_callB {x : Str} {p : Pos} {id : String} {h : List Da → OpF} (hc : CallM X nm (.builtin id) h) (hg : Gl X x) (hm : X.mg x = none) (hv : bootBuiltins x = some (.builtin id)) (ha : MA X nm W (e :: es) fs) (hn : x ≠ "__name__" := by decide) (hdb : (x == ("__debug__" : Str)) = false := by decide)
    (he : starEach (e :: es) X.env = (false, eval e X.env) :: starEach es X.env := by rfl) (hpl : (backTo pos (starEach es X.env)).any (·.1) = false := by rfl) : ME X nm W (.Call (.Name x p) (e :: es) [] pos) (callE fs h) :=
  PE.of (pe_callB hc hg hm hv ha hn hdb he hpl) fun _ _ _ q => callE_run q
theorem me_callTy {x : Str} {p : Pos} {T : String} {h : List Da → OpF} (hc : CallM X nm (.type T) h) (hg : Gl X x) (hm : X.mg x = none) (hv : bootBuiltins x = some (.type T)) (ha : MA X nm W (e :: es) fs) (hn : x ≠ "__name__" := by decide) (hdb : (x == ("__debug__" : Str)) = false := by decide)
    (he : starEach (e :: es) X.env = (false, eval e X.env) :: starEach es X.env := by rfl) (hpl : (backTo pos (starEach es X.env)).any (·.1) = false := by rfl) : ME X nm W (.Call (.Name x p) (e :: es) [] pos) (callE fs h) :=
  PE.of (pe_callTy hc hg hm hv ha hn hdb he hpl) fun _ _ _ q => callE_run q
end
end M2

/-! Layer M2, part c: statements, targets, what is walked, loops, comprehensions, defs and their calls. -/
namespace M2
open PySem PySem.Spec PyProof.Rows L2

def PostS (z : Cz) (W : WX) (μ : List Addr) (H : Hp) (En : Ends) : SR → Prop
  | .nx ρ' S' => ∀ μ' H' σ', Ext μ H μ' H' → RelS z μ' H' S' → RelE z μ' H' σ' ρ' → En.nx σ' H'
  | .bk ρ' S' => ∀ μ' H' σ', Ext μ H μ' H' → RelS z μ' H' S' → RelE z μ' H' σ' ρ' → En.bk σ' H'
  | .ct ρ' S' => ∀ μ' H' σ', Ext μ H μ' H' → RelS z μ' H' S' → RelE z μ' H' σ' ρ' → En.ct σ' H'
  | .rt d S' => ∀ μ' H' v, Ext μ H μ' H' → RelS z μ' H' S' → RelD z μ' H' d v → En.rt v H'
  | .exc c fs ρ' S' => ∀ μ' H' σ' x vs, Ext μ H μ' H' → RelS z μ' H' S' → RelE z μ' H' σ' ρ' → H' x = some (.xd vs) → x ∉ μ' → RelF z μ' H' fs vs → W (.ref (z.n.nm c)) (some x) σ' H'
  | .bad => False
def evS {α : Type} (f : Ev → M α) (k : α → FS) : FS := fun ρ S => match f ρ S with
  | .ok a S' => k a ρ S'
  | .exc c fs S' => .exc c fs ρ S'
  | .bad => .bad
section
variable {z : Cz} {μ μ' : List Addr} {H H' : Hp} {S : Store} {α β : Type} {W : WX} {En : Ends} {σ : L2.St} {ρ : Ev}
theorem PostS.later {r : SR} (e : Ext μ H μ' H') (h : PostS z W μ H En r) : PostS z W μ' H' En r := by
  cases r with
  | nx ρ' S' => exact fun μ2 H2 σ' e2 => h μ2 H2 σ' (e.trans e2)
  | bk ρ' S' => exact fun μ2 H2 σ' e2 => h μ2 H2 σ' (e.trans e2)
  | ct ρ' S' => exact fun μ2 H2 σ' e2 => h μ2 H2 σ' (e.trans e2)
  | rt d S' => exact fun μ2 H2 v e2 => h μ2 H2 v (e.trans e2)
  | exc c fs ρ' S' => exact fun μ2 H2 σ' x vs e2 => h μ2 H2 σ' x vs (e.trans e2)
  | bad => exact h
theorem posts_ev {f : Ev → M α} {k : α → FS} (R : List Addr → Hp → α → β → Prop) (re : RelE z μ H σ ρ) (h : PostS z W μ H En (evS f k ρ S)) :
    Post z R (fun c d H' => W c d σ H') μ H (fun b H1 => ∃ μ1 S1 a, Ext μ H μ1 H1 ∧ RelS z μ1 H1 S1 ∧ R μ1 H1 a b ∧ PostS z W μ1 H1 En (k a ρ S1)) (f ρ S) := by
  unfold evS at h
  cases e : f ρ S with
  | ok a S' =>
    rw [e] at h
    exact fun μ1 H1 b e1 rs r1 => ⟨μ1, S', a, e1, rs, r1, h.later e1⟩
  | exc c fs S' =>
    rw [e] at h
    exact fun μ1 H1 x vs e1 rs hx nx rf => h μ1 H1 σ x vs e1 rs (re.ext e1) hx nx rf
  | bad => rw [e] at h; exact h
theorem PostS.now {En : Ends} (h : PostS z W μ H En (.nx ρ S)) (rs : RelS z μ H S) (re : RelE z μ H σ ρ) : En.nx σ H := h μ H σ .refl rs re
theorem RelE.set (re : RelE z μ H σ ρ) (i : Nat) {d : Da} {v : V} (r : RelD z μ H d v) : RelE z μ H (σ.set i (some v)) (ρ.set i (some d)) where
  len := by simp [re.len]
  at_ := fun j x h => by
    by_cases e : i = j
    · subst e
      by_cases hl : i < ρ.length
      · rw [List.getElem?_set_self hl] at h
        cases h
        exact ⟨v, List.getElem?_set_self (by rw [re.len]; exact hl), r⟩
      · rw [List.getElem?_eq_none (by simpa using hl)] at h; cases h
    · rw [List.getElem?_set_ne e] at h ⊢
      exact re.at_ j x h
theorem RelE.unset (re : RelE z μ H σ ρ) (i : Nat) (o : Option V) : RelE z μ H (σ.set i o) (ρ.set i none) where
  len := by simp [re.len]
  at_ := fun j x h => by
    by_cases e : i = j
    · subst e
      by_cases hl : i < ρ.length
      · rw [List.getElem?_set_self hl] at h; cases h
      · rw [List.getElem?_eq_none (by simpa using hl)] at h; cases h
    · rw [List.getElem?_set_ne e] at h ⊢
      exact re.at_ j x h
end
def tS (z : Cz) (W : WX) (f : FS) : TS := fun En σ H => ∃ μ ρ S, RelS z μ H S ∧ RelE z μ H σ ρ ∧ PostS z W μ H En (f ρ S)
abbrev MS (X : Cx) (nm : Nv) (W : WX) (st : Stmt) (f : FS) : Prop := PS X st (tS (cz X nm) W f)
abbrev MSs (X : Cx) (nm : Nv) (W : WX) (st : List Stmt) (f : FS) : Prop := PSs X st (tS (cz X nm) W f)
/-- targets -/
abbrev FG := Da → Ev → Store → Option (Ev × Store)
def PostG (z : Cz) (vs : List Nat) (σ : L2.St) (μ : List Addr) (H : Hp) (Q : L2.St → Hp → Prop) : Option (Ev × Store) → Prop
  | some (ρ', S') => ∀ μ' H' σ', Ext μ H μ' H' → RelS z μ' H' S' → RelE z μ' H' σ' ρ' → wipe σ' vs = wipe σ vs → Q σ' H'
  | none => False
def tG (z : Cz) (vs : List Nat) (g : FG) : TG := fun v σ H Q => ∃ μ ρ S d, RelS z μ H S ∧ RelE z μ H σ ρ ∧ RelD z μ H d v ∧ PostG z vs σ μ H Q (g d ρ S)
abbrev MG (X : Cx) (nm : Nv) (vs : List Nat) (tg : Expr) (g : FG) : Prop := PG X tg (tG (cz X nm) vs g)
abbrev FGs := List Da → Ev → Store → Option (Ev × Store)
def tGs (z : Cz) (vs : List Nat) (g : FGs) : TGs := fun xs σ H Q => ∃ μ ρ S ds, RelS z μ H S ∧ RelE z μ H σ ρ ∧ RelL z μ H ds xs ∧ PostG z vs σ μ H Q (g ds ρ S)
abbrev MGs (X : Cx) (nm : Nv) (vs : List Nat) (tg : List Expr) (g : FGs) : Prop := PGs X tg (tGs (cz X nm) vs g)
theorem wipe_set {σ : L2.St} {i : Nat} {o : Option V} : ∀ {vs : List Nat}, i ∈ vs → wipe (σ.set i o) vs = wipe σ vs := fun {vs} h => by
  apply List.ext_getElem?
  intro j
  have key : ∀ (ws : List Nat) (τ : L2.St), (wipe τ ws)[j]? = if j ∈ ws then (if j < τ.length then some none else none) else τ[j]? := by
    intro ws
    induction ws with
    | nil => intro τ; simp [wipe]
    | cons w ws ih =>
      intro τ
      unfold wipe
      by_cases e : w = j
      · subst e
        rw [if_pos (List.mem_cons_self ..)]
        by_cases hl : w < τ.length
        · rw [List.getElem?_set_self (by rw [wipe_length]; exact hl), if_pos hl]
        · rw [List.getElem?_eq_none (by rw [List.length_set, wipe_length]; omega), if_neg hl]
      · rw [List.getElem?_set_ne e, ih]
        by_cases hm : j ∈ ws
        · rw [if_pos hm, if_pos (List.mem_cons_of_mem _ hm)]
        · rw [if_neg hm, if_neg (by simp only [List.mem_cons, not_or]; exact ⟨fun q => e q.symm, hm⟩)]
  rw [key, key]
  by_cases hm : j ∈ vs
  · rw [if_pos hm, if_pos hm, List.length_set]
  · rw [if_neg hm, if_neg hm]
    have : i ≠ j := fun q => hm (q ▸ h)
    rw [List.getElem?_set_ne this]
theorem wipe_wipe {σ : L2.St} {vs : List Nat} : wipe (wipe σ vs) vs = wipe σ vs := by
  have key : ∀ (ws : List Nat), (∀ w ∈ ws, w ∈ vs) → wipe (wipe σ ws) vs = wipe σ vs := by
    intro ws
    induction ws with
    | nil => intro _; rfl
    | cons w ws ih =>
      intro h
      show wipe ((wipe σ ws).set w none) vs = wipe σ vs
      rw [wipe_set (h w (List.mem_cons_self ..))]
      exact ih fun x hx => h x (List.mem_cons_of_mem _ hx)
  exact key vs fun _ h => h
def wipeR (ρ : Ev) : List Nat → Ev
  | [] => ρ
  | v :: vs => (wipeR ρ vs).set v none
theorem RelE.wipe {z : Cz} {μ : List Addr} {H : Hp} {σ : L2.St} {ρ : Ev} (re : RelE z μ H σ ρ) : ∀ vs : List Nat, RelE z μ H (L2.wipe σ vs) (wipeR ρ vs)
  | [] => re
  | v :: vs => (RelE.wipe re vs).unset v none

section
variable {X : Cx} {nm : Nv} {W : WX} {st : Stmt} {sts rest : List Stmt} {e tg c : Expr} {pos : Pos} {f : Ev → M Da} {fS fS' : FS} {g : FG} {vs : List Nat}
theorem PS.of {t t' : TS} (h : PS X st t) (k : ∀ En σ H, t' En σ H → t En σ H) : PS X st t' := ⟨fun pins s σ H En I q => h.run pins s σ H En I (k En σ H q)⟩
theorem PSs.of {t t' : TS} (h : PSs X sts t) (k : ∀ En σ H, t' En σ H → t En σ H) : PSs X sts t' := ⟨fun pins s σ H En I q => h.run pins s σ H En I (k En σ H q)⟩
theorem PG.of {t t' : TG} (h : PG X tg t) (k : ∀ v σ H Q, t' v σ H Q → t v σ H Q) : PG X tg t' := ⟨fun pins s σ H v u Q I r q => h.run pins s σ H v u Q I r (k v σ H Q q)⟩
theorem PGs.of {es : List Expr} {t t' : TGs} (h : PGs X es t) (k : ∀ v σ H Q, t' v σ H Q → t v σ H Q) : PGs X es t' := ⟨fun pins s σ H v u Q I r q => h.run pins s σ H v u Q I r (k v σ H Q q)⟩
/-! ### blocks -/
def nilS : FS := fun ρ S => .nx ρ S
def seqS (f g : FS) : FS := fun ρ S => match f ρ S with
  | .nx ρ' S' => g ρ' S'
  | r => r
theorem mss_nil : MSs X nm W [] nilS := PSs.of pss_nil fun En σ H ⟨μ, ρ, S, rs, re, p⟩ => PostS.now p rs re
theorem mss_cons (h1 : MS X nm W st fS) (h2 : MSs X nm W rest fS') : MSs X nm W (st :: rest) (seqS fS fS') := PSs.of (pss_cons h1 h2) fun En σ H ⟨μ, ρ, S, rs, re, p⟩ => by
  refine ⟨μ, ρ, S, rs, re, ?_⟩
  unfold seqS at p
  cases hr : fS ρ S with
  | nx ρ' S' =>
    rw [hr] at p
    exact fun μ' H' σ' e1 rs1 re1 => ⟨μ', ρ', S', rs1, re1, p.later e1⟩
  | _ => rw [hr] at p; exact p
theorem mss_one (h1 : MS X nm W st fS) : MSs X nm W [st] fS := pss_one h1
theorem ms_pass : MS X nm W (.Pass pos) nilS := PS.of ps_pass fun En σ H ⟨μ, ρ, S, rs, re, p⟩ => PostS.now p rs re
theorem ms_break : MS X nm W (.Break pos) (fun ρ S => .bk ρ S) := PS.of ps_break fun En σ H ⟨μ, ρ, S, rs, re, p⟩ => p μ H σ .refl rs re
theorem ms_continue : MS X nm W (.Continue pos) (fun ρ S => .ct ρ S) := PS.of ps_continue fun En σ H ⟨μ, ρ, S, rs, re, p⟩ => p μ H σ .refl rs re
def dropS (f : Ev → M Da) : FS := evS f fun _ ρ S => .nx ρ S
theorem ms_expr (h : ME X nm W e f) (hs : swapsWith e none pos.line X.env = pure false := by rfl) : MS X nm W (.Expr e pos) (dropS f) := PS.of (ps_expr h hs) fun En σ H ⟨μ, ρ, S, rs, re, p⟩ =>
  ⟨μ, ρ, S, rs, re, (posts_ev (RelD (cz X nm)) re p).imp fun v H1 ⟨μ1, S1, d, e1, rs1, r1, p1⟩ => PostS.now p1 rs1 (re.ext e1)⟩
def retS (f : Ev → M Da) : FS := evS f fun d _ S => .rt d S
theorem ms_ret (h : ME X nm W e f) : MS X nm W (.Return (some e) pos) (retS f) := PS.of (ps_ret h) fun En σ H ⟨μ, ρ, S, rs, re, p⟩ =>
  ⟨μ, ρ, S, rs, re, (posts_ev (RelD (cz X nm)) re p).imp fun v H1 ⟨μ1, S1, d, e1, rs1, r1, p1⟩ => p1 μ1 H1 v .refl rs1 r1⟩
theorem ms_retN : MS X nm W (.Return none pos) (fun _ S => .rt .non S) := PS.of ps_retN fun En σ H ⟨μ, ρ, S, rs, re, p⟩ => p μ H .non .refl rs (by simp only [RelDk])
def iteS (g : Ev → M Bool) (f f' : FS) : FS := evS g fun k => if k = true then f else f'
theorem ms_if {gc : Ev → M Bool} {A B : List Stmt} (hc : MT X nm W c gc) (ha : MSs X nm W A fS) (hb : MSs X nm W B fS') : MS X nm W (.If c A B pos) (iteS gc fS fS') := PS.of (ps_if hc ha hb) fun En σ H ⟨μ, ρ, S, rs, re, p⟩ => by
  refine ⟨μ, ρ, S, rs, re, (posts_ev RelB re p).imp fun k H1 ⟨μ1, S1, k1, e1, rs1, r1, p1⟩ => ?_⟩
  obtain rfl : k1 = k := r1
  cases k1 with
  | true => exact ⟨μ1, ρ, S1, rs1, re.ext e1, p1⟩
  | false => exact ⟨μ1, ρ, S1, rs1, re.ext e1, p1⟩
/-! ### targets, assignments -/
def gSet (i : Nat) : FG := fun d ρ S => some (ρ.set i (some d), S)
theorem mg_name (i : Nat) {x : Str} (hN : X.N.Nodup) (hi : X.N[i]? = some x) (hx : Loc X.env.scope x) (hv : i ∈ vs) (hf : X.fn x = true ∨ X.env.scope.names.lookup x = some .local := by first | exact .inl rfl | exact .inr rfl | assumption) : MG X nm vs (.Name x pos) (gSet i) :=
  PG.of (pg_name (i := i) hN hi hx hf) fun v σ H Q ⟨μ, ρ, S, d, rs, re, rd, p⟩ => p μ H _ .refl rs (re.set i rd) (wipe_set hv)
def gNilF : FGs := fun ds ρ S => match ds with
  | [] => some (ρ, S)
  | _ :: _ => none
def gConsF (g : FG) (gs : FGs) : FGs := fun ds ρ S => match ds with
  | [] => none
  | d :: r => match g d ρ S with
    | some (ρ', S') => gs r ρ' S'
    | none => none
theorem mgs_nil : MGs X nm vs [] gNilF := PGs.of pgs_nil fun v σ H Q ⟨μ, ρ, S, ds, rs, re, rd, p⟩ => by
  cases ds with
  | nil => simp only [RelLk] at rd; exact ⟨rd, p μ H _ .refl rs re rfl⟩
  | cons d r => exact p.elim
theorem mgs_cons {es : List Expr} {gs : FGs} (h1 : MG X nm vs e g) (h2 : MGs X nm vs es gs) (hs : (assignEach (e :: es) X.env).map (·.2) = assign e X.env :: (assignEach es X.env).map (·.2) := by rfl) : MGs X nm vs (e :: es) (gConsF g gs) :=
  PGs.of (pgs_cons h1 h2 hs) fun v σ H Q ⟨μ, ρ, S, ds, rs, re, rd, p⟩ => by
    cases ds with
    | nil => exact p.elim
    | cons d r =>
      simp only [RelLk] at rd
      obtain ⟨y, ys, rfl, r1, r2⟩ := rd
      refine ⟨y, ys, rfl, μ, ρ, S, d, rs, re, r1, ?_⟩
      unfold gConsF at p
      dsimp only at p
      cases hg : g d ρ S with
      | none => rw [hg] at p; exact p.elim
      | some o =>
        obtain ⟨ρ', S'⟩ := o
        rw [hg] at p
        intro μ1 H1 σ1 e1 rs1 re1 w1
        refine ⟨μ1, ρ', S', r, rs1, re1, r2.ext e1, ?_⟩
        dsimp only at p
        cases hg2 : gs r ρ' S' with
        | none => rw [hg2] at p; exact p.elim
        | some o2 =>
          obtain ⟨ρ2, S2⟩ := o2
          rw [hg2] at p
          exact fun μ2 H2 σ2 e2 rs2 re2 w2 => p μ2 H2 σ2 (e1.trans e2) rs2 re2 (w2.trans w1)
def gTupF (n : Nat) (gs : FGs) : FG := fun d ρ S => match d with
  | .tup ds => if ds.length = n then gs ds ρ S else none
  | _ => none
theorem mg_tup {es : List Expr} {k n : Nat} {gs : FGs} (hc : X.calm = true) (h : MGs X nm vs es gs) (hn : (assignEach es X.env).length = n := by rfl) (hst : (assignEach es X.env).findIdx? (·.1) = none := by rfl) : MG X nm vs (.Tuple es k pos) (gTupF n gs) :=
  PG.of (pg_tup hc h hn hst) fun v σ H Q ⟨μ, ρ, S, d, rs, re, rd, p⟩ => by
    cases d with
    | tup ds =>
      simp only [RelDk] at rd
      obtain ⟨a, xs, rfl, rt, rl⟩ := rd
      unfold gTupF at p
      dsimp only at p
      split at p
      · rename_i hl
        exact ⟨a, xs, rfl, rt.sq, rl.length.symm.trans hl, μ, ρ, S, ds, rs, re, rl, p⟩
      · exact p.elim
    | _ => exact p.elim
def asgS (f : Ev → M Da) (g : FG) : FS := evS f fun d ρ S => match g d ρ S with
  | some (ρ', S') => .nx ρ' S'
  | none => .bad
theorem asg_run {En : Ends} {σ : L2.St} {H : Hp} (q : tS (cz X nm) W (asgS f g) En σ H) : tAsg (tM (cz X nm) (RelD (cz X nm)) W f) (tG (cz X nm) vs g) En σ H := by
  obtain ⟨μ, ρ, S, rs, re, p⟩ := q
  refine ⟨μ, ρ, S, rs, re, (posts_ev (RelD (cz X nm)) re p).imp fun v H1 ⟨μ1, S1, d, e1, rs1, r1, p1⟩ => ?_⟩
  refine ⟨μ1, ρ, S1, d, rs1, re.ext e1, r1, ?_⟩
  cases hg : g d ρ S1 with
  | none => rw [hg] at p1; exact p1.elim
  | some o =>
    obtain ⟨ρ', S'⟩ := o
    rw [hg] at p1
    exact fun μ2 H2 σ2 e2 rs2 re2 _ => p1 μ2 H2 σ2 e2 rs2 re2
theorem ms_asg (he : ME X nm W e f) (hg : MG X nm vs tg g) (hs : swapsWithSole [tg] e pos.line X.env = pure false := by rfl) (hw : swappedStores [tg] e X.env = pure none := by rfl)
    (h1 : (assignEach [tg] X.env).map (·.2) = [assign tg X.env] := by rfl) : MS X nm W (.Assign [tg] e pos) (asgS f g) := PS.of (ps_asg he hg hs hw h1) fun En σ H q => asg_run q
def setS (i : Nat) (f : Ev → M Da) : FS := asgS f (gSet i)
theorem set_run {i : Nat} {En : Ends} {σ : L2.St} {H : Hp} {te : TE} (k : ∀ Q, tM (cz X nm) (RelD (cz X nm)) W f σ H Q → te σ H Q) (q : tS (cz X nm) W (setS i f) En σ H) : tAsg te (gName i) En σ H := by
  obtain ⟨μ, ρ, S, rs, re, p⟩ := q
  have p' : PostS (cz X nm) W μ H En (evS f (fun d ρ S => .nx (ρ.set i (some d)) S) ρ S) := p
  exact k _ ⟨μ, ρ, S, rs, re, (posts_ev (RelD (cz X nm)) re p').imp fun v H1 ⟨μ1, S1, d, e1, rs1, r1, p1⟩ => p1 μ1 H1 _ .refl rs1 ((re.ext e1).set i r1)⟩
theorem ms_set (i : Nat) {x : Str} {pos' : Pos} (hN : X.N.Nodup) (hi : X.N[i]? = some x) (hx : Loc X.env.scope x) (he : ME X nm W e f) (hs : swapsWith e (some (.Name x pos')) pos.line X.env = pure false := by rfl) (hf : X.fn x = true ∨ X.env.scope.names.lookup x = some .local := by first | exact .inl rfl | exact .inr rfl | assumption) :
    MS X nm W (.Assign [.Name x pos'] e pos) (setS i f) := PS.of (ps_set hN hi hx he hs hf) fun En σ H q => set_run (fun _ k => k) q
/-- a list's item is written -/
def setLst (o i d : Da) (S : Store) : Option Store := match o, i with
  | .ref r, .int k => match S[r]? with
    | some (.lst xs) => match ixN xs.length k with
      | some j => some (S.set r (.lst (xs.set j d)))
      | none => none
    | _ => none
  | _, _ => none
def gSubF (fo fi : Ev → M Da) : FG := fun d ρ S => match fo ρ S with
  | .ok o S1 => match fi ρ S1 with
    | .ok i S2 => (setLst o i d S2).map fun S3 => (ρ, S3)
    | _ => none
  | _ => none
theorem mg_sub {o i : Expr} {fo fi : Ev → M Da} (ho : ME X nm W o fo) (hi : ME X nm W i fi) (ha : ∀ v, assign (.Subscript o i pos) X.env v = (do
      let ov ← holding [v] (eval o X.env)
      let iv ← holding [v, ov] (eval i X.env)
      standAt pos
      holding [v, ov, iv] (setItem ov iv v)
      release [v, ov, iv] []) := by intro _; rfl) : MG X nm vs (.Subscript o i pos) (gSubF fo fi) := PG.of (pg_sub ho hi set_list ha) fun v σ H Q ⟨μ, ρ, S, d, rs, re, rd, p⟩ => by
  refine ⟨μ, ρ, S, rs, re, ?_⟩
  unfold gSubF at p
  cases h1 : fo ρ S with
  | ok ov S1 =>
    rw [h1] at p
    dsimp only at p
    intro μ1 H1 x1 e1 rs1 r1
    refine ⟨μ1, ρ, S1, rs1, re.ext e1, ?_⟩
    cases h2 : fi ρ S1 with
    | ok iv S2 =>
      rw [h2] at p
      dsimp only at p
      intro μ2 H2 x2 e2 rs2 r2
      unfold setLst at p
      cases ov with
      | ref r =>
        cases iv with
        | int k =>
          dsimp only at p
          have r1' := r1.ext e2
          simp only [RelDk] at r1' r2
          obtain ⟨a, rfl, ha⟩ := r1'
          cases hS : S2[r]? with
          | none => rw [hS] at p; exact p.elim
          | some o' =>
            cases o' with
            | lst xs =>
              rw [hS] at p
              dsimp only at p
              obtain ⟨ws, hH, rl⟩ := rs2.at_ r a _ ha hS
              cases hk : ixN xs.length k with
              | none => rw [hk] at p; exact p.elim
              | some j =>
                rw [hk] at p
                have rl2 := rl.set j (rd.ext (e1.trans e2))
                refine ⟨a, ws, k, j, rfl, r2, hH, by rw [← rl.length]; exact hk, ?_⟩
                have ex := ext_set (o := .lst (ws.set j v)) rs2 (List.mem_of_getElem? ha)
                exact p _ _ σ ((e1.trans e2).trans ex) (rs2.set ha rl2) ((re.ext (e1.trans e2)).ext ex) rfl
        | _ => exact p.elim
      | _ => exact p.elim
    | exc c fs S2 => rw [h2] at p; exact p.elim
    | bad => rw [h2] at p; exact p.elim
  | exc c fs S1 => rw [h1] at p; exact p.elim
  | bad => rw [h1] at p; exact p.elim
/-! ### what is walked: its items, and what of the store must stay -/
abbrev Src := List Da × (Store → Prop)
def RelSrc (z : Cz) (μ0 : List Addr) (H0 : Hp) (s : Src) (J : It) : Prop := ∀ μ H S, Ext μ0 H0 μ H → RelS z μ H S → s.2 S → ∀ i : Nat,
  (∀ d, s.1[i]? = some d → J.go i H ∧ ∀ v H', J.yld i H v H' → Ext μ H μ H' ∧ RelS z μ H' S ∧ RelD z μ H' d v) ∧ (i = s.1.length → J.stop i H)
theorem RelSrc.ext {z : Cz} {μ μ' : List Addr} {H H' : Hp} {s : Src} {J : It} (e : Ext μ H μ' H') (h : RelSrc z μ H s J) : RelSrc z μ' H' s J := fun μ2 H2 S e2 => h μ2 H2 S (e.trans e2)
def tI (z : Cz) (W : WX) (src : Ev → M Src) : TI := fun σ H R => ∃ μ ρ S, RelS z μ H S ∧ RelE z μ H σ ρ ∧ Post z (RelSrc z) (fun c d H' => W c d σ H') μ H R (src ρ S)
abbrev MI (X : Cx) (nm : Nv) (W : WX) (tg iter : Expr) (src : Ev → M Src) : Prop := PI X tg iter (tI (cz X nm) W src)
theorem PI.of {iter : Expr} {t t' : TI} (h : PI X tg iter t) (k : ∀ σ H R, t' σ H R → t σ H R) : PI X tg iter t' := ⟨fun pins s σ H R I q => h.run pins s σ H R I (k σ H R q)⟩
/-! ### for -/
noncomputable def loopS (st : Store → Prop) (g : FG) (b : FS) : List Da → FS
  | [], ρ, S => .nx ρ S
  | d :: ds, ρ, S => match g d ρ S with
    | none => .bad
    | some (ρ1, S1) => match b ρ1 S1 with
      | .nx ρ2 S2 => @ite _ (st S2) (Classical.propDecidable _) (loopS st g b ds ρ2 S2) .bad
      | .ct ρ2 S2 => @ite _ (st S2) (Classical.propDecidable _) (loopS st g b ds ρ2 S2) .bad
      | .bk ρ2 S2 => .nx ρ2 S2
      | r => r
noncomputable def forS (src : Ev → M Src) (g : FG) (b : FS) : FS := evS src fun s ρ S => @ite _ (s.2 S) (Classical.propDecidable _) (loopS s.2 g b s.1 ρ S) .bad
theorem ms_for {iter : Expr} {body : List Stmt} {src : Ev → M Src} (hp : PassesOwn (model X.prog X.w) X.A X.env X.xe) (hc : X.calm = true) (hi : MI X nm W tg iter src) (hg : MG X nm vs tg g) (hb : MSs X nm W body fS) (hs : ∀ x, foldedSetIterable iter X.env x = pure x := by intro _; rfl) :
    MS X nm W (.For tg iter body [] pos) (forS src g fS) := PS.of (ps_for hp hc hi hg hb (hs := hs)) fun En σ H ⟨μ, ρ, S, rs, re, p⟩ => by
  refine ⟨μ, ρ, S, rs, re, (posts_ev (RelSrc (cz X nm)) re p).imp fun J H0 ⟨μ0, S0, s, e0, rs0, rJ, p0⟩ => ?_⟩
  have re0 := re.ext e0
  have hst : s.2 S0 := Classical.byContradiction fun hst => by
    rw [if_neg hst] at p0; exact p0.elim
  rw [if_pos hst] at p0
  refine ⟨fun i m σ' H' => ∃ μ1 ρ1 S1, m = s.1.length - i ∧ i ≤ s.1.length ∧ Ext μ0 H0 μ1 H' ∧ RelS (cz X nm) μ1 H' S1 ∧ RelE (cz X nm) μ1 H' σ' ρ1 ∧ s.2 S1 ∧ PostS (cz X nm) W μ1 H' En (loopS s.2 g fS (s.1.drop i) ρ1 S1),
    ⟨s.1.length, μ0, ρ, S0, by simp, Nat.zero_le _, .refl, rs0, re0, hst, p0⟩, ?_⟩
  rintro i m σ1 H1 ⟨μ1, ρ1, S1, rfl, hi, e1, rs1, re1, st1, p1⟩
  obtain ⟨j1, j2⟩ := rJ μ1 H1 S1 e1 rs1 st1 i
  by_cases hlt : i < s.1.length
  · have hd : s.1[i]? = some s.1[i] := List.getElem?_eq_getElem hlt
    obtain ⟨hgo, hy⟩ := j1 _ hd
    refine .inr ⟨hgo, fun σ' H' => ∃ μ2 ρ2 S2, Ext μ0 H0 μ2 H' ∧ RelS (cz X nm) μ2 H' S2 ∧ RelE (cz X nm) μ2 H' σ' ρ2 ∧ s.2 S2 ∧ PostS (cz X nm) W μ2 H' En (loopS s.2 g fS (s.1.drop (i + 1)) ρ2 S2), fun σ' H' ⟨μ2, ρ2, S2, h1, h2, h3, h4, h5⟩ => ⟨s.1.length - (i + 1), by omega, μ2, ρ2, S2, rfl, hlt, h1, h2, h3, h4, h5⟩, fun v H2 hv => ?_⟩
    obtain ⟨e2, rs2, rd2⟩ := hy v H2 hv
    refine ⟨μ1, ρ1, S1, s.1[i], rs2, re1.ext e2, rd2, ?_⟩
    rw [List.drop_eq_getElem_cons hlt] at p1
    unfold loopS at p1
    cases hgd : g s.1[i] ρ1 S1 with
    | none => rw [hgd] at p1; exact p1.elim
    | some o =>
      obtain ⟨ρ3, S3⟩ := o
      rw [hgd] at p1
      dsimp only at p1
      intro μ3 H3 σ3 e3 rs3 re3 _
      refine ⟨μ3, ρ3, S3, rs3, re3, ?_⟩
      have p3 := p1.later (e2.trans e3)
      have again : ∀ {ρ4 : Ev} {S4 : Store}, PostS (cz X nm) W μ3 H3 En (@ite _ (s.2 S4) (Classical.propDecidable _) (loopS s.2 g fS (s.1.drop (i + 1)) ρ4 S4) .bad) → ∀ μ4 H4 σ4, Ext μ3 H3 μ4 H4 → RelS (cz X nm) μ4 H4 S4 → RelE (cz X nm) μ4 H4 σ4 ρ4 →
          ∃ μ2 ρ2 S2, Ext μ0 H0 μ2 H4 ∧ RelS (cz X nm) μ2 H4 S2 ∧ RelE (cz X nm) μ2 H4 σ4 ρ2 ∧ s.2 S2 ∧ PostS (cz X nm) W μ2 H4 En (loopS s.2 g fS (s.1.drop (i + 1)) ρ2 S2) := by
        intro ρ4 S4 q μ4 H4 σ4 e4 rs4 re4
        by_cases h4 : s.2 S4
        · rw [if_pos h4] at q
          exact ⟨μ4, ρ4, S4, ((e1.trans e2).trans e3).trans e4, rs4, re4, h4, q.later e4⟩
        · rw [if_neg h4] at q; exact q.elim
      cases hb3 : fS ρ3 S3 with
      | nx ρ4 S4 => rw [hb3] at p3; exact again p3
      | ct ρ4 S4 => rw [hb3] at p3; exact again p3
      | bk ρ4 S4 => rw [hb3] at p3; exact fun μ4 H4 σ4 e4 rs4 re4 => p3 μ4 H4 σ4 e4 rs4 re4
      | rt d S4 => rw [hb3] at p3; exact p3
      | exc c fs ρ4 S4 => rw [hb3] at p3; exact p3
      | bad => rw [hb3] at p3; exact p3.elim
  · have ei : i = s.1.length := by omega
    refine .inl ⟨j2 (by omega), ?_⟩
    rw [List.drop_eq_nil_of_le (by omega)] at p1
    exact PostS.now p1 rs1 re1
/-! ### comprehensions -/
theorem mon_in {μ : List Addr} {H : Hp} {p : Addr} {xs : List V} (hp : H p = some (.lst xs)) : Mon μ H (μ ++ [p]) H where
  pre := ⟨[p], rfl⟩
  tup := fun a ys n h => ⟨(fun m => by
    rcases List.mem_append.mp m with m | m
    · exact n m
    · rw [List.mem_singleton.mp m, hp] at h; cases h), h⟩
  frz := fun a u w n h => ⟨(fun m => by
    rcases List.mem_append.mp m with m | m
    · exact n m
    · rw [List.mem_singleton.mp m, hp] at h; cases h), h⟩
  xd := fun a w n h => ⟨(fun m => by
    rcases List.mem_append.mp m with m | m
    · exact n m
    · rw [List.mem_singleton.mp m, hp] at h; cases h), h⟩
theorem RelS.push' {z : Cz} {μ : List Addr} {H : Hp} {S : Store} (rs : RelS z μ H S) {p : Addr} {xs : List V} {ds : List Da} (hp : H p = some (.lst xs)) (hn : p ∉ μ) (l : RelL z μ H ds xs) : RelS z (μ ++ [p]) H (S ++ [.lst ds]) where
  nd := by
    rw [List.nodup_append]
    refine ⟨rs.nd, by simp, fun a ha b hb q => ?_⟩
    rw [List.mem_singleton] at hb
    subst hb; subst q
    exact hn ha
  len := by simp [rs.len]
  inv := z.n.mono _ _ _ _ (mon_in hp) rs.inv
  at_ := fun r a o h1 h2 => by
    by_cases hr : r < μ.length
    · rw [List.getElem?_append_left hr] at h1
      rw [List.getElem?_append_left (by rw [← rs.len]; exact hr)] at h2
      exact (rs.at_ r a o h1 h2).mon (mon_in hp) rfl
    · have hr' : μ.length ≤ r := Nat.le_of_not_lt hr
      rw [List.getElem?_append_right hr'] at h1
      rw [List.getElem?_append_right (by rw [← rs.len]; exact hr'), ← rs.len] at h2
      cases hk : r - μ.length with
      | succ k => rw [hk] at h1; simp at h1
      | zero =>
        rw [hk] at h1 h2
        simp at h1 h2
        subst h1; subst h2
        exact ⟨xs, hp, l.mon (mon_in hp)⟩
end
end M2

/-! Layer M2, part d: comprehensions, defs and their calls. -/
namespace M2
open PySem PySem.Spec PyProof.Rows L2
section
variable {X : Cx} {nm : Nv} {W : WX} {e elt tg iter : Expr} {es ifs : List Expr} {pos : Pos} {f fe : Ev → M Da} {fs : Ev → M (List Da)} {g : FG} {src : Ev → M Src} {gt : Ev → M Bool}
abbrev W0 : WX := fun _ _ _ _ => False
/-- one turn after another: the items behind a comprehension -/
noncomputable def compL (st : Store → Prop) (g : FG) (gt : Ev → M Bool) (fe : Ev → M Da) (ρ : Ev) : List Da → List Da → M (List Da)
  | [], acc => pure acc
  | d :: ds, acc => fun S => match g d ρ S with
    | none => .bad
    | some (ρ1, S1) => match gt ρ1 S1 with
      | .ok true S2 => match fe ρ1 S2 with
        | .ok y S3 => @ite _ (st S3 ∧ acc.length < sizeLine) (Classical.propDecidable _) (compL st g gt fe ρ ds (acc ++ [y]) S3) .bad
        | _ => .bad
      | .ok false S2 => @ite _ (st S2) (Classical.propDecidable _) (compL st g gt fe ρ ds acc S2) .bad
      | _ => .bad
noncomputable def compE (vs : List Nat) (src : Ev → M Src) (g : FG) (gt : Ev → M Bool) (fe : Ev → M Da) : Ev → M Da := fun ρ => src ρ >>= fun s => fun S => @ite _ (s.2 S) (Classical.propDecidable _) ((compL s.2 g gt fe (wipeR ρ vs) s.1 [] S).thn fun ys => fun S => .ok (.ref S.length) (S ++ [SO.lst ys])) .bad
abbrev MTs (X : Cx) (nm : Nv) (W : WX) (ifs : List Expr) (g : Ev → M Bool) : Prop := PTs X ifs (tM (cz X nm) RelB W g)
def tyes : Ev → M Bool := fun _ => pure true
theorem PTs.of {t t' : TT} (h : PTs X ifs t) (k : ∀ σ H Q, t' σ H Q → t σ H Q) : PTs X ifs t' := ⟨fun pins s σ H Q I q => h.run pins s σ H Q I (k σ H Q q)⟩
theorem mts_nil : MTs X nm W [] tyes := PTs.of pts_nil fun σ H Q ⟨μ, ρ, S, rs, re, p⟩ => Post.now p rs rfl
theorem mts_one (h : MT X nm W e gt) : MTs X nm W [e] gt := pts_one h
theorem comp_run {vs : List Nat} {σ : L2.St} {H : Hp} {Q : VK} (q : tM (cz X nm) (RelD (cz X nm)) W (compE vs src g gt fe) σ H Q) :
    tLc (tI (cz X nm) W src) (tG (cz X nm) vs g) (tM (cz X nm) RelB W0 gt) (tM (cz X nm) (RelD (cz X nm)) W0 fe) vs σ H Q := by
  obtain ⟨μ, ρ, S, rs, re, p⟩ := q
  refine ⟨μ, ρ, S, rs, re, (post_bind (RelSrc (cz X nm)) p).imp fun J H0 ⟨μ0, S0, s, e0, rs0, rJ, p0⟩ => ?_⟩
  have re0 := re.ext e0
  have hst : s.2 S0 := Classical.byContradiction fun hst => by
    rw [if_neg hst] at p0; exact p0.elim
  rw [if_pos hst] at p0
  intro L hL
  have nL : L ∉ μ0 := rs0.not_mem hL
  refine ⟨fun i m H' => m = s.1.length - i ∧ i ≤ s.1.length ∧ ∃ μ1 S1 acc xs, Ext μ0 H0 μ1 H' ∧ RelS (cz X nm) μ1 H' S1 ∧ L ∉ μ1 ∧ H' L = some (.lst xs) ∧ RelL (cz X nm) μ1 H' acc xs ∧ s.2 S1 ∧
      Post (cz X nm) (RelD (cz X nm)) (fun c d H' => W c d σ H') μ0 H0 Q ((compL s.2 g gt fe (wipeR ρ vs) (s.1.drop i) acc S1).thn fun ys => fun S => .ok (.ref S.length) (S ++ [SO.lst ys])),
    ⟨s.1.length, by simp, Nat.zero_le _, μ0, S0, [], [], Ext.over .refl hL, rs0.upd_out hL, nL, upd_same, by simp only [RelLk], hst, p0⟩, ?_⟩
  rintro i m H1 ⟨rfl, hi, μ1, S1, acc, xs, e1, rs1, n1, h1, l1, st1, p1⟩
  obtain ⟨j1, j2⟩ := rJ μ1 H1 S1 e1 rs1 st1 i
  by_cases hlt : i < s.1.length
  · have hd : s.1[i]? = some s.1[i] := List.getElem?_eq_getElem hlt
    obtain ⟨hgo, hy⟩ := j1 _ hd
    refine .inr ⟨hgo, fun H' => ∃ μ2 S2 acc xs, Ext μ0 H0 μ2 H' ∧ RelS (cz X nm) μ2 H' S2 ∧ L ∉ μ2 ∧ H' L = some (.lst xs) ∧ RelL (cz X nm) μ2 H' acc xs ∧ s.2 S2 ∧
      Post (cz X nm) (RelD (cz X nm)) (fun c d H' => W c d σ H') μ0 H0 Q ((compL s.2 g gt fe (wipeR ρ vs) (s.1.drop (i + 1)) acc S2).thn fun ys => fun S => .ok (.ref S.length) (S ++ [SO.lst ys])),
      fun H' h => ⟨s.1.length - (i + 1), by omega, rfl, hlt, h⟩, fun v H2 hv => ?_⟩
    obtain ⟨e2, rs2, rd2⟩ := hy v H2 hv
    rw [List.drop_eq_getElem_cons hlt] at p1
    unfold compL at p1
    have re2 : RelE (cz X nm) μ1 H2 (wipe σ vs) (wipeR ρ vs) := ((re0.ext e1).ext e2).wipe vs
    refine ⟨μ1, wipeR ρ vs, S1, s.1[i], rs2, re2, rd2, ?_⟩
    cases hgd : g s.1[i] (wipeR ρ vs) S1 with
    | none => rw [hgd] at p1; exact p1.elim
    | some o =>
      obtain ⟨ρ3, S3⟩ := o
      rw [hgd] at p1
      dsimp only at p1
      intro μ3 H3 σ3 e3 rs3 re3 w3
      refine ⟨w3.trans wipe_wipe, μ3, ρ3, S3, rs3, re3, ?_⟩
      have e13 := e2.trans e3
      cases hgt : gt ρ3 S3 with
      | bad => rw [hgt] at p1; exact p1.elim
      | exc c fs S4 => rw [hgt] at p1; exact p1.elim
      | ok b S4 =>
        rw [hgt] at p1
        intro μ4 H4 b' e4 rs4 hb
        obtain rfl : b = b' := hb
        cases b with
        | false =>
          dsimp only at p1
          have hs4 : s.2 S4 := Classical.byContradiction fun h => by rw [if_neg h] at p1; exact p1.elim
          rw [if_pos hs4] at p1
          have e14 := e13.trans e4
          exact ⟨μ4, S4, acc, xs, e1.trans e14, rs4, e14.out n1 h1, e14.keep _ _ n1 h1, l1.ext e14, hs4, p1⟩
        | true =>
          dsimp only at p1
          refine ⟨μ4, ρ3, S4, rs4, re3.ext e4, ?_⟩
          cases hfe : fe ρ3 S4 with
          | bad => rw [hfe] at p1; exact p1.elim
          | exc c fs S5 => rw [hfe] at p1; exact p1.elim
          | ok y S5 =>
            rw [hfe] at p1
            dsimp only at p1
            have hs5 : s.2 S5 ∧ acc.length < sizeLine := Classical.byContradiction fun h => by rw [if_neg h] at p1; exact p1.elim
            rw [if_pos hs5] at p1
            intro μ5 H5 yv e5 rs5 r5
            have e15 := (e13.trans e4).trans e5
            have h5 := e15.keep _ _ n1 h1
            have n5 := e15.out n1 h1
            have mo : Mon μ5 H5 μ5 (upd H5 L (.lst (xs ++ [yv]))) := mon_list h5
            refine ⟨xs, h5, by rw [← l1.length]; exact hs5.2, μ5, S5, acc ++ [y], xs ++ [yv], (e1.trans e15).over hL, rs5.mon mo fun a ha => ?_, n5, upd_same, ((l1.ext e15).mon mo).app (.one (r5.mon mo)), hs5.1, p1⟩
            have : a ≠ L := fun q => n5 (q ▸ ha)
            rw [upd_ne this]
  · have ei : i = s.1.length := by omega
    refine .inl ⟨j2 (by omega), ?_⟩
    rw [List.drop_eq_nil_of_le (by omega)] at p1
    have p2 : Post (cz X nm) (RelD (cz X nm)) (fun c d H' => W c d σ H') μ0 H0 Q (.ok (.ref S1.length) (S1 ++ [.lst acc])) := p1
    refine p2 (μ1 ++ [L]) H1 _ ⟨?_, e1.keep, fun a ha => ?_⟩ (rs1.push' h1 n1 l1) ?_
    · obtain ⟨ν, rfl⟩ := e1.pre
      exact ⟨ν ++ [L], by rw [List.append_assoc]⟩
    · rcases List.mem_append.mp ha with h | h
      · exact e1.new a h
      · rw [List.mem_singleton.mp h]; exact .inr hL
    · simp only [RelDk]
      exact ⟨L, rfl, push_at rs1⟩
theorem me_lc {scope : Scope} {own : List (Str × Nat)} (hc : X.calm = true) (hN : X.N.Nodup) (hi : MI X nm W tg iter src) (ok : BlkOk X.N X.env.scope scope own)
    (hg : ∀ (s : Shared) (H : Hp) (C : Addr) (cl : List (Str × Addr)) (fp : List Addr), MG (X.blk s H scope (compEnvC scope cl C X.env) fp) nm (own.map (·.2)) tg g)
    (ht : ∀ (s : Shared) (H : Hp) (C : Addr) (cl : List (Str × Addr)) (fp : List Addr), MTs (X.blk s H scope (compEnvC scope cl C X.env) fp) nm W0 ifs gt)
    (he : ∀ (s : Shared) (H : Hp) (C : Addr) (cl : List (Str × Addr)) (fp : List Addr), ME (X.blk s H scope (compEnvC scope cl C X.env) fp) nm W0 elt fe) (hs : ∀ x, foldedSetIterable iter X.env x = pure x := by intro _; rfl) :
    ME X nm W (.ListComp elt [⟨tg, iter, ifs, 0⟩] scope pos) (compE (own.map (·.2)) src g gt fe) := PE.of (pe_lc hc hN hi ok hg ht he hs) fun σ H Q q => comp_run q
theorem ms_setLc (i : Nat) {y : Str} {py spos : Pos} {scope : Scope} {own : List (Str × Nat)} (hc : X.calm = true) (hN : X.N.Nodup) (hy : X.N[i]? = some y) (hyl : X.env.scope.names.lookup y = some .local)
    (hsw : swapsWith (.ListComp elt [⟨tg, iter, ifs, 0⟩] scope pos) (some (.Name y py)) spos.line X.env = pure true) (hi : MI X nm W tg iter src) (ok : BlkOk X.N X.env.scope scope own)
    (hg : ∀ (s : Shared) (H : Hp) (C : Addr) (cl : List (Str × Addr)) (fp : List Addr), MG (X.blk s H scope (compEnvC scope cl C X.env) fp) nm (own.map (·.2)) tg g)
    (ht : ∀ (s : Shared) (H : Hp) (C : Addr) (cl : List (Str × Addr)) (fp : List Addr), MTs (X.blk s H scope (compEnvC scope cl C X.env) fp) nm W0 ifs gt)
    (he : ∀ (s : Shared) (H : Hp) (C : Addr) (cl : List (Str × Addr)) (fp : List Addr), ME (X.blk s H scope (compEnvC scope cl C X.env) fp) nm W0 elt fe) (hs : ∀ x, foldedSetIterable iter X.env x = pure x := by intro _; rfl) :
    MS X nm W (.Assign [.Name y py] (.ListComp elt [⟨tg, iter, ifs, 0⟩] scope pos) spos) (setS i (compE (own.map (·.2)) src g gt fe)) :=
  PS.of (ps_setLc (i := i) hc hN hy hyl hsw hi ok hg ht he hs) fun En σ H q => set_run (fun Q k => comp_run k) q

/-! ### defs and calls -/
/-- what a def promises: it reckons g of its arguments -/
def spM (z : Cz) (n : Nat) (g : List Da → M Da) : Sp := fun vs H Q E => vs.length = n ∧ ∃ μ S ds, RelS z μ H S ∧ RelL z μ H ds vs ∧ Post z (RelD z) E μ H Q (g ds S)
def appF (n : Nat) (g : List Da → M Da) (ds : List Da) : M Da := if ds.length = n then g ds else M.bad
def callF (n : Nat) (g : List Da → M Da) (fs : Ev → M (List Da)) : Ev → M Da := fun ρ => fs ρ >>= appF n g
/-- room for k calls, and nobody is being shown by repr -/
structure RoomG (k : Nat) (A : Around) : Prop where
  r : Room k A
  g : A.guards = some []
theorem RoomG.mono {j k : Nat} {A : Around} (h : RoomG k A) (le : j ≤ k) : RoomG j A := ⟨h.r.mono le, h.g⟩
theorem RoomG.deeper {k : Nat} {A : Around} (h : RoomG (k + 1) A) (env : Env) : RoomG k (A.deeper env) := ⟨h.r.deeper env, h.g⟩
theorem RoomG.u64 {k : Nat} {A : Around} (h : RoomG k A) : A.units + 64 < cLine := by have := h.r.un; omega
theorem RoomG.u65 {k : Nat} {A : Around} (h : RoomG k A) : A.units + 65 < cLine := by have := h.r.un; omega
theorem RoomG.u70 {k : Nat} {A : Around} (h : RoomG k A) : A.units + 70 < cLine := by have := h.r.un; omega
/-- a promise that is kept under such room -/
structure FnG (P : Program) (w : World) (K : PySem.W.Frag) (mg : Str → Option Value) (base : Heap) (k : Nat) (f : Addr) (fd : FuncData) (ps : List Str) (sp : Sp) : Prop where
  size : ∀ vs H Q E, sp vs H Q E → vs.length = ps.length
  go : ∀ (A : Around) (fr : List Env) (s : Shared) (H : Hp) (us : List Value) (vs : List V) (Q : VK) (E : XK), RoomG k A → Env0 P w K mg base A fr s H → BindsTo s fd ⟨us, []⟩ (ps.zip us) → Vals vs us → sp vs H Q E →
    codeAny (model P w) A (.call (.ref f) ⟨us, []⟩) (CR (L2.CX P w) fr P w H s Q E) s
theorem FnG.mono {P : Program} {w : World} {K : PySem.W.Frag} {mg : Str → Option Value} {base : Heap} {j k : Nat} {f : Addr} {fd : FuncData} {ps : List Str} {sp : Sp} (F : FnG P w K mg base j f fd ps sp) (le : j ≤ k) : FnG P w K mg base k f fd ps sp :=
  ⟨F.size, fun A fr s H us vs Q E hr => F.go A fr s H us vs Q E (hr.mono le)⟩
/-- a def that is held at a: it reckons g of n arguments -/
def Fd (P : Program) (w : World) (K : PySem.W.Frag) (mg : Str → Option Value) (base : Heap) (nm : Nv) (k : Nat) (a : Addr) (n : Nat) (g : List Da → M Da) : Prop :=
  ∃ fd ps, FnG P w K mg base k a fd ps (spM ⟨K, nm⟩ n g) ∧ PySem.W.keepIn K (.ref a) = true ∧ Binds K fd ps []
theorem Fd.mono {P : Program} {w : World} {K : PySem.W.Frag} {mg : Str → Option Value} {base : Heap} {nm : Nv} {j k : Nat} {a : Addr} {n : Nat} {g : List Da → M Da} (F : Fd P w K mg base nm j a n g) (le : j ≤ k) : Fd P w K mg base nm k a n g := by
  obtain ⟨fd, ps, h, r⟩ := F
  exact ⟨fd, ps, h.mono le, r⟩
theorem run_g {k : Nat} {f : Addr} {fd : FuncData} {ps : List Str} {sp : Sp} {pins : List (Addr × Obj)} {σ : L2.St} {H : Hp} {s : Shared} {Q : VK} {us : List Value} {vs : List V} (F : FnG X.prog X.w X.K X.mg X.base k f fd ps sp) (hr : RoomG k X.A) (hb : Binds X.K fd ps []) (tk : Takes X W)
    (I : L2.Inv X pins σ H s) (r : Vals vs us) (h : sp vs H Q (WE W σ)) : wpAny (model X.prog X.w) X.A (PySem.call (.ref f) us) (EP X pins σ Q) X.xe s := by
  have b := hb s us I.kIn (by rw [List.append_nil, ← r.length]; exact F.size _ _ _ _ h)
  rw [List.append_nil] at b
  refine wpAny_call (codeAny_mono (F.go X.A X.stack s H us vs Q (WE W σ) hr I.env0 b r h) fun res s' hq => ?_)
  match res, hq with
  | .ok (.ret u), hq => exact I.after hq
  | .ok .next, hq => exact hq.elim
  | .ok .brk, hq => exact hq.elim
  | .ok .cont, hq => exact hq.elim
  | .error e, hq => exact passAt tk σ pins H s e s' I hq
theorem me_call {n k : Nat} {x : Str} {a : Addr} {p : Pos} {g : List Da → M Da} (F : Fd X.prog X.w X.K X.mg X.base nm k a n g) (hr : RoomG k X.A) (hg : Gl X x) (hm : X.mg x = some (.ref a)) (tk : Takes X W)
    (ha : MA X nm W (e :: es) fs) (hdb : (x == ("__debug__" : Str)) = false := by decide) (he : starEach (e :: es) X.env = (false, eval e X.env) :: starEach es X.env := by rfl) (hpl : (backTo pos (starEach es X.env)).any (·.1) = false := by rfl) :
    ME X nm W (.Call (.Name x p) (e :: es) [] pos) (callF n g fs) := ⟨fun pins s σ H Q I ⟨μ, ρ, S, rs, re, q⟩ => by
  obtain ⟨fd, ps, F, hk, hb⟩ := F
  refine wpAny_Call_Name_kw (ld_glob I hg hm ?_ hdb)
  refine PySem.W.callWith_K (h₀ := X.base) I.ok.mod.kin hk (thn (ha.run pos pins s σ H _ I ⟨μ, ρ, S, rs, re, post_bind (RelL (cz X nm)) q⟩) fun us s2 ⟨vs, H2, I2, r, μ2, S2, ds, e2, rs2, rl, p2⟩ => ⟨I2.kIn, ?_⟩) he hpl
  unfold appF at p2
  split at p2
  · rename_i hl
    exact run_g F hr hb tk I2 r ⟨rl.length.symm.trans hl, μ2, S2, ds, rs2, rl, p2⟩
  · exact p2.elim⟩
/-- the names at the entry -/
def begE (N : Nat) (ds : List Da) : Ev := ds.map some ++ List.replicate (N - ds.length) none
def runF (N : Nat) (b : FS) : List Da → M Da := fun ds S => match b (begE N ds) S with
  | .rt d S' => .ok d S'
  | .nx _ S' => .ok .non S'
  | .exc c fs _ S' => .exc c fs S'
  | _ => .bad
theorem RelL.begE {z : Cz} {μ : List Addr} {H : Hp} {ds : List Da} {vs : List V} (h : RelL z μ H ds vs) (N : List Str) : RelE z μ H (L2.start N vs) (begE N.length ds) where
  len := by unfold L2.start M2.begE; simp [h.length]
  at_ := fun i d q => by
    unfold M2.begE at q
    have hl := h.length
    by_cases hi : i < ds.length
    · rw [List.getElem?_append_left (by simpa using hi), List.getElem?_map] at q
      cases e : ds[i]? with
      | none => rw [e] at q; cases q
      | some d' =>
        rw [e] at q
        cases q
        obtain ⟨v, h1, h2⟩ := h.get e
        refine ⟨v, ?_, h2⟩
        unfold L2.start
        rw [List.getElem?_append_left (by simpa using (by omega : i < vs.length)), List.getElem?_map, h1]
        rfl
    · rw [List.getElem?_append_right (by simpa using hi), List.getElem?_replicate] at q
      split at q <;> cases q
abbrev WEx (E : XK) : WX := fun cls d _ H => E cls d H
/-- THE RULE: a def by its body -/
theorem fnG {P : Program} {w : World} {K : PySem.W.Frag} {mg : Str → Option Value} {base : Heap} {nm : Nv} {x qual : Str} {st : Stmt} {a : Addr} {fd : FuncData} {N ps : List Str} {k : Nat} {b : FS} (F : Fun K x qual st a fd) (S : FnScope N ps (defScope st))
    (hb : ∀ (cdv : Value) (A : Around) (outer : List Env) (s : Shared) (H : Hp) (E : XK), RoomG k (A.deeper (envOfC qual (defScope st) s.heap.objs.size a cdv)) →
      MSs (cxOf (L2.CX P w) P w K mg base N qual (defScope st) a cdv A outer s H E) nm (WEx E) (defBody st) b) :
    FnG P w K mg base (k + 1) a fd ps (spM ⟨K, nm⟩ ps.length (runF N.length b)) := by
  obtain ⟨oc, od, kV, doc, pm, an, cdv, ct, osl, efd, lk, hcd⟩ := F.ex
  refine ⟨fun vs H Q E h => h.1, ?_⟩
  subst efd
  intro A fr s H us vs Q E hr e0 bt r hsp
  obtain ⟨hl, μ, St, ds, rs, rl, p⟩ := hsp
  have up : ∀ c o, base.get? c = some o → s.heap.get? c = some o := fun c o q => (e0.bs c o q).1
  have kh : K.In s.heap := e0.mod.kin.keeps up
  have par : ∀ y ∈ ps.zip us, (defScope st).names.lookup y.1 = some .local ∨ ((defScope st).names.lookup y.1 = some .cell ∧ ((cellsFrom (s.heap.objs.size + 1) (defScope st).names []).lookup y.1).isSome = true) := by
    rintro ⟨n, v⟩ hy
    exact (S.par n (List.of_mem_zip hy).1).imp id fun q => ⟨q, PySem.W.cellsFrom_some _ _ _ (.inl q)⟩
  refine codeAny_call_function hr.r.depth (kh _ _ lk) rfl S.co S.gen rfl (PySem.W.codeRec_of kh hcd) (bt _ _ _ _ (wpAny_newFunctionEnv_cells S.kind par ?_))
  intro env he s1 y
  subst he
  refine ⟨(e0.mod.nolimit.keeps up).keeps y.toInCall.keep, codeAny_func ?_⟩
  have I := inv_start (CX := L2.CX P w) (E := E) S hr.r.hd e0 hl r y
  have done : ∀ {σ' : L2.St} {H' : Hp} {v : V} {u : Value} {s' : Shared}, L2.Inv (cxOf (L2.CX P w) P w K mg base N qual (defScope st) a cdv A fr s H E) [] σ' H' s' → RelV v u → Q v H' → CE fr P w H s Q u s' := fun J rv q => ⟨_, _, J.os, J.bare, J.base, J.hok, rv, q⟩
  refine wpAny_mono ((hb cdv A fr s H E (hr.deeper _)).run [] s1 (L2.start N vs) H { nx := fun _ H' => Q .non H', rt := Q } I ⟨μ, begE N.length ds, St, rs, rl.begE N, ?_⟩) (fun fl s' hs => ?_) fun _ _ hs => hs
  · unfold runF at p
    cases e : b (begE N.length ds) St with
    | rt d S' => rw [e] at p; exact p
    | nx ρ' S' => rw [e] at p; exact fun μ' H' σ' e1 rs1 _ => p μ' H' .non e1 rs1 (by simp only [RelDk])
    | exc c fs ρ' S' => rw [e] at p; exact fun μ' H' σ' y vs e1 rs1 _ hy ny rf => p μ' H' y vs e1 rs1 hy ny rf
    | bk ρ' S' => rw [e] at p; exact p.elim
    | ct ρ' S' => rw [e] at p; exact p.elim
    | bad => rw [e] at p; exact p.elim
  · match fl, hs with
    | .ret u, ⟨v, σ', H', J, rv, q⟩ => exact done J rv q
    | .next, ⟨σ', H', J, q⟩ => exact done (v := V.non) (u := Value.none) J rfl q
    | .brk, ⟨_, _, _, q⟩ => exact q.elim
    | .cont, ⟨_, _, _, q⟩ => exact q.elim
theorem fnM {P : Program} {w : World} {K : PySem.W.Frag} {mg : Str → Option Value} {base : Heap} {nm : Nv} {x qual : Str} {st : Stmt} {a : Addr} {fd : FuncData} {N ps : List Str} {k : Nat} {b : FS} (F : Fun K x qual st a fd) (S : FnScope N ps (defScope st)) (hbd : Binds K fd ps [])
    (hb : ∀ (cdv : Value) (A : Around) (outer : List Env) (s : Shared) (H : Hp) (E : XK), RoomG k (A.deeper (envOfC qual (defScope st) s.heap.objs.size a cdv)) →
      MSs (cxOf (L2.CX P w) P w K mg base N qual (defScope st) a cdv A outer s H E) nm (WEx E) (defBody st) b) :
    Fd P w K mg base nm (k + 1) a ps.length (runF N.length b) := by
  exact ⟨fd, ps, fnG F S hb, F.kp, hbd⟩
theorem takesM {CXx : CXT} {P : Program} {w : World} {K : PySem.W.Frag} {mg : Str → Option Value} {base : Heap} {N : List Str} {qual : Str} {scope : Scope} {a : Addr} {cd : Value} {A : Around} {outer : List Env} {s : Shared} {H : Hp} {E : XK} (h : CXx = L2.CX P w) :
    Takes (cxOf CXx P w K mg base N qual scope a cd A outer s H E) (WEx E) := by
  subst h
  exact takes_of rfl rfl rfl rfl
end
end M2

/-! Layer M2, part e: operators, built-in functions, methods, subscripts on plain data. -/
namespace M2
open PySem PySem.Spec PyProof.Rows L2

/-! ### data as the library's data -/
section
mutual
def pyOf (rf : Nat → Option PyData) : Da → Option PyData
  | .non => some .none
  | .bl b => some (.bool b)
  | .int i => some (.int i)
  | .str x => some (.str x)
  | .tup ds => (pyOfL rf ds).map .tuple
  | .fro ds => (pyOfL rf ds).map .list
  | .ref r => rf r
  | .fn _ => none
  | .ty _ => none
  | .adr _ => none
def pyOfL (rf : Nat → Option PyData) : List Da → Option (List PyData)
  | [] => some []
  | d :: ds => (pyOf rf d).bind fun p => (pyOfL rf ds).map fun ps => p :: ps
end
def refPy (S : Store) : Nat → Nat → Option PyData
  | 0, _ => none
  | n + 1, r => match S[r]? with
    | some (.lst ds) => (pyOfL (refPy S n) ds).map .list
    | none => none
def toPy (S : Store) (d : Da) : Option PyData := pyOf (refPy S 16) d
variable {z : Cz} {μ : List Addr} {H : Hp} {S : Store}
mutual
theorem dp_of {rf : Nat → Option PyData} (hrf : ∀ r p a, rf r = some p → μ[r]? = some a → Dp z.K H (.ref a) p) : ∀ {d : Da} {v : V} {p : PyData}, pyOf rf d = some p → RelD z μ H d v → Dp z.K H v p
  | .non, _, _, h, r => by simp only [pyOf, Option.some.injEq] at h; simp only [RelDk] at r; subst h; subst r; exact .non
  | .bl b, _, _, h, r => by simp only [pyOf, Option.some.injEq] at h; simp only [RelDk] at r; subst h; subst r; exact .bl b
  | .int b, _, _, h, r => by simp only [pyOf, Option.some.injEq] at h; simp only [RelDk] at r; subst h; subst r; exact .int b
  | .str b, _, _, h, r => by simp only [pyOf, Option.some.injEq] at h; simp only [RelDk] at r; subst h; subst r; exact .str b
  | .tup ds, _, _, h, r => by
    simp only [pyOf, Option.map_eq_some_iff] at h
    obtain ⟨ps, h, rfl⟩ := h
    simp only [RelDk] at r
    obtain ⟨a, vs, rfl, rt, rl⟩ := r
    exact .tup rt.sq (dp_ofL hrf h rl)
  | .fro ds, _, _, h, r => by
    simp only [pyOf, Option.map_eq_some_iff] at h
    obtain ⟨ps, h, rfl⟩ := h
    simp only [RelDk] at r
    obtain ⟨a, vs, rfl, rt, rl⟩ := r
    exact .lst rt.sq (dp_ofL hrf h rl)
  | .ref r, _, _, h, q => by
    simp only [pyOf] at h
    simp only [RelDk] at q
    obtain ⟨a, rfl, ha⟩ := q
    exact hrf r _ a h ha
  | .fn _, _, _, h, _ => by simp [pyOf] at h
  | .ty _, _, _, h, _ => by simp [pyOf] at h
  | .adr _, _, _, h, _ => by simp [pyOf] at h
theorem dp_ofL {rf : Nat → Option PyData} (hrf : ∀ r p a, rf r = some p → μ[r]? = some a → Dp z.K H (.ref a) p) : ∀ {ds : List Da} {vs : List V} {ps : List PyData}, pyOfL rf ds = some ps → RelL z μ H ds vs → DpAll z.K H vs ps
  | [], _, _, h, r => by simp only [pyOfL, Option.some.injEq] at h; simp only [RelLk] at r; subst h; subst r; exact .nil
  | d :: ds, _, _, h, r => by
    simp only [pyOfL, Option.bind_eq_some_iff, Option.map_eq_some_iff] at h
    obtain ⟨p, hp, ps, hps, rfl⟩ := h
    simp only [RelLk] at r
    obtain ⟨v, vs, rfl, r1, r2⟩ := r
    exact .cons (dp_of hrf hp r1) (dp_ofL hrf hps r2)
end
theorem refPy_ok (rs : RelS z μ H S) : ∀ (n r : Nat) (p : PyData) (a : Addr), refPy S n r = some p → μ[r]? = some a → Dp z.K H (.ref a) p
  | 0, _, _, _, h, _ => by simp [refPy] at h
  | n + 1, r, p, a, h, ha => by
    unfold refPy at h
    cases e : S[r]? with
    | none => rw [e] at h; cases h
    | some o =>
      rw [e] at h
      cases o with
      | lst ds =>
        dsimp only at h
        rw [Option.map_eq_some_iff] at h
        obtain ⟨ps, hp, rfl⟩ := h
        obtain ⟨vs, hv, rl⟩ := rs.at_ r a _ ha e
        exact .lst (SqL.of hv) (dp_ofL (refPy_ok rs n) hp rl)
theorem toPy_ok (rs : RelS z μ H S) {d : Da} {v : V} {p : PyData} (h : toPy S d = some p) (r : RelD z μ H d v) : Dp z.K H v p := dp_of (refPy_ok rs 16) h r
end

section
variable {X : Cx} {nm : Nv}
/-! ### arithmetic -/
def dAdd : Da → Da → OpF
  | .int i, .int j => fun S => some (.int (i + j), S)
  | .str x, .str y => fun S => if x.length + y.length ≤ sizeLine then some (.str (x ++ y), S) else none
  | .tup xs, .tup ys => fun S => if xs ≠ [] ∧ xs.length + ys.length ≤ sizeLine then some (.tup (xs ++ ys), S) else none
  | .ref a, .ref b => fun S => match S[a]?, S[b]? with
    | some (.lst xs), some (.lst ys) => if xs.length + ys.length ≤ sizeLine then some (.ref S.length, S ++ [.lst (xs ++ ys)]) else none
    | _, _ => none
  | _, _ => fun _ => none
theorem opm_add : OpM X nm (binaryOp .Add) dAdd := by
  intro pins s σ H x y v u Q I rx ry ⟨μ, S, d1, d2, rs, r1, r2, p⟩
  cases d1 <;> cases d2 <;> try exact p.elim
  case int.int i j =>
    simp only [RelDk] at r1 r2
    exact op_add pins s σ H x y v u Q I rx ry ⟨i, j, r1, r2, p.now rs (by simp only [RelDk])⟩
  case str.str i j =>
    simp only [RelDk] at r1 r2
    unfold dAdd at p
    dsimp only at p
    split at p
    · rename_i hl
      exact op_add_str pins s σ H x y v u Q I rx ry ⟨i, j, r1, r2, hl, p.now rs (by simp only [RelDk])⟩
    · exact p.elim
  case tup.tup xs ys =>
    have r1' := r1
    simp only [RelDk] at r1 r2
    obtain ⟨a, vs, e1, t1, l1⟩ := r1
    obtain ⟨b, ws, e2, t2, l2⟩ := r2
    unfold dAdd at p
    dsimp only at p
    split at p
    · rename_i hl
      have n1 : vs ≠ [] := fun e => hl.1 (List.length_eq_zero_iff.mp (by rw [l1.length, e]; rfl))
      refine op_catT pins s σ H x y v u Q I rx ry ⟨a, b, vs, ws, e1, e2, t1.sq, t2.sq, n1, by rw [← l1.length, ← l2.length]; exact hl.2, fun e => ?_, fun e q hq => p.tup rs (RelL.app (z := cz X nm) l1 l2) hq⟩
      have : ys = [] := List.length_eq_zero_iff.mp (by rw [l2.length, e]; rfl)
      subst this
      rw [List.append_nil] at p
      exact e1 ▸ p.now rs r1'
    · exact p.elim
  case ref.ref a b =>
    simp only [RelDk] at r1 r2
    obtain ⟨p1, e1, h1⟩ := r1
    obtain ⟨p2, e2, h2⟩ := r2
    unfold dAdd at p
    dsimp only at p
    split at p
    · rename_i xs ys q1 q2
      split at p
      · rename_i hl
        obtain ⟨vs, hv, l1⟩ := rs.at_ a p1 _ h1 q1
        obtain ⟨ws, hw, l2⟩ := rs.at_ b p2 _ h2 q2
        exact op_cat pins s σ H x y v u Q I rx ry ⟨p1, p2, vs, ws, e1, e2, hv, hw, by rw [← l1.length, ← l2.length]; exact hl, fun q hq => p.push rs (l1.app l2) hq⟩
      · exact p.elim
    · exact p.elim
/-- two ints, with a condition -/
def dI (C : Int → Int → Prop) [∀ i j, Decidable (C i j)] (h : Int → Int → Da) : Da → Da → OpF
  | .int i, .int j => fun S => if C i j then some (h i j, S) else none
  | _, _ => fun _ => none
theorem opm_I {op : Value → Value → Sem Value} {C : Int → Int → Prop} [∀ i j, Decidable (C i j)] {h : Int → Int → Da} {g : Int → Int → V} (ho : OpR X op (rI C g)) (k : ∀ i j μ H, RelD (cz X nm) μ H (h i j) (g i j)) : OpM X nm op (dI C h) := by
  intro pins s σ H x y v u Q I rx ry ⟨μ, S, d1, d2, rs, r1, r2, p⟩
  cases d1 <;> cases d2 <;> try exact p.elim
  case int.int i j =>
    simp only [RelDk] at r1 r2
    unfold dI at p
    dsimp only at p
    split at p
    · rename_i hc
      exact ho pins s σ H x y v u Q I rx ry ⟨i, j, r1, r2, hc, p.now rs (k _ _ _ _)⟩
    · exact p.elim
theorem opm_I0 {op : Value → Value → Sem Value} {h : Int → Int → Da} {g : Int → Int → V} (ho : OpR X op (rI0 g)) (k : ∀ i j μ H, RelD (cz X nm) μ H (h i j) (g i j)) : OpM X nm op (dI (fun _ _ => True) h) :=
  opm_I (g := g) (fun pins s σ H x y v u Q I rx ry ⟨i, j, e1, e2, _, q⟩ => ho pins s σ H x y v u Q I rx ry ⟨i, j, e1, e2, q⟩) k
instance : ∀ i j, Decidable (CMul i j) := fun i j => by unfold CMul; infer_instance
instance : ∀ i j, Decidable (CDiv i j) := fun i j => by unfold CDiv; infer_instance
instance : ∀ i j, Decidable (CPow i j) := fun i j => by unfold CPow; infer_instance
def dSub := dI (fun _ _ => True) fun i j => .int (i - j)
theorem opm_sub : OpM X nm (binaryOp .Sub) dSub := opm_I0 op_sub fun _ _ _ _ => by simp only [RelDk]
def dMul := dI CMul fun i j => .int (i * j)
theorem opm_mul : OpM X nm (binaryOp .Mult) dMul := opm_I op_mul fun _ _ _ _ => by simp only [RelDk]
def dFdiv := dI CDiv fun i j => .int (i / j)
theorem opm_fdiv : OpM X nm (binaryOp .FloorDiv) dFdiv := opm_I op_fdiv fun _ _ _ _ => by simp only [RelDk]
def dMod := dI (fun _ j => 0 < j) fun i j => .int (i % j)
theorem opm_mod : OpM X nm (binaryOp .Mod) dMod := opm_I op_mod fun _ _ _ _ => by simp only [RelDk]
def dPow := dI CPow fun i j => .int (i ^ j.toNat)
theorem opm_pow : OpM X nm (binaryOp .Pow) dPow := opm_I op_pow fun _ _ _ _ => by simp only [RelDk]
/-! ### comparisons -/
/-- ints or texts -/
def dCmp (f : Int → Int → Bool) (g : List Nat → List Nat → Bool) : Da → Da → OpF
  | .int i, .int j => fun S => some (.bl (f i j), S)
  | .str i, .str j => fun S => some (.bl (g i.cps.toList j.cps.toList), S)
  | _, _ => fun _ => none
theorem opm_cmp {op : Value → Value → Sem Value} {f : Int → Int → Bool} {g : List Nat → List Nat → Bool} (ho : OpR X op (rI0 fun i j => .bl (f i j))) (hs : OpR X op (fun x y H Q => ∃ i j, x = .str i ∧ y = .str j ∧ Q (.bl (g i.cps.toList j.cps.toList)) H)) : OpM X nm op (dCmp f g) := by
  intro pins s σ H x y v u Q I rx ry ⟨μ, S, d1, d2, rs, r1, r2, p⟩
  cases d1 <;> cases d2 <;> try exact p.elim
  case int.int i j =>
    simp only [RelDk] at r1 r2
    exact ho pins s σ H x y v u Q I rx ry ⟨i, j, r1, r2, p.now rs (by simp only [RelDk])⟩
  case str.str i j =>
    simp only [RelDk] at r1 r2
    exact hs pins s σ H x y v u Q I rx ry ⟨i, j, r1, r2, p.now rs (by simp only [RelDk])⟩
def dLt := dCmp (fun i j => decide (i < j)) (fun i j => decide (i < j))
def dLe := dCmp (fun i j => decide (i ≤ j)) (fun i j => !decide (j < i))
def dGt := dCmp (fun i j => decide (j < i)) (fun i j => decide (j < i))
def dGe := dCmp (fun i j => decide (j ≤ i)) (fun i j => !decide (i < j))
theorem opm_lt : OpM X nm (compareOp .Lt) dLt := opm_cmp op_lt op_lt_str
theorem opm_le : OpM X nm (compareOp .LtE) dLe := opm_cmp op_le op_le_str
theorem opm_gt : OpM X nm (compareOp .Gt) dGt := opm_cmp op_gt op_gt_str
theorem opm_ge : OpM X nm (compareOp .GtE) dGe := opm_cmp op_ge op_ge_str
def eqvG (S : Store) (x y : Da) : Option Bool := (toPy S x).bind fun p => (toPy S y).bind fun q => if SeqAt.shaped p = true ∧ SeqAt.shaped q = true then some (PyData.eqv p q) else none
/-- two texts, numbers, flags: at once; all else by what they hold -/
def eqv? (S : Store) (x y : Da) : Option Bool := match x, y with
  | .str a, .str b => some (decide (a = b))
  | .int a, .int b => some (decide (a = b))
  | .bl a, .bl b => some (decide (a = b))
  | .non, .non => some true
  | _, _ => eqvG S x y
def dEq : Da → Da → OpF := fun x y S => (eqv? S x y).map fun b => (.bl b, S)
def dNe : Da → Da → OpF := fun x y S => (eqv? S x y).map fun b => (.bl (!b), S)
theorem eqvG_some {S : Store} {x y : Da} {b : Bool} (h : eqvG S x y = some b) : ∃ p q, toPy S x = some p ∧ toPy S y = some q ∧ SeqAt.shaped p = true ∧ SeqAt.shaped q = true ∧ b = PyData.eqv p q := by
  unfold eqvG at h
  simp only [Option.bind_eq_some_iff] at h
  obtain ⟨p, hp, q, hq, h⟩ := h
  split at h
  · rename_i hs
    cases h
    exact ⟨p, q, hp, hq, hs.1, hs.2, rfl⟩
  · cases h
theorem eqv_cases {z : Cz} {μ : List Addr} {H : Hp} {S : Store} {x y : Da} {v u : V} {b : Bool} (rs : RelS z μ H S) (h : eqv? S x y = some b) (r1 : RelD z μ H x v) (r2 : RelD z μ H y u) :
    (scal v u = true ∧ b = decide (v = u)) ∨ ∃ p q, Dp z.K H v p ∧ Dp z.K H u q ∧ SeqAt.shaped p = true ∧ SeqAt.shaped q = true ∧ b = PyData.eqv p q := by
  unfold eqv? at h
  split at h
  · simp only [RelDk] at r1 r2
    subst r1; subst r2
    cases h
    exact .inl ⟨rfl, by simp⟩
  · simp only [RelDk] at r1 r2
    subst r1; subst r2
    cases h
    exact .inl ⟨rfl, by simp⟩
  · simp only [RelDk] at r1 r2
    subst r1; subst r2
    cases h
    exact .inl ⟨rfl, by simp⟩
  · simp only [RelDk] at r1 r2
    subst r1; subst r2
    cases h
    exact .inl ⟨rfl, by simp⟩
  · obtain ⟨p, q, hp, hq, s1, s2, e⟩ := eqvG_some h
    exact .inr ⟨p, q, toPy_ok rs hp r1, toPy_ok rs hq r2, s1, s2, e⟩
theorem opm_eq (hu : X.A.units + 64 < cLine) : OpM X nm (compareOp .Eq) dEq := by
  intro pins s σ H x y v u Q I rx ry ⟨μ, S, d1, d2, rs, r1, r2, w⟩
  unfold dEq at w
  cases h : eqv? S d1 d2 with
  | none => rw [h] at w; exact w.elim
  | some b =>
    rw [h] at w
    have fin := POk.now w rs (b := V.bl b) (by simp only [RelDk])
    rcases eqv_cases rs h r1 r2 with ⟨sc, rfl⟩ | ⟨p, q, hp, hq, s1, s2, rfl⟩
    · exact op_eq pins s σ H x y v u Q I rx ry ⟨sc, fin⟩
    · exact op_eqD hu pins s σ H x y v u Q I rx ry ⟨p, q, hp, hq, s1, s2, fin⟩
theorem opm_ne (hu : X.A.units + 64 < cLine) : OpM X nm (compareOp .NotEq) dNe := by
  intro pins s σ H x y v u Q I rx ry ⟨μ, S, d1, d2, rs, r1, r2, w⟩
  unfold dNe at w
  cases h : eqv? S d1 d2 with
  | none => rw [h] at w; exact w.elim
  | some b =>
    rw [h] at w
    have fin := POk.now w rs (b := V.bl (!b)) (by simp only [RelDk])
    rcases eqv_cases rs h r1 r2 with ⟨sc, rfl⟩ | ⟨p, q, hp, hq, s1, s2, rfl⟩
    · exact op_ne pins s σ H x y v u Q I rx ry ⟨sc, fin⟩
    · exact op_neD hu pins s σ H x y v u Q I rx ry ⟨p, q, hp, hq, s1, s2, fin⟩
def isNon : Da → Bool
  | .non => true
  | _ => false
def dIs : Da → Da → OpF := fun x y S => match y with
  | .non => some (.bl (isNon x), S)
  | _ => none
def dIsNot : Da → Da → OpF := fun x y S => match y with
  | .non => some (.bl (!isNon x), S)
  | _ => none
theorem is_non {z : Cz} {μ : List Addr} {H : Hp} {d : Da} {v : V} (r : RelD z μ H d v) : decide (v = V.non) = isNon d := by
  cases d <;> simp only [RelDk] at r <;> first
    | (subst r; rfl)
    | (obtain ⟨_, _, rfl, _⟩ := r; rfl)
    | (obtain ⟨_, rfl, _⟩ := r; rfl)
theorem opm_is : OpM X nm (compareOp .Is) dIs := by
  intro pins s σ H x y v u Q I rx ry ⟨μ, S, d1, d2, rs, r1, r2, p⟩
  cases d2 <;> try exact p.elim
  case non =>
    simp only [RelDk] at r2
    have p' : POk (cz X nm) (RelD (cz X nm)) μ H Q (some (.bl (isNon d1), S)) := p
    exact op_isN pins s σ H x y v u Q I rx ry ⟨r2, by rw [is_non (z := cz X nm) r1]; exact p'.now rs (by simp only [RelDk])⟩
theorem opm_isNot : OpM X nm (compareOp .IsNot) dIsNot := by
  intro pins s σ H x y v u Q I rx ry ⟨μ, S, d1, d2, rs, r1, r2, p⟩
  cases d2 <;> try exact p.elim
  case non =>
    simp only [RelDk] at r2
    have p' : POk (cz X nm) (RelD (cz X nm)) μ H Q (some (.bl (!isNon d1), S)) := p
    exact op_notN pins s σ H x y v u Q I rx ry ⟨r2, by rw [is_non (z := cz X nm) r1]; exact p'.now rs (by simp only [RelDk])⟩
/-! ### in -/
def inStr (i j : Str) : Bool := match i.cps.toList with
  | [c] => decide (c ∈ j.cps.toList)
  | _ => !(Builtin.Str.occurrences j i 0 j.length 1).isEmpty
def in? (S : Store) (x y : Da) : Option Bool := match y with
  | .str t => match x with
    | .str s => some (inStr s t)
    | _ => none
  | _ => match toPy S x, toPy S y with
    | some d, some (.list ds) => if SeqAt.shaped d = true ∧ SeqAt.shaped (.list ds) = true then some (ds.any fun z => PyData.eqv z d) else none
    | some d, some (.tuple ds) => if SeqAt.shaped d = true ∧ SeqAt.shaped (.tuple ds) = true then some (ds.any fun z => PyData.eqv z d) else none
    | _, _ => none
def dIn : Da → Da → OpF := fun x y S => (in? S x y).map fun b => (.bl b, S)
def dNotIn : Da → Da → OpF := fun x y S => (in? S x y).map fun b => (.bl (!b), S)
theorem sign_of {i : Str} {c : Nat} (h : i.cps.toList = [c]) : i = ⟨#[c]⟩ := by
  obtain ⟨⟨l⟩⟩ := i
  simp only at h
  subst h
  rfl
theorem in_cases {z : Cz} {μ : List Addr} {H : Hp} {S : Store} {x y : Da} {v u : V} {b : Bool} (rs : RelS z μ H S) (h : in? S x y = some b) (r1 : RelD z μ H x v) (r2 : RelD z μ H y u) :
    (∃ i j, v = .str i ∧ u = .str j ∧ b = inStr i j) ∨ (∃ d ds, Dp z.K H v d ∧ (Dp z.K H u (.list ds) ∧ SeqAt.shaped (.list ds) = true ∨ Dp z.K H u (.tuple ds) ∧ SeqAt.shaped (.tuple ds) = true) ∧ SeqAt.shaped d = true ∧ b = ds.any fun z => PyData.eqv z d) := by
  unfold in? at h
  split at h
  · split at h
    · cases h
      simp only [RelDk] at r1 r2
      exact .inl ⟨_, _, r1, r2, rfl⟩
    · cases h
  · split at h
    · rename_i d ds q1 q2
      split at h
      · rename_i hs
        cases h
        exact .inr ⟨d, ds, toPy_ok rs q1 r1, .inl ⟨toPy_ok rs q2 r2, hs.2⟩, hs.1, rfl⟩
      · cases h
    · rename_i d ds q1 q2
      split at h
      · rename_i hs
        cases h
        exact .inr ⟨d, ds, toPy_ok rs q1 r1, .inr ⟨toPy_ok rs q2 r2, hs.2⟩, hs.1, rfl⟩
      · cases h
    · cases h
theorem opm_in (hu : X.A.units + 65 < cLine) : OpM X nm (compareOp .In) dIn := by
  intro pins s σ H x y v u Q I rx ry ⟨μ, S, d1, d2, rs, r1, r2, w⟩
  unfold dIn at w
  cases h : in? S d1 d2 with
  | none => rw [h] at w; exact w.elim
  | some b =>
    rw [h] at w
    have q : Q (.bl b) H := POk.now w rs (by simp only [RelDk])
    rcases in_cases rs h r1 r2 with ⟨i, j, e1, e2, rfl⟩ | ⟨d, ds, hd, hds, sd, rfl⟩
    · unfold inStr at q
      split at q
      · rename_i c hc
        exact op_in_sign pins s σ H x y v u Q I rx ry ⟨c, j, by rw [e1, sign_of hc], e2, q⟩
      · exact op_in_str pins s σ H x y v u Q I rx ry ⟨i, j, e1, e2, q⟩
    · obtain ⟨as, q1⟩ := Dp.reads I d x v hd rx
      rcases hds with ⟨hds, ss⟩ | ⟨hds, ss⟩
      · obtain ⟨bs, q2⟩ := Dp.reads I (.list ds) y u hds ry
        exact SeqAt.in_list_reads q2 q1 (SeqAt.canLay_of_shaped ss) (SeqAt.canLay_of_shaped sd) (room_in_shaped sd hu) ⟨.bl _, H, I, rfl, q⟩
      · obtain ⟨bs, q2⟩ := Dp.reads I (.tuple ds) y u hds ry
        exact SeqAt.in_tuple_reads q2 q1 (SeqAt.canLay_of_shaped ss) (SeqAt.canLay_of_shaped sd) (room_in_shaped sd hu) ⟨.bl _, H, I, rfl, q⟩
theorem opm_notIn (hu : X.A.units + 65 < cLine) : OpM X nm (compareOp .NotIn) dNotIn := by
  intro pins s σ H x y v u Q I rx ry ⟨μ, S, d1, d2, rs, r1, r2, w⟩
  unfold dNotIn at w
  cases h : in? S d1 d2 with
  | none => rw [h] at w; exact w.elim
  | some b =>
    rw [h] at w
    have q : Q (.bl (!b)) H := POk.now w rs (by simp only [RelDk])
    rcases in_cases rs h r1 r2 with ⟨i, j, e1, e2, rfl⟩ | ⟨d, ds, hd, hds, sd, rfl⟩
    · unfold inStr at q
      split at q
      · rename_i c hc
        exact op_notIn_sign pins s σ H x y v u Q I rx ry ⟨c, j, by rw [e1, sign_of hc], e2, q⟩
      · exact op_notIn_str pins s σ H x y v u Q I rx ry ⟨i, j, e1, e2, q⟩
    · obtain ⟨as, q1⟩ := Dp.reads I d x v hd rx
      rcases hds with ⟨hds, ss⟩ | ⟨hds, ss⟩
      · obtain ⟨bs, q2⟩ := Dp.reads I (.list ds) y u hds ry
        exact SeqAt.notIn_list_reads q2 q1 (SeqAt.canLay_of_shaped ss) (SeqAt.canLay_of_shaped sd) (room_in_shaped sd hu) ⟨.bl _, H, I, rfl, q⟩
      · obtain ⟨bs, q2⟩ := Dp.reads I (.tuple ds) y u hds ry
        exact SeqAt.notIn_tuple_reads q2 q1 (SeqAt.canLay_of_shaped ss) (SeqAt.canLay_of_shaped sd) (room_in_shaped sd hu) ⟨.bl _, H, I, rfl, q⟩
end
end M2

/-! Layer M2, part f: built-in functions, methods, subscripts, what is walked. -/
namespace M2
open PySem PySem.Spec PyProof.Rows L2
section
variable {z : Cz} {μ : List Addr} {H : Hp} {S : Store}
/-- a sequence's items: a tuple, a list -/
def seqOf (S : Store) : Da → Option (List Da)
  | .tup xs => some xs
  | .fro xs => some xs
  | .ref r => match S[r]? with
    | some (.lst xs) => some xs
    | none => none
  | _ => none
theorem seqOf_ok (rs : RelS z μ H S) {d : Da} {v : V} {ds : List Da} (h : seqOf S d = some ds) (r : RelD z μ H d v) : ∃ a vs, v = .ref a ∧ RelL z μ H ds vs ∧ (SqL z.K H a vs ∨ SqT z.K H a vs) := by
  cases d with
  | tup xs =>
    cases h
    simp only [RelDk] at r
    obtain ⟨a, vs, e, t, l⟩ := r
    exact ⟨a, vs, e, l, .inr t.sq⟩
  | fro xs =>
    cases h
    simp only [RelDk] at r
    obtain ⟨a, vs, e, t, l⟩ := r
    exact ⟨a, vs, e, l, .inl t.sq⟩
  | ref r' =>
    simp only [RelDk] at r
    obtain ⟨a, e, ha⟩ := r
    unfold seqOf at h
    dsimp only at h
    split at h
    · rename_i xs hx
      cases h
      obtain ⟨vs, hv, l⟩ := rs.at_ r' a _ ha hx
      exact ⟨a, vs, e, l, .inl (SqL.of hv)⟩
    · cases h
  | _ => cases h
def strL : List Da → Option (List Str)
  | [] => some []
  | .str x :: r => (strL r).map fun ys => x :: ys
  | _ :: _ => none
theorem strL_map : ∀ ys : List Str, strL (ys.map Da.str) = some ys
  | [] => rfl
  | y :: ys => by show (strL (ys.map Da.str)).map _ = _; rw [strL_map ys]; rfl
theorem strL_ok : ∀ {ds : List Da} {vs : List V} {ys : List Str}, strL ds = some ys → RelL z μ H ds vs → vs = ys.map V.str
  | [], _, _, h, r => by cases h; simp only [RelLk] at r; subst r; rfl
  | .str x :: ds, _, _, h, r => by
    unfold strL at h
    rw [Option.map_eq_some_iff] at h
    obtain ⟨ys, h, rfl⟩ := h
    simp only [RelLk, RelDk] at r
    obtain ⟨v, vs, rfl, rfl, r2⟩ := r
    rw [strL_ok h r2]
    rfl
  | .non :: _, _, _, h, _ | .bl _ :: _, _, _, h, _ | .int _ :: _, _, _, h, _ | .tup _ :: _, _, _, h, _ | .fro _ :: _, _, _, h, _ | .ref _ :: _, _, _, h, _ | .fn _ :: _, _, _, h, _ | .ty _ :: _, _, _, h, _ | .adr _ :: _, _, _, h, _ => by cases h
def blL : List Da → Option (List Bool)
  | [] => some []
  | .bl x :: r => (blL r).map fun ys => x :: ys
  | _ :: _ => none
theorem blL_map : ∀ ys : List Bool, blL (ys.map Da.bl) = some ys
  | [] => rfl
  | y :: ys => by show (blL (ys.map Da.bl)).map _ = _; rw [blL_map ys]; rfl
theorem blL_ok : ∀ {ds : List Da} {vs : List V} {ys : List Bool}, blL ds = some ys → RelL z μ H ds vs → vs = ys.map V.bl
  | [], _, _, h, r => by cases h; simp only [RelLk] at r; subst r; rfl
  | .bl x :: ds, _, _, h, r => by
    unfold blL at h
    rw [Option.map_eq_some_iff] at h
    obtain ⟨ys, h, rfl⟩ := h
    simp only [RelLk, RelDk] at r
    obtain ⟨v, vs, rfl, rfl, r2⟩ := r
    rw [blL_ok h r2]
    rfl
  | .non :: _, _, _, h, _ | .str _ :: _, _, _, h, _ | .int _ :: _, _, _, h, _ | .tup _ :: _, _, _, h, _ | .fro _ :: _, _, _, h, _ | .ref _ :: _, _, _, h, _ | .fn _ :: _, _, _, h, _ | .ty _ :: _, _, _, h, _ | .adr _ :: _, _, _, h, _ => by cases h
theorem strs_rel : ∀ ys : List Str, RelL z μ H (ys.map Da.str) (ys.map V.str)
  | [] => by simp only [List.map_nil, RelLk]
  | y :: ys => by
    simp only [List.map_cons, RelLk, RelDk]
    exact ⟨_, _, rfl, rfl, strs_rel ys⟩
theorem rel1 {d : Da} {vs : List V} (r : RelL z μ H [d] vs) : ∃ v, vs = [v] ∧ RelD z μ H d v := by
  simp only [RelLk] at r
  obtain ⟨v, w, rfl, h, rfl⟩ := r
  exact ⟨v, rfl, h⟩
theorem rel2 {d e : Da} {vs : List V} (r : RelL z μ H [d, e] vs) : ∃ v w, vs = [v, w] ∧ RelD z μ H d v ∧ RelD z μ H e w := by
  simp only [RelLk] at r
  obtain ⟨v, _, rfl, h, w, _, rfl, h2, rfl⟩ := r
  exact ⟨v, w, rfl, h, h2⟩
end
section
variable {X : Cx} {nm : Nv}
/-! ### built-in functions -/
def cLen : List Da → OpF := fun ds S => match ds with
  | [.str x] => if x.length ≤ sizeLine then some (.int x.length, S) else none
  | [d] => (seqOf S d).map fun xs => (.int xs.length, S)
  | _ => none
theorem crm_len : CallM X nm (.builtin "len") cLen := by
  intro pins s σ H xs us Q I r ⟨μ, S, ds, rs, rl, p⟩
  match ds, p with
  | [d], p =>
    obtain ⟨v, rfl, rd⟩ := rel1 (z := cz X nm) rl
    by_cases hs : ∃ x, d = .str x
    · obtain ⟨x, rfl⟩ := hs
      simp only [RelDk] at rd
      subst rd
      unfold cLen at p
      dsimp only at p
      split at p
      · rename_i hl
        exact call_len_str pins s σ H _ us Q I r ⟨x, rfl, hl, p.now rs (by simp only [RelDk])⟩
      · exact p.elim
    · have e : cLen [d] S = (seqOf S d).map fun xs => (.int xs.length, S) := by
        cases d <;> first | rfl | exact absurd ⟨_, rfl⟩ hs
      rw [e] at p
      cases h : seqOf S d with
      | none => rw [h] at p; exact p.elim
      | some xs =>
        rw [h] at p
        obtain ⟨a, vs, rfl, l, sq⟩ := seqOf_ok rs h rd
        refine call_len_seq pins s σ H _ us Q I r ⟨a, vs, rfl, sq, ?_⟩
        rw [← l.length]
        exact POk.now p rs (by simp only [RelDk])
  | [], p => exact p.elim
  | _ :: _ :: _, p => exact absurd p (by unfold cLen; split <;> first | exact id | (rename_i h; cases h))
def cAll : List Da → OpF := fun ds S => match ds with
  | [d] => (seqOf S d).bind fun xs => (blL xs).bind fun bs => match d with
    | .tup _ => none
    | _ => some (.bl (bs.all id), S)
  | _ => none
def cAny : List Da → OpF := fun ds S => match ds with
  | [d] => (seqOf S d).bind fun xs => (blL xs).bind fun bs => match d with
    | .tup _ => none
    | _ => some (.bl (bs.any id), S)
  | _ => none
theorem lst_of (z : Cz) {μ : List Addr} {H : Hp} {S : Store} (rs : RelS z μ H S) {d : Da} {v : V} {ds : List Da} (h : seqOf S d = some ds) (hn : ∀ xs, d ≠ .tup xs) (r : RelD z μ H d v) : ∃ a vs, v = .ref a ∧ RelL z μ H ds vs ∧ SqL z.K H a vs := by
  cases d with
  | tup xs => exact absurd rfl (hn xs)
  | fro xs =>
    cases h
    simp only [RelDk] at r
    obtain ⟨a, vs, e, t, l⟩ := r
    exact ⟨a, vs, e, l, t.sq⟩
  | ref r' =>
    simp only [RelDk] at r
    obtain ⟨a, e, ha⟩ := r
    unfold seqOf at h
    dsimp only at h
    split at h
    · rename_i xs hx
      cases h
      obtain ⟨vs, hv, l⟩ := rs.at_ r' a _ ha hx
      exact ⟨a, vs, e, l, SqL.of hv⟩
    · cases h
  | _ => cases h
theorem crm_all (hc : X.calm = true) : CallM X nm (.builtin "all") cAll := by
  intro pins s σ H xs us Q I r ⟨μ, S, ds, rs, rl, p⟩
  match ds, p with
  | [d], p =>
    obtain ⟨v, rfl, rd⟩ := rel1 (z := cz X nm) rl
    unfold cAll at p
    dsimp only at p
    cases h : seqOf S d with
    | none => rw [h] at p; exact p.elim
    | some ys =>
      rw [h] at p
      rw [Option.bind_some] at p
      cases hb : blL ys with
      | none => rw [hb] at p; exact p.elim
      | some bs =>
        rw [hb, Option.bind_some] at p
        by_cases ht : ∃ xs, d = .tup xs
        · obtain ⟨xs, rfl⟩ := ht; exact p.elim
        · have p' : POk (cz X nm) (RelD (cz X nm)) μ H Q (some (.bl (bs.all id), S)) := by
            cases d <;> first | exact p | exact absurd ⟨_, rfl⟩ ht
          obtain ⟨a, vs, rfl, l, sq⟩ := lst_of (cz X nm) rs h (fun xs e => ht ⟨xs, e⟩) rd
          rw [blL_ok hb l] at sq
          exact cr_all hc pins s σ H _ us Q I r ⟨a, bs, rfl, sq, p'.now rs (by simp only [RelDk])⟩
  | [], p => exact p.elim
  | _ :: _ :: _, p => exact p.elim
theorem crm_any (hc : X.calm = true) : CallM X nm (.builtin "any") cAny := by
  intro pins s σ H xs us Q I r ⟨μ, S, ds, rs, rl, p⟩
  match ds, p with
  | [d], p =>
    obtain ⟨v, rfl, rd⟩ := rel1 (z := cz X nm) rl
    unfold cAny at p
    dsimp only at p
    cases h : seqOf S d with
    | none => rw [h] at p; exact p.elim
    | some ys =>
      rw [h] at p
      rw [Option.bind_some] at p
      cases hb : blL ys with
      | none => rw [hb] at p; exact p.elim
      | some bs =>
        rw [hb, Option.bind_some] at p
        by_cases ht : ∃ xs, d = .tup xs
        · obtain ⟨xs, rfl⟩ := ht; exact p.elim
        · have p' : POk (cz X nm) (RelD (cz X nm)) μ H Q (some (.bl (bs.any id), S)) := by
            cases d <;> first | exact p | exact absurd ⟨_, rfl⟩ ht
          obtain ⟨a, vs, rfl, l, sq⟩ := lst_of (cz X nm) rs h (fun xs e => ht ⟨xs, e⟩) rd
          rw [blL_ok hb l] at sq
          exact cr_any hc pins s σ H _ us Q I r ⟨a, bs, rfl, sq, p'.now rs (by simp only [RelDk])⟩
  | [], p => exact p.elim
  | _ :: _ :: _, p => exact p.elim
/-- str(n) -/
def cStr : List Da → OpF := fun ds S => match ds with
  | [.int i] => if i.natAbs.log2 < 1920 then some (.str (toString i), S) else none
  | _ => none
theorem crm_str : CallM X nm (.type "str") cStr := by
  intro pins s σ H xs us Q I r ⟨μ, S, ds, rs, rl, p⟩
  match ds, p with
  | [.int i], p =>
    obtain ⟨v, rfl, rd⟩ := rel1 (z := cz X nm) rl
    simp only [RelDk] at rd
    subst rd
    unfold cStr at p
    dsimp only at p
    split at p
    · rename_i hl
      exact call_str_int pins s σ H _ us Q I r ⟨i, rfl, hl, p.now rs (by simp only [RelDk])⟩
    · exact p.elim
  | [.non], p | [.bl _], p | [.str _], p | [.tup _], p | [.fro _], p | [.ref _], p | [.fn _], p | [.ty _], p | [.adr _], p => exact p.elim
  | [], p => exact p.elim
  | _ :: _ :: _, p => exact absurd p (by unfold cStr; split <;> first | exact id | (rename_i h; cases h))
/-- int(flag), int(n), int(text) -/
def cInt : List Da → OpF := fun ds S => match ds with
  | [.int i] => some (.int i, S)
  | [.bl k] => some (.int (if k then 1 else 0), S)
  | [.str a] => match PySem.intText? a with
    | some n => if a.length ≤ 640 then some (.int n, S) else none
    | none => none
  | _ => none
theorem crm_int : CallM X nm (.type "int") cInt := by
  intro pins s σ H xs us Q I r ⟨μ, S, ds, rs, rl, p⟩
  match ds, p with
  | [.int i], p =>
    obtain ⟨v, rfl, rd⟩ := rel1 (z := cz X nm) rl
    simp only [RelDk] at rd
    subst rd
    exact call_int1 pins s σ H _ us Q I r (.inl ⟨i, rfl, POk.now p rs (by simp only [RelDk])⟩)
  | [.bl i], p =>
    obtain ⟨v, rfl, rd⟩ := rel1 (z := cz X nm) rl
    simp only [RelDk] at rd
    subst rd
    exact call_int1 pins s σ H _ us Q I r (.inr ⟨i, rfl, POk.now p rs (by simp only [RelDk])⟩)
  | [.str a], p =>
    obtain ⟨v, rfl, rd⟩ := rel1 (z := cz X nm) rl
    simp only [RelDk] at rd
    subst rd
    unfold cInt at p
    dsimp only at p
    split at p
    · rename_i n hn
      split at p
      · rename_i hl
        exact call_int_str pins s σ H _ us Q I r ⟨a, n, rfl, hn, hl, p.now rs (by simp only [RelDk])⟩
      · exact p.elim
    · exact p.elim
  | [.non], p | [.tup _], p | [.fro _], p | [.ref _], p | [.fn _], p | [.ty _], p | [.adr _], p => exact p.elim
  | [], p => exact p.elim
  | _ :: _ :: _, p => exact absurd p (by unfold cInt; split <;> first | exact id | (rename_i h; cases h))
def cTuple : List Da → OpF := fun ds S => match ds with
  | [d] => (seqOf S d).map fun xs => (.tup xs, S)
  | _ => none
theorem crm_tuple : CallM X nm (.type "tuple") cTuple := by
  intro pins s σ H xs us Q I r ⟨μ, S, ds, rs, rl, p⟩
  match ds, p with
  | [d], p =>
    obtain ⟨v, rfl, rd⟩ := rel1 (z := cz X nm) rl
    unfold cTuple at p
    dsimp only at p
    cases h : seqOf S d with
    | none => rw [h] at p; exact p.elim
    | some ys =>
      rw [h] at p
      by_cases ht : ∃ xs, d = .tup xs
      · obtain ⟨xs, rfl⟩ := ht
        cases h
        have rd' := rd
        simp only [RelDk] at rd
        obtain ⟨a, vs, rfl, t, l⟩ := rd
        exact call_tuple_of pins s σ H _ us Q I r ⟨a, vs, rfl, .inr ⟨t.sq, POk.now p rs rd'⟩⟩
      · obtain ⟨a, vs, rfl, l, sq⟩ := lst_of (cz X nm) rs h (fun xs e => ht ⟨xs, e⟩) rd
        exact call_tuple_of pins s σ H _ us Q I r ⟨a, vs, rfl, .inl ⟨sq, fun q hq => POk.tup p rs l hq⟩⟩
  | [], p => exact p.elim
  | _ :: _ :: _, p => exact p.elim
def cList : List Da → OpF := fun ds S => match ds with
  | [d] => (seqOf S d).map fun xs => (.ref S.length, S ++ [.lst xs])
  | _ => none
theorem crm_list : CallM X nm (.type "list") cList := by
  intro pins s σ H xs us Q I r ⟨μ, S, ds, rs, rl, p⟩
  match ds, p with
  | [d], p =>
    obtain ⟨v, rfl, rd⟩ := rel1 (z := cz X nm) rl
    unfold cList at p
    dsimp only at p
    cases h : seqOf S d with
    | none => rw [h] at p; exact p.elim
    | some ys =>
      rw [h] at p
      obtain ⟨a, vs, rfl, l, sq⟩ := seqOf_ok rs h rd
      exact call_list_of pins s σ H _ us Q I r ⟨a, vs, rfl, sq, fun q hq => POk.push p rs l hq⟩
  | [], p => exact p.elim
  | _ :: _ :: _, p => exact p.elim
/-- the name of a datum's type -/
def tyN (S : Store) : Da → Option String
  | .non => some "NoneType"
  | .bl _ => some "bool"
  | .int _ => some "int"
  | .str _ => some "str"
  | .tup _ => some "tuple"
  | .fro _ => some "list"
  | .ref r => match S[r]? with
    | some (.lst _) => some "list"
    | none => none
  | _ => none
theorem tyN_ok {z : Cz} {μ : List Addr} {H : Hp} {S : Store} (rs : RelS z μ H S) {d : Da} {v : V} {T : String} (h : tyN S d = some T) (r : RelD z μ H d v) : TyX z.K H v (.type T) := by
  cases d with
  | non => cases h; simp only [RelDk] at r; subst r; exact .base .non
  | bl b => cases h; simp only [RelDk] at r; subst r; exact .base (.bl b)
  | int b => cases h; simp only [RelDk] at r; subst r; exact .base (.int b)
  | str b => cases h; simp only [RelDk] at r; subst r; exact .base (.str b)
  | tup xs =>
    cases h
    simp only [RelDk] at r
    obtain ⟨a, vs, rfl, t, l⟩ := r
    rcases t with ⟨_, t | ⟨o, t⟩⟩ | ⟨o, its, n, hk, hc, _⟩
    · exact .base (.tup t)
    · exact .fTuple t
    · exact .kTuple hk hc
  | fro xs =>
    cases h
    simp only [RelDk] at r
    obtain ⟨a, vs, rfl, t, l⟩ := r
    rcases t with ⟨_, o, t⟩ | ⟨o, its, n, hk, hc, _⟩
    · exact .base (.frz t)
    · exact .kList hk hc
  | ref r' =>
    simp only [RelDk] at r
    obtain ⟨a, rfl, ha⟩ := r
    unfold tyN at h
    dsimp only at h
    split at h
    · rename_i xs hx
      cases h
      obtain ⟨vs, hv, l⟩ := rs.at_ r' a _ ha hx
      exact .base (.lst hv)
    · cases h
  | fn _ => cases h
  | ty _ => cases h
  | adr _ => cases h
def cIsi : List Da → OpF := fun ds S => match ds with
  | [d, .ty n] => (tyN S d).bind fun T => (kitB T n).map fun b => (.bl b, S)
  | _ => none
theorem crm_isi : CallM X nm (.builtin "isinstance") cIsi := by
  intro pins s σ H xs us Q I r ⟨μ, S, ds, rs, rl, p⟩
  match ds, p with
  | [d, e], p =>
    by_cases he : ∃ n, e = .ty n
    · obtain ⟨n, rfl⟩ := he
      obtain ⟨v, w, rfl, rd, re⟩ := rel2 (z := cz X nm) rl
      simp only [RelDk] at re
      subst re
      unfold cIsi at p
      dsimp only at p
      cases h : tyN S d with
      | none => rw [h] at p; exact p.elim
      | some T =>
        rw [h, Option.bind_some] at p
        cases hk : kitB T n with
        | none => rw [hk] at p; exact p.elim
        | some b =>
          rw [hk] at p
          exact call_isi pins s σ H _ us Q I r ⟨v, .ty n, .type T, .type n, b, rfl, .ty n, tyN_ok rs h rd, kit_ty hk, POk.now p rs (by simp only [RelDk])⟩
    · exact absurd p (by cases e <;> first | exact id | exact absurd ⟨_, rfl⟩ he)
  | [], p => exact p.elim
  | [_], p => exact p.elim
  | _ :: _ :: _ :: _, p => exact absurd p (by unfold cIsi; split <;> first | exact id | (rename_i h; cases h))
theorem me_ty {x : Str} {T : String} {W : WX} {pos : Pos} (hg : Gl X x) (hm : X.mg x = none) (hv : bootBuiltins x = some (.type T)) (hn : x ≠ "__name__" := by decide) (hd : (x == ("__debug__" : Str)) = false := by decide) : ME X nm W (.Name x pos) (fun _ => pure (.ty T)) :=
  me_const (v := .ty T) (pe_bltn hg hm hv rfl hn hd) fun _ _ => by simp only [RelDk]
/-- repr(x) -/
def cRepr : List Da → OpF := fun ds S => match ds with
  | [d] => (toPy S d).bind fun p => if p.showable = true ∧ SeqAt.shaped p = true ∧ p.shown.length ≤ sizeLine then some (.str p.shown, S) else none
  | _ => none
theorem dp_noDict {K : PySem.W.Frag} {H : Hp} {v : V} {p : PyData} (h : SeqAt.shaped p = true) : p.hasDict = false := PyData.hasDict_of_canLay p (SeqAt.canLay_of_shaped h)
theorem crm_repr (hg : X.A.guards = some []) (hu : X.A.units + 70 < cLine) : CallM X nm (.builtin "repr") cRepr := by
  intro pins s σ H xs us Q I r ⟨μ, S, ds, rs, rl, p⟩
  match ds, p with
  | [d], p =>
    obtain ⟨v, rfl, rd⟩ := rel1 (z := cz X nm) rl
    obtain ⟨u, rfl, rv⟩ := vals1 r
    unfold cRepr at p
    dsimp only at p
    cases h : toPy S d with
    | none => rw [h] at p; exact p.elim
    | some py =>
      rw [h, Option.bind_some] at p
      split at p
      · rename_i hc
        obtain ⟨h1, h2, h3⟩ := hc
        have q : Q (.str py.shown) H := p.now rs (by simp only [RelDk])
        have hd : Dp X.K H v py := toPy_ok rs h rd
        have fin : ∀ h' u' tk, (∀ b o, s.heap.get? b = some o → h'.get? b = some o) → EP X pins σ Q (.str py.shown u') { s with heap := h', toks := tk } := fun h' u' tk k => ⟨.str py.shown, H, I.kept (t' := tk) k, ⟨_, rfl⟩, q⟩
        have dep := SeqAt.depth_of_shaped h2
        cases py with
        | none =>
          cases hd
          cases rv
          simp only [PyData.shown] at fin
          exact PySem.P.repr_of_none (fin s.heap _ _ fun _ _ e => e)
        | bool b =>
          cases hd
          cases rv
          simp only [PyData.shown] at fin
          exact PySem.P.repr_of_bool (fin s.heap _ _ fun _ _ e => e)
        | int i =>
          cases hd
          obtain ⟨t, rfl⟩ := rv
          simp only [PyData.shown] at fin
          exact PySem.P.repr_of_int (by simpa [PyData.showable] using h1) (fin s.heap _ _ fun _ _ e => e)
        | str x =>
          cases hd
          obtain ⟨t, rfl⟩ := rv
          simp only [PyData.shown] at fin h3
          exact PySem.P.repr_of_str (fin s.heap _ _ fun _ _ e => e) h3
        | list xs =>
          obtain ⟨as, rr⟩ := Dp.reads I _ v u hd rv
          cases hd with
          | lst _ _ =>
            cases rv
            exact repr_of_reads' rr h1 (PyData.noDict_hsm (dp_noDict (K := X.K) (H := H) (v := .non) h2)) hg (by omega) (fun _ _ e => e) fin h3
        | tuple xs =>
          obtain ⟨as, rr⟩ := Dp.reads I _ v u hd rv
          cases hd with
          | tup _ _ =>
            cases rv
            exact repr_of_reads' rr h1 (PyData.noDict_hsm (dp_noDict (K := X.K) (H := H) (v := .non) h2)) hg (by omega) (fun _ _ e => e) fin h3
        | dict kvs => cases hd
      · exact p.elim
  | [], p => exact p.elim
  | _ :: _ :: _, p => exact p.elim
end
end M2

/-! Layer M2, part g: methods, subscripts, slices, what is walked. -/
namespace M2
open PySem PySem.Spec PyProof.Rows L2
section
variable {X : Cx} {nm : Nv} {W : WX} {e o a b : Expr} {es : List Expr} {pos cpos apos : Pos} {fo fe fa fb : Ev → M Da} {fs : Ev → M (List Da)}
/-! ### methods of built-in types -/
def rMm (z : Cz) (h : Da → List Da → OpF) : V → List V → Hp → VK → Prop := fun x xs H Q => ∃ μ S d ds, RelS z μ H S ∧ RelD z μ H d x ∧ RelL z μ H ds xs ∧ POk z (RelD z) μ H Q (h d ds S)
abbrev MethM (X : Cx) (nm : Nv) (id : String) (h : Da → List Da → OpF) : Prop := MtR X id (rMm (cz X nm) h)
def isTy (T : String) (d : Da) : M Unit := fun S => match d with
  | .str _ => if T = "str" then .ok () S else .bad
  | .ref r => match S[r]? with
    | some (.lst _) => if T = "list" then .ok () S else .bad
    | none => .bad
  | _ => .bad
def methE (T : String) (fo : Ev → M Da) (fs : Ev → M (List Da)) (h : Da → List Da → OpF) : Ev → M Da := fun ρ => fo ρ >>= fun d => isTy T d >>= fun _ => fs ρ >>= fun ds => liftO (h d ds)
theorem me_meth {T : String} {name : Str} {id : String} {h : Da → List Da → OpF} (pa : PlainAttrs T) (slot : Slot T name id) (hty : typeOf (.builtin id) = pure (.type "method_descriptor")) (hm : MethM X nm id h) (ho : ME X nm W o fo) (ha : MA X nm W (e :: es) fs)
    (hbase : attributeBase o name X.env (eval o X.env) = eval o X.env := by rfl)
    (hfew : ((backTo cpos (starEach (e :: es) X.env)).all (fun x => !x.1) && (backToKw cpos (keywordEach [] X.env)).all (fun x => x.1.isSome)
      && decide ((e :: es).length + ([] : List Keyword).length + (if ([] : List Keyword).isEmpty then 0 else 1) < 30)) = true := by rfl)
    (hline : (apos.endLine == cpos.line) = true := by rfl) (hs : starEach (e :: es) X.env = (false, eval e X.env) :: starEach es X.env := by rfl) (hplain : (backTo cpos (starEach es X.env)).any (·.1) = false := by rfl) :
    ME X nm W (.Call (.Attribute o name apos) (e :: es) [] cpos) (methE T fo fs h) := PE.of (pe_bm pa slot hty hm ho ha hbase hfew hline hs hplain) fun σ H Q ⟨μ, ρ, S, rs, re, p⟩ => by
  refine ⟨μ, ρ, S, rs, re, (post_bind (RelD (cz X nm)) p).imp fun x H1 ⟨μ1, S1, d, e1, rs1, r1, p1⟩ => ?_⟩
  have key : tyV X.K T x H1 ∧ isTy T d S1 = .ok () S1 := by
    cases d with
    | str s =>
      simp only [RelDk] at r1
      subst r1
      rw [bind_ap] at p1
      unfold isTy at p1 ⊢
      dsimp only at p1 ⊢
      split at p1
      · rename_i ht
        exact ⟨ht, if_pos ht⟩
      · exact p1.elim
    | ref r =>
      simp only [RelDk] at r1
      obtain ⟨q, rfl, hq⟩ := r1
      rw [bind_ap] at p1
      unfold isTy at p1 ⊢
      dsimp only at p1 ⊢
      cases hx : S1[r]? with
      | none => rw [hx] at p1; exact p1.elim
      | some ob =>
        rw [hx] at p1
        cases ob with
        | lst xs =>
          dsimp only at p1 ⊢
          split at p1
          · rename_i ht
            obtain ⟨vs, hv, _⟩ := rs1.at_ r q _ hq hx
            exact ⟨.inl ⟨ht, vs, SqL.of hv⟩, if_pos ht⟩
          · exact p1.elim
    | _ => exact p1.elim
  rw [bind_ap, key.2] at p1
  refine ⟨key.1, μ1, ρ, S1, rs1, re.ext e1, (post_bind (RelL (cz X nm)) p1).imp fun xs H2 ⟨μ2, S2, ds, e2, rs2, r2, p2⟩ => ?_⟩
  exact ⟨μ2, S2, d, ds, rs2, r1.ext e2, r2, p2.pok⟩
def hAppend : Da → List Da → OpF := fun d ds S => match d, ds with
  | .ref r, [y] => match S[r]? with
    | some (.lst xs) => if xs.length < sizeLine then some (.non, S.set r (.lst (xs ++ [y]))) else none
    | none => none
  | _, _ => none
theorem mtm_append : MethM X nm "list.append" hAppend := by
  intro pins s σ H x xs v us Q I rx rxs ⟨μ, S, d, ds, rs, rd, rl, p⟩
  cases d with
  | ref r =>
    match ds, p with
    | [y], p =>
      obtain ⟨yv, rfl, ry⟩ := rel1 (z := cz X nm) rl
      simp only [RelDk] at rd
      obtain ⟨q, rfl, hq⟩ := rd
      unfold hAppend at p
      dsimp only at p
      cases hx : S[r]? with
      | none => rw [hx] at p; exact p.elim
      | some ob =>
        rw [hx] at p
        cases ob with
        | lst ys =>
          dsimp only at p
          split at p
          · rename_i hl
            obtain ⟨vs, hv, l⟩ := rs.at_ r q _ hq hx
            have l2 := l.app (.one ry)
            exact mt_append pins s σ H _ _ v us Q I rx rxs ⟨q, vs, yv, rfl, rfl, hv, by rw [← l.length]; exact hl, p μ _ _ (ext_set rs (List.mem_of_getElem? hq)) (rs.set hq l2) (by simp only [RelDk])⟩
          · exact p.elim
    | [], p => exact p.elim
    | _ :: _ :: _, p => exact p.elim
  | _ => exact p.elim
/-- methods of texts -/
def hJoin : Da → List Da → OpF := fun d ds S => match d, ds with
  | .str x, [y] => (seqOf S y).bind fun zs => (strL zs).bind fun ys => if (ys.map (·.length)).sum + ys.length * x.length ≤ 16777216 then some (.str (Txt.join x ys), S) else none
  | _, _ => none
theorem mtm_join : MethM X nm "str.join" hJoin := by
  intro pins s σ H x xs v us Q I rx rxs ⟨μ, S, d, ds, rs, rd, rl, p⟩
  cases d with
  | str t =>
    match ds, p with
    | [y], p =>
      obtain ⟨yv, rfl, ry⟩ := rel1 (z := cz X nm) rl
      simp only [RelDk] at rd
      subst rd
      unfold hJoin at p
      dsimp only at p
      cases h : seqOf S y with
      | none => rw [h] at p; exact p.elim
      | some zs =>
        rw [h, Option.bind_some] at p
        cases hs : strL zs with
        | none => rw [hs] at p; exact p.elim
        | some ys =>
          rw [hs, Option.bind_some] at p
          split at p
          · rename_i hl
            obtain ⟨q, vs, rfl, l, sq⟩ := seqOf_ok rs h ry
            rw [strL_ok hs l] at sq
            exact mt_join pins s σ H _ _ v us Q I rx rxs ⟨t, q, ys, rfl, rfl, sq, hl, p.now rs (by simp only [RelDk])⟩
          · exact p.elim
    | [], p => exact p.elim
    | _ :: _ :: _, p => exact p.elim
  | _ => exact p.elim
def hSplit : Da → List Da → OpF := fun d ds S => match d, ds with
  | .str x, [.str y] => if (y.length == 0) = false ∧ x.length + 2 ≤ sizeLine then some (.ref S.length, S ++ [.lst ((Txt.split x y).map Da.str)]) else none
  | _, _ => none
theorem mtm_split : MethM X nm "str.split" hSplit := by
  intro pins s σ H x xs v us Q I rx rxs ⟨μ, S, d, ds, rs, rd, rl, p⟩
  cases d with
  | str t =>
    match ds, p with
    | [.str y], p =>
      obtain ⟨yv, rfl, ry⟩ := rel1 (z := cz X nm) rl
      simp only [RelDk] at rd ry
      subst rd; subst ry
      unfold hSplit at p
      dsimp only at p
      split at p
      · rename_i hl
        exact mt_split pins s σ H _ _ v us Q I rx rxs ⟨t, y, rfl, rfl, hl.1, hl.2, fun q hq => p.push rs (strs_rel _) hq⟩
      · exact p.elim
    | [.non], p | [.bl _], p | [.int _], p | [.tup _], p | [.fro _], p | [.ref _], p | [.fn _], p | [.ty _], p | [.adr _], p => exact p.elim
    | [], p => exact p.elim
    | _ :: _ :: _, p => exact absurd p (by unfold hSplit; split <;> first | exact id | (rename_i h; cases h))
  | _ => exact p.elim
def hPart : Da → List Da → OpF := fun d ds S => match d, ds with
  | .str x, [.str y] => if (y.length == 0) = false ∧ x.length ≤ sizeLine then some (.tup [.str (Txt.partition x y).1, .str (Txt.partition x y).2.1, .str (Txt.partition x y).2.2], S) else none
  | _, _ => none
theorem mtm_part : MethM X nm "str.partition" hPart := by
  intro pins s σ H x xs v us Q I rx rxs ⟨μ, S, d, ds, rs, rd, rl, p⟩
  cases d with
  | str t =>
    match ds, p with
    | [.str y], p =>
      obtain ⟨yv, rfl, ry⟩ := rel1 (z := cz X nm) rl
      simp only [RelDk] at rd ry
      subst rd; subst ry
      unfold hPart at p
      dsimp only at p
      split at p
      · rename_i hl
        exact mt_partition pins s σ H _ _ v us Q I rx rxs ⟨t, y, rfl, rfl, hl.1, hl.2, fun q hq => p.tup rs (strs_rel [_, _, _]) hq⟩
      · exact p.elim
    | [.non], p | [.bl _], p | [.int _], p | [.tup _], p | [.fro _], p | [.ref _], p | [.fn _], p | [.ty _], p | [.adr _], p => exact p.elim
    | [], p => exact p.elim
    | _ :: _ :: _, p => exact absurd p (by unfold hPart; split <;> first | exact id | (rename_i h; cases h))
  | _ => exact p.elim
/-! ### subscripts -/
def dIx : Da → Da → OpF := fun x y S => match y with
  | .int i => match x with
    | .str t => if t.length ≤ sizeLine then (atI t.cps.toList i).map fun c => (.str ⟨#[c]⟩, S) else none
    | _ => (seqOf S x).bind fun xs => (atI xs i).map fun d => (d, S)
  | _ => none
theorem atI_rel {z : Cz} {μ : List Addr} {H : Hp} {ds : List Da} {vs : List V} (l : RelL z μ H ds vs) {i : Int} {d : Da} (h : atI ds i = some d) : ∃ v, atI vs i = some v ∧ RelD z μ H d v := by
  unfold atI at h ⊢
  rw [← l.length]
  cases hk : ixN ds.length i with
  | none => rw [hk] at h; cases h
  | some j =>
    rw [hk, Option.bind_some] at h
    rw [Option.bind_some]
    exact l.get h
theorem ixm : IxR X (rM (cz X nm) dIx) := by
  intro value slice pins s σ H x y v u Q I rx ry ⟨μ, S, d1, d2, rs, r1, r2, p⟩ hsub
  cases d2 with
  | int i =>
    simp only [RelDk] at r2
    by_cases hs : ∃ t, d1 = .str t
    · obtain ⟨t, rfl⟩ := hs
      simp only [RelDk] at r1
      unfold dIx at p
      dsimp only at p
      split at p
      · rename_i hl
        cases h : atI t.cps.toList i with
        | none => rw [h] at p; exact p.elim
        | some c =>
          rw [h] at p
          exact ix_str value slice pins s σ H x y v u Q I rx ry ⟨t, i, c, r1, r2, hl, h, POk.now p rs (by simp only [RelDk])⟩ hsub
      · exact p.elim
    · have e : dIx d1 (.int i) S = (seqOf S d1).bind fun xs => (atI xs i).map fun d => (d, S) := by
        cases d1 <;> first | rfl | exact absurd ⟨_, rfl⟩ hs
      rw [e] at p
      cases h : seqOf S d1 with
      | none => rw [h] at p; exact p.elim
      | some xs =>
        rw [h, Option.bind_some] at p
        cases hk : atI xs i with
        | none => rw [hk] at p; exact p.elim
        | some d =>
          rw [hk] at p
          obtain ⟨q, vs, e1, l, sq⟩ := seqOf_ok rs h r1
          obtain ⟨w, hw, rw'⟩ := atI_rel l hk
          have fin : Q w H := POk.now p rs rw'
          rcases sq with sq | sq
          · exact ix_list value slice pins s σ H x y v u Q I rx ry ⟨q, vs, i, w, e1, r2, sq, hw, fin⟩ hsub
          · exact ix_tup value slice pins s σ H x y v u Q I rx ry ⟨q, vs, i, w, e1, r2, sq, hw, fin⟩ hsub
  | _ => exact p.elim
theorem me_ix (ha : ME X nm W a fa) (hb : ME X nm W b fb) (hs : PlainIx b := by intro _ _; rfl) : ME X nm W (.Subscript a b pos) (op2 dIx fa fb) := PE.of (pe_ix ixm ha hb hs) fun _ _ _ q => op2_run q
/-! ### slices -/
def cutD (xs : List Da) (lo hi : Option Int) : List Da := (xs.drop (HT.sIx xs.length 0 lo)).take (HT.sIx xs.length xs.length hi - HT.sIx xs.length 0 lo)
theorem cut_rel {z : Cz} {μ : List Addr} {H : Hp} {ds : List Da} {vs : List V} (l : RelL z μ H ds vs) (lo hi : Option Int) : RelL z μ H (cutD ds lo hi) (cutV vs lo hi) := by
  unfold cutD cutV
  rw [← l.length]
  exact (l.drop _).take _
def dSl (lo hi : Option Int) : Da → OpF := fun x S => match x with
  | .str t => if t.length ≤ sizeLine then some (.str (cutS t lo hi), S) else none
  | .tup xs => if ¬ (HT.sIx xs.length 0 lo = 0 ∧ HT.sIx xs.length xs.length hi = xs.length) then some (.tup (cutD xs lo hi), S) else none
  | d => (seqOf S d).map fun xs => (.ref S.length, S ++ [.lst (cutD xs lo hi)])
def rSl (z : Cz) (h : Option Int → Option Int → Da → OpF) : V → Option Int → Option Int → Hp → VK → Prop := fun x lo hi H Q => ∃ μ S d, RelS z μ H S ∧ RelD z μ H d x ∧ POk z (RelD z) μ H Q (h lo hi d S)
theorem slm : SlR X (rSl (cz X nm) dSl) := by
  intro pins s σ H x v vl vu lo hi sl Q I rx hsl hlo hhi ⟨μ, S, d, rs, rd, p⟩
  cases d with
  | str t =>
    simp only [RelDk] at rd
    unfold dSl at p
    dsimp only at p
    split at p
    · rename_i hl
      exact sl_str pins s σ H x v vl vu lo hi sl Q I rx hsl hlo hhi ⟨t, rd, hl, p.now rs (by simp only [RelDk])⟩
    · exact p.elim
  | tup xs =>
    simp only [RelDk] at rd
    obtain ⟨q, vs, e1, t, l⟩ := rd
    unfold dSl at p
    dsimp only at p
    split at p
    · rename_i hc
      exact sl_tup pins s σ H x v vl vu lo hi sl Q I rx hsl hlo hhi ⟨q, vs, e1, t.sq, by rw [← l.length]; exact hc, fun q' hq => p.tup rs (cut_rel (z := cz X nm) l lo hi) hq⟩
    · exact p.elim
  | fro xs =>
    simp only [RelDk] at rd
    obtain ⟨q, vs, e1, t, l⟩ := rd
    exact sl_list pins s σ H x v vl vu lo hi sl Q I rx hsl hlo hhi ⟨q, vs, e1, t.sq, fun q' hq => POk.push p rs (cut_rel (z := cz X nm) l lo hi) hq⟩
  | ref r =>
    have rd' := rd
    simp only [RelDk] at rd
    obtain ⟨q, e1, hq0⟩ := rd
    have e : dSl lo hi (.ref r) S = (seqOf S (.ref r)).map fun xs => (.ref S.length, S ++ [.lst (cutD xs lo hi)]) := rfl
    rw [e] at p
    cases h : seqOf S (.ref r) with
    | none => rw [h] at p; exact p.elim
    | some xs =>
      rw [h] at p
      obtain ⟨q2, vs, e2, l, sq⟩ := lst_of (cz X nm) rs h (fun _ => nofun) rd'
      exact sl_list pins s σ H x v vl vu lo hi sl Q I rx hsl hlo hhi ⟨q2, vs, e2, sq, fun q' hq => POk.push p rs (cut_rel l lo hi) hq⟩
  | _ => exact p.elim
def RelOI (μ : List Addr) (H : Hp) (a b : Option Int) : Prop := a = b
abbrev MO (X : Cx) (nm : Nv) (W : WX) (e : Option Expr) (f : Ev → M (Option Int)) : Prop := PO X e (tM (cz X nm) RelOI W f)
theorem PO.of {oe : Option Expr} {t t' : TO} (h : PO X oe t) (k : ∀ σ H Q, t' σ H Q → t σ H Q) : PO X oe t' := ⟨fun pins s σ H Q I q => h.run pins s σ H Q I (k σ H Q q)⟩
theorem mo_none : MO X nm W none (fun _ => pure none) := PO.of po_none fun σ H Q ⟨μ, ρ, S, rs, re, p⟩ => Post.now p rs rfl
def toI : Da → M (Option Int)
  | .int i => pure (some i)
  | _ => M.bad
def someE (fe : Ev → M Da) : Ev → M (Option Int) := fun ρ => fe ρ >>= toI
theorem mo_some (h : ME X nm W e fe) : MO X nm W (some e) (someE fe) := PO.of (po_some h) fun σ H Q ⟨μ, ρ, S, rs, re, p⟩ => by
  refine ⟨μ, ρ, S, rs, re, (post_bind (RelD (cz X nm)) p).imp fun x H1 ⟨μ1, S1, d, e1, rs1, r1, p1⟩ => ?_⟩
  cases d with
  | int i => simp only [RelDk] at r1; exact ⟨i, r1, Post.now p1 rs1 rfl⟩
  | _ => exact p1.elim
def slE (fa : Ev → M Da) (fl fh : Ev → M (Option Int)) : Ev → M Da := fun ρ => fa ρ >>= fun x => fl ρ >>= fun lo => fh ρ >>= fun hi => liftO (dSl lo hi x)
theorem me_slice {lo hi : Option Expr} {fl fh : Ev → M (Option Int)} {p2 : Pos} (ha : ME X nm W a fa) (hl : MO X nm W lo fl) (hh : MO X nm W hi fh) : ME X nm W (.Subscript a (.Slice lo hi none p2) pos) (slE fa fl fh) :=
  PE.of (pe_slice slm ha hl hh) fun σ H Q ⟨μ, ρ, S, rs, re, p⟩ => by
  refine ⟨μ, ρ, S, rs, re, (post_bind (RelD (cz X nm)) p).imp fun x H1 ⟨μ1, S1, d, e1, rs1, r1, p1⟩ => ?_⟩
  refine ⟨μ1, ρ, S1, rs1, re.ext e1, (post_bind RelOI p1).imp fun l H2 ⟨μ2, S2, l2, e2, rs2, r2, p2⟩ => ?_⟩
  obtain rfl : l2 = l := r2
  refine ⟨μ2, ρ, S2, rs2, (re.ext e1).ext e2, (post_bind RelOI p2).imp fun h H3 ⟨μ3, S3, h3, e3, rs3, r3, p3⟩ => ?_⟩
  obtain rfl : h3 = h := r3
  exact ⟨μ3, S3, d, rs3, (r1.ext e2).ext e3, p3.pok⟩
/-! ### what is walked -/
theorem it_list {tg : Expr} {pins : List (Addr × Obj)} {σ : L2.St} {H1 : Hp} {s1 : Shared} {q : Addr} {xs : List V} {R : It → Hp → Prop} (I1 : L2.Inv X pins σ H1 s1) (hq : SqL X.K H1 q xs) (r : R (Itl X.K q) H1) : wpAny (model X.prog X.w) X.A (pyIter (.ref q)) (PIE X pins σ tg R) X.xe s1 := by
  obtain ⟨its, rv, p, hz⟩ := I1.list hq
  refine wpAny_pyIter_list p.isList ⟨s1.heap.objs.size, [s1.heap.objs.size], _, _, H1, rfl, I1.kept (t' := s1.toks) (fun b o e => Heap.get?_push_of_some _ e), turn_list q _, ⟨_, Heap.get?_push_size _ rfl, rfl, rfl⟩, fun b hb => ?_, r⟩
  have e : b = s1.heap.objs.size := by simpa using hb
  rw [e]
  exact I1.fpOk (Nat.le_refl _) (I1.hok.fresh (Nat.le_refl _))
theorem it_tup {tg : Expr} {pins : List (Addr × Obj)} {σ : L2.St} {H1 : Hp} {s1 : Shared} {q : Addr} {xs : List V} {R : It → Hp → Prop} (I1 : L2.Inv X pins σ H1 s1) (hq : SqT X.K H1 q xs) (r : R (Itt X.K q) H1) : wpAny (model X.prog X.w) X.A (pyIter (.ref q)) (PIE X pins σ tg R) X.xe s1 := by
  obtain ⟨its, rv, p, hz⟩ := I1.tuple hq
  refine wpAny_pyIter_tuple (show s1.heap.IsTuple q its.toArray from p) ⟨s1.heap.objs.size, [s1.heap.objs.size], _, _, H1, rfl, I1.kept (t' := s1.toks) (fun b o e => Heap.get?_push_of_some _ e), turn_tuple q _, ⟨_, Heap.get?_push_size _ rfl, rfl, rfl⟩, fun b hb => ?_, r⟩
  have e : b = s1.heap.objs.size := by simpa using hb
  rw [e]
  exact I1.fpOk (Nat.le_refl _) (I1.hok.fresh (Nat.le_refl _))
theorem it_str {tg : Expr} {pins : List (Addr × Obj)} {σ : L2.St} {H1 : Hp} {s1 : Shared} {x : Str} {t : Tok} {R : It → Hp → Prop} (I1 : L2.Inv X pins σ H1 s1) (q : R (Its x) H1) : wpAny (model X.prog X.w) X.A (pyIter (.str x t)) (PIE X pins σ tg R) X.xe s1 := by
  cases ha : x.cps.all (· < 128)
  · exact wpAny_pyIter_wide ha (pi_one (tk := s1.toks) I1 _ (turn_str _ x t "str_iterator" (.inr rfl)) ⟨_, Heap.get?_push_size _ rfl, rfl, rfl⟩ q)
  · exact wpAny_pyIter_ascii ha (pi_one (tk := s1.toks) I1 _ (turn_str _ x t "str_ascii_iterator" (.inl rfl)) ⟨_, Heap.get?_push_size _ rfl, rfl, rfl⟩ q)
/-- a datum's items; what must stay -/
def itemsOf (S : Store) : Da → Option Src
  | .str x => some (x.cps.toList.map fun c => Da.str ⟨#[c]⟩, fun _ => True)
  | .tup xs => some (xs, fun _ => True)
  | .fro xs => some (xs, fun _ => True)
  | .ref r => match S[r]? with
    | some (.lst xs) => some (xs, fun S' => S'[r]? = some (.lst xs))
    | none => none
  | _ => none
def srcE (f : Ev → M Da) : Ev → M Src := fun ρ => f ρ >>= fun d => fun S => match itemsOf S d with
  | some s => .ok s S
  | none => .bad
theorem getE {α : Type} {l : List α} {i : Nat} {x : α} (h : l[i]? = some x) : i < l.length := (List.getElem?_eq_some_iff.mp h).1
theorem src_list {z : Cz} {μ0 : List Addr} {H0 : Hp} {q : Addr} {ds : List Da} {st : Store → Prop} (k : ∀ μ H S, Ext μ0 H0 μ H → RelS z μ H S → st S → ∃ vs, SqL z.K H q vs ∧ RelL z μ H ds vs) : RelSrc z μ0 H0 (ds, st) (Itl z.K q) := by
  intro μ H S e rs hst i
  obtain ⟨vs, sq, l⟩ := k μ H S e rs hst
  refine ⟨fun d hd => ?_, fun hi => ⟨vs, sq, by rw [← l.length]; exact Nat.le_of_eq hi.symm⟩⟩
  obtain ⟨v, hv, rv⟩ := l.get hd
  refine ⟨⟨vs, v, sq, hv⟩, fun w H' hy => ?_⟩
  obtain ⟨rfl, hw⟩ := hy
  have : w = v := Option.some.inj ((hw vs sq).symm.trans hv)
  rw [this]
  exact ⟨.refl, rs, rv⟩
theorem src_tup {z : Cz} {μ0 : List Addr} {H0 : Hp} {q : Addr} {ds : List Da} {st : Store → Prop} (k : ∀ μ H S, Ext μ0 H0 μ H → RelS z μ H S → st S → ∃ vs, SqT z.K H q vs ∧ RelL z μ H ds vs) : RelSrc z μ0 H0 (ds, st) (Itt z.K q) := by
  intro μ H S e rs hst i
  obtain ⟨vs, sq, l⟩ := k μ H S e rs hst
  refine ⟨fun d hd => ?_, fun hi => ⟨vs, sq, by rw [← l.length]; exact Nat.le_of_eq hi.symm⟩⟩
  obtain ⟨v, hv, rv⟩ := l.get hd
  refine ⟨⟨vs, v, sq, hv⟩, fun w H' hy => ?_⟩
  obtain ⟨rfl, hw⟩ := hy
  have : w = v := Option.some.inj ((hw vs sq).symm.trans hv)
  rw [this]
  exact ⟨.refl, rs, rv⟩
theorem src_str {z : Cz} {μ0 : List Addr} {H0 : Hp} {x : Str} {st : Store → Prop} : RelSrc z μ0 H0 (x.cps.toList.map fun c => Da.str ⟨#[c]⟩, st) (Its x) := by
  intro μ H S e rs hst i
  refine ⟨fun d hd => ?_, fun hi => by
    have hi' : x.cps.size ≤ i := by simp at hi; omega
    exact hi'⟩
  dsimp only at hd
  rw [List.getElem?_map] at hd
  cases hc : x.cps.toList[i]? with
  | none => rw [hc] at hd; cases hd
  | some c =>
    rw [hc] at hd
    cases hd
    have hc' : x.cps[i]? = some c := by rw [← Array.getElem?_toList]; exact hc
    refine ⟨(Array.getElem?_eq_some_iff.mp hc').1, fun v H' hy => ?_⟩
    obtain ⟨rfl, c', hc2, rfl⟩ := hy
    rw [hc'] at hc2
    cases hc2
    exact ⟨.refl, rs, by simp only [RelDk]⟩
theorem mi_of {tg : Expr} {f : Ev → M Da} (he : ME X nm W e f) : MI X nm W tg e (srcE f) := ⟨fun pins s σ H R I ⟨μ, ρ, S, rs, re, p⟩ => by
  refine thn (he.run pins s σ H _ I ⟨μ, ρ, S, rs, re, post_bind (RelD (cz X nm)) p⟩) fun v s1 ⟨x, H1, I1, r1, μ1, S1, d, e1, rs1, rd, p1⟩ => ?_
  cases h : itemsOf S1 d with
  | none => rw [h] at p1; exact p1.elim
  | some src =>
    rw [h] at p1
    have fin : ∀ J, RelSrc (cz X nm) μ1 H1 src J → R J H1 := fun J hJ => Post.now p1 rs1 hJ
    cases d with
    | str t =>
      cases h
      simp only [RelDk] at rd
      subst rd
      obtain ⟨tk, rfl⟩ := r1
      exact it_str I1 (fin _ src_str)
    | tup xs =>
      cases h
      simp only [RelDk] at rd
      obtain ⟨q, vs, rfl, t, l⟩ := rd
      cases r1
      exact it_tup I1 t.sq (fin _ (src_tup fun μ2 H2 S2 e2 _ _ => ⟨vs, (t.mon e2.mon).sq, l.ext e2⟩))
    | fro xs =>
      cases h
      simp only [RelDk] at rd
      obtain ⟨q, vs, rfl, t, l⟩ := rd
      cases r1
      exact it_list I1 t.sq (fin _ (src_list fun μ2 H2 S2 e2 _ _ => ⟨vs, (t.mon e2.mon).sq, l.ext e2⟩))
    | ref r =>
      simp only [RelDk] at rd
      obtain ⟨q, rfl, hq⟩ := rd
      unfold itemsOf at h
      dsimp only at h
      cases hx : S1[r]? with
      | none => rw [hx] at h; cases h
      | some ob =>
        rw [hx] at h
        cases ob with
        | lst xs =>
          cases h
          obtain ⟨vs, hv, l⟩ := rs1.at_ r q _ hq hx
          cases r1
          refine it_list I1 (SqL.of hv) (fin _ (src_list fun μ2 H2 S2 e2 rs2 h2 => ?_))
          obtain ⟨ws, hw, l2⟩ := rs2.at_ r q _ (e2.get hq) h2
          exact ⟨ws, SqL.of hw, l2⟩
    | _ => cases h⟩
end
end M2

/-! Layer M2, part h: range, zip; exceptions: raise, try. -/
namespace M2
open PySem PySem.Spec PyProof.Rows L2
section
variable {X : Cx} {nm : Nv} {W : WX} {e e2 o a b : Expr} {es : List Expr} {pos cpos apos : Pos} {fo fe fa fb : Ev → M Da} {fs : Ev → M (List Da)}
/-! ### range -/
def rngD (lo : Int) (n : Nat) : List Da := (List.range n).map fun k => Da.int (lo + (k : Nat))
def toInt : Da → Option Int
  | .int i => some i
  | _ => none
def rngE1 (fs : Ev → M (List Da)) : Ev → M Src := fun ρ => fs ρ >>= fun ds => fun S => match ds with
  | [d] => match toInt d with
    | some j => if -(2 ^ 62) ≤ j ∧ j < 2 ^ 62 then .ok (rngD 0 j.toNat, fun _ => True) S else .bad
    | none => .bad
  | _ => .bad
def rngE2 (fs : Ev → M (List Da)) : Ev → M Src := fun ρ => fs ρ >>= fun ds => fun S => match ds with
  | [d, d'] => match toInt d, toInt d' with
    | some i, some j => if -(2 ^ 62) ≤ i ∧ i < 2 ^ 62 ∧ -(2 ^ 62) ≤ j ∧ j < 2 ^ 62 then .ok (rngD i (j - i).toNat, fun _ => True) S else .bad
    | _, _ => .bad
  | _ => .bad
theorem toInt_ok {z : Cz} {μ : List Addr} {H : Hp} {d : Da} {v : V} {i : Int} (h : toInt d = some i) (r : RelD z μ H d v) : v = .int i := by
  cases d <;> cases h
  simpa only [RelDk] using r
theorem src_rng {z : Cz} {μ0 : List Addr} {H0 : Hp} {lo : Int} {n : Nat} {st : Store → Prop} : RelSrc z μ0 H0 (rngD lo n, st) (Itr lo n) := by
  intro μ H S e rs hst i
  refine ⟨fun d hd => ?_, fun hi => by
    have hi' : n ≤ i := by simp [rngD] at hi; omega
    exact hi'⟩
  have hi : i < n := by simpa [rngD] using getE hd
  unfold rngD at hd
  simp only [List.getElem?_map, List.getElem?_range hi, Option.map_some, Option.some.injEq] at hd
  subst hd
  refine ⟨hi, fun v H' hy => ?_⟩
  obtain ⟨rfl, rfl⟩ := hy
  exact ⟨.refl, rs, by simp only [RelDk]⟩
theorem mi_range1 {tg : Expr} {p : Pos} (hg : Gl X "range") (hm : X.mg "range" = none) (ha : MA X nm W [a] fs) (hs : starEach [a] X.env = [(false, eval a X.env)] := by rfl) : MI X nm W tg (.Call (.Name "range" p) [a] [] pos) (rngE1 fs) :=
  PI.of (pi_range1 hg hm ha hs) fun σ H R ⟨μ, ρ, S, rs, re, q⟩ => by
  refine ⟨μ, ρ, S, rs, re, (post_bind (RelL (cz X nm)) q).imp fun vs H1 ⟨μ1, S1, ds, e1, rs1, r1, p1⟩ => ?_⟩
  match ds, p1 with
  | [d], p1 =>
    obtain ⟨v, rfl, rv⟩ := rel1 (z := cz X nm) r1
    dsimp only at p1
    cases hd : toInt d with
    | none => rw [hd] at p1; exact p1.elim
    | some j =>
      rw [hd] at p1
      dsimp only at p1
      split at p1
      · rename_i hj
        exact ⟨j, by rw [toInt_ok hd rv], hj.1, hj.2, Post.now p1 rs1 src_rng⟩
      · exact p1.elim
  | [], p1 => exact p1.elim
  | _ :: _ :: _, p1 => exact p1.elim
theorem mi_range2 {tg : Expr} {p : Pos} (hg : Gl X "range") (hm : X.mg "range" = none) (ha : MA X nm W [a, b] fs) (hs : starEach [a, b] X.env = [(false, eval a X.env), (false, eval b X.env)] := by rfl) (hs2 : starEach [b] X.env = [(false, eval b X.env)] := by rfl) : MI X nm W tg (.Call (.Name "range" p) [a, b] [] pos) (rngE2 fs) :=
  PI.of (pi_range2 hg hm ha hs (hs2 := hs2)) fun σ H R ⟨μ, ρ, S, rs, re, q⟩ => by
  refine ⟨μ, ρ, S, rs, re, (post_bind (RelL (cz X nm)) q).imp fun vs H1 ⟨μ1, S1, ds, e1, rs1, r1, p1⟩ => ?_⟩
  match ds, p1 with
  | [d, d'], p1 =>
    obtain ⟨v, w, rfl, rv, rw'⟩ := rel2 (z := cz X nm) r1
    dsimp only at p1
    cases hd : toInt d with
    | none => rw [hd] at p1; exact p1.elim
    | some i =>
      cases hd' : toInt d' with
      | none => rw [hd, hd'] at p1; exact p1.elim
      | some j =>
        rw [hd, hd'] at p1
        dsimp only at p1
        split at p1
        · rename_i hj
          exact ⟨i, j, by rw [toInt_ok hd rv, toInt_ok hd' rw'], hj, Post.now p1 rs1 src_rng⟩
        · exact p1.elim
  | [], p1 => exact p1.elim
  | [_], p1 => exact p1.elim
  | _ :: _ :: _ :: _, p1 => exact p1.elim
end
/-! ### zip of lists and tuples, in any mix -/
def SqG (K : PySem.W.Frag) (k : Bool) (H : Hp) (q : Addr) (xs : List V) : Prop := if k = true then SqL K H q xs else SqT K H q xs
def IsG (k : Bool) (h : Heap) (q : Addr) (its : Array Value) : Prop := if k = true then h.IsList q its else h.IsTuple q its
def ItG (k : Bool) (h : Heap) (it q : Addr) (i : Nat) : Prop := if k = true then h.IsListIter it q i else h.IsTupleIter it q i
theorem sqg_at {X : Cx} {pins : List (Addr × Obj)} {σ : L2.St} {H : Hp} {s : Shared} {k : Bool} {q : Addr} {xs : List V} (I : L2.Inv X pins σ H s) (h : SqG X.K k H q xs) : ∃ its : List Value, Vals xs its ∧ IsG k s.heap q its.toArray := by
  cases k with
  | true =>
    obtain ⟨its, r, p, _⟩ := I.list (show SqL X.K H q xs from h)
    exact ⟨its, r, p.isList⟩
  | false =>
    obtain ⟨its, r, p, _⟩ := I.tuple (show SqT X.K H q xs from h)
    exact ⟨its, r, p⟩
theorem sqg_inj {X : Cx} {pins : List (Addr × Obj)} {σ : L2.St} {H : Hp} {s : Shared} {k : Bool} {q : Addr} {xs ys : List V} (I : L2.Inv X pins σ H s) (h : SqG X.K k H q xs) (h' : SqG X.K k H q ys) : xs = ys := by
  cases k with
  | true => exact I.list_inj (show SqL X.K H q xs from h) (show SqL X.K H q ys from h')
  | false => exact I.tuple_inj (show SqT X.K H q xs from h) (show SqT X.K H q ys from h')
theorem isg_lt {k : Bool} {h : Heap} {q : Addr} {its : Array Value} (p : IsG k h q its) : q < h.objs.size := by
  cases k with
  | true => obtain ⟨o, e, _⟩ := (show h.IsList q its from p); exact Heap.lt_size e
  | false => obtain ⟨o, e, _⟩ := (show h.IsTuple q its from p); exact Heap.lt_size e
theorem itg_there {k : Bool} {h : Heap} {it q : Addr} {i : Nat} (p : ItG k h it q i) : ∃ o, h.get? it = some o ∧ ∀ v, o.data ≠ .cell v := by
  cases k with
  | true =>
    obtain ⟨o, e, _, d⟩ := (show h.IsListIter it q i from p)
    exact ⟨o, e, fun v z => by rw [d] at z; cases z⟩
  | false =>
    obtain ⟨o, e, _, d⟩ := (show h.IsTupleIter it q i from p)
    exact ⟨o, e, fun v z => by rw [d] at z; cases z⟩
theorem itg_at {k : Bool} {h h' : Heap} {it q : Addr} {i : Nat} (p : ItG k h it q i) (f : ∀ o, h.get? it = some o → h'.get? it = some o) : ItG k h' it q i := by
  cases k with
  | true => exact (show h.IsListIter it q i from p).at f
  | false => exact (show h.IsTupleIter it q i from p).at f
theorem drawsG {prog : Program} {w : World} {A : Around} (hh : A.handled = none) (k : Bool) (it q : Addr) (hne : q ≠ it) (its : Array Value) :
    Draws prog w A it [it, q] its.size (fun i v => its[i]? = some v) (fun i h => ItG k h it q i ∧ IsG k h q its) := by
  cases k with
  | true => exact Draws.list hh it q hne its
  | false => exact Draws.tuple hh it q hne its
def ItzG (K : PySem.W.Frag) (k1 k2 : Bool) (a b : Addr) : It :=
  ⟨fun i H => ∃ (xs ys : List V) (x y : V), SqG K k1 H a xs ∧ SqG K k2 H b ys ∧ xs[i]? = some x ∧ ys[i]? = some y,
    fun i H v H' => ∃ T x y, v = .ref T ∧ H T = none ∧ H' = upd H T (.tup [x, y]) ∧ (∀ xs, SqG K k1 H a xs → xs[i]? = some x) ∧ ∀ ys, SqG K k2 H b ys → ys[i]? = some y,
    fun i H => ∃ xs ys : List V, SqG K k1 H a xs ∧ SqG K k2 H b ys ∧ i ≤ xs.length ∧ i ≤ ys.length ∧ (i = xs.length ∨ i = ys.length)⟩
structure Apart5 (z TI TO i1 i2 a b : Addr) : Prop where
  sep : ZipSep2 z TI TO i1 i2 [i1, a] [i2, b]
  a1 : a ≠ i1
  b2 : b ≠ i2
theorem turn_zipG {P : Program} {w : World} {K : PySem.W.Frag} {k1 k2 : Bool} {elts : List Expr} {kk : Nat} {tpos : Pos} {a b z TI TO i1 i2 : Addr} (D : Apart5 z TI TO i1 i2 a b) :
    Turn P w K (.Tuple elts kk tpos) (ItzG K k1 k2 a b) [z, TI, TO, i1, i2] z (fun i h => IsZip h z TI TO .none ∧ IsTupOf2 h TI (.ref i1) (.ref i2) ∧ (∃ x y, IsTupOf2 h TO x y) ∧ ItG k1 h i1 a i ∧ ItG k2 h i2 b i) where
  mem := by simp
  obj := fun i h st c hc => by
    obtain ⟨hz, hTI, ⟨x, y, hTO⟩, h1, h2⟩ := st
    simp only [List.mem_cons, List.not_mem_nil, or_false] at hc
    rcases hc with rfl | rfl | rfl | rfl | rfl
    · exact ⟨_, hz, fun v q => nomatch q⟩
    · exact ⟨_, hTI, fun v q => nomatch q⟩
    · exact ⟨_, hTO, fun v q => nomatch q⟩
    · exact itg_there h1
    · exact itg_there h2
  keep := fun i h h' st k => by
    obtain ⟨hz, hTI, ⟨x, y, hTO⟩, h1, h2⟩ := st
    exact ⟨k z (by simp) _ hz, k TI (by simp) _ hTI, ⟨x, y, k TO (by simp) _ hTO⟩, itg_at h1 fun o q => k i1 (by simp) o q, itg_at h2 fun o q => k i2 (by simp) o q⟩
  item := by
    intro X hP hw hK hc i pins s σ H E I hf st hg
    subst hP hw hK
    obtain ⟨hz, hTI, ⟨x0, y0, hTO⟩, h1, h2⟩ := st
    obtain ⟨xs, ys, x, y, hqx, hqy, hx, hy⟩ := hg
    obtain ⟨its, rv, p1⟩ := sqg_at I hqx
    obtain ⟨its2, rv2, p2⟩ := sqg_at I hqy
    obtain ⟨u, hu, ru⟩ := rv.get hx
    obtain ⟨u2, hu2, ru2⟩ := rv2.get hy
    have hh : X.A.in1.handled = none := I.ok.hd hc
    have D1 := drawsG (prog := X.prog) (w := X.w) hh k1 i1 a D.a1 its.toArray
    have D2 := drawsG (prog := X.prog) (w := X.w) hh k2 i2 b D.b2 its2.toArray
    have hzl : z < s.heap.objs.size := Heap.lt_size hz
    refine wpAny_pyNext_zipD2_item D.sep D1 D2 hz hTI hTO ⟨h1, p1⟩ ⟨h2, p2⟩ (by simpa using getE hu) (by simpa using getE hu2) fun v1 v2 h' tk hv1 hv2 z' TO' st1 st2 hT hsz hk => ?_
    have ev1 : v1 = u := Option.some.inj ((show its.toArray[i]? = some v1 from hv1).symm.trans (by simpa using hu))
    have ev2 : v2 = u2 := Option.some.inj ((show its2.toArray[i]? = some v2 from hv2).symm.trans (by simpa using hu2))
    subst ev1; subst ev2
    refine ⟨_, rfl, wpAny_letOwnedTupleGo_zip (s := { s with heap := h', toks := tk }) z' fun h2' z2 sb => ?_⟩
    have ne : s.heap.objs.size ≠ z := Nat.ne_of_gt hzl
    have hT2 : h2'.get? s.heap.objs.size = some { cls := .type "tuple", data := .seq #[v1, v2] } := (sb.2 _ ne).trans hT
    have new : ObjOk X.prog X.w (upd H s.heap.objs.size (.tup [x, y])) h2' s.heap.objs.size (.tup [x, y]) :=
      ⟨by show 2 ≤ sizeLine; decide, [v1, v2], .cons ru (.cons ru2 .nil), ⟨_, hT2, rfl, _, rfl⟩⟩
    have I1 : L2.Inv X pins σ (upd H s.heap.objs.size (.tup [x, y])) { s with heap := h2', toks := tk } :=
      I.turnedNew (t' := tk) (ch := [z, TI, TO, i1, i2]) (fun c o hb q => by
        simp only [List.mem_cons, List.not_mem_nil, or_false, not_or] at hb
        exact (sb.2 c hb.1).trans (hk c o hb.1 hb.2.2.1 hb.2.2.2.1 hb.2.2.2.2 q)) hf (Nat.le_refl _) new
    refine ⟨.ref s.heap.objs.size, _, I1, rfl, ⟨_, x, y, rfl, I.hok.fresh (Nat.le_refl _), rfl, fun l hl => by rw [sqg_inj I hl hqx]; exact hx, fun l hl => by rw [sqg_inj I hl hqy]; exact hy⟩, ⟨z2, ?_, ⟨v1, v2, ?_⟩, ?_, ?_⟩, fun c hcm => ?_⟩
    · exact (sb.2 _ D.sep.TIz).trans (hk _ _ D.sep.TIz D.sep.TITO D.sep.TIi1 D.sep.TIi2 hTI)
    · exact (sb.2 _ D.sep.TOz).trans TO'
    · exact itg_at st1.1 fun o q => (sb.2 _ D.sep.zi1.symm).trans q
    · exact itg_at st2.1 fun o q => (sb.2 _ D.sep.zi2.symm).trans q
    · have there : ∃ o, s.heap.get? c = some o := by
        simp only [List.mem_cons, List.not_mem_nil, or_false] at hcm
        rcases hcm with rfl | rfl | rfl | rfl | rfl
        · exact ⟨_, hz⟩
        · exact ⟨_, hTI⟩
        · exact ⟨_, hTO⟩
        · obtain ⟨o, e, _⟩ := itg_there h1; exact ⟨o, e⟩
        · obtain ⟨o, e, _⟩ := itg_there h2; exact ⟨o, e⟩
      obtain ⟨o, e⟩ := there
      rw [upd_ne (Nat.ne_of_lt (Heap.lt_size e))]
      exact (hf c hcm).1
  done := by
    intro X hP hw hK hc i pins s σ H E I hf st hg
    subst hP hw hK
    obtain ⟨hz, hTI, ⟨x0, y0, hTO⟩, h1, h2⟩ := st
    obtain ⟨xs, ys, hqx, hqy, l1, l2, hend⟩ := hg
    obtain ⟨its, rv, p1⟩ := sqg_at I hqx
    obtain ⟨its2, rv2, p2⟩ := sqg_at I hqy
    have e1 := rv.length
    have e2 := rv2.length
    have hh : X.A.in1.handled = none := I.ok.hd hc
    have D1 := drawsG (prog := X.prog) (w := X.w) hh k1 i1 a D.a1 its.toArray
    have D2 := drawsG (prog := X.prog) (w := X.w) hh k2 i2 b D.b2 its2.toArray
    refine wpAny_pyNext_zipD2_end D.sep D1 D2 hz hTI hTO ⟨h1, p1⟩ ⟨h2, p2⟩ (by simp; omega) (by simp; omega) (by simp; omega) fun h' tk hk => ⟨rfl, I.turnedL (t' := tk) (ch := [z, TI, TO, i1, i2]) (fun c o hb q => ?_) hf⟩
    simp only [List.mem_cons, List.not_mem_nil, or_false, not_or] at hb
    exact hk c o hb.1 hb.2.2.1 hb.2.2.2.1 hb.2.2.2.2 q
  self := fun A i s Q E st h => wpAny_pyIter_zip st.1 h
theorem beginsG (k : Bool) (q : Addr) (its : Array Value) : Begins (.ref q) (if k = true then { cls := .type "list_iterator", data := .fields #[.ref q, .int 0 0] } else { cls := .type "tuple_iterator", data := .fields #[.ref q, .int 0 0] }) (fun h => IsG k h q its) := by
  cases k with
  | true => exact begins_list q its
  | false => exact begins_tuple q its
theorem itg_new {k : Bool} {h : Heap} {it q : Addr} (e : h.get? it = some (if k = true then { cls := .type "list_iterator", data := .fields #[.ref q, .int 0 0] } else { cls := .type "tuple_iterator", data := .fields #[.ref q, .int 0 0] })) : ItG k h it q 0 := by
  cases k with
  | true => exact ⟨_, e, rfl, rfl⟩
  | false => exact ⟨_, e, rfl, rfl⟩
section
variable {X : Cx} {nm : Nv} {W : WX} {e e2 : Expr} {pos : Pos} {fs : Ev → M (List Da)}
def iZipG (K : PySem.W.Frag) (ta : TA) : TI := fun σ H R => ta σ H fun vs H1 => ∃ k1 k2 a b xs ys, vs = [.ref a, .ref b] ∧ SqG K k1 H1 a xs ∧ SqG K k2 H1 b ys ∧ R (ItzG K k1 k2 a b) H1
theorem pi_zipG {ta : TA} {p tpos : Pos} {elts : List Expr} {kk : Nat} (hg : Gl X "zip") (hm : X.mg "zip" = none) (ha : PA X [e, e2] ta)
    (hs : starEach [e, e2] X.env = (false, eval e X.env) :: starEach [e2] X.env := by rfl) (hpl : (backTo pos (starEach [e2] X.env)).any (·.1) = false := by rfl) :
    PI X (.Tuple elts kk tpos) (.Call (.Name "zip" p) [e, e2] [] pos) (iZipG X.K ta) := by
  refine ⟨fun pins s σ H R I h => Call_ (ld_blt I hg hm PyProof.Rows.boot_zip (PyProof.Rows.callWith_type1 (thn (ha.run pos pins s σ H _ I h) fun us s1 ⟨vs, H1, I1, r1, q1⟩ => ?_) hs hpl))⟩
  obtain ⟨k1, k2, a, b, xs, ys, rfl, hqx, hqy, q⟩ := q1
  obtain ⟨u, w, rfl, ra, rb⟩ := vals2 r1
  cases ra
  cases rb
  obtain ⟨its, rv, p1⟩ := sqg_at I1 hqx
  obtain ⟨its2, rv2, p2⟩ := sqg_at I1 hqy
  have la := isg_lt p1
  have lb := isg_lt p2
  refine zip_begins2 (beginsG k1 a _) (beginsG k2 b _) p1 p2 fun h' hz hTI hTO h1 h2 hsz hk => wpAny_pyIter_zip hz ?_
  have I2 : L2.Inv X pins σ H1 { s1 with heap := h' } := I1.kept (t' := s1.toks) hk
  have sep := zip_sep2 (N := s1.heap.objs.size) (fp1 := [a]) (fp2 := [b]) (fun c hc => by rw [List.mem_singleton.mp hc]; exact la) (fun c hc => by rw [List.mem_singleton.mp hc]; exact lb)
  refine ⟨s1.heap.objs.size + 4, [s1.heap.objs.size + 4, s1.heap.objs.size + 2, s1.heap.objs.size + 3, s1.heap.objs.size, s1.heap.objs.size + 1], _, _, H1, rfl, I2, turn_zipG ⟨sep, Nat.ne_of_lt la, Nat.ne_of_lt (Nat.lt_succ_of_lt lb)⟩, ⟨hz, hTI, ⟨_, _, hTO⟩, itg_new h1, itg_new h2⟩, fun c hc => ?_, q⟩
  have hle : s1.heap.objs.size ≤ c := by
    simp only [List.mem_cons, List.not_mem_nil, or_false] at hc
    rcases hc with h | h | h | h | h <;> rw [h] <;> first | exact Nat.le_add_right _ _ | exact Nat.le_refl _
  exact I1.fpOk hle (I1.hok.fresh hle)
/-- a sequence's items; whether it is a list; what must stay -/
def seqG (S : Store) : Da → Option (Bool × Src)
  | .tup xs => some (false, xs, fun _ => True)
  | .fro xs => some (true, xs, fun _ => True)
  | .ref r => match S[r]? with
    | some (.lst xs) => some (true, xs, fun S' => S'[r]? = some (.lst xs))
    | none => none
  | _ => none
theorem seqG_ok {z : Cz} {μ : List Addr} {H : Hp} {S : Store} (rs : RelS z μ H S) {d : Da} {v : V} {k : Bool} {xs : List Da} {st : Store → Prop} (h : seqG S d = some (k, xs, st)) (r : RelD z μ H d v) :
    ∃ q, v = .ref q ∧ st S ∧ ∀ μ' H' S', Ext μ H μ' H' → RelS z μ' H' S' → st S' → ∃ vs, SqG z.K k H' q vs ∧ RelL z μ' H' xs vs := by
  cases d with
  | tup ys =>
    cases h
    simp only [RelDk] at r
    obtain ⟨q, vs, rfl, t, l⟩ := r
    exact ⟨q, rfl, trivial, fun μ' H' S' e _ _ => ⟨vs, (t.mon e.mon).sq, l.ext e⟩⟩
  | fro ys =>
    cases h
    simp only [RelDk] at r
    obtain ⟨q, vs, rfl, t, l⟩ := r
    exact ⟨q, rfl, trivial, fun μ' H' S' e _ _ => ⟨vs, (t.mon e.mon).sq, l.ext e⟩⟩
  | ref r' =>
    simp only [RelDk] at r
    obtain ⟨q, rfl, hq⟩ := r
    unfold seqG at h
    dsimp only at h
    cases hx : S[r']? with
    | none => rw [hx] at h; cases h
    | some ob =>
      rw [hx] at h
      cases ob with
      | lst ys =>
        cases h
        refine ⟨q, rfl, hx, fun μ' H' S' e rs' h' => ?_⟩
        obtain ⟨ws, hw, l2⟩ := rs'.at_ r' q _ (e.get hq) h'
        exact ⟨ws, SqL.of hw, l2⟩
  | _ => cases h
def zipE (fs : Ev → M (List Da)) : Ev → M Src := fun ρ => fs ρ >>= fun ds => fun S => match ds with
  | [d, d'] => match seqG S d, seqG S d' with
    | some (_, xs, st), some (_, ys, st') => .ok ((xs.zip ys).map fun p => Da.tup [p.1, p.2], fun S' => st S' ∧ st' S') S
    | _, _ => .bad
  | _ => .bad
theorem src_zip {z : Cz} {μ0 : List Addr} {H0 : Hp} {a b : Addr} {k1 k2 : Bool} {xs ys : List Da} {st st' : Store → Prop} (h1 : ∀ μ H S, Ext μ0 H0 μ H → RelS z μ H S → st S → ∃ vs, SqG z.K k1 H a vs ∧ RelL z μ H xs vs)
    (h2 : ∀ μ H S, Ext μ0 H0 μ H → RelS z μ H S → st' S → ∃ vs, SqG z.K k2 H b vs ∧ RelL z μ H ys vs) : RelSrc z μ0 H0 ((xs.zip ys).map fun p => Da.tup [p.1, p.2], fun S' => st S' ∧ st' S') (ItzG z.K k1 k2 a b) := by
  intro μ H S e rs hst i
  obtain ⟨vs, sq1, l1⟩ := h1 μ H S e rs hst.1
  obtain ⟨ws, sq2, l2⟩ := h2 μ H S e rs hst.2
  have len1 := l1.length
  have len2 := l2.length
  refine ⟨fun d hd => ?_, fun hi => ⟨vs, ws, sq1, sq2, ?_⟩⟩
  · dsimp only at hd
    rw [List.getElem?_map] at hd
    cases hp : (xs.zip ys)[i]? with
    | none => rw [hp] at hd; cases hd
    | some p =>
      rw [hp] at hd
      cases hd
      obtain ⟨hx, hy⟩ := List.getElem?_zip_eq_some.mp hp
      obtain ⟨v, hv, rv⟩ := l1.get hx
      obtain ⟨w, hw, rw'⟩ := l2.get hy
      refine ⟨⟨vs, ws, v, w, sq1, sq2, hv, hw⟩, fun u H' hyl => ?_⟩
      obtain ⟨T, x', y', rfl, hT, rfl, f1, f2⟩ := hyl
      have e1 : x' = v := Option.some.inj ((f1 vs sq1).symm.trans hv)
      have e2 : y' = w := Option.some.inj ((f2 ws sq2).symm.trans hw)
      subst e1; subst e2
      have ex : Ext μ H μ (upd H T (.tup [x', y'])) := ext_new rs hT
      refine ⟨ex, rs.upd_out hT, ?_⟩
      simp only [RelDk, RelLk]
      exact ⟨T, _, rfl, .inl ⟨rs.not_mem hT, .inl upd_same⟩, x', _, rfl, rv.ext ex, y', _, rfl, rw'.ext ex, rfl⟩
  · simp only [List.length_map, List.length_zip] at hi
    omega
theorem mi_zip {p tpos : Pos} {elts : List Expr} {kk : Nat} (hg : Gl X "zip") (hm : X.mg "zip" = none) (ha : MA X nm W [e, e2] fs)
    (hs : starEach [e, e2] X.env = (false, eval e X.env) :: starEach [e2] X.env := by rfl) (hpl : (backTo pos (starEach [e2] X.env)).any (·.1) = false := by rfl) : MI X nm W (.Tuple elts kk tpos) (.Call (.Name "zip" p) [e, e2] [] pos) (zipE fs) :=
  PI.of (pi_zipG hg hm ha hs hpl) fun σ H R ⟨μ, ρ, S, rs, re, q⟩ => by
  refine ⟨μ, ρ, S, rs, re, (post_bind (RelL (cz X nm)) q).imp fun vs H1 ⟨μ1, S1, ds, e1, rs1, r1, p1⟩ => ?_⟩
  match ds, p1 with
  | [d, d'], p1 =>
    obtain ⟨v, w, rfl, rv, rw'⟩ := rel2 (z := cz X nm) r1
    dsimp only at p1
    cases hd : seqG S1 d with
    | none => rw [hd] at p1; exact p1.elim
    | some o =>
      obtain ⟨k1, xs, st⟩ := o
      cases hd' : seqG S1 d' with
      | none => rw [hd, hd'] at p1; exact p1.elim
      | some o' =>
        obtain ⟨k2, ys, st'⟩ := o'
        rw [hd, hd'] at p1
        obtain ⟨a, rfl, s1, f1⟩ := seqG_ok rs1 hd rv
        obtain ⟨b, rfl, s2, f2⟩ := seqG_ok rs1 hd' rw'
        obtain ⟨as, sa, _⟩ := f1 μ1 H1 S1 .refl rs1 s1
        obtain ⟨bs, sb, _⟩ := f2 μ1 H1 S1 .refl rs1 s2
        exact ⟨k1, k2, a, b, as, bs, rfl, sa, sb, Post.now p1 rs1 (src_zip f1 f2)⟩
  | [], p1 => exact p1.elim
  | [_], p1 => exact p1.elim
  | _ :: _ :: _ :: _, p1 => exact p1.elim
end
end M2

/-! Layer M2, part i: own exceptions made, raised, caught; a local name that holds a def; the law's own def and the end. -/
namespace M2
open PySem PySem.Spec PyProof.Rows L2
/-! ### an own class of error over another own one: its __init__ -/
/-- LeafError.__init__(self): what the written part says of the class at C -/
structure InitOf (K : PySem.W.Frag) (mg : Str → Option Value) (x : Str) (C : Addr) : Prop where
  gC : mg x = some (.ref C)
  sp : PySem.W.specialIn K (.ref C) "__getattribute__" = some (some (.builtin "type.__getattribute__"))
  rd : PySem.W.readsIn K C (.type "type") = true
  fc : PySem.W.findCls K (.ref C) (.type "type") "__init__" = some (.val (.builtin "ValueError.__init__"))
section
variable {X : Cx} {e : Expr} {es : List Expr} {ta : TA} {p1 p2 pos : Pos}
theorem pe_ownInit {x : Str} {C : Addr} {pl : Sem Bool} (T : InitOf X.K X.mg x C) (hg : Gl X x) (ha : PA X (e :: es) ta) (hdb : (x == ("__debug__" : Str)) = false := by decide)
    (hc : eval (.Call (.Attribute (.Name x p1) "__init__" p2) (e :: es) [] pos) X.env = (do
      let ov ← eval (.Name x p1) X.env
      standAt p2.atName
      let (f, first) ← holding [ov] (getMethod ov "__init__" pl)
      callWith pos f first (backTo pos (starEach (e :: es) X.env)) (backToKw pos (keywordEach [] X.env))) := by rfl)
    (he : starEach (e :: es) X.env = (false, eval e X.env) :: starEach es X.env := by rfl) (hpl : (backTo pos (starEach es X.env)).any (·.1) = false := by rfl) :
    PE X (.Call (.Attribute (.Name x p1) "__init__" p2) (e :: es) [] pos) (tVeI X.K ta) := by
  refine ⟨fun pins s σ H Q I h => ?_⟩
  refine PySem.W.methodCall_KW (ld_glob I hg T.gC ?_ hdb) hc
  refine PySem.W.method_cls I.kIn T.sp (PySem.W.cls_value I.kIn T.rd T.fc (by decide +kernel) ?_)
  refine PyProof.Rows.callWith_method1 (thn (ha.run pos pins _ σ H _ (I.tok _) h) fun us s1 ⟨vs, H1, I1, r1, a, C', ws, ev, hl, T', ea, q⟩ => ?_) he hpl
  subst ev
  cases r1 with
  | @cons _ u0 _ ur ra rw' =>
    obtain rfl : u0 = Value.ref a := ra
    have hlen : ur.length ≤ sizeLine := by
      rw [← Paired.length rw', sizeLine_eq]
      omega
    exact oinit_ok T' I1 ea hlen fun s' J => ⟨.non, H1, J, rfl, q⟩
end
/-- __init__ of two fields -/
def spIni2 (C : Addr) (n1 n2 : Str) : Sp := fun vs H Q _ => ∃ (a : Addr) (v1 v2 : V), vs = [.ref a, v1, v2] ∧ H a = some (exo a C none) ∧ ∀ d, H d = none → d ≠ a → Q .non (upd (upd (upd H d (exd d [(n1, v1)])) a (exo a C (some d))) d (exd d [(n2, v2), (n1, v1)]))
theorem ini2_pure {K : PySem.W.Frag} {C : Addr} {n1 n2 : Str} (T : OexC K C) (f1 : PySem.W.findIn K (.ref C) n1 = some none) (f2 : PySem.W.findIn K (.ref C) n2 = some none) {N : List Str} (hN : N.length = 3) {vs : List V} {H : Hp} {Q : VK} {E : XK} (h : spIni2 C n1 n2 vs H Q E) :
    tSeq (tDrop (tVeI K (tCons (tVar 0) tNil))) (tSeq (tOst K n1 (tVar 0) (tVar 1)) (tOst K n2 (tVar 0) (tVar 2))) { nx := fun _ H' => Q .non H', rt := Q } (L2.start N vs) H := by
  obtain ⟨a, v1, v2, rfl, ha, k⟩ := h
  have es : L2.start N [.ref a, v1, v2] = [some (.ref a), some v1, some v2] := by unfold L2.start; simp [hN]
  rw [es]
  refine ⟨_, rfl, a, C, [], rfl, by simp, T, ha, ?_⟩
  refine ⟨_, rfl, _, rfl, a, C, rfl, T, f1, .inl ⟨ha, fun d hd hne => ?_⟩⟩
  refine ⟨_, rfl, _, rfl, a, C, rfl, T, f2, .inr ⟨d, [(n1, v1)], upd_same, by rw [upd_ne hne, upd_same], by simp, k d hd hne⟩⟩
section
variable {X : Cx} {nm : Nv} {W : WX} {e e2 : Expr} {es : List Expr} {pos : Pos} {fs : Ev → M (List Da)}
def raise2 (x n1 n2 : Str) (fs : Ev → M (List Da)) : FS := evS fs fun ds ρ S => match ds with
  | [d1, d2] => .exc x [(n2, d2), (n1, d1)] ρ S
  | _ => .bad
theorem ms_raise2 {x n1 n2 : Str} {C fI : Addr} {k : Nat} {fd : FuncData} {ps : List Str} {p pos' : Pos} (hc : X.calm = true) (tk : Takes X W) (T : OexC X.K C) (iC : PySem.W.findIn X.K (.ref C) "__init__" = some (some (.ref fI))) (tI : PySem.W.typeIn X.K (.ref fI) = some (.type "function"))
    (F1 : FnOk X.prog X.w X.K X.mg X.base (L2.CX X.prog X.w) k fI fd ps (spIni2 C n1 n2)) (hr : Room (k + 1) X.A) (hb : Binds X.K fd ps []) (hg : Gl X x) (hm : X.mg x = some (.ref C)) (hn : nm.nm x = C) (ha : MA X nm W (e :: es) fs)
    (hdb : (x == ("__debug__" : Str)) = false := by decide) (he : starEach (e :: es) X.env = (false, eval e X.env) :: starEach es X.env := by rfl) (hpl : (backTo pos' (starEach es X.env)).any (·.1) = false := by rfl) :
    MS X nm W (.Raise (some (.Call (.Name x p) (e :: es) [] pos')) none pos) (raise2 x n1 n2 fs) := by
  refine PS.of (ps_raise hc tk (pmk_oex T iC tI F1 hr hb .nil passL hg hm ha hdb he hpl)) fun En σ H ⟨μ, ρ, S, rs, re, q⟩ => ?_
  refine ⟨μ, ρ, S, rs, re, (posts_ev (RelL (cz X nm)) re q).imp fun vs H1 ⟨μ1, S1, ds, e1, rs1, r1, p1⟩ => ?_⟩
  match ds, p1 with
  | [d1, d2], p1 =>
    obtain ⟨v, w, rfl, rv, rw'⟩ := rel2 (z := cz X nm) r1
    refine ⟨by simp, fun a ha => ⟨a, v, w, rfl, upd_same, fun d hd hne => ⟨rfl, d, [(n2, w), (n1, v)], ?_, upd_same, ?_, ?_⟩⟩⟩
    · rw [upd_ne (Ne.symm hne), upd_same]
    · rw [upd_ne hne] at hd; exact hd
    · have hd1 : H1 d = none := by rw [upd_ne hne] at hd; exact hd
      have same : ∀ b, b ≠ a → b ≠ d → (upd (del (upd (upd (upd (upd H1 a (exo a C none)) d (exd d [(n1, v)])) a (exo a C (some d))) d (exd d [(n2, w), (n1, v)])) a) d (.xd [(n2, w), (n1, v)])) b = H1 b := fun b h1 h2 => by
        rw [upd_ne h2, del_ne h1, upd_ne h2, upd_ne h1, upd_ne h2, upd_ne h1]
      have ex : Ext μ1 H1 μ1 (upd (del (upd (upd (upd (upd H1 a (exo a C none)) d (exd d [(n1, v)])) a (exo a C (some d))) d (exd d [(n2, w), (n1, v)])) a) d (.xd [(n2, w), (n1, v)])) :=
        ⟨⟨[], by simp⟩, fun b o n h => by rw [same b (ne_of_none h ha) (ne_of_none h hd1)]; exact h, fun b h => .inl h⟩
      have rs2 := rs1.ext ex fun b hb => same b (fun z => rs1.not_mem ha (z ▸ hb)) (fun z => rs1.not_mem hd1 (z ▸ hb))
      have w1 := p1 μ1 _ σ d [(n2, w), (n1, v)] ex rs2 ((re.ext e1).ext ex) upd_same (rs1.not_mem hd1) (.cons ⟨rfl, rw'.ext ex⟩ (.cons ⟨rfl, rv.ext ex⟩ .nil))
      show W (.ref C) (some d) σ _
      rw [← hn]
      rw [← hn] at w1
      exact w1
  | [], p1 => exact p1.elim
  | [_], p1 => exact p1.elim
  | _ :: _ :: _ :: _, p1 => exact p1.elim
end
/-! ### try .. except C as e -/
/-- within the suite the error's own dict stands -/
def nmX (nm : Nv) (K : PySem.W.Frag) (dd : Addr) (fs : List (Str × Da)) : Nv where
  nm := nm.nm
  inv := fun μ H => nm.inv μ H ∧ dd ∉ μ ∧ ∃ vs, H dd = some (.xd vs) ∧ RelF ⟨K, nm⟩ μ H fs vs
  mono := fun μ H μ' H' e ⟨h1, h2, vs, h3, h4⟩ => by
    obtain ⟨n, h⟩ := e.xd dd vs h2 h3
    exact ⟨nm.mono _ _ _ _ e h1, n, vs, h, L2.Paired.mapP h4 fun _ _ q => ⟨q.1, RelDk.mon e q.2⟩⟩
def SR.unset (i : Nat) : SR → SR
  | .nx ρ S => .nx (ρ.set i none) S
  | .bk ρ S => .bk (ρ.set i none) S
  | .ct ρ S => .ct (ρ.set i none) S
  | .rt d S => .rt d S
  | .exc _ _ _ _ => .bad
  | .bad => .bad
def tryS (body : FS) (sub : Str → Option Bool) (suite : Str → List (Str × Da) → FS) : FS := fun ρ S => match body ρ S with
  | .exc c fs ρ' S' => match sub c with
    | some true => suite c fs ρ' S'
    | some false => .exc c fs ρ' S'
    | none => .bad
  | r => r
section
variable {X : Cx} {nm : Nv} {W : WX} {x n : Str} {cv : Value} {i : Nat} {body suite : List Stmt} {b₀ : Stmt} {np pos pos' : Pos} {fb : FS}
theorem ms_try_as {sub : Str → Option Bool} {fsu : Addr → Str → List (Str × Da) → FS} {fsp : Str → List (Str × Da) → FS} (hs : X.stack = X.env :: X.outer) (hf : X.env.frame = some X.env.locals) (hN : X.N.Nodup) (hi : X.N[i]? = some n) (hln : X.env.kindOf n = some .local) (hc : Names X x cv) (tk : Takes X W)
    (hsub : ∀ c b, sub c = some b → PySem.W.exmOne X.K (.ref (nm.nm c)) cv = some b)
    (hb : ∀ (W' : WX) (pn : List (Addr × Obj)) (xe : Value → Shared → Prop), Takes (X.tr pn xe) W' → PassesOwn (model X.prog X.w) X.A X.env xe → MSs (X.tr pn xe) nm W' body fb)
    (hsu : ∀ (a : Addr) (oe : Obj) (pn : List (Addr × Obj)) (c : Str) (dd : Addr) (fs : List (Str × Da)), Zc (.ref (nm.nm c)) (some dd) oe → (∃ vs, oe.data = .fields vs) → sub c = some true → MSs (X.suite a ((a, oe) :: pn)) (nmX nm X.K dd fs) W0 (b₀ :: suite) (fsu a c fs))
    (hpure : ∀ a c fs ρ S, sub c = some true → (fsu a c fs (ρ.set i (some (.adr a))) S).unset i = fsp c fs ρ S) :
    MS X nm W (.Try body [.ExceptHandler (some (.Name x np)) (some n) (b₀ :: suite) pos'] [] [] pos) (tryS fb sub fsp) := by
  refine PS.of (ps_try_as (c := cv) (tb := fun W' => tS (cz X nm) W' fb) (ts := fun a cls d En σ H => ∃ c dd fs, cls = .ref (nm.nm c) ∧ d = some dd ∧ sub c = some true ∧ tS (cz X (nmX nm X.K dd fs)) W0 (fsu a c fs) En σ H) (Wout := W) hs hf hN hi hln hc tk
    (fun W' pn xe h1 h2 => hb W' pn xe h1 h2) (fun a oe cls d pn hz hv => ⟨fun pins s σ H En I ⟨c, dd, fs, ec, ed, hsb, q⟩ => ?_⟩)) fun En σ H ⟨μ, ρ, S, rs, re, q⟩ => ?_
  · subst ec; subst ed
    exact (hsu a oe pn c dd fs hz hv hsb).run pins s σ H En I q
  · refine ⟨μ, ρ, S, rs, re, ?_⟩
    unfold tryS at q
    cases hr : fb ρ S with
    | exc c fs ρ' S' =>
      rw [hr] at q
      dsimp only at q
      intro μ' H' σ' dd vs e1 rs1 re1 hx nx rf
      cases hsb : sub c with
      | none => rw [hsb] at q; exact q.elim
      | some b =>
        rw [hsb] at q
        refine ⟨b, hsub c b hsb, fun hbt a na => ?_, fun hbf => ?_⟩
        · subst hbt
          dsimp only at q
          refine ⟨c, dd, fs, rfl, rfl, hsb, μ', ρ'.set i (some (.adr a)), S', ⟨rs1.nd, rs1.len, ⟨rs1.inv, nx, vs, hx, rf⟩, rs1.at_⟩, RelE.set (z := cz X (nmX nm X.K dd fs)) ⟨re1.len, re1.at_⟩ i (by simp only [RelDk]), ?_⟩
          rw [← hpure a c fs ρ' S' hsb] at q
          have back : ∀ {μ2 : List Addr} {H2 : Hp} {S2 : Store}, RelS (cz X (nmX nm X.K dd fs)) μ2 H2 S2 → RelS (cz X nm) μ2 H2 S2 := fun r => ⟨r.nd, r.len, r.inv.1, r.at_⟩
          have backE : ∀ {μ2 : List Addr} {H2 : Hp} {σ2 : L2.St} {ρ2 : Ev}, RelE (cz X (nmX nm X.K dd fs)) μ2 H2 σ2 ρ2 → RelE (cz X nm) μ2 H2 (σ2.set i none) (ρ2.set i none) := fun r => RelE.unset (z := cz X nm) ⟨r.len, r.at_⟩ i none
          cases hq : fsu a c fs (ρ'.set i (some (.adr a))) S' with
          | nx ρ2 S2 => rw [hq] at q; exact fun μ2 H2 σ2 e2 rs2 re2 => q μ2 H2 _ (e1.trans e2) (back rs2) (backE re2)
          | bk ρ2 S2 => rw [hq] at q; exact fun μ2 H2 σ2 e2 rs2 re2 => q μ2 H2 _ (e1.trans e2) (back rs2) (backE re2)
          | ct ρ2 S2 => rw [hq] at q; exact fun μ2 H2 σ2 e2 rs2 re2 => q μ2 H2 _ (e1.trans e2) (back rs2) (backE re2)
          | rt d2 S2 => rw [hq] at q; exact fun μ2 H2 v e2 rs2 r2 => q μ2 H2 v (e1.trans e2) (back rs2) r2
          | exc c2 fs2 ρ2 S2 => rw [hq] at q; exact q.elim
          | bad => rw [hq] at q; exact q.elim
        · subst hbf
          exact q μ' H' σ' dd vs e1 rs1 re1 hx nx rf
    | nx ρ2 S2 => rw [hr] at q; exact q
    | bk ρ2 S2 => rw [hr] at q; exact q
    | ct ρ2 S2 => rw [hr] at q; exact q
    | rt d2 S2 => rw [hr] at q; exact q
    | bad => rw [hr] at q; exact q
/-- err.f in the suite -/
def attX (a : Addr) (fs : List (Str × Da)) (f : Str) (fe : Ev → M Da) : Ev → M Da := fun ρ => fe ρ >>= fun d => fun S => match d with
  | .adr a' => if a' = a then (match fs.lookup f with
    | some d => .ok d S
    | none => .bad) else .bad
  | _ => .bad
theorem lookup_rel {z : Cz} {μ : List Addr} {H : Hp} {f : Str} : ∀ {fs : List (Str × Da)} {vs : List (Str × V)} {d : Da}, RelF z μ H fs vs → fs.lookup f = some d → ∃ v, vs.lookup f = some v ∧ RelD z μ H d v
  | _, _, _, .nil, h => by cases h
  | (g, d') :: fs, (g', v') :: vs, d, .cons r t, h => by
    obtain ⟨r1, r2⟩ := r
    dsimp only at r1
    subst r1
    rw [List.lookup_cons] at h ⊢
    cases hb : f == g with
    | true => rw [hb] at h; cases h; exact ⟨v', rfl, r2⟩
    | false => rw [hb] at h; exact lookup_rel t h
theorem me_xf {a : Addr} {oe : Obj} {pn : List (Addr × Obj)} {c : Str} {dd : Addr} {fs : List (Str × Da)} {e : Expr} {fe : Ev → M Da} {f : Str} (T : XfC X.K (nm.nm c)) (hno : PySem.W.findIn X.K (.ref (nm.nm c)) f = some none) (hz : Zc (.ref (nm.nm c)) (some dd) oe) (hv : ∃ vs, oe.data = .fields vs)
    (he : ME (X.suite a ((a, oe) :: pn)) (nmX nm X.K dd fs) W e fe) (hb : attributeBase e f X.env (eval e X.env) = eval e X.env := by rfl) : ME (X.suite a ((a, oe) :: pn)) (nmX nm X.K dd fs) W (.Attribute e f pos) (attX a fs f fe) :=
  PE.of (pe_xf T hno hz hv he hb) fun σ H Q ⟨μ, ρ, S, rs, re, p⟩ => by
  refine ⟨μ, ρ, S, rs, re, (post_bind (RelD (cz X (nmX nm X.K dd fs))) p).imp fun x H1 ⟨μ1, S1, d, e1, rs1, r1, p1⟩ => ?_⟩
  cases d with
  | adr a' =>
    simp only [RelDk] at r1
    dsimp only at p1
    split at p1
    · rename_i ha
      subst ha
      cases hl : fs.lookup f with
      | none => rw [hl] at p1; exact p1.elim
      | some d =>
        rw [hl] at p1
        obtain ⟨h1, h2, vs, h3, h4⟩ := rs1.inv
        obtain ⟨v, hv, rv⟩ := lookup_rel h4 hl
        exact ⟨r1, rfl, dd, vs, v, rfl, h3, hv, Post.now p1 rs1 rv⟩
    · exact p1.elim
  | _ => exact p1.elim
end
/-! ### a local name that holds a def -/
section
variable {X : Cx} {nm : Nv} {W : WX} {e : Expr} {es : List Expr} {pos : Pos} {fs : Ev → M (List Da)}
abbrev FTab := Str → Option (Nat × (List Da → M Da))
def callLF (i : Nat) (ft : FTab) (fs : Ev → M (List Da)) : Ev → M Da := fun ρ => getV ρ i >>= fun d => match d with
  | .fn x => match ft x with
    | some (n, g) => fs ρ >>= appF n g
    | none => M.bad
  | _ => M.bad
theorem me_callL {i k : Nat} {x : Str} {p : Pos} {ft : FTab} (A : ∀ y n g, ft y = some (n, g) → Fd X.prog X.w X.K X.mg X.base nm k (nm.nm y) n g) (hr : RoomG k X.A) (hN : X.N[i]? = some x) (hv : Vis X.env.scope x) (tk : Takes X W) (ha : MA X nm W (e :: es) fs)
    (hdb : (x == ("__debug__" : Str)) = false := by decide) (hcd : (x == ("__classdict__" : Str)) = false := by decide) (he : starEach (e :: es) X.env = (false, eval e X.env) :: starEach es X.env := by rfl) (hpl : (backTo pos (starEach es X.env)).any (·.1) = false := by rfl) :
    ME X nm W (.Call (.Name x p) (e :: es) [] pos) (callLF i ft fs) := by
  refine ⟨fun pins s σ H Q I ⟨μ, ρ, S, rs, re, q⟩ => ?_⟩
  unfold callLF at q
  rw [bind_ap] at q
  unfold getV at q
  cases hρ : ρ[i]? with
  | none => rw [hρ] at q; exact q.elim
  | some o =>
    cases o with
    | none => rw [hρ] at q; exact q.elim
    | some d =>
      rw [hρ] at q
      dsimp only [thn_ok] at q
      cases d with
      | fn y =>
        dsimp only at q
        cases hft : ft y with
        | none => rw [hft] at q; exact q.elim
        | some ng =>
          obtain ⟨n, g⟩ := ng
          rw [hft] at q
          dsimp only at q
          obtain ⟨v, h1, h2⟩ := re.at_ i _ hρ
          simp only [RelDk] at h2
          subst h2
          obtain ⟨fd, ps, F, hk, hb⟩ := A y n g hft
          refine wpAny_Call_Name_kw (thn ((pe_var (pos := p) hN hv hdb hcd).run pins s σ H (fun v H1 => v = .ref (nm.nm y) ∧ H1 = H) I ⟨.ref (nm.nm y), h1, rfl, rfl⟩) fun u s1 ⟨v, H1, I1, r1, ev, eH⟩ => ?_)
          subst ev; subst eH
          cases r1
          refine PySem.W.callWith_K (h₀ := X.base) I.ok.mod.kin hk (thn (ha.run pos pins s1 σ _ _ I1 ⟨μ, ρ, S, rs, re, post_bind (RelL (cz X nm)) q⟩) fun us s2 ⟨vs, H2, I2, r, μ2, S2, ds, e2, rs2, rl, p2⟩ => ⟨I2.kIn, ?_⟩) he hpl
          unfold appF at p2
          split at p2
          · rename_i hl
            exact run_g F hr hb tk I2 r ⟨rl.length.symm.trans hl, μ2, S2, ds, rs2, rl, p2⟩
          · exact p2.elim
      | _ => exact q.elim
end
end M2

/-! Layer M2, part j: a law's end: its def reckons True of every script. -/
namespace M2
open PySem PySem.Spec PyProof.Rows L2
theorem ints_rel {z : Cz} {μ : List Addr} {H : Hp} : ∀ ns : List Int, RelL z μ H (ns.map Da.int) (ns.map V.int)
  | [] => by simp only [List.map, RelLk]
  | n :: r => by
    simp only [List.map, RelLk]
    exact ⟨_, _, rfl, by simp only [RelDk], ints_rel r⟩
/-- the heap that a law sees at first: nothing is tracked, or the script alone -/
def lawHp (a : Addr) (vs : List Value) (ns : List Int) (k : Bool) : Hp := fun b => if k = true ∧ b = a then some (.frz { cls := .type "list", data := .seq vs.toArray } (.lst (ns.map V.int))) else none
theorem lawHp_off {a : Addr} {vs : List Value} {ns : List Int} {k : Bool} {b : Addr} (h : ¬(k = true ∧ b = a)) : lawHp a vs ns k b = none := if_neg h
theorem lawHp_some {a : Addr} {vs : List Value} {ns : List Int} {k : Bool} {b : Addr} {o : HO} (h : lawHp a vs ns k b = some o) : k = true ∧ b = a ∧ o = .frz { cls := .type "list", data := .seq vs.toArray } (.lst (ns.map V.int)) := by
  by_cases c : k = true ∧ b = a
  · unfold lawHp at h
    rw [if_pos c] at h
    cases h
    exact ⟨c.1, c.2, rfl⟩
  · rw [lawHp_off c] at h
    cases h
section
variable {P : Program} {w : World} {K : PySem.W.Frag} {mg mb : Str → Option Value} {k : Nat} {fa a : Addr} {fd : FuncData} {x : Str} {nm : Nv} {g : List Da → M Da} {s : Shared} {vs : List Value} {ns : List Int}
theorem law_run (KX : K.In s.heap) (hns : s.heap.Ns mainGlobals mg) (hb : s.heap.Ns builtinsNs mb) (hbb : ∀ y : Str, y ≠ "__name__" → mb y = bootBuiltins y) (hlim : s.heap.NoLimit) (hg : s.gens = #[])
    (ha : s.heap.get? a = some { cls := .type "list", data := .seq vs.toArray }) (hi : IntsAre vs ns) (hl : ns.length ≤ sizeLine) (hr : Room k callerA)
    (F : ∀ base : Heap, K.In base → base.Ns mainGlobals mg → FnG P w K mg base k fa fd [x] (spM ⟨K, nm⟩ 1 g)) (hbind : ∀ (t : Shared) (u : Value), BindsTo t fd ⟨[u], []⟩ [(x, u)])
    (hn : ∀ t : Bool, nm.inv [] (lawHp a vs ns t)) (plain : ∃ S, g [.fro (ns.map Da.int)] [] = .ok (.bl true) S) :
    codeAny (model P w) callerA (.call (.ref fa) ⟨[.ref a], []⟩) (fun r s' => r = .ok (.ret (.bool true)) ∧ OldK s.heap s'.heap ∧ s'.os = s.os ∧ AllBare s'.gens) s := by
  -- which of the two heaps
  obtain ⟨t, ht⟩ : ∃ t : Bool, t = true ↔ K.lookup a = none := ⟨decide (K.lookup a = none), by simp⟩
  have hv : Vals (ns.map V.int) vs := vals_ints hi
  have hlen : vs.length = ns.length := by rw [hi.length]
  have ok : HOk P w (lawHp a vs ns t) s.heap := fun b o h => by
    obtain ⟨_, rfl, rfl⟩ := lawHp_some h
    exact ⟨ha, by rw [List.length_map]; exact hl, vs, _, hv, ha⟩
  have hid : ∀ {b : Addr} {o : Obj}, s.heap.get? b = some o → (b = a → t = true → False) → (hidT s.heap (lawHp a vs ns t)).get? b = some o := fun {b o} e n => hidT_get e (lawHp_off fun c => n c.2 c.1)
  have dicts : ∀ {b : Addr} {m : Str → Option Value}, s.heap.Ns b m → (hidT s.heap (lawHp a vs ns t)).Ns b m := by
    rintro b m ⟨o, es, ep, e, d, r⟩
    refine ⟨o, es, ep, hid e (fun q _ => ?_), d, r⟩
    rw [q, ha] at e
    cases e
    have z : Data.seq vs.toArray _ = Data.dict es ep := d
    cases z
  have kin : K.In (hidT s.heap (lawHp a vs ns t)) := fun b o e => hid (KX b o e) fun q z => by
    rw [q, ht.mp z] at e
    cases e
  have md : Mod K mg (hidT s.heap (lawHp a vs ns t)) := ⟨kin, dicts hns, ⟨mb, dicts hb, hbb⟩, let ⟨mc, h1, h2⟩ := hlim; ⟨mc, dicts h1, h2⟩⟩
  have e0 : Env0 P w K mg (hidT s.heap (lawHp a vs ns t)) callerA [] s (lawHp a vs ns t) := ⟨rfl, md, fun _ _ e => of_hidT e, Nat.le_of_eq (hidT_size _ _), trivial, (fun _ m => by cases m), ok, .of_eq hg⟩
  obtain ⟨S, plain⟩ := plain
  have start : spM ⟨K, nm⟩ 1 g [.ref a] (lawHp a vs ns t) (fun v _ => v = .bl true) (fun _ _ _ => False) := by
    refine ⟨rfl, [], [], [.fro (ns.map Da.int)], ⟨List.nodup_nil, rfl, hn t, fun r b o h => by simp at h⟩, ?_, ?_⟩
    · simp only [RelLk, RelDk]
      refine ⟨_, _, rfl, ⟨a, ns.map V.int, rfl, ?_, ints_rel (z := ⟨K, nm⟩) ns⟩, rfl⟩
      cases hk : K.lookup a with
      | none => exact .inl ⟨by simp, _, if_pos ⟨ht.mpr hk, rfl⟩⟩
      | some o =>
        have e := KX a o hk
        rw [ha] at e
        cases e
        exact .inr ⟨_, vs.toArray, _, hk, rfl, rfl, rfl, by rw [List.size_toArray, hlen]; exact hl, by simpa using hv⟩
    · rw [plain]
      intro μ H v _ _ r
      simpa only [RelDk] using r
  refine codeAny_mono ((F _ kin (dicts hns)).go callerA [] s _ [.ref a] [.ref a] _ _ ⟨hr, rfl⟩ e0 (hbind s (.ref a)) (.cons rfl .nil) start) fun res s' h => ?_
  match res, h with
  | .ok (.ret u), ⟨v, H', os, bare, un, ok', rv, (q : v = .bl true)⟩ =>
    subst q
    obtain rfl : u = Value.bool true := rv
    refine ⟨rfl, OldK.of_keep fun b o e => ?_, os, bare⟩
    cases hb2 : lawHp a vs ns t b with
    | none => exact un.keep b o e hb2 (fun m => by cases m) (by simp)
    | some u2 =>
      obtain ⟨_, _, rfl⟩ := lawHp_some hb2
      have z := un.frzs b _ _ hb2
      obtain ⟨e1, _⟩ := ok b _ hb2
      obtain ⟨e2, _⟩ := ok' b _ z
      rw [e] at e1
      cases e1
      exact e2
  | .ok .next, h => exact h.elim
  | .ok .brk, h => exact h.elim
  | .ok .cont, h => exact h.elim
  | .error e, h =>
    obtain ⟨_, _, _, _, _, _, _, _, _, _, _, _, z⟩ := h
    exact z.elim
end
/-- what k_head leaves of a law, from its def's reckoning -/
theorem walkM {l : PySem.W.OpenLaw} {n k : Nat} {q : Program} {loose : List Str} {XP : (Str → Option Value) → Heap → Prop} {YP : World → Heap → Prop} {d : DefRec} {K : Params → PySem.W.Frag} {x : Str}
    (hn : l.most = some n) (hn2 : n ≤ sizeLine) (hdf : d.params.defaults = []) (hr : Room k callerA) (hY : ∀ (w : World) (h : Heap), YP w h → (K w.params).In h)
    (F : ∀ (w : World) (mg : Str → Option Value) (fa : Addr) (h : Heap), (K w.params).In h → h.Ns mainGlobals mg → XP mg h → mg d.name = some (.ref fa) →
      ∃ (fd : FuncData) (nm : Nv) (g : List Da → M Da), (∀ (t : Shared) (u : Value), BindsTo t fd ⟨[u], []⟩ [(x, u)]) ∧ (∀ μ H, nm.inv μ H) ∧ (∀ ns : List Int, ns.length ≤ n → ∃ S, g [.fro (ns.map Da.int)] [] = .ok (.bl true) S) ∧
        ∀ base : Heap, (K w.params).In base → base.Ns mainGlobals mg → FnG l.prog w (K w.params) mg base k fa fd [x] (spM ⟨K w.params, nm⟩ 1 g)) :
    PySem.W.WalkO q loose XP YP l.row.toRowW d [] (fun f vs => PySem.call f vs) :=
  Att.attach_call hn hdf fun w s₀ s₁ mg mb fa o pm cd doc a vs ns G Y ho hd hcd hmg hobj hints hlen hg => by
    obtain ⟨fd, nm, g, hb, hnv, hp, hF⟩ := F w mg fa _ (hY w _ Y) G.T.g G.X hmg
    exact law_run (hY w _ Y) G.T.g G.T.b G.T.builtins G.T.nolimit hg hobj hints (Nat.le_trans hlen hn2) hr hF hb (fun _ => hnv _ _) (hp ns hlen)
end M2

/-! Layer M2, part k: what a text's top has written, by names; own errors of two fields. -/
namespace M2
open PySem PySem.Spec PyProof.Rows L2
/-- where the module's name stands -/
def adOf (mg : Str → Option Value) (n : Str) : Addr := match mg n with
  | some (.ref a) => a
  | _ => 0
theorem adOf_eq {mg : Str → Option Value} {n : Str} {a : Addr} (h : mg n = some (.ref a)) : adOf mg n = a := by unfold adOf; rw [h]
/-- a def of the top -/
structure Dn (K : PySem.W.Frag) (mg : Str → Option Value) (x : Str) (st : Stmt) (ps : List Str) : Prop where
  g : mg x = some (.ref (adOf mg x))
  f : ∃ fd, Fun K x x st (adOf mg x) fd ∧ Binds K fd ps []
theorem dn_mk {K : PySem.W.Frag} {h : Heap} {mg : Str → Option Value} {x : Str} {st : Stmt} {ps : List Str} {f : Addr} {oc : Value} {od an : Option Addr} {osl : Array (Option Value)} {kV doc pm cdv ct : Value} (X : K.In h) (G : h.Ns mainGlobals mg)
    (a : PySem.W.nsIn K mainGlobals x = some (some (.ref f))) (l : K.lookup f = some ⟨oc, od, .func (PySem.W.fnOf x x (defArgs st) (defBody st) (defScope st) .none kV doc pm an cdv ct), osl⟩) (c : PySem.W.codeIn K cdv x = true) (k : PySem.W.keepIn K (.ref f) = true)
    (b : ∀ (kV doc pm : Value) (an : Option Addr) (cdv ct : Value) (us : List Value), us.length = ps.length → bindArgs (PySem.W.fnOf x x (defArgs st) (defBody st) (defScope st) .none kV doc pm an cdv ct) ⟨us, []⟩ = pure (ps.zip us)) : Dn K mg x st ps := by
  have e := PySem.W.mg_of X G a
  have ea := adOf_eq e
  refine ⟨by rw [ea]; exact e, _, by rw [ea]; exact fun_mk l c k, (fun_mk l c k).binds b⟩
/-- a def's reckoning, from what the top says of it -/
theorem Dn.ok {P : Program} {w : World} {K : PySem.W.Frag} {mg : Str → Option Value} {base : Heap} {nm : Nv} {x : Str} {st : Stmt} {N ps : List Str} {k : Nat} {b : FS} (D : Dn K mg x st ps) (S : FnScope N ps (defScope st))
    (hb : ∀ (cdv : Value) (A : Around) (outer : List Env) (s : Shared) (H : Hp) (E : XK), RoomG k (A.deeper (envOfC x (defScope st) s.heap.objs.size (adOf mg x) cdv)) →
      MSs (cxOf (L2.CX P w) P w K mg base N x (defScope st) (adOf mg x) cdv A outer s H E) nm (WEx E) (defBody st) b) :
    Fd P w K mg base nm (k + 1) (adOf mg x) ps.length (runF N.length b) := by
  obtain ⟨fd, F, hbd⟩ := D.f
  exact fnM F S hbd hb
theorem Dn.okF {P : Program} {w : World} {K : PySem.W.Frag} {mg : Str → Option Value} {base : Heap} {nm : Nv} {x : Str} {st : Stmt} {N ps : List Str} {k : Nat} {b : FS} {fd : FuncData} (F : Fun K x x st (adOf mg x) fd) (S : FnScope N ps (defScope st))
    (hb : ∀ (cdv : Value) (A : Around) (outer : List Env) (s : Shared) (H : Hp) (E : XK), RoomG k (A.deeper (envOfC x (defScope st) s.heap.objs.size (adOf mg x) cdv)) →
      MSs (cxOf (L2.CX P w) P w K mg base N x (defScope st) (adOf mg x) cdv A outer s H E) nm (WEx E) (defBody st) b) :
    FnG P w K mg base (k + 1) (adOf mg x) fd ps (spM ⟨K, nm⟩ ps.length (runF N.length b)) := fnG F S hb
theorem loose_int {lv : List (Str × PySem.W.WData)} {mg : Str → Option Value} {h : Heap} {x : Str} {i : Int} (L : PySem.W.LooseAre lv mg h) (m : (x, PySem.W.WData.int i) ∈ lv) : ∃ t, mg x = some (.int i t) := by
  obtain ⟨v, e, r⟩ := L.val _ m
  cases r
  exact ⟨_, e⟩
/-- an own error x of two fields over the own class base: C the class, fI its __init__ -/
structure ErrC (K : PySem.W.Frag) (mg : Str → Option Value) (x base n1 n2 qual : Str) (sI : Stmt) (ps : List Str) (fI : Addr) : Prop where
  g : mg x = some (.ref (adOf mg x))
  oex : OexC K (adOf mg x)
  xf : XfC K (adOf mg x)
  ini : PySem.W.findIn K (.ref (adOf mg x)) "__init__" = some (some (.ref fI))
  tyI : PySem.W.typeIn K (.ref fI) = some (.type "function")
  fn : ∃ fd, Fun K "__init__" qual sI fI fd ∧ Binds K fd ps []
  no1 : PySem.W.findIn K (.ref (adOf mg x)) n1 = some none
  no2 : PySem.W.findIn K (.ref (adOf mg x)) n2 = some none
  up : InitOf K mg base (adOf mg base)
/-- the __init__ that such a class has -/
def IniD (P : Program) (w : World) (K : PySem.W.Frag) (mg : Str → Option Value) (base : Heap) (k : Nat) (fI C : Addr) (n1 n2 : Str) : Prop := ∃ fd ps, FnOk P w K mg base (L2.CX P w) k fI fd ps (spIni2 C n1 n2) ∧ Binds K fd ps []
theorem ErrC.ok {P : Program} {w : World} {K : PySem.W.Frag} {mg : Str → Option Value} {base : Heap} {x up n1 n2 qual p0 p1 p2 : Str} {sI : Stmt} {fI : Addr} (T : ErrC K mg x up n1 n2 qual sI [p0, p1, p2] fI) (S : FnScope [p0, p1, p2] [p0, p1, p2] (defScope sI))
    (hb : ∀ (cdv : Value) (A : Around) (outer : List Env) (s : Shared) (H : Hp) (E : XK), PSs (cxOf (L2.CX P w) P w K mg base [p0, p1, p2] qual (defScope sI) fI cdv A outer s H E) (defBody sI)
      (tSeq (tDrop (tVeI K (tCons (tVar 0) tNil))) (tSeq (tOst K n1 (tVar 0) (tVar 1)) (tOst K n2 (tVar 0) (tVar 2))))) : IniD P w K mg base 1 fI (adOf mg x) n1 n2 := by
  obtain ⟨fd, F, hbd⟩ := T.fn
  exact ⟨fd, _, F.okX S (fun vs H Q E h => by obtain ⟨a, v1, v2, rfl, _⟩ := h; rfl) fun cdv A outer s H vs Q E hr h => ⟨_, hb cdv A outer s H E, ini2_pure T.oex T.no1 T.no2 rfl h⟩, hbd⟩
section
variable {X : Cx} {nm : Nv} {W : WX} {e : Expr} {es : List Expr} {pos : Pos} {fs : Ev → M (List Da)}
theorem ms_raiseE {x up n1 n2 qual : Str} {sI : Stmt} {ps : List Str} {fI : Addr} {k : Nat} {p pos' : Pos} (hc : X.calm = true) (tk : Takes X W) (T : ErrC X.K X.mg x up n1 n2 qual sI ps fI) (D : IniD X.prog X.w X.K X.mg X.base k fI (adOf X.mg x) n1 n2) (hr : RoomG (k + 1) X.A) (hg : Gl X x) (hn : nm.nm x = adOf X.mg x)
    (ha : MA X nm W (e :: es) fs) (hdb : (x == ("__debug__" : Str)) = false := by decide) (he : starEach (e :: es) X.env = (false, eval e X.env) :: starEach es X.env := by rfl) (hpl : (backTo pos' (starEach es X.env)).any (·.1) = false := by rfl) :
    MS X nm W (.Raise (some (.Call (.Name x p) (e :: es) [] pos')) none pos) (raise2 x n1 n2 fs) := by
  obtain ⟨fd, ps, F, hb⟩ := D
  exact ms_raise2 hc tk T.oex T.ini T.tyI F hr.r hb hg T.g hn ha hdb he hpl
end
/-- an error of the class at S is what «except S» names -/
theorem exm_own {K : PySem.W.Frag} {S : Addr} (h1 : PySem.W.subIn K (.ref S) (.type "BaseException") = some true) (h2 : PySem.W.isClsIn K S = true) (h3 : PySem.W.typeIn K (.ref S) = some (.type "type")) (h4 : PySem.W.subIn K (.ref S) (.ref S) = some true) : PySem.W.exmOne K (.ref S) (.ref S) = some true := by
  have a : (PySem.W.subIn K (.ref S) (.type "BaseException") == some true) = true := by rw [h1]; rfl
  have b : ((PySem.W.clsIn K S).isSome && PySem.W.typeIn K (.ref S) == some (.type "type")) = true := by
    rw [show (PySem.W.clsIn K S).isSome = true from h2, h3]
    rfl
  unfold PySem.W.exmOne
  rw [if_pos a]
  unfold PySem.W.kitCls
  dsimp only
  rw [if_pos b]
  exact h4
end M2

/-! Layer M2, part p: plain law: what must hold behind a piece, step by step; small plain data. -/
namespace M2
open PySem PySem.Spec L2
/-- behind a piece -/
def Res.w {α : Type} (r : Res α) (Q : α → Store → Prop) (E : Str → List (Str × Da) → Store → Prop) : Prop := match r with
  | .ok a S => Q a S
  | .exc c fs S => E c fs S
  | .bad => False
def NoE : Str → List (Str × Da) → Store → Prop := fun _ _ _ => False
structure SP where
  nx : Ev → Store → Prop
  rt : Da → Store → Prop := fun _ _ => False
  ex : Str → List (Str × Da) → Ev → Store → Prop := fun _ _ _ _ => False
  bk : Ev → Store → Prop := fun _ _ => False
  ct : Ev → Store → Prop := fun _ _ => False
def SR.w (r : SR) (P : SP) : Prop := match r with
  | .nx ρ S => P.nx ρ S
  | .rt d S => P.rt d S
  | .bk ρ S => P.bk ρ S
  | .ct ρ S => P.ct ρ S
  | .exc c fs ρ S => P.ex c fs ρ S
  | .bad => False
/-- a partial reckoning gives -/
def oW {α : Type} (o : Option (α × Store)) (Q : α → Store → Prop) : Prop := match o with
  | some (a, S) => Q a S
  | none => False
section
variable {α β : Type} {Q Q' : α → Store → Prop} {E E' : Str → List (Str × Da) → Store → Prop} {P : SP} {ρ : Ev} {S : Store}
theorem w_imp {r : Res α} (h : r.w Q E) (k : ∀ a S, Q a S → Q' a S) (e : ∀ c fs S, E c fs S → E' c fs S) : r.w Q' E' := by
  cases r with
  | ok a S => exact k _ _ h
  | exc c fs S => exact e _ _ _ h
  | bad => exact h
theorem w_imp0 {r : Res α} (h : r.w Q NoE) (k : ∀ a S, Q a S → Q' a S) : r.w Q' E := w_imp h k fun _ _ _ h => h.elim
theorem ww_imp {r : SR} {P' : SP} (h : r.w P) (k1 : ∀ ρ S, P.nx ρ S → P'.nx ρ S) (k2 : ∀ d S, P.rt d S → P'.rt d S) (k3 : ∀ c fs ρ S, P.ex c fs ρ S → P'.ex c fs ρ S) (k4 : ∀ ρ S, P.bk ρ S → P'.bk ρ S) (k5 : ∀ ρ S, P.ct ρ S → P'.ct ρ S) : r.w P' := by
  cases r with
  | nx ρ S => exact k1 _ _ h
  | rt d S => exact k2 _ _ h
  | exc c fs ρ S => exact k3 _ _ _ _ h
  | bk ρ S => exact k4 _ _ h
  | ct ρ S => exact k5 _ _ h
  | bad => exact h
theorem w_ok {a : α} : (Res.ok a S).w Q E = Q a S := rfl
theorem w_pure {a : α} : ((pure a : M α) S).w Q E = Q a S := rfl
theorem w_thn {r : Res α} {f : α → M β} {Q : β → Store → Prop} : (r.thn f).w Q E = r.w (fun a S => (f a S).w Q E) E := by cases r <;> rfl
theorem w_bind {m : M α} {f : α → M β} {Q : β → Store → Prop} : ((m >>= f) S).w Q E = (m S).w (fun a S => (f a S).w Q E) E := w_thn
theorem w_thn' {r : Res α} {f : α → M β} {Q : β → Store → Prop} (h : r.w (fun a S => (f a S).w Q E) E) : (r.thn f).w Q E := by rw [w_thn]; exact h
theorem w_lift {g : Store → Option (α × Store)} : (liftO g S).w Q E = oW (g S) Q := by
  unfold liftO oW
  cases g S with
  | none => rfl
  | some p => rfl
theorem oW_some {a : α} : oW (some (a, S)) Q = Q a S := rfl
theorem w_evS {f : Ev → M α} {k : α → FS} : (evS f k ρ S).w P = (f ρ S).w (fun a S => (k a ρ S).w P) (fun c fs S => P.ex c fs ρ S) := by
  unfold evS
  cases f ρ S <;> rfl
theorem w_seq {f g : FS} : (seqS f g ρ S).w P = (f ρ S).w { P with nx := fun ρ S => (g ρ S).w P } := by
  unfold seqS
  cases h : f ρ S <;> rfl
theorem w_nil : (nilS ρ S).w P = P.nx ρ S := rfl
theorem w_ite {g : Ev → M Bool} {f f' : FS} : (iteS g f f' ρ S).w P = (g ρ S).w (fun k S => if k = true then (f ρ S).w P else (f' ρ S).w P) (fun c fs S => P.ex c fs ρ S) := by
  unfold iteS
  rw [w_evS]
  congr 1
  funext k S
  cases k <;> rfl
theorem w_ret {f : Ev → M Da} : (retS f ρ S).w P = (f ρ S).w P.rt (fun c fs S => P.ex c fs ρ S) := w_evS
theorem w_drop {f : Ev → M Da} : (dropS f ρ S).w P = (f ρ S).w (fun _ S => P.nx ρ S) (fun c fs S => P.ex c fs ρ S) := w_evS
theorem w_set {i : Nat} {f : Ev → M Da} : (setS i f ρ S).w P = (f ρ S).w (fun d S => P.nx (ρ.set i (some d)) S) (fun c fs S => P.ex c fs ρ S) := by
  unfold setS asgS
  rw [w_evS]
  rfl
theorem w_asg {f : Ev → M Da} {g : FG} : (asgS f g ρ S).w P = (f ρ S).w (fun d S => oW (g d ρ S) fun ρ S => P.nx ρ S) (fun c fs S => P.ex c fs ρ S) := by
  unfold asgS
  rw [w_evS]
  congr 1
  funext d S
  cases g d ρ S with
  | none => rfl
  | some p => rfl
theorem w_raise2 {x n1 n2 : Str} {fs : Ev → M (List Da)} : (raise2 x n1 n2 fs ρ S).w P = (fs ρ S).w (fun ds S => match ds with
    | [d1, d2] => P.ex x [(n2, d2), (n1, d1)] ρ S
    | _ => False) (fun c fs S => P.ex c fs ρ S) := by
  unfold raise2
  rw [w_evS]
  congr 1
  funext ds S
  match ds with
  | [] => rfl
  | [_] => rfl
  | [_, _] => rfl
  | _ :: _ :: _ :: _ => rfl
/-! expressions -/
theorem w_op2 {h : Da → Da → OpF} {fa fb : Ev → M Da} {Q : Da → Store → Prop} : (op2 h fa fb ρ S).w Q E = (fa ρ S).w (fun x S => (fb ρ S).w (fun y S => oW (h x y S) Q) E) E := by
  unfold op2
  simp only [w_bind, w_lift]
theorem w_nilA {Q : List Da → Store → Prop} : (nilA ρ S).w Q E = Q [] S := rfl
theorem w_consA {f : Ev → M Da} {fs : Ev → M (List Da)} {Q : List Da → Store → Prop} : (consA f fs ρ S).w Q E = (f ρ S).w (fun x S => (fs ρ S).w (fun xs S => Q (x :: xs) S) E) E := by
  unfold consA
  simp only [w_bind, w_pure]
theorem w_tup {fs : Ev → M (List Da)} {Q : Da → Store → Prop} : (tupE fs ρ S).w Q E = (fs ρ S).w (fun ds S => oW (mkTup ds S) Q) E := by
  unfold tupE
  simp only [w_bind, w_lift]
theorem w_lst {fs : Ev → M (List Da)} {Q : Da → Store → Prop} : (lstE fs ρ S).w Q E = (fs ρ S).w (fun ds S => oW (mkLst ds S) Q) E := by
  unfold lstE
  simp only [w_bind, w_lift]
theorem w_callE {fs : Ev → M (List Da)} {h : List Da → OpF} {Q : Da → Store → Prop} : (callE fs h ρ S).w Q E = (fs ρ S).w (fun ds S => oW (h ds S) Q) E := by
  unfold callE
  simp only [w_bind, w_lift]
theorem w_callF {n : Nat} {g : List Da → M Da} {fs : Ev → M (List Da)} {Q : Da → Store → Prop} : (callF n g fs ρ S).w Q E = (fs ρ S).w (fun ds S => (appF n g ds S).w Q E) E := by
  unfold callF
  simp only [w_bind]
theorem w_app {n : Nat} {g : List Da → M Da} {ds : List Da} {Q : Da → Store → Prop} (h : ds.length = n) : (appF n g ds S).w Q E = (g ds S).w Q E := by
  unfold appF
  rw [if_pos h]
theorem w_meth {T : String} {fo : Ev → M Da} {fs : Ev → M (List Da)} {h : Da → List Da → OpF} {Q : Da → Store → Prop} : (methE T fo fs h ρ S).w Q E = (fo ρ S).w (fun d S => (isTy T d S).w (fun _ S => (fs ρ S).w (fun ds S => oW (h d ds S) Q) E) E) E := by
  unfold methE
  simp only [w_bind, w_lift]
theorem w_isStr {x : Str} {Q : Unit → Store → Prop} : (isTy "str" (.str x) S).w Q E = Q () S := rfl
theorem w_ifE {g : Ev → M Bool} {fa fb : Ev → M Da} {Q : Da → Store → Prop} : (ifE g fa fb ρ S).w Q E = (g ρ S).w (fun k S => if k = true then (fa ρ S).w Q E else (fb ρ S).w Q E) E := by
  unfold ifE
  rw [w_bind]
  congr 1
  funext k S
  cases k <;> rfl
theorem w_tst {f : Ev → M Da} {Q : Bool → Store → Prop} : (tst f ρ S).w Q E = (f ρ S).w (fun d S => (toB d S).w Q E) E := by
  unfold tst
  rw [w_bind]
theorem w_toB {b : Bool} {Q : Bool → Store → Prop} : (toB (.bl b) S).w Q E = Q b S := rfl
theorem w_chn {h h' : Da → Da → OpF} {fa fb fc : Ev → M Da} {Q : Da → Store → Prop} : (chn h h' fa fb fc ρ S).w Q E = (fa ρ S).w (fun x S => (fb ρ S).w (fun y S => oW (h x y S) fun d S => (toB d S).w (fun k S => if k = true then (fc ρ S).w (fun u S => oW (h' y u S) Q) E else Q (.bl false) S) E) E) E := by
  unfold chn
  simp only [w_bind, w_lift]
  congr 1
  funext x S
  congr 1
  funext y S
  cases h x y S with
  | none => rfl
  | some p =>
    simp only [oW]
    congr 1
    funext k S
    cases k
    · rfl
    · simp only [if_true, w_bind, w_lift]
      rfl
theorem w_bAnd {ga gb : Ev → M Bool} {Q : Bool → Store → Prop} : (bAnd ga gb ρ S).w Q E = (ga ρ S).w (fun k S => if k = true then (gb ρ S).w Q E else Q false S) E := by
  unfold bAnd
  rw [w_bind]
  congr 1
  funext k S
  cases k <;> rfl
theorem w_bOr {ga gb : Ev → M Bool} {Q : Bool → Store → Prop} : (bOr ga gb ρ S).w Q E = (ga ρ S).w (fun k S => if k = true then Q true S else (gb ρ S).w Q E) E := by
  unfold bOr
  rw [w_bind]
  congr 1
  funext k S
  cases k <;> rfl
theorem w_bNot {ga : Ev → M Bool} {Q : Bool → Store → Prop} : (bNot ga ρ S).w Q E = (ga ρ S).w (fun k S => Q (!k) S) E := by
  unfold bNot
  simp only [w_bind, w_pure]
theorem w_getV {i : Nat} {Q : Da → Store → Prop} {d : Da} (h : ρ[i]? = some (some d)) : (getV ρ i S).w Q E = Q d S := by
  unfold getV
  rw [h]
  rfl
theorem w_slE {fa : Ev → M Da} {fl fh : Ev → M (Option Int)} {Q : Da → Store → Prop} : (slE fa fl fh ρ S).w Q E = (fa ρ S).w (fun x S => (fl ρ S).w (fun lo S => (fh ρ S).w (fun hi S => oW (dSl lo hi x S) Q) E) E) E := by
  unfold slE
  simp only [w_bind, w_lift]
theorem w_someE {fe : Ev → M Da} {Q : Option Int → Store → Prop} : (someE fe ρ S).w Q E = (fe ρ S).w (fun d S => (toI d S).w Q E) E := by
  unfold someE
  rw [w_bind]
theorem w_toI {i : Int} {Q : Option Int → Store → Prop} : (toI (.int i) S).w Q E = Q (some i) S := rfl
/-- a def's body -/
theorem w_run {N : Nat} {b : FS} {ds : List Da} {Q : Da → Store → Prop} (h : (b (begE N ds) S).w { nx := fun _ S => Q .non S, rt := Q, ex := fun c fs _ S => E c fs S }) : (runF N b ds S).w Q E := by
  unfold runF
  cases e : b (begE N ds) S <;> rw [e] at h <;> exact h
theorem w_try {b : FS} {sub : Str → Option Bool} {su : Str → List (Str × Da) → FS} (h : (b ρ S).w { P with ex := fun c fs ρ S => ∃ k, sub c = some k ∧ (if k = true then (su c fs ρ S).w P else P.ex c fs ρ S) }) : (tryS b sub su ρ S).w P := by
  unfold tryS
  cases e : b ρ S with
  | exc c fs ρ' S' =>
    rw [e] at h
    obtain ⟨k, h1, h2⟩ := h
    dsimp only
    rw [h1]
    cases k
    · exact h2
    · exact h2
  | nx ρ' S' => rw [e] at h; exact h
  | rt d S' => rw [e] at h; exact h
  | bk ρ' S' => rw [e] at h; exact h
  | ct ρ' S' => rw [e] at h; exact h
  | bad => rw [e] at h; exact h
theorem w_callLF {i : Nat} {ft : FTab} {fs : Ev → M (List Da)} {Q : Da → Store → Prop} {x : Str} {n : Nat} {g : List Da → M Da} (h : ρ[i]? = some (some (.fn x))) (hf : ft x = some (n, g)) : (callLF i ft fs ρ S).w Q E = (fs ρ S).w (fun ds S => (appF n g ds S).w Q E) E := by
  unfold callLF
  rw [w_bind, w_getV h]
  dsimp only
  rw [hf]
  dsimp only
  rw [w_bind]
/-! loops, comprehensions -/
theorem w_loop {st : Store → Prop} {g : FG} {b : FS} {P : SP} : ∀ {ds : List Da} {ρ : Ev} {S : Store} (I : List Da → Ev → Store → Prop), I ds ρ S → (∀ ρ S, I [] ρ S → P.nx ρ S) →
    (∀ d r ρ S, I (d :: r) ρ S → oW (g d ρ S) fun ρ S => (b ρ S).w { P with nx := fun ρ S => st S ∧ I r ρ S, ct := fun ρ S => st S ∧ I r ρ S, bk := fun ρ S => P.nx ρ S }) → (loopS st g b ds ρ S).w P
  | [], ρ, S, I, h, k, _ => k _ _ h
  | d :: ds, ρ, S, I, h, k, t => by
    have q := t d ds ρ S h
    unfold loopS
    cases e : g d ρ S with
    | none => rw [e] at q; exact q.elim
    | some p =>
      obtain ⟨ρ1, S1⟩ := p
      rw [e] at q
      have q : (b ρ1 S1).w _ := q
      dsimp only
      cases e2 : b ρ1 S1 with
      | nx ρ2 S2 =>
        rw [e2] at q
        obtain ⟨q1, q2⟩ := q
        dsimp only
        rw [if_pos q1]
        exact w_loop I q2 k t
      | ct ρ2 S2 =>
        rw [e2] at q
        obtain ⟨q1, q2⟩ := q
        dsimp only
        rw [if_pos q1]
        exact w_loop I q2 k t
      | bk ρ2 S2 => rw [e2] at q; exact q
      | rt d S2 => rw [e2] at q; exact q
      | exc c fs ρ2 S2 => rw [e2] at q; exact q
      | bad => rw [e2] at q; exact q
theorem w_for {src : Ev → M Src} {g : FG} {b : FS} (h : (src ρ S).w (fun s S => s.2 S ∧ ∃ I : List Da → Ev → Store → Prop, I s.1 ρ S ∧ (∀ ρ S, I [] ρ S → P.nx ρ S) ∧
    ∀ d r ρ S, I (d :: r) ρ S → oW (g d ρ S) fun ρ S => (b ρ S).w { P with nx := fun ρ S => s.2 S ∧ I r ρ S, ct := fun ρ S => s.2 S ∧ I r ρ S, bk := fun ρ S => P.nx ρ S }) (fun c fs S => P.ex c fs ρ S)) : (forS src g b ρ S).w P := by
  unfold forS
  rw [w_evS]
  refine w_imp h (fun s S ⟨h1, I, h2, h3, h4⟩ => ?_) fun _ _ _ h => h
  rw [if_pos h1]
  exact w_loop I h2 h3 h4
theorem w_comp {st : Store → Prop} {g : FG} {gt : Ev → M Bool} {fe : Ev → M Da} {ρ : Ev} {Q : List Da → Store → Prop} : ∀ {ds acc : List Da} {S : Store} (I : List Da → List Da → Store → Prop), I ds acc S → (∀ acc S, I [] acc S → Q acc S) →
    (∀ d r acc S, I (d :: r) acc S → oW (g d ρ S) fun ρ S => (gt ρ S).w (fun k S => if k = true then (fe ρ S).w (fun y S => st S ∧ acc.length < sizeLine ∧ I r (acc ++ [y]) S) NoE else st S ∧ I r acc S) NoE) → (compL st g gt fe ρ ds acc S).w Q E
  | [], acc, S, I, h, k, _ => k _ _ h
  | d :: ds, acc, S, I, h, k, t => by
    have q := t d ds acc S h
    unfold compL
    cases e : g d ρ S with
    | none => rw [e] at q; exact q.elim
    | some p =>
      obtain ⟨ρ1, S1⟩ := p
      rw [e] at q
      have q : (gt ρ1 S1).w _ _ := q
      dsimp only
      cases e2 : gt ρ1 S1 with
      | exc c fs S2 => rw [e2] at q; exact q.elim
      | bad => rw [e2] at q; exact q.elim
      | ok kk S2 =>
        rw [e2] at q
        cases kk with
        | false =>
          obtain ⟨q1, q2⟩ : st S2 ∧ I ds acc S2 := q
          dsimp only
          rw [if_pos q1]
          exact w_comp I q2 k t
        | true =>
          have q : (fe ρ1 S2).w _ _ := q
          dsimp only
          cases e3 : fe ρ1 S2 with
          | exc c fs S3 => rw [e3] at q; exact q.elim
          | bad => rw [e3] at q; exact q.elim
          | ok y S3 =>
            rw [e3] at q
            obtain ⟨q1, q2, q3⟩ : st S3 ∧ acc.length < sizeLine ∧ I ds (acc ++ [y]) S3 := q
            dsimp only
            rw [if_pos ⟨q1, q2⟩]
            exact w_comp I q3 k t
theorem w_compE {vs : List Nat} {src : Ev → M Src} {g : FG} {gt : Ev → M Bool} {fe : Ev → M Da} {Q : Da → Store → Prop} (h : (src ρ S).w (fun s S => s.2 S ∧ ∃ I : List Da → List Da → Store → Prop, I s.1 [] S ∧ (∀ acc S, I [] acc S → Q (.ref S.length) (S ++ [.lst acc])) ∧
    ∀ d r acc S, I (d :: r) acc S → oW (g d (wipeR ρ vs) S) fun ρ S => (gt ρ S).w (fun k S => if k = true then (fe ρ S).w (fun y S => s.2 S ∧ acc.length < sizeLine ∧ I r (acc ++ [y]) S) NoE else s.2 S ∧ I r acc S) NoE) E) : (compE vs src g gt fe ρ S).w Q E := by
  unfold compE
  refine w_thn' (r := src ρ S) ?_
  refine w_imp h (fun s S ⟨h1, I, h2, h3, h4⟩ => ?_) fun _ _ _ h => h
  rw [if_pos h1]
  refine w_thn' ?_
  exact w_comp I h2 h3 h4
theorem w_tyes {Q : Bool → Store → Prop} : (tyes ρ S).w Q E = Q true S := rfl
theorem w_rng1 {fs : Ev → M (List Da)} {Q : Src → Store → Prop} (h : (fs ρ S).w (fun ds S => ∃ n : Int, ds = [.int n] ∧ 0 ≤ n ∧ n < 2 ^ 62 ∧ Q (rngD 0 n.toNat, fun _ => True) S) E) : (rngE1 fs ρ S).w Q E := by
  unfold rngE1
  refine w_thn' (r := fs ρ S) ?_
  refine w_imp h (fun ds S ⟨n, h1, h2, h3, h4⟩ => ?_) fun _ _ _ h => h
  subst h1
  dsimp only [toInt]
  rw [if_pos ⟨by omega, h3⟩]
  exact h4
theorem w_rng2 {fs : Ev → M (List Da)} {Q : Src → Store → Prop} (h : (fs ρ S).w (fun ds S => ∃ m n : Int, ds = [.int m, .int n] ∧ -(2 ^ 62) ≤ m ∧ m < 2 ^ 62 ∧ -(2 ^ 62) ≤ n ∧ n < 2 ^ 62 ∧ Q (rngD m (n - m).toNat, fun _ => True) S) E) : (rngE2 fs ρ S).w Q E := by
  unfold rngE2
  refine w_thn' (r := fs ρ S) ?_
  refine w_imp h (fun ds S ⟨m, n, h1, h2, h3, h4, h5, h6⟩ => ?_) fun _ _ _ h => h
  subst h1
  dsimp only [toInt]
  rw [if_pos ⟨h2, h3, h4, h5⟩]
  exact h6
theorem w_zip {fs : Ev → M (List Da)} {Q : Src → Store → Prop} (h : (fs ρ S).w (fun ds S => ∃ d d' b b' xs ys st st', ds = [d, d'] ∧ seqG S d = some (b, xs, st) ∧ seqG S d' = some (b', ys, st') ∧ Q ((xs.zip ys).map fun p => Da.tup [p.1, p.2], fun S' => st S' ∧ st' S') S) E) : (zipE fs ρ S).w Q E := by
  unfold zipE
  refine w_thn' (r := fs ρ S) ?_
  refine w_imp h (fun ds S ⟨d, d', b, b', xs, ys, st, st', h1, h2, h3, h4⟩ => ?_) fun _ _ _ h => h
  subst h1
  dsimp only
  rw [h2, h3]
  exact h4
theorem w_src {f : Ev → M Da} {Q : Src → Store → Prop} (h : (f ρ S).w (fun d S => match itemsOf S d with
    | some s => Q s S
    | none => False) E) : (srcE f ρ S).w Q E := by
  unfold srcE
  refine w_thn' (r := f ρ S) ?_
  refine w_imp h (fun d S h => ?_) fun _ _ _ h => h
  cases e : itemsOf S d with
  | none => rw [e] at h; exact h
  | some s => rw [e] at h; exact h
end
end M2

/-! Layer M2, part q: small plain data: what repr and == say of it. -/
namespace M2
open PySem PySem.Spec L2
mutual
/-- plain data of short ints and legal texts -/
def okD : Da → Bool
  | .non => true
  | .bl _ => true
  | .int i => decide (i.natAbs < 10 ^ 12)
  | .str x => PyData.strOk x
  | .tup ds => okDs ds
  | _ => false
def okDs : List Da → Bool
  | [] => true
  | d :: r => okD d && okDs r
end
mutual
def pyD : Da → PyData
  | .bl b => .bool b
  | .int i => .int i
  | .str x => .str x
  | .tup ds => .tuple (pyDs ds)
  | _ => .none
def pyDs : List Da → List PyData
  | [] => []
  | d :: r => pyD d :: pyDs r
end
mutual
def dpD : Da → Nat
  | .tup ds => dpDs ds + 1
  | _ => 0
def dpDs : List Da → Nat
  | [] => 0
  | d :: r => max (dpD d) (dpDs r)
end
mutual
def wtD : Da → Nat
  | .int _ => 41
  | .str x => x.length
  | .tup ds => wtDs ds
  | _ => 0
def wtDs : List Da → Nat
  | [] => 0
  | d :: r => wtD d + 1 + wtDs r
end
mutual
theorem py_of (rf : Nat → Option PyData) : ∀ d : Da, okD d = true → pyOf rf d = some (pyD d)
  | .non, _ => by simp only [pyOf, pyD]
  | .bl _, _ => by simp only [pyOf, pyD]
  | .int _, _ => by simp only [pyOf, pyD]
  | .str _, _ => by simp only [pyOf, pyD]
  | .tup ds, h => by
    simp only [okD] at h
    simp only [pyOf, pyD, py_ofs rf ds h, Option.map_some]
  | .fro _, h => by simp [okD] at h
  | .ref _, h => by simp [okD] at h
  | .fn _, h => by simp [okD] at h
  | .ty _, h => by simp [okD] at h
  | .adr _, h => by simp [okD] at h
theorem py_ofs (rf : Nat → Option PyData) : ∀ ds : List Da, okDs ds = true → pyOfL rf ds = some (pyDs ds)
  | [], _ => by simp only [pyOfL, pyDs]
  | d :: r, h => by
    simp only [okDs, Bool.and_eq_true] at h
    simp only [pyOfL, pyDs, py_of rf d h.1, py_ofs rf r h.2, Option.bind_some, Option.map_some]
end
mutual
theorem py_lay : ∀ d : Da, okD d = true → PyData.canLay0 (pyD d) = true
  | .non, _ => by simp only [pyD, PyData.canLay0]
  | .bl _, _ => by simp only [pyD, PyData.canLay0]
  | .int _, _ => by simp only [pyD, PyData.canLay0]
  | .str _, h => by simpa only [pyD, PyData.canLay0, okD] using h
  | .tup ds, h => by
    simp only [okD] at h
    simp only [pyD, PyData.canLay0, py_lays ds h]
  | .fro _, h => by simp [okD] at h
  | .ref _, h => by simp [okD] at h
  | .fn _, h => by simp [okD] at h
  | .ty _, h => by simp [okD] at h
  | .adr _, h => by simp [okD] at h
theorem py_lays : ∀ ds : List Da, okDs ds = true → PyData.canLayAll0 (pyDs ds) = true
  | [], _ => by simp only [pyDs, PyData.canLayAll0]
  | d :: r, h => by
    simp only [okDs, Bool.and_eq_true] at h
    simp only [pyDs, PyData.canLayAll0, py_lay d h.1, py_lays r h.2, Bool.and_self]
end
mutual
theorem py_dp : ∀ d : Da, (pyD d).depth = dpD d
  | .tup ds => by simp only [pyD, PyData.depth, dpD, py_dps ds]
  | .non | .bl _ | .int _ | .str _ | .fro _ | .ref _ | .fn _ | .ty _ | .adr _ => by simp only [pyD, PyData.depth, dpD]
theorem py_dps : ∀ ds : List Da, PyData.depthAll (pyDs ds) = dpDs ds
  | [] => by simp only [pyDs, PyData.depthAll, dpDs]
  | d :: r => by simp only [pyDs, PyData.depthAll, dpDs, py_dp d, py_dps r]
end
theorem log_le {i : Int} (h : i.natAbs < 10 ^ 12) : i.natAbs.log2 < 40 := by
  by_cases z : i.natAbs = 0
  · rw [z]; decide
  · exact (Nat.log2_lt z).mpr (Nat.lt_trans h (by decide))
mutual
theorem py_wt : ∀ d : Da, okD d = true → (pyD d).weight ≤ wtD d
  | .non, _ => by simp only [pyD, PyData.weight, wtD]; omega
  | .bl _, _ => by simp only [pyD, PyData.weight, wtD]; omega
  | .int i, h => by
    simp only [okD, decide_eq_true_eq] at h
    have := log_le h
    simp only [pyD, PyData.weight, wtD]
    split <;> omega
  | .str x, _ => by simp only [pyD, PyData.weight, wtD]; exact Nat.le_refl _
  | .tup ds, h => by
    simp only [okD] at h
    simp only [pyD, PyData.weight, wtD]
    exact py_wts ds h
  | .fro _, h => by simp [okD] at h
  | .ref _, h => by simp [okD] at h
  | .fn _, h => by simp [okD] at h
  | .ty _, h => by simp [okD] at h
  | .adr _, h => by simp [okD] at h
theorem py_wts : ∀ ds : List Da, okDs ds = true → PyData.weightAll (pyDs ds) ≤ wtDs ds
  | [], _ => by simp only [pyDs, PyData.weightAll, wtDs]; omega
  | d :: r, h => by
    simp only [okDs, Bool.and_eq_true] at h
    have h1 := py_wt d h.1
    have h2 := py_wts r h.2
    simp only [pyDs, PyData.weightAll, wtDs]
    omega
end
theorem num_len {n : Nat} (h : n < 10 ^ 12) : (Str.ofString (toString ((n : Nat) : Int))).length ≤ 12 := by
  rw [TL.len_tl, TL.tl_num]
  exact TL.numL_len (by decide) h
theorem shown_int_len {i : Int} (h : i.natAbs < 10 ^ 12) : (PyData.shown (.int i)).length ≤ 13 := by
  simp only [PyData.shown]
  cases i with
  | ofNat n => exact Nat.le_succ_of_le (num_len h)
  | negSucc m =>
    have e : (toString (Int.negSucc m)).toList = '-' :: (toString (((m + 1 : Nat) : Int))).toList := by
      show ("-" ++ Nat.repr (m + 1)).toList = '-' :: (Nat.repr (m + 1)).toList
      rw [String.toList_append]
      rfl
    have h' : m + 1 < 10 ^ 12 := h
    have k := num_len h'
    rw [TL.len_tl, TL.tl_ofString, List.length_map] at k ⊢
    rw [e, List.length_cons]
    omega
mutual
theorem py_short : ∀ d : Da, okD d = true → (pyD d).intsShort 13 = true
  | .non, _ => by simp only [pyD, PyData.intsShort]
  | .bl _, _ => by simp only [pyD, PyData.intsShort]
  | .int i, h => by
    simp only [okD, decide_eq_true_eq] at h
    simp only [pyD, PyData.intsShort, decide_eq_true_eq]
    exact shown_int_len h
  | .str x, _ => by simp only [pyD, PyData.intsShort]
  | .tup ds, h => by
    simp only [okD] at h
    simp only [pyD, PyData.intsShort]
    exact py_shorts ds h
  | .fro _, h => by simp [okD] at h
  | .ref _, h => by simp [okD] at h
  | .fn _, h => by simp [okD] at h
  | .ty _, h => by simp [okD] at h
  | .adr _, h => by simp [okD] at h
theorem py_shorts : ∀ ds : List Da, okDs ds = true → PyData.intsShortAll 13 (pyDs ds) = true
  | [], _ => by simp only [pyDs, PyData.intsShortAll]
  | d :: r, h => by
    simp only [okDs, Bool.and_eq_true] at h
    simp only [pyDs, PyData.intsShortAll, py_short d h.1, py_shorts r h.2, Bool.and_self]
end
mutual
theorem py_show : ∀ d : Da, okD d = true → (pyD d).showable = true
  | .non, _ => by simp only [pyD, PyData.showable]
  | .bl _, _ => by simp only [pyD, PyData.showable]
  | .int i, h => by
    simp only [okD, decide_eq_true_eq] at h
    have := log_le h
    simp only [pyD, PyData.showable, decide_eq_true_eq]
    omega
  | .str x, _ => by simp only [pyD, PyData.showable]
  | .tup ds, h => by
    simp only [okD] at h
    simp only [pyD, PyData.showable]
    exact py_shows ds h
  | .fro _, h => by simp [okD] at h
  | .ref _, h => by simp [okD] at h
  | .fn _, h => by simp [okD] at h
  | .ty _, h => by simp [okD] at h
  | .adr _, h => by simp [okD] at h
theorem py_shows : ∀ ds : List Da, okDs ds = true → PyData.showableAll (pyDs ds) = true
  | [], _ => by simp only [pyDs, PyData.showableAll]
  | d :: r, h => by
    simp only [okDs, Bool.and_eq_true] at h
    simp only [pyDs, PyData.showableAll, py_show d h.1, py_shows r h.2, Bool.and_self]
end
/-- small data -/
structure SmD (d : Da) : Prop where
  ok : okD d = true
  dp : dpD d ≤ 8
  wt : wtD d ≤ 2 ^ 20
theorem SmD.shaped {d : Da} (h : SmD d) : SeqAt.shaped (pyD d) = true := by
  unfold SeqAt.shaped
  have := h.dp
  rw [py_lay d h.ok, py_dp d, Bool.true_and, decide_eq_true_eq]
  omega
theorem SmD.toPy {d : Da} (h : SmD d) (S : Store) : toPy S d = some (pyD d) := py_of _ d h.ok
theorem SmD.repr {d : Da} (h : SmD d) (S : Store) : cRepr [d] S = some (.str (pyD d).shown, S) := by
  unfold cRepr
  dsimp only
  rw [h.toPy S, Option.bind_some, if_pos]
  refine ⟨py_show d h.ok, h.shaped, ?_⟩
  have hl : PyData.layable0 (pyD d) = true := by
    unfold PyData.layable0
    rw [py_lay d h.ok, py_dp d, Bool.true_and, Bool.and_eq_true, decide_eq_true_eq, decide_eq_true_eq]
    exact ⟨by have := h.dp; omega, Nat.le_trans (py_wt d h.ok) h.wt⟩
  exact Nat.le_trans (PyProof.Rows.shown_le13 hl (py_short d h.ok)) (by rw [sizeLine_eq]; omega)
theorem SmD.eqG {d e : Da} (h : SmD d) (k : SmD e) (S : Store) : eqvG S d e = some (PyData.eqv (pyD d) (pyD e)) := by
  unfold eqvG
  rw [h.toPy S, Option.bind_some, k.toPy S, Option.bind_some, if_pos ⟨h.shaped, k.shaped⟩]
theorem SmD.refl {d : Da} (h : SmD d) : PyData.eqv (pyD d) (pyD d) = true := SeqAt.eqv_refl _ (py_lay d h.ok)
theorem okDs_all : ∀ {ds : List Da}, (∀ d ∈ ds, okD d = true) → okDs ds = true
  | [], _ => rfl
  | d :: r, h => by
    simp only [okDs, h d List.mem_cons_self, okDs_all fun x hx => h x (List.mem_cons_of_mem _ hx), Bool.and_self]
theorem dpDs_le {B : Nat} : ∀ {ds : List Da}, (∀ d ∈ ds, dpD d ≤ B) → dpDs ds ≤ B
  | [], _ => Nat.zero_le _
  | d :: r, h => by
    have h1 := h d List.mem_cons_self
    have h2 := dpDs_le (B := B) fun x hx => h x (List.mem_cons_of_mem _ hx)
    simp only [dpDs]
    omega
theorem wtDs_le {B : Nat} : ∀ {ds : List Da}, (∀ d ∈ ds, wtD d ≤ B) → wtDs ds ≤ ds.length * (B + 1)
  | [], _ => by simp [wtDs]
  | d :: r, h => by
    have h1 := h d List.mem_cons_self
    have h2 := wtDs_le (B := B) fun x hx => h x (List.mem_cons_of_mem _ hx)
    simp only [wtDs, List.length_cons, Nat.succ_mul]
    omega
end M2

/-! Layer M2, part r: the names' values; a law's feed and its draws. -/
namespace M2
open PySem PySem.Spec L2
section
variable {α β : Type} {E : Str → List (Str × Da) → Store → Prop} {Q : Da → Store → Prop} {S : Store}
theorem gv0 {d : Da} {ρ : Ev} : (getV (some d :: ρ) 0 S).w Q E = Q d S := rfl
theorem gvS {o : Option Da} {ρ : Ev} {n : Nat} : (getV (o :: ρ) (n + 1) S).w Q E = (getV ρ n S).w Q E := rfl
end
/-- nothing but the place r has changed -/
def Kp (r : Nat) (S S' : Store) : Prop := S.length ≤ S'.length ∧ ∀ i, i ≠ r → i < S.length → S'[i]? = S[i]?
theorem Kp.refl {r : Nat} {S : Store} : Kp r S S := ⟨Nat.le_refl _, fun _ _ _ => rfl⟩
theorem Kp.trans {r : Nat} {S1 S2 S3 : Store} (h : Kp r S1 S2) (k : Kp r S2 S3) : Kp r S1 S3 := ⟨Nat.le_trans h.1 k.1, fun i hi hl => (k.2 i hi (Nat.lt_of_lt_of_le hl h.1)).trans (h.2 i hi hl)⟩
theorem Kp.at_ {r i : Nat} {S S' : Store} {o : SO} (h : Kp r S S') (hi : i ≠ r) (e : S[i]? = some o) : S'[i]? = some o := by
  rw [h.2 i hi (List.getElem?_eq_some_iff.mp e).1]; exact e
theorem Kp.set {r : Nat} {S : Store} {o : SO} : Kp r S (S.set r o) := ⟨by rw [List.length_set]; exact Nat.le_refl _, fun i hi _ => by rw [List.getElem?_set_ne (Ne.symm hi)]⟩
theorem Kp.push {r : Nat} {S : Store} {o : SO} : Kp r S (S ++ [o]) := ⟨by simp, fun i _ hl => List.getElem?_append_left hl⟩
theorem get_lt {S : Store} {i : Nat} {o : SO} (e : S[i]? = some o) : i < S.length := (List.getElem?_eq_some_iff.mp e).1
theorem set_at {S : Store} {r : Nat} {o o' : SO} (e : S[r]? = some o) : (S.set r o')[r]? = some o' := List.getElem?_set_self (get_lt e)
theorem push_at2 {S : Store} {o : SO} : (S ++ [o])[S.length]? = some o := by simp
theorem push_old {S : Store} {i : Nat} {o o' : SO} (e : S[i]? = some o) : (S ++ [o'])[i]? = some o := by rw [List.getElem?_append_left (get_lt e)]; exact e
/-- the feed at r; N draws may still come -/
def FeedAt (r N : Nat) (S : Store) : Prop := ∃ (c : Nat) (cells : List Int) (pl rest n : Int), c < r ∧ S[c]? = some (.lst (cells.map Da.int)) ∧ S[r]? = some (.lst [.ref c, .int pl, .int rest, .int n]) ∧ 0 ≤ pl ∧ 0 ≤ n ∧ n + N ≤ 2 ^ 40 ∧ cells.length ≤ 63
theorem FeedAt.less {r N M : Nat} {S : Store} (h : FeedAt r N S) (le : M ≤ N) : FeedAt r M S := by
  obtain ⟨c, cells, pl, rest, n, h1, h2, h3, h4, h5, h6, h7⟩ := h
  exact ⟨c, cells, pl, rest, n, h1, h2, h3, h4, h5, by omega, h7⟩
theorem FeedAt.push {r N : Nat} {S : Store} {o : SO} (h : FeedAt r N S) : FeedAt r N (S ++ [o]) := by
  obtain ⟨c, cells, pl, rest, n, h1, h2, h3, h4, h5, h6, h7⟩ := h
  exact ⟨c, cells, pl, rest, n, h1, push_old h2, push_old h3, h4, h5, h6, h7⟩
theorem FeedAt.lt {r N : Nat} {S : Store} (h : FeedAt r N S) : r < S.length := by
  obtain ⟨c, cells, pl, rest, n, h1, h2, h3, _⟩ := h
  exact get_lt h3
theorem FeedAt.set {r N q : Nat} {S : Store} {o : SO} (h : FeedAt r N S) (hq : r < q) : FeedAt r N (S.set q o) := by
  obtain ⟨c, cells, pl, rest, n, h1, h2, h3, h4, h5, h6, h7⟩ := h
  exact ⟨c, cells, pl, rest, n, h1, by rw [List.getElem?_set_ne (by omega)]; exact h2, by rw [List.getElem?_set_ne (by omega)]; exact h3, h4, h5, h6, h7⟩
theorem ix_at {S : Store} {r : Nat} {ds : List Da} {i : Int} {d : Da} (h : S[r]? = some (.lst ds)) (hi : atI ds i = some d) : dIx (.ref r) (.int i) S = some (d, S) := by
  show ((seqOf S (.ref r)).bind fun xs => (atI xs i).map fun d => (d, S)) = _
  have e : seqOf S (.ref r) = some ds := by unfold seqOf; dsimp only; rw [h]
  rw [e, Option.bind_some, hi]
  rfl
theorem ix_tup {S : Store} {ds : List Da} {i : Int} {d : Da} (hi : atI ds i = some d) : dIx (.tup ds) (.int i) S = some (d, S) := by
  show ((seqOf S (.tup ds)).bind fun xs => (atI xs i).map fun d => (d, S)) = _
  show ((some ds).bind fun xs => (atI xs i).map fun d => (d, S)) = _
  rw [Option.bind_some, hi]
  rfl
theorem len_at {S : Store} {r : Nat} {ds : List Da} (h : S[r]? = some (.lst ds)) : cLen [.ref r] S = some (.int ds.length, S) := by
  show (seqOf S (.ref r)).map _ = _
  have e : seqOf S (.ref r) = some ds := by unfold seqOf; dsimp only; rw [h]
  rw [e]
  rfl
theorem set_ix {S : Store} {r : Nat} {xs : List Da} {k : Int} {j : Nat} {d : Da} {ρ : Ev} (h : S[r]? = some (.lst xs)) (hk : ixN xs.length k = some j) : gSubF (fun ρ => getV ρ 0) (fun _ => pure (.int k)) d (some (.ref r) :: ρ) S = some (some (.ref r) :: ρ, S.set r (.lst (xs.set j d))) := by
  unfold gSubF
  show ((setLst (.ref r) (.int k) d S).map _) = _
  unfold setLst
  dsimp only
  rw [h]
  dsimp only
  rw [hk]
  rfl
def drawT : FS := (seqS (setS 4 (op2 dMod (op2 dPow (op2 dAdd (op2 dAdd (op2 dMod (fun ρ => getV ρ 3) (fun _ => pure (.int 1000003))) (op2 dMul (fun _ => pure (.int 613)) (op2 dIx (fun ρ => getV ρ 0) (fun _ => pure (.int 3))))) (fun _ => pure (.int 17))) (fun _ => pure (.int 5))) (fun _ => pure (.int 2147483647))))
  (retS (op2 dMod (op2 dFdiv (op2 dMod (op2 dPow (op2 dAdd (fun ρ => getV ρ 4) (op2 dMul (fun _ => pure (.int 4099)) (op2 dIx (fun ρ => getV ρ 0) (fun _ => pure (.int 3))))) (fun _ => pure (.int 5))) (fun _ => pure (.int 2147483587))) (fun _ => pure (.int 7))) (fun ρ => getV ρ 1))))
def drawU : FS := (seqS (iteS (bAnd (tst (op2 dGe (fun ρ => getV ρ 3) (op2 dPow (fun _ => pure (.int 10)) (fun _ => pure (.int 18))))) (tst (op2 dLt (fun ρ => getV ρ 2) (callE (consA (op2 dIx (fun ρ => getV ρ 0) (fun _ => pure (.int 0))) nilA) cLen)))) (seqS (asgS (op2 dFdiv (fun ρ => getV ρ 3) (fun ρ => getV ρ 1)) (gSubF (fun ρ => getV ρ 0) (fun _ => pure (.int 2))))
  (retS (op2 dMod (fun ρ => getV ρ 3) (fun ρ => getV ρ 1)))) nilS)
  drawT)
def drawB : FS := (seqS (iteS (tst (op2 dGt (op2 dIx (fun ρ => getV ρ 0) (fun _ => pure (.int 2))) (fun _ => pure (.int 0)))) (seqS (setS 5 (op2 dMod (op2 dIx (fun ρ => getV ρ 0) (fun _ => pure (.int 2))) (fun ρ => getV ρ 1)))
  (seqS (asgS (op2 dFdiv (op2 dIx (fun ρ => getV ρ 0) (fun _ => pure (.int 2))) (fun ρ => getV ρ 1)) (gSubF (fun ρ => getV ρ 0) (fun _ => pure (.int 2))))
  (retS (fun ρ => getV ρ 5)))) nilS)
  (seqS (setS 2 (op2 dIx (fun ρ => getV ρ 0) (fun _ => pure (.int 1))))
  (seqS (asgS (op2 dAdd (fun ρ => getV ρ 2) (fun _ => pure (.int 1))) (gSubF (fun ρ => getV ρ 0) (fun _ => pure (.int 1))))
  (seqS (asgS (op2 dAdd (op2 dIx (fun ρ => getV ρ 0) (fun _ => pure (.int 3))) (fun _ => pure (.int 1))) (gSubF (fun ρ => getV ρ 0) (fun _ => pure (.int 3))))
  (seqS (setS 3 (ifE (tst (op2 dGt (callE (consA (op2 dIx (fun ρ => getV ρ 0) (fun _ => pure (.int 0))) nilA) cLen) (fun _ => pure (.int 0)))) (op2 dIx (op2 dIx (fun ρ => getV ρ 0) (fun _ => pure (.int 0))) (op2 dMod (fun ρ => getV ρ 2) (callE (consA (op2 dIx (fun ρ => getV ρ 0) (fun _ => pure (.int 0))) nilA) cLen))) (fun _ => pure (.int 0))))
  drawU)))))
def drawG : List Da → M Da := runF 6 drawB
section
variable {i j : Int} {S : Store}
theorem a_gt : dGt (.int i) (.int j) S = some (.bl (decide (j < i)), S) := rfl
theorem a_lt : dLt (.int i) (.int j) S = some (.bl (decide (i < j)), S) := rfl
theorem a_ge : dGe (.int i) (.int j) S = some (.bl (decide (j ≤ i)), S) := rfl
theorem a_le : dLe (.int i) (.int j) S = some (.bl (decide (i ≤ j)), S) := rfl
theorem a_add : dAdd (.int i) (.int j) S = some (.int (i + j), S) := rfl
theorem a_sub : dSub (.int i) (.int j) S = some (.int (i - j), S) := rfl
theorem a_mod (h : 0 < j) : dMod (.int i) (.int j) S = some (.int (i % j), S) := if_pos h
theorem a_div (h : 0 < j) (h2 : j < 1073741824) : dFdiv (.int i) (.int j) S = some (.int (i / j), S) := if_pos ⟨h, h2⟩
theorem a_mul (h : -(2 ^ 64) < i) (h2 : i < 2 ^ 64) : dMul (.int i) (.int j) S = some (.int (i * j), S) := if_pos (.inl ⟨h, h2⟩)
theorem a_pow (h : 0 ≤ j) (h1 : j ≤ 1000000) (h2 : i.natAbs < 2 ^ 64) : dPow (.int i) (.int j) S = some (.int (i ^ j.toNat), S) := if_pos ⟨h, h1, h2⟩
end
theorem draw_tail {r : Nat} {m c pl rest n cell : Int} {a5 : Option Da} {cr : Nat} {S : Store} (h3 : S[r]? = some (.lst [.ref cr, .int c, .int rest, .int n])) (hm : 0 < m) (hn : 0 ≤ n) (hN : n ≤ 2 ^ 40) {Q : Da → Store → Prop} (q : ∀ i : Int, 0 ≤ i → i < m → Q (.int i) S) :
    (drawT [some (.ref r), some (.int m), some (.int pl), some (.int cell), none, a5] S).w { nx := fun _ S => Q .non S, rt := Q } := by
  have ix3 : dIx (.ref r) (.int 3) S = some (.int n, S) := ix_at h3 rfl
  have b1 : 0 ≤ cell % 1000003 := Int.emod_nonneg _ (by decide)
  have b2 : cell % 1000003 < 1000003 := Int.emod_lt_of_pos _ (by decide)
  have p1 : (cell % 1000003 + 613 * n + 17).natAbs < 2 ^ 64 := by omega
  have f1 : 0 ≤ (cell % 1000003 + 613 * n + 17) ^ (5 : Int).toNat % 2147483647 := Int.emod_nonneg _ (by decide)
  have f2 : (cell % 1000003 + 613 * n + 17) ^ (5 : Int).toNat % 2147483647 < 2147483647 := Int.emod_lt_of_pos _ (by decide)
  have p2 : ((cell % 1000003 + 613 * n + 17) ^ (5 : Int).toNat % 2147483647 + 4099 * n).natAbs < 2 ^ 64 := by omega
  unfold drawT
  simp only [w_seq, w_set, w_ret, w_op2, gv0, gvS, w_pure, List.set_cons_zero, List.set_cons_succ, a_mod (show (0 : Int) < 1000003 by decide), oW_some, ix3, a_mul (show -(2 ^ 64) < (613 : Int) by decide) (show (613 : Int) < 2 ^ 64 by decide), a_add,
    a_pow (show (0 : Int) ≤ 5 by decide) (show (5 : Int) ≤ 1000000 by decide) p1, a_mod (show (0 : Int) < 2147483647 by decide), a_mul (show -(2 ^ 64) < (4099 : Int) by decide) (show (4099 : Int) < 2 ^ 64 by decide),
    a_pow (show (0 : Int) ≤ 5 by decide) (show (5 : Int) ≤ 1000000 by decide) p2, a_mod (show (0 : Int) < 2147483587 by decide), a_div (show (0 : Int) < 7 by decide) (show (7 : Int) < 1073741824 by decide), a_mod hm]
  exact q _ (Int.emod_nonneg _ (by omega)) (Int.emod_lt_of_pos _ hm)
theorem pow18 : (10 : Int) ^ (18 : Int).toNat = 1000000000000000000 := by decide
theorem draw_w {r N : Nat} {m : Int} {S : Store} (h : FeedAt r (N + 1) S) (hm : 0 < m) (hm2 : m < 1073741824) : (drawG [.ref r, .int m] S).w (fun d S' => ∃ i : Int, d = .int i ∧ 0 ≤ i ∧ i < m ∧ FeedAt r N S' ∧ Kp r S S' ∧ S'.length = S.length) NoE := by
  obtain ⟨c, cells, pl, rest, n, hlt, hc, hr, h0, hn, hN, h63⟩ := h
  have hne : c ≠ r := Nat.ne_of_lt hlt
  refine w_run ?_
  show (drawB [some (.ref r), some (.int m), none, none, none, none] S).w _
  unfold drawB
  have ix2 : dIx (.ref r) (.int 2) S = some (.int rest, S) := ix_at hr rfl
  have ix1 : dIx (.ref r) (.int 1) S = some (.int pl, S) := ix_at hr rfl
  simp only [w_seq, w_ite, w_tst, w_op2, gv0, gvS, w_pure, ix2, oW_some, a_gt, w_toB]
  by_cases hp : 0 < rest
  · -- what was kept of a great cell
    have sx : ∀ (d : Da) (ρ : Ev), gSubF (fun ρ => getV ρ 0) (fun _ => pure (.int 2)) d (some (.ref r) :: ρ) S = some (some (.ref r) :: ρ, S.set r (.lst [.ref c, .int pl, d, .int n])) := fun d ρ => set_ix (j := 2) hr rfl
    simp only [hp, decide_true, if_true, w_seq, w_set, w_op2, gv0, gvS, w_pure, ix2, oW_some, a_mod hm, w_asg, a_div hm hm2, List.set_cons_zero, List.set_cons_succ, sx, w_ret]
    exact ⟨_, rfl, Int.emod_nonneg _ (by omega), Int.emod_lt_of_pos _ hm, ⟨c, cells, pl, _, n, hlt, by rw [List.getElem?_set_ne (Ne.symm hne)]; exact hc, set_at hr, h0, hn, by omega, h63⟩, .set, by rw [List.length_set]⟩
  · have sx1 : ∀ (d : Da) (ρ : Ev), gSubF (fun ρ => getV ρ 0) (fun _ => pure (.int 1)) d (some (.ref r) :: ρ) S = some (some (.ref r) :: ρ, S.set r (.lst [.ref c, d, .int rest, .int n])) := fun d ρ => set_ix (j := 1) hr rfl
    have hr1 : ∀ d : Da, (S.set r (.lst [.ref c, d, .int rest, .int n]))[r]? = some (.lst [.ref c, d, .int rest, .int n]) := fun d => set_at hr
    have ix31 : ∀ d : Da, dIx (.ref r) (.int 3) (S.set r (.lst [.ref c, d, .int rest, .int n])) = some (.int n, S.set r (.lst [.ref c, d, .int rest, .int n])) := fun d => ix_at (hr1 d) rfl
    have sx3 : ∀ (e d : Da) (ρ : Ev), gSubF (fun ρ => getV ρ 0) (fun _ => pure (.int 3)) d (some (.ref r) :: ρ) (S.set r (.lst [.ref c, e, .int rest, .int n])) = some (some (.ref r) :: ρ, S.set r (.lst [.ref c, e, .int rest, d])) := fun e d ρ => by
      rw [set_ix (j := 3) (hr1 e) rfl, List.set_set]
      rfl
    simp only [hp, decide_false, Bool.false_eq_true, if_false, w_nil, w_seq, w_set, w_op2, gv0, gvS, w_pure, ix1, oW_some, w_asg, a_add, List.set_cons_zero, List.set_cons_succ, sx1, ix31, sx3]
    -- the state from here
    have hr2 : (S.set r (.lst [.ref c, .int (pl + 1), .int rest, .int (n + 1)]))[r]? = some (.lst [.ref c, .int (pl + 1), .int rest, .int (n + 1)]) := set_at hr
    have hc2 : (S.set r (.lst [.ref c, .int (pl + 1), .int rest, .int (n + 1)]))[c]? = some (.lst (cells.map Da.int)) := by rw [List.getElem?_set_ne (Ne.symm hne)]; exact hc
    have kp : Kp r S (S.set r (.lst [.ref c, .int (pl + 1), .int rest, .int (n + 1)])) := .set
    have hl : (S.set r (.lst [.ref c, .int (pl + 1), .int rest, .int (n + 1)])).length = S.length := by rw [List.length_set]
    generalize S.set r (.lst [.ref c, .int (pl + 1), .int rest, .int (n + 1)]) = T at hr2 hc2 kp hl ⊢
    have jx0 : dIx (.ref r) (.int 0) T = some (.ref c, T) := ix_at hr2 rfl
    have jl : cLen [.ref c] T = some (.int cells.length, T) := by rw [len_at hc2, List.length_map]
    simp only [w_ifE, w_tst, w_op2, w_callE, w_consA, w_nilA, gv0, gvS, w_pure, jx0, jl, oW_some, a_gt, w_toB]
    have rest_ : ∀ z : Int, ((drawU [some (.ref r), some (.int m), some (.int pl), some (.int z), none, none] T).w
        { nx := fun _ S' => ∃ i : Int, Da.non = .int i ∧ 0 ≤ i ∧ i < m ∧ FeedAt r N S' ∧ Kp r S S' ∧ S'.length = S.length, rt := fun d S' => ∃ i : Int, d = .int i ∧ 0 ≤ i ∧ i < m ∧ FeedAt r N S' ∧ Kp r S S' ∧ S'.length = S.length }) := fun z => by
      have fd : ∀ x : Int, FeedAt r N (T.set r (.lst [.ref c, .int (pl + 1), .int x, .int (n + 1)])) := fun x =>
        ⟨c, cells, pl + 1, x, n + 1, hlt, by rw [List.getElem?_set_ne (Ne.symm hne)]; exact hc2, set_at hr2, by omega, by omega, by omega, h63⟩
      have fd0 : FeedAt r N T := ⟨c, cells, pl + 1, rest, n + 1, hlt, hc2, hr2, by omega, by omega, by omega, h63⟩
      have tail := draw_tail (pl := pl) (cell := z) (a5 := none) hr2 hm (by omega) (by omega) (Q := fun d S' => ∃ i : Int, d = .int i ∧ 0 ≤ i ∧ i < m ∧ FeedAt r N S' ∧ Kp r S S' ∧ S'.length = S.length) fun i i0 i1 => ⟨i, rfl, i0, i1, fd0, kp, hl⟩
      have sy : ∀ (d : Da) (ρ : Ev), gSubF (fun ρ => getV ρ 0) (fun _ => pure (.int 2)) d (some (.ref r) :: ρ) T = some (some (.ref r) :: ρ, T.set r (.lst [.ref c, .int (pl + 1), d, .int (n + 1)])) := fun d ρ => set_ix (j := 2) hr2 rfl
      unfold drawU
      rw [w_seq]
      simp only [w_ite, w_bAnd, w_tst, w_op2, w_callE, w_consA, w_nilA, gv0, gvS, w_pure, jx0, jl, oW_some, a_ge, a_lt, a_pow (show (0 : Int) ≤ 18 by decide) (show (18 : Int) ≤ 1000000 by decide) (show (10 : Int).natAbs < 2 ^ 64 by decide), w_toB, w_nil, w_seq, w_asg, a_div hm hm2, a_mod hm, sy, w_ret]
      have big : ∃ i : Int, Da.int (z % m) = .int i ∧ 0 ≤ i ∧ i < m ∧ FeedAt r N (T.set r (.lst [.ref c, .int (pl + 1), .int (z / m), .int (n + 1)])) ∧ Kp r S (T.set r (.lst [.ref c, .int (pl + 1), .int (z / m), .int (n + 1)])) ∧ (T.set r (.lst [.ref c, .int (pl + 1), .int (z / m), .int (n + 1)])).length = S.length :=
        ⟨_, rfl, Int.emod_nonneg _ (by omega), Int.emod_lt_of_pos _ hm, fd _, kp.trans .set, by rw [List.length_set]; exact hl⟩
      by_cases t1 : (10 : Int) ^ (18 : Int).toNat ≤ z
      · by_cases t2 : pl < (cells.length : Int)
        · simp only [t1, t2, decide_true, if_true]
          exact big
        · simp only [t1, t2, decide_true, decide_false, if_true, Bool.false_eq_true, if_false]
          exact tail
      · simp only [t1, decide_false, Bool.false_eq_true, if_false]
        exact tail
    by_cases hz : 0 < (cells.length : Int)
    · have lo : 0 ≤ pl % (cells.length : Int) := Int.emod_nonneg _ (by omega)
      have hi : pl % (cells.length : Int) < cells.length := Int.emod_lt_of_pos _ hz
      obtain ⟨k, hk⟩ := Int.eq_ofNat_of_zero_le lo
      have hk2 : k < cells.length := by omega
      have e : atI (cells.map Da.int) (pl % (cells.length : Int)) = some (.int cells[k]) := by
        rw [hk]
        exact atI_nat (by rw [List.getElem?_map, List.getElem?_eq_getElem hk2]; rfl)
      simp only [hz, decide_true, if_true, a_mod hz, oW_some, ix_at hc2 e, w_op2, w_callE, w_consA, w_nilA, gv0, gvS, w_pure, jx0, jl, List.set_cons_zero, List.set_cons_succ]
      exact rest_ _
    · simp only [hz, decide_false, Bool.false_eq_true, if_false, w_pure, List.set_cons_zero, List.set_cons_succ]
      exact rest_ 0
def feedB : FS := (retS (lstE (consA (slE (fun ρ => getV ρ 0) (fun _ => pure none) (someE (fun _ => pure (.int 63)))) (consA (fun _ => pure (.int 0)) (consA (fun _ => pure (.int 0)) (consA (fun _ => pure (.int 0)) nilA))))))
def feedG : List Da → M Da := runF 1 feedB
theorem feed_w {ns : List Int} {S : Store} : (feedG [.fro (ns.map Da.int)] S).w (fun d S' => d = .ref (S.length + 1) ∧ FeedAt (S.length + 1) (2 ^ 40) S' ∧ S'.length = S.length + 2 ∧ ∀ i, i < S.length → S'[i]? = S[i]?) NoE := by
  refine w_run ?_
  show (feedB [some (.fro (ns.map Da.int))] S).w _
  unfold feedB
  have e : dSl none (some 63) (.fro (ns.map Da.int)) S = some (.ref S.length, S ++ [.lst (cutD (ns.map Da.int) none (some 63))]) := rfl
  have e2 : cutD (ns.map Da.int) none (some 63) = ((ns.drop (HT.sIx ns.length 0 none)).take (HT.sIx ns.length ns.length (some 63) - HT.sIx ns.length 0 none)).map Da.int := by
    unfold cutD
    rw [List.length_map, List.map_take, List.map_drop]
  have h63 : ((ns.drop (HT.sIx ns.length 0 none)).take (HT.sIx ns.length ns.length (some 63) - HT.sIx ns.length 0 none)).length ≤ 63 := by
    have := HT.sIx_nat ns.length ns.length 63
    have h2 : HT.sIx ns.length ns.length (some 63) = min 63 ns.length := this
    rw [List.length_take, h2]
    omega
  rw [e2] at e
  generalize (ns.drop (HT.sIx ns.length 0 none)).take (HT.sIx ns.length ns.length (some 63) - HT.sIx ns.length 0 none) = cells at e h63
  have m : ∀ (ds : List Da) (T : Store), ds.length = 4 → mkLst ds T = some (.ref T.length, T ++ [.lst ds]) := fun ds T h => by
    unfold mkLst
    rw [if_pos (by rw [h, sizeLine_eq]; omega)]
  simp only [w_ret, w_lst, w_consA, w_nilA, w_slE, gv0, w_pure, w_someE, w_toI, e, oW_some]
  rw [m _ _ rfl, oW_some]
  refine ⟨by simp, ⟨S.length, cells, 0, 0, 0, by omega, ?_, ?_, by omega, by omega, by decide, h63⟩, by simp, fun i hi => ?_⟩
  · rw [List.append_assoc, List.getElem?_append_right (Nat.le_refl _), Nat.sub_self]
    rfl
  · rw [List.append_assoc, List.getElem?_append_right (by omega), show S.length + 1 - S.length = 1 by omega]
    rfl
  · rw [List.append_assoc, List.getElem?_append_left hi]
end M2

/-! Layer M2, part s: pure comprehensions, texts of numbers and rows. -/
namespace M2
open PySem PySem.Spec L2
/-- the store has only grown -/
def Gr (S S' : Store) : Prop := S.length ≤ S'.length ∧ ∀ i, i < S.length → S'[i]? = S[i]?
theorem Gr.refl {S : Store} : Gr S S := ⟨Nat.le_refl _, fun _ _ => rfl⟩
theorem Gr.trans {S1 S2 S3 : Store} (h : Gr S1 S2) (k : Gr S2 S3) : Gr S1 S3 := ⟨Nat.le_trans h.1 k.1, fun i hl => (k.2 i (Nat.lt_of_lt_of_le hl h.1)).trans (h.2 i hl)⟩
theorem Gr.at_ {i : Nat} {S S' : Store} {o : SO} (h : Gr S S') (e : S[i]? = some o) : S'[i]? = some o := by rw [h.2 i (get_lt e)]; exact e
theorem Gr.push {S S' : Store} {o : SO} (h : Gr S S') : Gr S (S' ++ [o]) := ⟨by rw [List.length_append]; have := h.1; omega, fun i hl => by rw [List.getElem?_append_left (Nat.lt_of_lt_of_le hl h.1)]; exact h.2 i hl⟩
theorem Gr.kp {r : Nat} {S S' : Store} (h : Gr S S') : Kp r S S' := ⟨h.1, fun i _ hl => h.2 i hl⟩
theorem Gr.feed {r N : Nat} {S S' : Store} (h : Gr S S') (f : FeedAt r N S) : FeedAt r N S' := by
  obtain ⟨c, cells, pl, rest, n, h1, h2, h3, h4, h5, h6, h7⟩ := f
  exact ⟨c, cells, pl, rest, n, h1, h.at_ h2, h.at_ h3, h4, h5, h6, h7⟩
/-- a reckoning that gives v and leaves all that stood -/
def Pu (g : List Da → M Da) (args : List Da) (v : Da) : Prop := ∀ S : Store, (g args S).w (fun d S' => d = v ∧ Gr S S') NoE
section
variable {E : Str → List (Str × Da) → Store → Prop} {ρ : Ev} {S : Store} {g : List Da → M Da}
theorem app1 {a : Da} {Q : Da → Store → Prop} : (appF 1 g [a] S).w Q E = (g [a] S).w Q E := rfl
theorem app2 {a b : Da} {Q : Da → Store → Prop} : (appF 2 g [a, b] S).w Q E = (g [a, b] S).w Q E := rfl
theorem app3 {a b c : Da} {Q : Da → Store → Prop} : (appF 3 g [a, b, c] S).w Q E = (g [a, b, c] S).w Q E := rfl
theorem app4 {a b c d : Da} {Q : Da → Store → Prop} : (appF 4 g [a, b, c, d] S).w Q E = (g [a, b, c, d] S).w Q E := rfl
theorem Pu.go {args : List Da} {v : Da} {Q : Da → Store → Prop} (h : Pu g args v) (k : ∀ S', Gr S S' → Q v S') : (g args S).w Q E := w_imp0 (h S) fun d S' ⟨e, gr⟩ => by subst e; exact k S' gr
/-- [e for x in xs], e pure -/
theorem w_compM {α : Type} {vs : List Nat} {src : Ev → M Src} {tg : FG} {fe : Ev → M Da} {Q : Da → Store → Prop} (xs : List α) (F G : α → Da) (st : Store → Prop) (hs : ∀ T T', Gr T T' → st T → st T')
    (h : (src ρ S).w (fun s S1 => s = (xs.map F, st) ∧ Gr S S1 ∧ st S1) E) (hl : xs.length ≤ sizeLine)
    (t : ∀ x ∈ xs, ∀ T, Gr S T → oW (tg (F x) (wipeR ρ vs) T) fun ρ T' => T' = T ∧ (fe ρ T).w (fun y T' => y = G x ∧ Gr T T') NoE)
    (k : ∀ T, Gr S T → Q (.ref T.length) (T ++ [.lst (xs.map G)])) : (compE vs src tg tyes fe ρ S).w Q E := by
  refine w_compE (w_imp h (fun s S1 ⟨e, g1, s1⟩ => ?_) fun _ _ _ h => h)
  subst e
  refine ⟨s1, fun ds acc T => ∃ ys zs, xs = ys ++ zs ∧ ds = zs.map F ∧ acc = ys.map G ∧ Gr S T ∧ st T, ⟨[], xs, rfl, rfl, rfl, g1, s1⟩, ?_, ?_⟩
  · rintro acc T ⟨ys, zs, e1, e2, e3, gT, _⟩
    have : zs = [] := List.map_eq_nil_iff.mp e2.symm
    subst this
    rw [List.append_nil] at e1
    subst e1; subst e3
    exact k T gT
  · rintro d r acc T ⟨ys, zs, e1, e2, e3, gT, sT⟩
    cases zs with
    | nil => cases e2
    | cons z zs =>
      rw [List.map_cons] at e2
      injection e2 with e2 e4
      subst e2; subst e4; subst e3
      have q := t z (by rw [e1]; simp) T gT
      cases hg : tg (F z) (wipeR ρ vs) T with
      | none => rw [hg] at q; exact q.elim
      | some p =>
        obtain ⟨ρ1, T1⟩ := p
        rw [hg] at q
        obtain ⟨eT, q⟩ : T1 = T ∧ _ := q
        subst eT
        refine w_imp q (fun y T2 ⟨ey, g2⟩ => ?_) fun _ _ _ h => h
        subst ey
        refine ⟨hs _ _ g2 sT, ?_, ys ++ [z], zs, by rw [e1, List.append_assoc]; rfl, rfl, by simp, gT.trans g2, hs _ _ g2 sT⟩
        have : (ys ++ z :: zs).length ≤ sizeLine := by rw [← e1]; exact hl
        rw [List.length_append, List.length_cons] at this
        rw [List.length_map]
        omega
end
/-- bounded plain data -/
structure BdD (p w : Nat) (d : Da) : Prop where
  ok : okD d = true
  dp : dpD d ≤ p
  wt : wtD d ≤ w
theorem BdD.sm {p w : Nat} {d : Da} (h : BdD p w d) (hp : p ≤ 8) (hw : w ≤ 2 ^ 20) : SmD d := ⟨h.ok, Nat.le_trans h.dp hp, Nat.le_trans h.wt hw⟩
theorem BdD.mono {p w p' w' : Nat} {d : Da} (h : BdD p w d) (hp : p ≤ p') (hw : w ≤ w') : BdD p' w' d := ⟨h.ok, Nat.le_trans h.dp hp, Nat.le_trans h.wt hw⟩
theorem bd_tup {p w n : Nat} {ds : List Da} (h : ∀ d ∈ ds, BdD p w d) (hl : ds.length ≤ n) : BdD (p + 1) (n * (w + 1)) (.tup ds) := by
  refine ⟨?_, ?_, ?_⟩
  · simp only [okD]
    exact okDs_all fun d hd => (h d hd).ok
  · simp only [dpD]
    have := dpDs_le (ds := ds) fun d hd => (h d hd).dp
    omega
  · simp only [wtD]
    have := wtDs_le (ds := ds) fun d hd => (h d hd).wt
    exact Nat.le_trans this (Nat.mul_le_mul_right _ hl)
theorem bd_int {i : Int} (h : i.natAbs < 10 ^ 12) : BdD 0 41 (.int i) := ⟨by simpa only [okD, decide_eq_true_eq] using h, Nat.le_refl _, Nat.le_refl _⟩
theorem bd_str {x : Str} {w : Nat} (h : PyData.strOk x = true) (hl : x.length ≤ w) : BdD 0 w (.str x) := ⟨by simpa only [okD] using h, Nat.le_refl _, hl⟩
theorem py_none_ne : ∀ d : Da, okD d = true → isNon d = false → PyData.eqv (pyD d) .none = false
  | .non, _, h => by cases h
  | .bl _, _, _ => by simp only [pyD, PyData.eqv]
  | .int _, _, _ => by simp only [pyD, PyData.eqv]
  | .str _, _, _ => by simp only [pyD, PyData.eqv]
  | .tup _, _, _ => by simp only [pyD, PyData.eqv]
  | .fro _, h, _ => by simp [okD] at h
  | .ref _, h, _ => by simp [okD] at h
  | .fn _, h, _ => by simp [okD] at h
  | .ty _, h, _ => by simp [okD] at h
  | .adr _, h, _ => by simp [okD] at h
theorem any_none : ∀ {ds : List Da}, okDs ds = true → (∀ d ∈ ds, isNon d = false) → ((pyDs ds).any fun z => PyData.eqv z .none) = false
  | [], _, _ => rfl
  | d :: r, h, k => by
    simp only [okDs, Bool.and_eq_true] at h
    simp only [pyDs, List.any_cons, py_none_ne d h.1 (k d (by simp)), Bool.false_or]
    exact any_none h.2 fun x hx => k x (List.mem_cons_of_mem _ hx)
/-- None in a tuple that has none -/
theorem none_in {ds : List Da} {T : Store} (sm : SmD (.tup ds)) (hn : ∀ d ∈ ds, isNon d = false) : dIn .non (.tup ds) T = some (.bl false, T) := by
  have sn : SmD .non := ⟨rfl, by decide, by decide⟩
  show ((match toPy T .non, toPy T (.tup ds) with
    | some d, some (.list ds) => if SeqAt.shaped d = true ∧ SeqAt.shaped (.list ds) = true then some (ds.any fun z => PyData.eqv z d) else none
    | some d, some (.tuple ds) => if SeqAt.shaped d = true ∧ SeqAt.shaped (.tuple ds) = true then some (ds.any fun z => PyData.eqv z d) else none
    | _, _ => none).map fun b => (Da.bl b, T)) = _
  rw [sn.toPy, sm.toPy]
  have e : pyD (.tup ds) = .tuple (pyDs ds) := by simp only [pyD]
  have s2 := sm.shaped
  have ok := sm.ok
  simp only [okD] at ok
  rw [e] at s2 ⊢
  dsimp only
  rw [if_pos ⟨sn.shaped, s2⟩]
  show Option.map _ (some ((pyDs ds).any fun z => PyData.eqv z .none)) = _
  rw [any_none ok hn]
  rfl
theorem ix_pick {S : Store} {p : Nat} {ds : List Da} {i : Int} (h : S[p]? = some (.lst ds)) (h0 : 0 ≤ i) (h1 : i < ds.length) : ∃ d, d ∈ ds ∧ dIx (.ref p) (.int i) S = some (d, S) := by
  obtain ⟨k, rfl⟩ := Int.eq_ofNat_of_zero_le h0
  have hk : k < ds.length := by omega
  exact ⟨ds[k], List.getElem_mem hk, ix_at h (atI_nat (List.getElem?_eq_getElem hk))⟩
theorem app_at {S : Store} {r : Nat} {xs : List Da} {y : Da} (h : S[r]? = some (.lst xs)) (hl : xs.length < 16777216) : hAppend (.ref r) [y] S = some (.non, S.set r (.lst (xs ++ [y]))) := by
  unfold hAppend
  dsimp only
  rw [h]
  dsimp only
  rw [if_pos (by rw [sizeLine_eq]; exact hl)]
theorem w_isLst {S : Store} {r : Nat} {xs : List Da} {Q : Unit → Store → Prop} {E : Str → List (Str × Da) → Store → Prop} (h : S[r]? = some (.lst xs)) : (isTy "list" (.ref r) S).w Q E = Q () S := by
  unfold isTy
  dsimp only
  rw [h]
  rfl
theorem w_attX {a : Addr} {fs : List (Str × Da)} {f : Str} {fe : Ev → M Da} {ρ : Ev} {S : Store} {Q : Da → Store → Prop} {E : Str → List (Str × Da) → Store → Prop} {d : Da} (he : fe ρ S = .ok (.adr a) S) (hl : fs.lookup f = some d) : (attX a fs f fe ρ S).w Q E = Q d S := by
  unfold attX
  show Res.w (Res.thn (fe ρ S) _) Q E = _
  rw [he]
  show Res.w (if a = a then (match fs.lookup f with
    | some d => Res.ok d S
    | none => .bad) else .bad) Q E = _
  rw [if_pos rfl, hl]
  rfl
theorem w_unset {i : Nat} {r : SR} {P : SP} (h : r.w { P with nx := fun ρ S => P.nx (ρ.set i none) S, bk := fun _ _ => False, ct := fun _ _ => False, ex := fun _ _ _ _ => False }) : (r.unset i).w P := by
  cases r with
  | nx ρ S => exact h
  | rt d S => exact h
  | exc c fs ρ S => exact h.elim
  | bk ρ S => exact h.elim
  | ct ρ S => exact h.elim
  | bad => exact h.elim
theorem a_is {x : Da} {S : Store} : dIs x .non S = some (.bl (isNon x), S) := rfl
theorem a_isNot {x : Da} {S : Store} : dIsNot x .non S = some (.bl (!isNon x), S) := rfl
/-- two tuples of small data -/
theorem eq_tup {xs ys : List Da} {S : Store} (h : SmD (.tup xs)) (k : SmD (.tup ys)) : dEq (.tup xs) (.tup ys) S = some (.bl (PyData.eqvAll (pyDs xs) (pyDs ys)), S) := by
  show (eqvG S (.tup xs) (.tup ys)).map _ = _
  rw [h.eqG k]
  simp only [pyD, PyData.eqv, Option.map_some]
theorem ne_tup {xs ys : List Da} {S : Store} (h : SmD (.tup xs)) (k : SmD (.tup ys)) : dNe (.tup xs) (.tup ys) S = some (.bl (!PyData.eqvAll (pyDs xs) (pyDs ys)), S) := by
  show (eqvG S (.tup xs) (.tup ys)).map _ = _
  rw [h.eqG k]
  simp only [pyD, PyData.eqv, Option.map_some]
theorem any_str {s : Str} : ∀ {ys : List Str}, ((pyDs (ys.map Da.str)).any fun z => PyData.eqv z (.str s)) = decide (s ∈ ys)
  | [] => by simp [pyDs]
  | y :: r => by
    simp only [List.map_cons, pyDs, List.any_cons, pyD, PyData.eqv, any_str]
    rw [Bool.eq_iff_iff]
    simp only [Bool.or_eq_true, beq_iff_eq, decide_eq_true_eq, List.mem_cons]
    exact ⟨fun h => h.imp Eq.symm id, fun h => h.imp Eq.symm id⟩
/-- a text in a tuple of texts -/
theorem in_strs {s : Str} {ys : List Str} {T : Store} (hs : SmD (.str s)) (sm : SmD (.tup (ys.map Da.str))) : dIn (.str s) (.tup (ys.map Da.str)) T = some (.bl (decide (s ∈ ys)), T) := by
  show ((match toPy T (.str s), toPy T (.tup (ys.map Da.str)) with
    | some d, some (.list ds) => if SeqAt.shaped d = true ∧ SeqAt.shaped (.list ds) = true then some (ds.any fun z => PyData.eqv z d) else none
    | some d, some (.tuple ds) => if SeqAt.shaped d = true ∧ SeqAt.shaped (.tuple ds) = true then some (ds.any fun z => PyData.eqv z d) else none
    | _, _ => none).map fun b => (Da.bl b, T)) = _
  rw [hs.toPy, sm.toPy]
  have e : pyD (.tup (ys.map Da.str)) = .tuple (pyDs (ys.map Da.str)) := by simp only [pyD]
  have s2 := sm.shaped
  rw [e] at s2 ⊢
  dsimp only
  rw [if_pos ⟨hs.shaped, s2⟩]
  show Option.map _ (some ((pyDs (ys.map Da.str)).any fun z => PyData.eqv z (pyD (.str s)))) = _
  simp only [pyD]
  rw [any_str]
  rfl
theorem notIn_strs {s : Str} {ys : List Str} {T : Store} (hs : SmD (.str s)) (sm : SmD (.tup (ys.map Da.str))) : dNotIn (.str s) (.tup (ys.map Da.str)) T = some (.bl (!decide (s ∈ ys)), T) := by
  have h := in_strs (T := T) hs sm
  unfold dIn at h
  unfold dNotIn
  cases e : in? T (.str s) (.tup (ys.map Da.str)) with
  | none => rw [e] at h; cases h
  | some b =>
    rw [e] at h
    cases h
    rfl
theorem py_lst {S : Store} {r : Nat} {ds : List Da} (h : S[r]? = some (.lst ds)) (ok : okDs ds = true) : toPy S (.ref r) = some (.list (pyDs ds)) := by
  show refPy S 16 r = _
  unfold refPy
  rw [h]
  dsimp only
  rw [py_ofs _ ds ok]
  rfl
/-- two lists of small data -/
theorem ne_lst {S : Store} {a b : Nat} {xs ys : List Da} (ha : S[a]? = some (.lst xs)) (hb : S[b]? = some (.lst ys)) (h : SmD (.tup xs)) (k : SmD (.tup ys)) : dNe (.ref a) (.ref b) S = some (.bl (!PyData.eqvAll (pyDs xs) (pyDs ys)), S) := by
  show (eqvG S (.ref a) (.ref b)).map _ = _
  have sh : ∀ {zs : List Da}, SmD (.tup zs) → SeqAt.shaped (.list (pyDs zs)) = true := fun {zs} h => by
    have q := h.shaped
    unfold SeqAt.shaped at q ⊢
    rw [Bool.and_eq_true] at q ⊢
    exact ⟨by simpa only [pyD, PyData.canLay0] using q.1, decide_eq_true (by have := of_decide_eq_true q.2; simpa only [pyD, PyData.depth] using this)⟩
  have o : ∀ {zs : List Da}, SmD (.tup zs) → okDs zs = true := fun h => by simpa only [okD] using h.ok
  unfold eqvG
  rw [py_lst ha (o h), Option.bind_some, py_lst hb (o k), Option.bind_some, if_pos ⟨sh h, sh k⟩]
  simp only [PyData.eqv, Option.map_some]
theorem sm_nil : SmD (.tup []) := ⟨rfl, by decide, by decide⟩
/-! ### texts -/
open TL (tl)
theorem sz16 {n : Nat} (h : n ≤ 16777216) : n ≤ sizeLine := by rw [sizeLine_eq]; exact h
def numS (n : Nat) : Str := Str.ofString (toString ((n : Nat) : Int))
theorem tl_numS (n : Nat) : tl (numS n) = TL.numL n := TL.tl_num n
theorem joinL_len (S : List Nat) {B : Nat} : ∀ {ps : List (List Nat)}, (∀ p ∈ ps, p.length ≤ B) → (TL.joinL S ps).length ≤ ps.length * (B + S.length)
  | [], _ => by simp [TL.joinL]
  | [p], h => by
    have := h p (by simp)
    simp only [TL.joinL, List.length_cons, List.length_nil]
    omega
  | p :: q :: r, h => by
    have h1 := h p (by simp)
    have h2 := joinL_len S (B := B) (ps := q :: r) fun x hx => h x (List.mem_cons_of_mem _ hx)
    simp only [TL.joinL, List.length_append]
    rw [List.length_cons, Nat.succ_mul]
    omega
theorem join_len (y : Str) {B : Nat} {ps : List Str} (h : ∀ p ∈ ps, p.length ≤ B) : (Txt.join y ps).length ≤ ps.length * (B + y.length) := by
  rw [TL.join_eq, TL.len_tl, TL.tl_join]
  have := joinL_len (tl y) (B := B) (ps := ps.map tl) fun p hp => by
    obtain ⟨x, hx, rfl⟩ := List.mem_map.mp hp
    rw [← TL.len_tl]
    exact h x hx
  rw [List.length_map, ← TL.len_tl] at this
  exact this
theorem sum_le {B : Nat} : ∀ {l : List Nat}, (∀ x ∈ l, x ≤ B) → l.sum ≤ l.length * B
  | [], _ => by simp
  | a :: r, h => by
    have h1 := h a (by simp)
    have h2 := sum_le (B := B) (l := r) fun x hx => h x (List.mem_cons_of_mem _ hx)
    rw [List.sum_cons, List.length_cons, Nat.succ_mul]
    omega
theorem joinL_free {c : Nat} (S : List Nat) (hS : c ∉ S) : ∀ {ps : List (List Nat)}, (∀ p ∈ ps, c ∉ p) → c ∉ TL.joinL S ps
  | [], _ => by simp [TL.joinL]
  | [p], h => h p (by simp)
  | p :: q :: r, h => by
    simp only [TL.joinL, List.mem_append, not_or]
    exact ⟨h p (by simp), hS, joinL_free S hS fun x hx => h x (List.mem_cons_of_mem _ hx)⟩
theorem join_free {c : Nat} {y : Str} (hy : c ∉ tl y) {ps : List Str} (h : ∀ p ∈ ps, c ∉ tl p) : c ∉ tl (Txt.join y ps) := by
  rw [TL.join_eq, TL.tl_join]
  refine joinL_free _ hy fun p hp => ?_
  obtain ⟨x, hx, rfl⟩ := List.mem_map.mp hp
  exact h x hx
/-- y.join(xs), xs a list of texts that stands -/
theorem join_at {y : Str} {r : Nat} {ys : List Str} {S : Store} {B : Nat} (h : S[r]? = some (.lst (ys.map Da.str))) (hB : ∀ x ∈ ys, x.length ≤ B) (hl : ys.length * B + ys.length * y.length ≤ 16777216) : hJoin (.str y) [.ref r] S = some (.str (Txt.join y ys), S) := by
  unfold hJoin
  dsimp only
  have e : seqOf S (.ref r) = some (ys.map Da.str) := by unfold seqOf; dsimp only; rw [h]
  rw [e, Option.bind_some, strL_map, Option.bind_some, if_pos]
  have := sum_le (B := B) (l := ys.map (·.length)) fun x hx => by
    obtain ⟨z, hz, rfl⟩ := List.mem_map.mp hx
    exact hB z hz
  rw [List.length_map] at this
  omega
theorem split_at {x y : Str} {S : Store} (h : (y.length == 0) = false) (hl : x.length + 2 ≤ 16777216) : hSplit (.str x) [.str y] S = some (.ref S.length, S ++ [.lst ((Txt.split x y).map Da.str)]) := by
  unfold hSplit
  dsimp only
  rw [if_pos ⟨h, sz16 hl⟩]
theorem part_at {x y : Str} {S : Store} (h : (y.length == 0) = false) (hl : x.length ≤ 16777216) : hPart (.str x) [.str y] S = some (.tup [.str (Txt.partition x y).1, .str (Txt.partition x y).2.1, .str (Txt.partition x y).2.2], S) := by
  unfold hPart
  dsimp only
  rw [if_pos ⟨h, sz16 hl⟩]
theorem a_cat {x y : Str} {S : Store} (h : x.length + y.length ≤ 16777216) : dAdd (.str x) (.str y) S = some (.str (x ++ y), S) := by
  show (if x.length + y.length ≤ sizeLine then some (Da.str (x ++ y), S) else none) = _
  rw [if_pos (sz16 h)]
theorem len_str {x : Str} {S : Store} (h : x.length ≤ 16777216) : cLen [.str x] S = some (.int x.length, S) := by
  show (if x.length ≤ sizeLine then some (Da.int x.length, S) else none) = _
  rw [if_pos (sz16 h)]
theorem tup_of {ds : List Da} {S : Store} (h : ds.length ≤ 16777216) : mkTup ds S = some (.tup ds, S) := by unfold mkTup; rw [if_pos (sz16 h)]
theorem lst_of' {ds : List Da} {S : Store} (h : ds.length ≤ 16777216) : mkLst ds S = some (.ref S.length, S ++ [.lst ds]) := by unfold mkLst; rw [if_pos (sz16 h)]
theorem tup1 {a : Da} {S : Store} : mkTup [a] S = some (.tup [a], S) := tup_of (by show 1 ≤ _; omega)
theorem tup2 {a b : Da} {S : Store} : mkTup [a, b] S = some (.tup [a, b], S) := tup_of (by show 2 ≤ _; omega)
theorem tup3 {a b c : Da} {S : Store} : mkTup [a, b, c] S = some (.tup [a, b, c], S) := tup_of (by show 3 ≤ _; omega)
theorem tup0 {S : Store} : mkTup [] S = some (.tup [], S) := tup_of (by show 0 ≤ _; omega)
theorem lst0 {S : Store} : mkLst [] S = some (.ref S.length, S ++ [.lst []]) := lst_of' (by show 0 ≤ _; omega)
theorem lst1 {a : Da} {S : Store} : mkLst [a] S = some (.ref S.length, S ++ [.lst [a]]) := lst_of' (by show 1 ≤ _; omega)
theorem lst2 {a b : Da} {S : Store} : mkLst [a, b] S = some (.ref S.length, S ++ [.lst [a, b]]) := lst_of' (by show 2 ≤ _; omega)
theorem lst3 {a b c : Da} {S : Store} : mkLst [a, b, c] S = some (.ref S.length, S ++ [.lst [a, b, c]]) := lst_of' (by show 3 ≤ _; omega)
theorem lst6 {a b c d e f : Da} {S : Store} : mkLst [a, b, c, d, e, f] S = some (.ref S.length, S ++ [.lst [a, b, c, d, e, f]]) := lst_of' (by show 6 ≤ _; omega)
theorem ctup_at {r : Nat} {ds : List Da} {S : Store} (h : S[r]? = some (.lst ds)) : cTuple [.ref r] S = some (.tup ds, S) := by
  show (seqOf S (.ref r)).map _ = _
  have e : seqOf S (.ref r) = some ds := by unfold seqOf; dsimp only; rw [h]
  rw [e]
  rfl
theorem all_at {r : Nat} {bs : List Bool} {S : Store} (h : S[r]? = some (.lst (bs.map Da.bl))) : cAll [.ref r] S = some (.bl (bs.all id), S) := by
  show ((seqOf S (.ref r)).bind _) = _
  have e : seqOf S (.ref r) = some (bs.map Da.bl) := by unfold seqOf; dsimp only; rw [h]
  rw [e, Option.bind_some, blL_map]
  rfl
theorem items_ref {r : Nat} {ds : List Da} {S : Store} (h : S[r]? = some (.lst ds)) : itemsOf S (.ref r) = some (ds, fun S' => S'[r]? = some (.lst ds)) := by unfold itemsOf; dsimp only; rw [h]
theorem str_num {n : Nat} {S : Store} (h : n < 10 ^ 12) : cStr [.int (n : Int)] S = some (.str (numS n), S) := by
  show (if (n : Int).natAbs.log2 < 1920 then _ else _) = _
  have := log_le (i := (n : Int)) h
  rw [if_pos (by omega)]
  rfl
/-- a number's first figure -/
theorem numL_head : ∀ (n : Nat) (r : List Nat), TL.numL n = 48 :: r → n = 0 := fun n => by
  induction n using Nat.strongRecOn with
  | _ n ih =>
    intro r h
    by_cases h10 : n < 10
    · rw [TL.numL_lt h10] at h
      injection h with h _
      omega
    · rw [TL.numL_step (by omega)] at h
      cases e : TL.numL (n / 10) with
      | nil => exact absurd e (TL.numL_ne _)
      | cons a q =>
        rw [e] at h
        injection h with h _
        subst h
        have := ih (n / 10) (by omega) q e
        omega
theorem numS_len {n : Nat} (h : n < 10 ^ 12) : (numS n).length ≤ 12 := num_len h
theorem int_of {n : Nat} {S : Store} (h : n < 10 ^ 12) : cInt [.str (numS n)] S = some (.int n, S) := by
  have hl := numS_len h
  have e : intText? (numS n) = some (n : Int) := TL.int_num (by rw [← tl_numS, ← TL.len_tl]; omega)
  show (match intText? (numS n) with
    | some n' => if (numS n).length ≤ 640 then some (Da.int n', S) else none
    | none => none) = _
  rw [e]
  dsimp only
  rw [if_pos (by omega)]
end M2

/-! printed by gen.py: the reckonings of the text of cancelleaves_k75_papers_as_texts, and that its defs keep them -/
namespace K75
open PySem PySem.Spec PyProof.Rows L2 M2
def topS (i : Nat) : Stmt := PySem.Challenge.pw_cancelleaves_k75_papers_as_texts.main.body.getD i (.Pass ⟨0, 0, 0, 0⟩)
abbrev s_is_word : Stmt := topS 6
abbrev s_row_word : Stmt := topS 10
abbrev s_nodes_word : Stmt := topS 11
abbrev s_numbers_word : Stmt := topS 12
abbrev s_number_paper_text : Stmt := topS 13
abbrev s_number_in : Stmt := topS 18
abbrev s_node_in : Stmt := topS 19
abbrev s_nodes_in : Stmt := topS 20
abbrev s_numbers_in : Stmt := topS 21
abbrev s_sets_in : Stmt := topS 22
abbrev s_read_nodes : Stmt := topS 23
abbrev s_read_number_paper : Stmt := topS 24
abbrev s_law_feed : Stmt := topS 26
abbrev s_law_draw : Stmt := topS 27
abbrev s_law_numbers : Stmt := topS 28
abbrev s_law_many : Stmt := topS 29
abbrev s_law_numbers_word : Stmt := topS 30
abbrev s_law_refused : Stmt := topS 31
abbrev s_law : Stmt := topS 32
abbrev si_NoText : Stmt := inClass (topS 2) 0
theorem sc_NoText : FnScope ["self", "row", "word"] ["self", "row", "word"] (defScope si_NoText) := ⟨rfl, rfl, rfl, by decide +kernel, rfl, by decide +kernel, by decide +kernel⟩
def sub_NoText : Str → Option Bool := fun c => if c = "NoText" then some true else none
theorem sub_NoText_eq {c : Str} {b : Bool} (h : sub_NoText c = some b) : c = "NoText" := by
  unfold sub_NoText at h
  split at h
  · assumption
  · cases h
theorem sc_is_word : FnScope ["thing", "sign"] ["thing"] (defScope s_is_word) := ⟨rfl, rfl, rfl, by decide +kernel, rfl, by decide +kernel, by decide +kernel⟩
theorem sc_row_word : FnScope ["words"] ["words"] (defScope s_row_word) := ⟨rfl, rfl, rfl, by decide +kernel, rfl, by decide +kernel, by decide +kernel⟩
theorem sc_nodes_word : FnScope ["nodes", "sort", "word"] ["nodes"] (defScope s_nodes_word) := ⟨rfl, rfl, rfl, by decide +kernel, rfl, by decide +kernel, by decide +kernel⟩
theorem sc_numbers_word : FnScope ["numbers", "number"] ["numbers"] (defScope s_numbers_word) := ⟨rfl, rfl, rfl, by decide +kernel, rfl, by decide +kernel, by decide +kernel⟩
theorem sc_number_paper_text : FnScope ["paper", "sort", "things", "one"] ["paper"] (defScope s_number_paper_text) := ⟨rfl, rfl, rfl, by decide +kernel, rfl, by decide +kernel, by decide +kernel⟩
theorem sc_number_in : FnScope ["word", "least", "most", "sign"] ["word", "least", "most"] (defScope s_number_in) := ⟨rfl, rfl, rfl, by decide +kernel, rfl, by decide +kernel, by decide +kernel⟩
theorem sc_node_in : FnScope ["word", "sort", "mark", "name"] ["word"] (defScope s_node_in) := ⟨rfl, rfl, rfl, by decide +kernel, rfl, by decide +kernel, by decide +kernel⟩
theorem sc_nodes_in : FnScope ["word", "found", "part"] ["word"] (defScope s_nodes_in) := ⟨rfl, rfl, rfl, by decide +kernel, rfl, by decide +kernel, by decide +kernel⟩
theorem sc_numbers_in : FnScope ["word", "found", "part"] ["word"] (defScope s_numbers_in) := ⟨rfl, rfl, rfl, by decide +kernel, rfl, by decide +kernel, by decide +kernel⟩
theorem sc_sets_in : FnScope ["word", "found", "part"] ["word"] (defScope s_sets_in) := ⟨rfl, rfl, rfl, by decide +kernel, rfl, by decide +kernel, by decide +kernel⟩
theorem sc_read_nodes : FnScope ["text", "words", "found"] ["text"] (defScope s_read_nodes) := ⟨rfl, rfl, rfl, by decide +kernel, rfl, by decide +kernel, by decide +kernel⟩
theorem sc_read_number_paper : FnScope ["text", "words", "found"] ["text"] (defScope s_read_number_paper) := ⟨rfl, rfl, rfl, by decide +kernel, rfl, by decide +kernel, by decide +kernel⟩
theorem sc_law_feed : FnScope ["script"] ["script"] (defScope s_law_feed) := ⟨rfl, rfl, rfl, by decide +kernel, rfl, by decide +kernel, by decide +kernel⟩
theorem sc_law_draw : FnScope ["feed", "many", "at", "cell", "first", "found"] ["feed", "many"] (defScope s_law_draw) := ⟨rfl, rfl, rfl, by decide +kernel, rfl, by decide +kernel, by decide +kernel⟩
theorem sc_law_numbers : FnScope ["feed", "many", "k"] ["feed", "many"] (defScope s_law_numbers) := ⟨rfl, rfl, rfl, by decide +kernel, rfl, by decide +kernel, by decide +kernel⟩
theorem sc_law_many : FnScope ["feed"] ["feed"] (defScope s_law_many) := ⟨rfl, rfl, rfl, by decide +kernel, rfl, by decide +kernel, by decide +kernel⟩
theorem sc_law_numbers_word : FnScope ["numbers", "number"] ["numbers"] (defScope s_law_numbers_word) := ⟨rfl, rfl, rfl, by decide +kernel, rfl, by decide +kernel, by decide +kernel⟩
theorem sc_law_refused : FnScope ["reader", "text", "found", "e"] ["reader", "text"] (defScope s_law_refused) := ⟨rfl, rfl, rfl, by decide +kernel, rfl, by decide +kernel, by decide +kernel⟩
theorem sc_law : FnScope ["script", "feed", "lap", "nodes", "k", "text", "way", "sets", "words", "texts", "word", "paper", "due", "kept", "one", "sort"] ["script"] (defScope s_law) := ⟨rfl, rfl, rfl, by decide +kernel, rfl, by decide +kernel, by decide +kernel⟩
/-! ### what the defs reckon -/
noncomputable def c_is_word_1 : FS := (retS (callE (consA (compE [1] (srcE (fun ρ => getV ρ 0)) (gSet 1) tyes (op2 dIn (fun ρ => getV ρ 1) (fun _ => pure (.str ("abcdefghijklmnopqrstuvwxyz" : Str))))) nilA) cAll))
noncomputable def b_is_word : FS := (seqS (iteS (bOr (bNot (tst (callE (consA (fun ρ => getV ρ 0) (consA (fun _ => pure (.ty "str")) nilA)) cIsi))) (bNot (tst (chn dLe dLe (fun _ => pure (.int 1)) (callE (consA (fun ρ => getV ρ 0) nilA) cLen) (fun _ => pure (.int 8)))))) (retS (fun _ => pure (.bl false))) nilS)
  c_is_word_1)
noncomputable def g_is_word : List Da → M Da := runF 2 b_is_word
noncomputable def b_row_word : FS := (retS (ifE (tst (op2 dGt (callE (consA (fun ρ => getV ρ 0) nilA) cLen) (fun _ => pure (.int 0)))) (methE "str" (fun _ => pure (.str ("," : Str))) (consA (fun ρ => getV ρ 0) nilA) hJoin) (fun _ => pure (.str ("-" : Str)))))
noncomputable def g_row_word : List Da → M Da := runF 1 b_row_word
noncomputable def b_nodes_word : FS := (retS (callF 1 g_row_word (consA (compE [1, 2] (srcE (fun ρ => getV ρ 0)) (gTupF 2 (gConsF (gSet 1) (gConsF (gSet 2) gNilF))) tyes (op2 dAdd (op2 dAdd (fun ρ => getV ρ 1) (fun _ => pure (.str ("." : Str)))) (fun ρ => getV ρ 2))) nilA)))
noncomputable def g_nodes_word : List Da → M Da := runF 3 b_nodes_word
noncomputable def b_numbers_word : FS := (retS (callF 1 g_row_word (consA (compE [1] (srcE (fun ρ => getV ρ 0)) (gSet 1) tyes (callE (consA (fun ρ => getV ρ 1) nilA) cStr)) nilA)))
noncomputable def g_numbers_word : List Da → M Da := runF 2 b_numbers_word
noncomputable def c_number_paper_text_1 : FS := (retS (op2 dAdd (op2 dAdd (fun ρ => getV ρ 1) (fun _ => pure (.str (" " : Str)))) (ifE (tst (op2 dGt (callE (consA (fun ρ => getV ρ 2) nilA) cLen) (fun _ => pure (.int 0)))) (methE "str" (fun _ => pure (.str ("/" : Str))) (consA (compE [3] (srcE (fun ρ => getV ρ 2)) (gSet 3) tyes (callF 1 g_numbers_word (consA (fun ρ => getV ρ 3) nilA))) nilA) hJoin) (fun _ => pure (.str ("." : Str))))))
noncomputable def c_number_paper_text_2 : FS := (seqS (iteS (tst (op2 dEq (fun ρ => getV ρ 1) (fun _ => pure (.str ("way" : Str))))) (retS (op2 dAdd (op2 dAdd (fun ρ => getV ρ 1) (fun _ => pure (.str (" " : Str)))) (callF 1 g_numbers_word (consA (fun ρ => getV ρ 2) nilA)))) nilS)
  c_number_paper_text_1)
noncomputable def b_number_paper_text : FS := (seqS (asgS (fun ρ => getV ρ 0) (gTupF 2 (gConsF (gSet 1) (gConsF (gSet 2) gNilF))))
  c_number_paper_text_2)
noncomputable def g_number_paper_text : List Da → M Da := runF 4 b_number_paper_text
noncomputable def c_number_in_1 : FS := (retS (ifE (tst (chn dLe dLe (fun ρ => getV ρ 1) (callE (consA (fun ρ => getV ρ 0) nilA) cInt) (fun ρ => getV ρ 2))) (callE (consA (fun ρ => getV ρ 0) nilA) cInt) (fun _ => pure .non)))
noncomputable def c_number_in_2 : FS := (seqS (iteS (bAnd (tst (op2 dEq (op2 dIx (fun ρ => getV ρ 0) (fun _ => pure (.int 0))) (fun _ => pure (.str ("0" : Str))))) (tst (op2 dNe (fun ρ => getV ρ 0) (fun _ => pure (.str ("0" : Str)))))) (retS (fun _ => pure .non)) nilS)
  c_number_in_1)
noncomputable def b_number_in : FS := (seqS (iteS (bOr (bNot (tst (chn dLe dLe (fun _ => pure (.int 1)) (callE (consA (fun ρ => getV ρ 0) nilA) cLen) (fun _ => pure (.int 12))))) (bNot (tst (callE (consA (compE [3] (srcE (fun ρ => getV ρ 0)) (gSet 3) tyes (op2 dIn (fun ρ => getV ρ 3) (fun _ => pure (.str ("0123456789" : Str))))) nilA) cAll)))) (retS (fun _ => pure .non)) nilS)
  c_number_in_2)
noncomputable def g_number_in : List Da → M Da := runF 4 b_number_in
noncomputable def c_node_in_1 : FS := (retS (ifE (bAnd (tst (op2 dIn (fun ρ => getV ρ 1) (tupE (consA (fun _ => pure (.str ("mend" : Str))) (consA (fun _ => pure (.str ("copy" : Str))) nilA))))) (tst (callF 1 g_is_word (consA (fun ρ => getV ρ 3) nilA)))) (tupE (consA (fun ρ => getV ρ 1) (consA (fun ρ => getV ρ 3) nilA))) (fun _ => pure .non)))
noncomputable def b_node_in : FS := (seqS (asgS (methE "str" (fun ρ => getV ρ 0) (consA (fun _ => pure (.str ("." : Str))) nilA) hPart) (gTupF 3 (gConsF (gSet 1) (gConsF (gSet 2) (gConsF (gSet 3) gNilF)))))
  c_node_in_1)
noncomputable def g_node_in : List Da → M Da := runF 4 b_node_in
noncomputable def c_nodes_in_1 : FS := (retS (ifE (tst (op2 dIn (fun _ => pure .non) (fun ρ => getV ρ 1))) (fun _ => pure .non) (fun ρ => getV ρ 1)))
noncomputable def c_nodes_in_2 : FS := (seqS (setS 1 (callE (consA (compE [2] (srcE (methE "str" (fun ρ => getV ρ 0) (consA (fun _ => pure (.str ("," : Str))) nilA) hSplit)) (gSet 2) tyes (callF 1 g_node_in (consA (fun ρ => getV ρ 2) nilA))) nilA) cTuple))
  c_nodes_in_1)
noncomputable def b_nodes_in : FS := (seqS (iteS (tst (op2 dEq (fun ρ => getV ρ 0) (fun _ => pure (.str ("-" : Str))))) (retS (tupE nilA)) nilS)
  c_nodes_in_2)
noncomputable def g_nodes_in : List Da → M Da := runF 3 b_nodes_in
noncomputable def c_numbers_in_1 : FS := (retS (ifE (tst (op2 dIn (fun _ => pure .non) (fun ρ => getV ρ 1))) (fun _ => pure .non) (fun ρ => getV ρ 1)))
noncomputable def c_numbers_in_2 : FS := (seqS (setS 1 (callE (consA (compE [2] (srcE (methE "str" (fun ρ => getV ρ 0) (consA (fun _ => pure (.str ("," : Str))) nilA) hSplit)) (gSet 2) tyes (callF 3 g_number_in (consA (fun ρ => getV ρ 2) (consA (fun _ => pure (.int 0)) (consA (fun _ => pure (.int 1000000000000)) nilA))))) nilA) cTuple))
  c_numbers_in_1)
noncomputable def b_numbers_in : FS := (seqS (iteS (tst (op2 dEq (fun ρ => getV ρ 0) (fun _ => pure (.str ("-" : Str))))) (retS (tupE nilA)) nilS)
  c_numbers_in_2)
noncomputable def g_numbers_in : List Da → M Da := runF 3 b_numbers_in
noncomputable def c_sets_in_1 : FS := (retS (ifE (tst (op2 dIn (fun _ => pure .non) (fun ρ => getV ρ 1))) (fun _ => pure .non) (fun ρ => getV ρ 1)))
noncomputable def c_sets_in_2 : FS := (seqS (setS 1 (callE (consA (compE [2] (srcE (methE "str" (fun ρ => getV ρ 0) (consA (fun _ => pure (.str ("/" : Str))) nilA) hSplit)) (gSet 2) tyes (callF 1 g_numbers_in (consA (fun ρ => getV ρ 2) nilA))) nilA) cTuple))
  c_sets_in_1)
noncomputable def b_sets_in : FS := (seqS (iteS (tst (op2 dEq (fun ρ => getV ρ 0) (fun _ => pure (.str ("." : Str))))) (retS (tupE nilA)) nilS)
  c_sets_in_2)
noncomputable def g_sets_in : List Da → M Da := runF 3 b_sets_in
noncomputable def c_read_nodes_1 : FS := (retS (fun ρ => getV ρ 2))
noncomputable def c_read_nodes_2 : FS := (seqS (iteS (tst (op2 dGt (callE (consA (fun ρ => getV ρ 1) nilA) cLen) (fun _ => pure (.int 1)))) (raise2 "NoText" "row" "word" (consA (fun _ => pure (.int 0)) (consA (fun _ => pure (.int 1)) nilA))) nilS)
  c_read_nodes_1)
noncomputable def c_read_nodes_3 : FS := (seqS (iteS (tst (op2 dIs (fun ρ => getV ρ 2) (fun _ => pure .non))) (raise2 "NoText" "row" "word" (consA (fun _ => pure (.int 0)) (consA (fun _ => pure (.int 0)) nilA))) nilS)
  c_read_nodes_2)
noncomputable def c_read_nodes_4 : FS := (seqS (setS 2 (callF 1 g_nodes_in (consA (op2 dIx (fun ρ => getV ρ 1) (fun _ => pure (.int 0))) nilA)))
  c_read_nodes_3)
noncomputable def b_read_nodes : FS := (seqS (setS 1 (methE "str" (fun ρ => getV ρ 0) (consA (fun _ => pure (.str (" " : Str))) nilA) hSplit))
  c_read_nodes_4)
noncomputable def g_read_nodes : List Da → M Da := runF 3 b_read_nodes
noncomputable def c_read_number_paper_1 : FS := (retS (tupE (consA (op2 dIx (fun ρ => getV ρ 1) (fun _ => pure (.int 0))) (consA (fun ρ => getV ρ 2) nilA))))
noncomputable def c_read_number_paper_2 : FS := (seqS (iteS (tst (op2 dGt (callE (consA (fun ρ => getV ρ 1) nilA) cLen) (fun _ => pure (.int 2)))) (raise2 "NoText" "row" "word" (consA (fun _ => pure (.int 0)) (consA (fun _ => pure (.int 2)) nilA))) nilS)
  c_read_number_paper_1)
noncomputable def c_read_number_paper_3 : FS := (seqS (iteS (tst (op2 dIs (fun ρ => getV ρ 2) (fun _ => pure .non))) (raise2 "NoText" "row" "word" (consA (fun _ => pure (.int 0)) (consA (fun _ => pure (.int 1)) nilA))) nilS)
  c_read_number_paper_2)
noncomputable def c_read_number_paper_4 : FS := (seqS (setS 2 (ifE (tst (op2 dEq (op2 dIx (fun ρ => getV ρ 1) (fun _ => pure (.int 0))) (fun _ => pure (.str ("way" : Str))))) (callF 1 g_numbers_in (consA (op2 dIx (fun ρ => getV ρ 1) (fun _ => pure (.int 1))) nilA)) (callF 1 g_sets_in (consA (op2 dIx (fun ρ => getV ρ 1) (fun _ => pure (.int 1))) nilA))))
  c_read_number_paper_3)
noncomputable def c_read_number_paper_5 : FS := (seqS (iteS (tst (op2 dEq (callE (consA (fun ρ => getV ρ 1) nilA) cLen) (fun _ => pure (.int 1)))) (raise2 "NoText" "row" "word" (consA (fun _ => pure (.int 0)) (consA (fun _ => pure (.int 1)) nilA))) nilS)
  c_read_number_paper_4)
noncomputable def c_read_number_paper_6 : FS := (seqS (iteS (tst (op2 dNotIn (op2 dIx (fun ρ => getV ρ 1) (fun _ => pure (.int 0))) (tupE (consA (fun _ => pure (.str ("way" : Str))) (consA (fun _ => pure (.str ("bar" : Str))) nilA))))) (raise2 "NoText" "row" "word" (consA (fun _ => pure (.int 0)) (consA (fun _ => pure (.int 0)) nilA))) nilS)
  c_read_number_paper_5)
noncomputable def b_read_number_paper : FS := (seqS (setS 1 (methE "str" (fun ρ => getV ρ 0) (consA (fun _ => pure (.str (" " : Str))) nilA) hSplit))
  c_read_number_paper_6)
noncomputable def g_read_number_paper : List Da → M Da := runF 3 b_read_number_paper
noncomputable def b_law_feed : FS := M2.feedB
noncomputable def g_law_feed : List Da → M Da := M2.feedG
noncomputable def b_law_draw : FS := M2.drawB
noncomputable def g_law_draw : List Da → M Da := M2.drawG
noncomputable def b_law_numbers : FS := (retS (callE (consA (compE [2] (rngE1 (consA (fun ρ => getV ρ 1) nilA)) (gSet 2) tyes (op2 dIx (lstE (consA (callF 2 g_law_draw (consA (fun ρ => getV ρ 0) (consA (fun _ => pure (.int 40)) nilA))) (consA (fun _ => pure (.int 0)) (consA (op2 dSub (op2 dPow (fun _ => pure (.int 10)) (fun _ => pure (.int 12))) (fun _ => pure (.int 1))) nilA)))) (callF 2 g_law_draw (consA (fun ρ => getV ρ 0) (consA (fun _ => pure (.int 3)) nilA))))) nilA) cTuple))
noncomputable def g_law_numbers : List Da → M Da := runF 3 b_law_numbers
noncomputable def b_law_many : FS := (retS (op2 dIx (lstE (consA (callF 2 g_law_draw (consA (fun ρ => getV ρ 0) (consA (fun _ => pure (.int 5)) nilA))) (consA (fun _ => pure (.int 40)) nilA))) (callE (consA (op2 dEq (callF 2 g_law_draw (consA (fun ρ => getV ρ 0) (consA (fun _ => pure (.int 9)) nilA))) (fun _ => pure (.int 0))) nilA) cInt)))
noncomputable def g_law_many : List Da → M Da := runF 1 b_law_many
noncomputable def b_law_numbers_word : FS := (retS (ifE (tst (op2 dNe (fun ρ => getV ρ 0) (tupE nilA))) (methE "str" (fun _ => pure (.str ("," : Str))) (consA (compE [1] (srcE (fun ρ => getV ρ 0)) (gSet 1) tyes (callE (consA (fun ρ => getV ρ 1) nilA) cStr)) nilA) hJoin) (fun _ => pure (.str ("-" : Str)))))
noncomputable def g_law_numbers_word : List Da → M Da := runF 2 b_law_numbers_word
noncomputable def ftab : FTab := fun y => if y = "read_nodes" then some (1, g_read_nodes) else if y = "read_number_paper" then some (1, g_read_number_paper) else none
noncomputable def suite_law_refused (a : Addr) (fs : List (Str × Da)) : FS := (setS 2 (tupE (consA (attX a fs "row" (fun ρ => getV ρ 3)) (consA (attX a fs "word" (fun ρ => getV ρ 3)) nilA))))
noncomputable def c_law_refused_1 : FS := (retS (fun ρ => getV ρ 2))
noncomputable def c_law_refused_2 : FS := (seqS (tryS (dropS (callLF 0 ftab (consA (fun ρ => getV ρ 1) nilA))) sub_NoText (fun c fs ρ S => ((suite_law_refused 0 fs) (ρ.set 3 (some (.adr 0))) S).unset 3))
  c_law_refused_1)
noncomputable def b_law_refused : FS := (seqS (setS 2 (fun _ => pure .non))
  c_law_refused_2)
noncomputable def g_law_refused : List Da → M Da := runF 4 b_law_refused
noncomputable def c_law_1 : FS := (retS (fun _ => pure (.bl true)))
noncomputable def c_law_2 : FS := (iteS (tst (op2 dNe (callF 2 g_law_refused (consA (fun _ => pure (.fn "read_number_paper")) (consA (op2 dIx (lstE (consA (fun _ => pure (.str ("way" : Str))) (consA (fun _ => pure (.str ("bar" : Str))) nilA))) (op2 dMod (fun ρ => getV ρ 2) (fun _ => pure (.int 2)))) nilA))) (tupE (consA (fun _ => pure (.int 0)) (consA (fun _ => pure (.int 1)) nilA))))) (retS (fun _ => pure (.bl false))) nilS)
noncomputable def c_law_3 : FS := (iteS (bOr (tst (op2 dNe (callF 2 g_law_refused (consA (fun _ => pure (.fn "read_number_paper")) (consA (op2 dAdd (fun ρ => getV ρ 12) (fun _ => pure (.str (" " : Str)))) nilA))) (tupE (consA (fun _ => pure (.int 0)) (consA (fun _ => pure (.int 2)) nilA))))) (tst (op2 dNe (callF 2 g_law_refused (consA (fun _ => pure (.fn "read_nodes")) (consA (op2 dAdd (fun ρ => getV ρ 5) (fun _ => pure (.str (" x" : Str)))) nilA))) (tupE (consA (fun _ => pure (.int 0)) (consA (fun _ => pure (.int 1)) nilA)))))) (retS (fun _ => pure (.bl false))) nilS)
noncomputable def c_law_4 : FS := (seqS (iteS (bOr (tst (op2 dNe (callE (consA (tupE (consA (callF 1 g_number_paper_text (consA (fun ρ => getV ρ 11) nilA)) (consA (callF 1 g_read_number_paper (consA (fun ρ => getV ρ 12) nilA)) nilA))) nilA) cRepr) (callE (consA (tupE (consA (fun ρ => getV ρ 12) (consA (fun ρ => getV ρ 11) nilA))) nilA) cRepr))) (tst (op2 dNe (callE (consA (fun ρ => getV ρ 11) nilA) cRepr) (fun ρ => getV ρ 13)))) (retS (fun _ => pure (.bl false))) nilS)
  c_law_3)
noncomputable def c_law_5 : FS := (seqS (forS (zipE (consA (tupE (consA (fun ρ => getV ρ 6) (consA (tupE (consA (fun _ => pure (.str ("bar" : Str))) (consA (fun ρ => getV ρ 7) nilA))) nilA))) (consA (fun ρ => getV ρ 9) nilA))) (gTupF 2 (gConsF (gSet 11) (gConsF (gSet 12) gNilF)))
  (seqS (setS 13 (callE (consA (fun ρ => getV ρ 11) nilA) cRepr))
  c_law_4))
  c_law_2)
noncomputable def c_law_6 : FS := (seqS (setS 9 (lstE (consA (op2 dAdd (fun _ => pure (.str ("way " : Str))) (callF 1 g_law_numbers_word (consA (op2 dIx (fun ρ => getV ρ 6) (fun _ => pure (.int 1))) nilA))) (consA (op2 dAdd (fun _ => pure (.str ("bar " : Str))) (ifE (tst (op2 dNe (fun ρ => getV ρ 8) (lstE nilA))) (methE "str" (fun _ => pure (.str ("/" : Str))) (consA (fun ρ => getV ρ 8) nilA) hJoin) (fun _ => pure (.str ("." : Str))))) nilA))))
  c_law_5)
noncomputable def c_law_7 : FS := (seqS (setS 8 (compE [14] (srcE (fun ρ => getV ρ 7)) (gSet 14) tyes (callF 1 g_law_numbers_word (consA (fun ρ => getV ρ 14) nilA))))
  c_law_6)
noncomputable def c_law_8 : FS := (seqS (setS 7 (callE (consA (compE [4] (rngE1 (consA (callF 1 g_law_many (consA (fun ρ => getV ρ 1) nilA)) nilA)) (gSet 4) tyes (callF 2 g_law_numbers (consA (fun ρ => getV ρ 1) (consA (callF 2 g_law_draw (consA (fun ρ => getV ρ 1) (consA (fun _ => pure (.int 4)) nilA))) nilA)))) nilA) cTuple))
  c_law_7)
noncomputable def c_law_9 : FS := (seqS (setS 6 (tupE (consA (fun _ => pure (.str ("way" : Str))) (consA (callF 2 g_law_numbers (consA (fun ρ => getV ρ 1) (consA (callF 1 g_law_many (consA (fun ρ => getV ρ 1) nilA)) nilA))) nilA))))
  c_law_8)
noncomputable def c_law_10 : FS := (seqS (iteS (tst (op2 dNe (callE (consA (tupE (consA (callF 1 g_nodes_word (consA (fun ρ => getV ρ 3) nilA)) (consA (callF 1 g_read_nodes (consA (fun ρ => getV ρ 5) nilA)) nilA))) nilA) cRepr) (callE (consA (tupE (consA (fun ρ => getV ρ 5) (consA (fun ρ => getV ρ 3) nilA))) nilA) cRepr))) (retS (fun _ => pure (.bl false))) nilS)
  c_law_9)
noncomputable def c_law_11 : FS := (seqS (setS 5 (ifE (tst (op2 dNe (fun ρ => getV ρ 3) (tupE nilA))) (methE "str" (fun _ => pure (.str ("," : Str))) (consA (compE [15, 10] (srcE (fun ρ => getV ρ 3)) (gTupF 2 (gConsF (gSet 15) (gConsF (gSet 10) gNilF))) tyes (op2 dAdd (op2 dAdd (fun ρ => getV ρ 15) (fun _ => pure (.str ("." : Str)))) (fun ρ => getV ρ 10))) nilA) hJoin) (fun _ => pure (.str ("-" : Str)))))
  c_law_10)
noncomputable def c_law_12 : FS := (seqS (setS 3 (callE (consA (fun ρ => getV ρ 3) nilA) cTuple))
  c_law_11)
noncomputable def c_law_13 : FS := (dropS (methE "list" (fun ρ => getV ρ 3) (consA (tupE (consA (op2 dIx (lstE (consA (fun _ => pure (.str ("mend" : Str))) (consA (fun _ => pure (.str ("copy" : Str))) nilA))) (callF 2 g_law_draw (consA (fun ρ => getV ρ 1) (consA (fun _ => pure (.int 2)) nilA)))) (consA (fun ρ => getV ρ 10) nilA))) nilA) hAppend))
noncomputable def c_law_14 : FS := (seqS (forS (rngE1 (consA (callF 1 g_law_many (consA (fun ρ => getV ρ 1) nilA)) nilA)) (gSet 4)
  (seqS (setS 10 (op2 dIx (lstE (consA (fun _ => pure (.str ("a" : Str))) (consA (fun _ => pure (.str ("mend" : Str))) (consA (fun _ => pure (.str ("copy" : Str))) (consA (fun _ => pure (.str ("zzzzzzzz" : Str))) (consA (fun _ => pure (.str ("way" : Str))) (consA (fun _ => pure (.str ("f" : Str))) nilA))))))) (callF 2 g_law_draw (consA (fun ρ => getV ρ 1) (consA (fun _ => pure (.int 6)) nilA)))))
  c_law_13))
  c_law_12)
noncomputable def c_law_15 : FS := (seqS (forS (rngE1 (consA (fun _ => pure (.int 3)) nilA)) (gSet 2)
  (seqS (setS 3 (lstE nilA))
  c_law_14))
  c_law_1)
noncomputable def b_law : FS := (seqS (setS 1 (callF 1 g_law_feed (consA (fun ρ => getV ρ 0) nilA)))
  c_law_15)
noncomputable def g_law : List Da → M Da := runF 16 b_law
theorem pure_law_refused (a : Addr) (fs : List (Str × Da)) (ρ : Ev) (S : Store) : (suite_law_refused a fs (ρ.set 3 (some (.adr a))) S).unset 3 = (suite_law_refused 0 fs (ρ.set 3 (some (.adr 0))) S).unset 3 := by
  have g : ∀ b : Addr, (suite_law_refused b fs (ρ.set 3 (some (.adr b))) S).unset 3 = if 3 < ρ.length then (match fs.lookup ("row" : Str), fs.lookup ("word" : Str) with
      | some x, some y => .nx ((ρ.set 2 (some (.tup [x, y]))).set 3 none) S
      | _, _ => .bad) else .bad := by
    intro b
    have e : suite_law_refused b fs (ρ.set 3 (some (.adr b))) S = if 3 < ρ.length then (match fs.lookup ("row" : Str), fs.lookup ("word" : Str) with
      | some x, some y => .nx ((ρ.set 3 (some (.adr b))).set 2 (some (.tup [x, y]))) S
      | _, _ => .bad) else .bad := by
      by_cases h : 3 < ρ.length
      · rw [if_pos h]
        have gv : getV (ρ.set 3 (some (.adr b))) 3 S = .ok (.adr b) S := by
          unfold getV
          rw [List.getElem?_set_self h]
        have key : ∀ f : Str, attX b fs f (fun ρ => getV ρ 3) (ρ.set 3 (some (.adr b))) S = (match fs.lookup f with
            | some d => .ok d S
            | none => .bad) := fun f => by
          unfold attX
          show Res.thn (getV (ρ.set 3 (some (.adr b))) 3 S) _ = _
          rw [gv]
          exact if_pos rfl
        unfold suite_law_refused setS asgS evS tupE consA nilA
        simp only [bind_ap, key]
        cases h1 : fs.lookup ("row" : Str) with
        | none => rfl
        | some x =>
          cases h2 : fs.lookup ("word" : Str) with
          | none => simp only [thn_ok, thn_bad, bind_ap, key, h2]
          | some y =>
            simp only [thn_ok, bind_ap, key, h2, pure_ap]
            rfl
      · rw [if_neg h]
        have gv : getV (ρ.set 3 (some (.adr b))) 3 S = .bad := by
          unfold getV
          rw [List.getElem?_eq_none (by rw [List.length_set]; omega)]
        have key : ∀ f : Str, attX b fs f (fun ρ => getV ρ 3) (ρ.set 3 (some (.adr b))) S = .bad := fun f => by
          unfold attX
          show Res.thn (getV (ρ.set 3 (some (.adr b))) 3 S) _ = _
          rw [gv]
          rfl
        unfold suite_law_refused setS asgS evS tupE consA nilA
        simp only [bind_ap, key, thn_bad]
    rw [e]
    by_cases h : 3 < ρ.length
    · rw [if_pos h, if_pos h]
      cases h1 : fs.lookup ("row" : Str) with
      | none => rfl
      | some x =>
        cases h2 : fs.lookup ("word" : Str) with
        | none => rfl
        | some y =>
          show SR.nx (((ρ.set 3 (some (.adr b))).set 2 (some (.tup [x, y]))).set 3 none) S = _
          rw [List.set_comm _ _ (by decide), List.set_set, List.set_comm _ _ (by decide)]
    · rw [if_neg h, if_neg h]
      rfl
  rw [g a, g 0]

/-! ### what the top has written -/
structure Txt (K : PySem.W.Frag) (mg : Str → Option Value) (i_NoText : Addr) : Prop where
  d_is_word : Dn K mg "is_word" s_is_word ["thing"]
  d_row_word : Dn K mg "row_word" s_row_word ["words"]
  d_nodes_word : Dn K mg "nodes_word" s_nodes_word ["nodes"]
  d_numbers_word : Dn K mg "numbers_word" s_numbers_word ["numbers"]
  d_number_paper_text : Dn K mg "number_paper_text" s_number_paper_text ["paper"]
  d_number_in : Dn K mg "number_in" s_number_in ["word", "least", "most"]
  d_node_in : Dn K mg "node_in" s_node_in ["word"]
  d_nodes_in : Dn K mg "nodes_in" s_nodes_in ["word"]
  d_numbers_in : Dn K mg "numbers_in" s_numbers_in ["word"]
  d_sets_in : Dn K mg "sets_in" s_sets_in ["word"]
  d_read_nodes : Dn K mg "read_nodes" s_read_nodes ["text"]
  d_read_number_paper : Dn K mg "read_number_paper" s_read_number_paper ["text"]
  d_law_feed : Dn K mg "_law_feed" s_law_feed ["script"]
  d_law_draw : Dn K mg "_law_draw" s_law_draw ["feed", "many"]
  d_law_numbers : Dn K mg "_law_numbers" s_law_numbers ["feed", "many"]
  d_law_many : Dn K mg "_law_many" s_law_many ["feed"]
  d_law_numbers_word : Dn K mg "_law_numbers_word" s_law_numbers_word ["numbers"]
  d_law_refused : Dn K mg "_law_refused" s_law_refused ["reader", "text"]
  d_law : Dn K mg "law" s_law ["script"]
  b_all : mg "all" = none
  b_int : mg "int" = none
  b_isinstance : mg "isinstance" = none
  b_len : mg "len" = none
  b_range : mg "range" = none
  b_repr : mg "repr" = none
  b_str : mg "str" = none
  b_tuple : mg "tuple" = none
  b_zip : mg "zip" = none
  c_LETTERS : ∃ t, mg "LETTERS" = some (.str ("abcdefghijklmnopqrstuvwxyz" : Str) t)
  c_MOST_LETTERS : ∃ t, mg "MOST_LETTERS" = some (.int 8 t)
  c_VOID : ∃ t, mg "VOID" = some (.str ("-" : Str) t)
  c_NOTHING : ∃ t, mg "NOTHING" = some (.str ("." : Str) t)
  c_FIGURES : ∃ t, mg "FIGURES" = some (.str ("0123456789" : Str) t)
  c_MOST_FIGURES : ∃ t, mg "MOST_FIGURES" = some (.int 12 t)
  c_GREATEST : ∃ t, mg "GREATEST" = some (.int 1000000000000 t)
  NoText : ErrC K mg "NoText" "LeafError" "row" "word" "NoText.__init__" si_NoText ["self", "row", "word"] i_NoText
  ex_NoText : PySem.W.exmOne K (.ref (adOf mg "NoText")) (.ref (adOf mg "NoText")) = some true
section
variable {P : Program} {w : World} {K : PySem.W.Frag} {mg : Str → Option Value} {base : Heap} {i_NoText : Addr}
theorem Txt.g_is_word (T : Txt K mg i_NoText) : mg "is_word" = some (.ref (adOf mg "is_word")) := T.d_is_word.g
theorem Txt.g_row_word (T : Txt K mg i_NoText) : mg "row_word" = some (.ref (adOf mg "row_word")) := T.d_row_word.g
theorem Txt.g_nodes_word (T : Txt K mg i_NoText) : mg "nodes_word" = some (.ref (adOf mg "nodes_word")) := T.d_nodes_word.g
theorem Txt.g_numbers_word (T : Txt K mg i_NoText) : mg "numbers_word" = some (.ref (adOf mg "numbers_word")) := T.d_numbers_word.g
theorem Txt.g_number_paper_text (T : Txt K mg i_NoText) : mg "number_paper_text" = some (.ref (adOf mg "number_paper_text")) := T.d_number_paper_text.g
theorem Txt.g_number_in (T : Txt K mg i_NoText) : mg "number_in" = some (.ref (adOf mg "number_in")) := T.d_number_in.g
theorem Txt.g_node_in (T : Txt K mg i_NoText) : mg "node_in" = some (.ref (adOf mg "node_in")) := T.d_node_in.g
theorem Txt.g_nodes_in (T : Txt K mg i_NoText) : mg "nodes_in" = some (.ref (adOf mg "nodes_in")) := T.d_nodes_in.g
theorem Txt.g_numbers_in (T : Txt K mg i_NoText) : mg "numbers_in" = some (.ref (adOf mg "numbers_in")) := T.d_numbers_in.g
theorem Txt.g_sets_in (T : Txt K mg i_NoText) : mg "sets_in" = some (.ref (adOf mg "sets_in")) := T.d_sets_in.g
theorem Txt.g_read_nodes (T : Txt K mg i_NoText) : mg "read_nodes" = some (.ref (adOf mg "read_nodes")) := T.d_read_nodes.g
theorem Txt.g_read_number_paper (T : Txt K mg i_NoText) : mg "read_number_paper" = some (.ref (adOf mg "read_number_paper")) := T.d_read_number_paper.g
theorem Txt.g_law_feed (T : Txt K mg i_NoText) : mg "_law_feed" = some (.ref (adOf mg "_law_feed")) := T.d_law_feed.g
theorem Txt.g_law_draw (T : Txt K mg i_NoText) : mg "_law_draw" = some (.ref (adOf mg "_law_draw")) := T.d_law_draw.g
theorem Txt.g_law_numbers (T : Txt K mg i_NoText) : mg "_law_numbers" = some (.ref (adOf mg "_law_numbers")) := T.d_law_numbers.g
theorem Txt.g_law_many (T : Txt K mg i_NoText) : mg "_law_many" = some (.ref (adOf mg "_law_many")) := T.d_law_many.g
theorem Txt.g_law_numbers_word (T : Txt K mg i_NoText) : mg "_law_numbers_word" = some (.ref (adOf mg "_law_numbers_word")) := T.d_law_numbers_word.g
theorem Txt.g_law_refused (T : Txt K mg i_NoText) : mg "_law_refused" = some (.ref (adOf mg "_law_refused")) := T.d_law_refused.g
theorem Txt.g_law (T : Txt K mg i_NoText) : mg "law" = some (.ref (adOf mg "law")) := T.d_law.g
theorem Txt.g_NoText (T : Txt K mg i_NoText) : mg "NoText" = some (.ref (adOf mg "NoText")) := T.NoText.g
theorem Txt.subok_NoText (T : Txt K mg i_NoText) {c : Str} {b : Bool} (h : sub_NoText c = some b) : PySem.W.exmOne K (.ref (adOf mg c)) (.ref (adOf mg "NoText")) = some b := by
  have e := sub_NoText_eq h
  subst e
  unfold sub_NoText at h
  rw [if_pos rfl] at h
  cases h
  exact T.ex_NoText
theorem ok_NoText (T : Txt K mg i_NoText) : IniD P w K mg base 1 i_NoText (adOf mg "NoText") "row" "word" :=
  T.NoText.ok sc_NoText fun cdv A outer s H E => pss_cons (ps_expr (pe_ownInit T.NoText.up (by rfl) (pa_cons (pv 0) pa_nil))) (pss_cons (ps_ost (pv 0) (pv 1)) (pss_one (ps_ost (pv 0) (pv 2))))
theorem ok_is_word (T : Txt K mg i_NoText) : Fd P w K mg base (nv (adOf mg)) 1 (adOf mg "is_word") 1 g_is_word :=
  T.d_is_word.ok sc_is_word fun cdv A outer s H E hr => (mss_cons (ms_if (mt_w (mw_or (mt_not (mt_val (me_callB crm_isi (by rfl) T.b_isinstance PyProof.Rows.boot_isinstance (ma_cons (me_var 0) (ma_cons (me_ty (by rfl) T.b_str PySem.Pv.boot_str) ma_nil))))) (mw_or1 (mt_not (mt_chain opm_le opm_le me_int (me_callB crm_len (by rfl) T.b_len PySem.boot_len (ma_cons (me_var 0) ma_nil)) (me_gint (by rfl) T.c_MOST_LETTERS)))))) (mss_one (ms_ret me_bl)) mss_nil)
  (mss_one (ms_ret (me_callB (crm_all rfl) (by rfl) T.b_all PyProof.Rows.boot_all (ma_cons (me_lc (own := [("sign", 1)]) rfl sc_is_word.nd (mi_of (me_var 0)) (blkOk_by (own := [("sign", 1)]) (N := ["thing", "sign"]) (sc := defScope s_is_word) (by decide +kernel)) (fun _ _ _ _ _ => (mg_name 1 sc_is_word.nd rfl (by first | exact Or.inl rfl | exact Or.inr rfl) (by decide))) (fun _ _ _ _ _ => mts_nil) (fun _ _ _ _ _ => (me_cmp (opm_in hr.u65) (me_var 1) (me_gstr (by rfl) T.c_LETTERS)))) ma_nil)))))
theorem ok_row_word (T : Txt K mg i_NoText) : Fd P w K mg base (nv (adOf mg)) 1 (adOf mg "row_word") 1 g_row_word :=
  T.d_row_word.ok sc_row_word fun cdv A outer s H E hr => (mss_one (ms_ret (me_if (mt_cmp opm_gt (me_callB crm_len (by rfl) T.b_len PySem.boot_len (ma_cons (me_var 0) ma_nil)) me_int) (me_meth PySem.F.plainAttrs_str PySem.F.slot_str_join PySem.F.type_str_join mtm_join me_str (ma_cons (me_var 0) ma_nil)) (me_gstr (by rfl) T.c_VOID))))
theorem ok_nodes_word (T : Txt K mg i_NoText) : Fd P w K mg base (nv (adOf mg)) 2 (adOf mg "nodes_word") 1 g_nodes_word :=
  T.d_nodes_word.ok sc_nodes_word fun cdv A outer s H E hr => (mss_one (ms_ret (me_call (ok_row_word T) (hr.mono (by decide)) (by rfl) T.g_row_word (takesM rfl) (ma_cons (me_lc (own := [("sort", 1), ("word", 2)]) rfl sc_nodes_word.nd (mi_of (me_var 0)) (blkOk_by (own := [("sort", 1), ("word", 2)]) (N := ["nodes", "sort", "word"]) (sc := defScope s_nodes_word) (by decide +kernel)) (fun _ _ _ _ _ => (mg_tup rfl (mgs_cons (mg_name 1 sc_nodes_word.nd rfl (by first | exact Or.inl rfl | exact Or.inr rfl) (by decide)) (mgs_cons (mg_name 2 sc_nodes_word.nd rfl (by first | exact Or.inl rfl | exact Or.inr rfl) (by decide)) mgs_nil)))) (fun _ _ _ _ _ => mts_nil) (fun _ _ _ _ _ => (me_op opm_add (me_op opm_add (me_var 1) me_str) (me_var 2)))) ma_nil))))
theorem ok_numbers_word (T : Txt K mg i_NoText) : Fd P w K mg base (nv (adOf mg)) 2 (adOf mg "numbers_word") 1 g_numbers_word :=
  T.d_numbers_word.ok sc_numbers_word fun cdv A outer s H E hr => (mss_one (ms_ret (me_call (ok_row_word T) (hr.mono (by decide)) (by rfl) T.g_row_word (takesM rfl) (ma_cons (me_lc (own := [("number", 1)]) rfl sc_numbers_word.nd (mi_of (me_var 0)) (blkOk_by (own := [("number", 1)]) (N := ["numbers", "number"]) (sc := defScope s_numbers_word) (by decide +kernel)) (fun _ _ _ _ _ => (mg_name 1 sc_numbers_word.nd rfl (by first | exact Or.inl rfl | exact Or.inr rfl) (by decide))) (fun _ _ _ _ _ => mts_nil) (fun _ _ _ _ _ => (me_callTy crm_str (by rfl) T.b_str PySem.Pv.boot_str (ma_cons (me_var 1) ma_nil)))) ma_nil))))
theorem ok_number_paper_text (T : Txt K mg i_NoText) : Fd P w K mg base (nv (adOf mg)) 3 (adOf mg "number_paper_text") 1 g_number_paper_text :=
  T.d_number_paper_text.ok sc_number_paper_text fun cdv A outer s H E hr => (mss_cons (ms_asg (vs := [1, 2]) (me_var 0) (mg_tup rfl (mgs_cons (mg_name 1 sc_number_paper_text.nd rfl (by first | exact Or.inl rfl | exact Or.inr rfl) (by decide)) (mgs_cons (mg_name 2 sc_number_paper_text.nd rfl (by first | exact Or.inl rfl | exact Or.inr rfl) (by decide)) mgs_nil))))
  (mss_cons (ms_if (mt_cmp (opm_eq hr.u64) (me_var 1) me_str) (mss_one (ms_ret (me_op opm_add (me_op opm_add (me_var 1) me_str) (me_call (ok_numbers_word T) (hr.mono (by decide)) (by rfl) T.g_numbers_word (takesM rfl) (ma_cons (me_var 2) ma_nil))))) mss_nil)
  (mss_one (ms_ret (me_op opm_add (me_op opm_add (me_var 1) me_str) (me_if (mt_cmp opm_gt (me_callB crm_len (by rfl) T.b_len PySem.boot_len (ma_cons (me_var 2) ma_nil)) me_int) (me_meth PySem.F.plainAttrs_str PySem.F.slot_str_join PySem.F.type_str_join mtm_join me_str (ma_cons (me_lc (own := [("one", 3)]) rfl sc_number_paper_text.nd (mi_of (me_var 2)) (blkOk_by (own := [("one", 3)]) (N := ["paper", "sort", "things", "one"]) (sc := defScope s_number_paper_text) (by decide +kernel)) (fun _ _ _ _ _ => (mg_name 3 sc_number_paper_text.nd rfl (by first | exact Or.inl rfl | exact Or.inr rfl) (by decide))) (fun _ _ _ _ _ => mts_nil) (fun _ _ _ _ _ => (me_call (ok_numbers_word T) (hr.mono (by decide)) (by rfl) T.g_numbers_word takes0 (ma_cons (me_var 3) ma_nil)))) ma_nil)) (me_gstr (by rfl) T.c_NOTHING)))))))
theorem ok_number_in (T : Txt K mg i_NoText) : Fd P w K mg base (nv (adOf mg)) 1 (adOf mg "number_in") 3 g_number_in :=
  T.d_number_in.ok sc_number_in fun cdv A outer s H E hr => (mss_cons (ms_if (mt_w (mw_or (mt_not (mt_chain opm_le opm_le me_int (me_callB crm_len (by rfl) T.b_len PySem.boot_len (ma_cons (me_var 0) ma_nil)) (me_gint (by rfl) T.c_MOST_FIGURES))) (mw_or1 (mt_not (mt_val (me_callB (crm_all rfl) (by rfl) T.b_all PyProof.Rows.boot_all (ma_cons (me_lc (own := [("sign", 3)]) rfl sc_number_in.nd (mi_of (me_var 0)) (blkOk_by (own := [("sign", 3)]) (N := ["word", "least", "most", "sign"]) (sc := defScope s_number_in) (by decide +kernel)) (fun _ _ _ _ _ => (mg_name 3 sc_number_in.nd rfl (by first | exact Or.inl rfl | exact Or.inr rfl) (by decide))) (fun _ _ _ _ _ => mts_nil) (fun _ _ _ _ _ => (me_cmp (opm_in hr.u65) (me_var 3) (me_gstr (by rfl) T.c_FIGURES)))) ma_nil))))))) (mss_one (ms_ret me_non)) mss_nil)
  (mss_cons (ms_if (mt_w (mw_and (mt_cmp (opm_eq hr.u64) (me_ix (me_var 0) me_int) me_str) (mw_and1 (mt_cmp (opm_ne hr.u64) (me_var 0) me_str)))) (mss_one (ms_ret me_non)) mss_nil)
  (mss_one (ms_ret (me_if (mt_chain opm_le opm_le (me_var 1) (me_callTy crm_int (by rfl) T.b_int PySem.Pv.boot_int (ma_cons (me_var 0) ma_nil)) (me_var 2)) (me_callTy crm_int (by rfl) T.b_int PySem.Pv.boot_int (ma_cons (me_var 0) ma_nil)) me_non)))))
theorem ok_node_in (T : Txt K mg i_NoText) : Fd P w K mg base (nv (adOf mg)) 2 (adOf mg "node_in") 1 g_node_in :=
  T.d_node_in.ok sc_node_in fun cdv A outer s H E hr => (mss_cons (ms_asg (vs := [1, 2, 3]) (me_meth PySem.F.plainAttrs_str PySem.F.slot_str_partition PySem.F.type_str_partition mtm_part (me_var 0) (ma_cons me_str ma_nil)) (mg_tup rfl (mgs_cons (mg_name 1 sc_node_in.nd rfl (by first | exact Or.inl rfl | exact Or.inr rfl) (by decide)) (mgs_cons (mg_name 2 sc_node_in.nd rfl (by first | exact Or.inl rfl | exact Or.inr rfl) (by decide)) (mgs_cons (mg_name 3 sc_node_in.nd rfl (by first | exact Or.inl rfl | exact Or.inr rfl) (by decide)) mgs_nil)))))
  (mss_one (ms_ret (me_if (mt_w (mw_and (mt_cmp (opm_in hr.u65) (me_var 1) (me_tup (ma_cons me_str (ma_cons me_str ma_nil)))) (mw_and1 (mt_val (me_call (ok_is_word T) (hr.mono (by decide)) (by rfl) T.g_is_word (takesM rfl) (ma_cons (me_var 3) ma_nil)))))) (me_tup (ma_cons (me_var 1) (ma_cons (me_var 3) ma_nil))) me_non))))
theorem ok_nodes_in (T : Txt K mg i_NoText) : Fd P w K mg base (nv (adOf mg)) 3 (adOf mg "nodes_in") 1 g_nodes_in :=
  T.d_nodes_in.ok sc_nodes_in fun cdv A outer s H E hr => (mss_cons (ms_if (mt_cmp (opm_eq hr.u64) (me_var 0) (me_gstr (by rfl) T.c_VOID)) (mss_one (ms_ret (me_tup ma_nil))) mss_nil)
  (mss_cons (ms_set 1 sc_nodes_in.nd rfl (by first | exact Or.inl rfl | exact Or.inr rfl) (me_callTy crm_tuple (by rfl) T.b_tuple PySem.Pv.boot_tuple (ma_cons (me_lc (own := [("part", 2)]) rfl sc_nodes_in.nd (mi_of (me_meth PySem.F.plainAttrs_str PySem.F.slot_str_split PySem.F.type_str_split mtm_split (me_var 0) (ma_cons me_str ma_nil))) (blkOk_by (own := [("part", 2)]) (N := ["word", "found", "part"]) (sc := defScope s_nodes_in) (by decide +kernel)) (fun _ _ _ _ _ => (mg_name 2 sc_nodes_in.nd rfl (by first | exact Or.inl rfl | exact Or.inr rfl) (by decide))) (fun _ _ _ _ _ => mts_nil) (fun _ _ _ _ _ => (me_call (ok_node_in T) (hr.mono (by decide)) (by rfl) T.g_node_in takes0 (ma_cons (me_var 2) ma_nil)))) ma_nil)))
  (mss_one (ms_ret (me_if (mt_cmp (opm_in hr.u65) me_non (me_var 1)) me_non (me_var 1))))))
theorem ok_numbers_in (T : Txt K mg i_NoText) : Fd P w K mg base (nv (adOf mg)) 2 (adOf mg "numbers_in") 1 g_numbers_in :=
  T.d_numbers_in.ok sc_numbers_in fun cdv A outer s H E hr => (mss_cons (ms_if (mt_cmp (opm_eq hr.u64) (me_var 0) (me_gstr (by rfl) T.c_VOID)) (mss_one (ms_ret (me_tup ma_nil))) mss_nil)
  (mss_cons (ms_set 1 sc_numbers_in.nd rfl (by first | exact Or.inl rfl | exact Or.inr rfl) (me_callTy crm_tuple (by rfl) T.b_tuple PySem.Pv.boot_tuple (ma_cons (me_lc (own := [("part", 2)]) rfl sc_numbers_in.nd (mi_of (me_meth PySem.F.plainAttrs_str PySem.F.slot_str_split PySem.F.type_str_split mtm_split (me_var 0) (ma_cons me_str ma_nil))) (blkOk_by (own := [("part", 2)]) (N := ["word", "found", "part"]) (sc := defScope s_numbers_in) (by decide +kernel)) (fun _ _ _ _ _ => (mg_name 2 sc_numbers_in.nd rfl (by first | exact Or.inl rfl | exact Or.inr rfl) (by decide))) (fun _ _ _ _ _ => mts_nil) (fun _ _ _ _ _ => (me_call (ok_number_in T) (hr.mono (by decide)) (by rfl) T.g_number_in takes0 (ma_cons (me_var 2) (ma_cons me_int (ma_cons (me_gint (by rfl) T.c_GREATEST) ma_nil)))))) ma_nil)))
  (mss_one (ms_ret (me_if (mt_cmp (opm_in hr.u65) me_non (me_var 1)) me_non (me_var 1))))))
theorem ok_sets_in (T : Txt K mg i_NoText) : Fd P w K mg base (nv (adOf mg)) 3 (adOf mg "sets_in") 1 g_sets_in :=
  T.d_sets_in.ok sc_sets_in fun cdv A outer s H E hr => (mss_cons (ms_if (mt_cmp (opm_eq hr.u64) (me_var 0) (me_gstr (by rfl) T.c_NOTHING)) (mss_one (ms_ret (me_tup ma_nil))) mss_nil)
  (mss_cons (ms_set 1 sc_sets_in.nd rfl (by first | exact Or.inl rfl | exact Or.inr rfl) (me_callTy crm_tuple (by rfl) T.b_tuple PySem.Pv.boot_tuple (ma_cons (me_lc (own := [("part", 2)]) rfl sc_sets_in.nd (mi_of (me_meth PySem.F.plainAttrs_str PySem.F.slot_str_split PySem.F.type_str_split mtm_split (me_var 0) (ma_cons me_str ma_nil))) (blkOk_by (own := [("part", 2)]) (N := ["word", "found", "part"]) (sc := defScope s_sets_in) (by decide +kernel)) (fun _ _ _ _ _ => (mg_name 2 sc_sets_in.nd rfl (by first | exact Or.inl rfl | exact Or.inr rfl) (by decide))) (fun _ _ _ _ _ => mts_nil) (fun _ _ _ _ _ => (me_call (ok_numbers_in T) (hr.mono (by decide)) (by rfl) T.g_numbers_in takes0 (ma_cons (me_var 2) ma_nil)))) ma_nil)))
  (mss_one (ms_ret (me_if (mt_cmp (opm_in hr.u65) me_non (me_var 1)) me_non (me_var 1))))))
theorem ok_read_nodes (T : Txt K mg i_NoText) : Fd P w K mg base (nv (adOf mg)) 4 (adOf mg "read_nodes") 1 g_read_nodes :=
  T.d_read_nodes.ok sc_read_nodes fun cdv A outer s H E hr => (mss_cons (ms_set 1 sc_read_nodes.nd rfl (by first | exact Or.inl rfl | exact Or.inr rfl) (me_meth PySem.F.plainAttrs_str PySem.F.slot_str_split PySem.F.type_str_split mtm_split (me_var 0) (ma_cons me_str ma_nil)))
  (mss_cons (ms_set 2 sc_read_nodes.nd rfl (by first | exact Or.inl rfl | exact Or.inr rfl) (me_call (ok_nodes_in T) (hr.mono (by decide)) (by rfl) T.g_nodes_in (takesM rfl) (ma_cons (me_ix (me_var 1) me_int) ma_nil)))
  (mss_cons (ms_if (mt_cmp opm_is (me_var 2) me_non) (mss_one (ms_raiseE rfl (takesM rfl) T.NoText (ok_NoText T) (hr.mono (by decide)) (by rfl) rfl (ma_cons me_int (ma_cons me_int ma_nil)))) mss_nil)
  (mss_cons (ms_if (mt_cmp opm_gt (me_callB crm_len (by rfl) T.b_len PySem.boot_len (ma_cons (me_var 1) ma_nil)) me_int) (mss_one (ms_raiseE rfl (takesM rfl) T.NoText (ok_NoText T) (hr.mono (by decide)) (by rfl) rfl (ma_cons me_int (ma_cons me_int ma_nil)))) mss_nil)
  (mss_one (ms_ret (me_var 2)))))))
theorem ok_read_number_paper (T : Txt K mg i_NoText) : Fd P w K mg base (nv (adOf mg)) 4 (adOf mg "read_number_paper") 1 g_read_number_paper :=
  T.d_read_number_paper.ok sc_read_number_paper fun cdv A outer s H E hr => (mss_cons (ms_set 1 sc_read_number_paper.nd rfl (by first | exact Or.inl rfl | exact Or.inr rfl) (me_meth PySem.F.plainAttrs_str PySem.F.slot_str_split PySem.F.type_str_split mtm_split (me_var 0) (ma_cons me_str ma_nil)))
  (mss_cons (ms_if (mt_cmp (opm_notIn hr.u65) (me_ix (me_var 1) me_int) (me_tup (ma_cons me_str (ma_cons me_str ma_nil)))) (mss_one (ms_raiseE rfl (takesM rfl) T.NoText (ok_NoText T) (hr.mono (by decide)) (by rfl) rfl (ma_cons me_int (ma_cons me_int ma_nil)))) mss_nil)
  (mss_cons (ms_if (mt_cmp (opm_eq hr.u64) (me_callB crm_len (by rfl) T.b_len PySem.boot_len (ma_cons (me_var 1) ma_nil)) me_int) (mss_one (ms_raiseE rfl (takesM rfl) T.NoText (ok_NoText T) (hr.mono (by decide)) (by rfl) rfl (ma_cons me_int (ma_cons me_int ma_nil)))) mss_nil)
  (mss_cons (ms_set 2 sc_read_number_paper.nd rfl (by first | exact Or.inl rfl | exact Or.inr rfl) (me_if (mt_cmp (opm_eq hr.u64) (me_ix (me_var 1) me_int) me_str) (me_call (ok_numbers_in T) (hr.mono (by decide)) (by rfl) T.g_numbers_in (takesM rfl) (ma_cons (me_ix (me_var 1) me_int) ma_nil)) (me_call (ok_sets_in T) (hr.mono (by decide)) (by rfl) T.g_sets_in (takesM rfl) (ma_cons (me_ix (me_var 1) me_int) ma_nil))))
  (mss_cons (ms_if (mt_cmp opm_is (me_var 2) me_non) (mss_one (ms_raiseE rfl (takesM rfl) T.NoText (ok_NoText T) (hr.mono (by decide)) (by rfl) rfl (ma_cons me_int (ma_cons me_int ma_nil)))) mss_nil)
  (mss_cons (ms_if (mt_cmp opm_gt (me_callB crm_len (by rfl) T.b_len PySem.boot_len (ma_cons (me_var 1) ma_nil)) me_int) (mss_one (ms_raiseE rfl (takesM rfl) T.NoText (ok_NoText T) (hr.mono (by decide)) (by rfl) rfl (ma_cons me_int (ma_cons me_int ma_nil)))) mss_nil)
  (mss_one (ms_ret (me_tup (ma_cons (me_ix (me_var 1) me_int) (ma_cons (me_var 2) ma_nil)))))))))))
theorem ok_law_feed (T : Txt K mg i_NoText) : Fd P w K mg base (nv (adOf mg)) 1 (adOf mg "_law_feed") 1 g_law_feed :=
  T.d_law_feed.ok sc_law_feed fun cdv A outer s H E hr => (mss_one (ms_ret (me_lst (ma_cons (me_slice (me_var 0) mo_none (mo_some me_int)) (ma_cons me_int (ma_cons me_int (ma_cons me_int ma_nil)))))))
theorem ok_law_draw (T : Txt K mg i_NoText) : Fd P w K mg base (nv (adOf mg)) 1 (adOf mg "_law_draw") 2 g_law_draw :=
  T.d_law_draw.ok sc_law_draw fun cdv A outer s H E hr => (mss_cons (ms_if (mt_cmp opm_gt (me_ix (me_var 0) me_int) me_int) (mss_cons (ms_set 5 sc_law_draw.nd rfl (by first | exact Or.inl rfl | exact Or.inr rfl) (me_op opm_mod (me_ix (me_var 0) me_int) (me_var 1)))
  (mss_cons (ms_asg (vs := []) (me_op opm_fdiv (me_ix (me_var 0) me_int) (me_var 1)) (mg_sub (W := W0) (me_var 0) me_int))
  (mss_one (ms_ret (me_var 5))))) mss_nil)
  (mss_cons (ms_set 2 sc_law_draw.nd rfl (by first | exact Or.inl rfl | exact Or.inr rfl) (me_ix (me_var 0) me_int))
  (mss_cons (ms_asg (vs := []) (me_op opm_add (me_var 2) me_int) (mg_sub (W := W0) (me_var 0) me_int))
  (mss_cons (ms_asg (vs := []) (me_op opm_add (me_ix (me_var 0) me_int) me_int) (mg_sub (W := W0) (me_var 0) me_int))
  (mss_cons (ms_set 3 sc_law_draw.nd rfl (by first | exact Or.inl rfl | exact Or.inr rfl) (me_if (mt_cmp opm_gt (me_callB crm_len (by rfl) T.b_len PySem.boot_len (ma_cons (me_ix (me_var 0) me_int) ma_nil)) me_int) (me_ix (me_ix (me_var 0) me_int) (me_op opm_mod (me_var 2) (me_callB crm_len (by rfl) T.b_len PySem.boot_len (ma_cons (me_ix (me_var 0) me_int) ma_nil)))) me_int))
  (mss_cons (ms_if (mt_w (mw_and (mt_cmp opm_ge (me_var 3) (me_op opm_pow me_int me_int)) (mw_and1 (mt_cmp opm_lt (me_var 2) (me_callB crm_len (by rfl) T.b_len PySem.boot_len (ma_cons (me_ix (me_var 0) me_int) ma_nil)))))) (mss_cons (ms_asg (vs := []) (me_op opm_fdiv (me_var 3) (me_var 1)) (mg_sub (W := W0) (me_var 0) me_int))
  (mss_one (ms_ret (me_op opm_mod (me_var 3) (me_var 1))))) mss_nil)
  (mss_cons (ms_set 4 sc_law_draw.nd rfl (by first | exact Or.inl rfl | exact Or.inr rfl) (me_op opm_mod (me_op opm_pow (me_op opm_add (me_op opm_add (me_op opm_mod (me_var 3) me_int) (me_op opm_mul me_int (me_ix (me_var 0) me_int))) me_int) me_int) me_int))
  (mss_one (ms_ret (me_op opm_mod (me_op opm_fdiv (me_op opm_mod (me_op opm_pow (me_op opm_add (me_var 4) (me_op opm_mul me_int (me_ix (me_var 0) me_int))) me_int) me_int) me_int) (me_var 1)))))))))))
theorem ok_law_numbers (T : Txt K mg i_NoText) : Fd P w K mg base (nv (adOf mg)) 2 (adOf mg "_law_numbers") 2 g_law_numbers :=
  T.d_law_numbers.ok sc_law_numbers fun cdv A outer s H E hr => (mss_one (ms_ret (me_callTy crm_tuple (by rfl) T.b_tuple PySem.Pv.boot_tuple (ma_cons (me_lc (own := [("k", 2)]) rfl sc_law_numbers.nd (mi_range1 (by rfl) T.b_range (ma_cons (me_var 1) ma_nil)) (blkOk_by (own := [("k", 2)]) (N := ["feed", "many", "k"]) (sc := defScope s_law_numbers) (by decide +kernel)) (fun _ _ _ _ _ => (mg_name 2 sc_law_numbers.nd rfl (by first | exact Or.inl rfl | exact Or.inr rfl) (by decide))) (fun _ _ _ _ _ => mts_nil) (fun _ _ _ _ _ => (me_ix (me_lst (ma_cons (me_call (ok_law_draw T) (hr.mono (by decide)) (by rfl) T.g_law_draw takes0 (ma_cons (me_var 0) (ma_cons me_int ma_nil))) (ma_cons me_int (ma_cons (me_op opm_sub (me_op opm_pow me_int me_int) me_int) ma_nil)))) (me_call (ok_law_draw T) (hr.mono (by decide)) (by rfl) T.g_law_draw takes0 (ma_cons (me_var 0) (ma_cons me_int ma_nil)))))) ma_nil))))
theorem ok_law_many (T : Txt K mg i_NoText) : Fd P w K mg base (nv (adOf mg)) 2 (adOf mg "_law_many") 1 g_law_many :=
  T.d_law_many.ok sc_law_many fun cdv A outer s H E hr => (mss_one (ms_ret (me_ix (me_lst (ma_cons (me_call (ok_law_draw T) (hr.mono (by decide)) (by rfl) T.g_law_draw (takesM rfl) (ma_cons (me_var 0) (ma_cons me_int ma_nil))) (ma_cons me_int ma_nil))) (me_callTy crm_int (by rfl) T.b_int PySem.Pv.boot_int (ma_cons (me_cmp (opm_eq hr.u64) (me_call (ok_law_draw T) (hr.mono (by decide)) (by rfl) T.g_law_draw (takesM rfl) (ma_cons (me_var 0) (ma_cons me_int ma_nil))) me_int) ma_nil)))))
theorem ok_law_numbers_word (T : Txt K mg i_NoText) : Fd P w K mg base (nv (adOf mg)) 1 (adOf mg "_law_numbers_word") 1 g_law_numbers_word :=
  T.d_law_numbers_word.ok sc_law_numbers_word fun cdv A outer s H E hr => (mss_one (ms_ret (me_if (mt_cmp (opm_ne hr.u64) (me_var 0) (me_tup ma_nil)) (me_meth PySem.F.plainAttrs_str PySem.F.slot_str_join PySem.F.type_str_join mtm_join me_str (ma_cons (me_lc (own := [("number", 1)]) rfl sc_law_numbers_word.nd (mi_of (me_var 0)) (blkOk_by (own := [("number", 1)]) (N := ["numbers", "number"]) (sc := defScope s_law_numbers_word) (by decide +kernel)) (fun _ _ _ _ _ => (mg_name 1 sc_law_numbers_word.nd rfl (by first | exact Or.inl rfl | exact Or.inr rfl) (by decide))) (fun _ _ _ _ _ => mts_nil) (fun _ _ _ _ _ => (me_callTy crm_str (by rfl) T.b_str PySem.Pv.boot_str (ma_cons (me_var 1) ma_nil)))) ma_nil)) me_str)))
theorem ftab_ok (T : Txt K mg i_NoText) : ∀ y n g, ftab y = some (n, g) → Fd P w K mg base (nv (adOf mg)) 4 (adOf mg y) n g := by
  intro y n g h
  unfold ftab at h
  by_cases e : y = "read_nodes"
  · subst e
    first
      | rw [if_pos rfl] at h
      | simp only [if_true] at h
    cases h
    exact (ok_read_nodes T).mono (by decide)
  rw [if_neg e] at h
  clear e
  by_cases e : y = "read_number_paper"
  · subst e
    first
      | rw [if_pos rfl] at h
      | simp only [if_true] at h
    cases h
    exact (ok_read_number_paper T).mono (by decide)
  rw [if_neg e] at h
  clear e
  cases h
theorem ok_law_refused (T : Txt K mg i_NoText) : Fd P w K mg base (nv (adOf mg)) 5 (adOf mg "_law_refused") 2 g_law_refused :=
  T.d_law_refused.ok sc_law_refused fun cdv A outer s H E hr => (mss_cons (ms_set 2 sc_law_refused.nd rfl (by first | exact Or.inl rfl | exact Or.inr rfl) me_non)
  (mss_cons (ms_try_as (i := 3) (sub := sub_NoText) (fsu := fun a _ fs => suite_law_refused a fs) rfl rfl sc_law_refused.nd rfl rfl ⟨rfl, by decide, Or.inl T.NoText.g⟩ (takesM rfl) (fun c b h => T.subok_NoText h) (fun W' pn xe tk po => (mss_one (ms_expr (me_callL (i := 0) (k := 4) (ftab_ok T) (hr.mono (by decide)) rfl (Or.inl rfl) tk (ma_cons (me_var 1) ma_nil))))) (fun a oe pn c dd fs hz hv hsub => by obtain rfl := sub_NoText_eq hsub; exact (mss_one (ms_set 2 sc_law_refused.nd rfl (by first | exact Or.inl rfl | exact Or.inr rfl) (me_tup (ma_cons (me_xf T.NoText.xf T.NoText.no1 hz hv (me_var 3)) (ma_cons (me_xf T.NoText.xf T.NoText.no2 hz hv (me_var 3)) ma_nil)))))) (fun a c fs ρ S _ => pure_law_refused a fs ρ S))
  (mss_one (ms_ret (me_var 2)))))
theorem okF_law (T : Txt K mg i_NoText) {fd : FuncData} (F : Fun K "law" "law" s_law (adOf mg "law") fd) : FnG P w K mg base 6 (adOf mg "law") fd ["script"] (spM ⟨K, nv (adOf mg)⟩ 1 g_law) :=
  Dn.okF F sc_law fun cdv A outer s H E hr => (mss_cons (ms_set 1 sc_law.nd rfl (by first | exact Or.inl rfl | exact Or.inr rfl) (me_call (ok_law_feed T) (hr.mono (by decide)) (by rfl) T.g_law_feed (takesM rfl) (ma_cons (me_var 0) ma_nil)))
  (mss_cons (ms_for (vs := [2]) (passes_of rfl) rfl (mi_range1 (by rfl) T.b_range (ma_cons me_int ma_nil)) (mg_name 2 sc_law.nd rfl (by first | exact Or.inl rfl | exact Or.inr rfl) (by decide))
  (mss_cons (ms_set 3 sc_law.nd rfl (by first | exact Or.inl rfl | exact Or.inr rfl) (me_lst ma_nil))
  (mss_cons (ms_for (vs := [4]) (passes_of rfl) rfl (mi_range1 (by rfl) T.b_range (ma_cons (me_call (ok_law_many T) (hr.mono (by decide)) (by rfl) T.g_law_many (takesM rfl) (ma_cons (me_var 1) ma_nil)) ma_nil)) (mg_name 4 sc_law.nd rfl (by first | exact Or.inl rfl | exact Or.inr rfl) (by decide))
  (mss_cons (ms_set 10 sc_law.nd rfl (by first | exact Or.inl rfl | exact Or.inr rfl) (me_ix (me_lst (ma_cons me_str (ma_cons me_str (ma_cons me_str (ma_cons me_str (ma_cons me_str (ma_cons me_str ma_nil))))))) (me_call (ok_law_draw T) (hr.mono (by decide)) (by rfl) T.g_law_draw (takesM rfl) (ma_cons (me_var 1) (ma_cons me_int ma_nil)))))
  (mss_one (ms_expr (me_meth PySem.F.plainAttrs_list PySem.F.slot_list_append PySem.F.type_list_append mtm_append (me_var 3) (ma_cons (me_tup (ma_cons (me_ix (me_lst (ma_cons me_str (ma_cons me_str ma_nil))) (me_call (ok_law_draw T) (hr.mono (by decide)) (by rfl) T.g_law_draw (takesM rfl) (ma_cons (me_var 1) (ma_cons me_int ma_nil)))) (ma_cons (me_var 10) ma_nil))) ma_nil))))))
  (mss_cons (ms_set 3 sc_law.nd rfl (by first | exact Or.inl rfl | exact Or.inr rfl) (me_callTy crm_tuple (by rfl) T.b_tuple PySem.Pv.boot_tuple (ma_cons (me_var 3) ma_nil)))
  (mss_cons (ms_set 5 sc_law.nd rfl (by first | exact Or.inl rfl | exact Or.inr rfl) (me_if (mt_cmp (opm_ne hr.u64) (me_var 3) (me_tup ma_nil)) (me_meth PySem.F.plainAttrs_str PySem.F.slot_str_join PySem.F.type_str_join mtm_join me_str (ma_cons (me_lc (own := [("sort", 15), ("word", 10)]) rfl sc_law.nd (mi_of (me_var 3)) (blkOk_by (own := [("sort", 15), ("word", 10)]) (N := ["script", "feed", "lap", "nodes", "k", "text", "way", "sets", "words", "texts", "word", "paper", "due", "kept", "one", "sort"]) (sc := defScope s_law) (by decide +kernel)) (fun _ _ _ _ _ => (mg_tup rfl (mgs_cons (mg_name 15 sc_law.nd rfl (by first | exact Or.inl rfl | exact Or.inr rfl) (by decide)) (mgs_cons (mg_name 10 sc_law.nd rfl (by first | exact Or.inl rfl | exact Or.inr rfl) (by decide)) mgs_nil)))) (fun _ _ _ _ _ => mts_nil) (fun _ _ _ _ _ => (me_op opm_add (me_op opm_add (me_var 15) me_str) (me_var 10)))) ma_nil)) me_str))
  (mss_cons (ms_if (mt_cmp (opm_ne hr.u64) (me_callB (crm_repr hr.g hr.u70) (by rfl) T.b_repr PyProof.Rows.boot_repr (ma_cons (me_tup (ma_cons (me_call (ok_nodes_word T) (hr.mono (by decide)) (by rfl) T.g_nodes_word (takesM rfl) (ma_cons (me_var 3) ma_nil)) (ma_cons (me_call (ok_read_nodes T) (hr.mono (by decide)) (by rfl) T.g_read_nodes (takesM rfl) (ma_cons (me_var 5) ma_nil)) ma_nil))) ma_nil)) (me_callB (crm_repr hr.g hr.u70) (by rfl) T.b_repr PyProof.Rows.boot_repr (ma_cons (me_tup (ma_cons (me_var 5) (ma_cons (me_var 3) ma_nil))) ma_nil))) (mss_one (ms_ret me_bl)) mss_nil)
  (mss_cons (ms_set 6 sc_law.nd rfl (by first | exact Or.inl rfl | exact Or.inr rfl) (me_tup (ma_cons me_str (ma_cons (me_call (ok_law_numbers T) (hr.mono (by decide)) (by rfl) T.g_law_numbers (takesM rfl) (ma_cons (me_var 1) (ma_cons (me_call (ok_law_many T) (hr.mono (by decide)) (by rfl) T.g_law_many (takesM rfl) (ma_cons (me_var 1) ma_nil)) ma_nil))) ma_nil))))
  (mss_cons (ms_set 7 sc_law.nd rfl (by first | exact Or.inl rfl | exact Or.inr rfl) (me_callTy crm_tuple (by rfl) T.b_tuple PySem.Pv.boot_tuple (ma_cons (me_lc (own := [("k", 4)]) rfl sc_law.nd (mi_range1 (by rfl) T.b_range (ma_cons (me_call (ok_law_many T) (hr.mono (by decide)) (by rfl) T.g_law_many (takesM rfl) (ma_cons (me_var 1) ma_nil)) ma_nil)) (blkOk_by (own := [("k", 4)]) (N := ["script", "feed", "lap", "nodes", "k", "text", "way", "sets", "words", "texts", "word", "paper", "due", "kept", "one", "sort"]) (sc := defScope s_law) (by decide +kernel)) (fun _ _ _ _ _ => (mg_name 4 sc_law.nd rfl (by first | exact Or.inl rfl | exact Or.inr rfl) (by decide))) (fun _ _ _ _ _ => mts_nil) (fun _ _ _ _ _ => (me_call (ok_law_numbers T) (hr.mono (by decide)) (by rfl) T.g_law_numbers takes0 (ma_cons (me_var 1) (ma_cons (me_call (ok_law_draw T) (hr.mono (by decide)) (by rfl) T.g_law_draw takes0 (ma_cons (me_var 1) (ma_cons me_int ma_nil))) ma_nil))))) ma_nil)))
  (mss_cons (ms_setLc (own := [("one", 14)]) 8 rfl sc_law.nd rfl rfl (sw_true rfl rfl rfl (by decide +kernel)) (mi_of (me_var 7)) (blkOk_by (own := [("one", 14)]) (N := ["script", "feed", "lap", "nodes", "k", "text", "way", "sets", "words", "texts", "word", "paper", "due", "kept", "one", "sort"]) (sc := defScope s_law) (by decide +kernel)) (fun _ _ _ _ _ => (mg_name 14 sc_law.nd rfl (by first | exact Or.inl rfl | exact Or.inr rfl) (by decide))) (fun _ _ _ _ _ => mts_nil) (fun _ _ _ _ _ => (me_call (ok_law_numbers_word T) (hr.mono (by decide)) (by rfl) T.g_law_numbers_word takes0 (ma_cons (me_var 14) ma_nil))))
  (mss_cons (ms_set 9 sc_law.nd rfl (by first | exact Or.inl rfl | exact Or.inr rfl) (me_lst (ma_cons (me_op opm_add me_str (me_call (ok_law_numbers_word T) (hr.mono (by decide)) (by rfl) T.g_law_numbers_word (takesM rfl) (ma_cons (me_ix (me_var 6) me_int) ma_nil))) (ma_cons (me_op opm_add me_str (me_if (mt_cmp (opm_ne hr.u64) (me_var 8) (me_lst ma_nil)) (me_meth PySem.F.plainAttrs_str PySem.F.slot_str_join PySem.F.type_str_join mtm_join me_str (ma_cons (me_var 8) ma_nil)) me_str)) ma_nil))))
  (mss_cons (ms_for (vs := [11, 12]) (passes_of rfl) rfl (mi_zip (by rfl) T.b_zip (ma_cons (me_tup (ma_cons (me_var 6) (ma_cons (me_tup (ma_cons me_str (ma_cons (me_var 7) ma_nil))) ma_nil))) (ma_cons (me_var 9) ma_nil))) (mg_tup rfl (mgs_cons (mg_name 11 sc_law.nd rfl (by first | exact Or.inl rfl | exact Or.inr rfl) (by decide)) (mgs_cons (mg_name 12 sc_law.nd rfl (by first | exact Or.inl rfl | exact Or.inr rfl) (by decide)) mgs_nil)))
  (mss_cons (ms_set 13 sc_law.nd rfl (by first | exact Or.inl rfl | exact Or.inr rfl) (me_callB (crm_repr hr.g hr.u70) (by rfl) T.b_repr PyProof.Rows.boot_repr (ma_cons (me_var 11) ma_nil)))
  (mss_cons (ms_if (mt_w (mw_or (mt_cmp (opm_ne hr.u64) (me_callB (crm_repr hr.g hr.u70) (by rfl) T.b_repr PyProof.Rows.boot_repr (ma_cons (me_tup (ma_cons (me_call (ok_number_paper_text T) (hr.mono (by decide)) (by rfl) T.g_number_paper_text (takesM rfl) (ma_cons (me_var 11) ma_nil)) (ma_cons (me_call (ok_read_number_paper T) (hr.mono (by decide)) (by rfl) T.g_read_number_paper (takesM rfl) (ma_cons (me_var 12) ma_nil)) ma_nil))) ma_nil)) (me_callB (crm_repr hr.g hr.u70) (by rfl) T.b_repr PyProof.Rows.boot_repr (ma_cons (me_tup (ma_cons (me_var 12) (ma_cons (me_var 11) ma_nil))) ma_nil))) (mw_or1 (mt_cmp (opm_ne hr.u64) (me_callB (crm_repr hr.g hr.u70) (by rfl) T.b_repr PyProof.Rows.boot_repr (ma_cons (me_var 11) ma_nil)) (me_var 13))))) (mss_one (ms_ret me_bl)) mss_nil)
  (mss_one (ms_if (mt_w (mw_or (mt_cmp (opm_ne hr.u64) (me_call (ok_law_refused T) (hr.mono (by decide)) (by rfl) T.g_law_refused (takesM rfl) (ma_cons (me_gfn (by rfl) T.g_read_number_paper) (ma_cons (me_op opm_add (me_var 12) me_str) ma_nil))) (me_tup (ma_cons me_int (ma_cons me_int ma_nil)))) (mw_or1 (mt_cmp (opm_ne hr.u64) (me_call (ok_law_refused T) (hr.mono (by decide)) (by rfl) T.g_law_refused (takesM rfl) (ma_cons (me_gfn (by rfl) T.g_read_nodes) (ma_cons (me_op opm_add (me_var 5) me_str) ma_nil))) (me_tup (ma_cons me_int (ma_cons me_int ma_nil))))))) (mss_one (ms_ret me_bl)) mss_nil)))))
  (mss_one (ms_if (mt_cmp (opm_ne hr.u64) (me_call (ok_law_refused T) (hr.mono (by decide)) (by rfl) T.g_law_refused (takesM rfl) (ma_cons (me_gfn (by rfl) T.g_read_number_paper) (ma_cons (me_ix (me_lst (ma_cons me_str (ma_cons me_str ma_nil))) (me_op opm_mod (me_var 2) me_int)) ma_nil))) (me_tup (ma_cons me_int (ma_cons me_int ma_nil)))) (mss_one (ms_ret me_bl)) mss_nil)))))))))))))
  (mss_one (ms_ret me_bl))))
end
end K75

/-! k75, the plain law: what the text's defs reckon -/
namespace K75
open PySem PySem.Spec L2 M2
open TL (tl)
/-! ### words -/
def lets : List Nat := tl ("abcdefghijklmnopqrstuvwxyz" : Str)
def figs : List Nat := tl ("0123456789" : Str)
theorem in_sign {c : Nat} {t : Str} {S : Store} : dIn (.str ⟨#[c]⟩) (.str t) S = some (.bl (decide (c ∈ tl t)), S) := rfl
/-- [sign in t for sign in x] -/
theorem signs_w {x t : Str} {S : Store} {Q : Da → Store → Prop} {E : Str → List (Str × Da) → Store → Prop} {n : Nat} {ρ : Ev} {fx : Ev → M Da} {src : Ev → M Src} (hsrc : src = srcE fx) (hx : ∀ S, fx ρ S = .ok (.str x) S) (hl : x.length ≤ 16777216) (hn : n < ρ.length)
    (k : ∀ T, Gr S T → Q (.ref T.length) (T ++ [.lst (((tl x).map fun c => decide (c ∈ tl t)).map Da.bl)])) :
    (compE [n] src (gSet n) tyes (op2 dIn (fun ρ => getV ρ n) (fun _ => pure (.str t))) ρ S).w Q E := by
  subst hsrc
  refine w_compM (α := Nat) (tl x) (fun c => .str ⟨#[c]⟩) (fun c => .bl (decide (c ∈ tl t))) (fun _ => True) (fun _ _ _ h => h) ?_ (sz16 (by rw [← TL.len_tl]; exact hl)) (fun c _ T gT => ?_) (fun T gT => ?_)
  · refine w_src ?_
    rw [hx]
    exact ⟨rfl, .refl, trivial⟩
  · refine ⟨rfl, ?_⟩
    have hn2 : n < (wipeR ρ [n]).length := by simp [wipeR, hn]
    have hv : ((wipeR ρ [n]).set n (some (.str ⟨#[c]⟩)))[n]? = some (some (.str ⟨#[c]⟩)) := List.getElem?_set_self hn2
    rw [w_op2, w_getV hv, w_pure, in_sign, oW_some]
    exact ⟨rfl, .refl⟩
  · have := k T gT
    rwa [List.map_map] at this
theorem all_true {l : List Bool} (h : ∀ b ∈ l, b = true) : l.all id = true := by
  rw [List.all_eq_true]
  exact fun b hb => h b hb
theorem p_is_word {x : Str} (h1 : 1 ≤ x.length) (h8 : x.length ≤ 8) (hl : ∀ c ∈ tl x, c ∈ lets) : Pu g_is_word [.str x] (.bl true) := fun S => by
  refine w_run ?_
  show (b_is_word [some (.str x), none] S).w _
  unfold b_is_word
  have e1 : cIsi [.str x, .ty "str"] S = some (.bl true, S) := by rfl
  have e2 : cLen [.str x] S = some (.int x.length, S) := len_str (by omega)
  simp only [w_seq, w_ite, w_tst, w_op2, w_ret, w_set, w_ifE, w_callE, w_callF, w_consA, w_nilA, w_pure, w_bAnd, w_bOr, w_bNot, w_chn, w_meth, w_tup, w_lst, oW_some, w_toB, w_isStr, gv0, gvS, List.set_cons_zero, List.set_cons_succ, w_nil, w_drop, app1, app2, app3, app4, w_evS, e1, e2, a_le, Bool.not_true, Bool.false_eq_true, if_false]
  have q1 : (1 : Int) ≤ (x.length : Int) := by omega
  have q2 : ((x.length : Nat) : Int) ≤ 8 := by omega
  simp only [q1, q2, decide_true, if_true, w_seq, w_ite, w_tst, w_op2, w_ret, w_set, w_ifE, w_callE, w_callF, w_consA, w_nilA, w_pure, w_bAnd, w_bOr, w_bNot, w_chn, w_meth, w_tup, w_lst, oW_some, w_toB, w_isStr, gv0, gvS, List.set_cons_zero, List.set_cons_succ, w_nil, w_drop, app1, app2, app3, app4, w_evS, Bool.not_true, Bool.false_eq_true, if_false]
  unfold c_is_word_1
  simp only [w_seq, w_ite, w_tst, w_op2, w_ret, w_set, w_ifE, w_callE, w_callF, w_consA, w_nilA, w_pure, w_bAnd, w_bOr, w_bNot, w_chn, w_meth, w_tup, w_lst, oW_some, w_toB, w_isStr, gv0, gvS, List.set_cons_zero, List.set_cons_succ, w_nil, w_drop, app1, app2, app3, app4, w_evS]
  refine signs_w rfl (x := x) (fun _ => rfl) (by omega) (by simp) fun T gT => ?_
  rw [all_at push_at2, oW_some]
  refine ⟨?_, gT.push⟩
  rw [all_true]
  intro b hb
  obtain ⟨c, hc, rfl⟩ := List.mem_map.mp hb
  exact decide_eq_true (hl c hc)
/-! ### numbers -/
theorem figs_all {c : Nat} (h : 48 ≤ c ∧ c ≤ 57) : c ∈ figs := by
  have : c = 48 ∨ c = 49 ∨ c = 50 ∨ c = 51 ∨ c = 52 ∨ c = 53 ∨ c = 54 ∨ c = 55 ∨ c = 56 ∨ c = 57 := by omega
  rcases this with h | h | h | h | h | h | h | h | h | h <;> subst h <;> decide
theorem eq_str {x y : Str} {S : Store} : dEq (.str x) (.str y) S = some (.bl (decide (x = y)), S) := rfl
theorem ne_str {x y : Str} {S : Store} : dNe (.str x) (.str y) S = some (.bl (!decide (x = y)), S) := rfl
theorem p_number_in {n : Nat} (h : n < 10 ^ 12) : Pu g_number_in [.str (numS n), .int 0, .int 1000000000000] (.int n) := fun S => by
  refine w_run ?_
  show (b_number_in [some (.str (numS n)), some (.int 0), some (.int 1000000000000), none] S).w _
  unfold b_number_in
  have hl := numS_len h
  have h1 : 1 ≤ (numS n).length := by
    rw [TL.len_tl, tl_numS]
    have := TL.numL_ne n
    cases e : TL.numL n with
    | nil => exact absurd e this
    | cons a q => simp
  have e2 : cLen [.str (numS n)] S = some (.int (numS n).length, S) := len_str (by omega)
  have q1 : (1 : Int) ≤ ((numS n).length : Int) := by omega
  have q2 : (((numS n).length : Nat) : Int) ≤ 12 := by omega
  simp only [w_seq, w_ite, w_tst, w_op2, w_ret, w_set, w_ifE, w_callE, w_callF, w_consA, w_nilA, w_pure, w_bAnd, w_bOr, w_bNot, w_chn, w_meth, w_tup, w_lst, oW_some, w_toB, w_isStr, gv0, gvS, List.set_cons_zero, List.set_cons_succ, w_nil, w_drop, app1, app2, app3, app4, w_evS, e2, a_le, q1, q2, decide_true, if_true, Bool.not_true, Bool.false_eq_true, if_false]
  refine signs_w rfl (x := numS n) (fun _ => rfl) (by omega) (by simp) fun T gT => ?_
  have at_ : ((tl (numS n)).map fun c => decide (c ∈ tl ("0123456789" : Str))).all id = true := by
    rw [all_true]
    intro b hb
    obtain ⟨c, hc, rfl⟩ := List.mem_map.mp hb
    rw [tl_numS] at hc
    exact decide_eq_true (figs_all (TL.numL_digits n c hc))
  rw [all_at push_at2, at_]
  have gT' := gT.push (o := .lst (((tl (numS n)).map fun c => decide (c ∈ tl ("0123456789" : Str))).map Da.bl))
  generalize T ++ [SO.lst (((tl (numS n)).map fun c => decide (c ∈ tl ("0123456789" : Str))).map Da.bl)] = T' at gT'
  simp only [w_seq, w_ite, w_tst, w_op2, w_ret, w_set, w_ifE, w_callE, w_callF, w_consA, w_nilA, w_pure, w_bAnd, w_bOr, w_bNot, w_chn, w_meth, w_tup, w_lst, oW_some, w_toB, w_isStr, gv0, gvS, List.set_cons_zero, List.set_cons_succ, w_nil, w_drop, app1, app2, app3, app4, w_evS, Bool.not_true, Bool.false_eq_true, if_false]
  -- no nought ahead
  unfold c_number_in_2
  obtain ⟨a, r, hr⟩ : ∃ a r, tl (numS n) = a :: r := by
    cases e : tl (numS n) with
    | nil => rw [TL.len_tl, e] at h1; simp at h1
    | cons a r => exact ⟨a, r, rfl⟩
  have ix0 : dIx (.str (numS n)) (.int 0) T' = some (.str ⟨#[a]⟩, T') := by
    show (if (numS n).length ≤ sizeLine then (atI (tl (numS n)) 0).map fun c => (Da.str ⟨#[c]⟩, T') else none) = _
    rw [if_pos (sz16 (by omega)), hr, show atI (a :: r) 0 = some a from atI_nat (j := 0) rfl]
    rfl
  have fin : (c_number_in_1 [some (.str (numS n)), some (.int 0), some (.int 1000000000000), none] T').w { nx := fun _ S' => Da.non = .int (n : Int) ∧ Gr S S', rt := fun d S' => d = .int (n : Int) ∧ Gr S S' } := by
    unfold c_number_in_1
    have i1 : cInt [.str (numS n)] T' = some (.int n, T') := int_of h
    have b0 : (0 : Int) ≤ (n : Int) := by omega
    have b1 : (n : Int) ≤ 1000000000000 := by
      have : n < 1000000000000 := h
      omega
    simp only [w_seq, w_ite, w_tst, w_op2, w_ret, w_set, w_ifE, w_callE, w_callF, w_consA, w_nilA, w_pure, w_bAnd, w_bOr, w_bNot, w_chn, w_meth, w_tup, w_lst, oW_some, w_toB, w_isStr, gv0, gvS, List.set_cons_zero, List.set_cons_succ, w_nil, w_drop, app1, app2, app3, app4, w_evS, i1, a_le, b0, b1, decide_true, if_true]
    exact ⟨trivial, gT'⟩
  simp only [w_seq, w_ite, w_tst, w_op2, w_ret, w_set, w_ifE, w_callE, w_callF, w_consA, w_nilA, w_pure, w_bAnd, w_bOr, w_bNot, w_chn, w_meth, w_tup, w_lst, oW_some, w_toB, w_isStr, gv0, gvS, List.set_cons_zero, List.set_cons_succ, w_nil, w_drop, app1, app2, app3, app4, w_evS, ix0, eq_str, ne_str]
  by_cases ha : (⟨#[a]⟩ : Str) = ("0" : Str)
  · have ha2 : a = 48 := by
      have := congrArg tl ha
      have e0 : tl ("0" : Str) = [48] := by decide
      rw [e0] at this
      have e1 : tl (⟨#[a]⟩ : Str) = [a] := rfl
      rw [e1] at this
      injection this
    subst ha2
    have n0 : n = 0 := numL_head n r (by rw [← tl_numS]; exact hr)
    have e3 : numS n = ("0" : Str) := by subst n0; decide
    simp only [ha, decide_true, if_true, e3, Bool.not_true, Bool.false_eq_true, if_false]
    rw [e3] at fin
    exact fin
  · simp only [ha, decide_false, Bool.false_eq_true, if_false]
    exact fin
theorem hd_ne {x y : Str} {a b : Nat} {r q : List Nat} (hx : tl x = a :: r) (hy : tl y = b :: q) (h : a ≠ b) : x ≠ y := fun e => by
  subst e
  rw [hx] at hy
  injection hy with e1 _
  exact h e1
theorem tl_comma : tl ("," : Str) = [44] := by decide
theorem tl_slash : tl ("/" : Str) = [47] := by decide
theorem tl_blank : tl (" " : Str) = [32] := by decide
theorem tl_dot : tl ("." : Str) = [46] := by decide
theorem tl_void : tl ("-" : Str) = [45] := by decide
/-- the text of numbers -/
def numsT (ns : List Nat) : Str := if ns = [] then ("-" : Str) else Txt.join ("," : Str) (ns.map numS)
def Nums (ns : List Nat) : Prop := ns.length ≤ 64 ∧ ∀ n ∈ ns, n < 10 ^ 12
def numsD (ns : List Nat) : Da := .tup (ns.map fun n : Nat => Da.int (n : Int))
theorem numsT_free {ns : List Nat} {c : Nat} (h : c < 44 ∨ c = 46 ∨ c = 47 ∨ 57 < c) : c ∉ tl (numsT ns) := by
  unfold numsT
  split
  · rw [tl_void]
    simp only [List.mem_singleton]
    omega
  · refine join_free (by rw [tl_comma]; simp only [List.mem_singleton]; omega) fun p hp => ?_
    obtain ⟨n, _, rfl⟩ := List.mem_map.mp hp
    rw [tl_numS]
    exact TL.numL_free (by omega)
theorem numsT_len {ns : List Nat} (h : Nums ns) : (numsT ns).length ≤ 64 * 13 := by
  unfold numsT
  split
  · decide
  · have := join_len ("," : Str) (B := 12) (ps := ns.map numS) fun p hp => by
      obtain ⟨n, hn, rfl⟩ := List.mem_map.mp hp
      exact numS_len (h.2 n hn)
    rw [List.length_map, show ("," : Str).length = 1 from rfl] at this
    have h1 := h.1
    omega
theorem numsT_head {n : Nat} {ns : List Nat} : ∃ a r, tl (numsT (n :: ns)) = a :: r ∧ 48 ≤ a ∧ a ≤ 57 := by
  unfold numsT
  rw [if_neg (by simp), TL.join_eq, TL.tl_join, List.map_cons, List.map_cons, tl_numS]
  cases e : TL.numL n with
  | nil => exact absurd e (TL.numL_ne n)
  | cons a q =>
    have hd : 48 ≤ a ∧ a ≤ 57 := TL.numL_digits n a (by rw [e]; simp)
    cases (ns.map numS).map tl with
    | nil => exact ⟨a, q, rfl, hd⟩
    | cons p ps => exact ⟨a, _, rfl, hd⟩
theorem nums_bd {ns : List Nat} (h : Nums ns) : BdD 1 2688 (numsD ns) := by
  refine (bd_tup (p := 0) (w := 41) (n := 64) (fun d hd => ?_) (by rw [List.length_map]; exact h.1)).mono (by decide) (by decide)
  obtain ⟨n, hn, rfl⟩ := List.mem_map.mp hd
  exact bd_int (h.2 n hn)
theorem none_nums (T : Store) {ns : List Nat} (h : Nums ns) : dIn .non (numsD ns) T = some (.bl false, T) := by
  refine none_in ((nums_bd h).sm (by decide) (by decide)) fun d hd => ?_
  obtain ⟨n, hn, rfl⟩ := List.mem_map.mp hd
  rfl
theorem p_numbers_in {ns : List Nat} (h : Nums ns) : Pu g_numbers_in [.str (numsT ns)] (numsD ns) := fun S => by
  refine w_run ?_
  show (b_numbers_in [some (.str (numsT ns)), none, none] S).w _
  unfold b_numbers_in
  cases ns with
  | nil =>
    have e : numsT [] = ("-" : Str) := rfl
    simp only [w_seq, w_ite, w_tst, w_op2, w_ret, w_set, w_ifE, w_callE, w_callF, w_consA, w_nilA, w_pure, w_bAnd, w_bOr, w_bNot, w_chn, w_meth, w_tup, w_lst, oW_some, w_toB, w_isStr, gv0, gvS, List.set_cons_zero, List.set_cons_succ, w_nil, w_drop, app1, app2, app3, app4, w_evS, e, eq_str, decide_true, if_true, tup0]
    exact ⟨rfl, .refl⟩
  | cons n ns =>
    obtain ⟨a, r, ha, h1, h2⟩ := numsT_head (n := n) (ns := ns)
    have hne : numsT (n :: ns) ≠ ("-" : Str) := hd_ne ha tl_void (by omega)
    have hl := numsT_len h
    have hs : hSplit (.str (numsT (n :: ns))) [.str ("," : Str)] S = some (.ref S.length, S ++ [.lst (((n :: ns).map numS).map Da.str)]) := by
      have es : Txt.split (numsT (n :: ns)) ("," : Str) = (n :: ns).map numS := by
        unfold numsT
        rw [if_neg (by simp)]
        refine TL.split_join (parts := (n :: ns).map numS) tl_comma (by decide +kernel) (by simp) fun p hp => ?_
        obtain ⟨m, _, rfl⟩ := List.mem_map.mp hp
        rw [tl_numS]
        exact TL.numL_free (by omega)
      rw [split_at (by decide) (by omega), es]
    simp only [w_seq, w_ite, w_tst, w_op2, w_ret, w_set, w_ifE, w_callE, w_callF, w_consA, w_nilA, w_pure, w_bAnd, w_bOr, w_bNot, w_chn, w_meth, w_tup, w_lst, oW_some, w_toB, w_isStr, gv0, gvS, List.set_cons_zero, List.set_cons_succ, w_nil, w_drop, app1, app2, app3, app4, w_evS, eq_str, hne, decide_false, Bool.false_eq_true, if_false]
    unfold c_numbers_in_2
    simp only [w_seq, w_ite, w_tst, w_op2, w_ret, w_set, w_ifE, w_callE, w_callF, w_consA, w_nilA, w_pure, w_bAnd, w_bOr, w_bNot, w_chn, w_meth, w_tup, w_lst, oW_some, w_toB, w_isStr, gv0, gvS, List.set_cons_zero, List.set_cons_succ, w_nil, w_drop, app1, app2, app3, app4, w_evS]
    refine w_compM (α := Nat) (n :: ns) (fun m => .str (numS m)) (fun m => .int (m : Int)) (fun T => T[S.length]? = some (.lst (((n :: ns).map numS).map Da.str))) (fun _ _ g e => g.at_ e) ?_ (sz16 (by have := h.1; omega)) (fun m hm T gT => ?_) (fun T gT => ?_)
    · refine w_src ?_
      simp only [w_seq, w_ite, w_tst, w_op2, w_ret, w_set, w_ifE, w_callE, w_callF, w_consA, w_nilA, w_pure, w_bAnd, w_bOr, w_bNot, w_chn, w_meth, w_tup, w_lst, oW_some, w_toB, w_isStr, gv0, gvS, List.set_cons_zero, List.set_cons_succ, w_nil, w_drop, app1, app2, app3, app4, w_evS, hs, items_ref push_at2]
      exact ⟨by rw [List.map_map]; rfl, Gr.refl.push, push_at2⟩
    · refine ⟨rfl, ?_⟩
      simp only [wipeR, w_seq, w_ite, w_tst, w_op2, w_ret, w_set, w_ifE, w_callE, w_callF, w_consA, w_nilA, w_pure, w_bAnd, w_bOr, w_bNot, w_chn, w_meth, w_tup, w_lst, oW_some, w_toB, w_isStr, gv0, gvS, List.set_cons_zero, List.set_cons_succ, w_nil, w_drop, app1, app2, app3, app4, w_evS]
      exact p_number_in (h.2 m hm) T
    · simp only [w_seq, w_ite, w_tst, w_op2, w_ret, w_set, w_ifE, w_callE, w_callF, w_consA, w_nilA, w_pure, w_bAnd, w_bOr, w_bNot, w_chn, w_meth, w_tup, w_lst, oW_some, w_toB, w_isStr, gv0, gvS, List.set_cons_zero, List.set_cons_succ, w_nil, w_drop, app1, app2, app3, app4, w_evS, ctup_at push_at2]
      unfold c_numbers_in_1
      have hn := none_nums (T ++ [.lst ((n :: ns).map fun m : Nat => Da.int (m : Int))]) h
      unfold numsD at hn
      simp only [w_seq, w_ite, w_tst, w_op2, w_ret, w_set, w_ifE, w_callE, w_callF, w_consA, w_nilA, w_pure, w_bAnd, w_bOr, w_bNot, w_chn, w_meth, w_tup, w_lst, oW_some, w_toB, w_isStr, gv0, gvS, List.set_cons_zero, List.set_cons_succ, w_nil, w_drop, app1, app2, app3, app4, w_evS, hn, Bool.false_eq_true, if_false]
      exact ⟨rfl, gT.push⟩
/-! ### sets -/
def setsT (ss : List (List Nat)) : Str := if ss = [] then ("." : Str) else Txt.join ("/" : Str) (ss.map numsT)
def setsD (ss : List (List Nat)) : Da := .tup (ss.map numsD)
def Sets (ss : List (List Nat)) : Prop := ss.length ≤ 64 ∧ ∀ s ∈ ss, Nums s
theorem setsT_len {ss : List (List Nat)} (h : Sets ss) : (setsT ss).length ≤ 64 * 833 := by
  unfold setsT
  split
  · decide
  · have := join_len ("/" : Str) (B := 832) (ps := ss.map numsT) fun p hp => by
      obtain ⟨n, hn, rfl⟩ := List.mem_map.mp hp
      exact numsT_len (h.2 n hn)
    rw [List.length_map, show ("/" : Str).length = 1 from rfl] at this
    have h1 := h.1
    omega
theorem setsT_free {ss : List (List Nat)} {c : Nat} (h : c < 44 ∨ 57 < c) : c ∉ tl (setsT ss) := by
  unfold setsT
  split
  · rw [tl_dot]
    simp only [List.mem_singleton]
    omega
  · refine join_free (by rw [tl_slash]; simp only [List.mem_singleton]; omega) fun p hp => ?_
    obtain ⟨n, _, rfl⟩ := List.mem_map.mp hp
    exact numsT_free (by omega)
theorem numsT_head' (ns : List Nat) : ∃ a r, tl (numsT ns) = a :: r ∧ a ≠ 46 := by
  cases ns with
  | nil => exact ⟨45, [], tl_void, by decide⟩
  | cons n ns =>
    obtain ⟨a, r, e, h1, h2⟩ := numsT_head (n := n) (ns := ns)
    exact ⟨a, r, e, by omega⟩
theorem setsT_head {s : List Nat} {ss : List (List Nat)} : ∃ a r, tl (setsT (s :: ss)) = a :: r ∧ a ≠ 46 := by
  unfold setsT
  rw [if_neg (by simp), TL.join_eq, TL.tl_join, List.map_cons, List.map_cons]
  obtain ⟨a, q, e, hd⟩ := numsT_head' s
  rw [e]
  cases (ss.map numsT).map tl with
  | nil => exact ⟨a, q, rfl, hd⟩
  | cons p ps => exact ⟨a, _, rfl, hd⟩
theorem sets_bd {ss : List (List Nat)} (h : Sets ss) : BdD 2 172096 (setsD ss) := by
  refine (bd_tup (p := 1) (w := 2688) (n := 64) (fun d hd => ?_) (by rw [List.length_map]; exact h.1)).mono (by decide) (by decide)
  obtain ⟨n, hn, rfl⟩ := List.mem_map.mp hd
  exact nums_bd (h.2 n hn)
theorem p_sets_in {ss : List (List Nat)} (h : Sets ss) : Pu g_sets_in [.str (setsT ss)] (setsD ss) := fun S => by
  refine w_run ?_
  show (b_sets_in [some (.str (setsT ss)), none, none] S).w _
  unfold b_sets_in
  cases ss with
  | nil =>
    have e : setsT [] = ("." : Str) := rfl
    simp only [w_seq, w_ite, w_tst, w_op2, w_ret, w_set, w_ifE, w_callE, w_callF, w_consA, w_nilA, w_pure, w_bAnd, w_bOr, w_bNot, w_chn, w_meth, w_tup, w_lst, oW_some, w_toB, w_isStr, gv0, gvS, List.set_cons_zero, List.set_cons_succ, w_nil, w_drop, app1, app2, app3, app4, w_evS, e, eq_str, decide_true, if_true, tup0]
    exact ⟨rfl, .refl⟩
  | cons n ns =>
    obtain ⟨a, r, ha, h1⟩ := setsT_head (s := n) (ss := ns)
    have hne : setsT (n :: ns) ≠ ("." : Str) := hd_ne ha tl_dot h1
    have hl := setsT_len h
    have hs : hSplit (.str (setsT (n :: ns))) [.str ("/" : Str)] S = some (.ref S.length, S ++ [.lst (((n :: ns).map numsT).map Da.str)]) := by
      have es : Txt.split (setsT (n :: ns)) ("/" : Str) = (n :: ns).map numsT := by
        unfold setsT
        rw [if_neg (by simp)]
        refine TL.split_join (parts := (n :: ns).map numsT) tl_slash (by decide +kernel) (by simp) fun p hp => ?_
        obtain ⟨m, _, rfl⟩ := List.mem_map.mp hp
        exact numsT_free (by omega)
      rw [split_at (by decide) (by omega), es]
    simp only [w_seq, w_ite, w_tst, w_op2, w_ret, w_set, w_ifE, w_callE, w_callF, w_consA, w_nilA, w_pure, w_bAnd, w_bOr, w_bNot, w_chn, w_meth, w_tup, w_lst, oW_some, w_toB, w_isStr, gv0, gvS, List.set_cons_zero, List.set_cons_succ, w_nil, w_drop, app1, app2, app3, app4, w_evS, eq_str, hne, decide_false, Bool.false_eq_true, if_false]
    unfold c_sets_in_2
    simp only [w_seq, w_ite, w_tst, w_op2, w_ret, w_set, w_ifE, w_callE, w_callF, w_consA, w_nilA, w_pure, w_bAnd, w_bOr, w_bNot, w_chn, w_meth, w_tup, w_lst, oW_some, w_toB, w_isStr, gv0, gvS, List.set_cons_zero, List.set_cons_succ, w_nil, w_drop, app1, app2, app3, app4, w_evS]
    refine w_compM (α := List Nat) (n :: ns) (fun m => .str (numsT m)) numsD (fun T => T[S.length]? = some (.lst (((n :: ns).map numsT).map Da.str))) (fun _ _ g e => g.at_ e) ?_ (sz16 (by have := h.1; omega)) (fun m hm T gT => ?_) (fun T gT => ?_)
    · refine w_src ?_
      simp only [w_seq, w_ite, w_tst, w_op2, w_ret, w_set, w_ifE, w_callE, w_callF, w_consA, w_nilA, w_pure, w_bAnd, w_bOr, w_bNot, w_chn, w_meth, w_tup, w_lst, oW_some, w_toB, w_isStr, gv0, gvS, List.set_cons_zero, List.set_cons_succ, w_nil, w_drop, app1, app2, app3, app4, w_evS, hs, items_ref push_at2]
      exact ⟨by rw [List.map_map]; rfl, Gr.refl.push, push_at2⟩
    · refine ⟨rfl, ?_⟩
      simp only [wipeR, w_seq, w_ite, w_tst, w_op2, w_ret, w_set, w_ifE, w_callE, w_callF, w_consA, w_nilA, w_pure, w_bAnd, w_bOr, w_bNot, w_chn, w_meth, w_tup, w_lst, oW_some, w_toB, w_isStr, gv0, gvS, List.set_cons_zero, List.set_cons_succ, w_nil, w_drop, app1, app2, app3, app4, w_evS]
      exact p_numbers_in (h.2 m hm) T
    · simp only [w_seq, w_ite, w_tst, w_op2, w_ret, w_set, w_ifE, w_callE, w_callF, w_consA, w_nilA, w_pure, w_bAnd, w_bOr, w_bNot, w_chn, w_meth, w_tup, w_lst, oW_some, w_toB, w_isStr, gv0, gvS, List.set_cons_zero, List.set_cons_succ, w_nil, w_drop, app1, app2, app3, app4, w_evS, ctup_at push_at2]
      unfold c_sets_in_1
      have hn : dIn .non (.tup ((n :: ns).map numsD)) (T ++ [.lst ((n :: ns).map numsD)]) = some (.bl false, T ++ [.lst ((n :: ns).map numsD)]) := none_in ((sets_bd h).sm (by decide) (by decide)) fun d hd => by
        obtain ⟨m, _, rfl⟩ := List.mem_map.mp hd
        rfl
      simp only [w_seq, w_ite, w_tst, w_op2, w_ret, w_set, w_ifE, w_callE, w_callF, w_consA, w_nilA, w_pure, w_bAnd, w_bOr, w_bNot, w_chn, w_meth, w_tup, w_lst, oW_some, w_toB, w_isStr, gv0, gvS, List.set_cons_zero, List.set_cons_succ, w_nil, w_drop, app1, app2, app3, app4, w_evS, hn, Bool.false_eq_true, if_false]
      exact ⟨rfl, gT.push⟩
/-! ### nodes -/
def nodeT (p : Str × Str) : Str := p.1 ++ ("." : Str) ++ p.2
def nodeD (p : Str × Str) : Da := .tup [.str p.1, .str p.2]
def Node (p : Str × Str) : Prop := (p.1 = ("mend" : Str) ∨ p.1 = ("copy" : Str)) ∧ 1 ≤ p.2.length ∧ p.2.length ≤ 8 ∧ ∀ c ∈ tl p.2, c ∈ lets
theorem lets_in {c : Nat} (h : c ∈ lets) : 97 ≤ c ∧ c ≤ 122 := by
  have : ∀ c ∈ lets, 97 ≤ c ∧ c ≤ 122 := by decide
  exact this c h
theorem Node.sort {p : Str × Str} (h : Node p) : p.1.length = 4 ∧ (∀ c ∈ tl p.1, 97 ≤ c ∧ c ≤ 122) := by
  rcases h.1 with e | e <;> rw [e] <;> exact ⟨by decide, by decide⟩
theorem nodeT_free {p : Str × Str} (h : Node p) {c : Nat} (hc : c < 46) : c ∉ tl (nodeT p) := by
  unfold nodeT
  rw [TL.tl_append, TL.tl_append, tl_dot]
  simp only [List.mem_append, List.mem_singleton, not_or]
  refine ⟨⟨fun m => ?_, by omega⟩, fun m => ?_⟩
  · have := h.sort.2 c m
    omega
  · have := lets_in (h.2.2.2 c m)
    omega
theorem nodeT_len {p : Str × Str} (h : Node p) : (nodeT p).length ≤ 13 := by
  unfold nodeT
  rw [TL.len_tl, TL.tl_append, TL.tl_append, List.length_append, List.length_append, ← TL.len_tl, ← TL.len_tl, ← TL.len_tl, h.sort.1]
  have := h.2.2.1
  have : ("." : Str).length = 1 := rfl
  omega
theorem p_node_in {p : Str × Str} (h : Node p) : Pu g_node_in [.str (nodeT p)] (nodeD p) := fun S => by
  refine w_run ?_
  show (b_node_in [some (.str (nodeT p)), none, none, none] S).w _
  unfold b_node_in
  have hp : hPart (.str (nodeT p)) [.str ("." : Str)] S = some (.tup [.str p.1, .str ("." : Str), .str p.2], S) := by
    rw [part_at (by decide) (by have := nodeT_len h; omega)]
    have e : Txt.partition (nodeT p) ("." : Str) = (p.1, ("." : Str), p.2) := TL.partition_app tl_dot fun m => by
      have := h.sort.2 46 m
      omega
    rw [e]
  have ht : ∀ ρ : Ev, ∀ a b c : Da, gTupF 3 (gConsF (gSet 1) (gConsF (gSet 2) (gConsF (gSet 3) gNilF))) (.tup [a, b, c]) ρ S = some (((ρ.set 1 (some a)).set 2 (some b)).set 3 (some c), S) := fun ρ a b c => rfl
  simp only [w_seq, w_ite, w_tst, w_op2, w_ret, w_set, w_ifE, w_callE, w_callF, w_consA, w_nilA, w_pure, w_bAnd, w_bOr, w_bNot, w_chn, w_meth, w_tup, w_lst, oW_some, w_toB, w_isStr, gv0, gvS, List.set_cons_zero, List.set_cons_succ, w_nil, w_drop, app1, app2, app3, app4, w_evS, w_asg, hp, ht]
  unfold c_node_in_1
  have hi : dIn (.str p.1) (.tup [.str ("mend" : Str), .str ("copy" : Str)]) S = some (.bl true, S) := by
    rw [show ([.str ("mend" : Str), .str ("copy" : Str)] : List Da) = [("mend" : Str), ("copy" : Str)].map Da.str from rfl, in_strs ((bd_str (w := 8) (by rcases h.1 with e | e <;> rw [e] <;> decide +kernel) (by rw [h.sort.1]; decide)).sm (by decide) (by decide))
      ⟨by decide +kernel, by decide +kernel, by decide +kernel⟩]
    have : p.1 ∈ [("mend" : Str), ("copy" : Str)] := by
      rcases h.1 with e | e <;> rw [e] <;> simp
    rw [decide_eq_true this]
  simp only [w_seq, w_ite, w_tst, w_op2, w_ret, w_set, w_ifE, w_callE, w_callF, w_consA, w_nilA, w_pure, w_bAnd, w_bOr, w_bNot, w_chn, w_meth, w_tup, w_lst, oW_some, w_toB, w_isStr, gv0, gvS, List.set_cons_zero, List.set_cons_succ, w_nil, w_drop, app1, app2, app3, app4, w_evS, tup2, hi, if_true]
  refine (p_is_word h.2.1 h.2.2.1 h.2.2.2).go fun T gT => ?_
  simp only [w_seq, w_ite, w_tst, w_op2, w_ret, w_set, w_ifE, w_callE, w_callF, w_consA, w_nilA, w_pure, w_bAnd, w_bOr, w_bNot, w_chn, w_meth, w_tup, w_lst, oW_some, w_toB, w_isStr, gv0, gvS, List.set_cons_zero, List.set_cons_succ, w_nil, w_drop, app1, app2, app3, app4, w_evS, if_true, tup2]
  exact ⟨rfl, gT⟩
def nodesT (ns : List (Str × Str)) : Str := if ns = [] then ("-" : Str) else Txt.join ("," : Str) (ns.map nodeT)
def nodesD (ns : List (Str × Str)) : Da := .tup (ns.map nodeD)
def Nodes (ns : List (Str × Str)) : Prop := ns.length ≤ 64 ∧ ∀ p ∈ ns, Node p
theorem nodesT_len {ns : List (Str × Str)} (h : Nodes ns) : (nodesT ns).length ≤ 64 * 14 := by
  unfold nodesT
  split
  · decide
  · have := join_len ("," : Str) (B := 13) (ps := ns.map nodeT) fun p hp => by
      obtain ⟨n, hn, rfl⟩ := List.mem_map.mp hp
      exact nodeT_len (h.2 n hn)
    rw [List.length_map, show ("," : Str).length = 1 from rfl] at this
    have h1 := h.1
    omega
theorem nodesT_free {ns : List (Str × Str)} (h : Nodes ns) {c : Nat} (hc : c < 44) : c ∉ tl (nodesT ns) := by
  unfold nodesT
  split
  · rw [tl_void]
    simp only [List.mem_singleton]
    omega
  · refine join_free (by rw [tl_comma]; simp only [List.mem_singleton]; omega) fun p hp => ?_
    obtain ⟨n, hn, rfl⟩ := List.mem_map.mp hp
    exact nodeT_free (h.2 n hn) (by omega)
theorem nodesT_head {n : Str × Str} {ns : List (Str × Str)} (h : Node n) : ∃ a r, tl (nodesT (n :: ns)) = a :: r ∧ a ≠ 45 := by
  unfold nodesT
  rw [if_neg (by simp), TL.join_eq, TL.tl_join, List.map_cons, List.map_cons]
  obtain ⟨a, q, e, hd⟩ : ∃ a q, tl (nodeT n) = a :: q ∧ a ≠ 45 := by
    unfold nodeT
    rw [TL.tl_append, TL.tl_append, List.append_assoc]
    cases e : tl n.1 with
    | nil =>
      have := h.sort.1
      rw [TL.len_tl, e] at this
      cases this
    | cons a q =>
      have := h.sort.2 a (by rw [e]; simp)
      exact ⟨a, _, rfl, by omega⟩
  rw [e]
  cases (ns.map nodeT).map tl with
  | nil => exact ⟨a, q, rfl, hd⟩
  | cons p ps => exact ⟨a, _, rfl, hd⟩
theorem strOk_of {x : Str} (h : ∀ c ∈ tl x, c < 0x110000) : PyData.strOk x = true := by
  unfold PyData.strOk
  rw [Array.all_eq_true_iff_forall_mem]
  intro c hc
  exact decide_eq_true (h c (by simpa using hc))
theorem node_bd {p : Str × Str} (h : Node p) : BdD 1 18 (nodeD p) := by
  refine (bd_tup (p := 0) (w := 8) (n := 2) (fun d hd => ?_) (Nat.le_refl _)).mono (by decide) (by decide)
  simp only [List.mem_cons, List.not_mem_nil, or_false] at hd
  rcases hd with e | e
  · subst e
    exact bd_str (strOk_of fun c hc => by have := h.sort.2 c hc; omega) (by rw [h.sort.1]; decide)
  · subst e
    exact bd_str (strOk_of fun c hc => by have := lets_in (h.2.2.2 c hc); omega) h.2.2.1
theorem nodes_bd {ns : List (Str × Str)} (h : Nodes ns) : BdD 2 1216 (nodesD ns) := by
  refine (bd_tup (p := 1) (w := 18) (n := 64) (fun d hd => ?_) (by rw [List.length_map]; exact h.1)).mono (by decide) (by decide)
  obtain ⟨n, hn, rfl⟩ := List.mem_map.mp hd
  exact node_bd (h.2 n hn)
theorem p_nodes_in {ns : List (Str × Str)} (h : Nodes ns) : Pu g_nodes_in [.str (nodesT ns)] (nodesD ns) := fun S => by
  refine w_run ?_
  show (b_nodes_in [some (.str (nodesT ns)), none, none] S).w _
  unfold b_nodes_in
  cases ns with
  | nil =>
    have e : nodesT [] = ("-" : Str) := rfl
    simp only [w_seq, w_ite, w_tst, w_op2, w_ret, w_set, w_ifE, w_callE, w_callF, w_consA, w_nilA, w_pure, w_bAnd, w_bOr, w_bNot, w_chn, w_meth, w_tup, w_lst, oW_some, w_toB, w_isStr, gv0, gvS, List.set_cons_zero, List.set_cons_succ, w_nil, w_drop, app1, app2, app3, app4, w_evS, e, eq_str, decide_true, if_true, tup0]
    exact ⟨rfl, .refl⟩
  | cons n ns =>
    obtain ⟨a, r, ha, h1⟩ := nodesT_head (n := n) (ns := ns) (h.2 n (by simp))
    have hne : nodesT (n :: ns) ≠ ("-" : Str) := hd_ne ha tl_void h1
    have hl := nodesT_len h
    have hs : hSplit (.str (nodesT (n :: ns))) [.str ("," : Str)] S = some (.ref S.length, S ++ [.lst (((n :: ns).map nodeT).map Da.str)]) := by
      have es : Txt.split (nodesT (n :: ns)) ("," : Str) = (n :: ns).map nodeT := by
        unfold nodesT
        rw [if_neg (by simp)]
        refine TL.split_join (parts := (n :: ns).map nodeT) tl_comma (by decide +kernel) (by simp) fun p hp => ?_
        obtain ⟨m, hm, rfl⟩ := List.mem_map.mp hp
        exact nodeT_free (h.2 m hm) (by omega)
      rw [split_at (by decide) (by omega), es]
    simp only [w_seq, w_ite, w_tst, w_op2, w_ret, w_set, w_ifE, w_callE, w_callF, w_consA, w_nilA, w_pure, w_bAnd, w_bOr, w_bNot, w_chn, w_meth, w_tup, w_lst, oW_some, w_toB, w_isStr, gv0, gvS, List.set_cons_zero, List.set_cons_succ, w_nil, w_drop, app1, app2, app3, app4, w_evS, eq_str, hne, decide_false, Bool.false_eq_true, if_false]
    unfold c_nodes_in_2
    simp only [w_seq, w_ite, w_tst, w_op2, w_ret, w_set, w_ifE, w_callE, w_callF, w_consA, w_nilA, w_pure, w_bAnd, w_bOr, w_bNot, w_chn, w_meth, w_tup, w_lst, oW_some, w_toB, w_isStr, gv0, gvS, List.set_cons_zero, List.set_cons_succ, w_nil, w_drop, app1, app2, app3, app4, w_evS]
    refine w_compM (α := Str × Str) (n :: ns) (fun m => .str (nodeT m)) nodeD (fun T => T[S.length]? = some (.lst (((n :: ns).map nodeT).map Da.str))) (fun _ _ g e => g.at_ e) ?_ (sz16 (by have := h.1; omega)) (fun m hm T gT => ?_) (fun T gT => ?_)
    · refine w_src ?_
      simp only [w_seq, w_ite, w_tst, w_op2, w_ret, w_set, w_ifE, w_callE, w_callF, w_consA, w_nilA, w_pure, w_bAnd, w_bOr, w_bNot, w_chn, w_meth, w_tup, w_lst, oW_some, w_toB, w_isStr, gv0, gvS, List.set_cons_zero, List.set_cons_succ, w_nil, w_drop, app1, app2, app3, app4, w_evS, hs, items_ref push_at2]
      exact ⟨by rw [List.map_map]; rfl, Gr.refl.push, push_at2⟩
    · refine ⟨rfl, ?_⟩
      simp only [wipeR, w_seq, w_ite, w_tst, w_op2, w_ret, w_set, w_ifE, w_callE, w_callF, w_consA, w_nilA, w_pure, w_bAnd, w_bOr, w_bNot, w_chn, w_meth, w_tup, w_lst, oW_some, w_toB, w_isStr, gv0, gvS, List.set_cons_zero, List.set_cons_succ, w_nil, w_drop, app1, app2, app3, app4, w_evS]
      exact p_node_in (h.2 m hm) T
    · simp only [w_seq, w_ite, w_tst, w_op2, w_ret, w_set, w_ifE, w_callE, w_callF, w_consA, w_nilA, w_pure, w_bAnd, w_bOr, w_bNot, w_chn, w_meth, w_tup, w_lst, oW_some, w_toB, w_isStr, gv0, gvS, List.set_cons_zero, List.set_cons_succ, w_nil, w_drop, app1, app2, app3, app4, w_evS, ctup_at push_at2]
      unfold c_nodes_in_1
      have hn : dIn .non (.tup ((n :: ns).map nodeD)) (T ++ [.lst ((n :: ns).map nodeD)]) = some (.bl false, T ++ [.lst ((n :: ns).map nodeD)]) := none_in ((nodes_bd h).sm (by decide) (by decide)) fun d hd => by
        obtain ⟨m, _, rfl⟩ := List.mem_map.mp hd
        rfl
      simp only [w_seq, w_ite, w_tst, w_op2, w_ret, w_set, w_ifE, w_callE, w_callF, w_consA, w_nilA, w_pure, w_bAnd, w_bOr, w_bNot, w_chn, w_meth, w_tup, w_lst, oW_some, w_toB, w_isStr, gv0, gvS, List.set_cons_zero, List.set_cons_succ, w_nil, w_drop, app1, app2, app3, app4, w_evS, hn, Bool.false_eq_true, if_false]
      exact ⟨rfl, gT.push⟩
/-! ### reading -/
def noText (c : Str) (fs : List (Str × Da)) (k : Int) : Prop := c = ("NoText" : Str) ∧ fs = [(("word" : Str), .int k), (("row" : Str), .int 0)]
theorem read_nodes_w {t : Str} {ns : List (Str × Str)} {rest : List Str} {S : Store} (h : Nodes ns) (ht : t.length ≤ 100000) (hs : Txt.split t (" " : Str) = nodesT ns :: rest) :
    (g_read_nodes [.str t] S).w (fun d S' => rest = [] ∧ d = nodesD ns ∧ Gr S S') (fun c fs S' => rest ≠ [] ∧ noText c fs 1 ∧ Gr S S') := by
  refine w_run ?_
  show (b_read_nodes [some (.str t), none, none] S).w _
  unfold b_read_nodes
  have e1 : hSplit (.str t) [.str (" " : Str)] S = some (.ref S.length, S ++ [.lst ((nodesT ns :: rest).map Da.str)]) := by rw [split_at (by decide) (by omega), hs]
  have e2 : dIx (.ref S.length) (.int 0) (S ++ [.lst ((nodesT ns :: rest).map Da.str)]) = some (.str (nodesT ns), S ++ [.lst ((nodesT ns :: rest).map Da.str)]) := ix_at push_at2 (atI_nat (j := 0) rfl)
  simp only [w_seq, w_ite, w_tst, w_op2, w_ret, w_set, w_ifE, w_callE, w_callF, w_consA, w_nilA, w_pure, w_bAnd, w_bOr, w_bNot, w_chn, w_meth, w_tup, w_lst, oW_some, w_toB, w_isStr, gv0, gvS, List.set_cons_zero, List.set_cons_succ, w_nil, w_drop, app1, app2, app3, app4, w_evS, e1]
  unfold c_read_nodes_4
  simp only [w_seq, w_ite, w_tst, w_op2, w_ret, w_set, w_ifE, w_callE, w_callF, w_consA, w_nilA, w_pure, w_bAnd, w_bOr, w_bNot, w_chn, w_meth, w_tup, w_lst, oW_some, w_toB, w_isStr, gv0, gvS, List.set_cons_zero, List.set_cons_succ, w_nil, w_drop, app1, app2, app3, app4, w_evS, e2]
  refine (p_nodes_in h).go fun T gT => ?_
  have at_ := gT.at_ push_at2
  have g2 := (Gr.refl (S := S)).push.trans gT
  unfold c_read_nodes_3
  simp only [w_seq, w_ite, w_tst, w_op2, w_ret, w_set, w_ifE, w_callE, w_callF, w_consA, w_nilA, w_pure, w_bAnd, w_bOr, w_bNot, w_chn, w_meth, w_tup, w_lst, oW_some, w_toB, w_isStr, gv0, gvS, List.set_cons_zero, List.set_cons_succ, w_nil, w_drop, app1, app2, app3, app4, w_evS, a_is, show isNon (nodesD ns) = false from rfl, Bool.false_eq_true, if_false]
  unfold c_read_nodes_2
  simp only [w_seq, w_ite, w_tst, w_op2, w_ret, w_set, w_ifE, w_callE, w_callF, w_consA, w_nilA, w_pure, w_bAnd, w_bOr, w_bNot, w_chn, w_meth, w_tup, w_lst, oW_some, w_toB, w_isStr, gv0, gvS, List.set_cons_zero, List.set_cons_succ, w_nil, w_drop, app1, app2, app3, app4, w_evS, len_at at_, a_gt, List.length_map, List.length_cons]
  cases rest with
  | nil =>
    rw [if_neg (by simp)]
    unfold c_read_nodes_1
    simp only [w_seq, w_ite, w_tst, w_op2, w_ret, w_set, w_ifE, w_callE, w_callF, w_consA, w_nilA, w_pure, w_bAnd, w_bOr, w_bNot, w_chn, w_meth, w_tup, w_lst, oW_some, w_toB, w_isStr, gv0, gvS, List.set_cons_zero, List.set_cons_succ, w_nil, w_drop, app1, app2, app3, app4, w_evS]
    exact ⟨trivial, trivial, g2⟩
  | cons a r =>
    rw [if_pos (decide_eq_true (by simp only [List.length_cons]; omega)), w_raise2]
    simp only [w_seq, w_ite, w_tst, w_op2, w_ret, w_set, w_ifE, w_callE, w_callF, w_consA, w_nilA, w_pure, w_bAnd, w_bOr, w_bNot, w_chn, w_meth, w_tup, w_lst, oW_some, w_toB, w_isStr, gv0, gvS, List.set_cons_zero, List.set_cons_succ, w_nil, w_drop, app1, app2, app3, app4, w_evS]
    exact ⟨by simp, ⟨rfl, rfl⟩, g2⟩
theorem way_ne_bar : ("bar" : Str) ≠ ("way" : Str) := by decide
/-- way or bar, what stands behind it -/
inductive Pap where
  | way (ns : List Nat) | bar (ss : List (List Nat))
def Pap.kind : Pap → Str
  | .way _ => ("way" : Str)
  | .bar _ => ("bar" : Str)
def Pap.txt : Pap → Str
  | .way ns => numsT ns
  | .bar ss => setsT ss
def Pap.thing : Pap → Da
  | .way ns => numsD ns
  | .bar ss => setsD ss
def Pap.da (p : Pap) : Da := .tup [.str p.kind, p.thing]
def Pap.Ok : Pap → Prop
  | .way ns => Nums ns
  | .bar ss => Sets ss
theorem Pap.bd {p : Pap} (h : p.Ok) : BdD 2 172096 p.thing := by
  cases p with
  | way ns => exact (nums_bd h).mono (by decide) (by decide)
  | bar ss => exact sets_bd h
theorem kind_ok (p : Pap) : PyData.strOk p.kind = true ∧ p.kind.length ≤ 8 := by
  cases p with
  | way _ => exact (by decide +kernel : PyData.strOk ("way" : Str) = true ∧ ("way" : Str).length ≤ 8)
  | bar _ => exact (by decide +kernel : PyData.strOk ("bar" : Str) = true ∧ ("bar" : Str).length ≤ 8)
theorem kind_in (p : Pap) {T : Store} : dNotIn (.str p.kind) (.tup [.str ("way" : Str), .str ("bar" : Str)]) T = some (.bl false, T) := by
  rw [show ([.str ("way" : Str), .str ("bar" : Str)] : List Da) = [("way" : Str), ("bar" : Str)].map Da.str from rfl,
    notIn_strs ((bd_str (w := 8) (kind_ok p).1 (kind_ok p).2).sm (by decide) (by decide)) ⟨by decide +kernel, by decide +kernel, by decide +kernel⟩]
  have : p.kind ∈ [("way" : Str), ("bar" : Str)] := by cases p <;> simp [Pap.kind]
  rw [decide_eq_true this]
  rfl
/-- only the kind is there -/
theorem read_kind_w {t : Str} {p : Pap} {S : Store} (ht : t.length ≤ 100000) (hs : Txt.split t (" " : Str) = [p.kind]) :
    (g_read_number_paper [.str t] S).w (fun _ _ => False) (fun c fs S' => noText c fs 1 ∧ Gr S S') := by
  refine w_run ?_
  show (b_read_number_paper [some (.str t), none, none] S).w _
  unfold b_read_number_paper
  have e1 : hSplit (.str t) [.str (" " : Str)] S = some (.ref S.length, S ++ [.lst [.str p.kind]]) := by rw [split_at (by decide) (by omega), hs]; rfl
  have e2 : dIx (.ref S.length) (.int 0) (S ++ [.lst [.str p.kind]]) = some (.str p.kind, S ++ [.lst [.str p.kind]]) := ix_at push_at2 (atI_nat (j := 0) rfl)
  simp only [w_seq, w_ite, w_tst, w_op2, w_ret, w_set, w_ifE, w_callE, w_callF, w_consA, w_nilA, w_pure, w_bAnd, w_bOr, w_bNot, w_chn, w_meth, w_tup, w_lst, oW_some, w_toB, w_isStr, gv0, gvS, List.set_cons_zero, List.set_cons_succ, w_nil, w_drop, app1, app2, app3, app4, w_evS, e1]
  unfold c_read_number_paper_6
  simp only [w_seq, w_ite, w_tst, w_op2, w_ret, w_set, w_ifE, w_callE, w_callF, w_consA, w_nilA, w_pure, w_bAnd, w_bOr, w_bNot, w_chn, w_meth, w_tup, w_lst, oW_some, w_toB, w_isStr, gv0, gvS, List.set_cons_zero, List.set_cons_succ, w_nil, w_drop, app1, app2, app3, app4, w_evS, e2, tup2, kind_in, Bool.false_eq_true, if_false]
  unfold c_read_number_paper_5
  have e3 : dEq (.int (([Da.str p.kind] : List Da).length : Nat)) (.int 1) (S ++ [.lst [.str p.kind]]) = some (.bl true, S ++ [.lst [.str p.kind]]) := rfl
  simp only [w_seq, w_ite, w_tst, w_op2, w_ret, w_set, w_ifE, w_callE, w_callF, w_consA, w_nilA, w_pure, w_bAnd, w_bOr, w_bNot, w_chn, w_meth, w_tup, w_lst, oW_some, w_toB, w_isStr, gv0, gvS, List.set_cons_zero, List.set_cons_succ, w_nil, w_drop, app1, app2, app3, app4, w_evS, len_at push_at2, e3, if_true]
  rw [w_raise2]
  simp only [w_seq, w_ite, w_tst, w_op2, w_ret, w_set, w_ifE, w_callE, w_callF, w_consA, w_nilA, w_pure, w_bAnd, w_bOr, w_bNot, w_chn, w_meth, w_tup, w_lst, oW_some, w_toB, w_isStr, gv0, gvS, List.set_cons_zero, List.set_cons_succ, w_nil, w_drop, app1, app2, app3, app4, w_evS]
  exact ⟨⟨rfl, rfl⟩, Gr.refl.push⟩
theorem read_paper_w {t : Str} {p : Pap} {rest : List Str} {S : Store} (h : p.Ok) (ht : t.length ≤ 100000) (hs : Txt.split t (" " : Str) = p.kind :: p.txt :: rest) :
    (g_read_number_paper [.str t] S).w (fun d S' => rest = [] ∧ d = p.da ∧ Gr S S') (fun c fs S' => rest ≠ [] ∧ noText c fs 2 ∧ Gr S S') := by
  refine w_run ?_
  show (b_read_number_paper [some (.str t), none, none] S).w _
  unfold b_read_number_paper
  have e1 : hSplit (.str t) [.str (" " : Str)] S = some (.ref S.length, S ++ [.lst ((p.kind :: p.txt :: rest).map Da.str)]) := by rw [split_at (by decide) (by omega), hs]
  have at0 : ∀ T : Store, T[S.length]? = some (.lst ((p.kind :: p.txt :: rest).map Da.str)) → dIx (.ref S.length) (.int 0) T = some (.str p.kind, T) := fun T e => ix_at e (atI_nat (j := 0) rfl)
  have at1 : ∀ T : Store, T[S.length]? = some (.lst ((p.kind :: p.txt :: rest).map Da.str)) → dIx (.ref S.length) (.int 1) T = some (.str p.txt, T) := fun T e => ix_at e (atI_nat (j := 1) rfl)
  have h0 : (S ++ [SO.lst ((p.kind :: p.txt :: rest).map Da.str)])[S.length]? = some (.lst ((p.kind :: p.txt :: rest).map Da.str)) := push_at2
  have g0 : Gr S (S ++ [SO.lst ((p.kind :: p.txt :: rest).map Da.str)]) := Gr.refl.push
  simp only [w_seq, w_ite, w_tst, w_op2, w_ret, w_set, w_ifE, w_callE, w_callF, w_consA, w_nilA, w_pure, w_bAnd, w_bOr, w_bNot, w_chn, w_meth, w_tup, w_lst, oW_some, w_toB, w_isStr, gv0, gvS, List.set_cons_zero, List.set_cons_succ, w_nil, w_drop, app1, app2, app3, app4, w_evS, e1]
  unfold c_read_number_paper_6
  generalize S ++ [SO.lst ((p.kind :: p.txt :: rest).map Da.str)] = T0 at h0 g0 ⊢
  simp only [w_seq, w_ite, w_tst, w_op2, w_ret, w_set, w_ifE, w_callE, w_callF, w_consA, w_nilA, w_pure, w_bAnd, w_bOr, w_bNot, w_chn, w_meth, w_tup, w_lst, oW_some, w_toB, w_isStr, gv0, gvS, List.set_cons_zero, List.set_cons_succ, w_nil, w_drop, app1, app2, app3, app4, w_evS, at0 _ h0, tup2, kind_in, Bool.false_eq_true, if_false]
  unfold c_read_number_paper_5
  have e3 : ∀ k : Nat, dEq (.int ((k + 1 + 1 : Nat) : Int)) (.int 1) T0 = some (.bl false, T0) := fun k => by
    show some (Da.bl (decide (((k + 1 + 1 : Nat) : Int) = 1)), T0) = _
    rw [decide_eq_false (by omega)]
  simp only [w_seq, w_ite, w_tst, w_op2, w_ret, w_set, w_ifE, w_callE, w_callF, w_consA, w_nilA, w_pure, w_bAnd, w_bOr, w_bNot, w_chn, w_meth, w_tup, w_lst, oW_some, w_toB, w_isStr, gv0, gvS, List.set_cons_zero, List.set_cons_succ, w_nil, w_drop, app1, app2, app3, app4, w_evS, len_at h0, List.map_cons, List.length_cons, e3, Bool.false_eq_true, if_false]
  unfold c_read_number_paper_4
  have key : ∀ (P : SP), (∀ T, Gr T0 T → (c_read_number_paper_3 [some (.str t), some (.ref S.length), some p.thing] T).w P) →
      (seqS (setS 2 (ifE (tst (op2 dEq (op2 dIx (fun ρ => getV ρ 1) (fun _ => pure (.int 0))) (fun _ => pure (.str ("way" : Str))))) (callF 1 g_numbers_in (consA (op2 dIx (fun ρ => getV ρ 1) (fun _ => pure (.int 1))) nilA)) (callF 1 g_sets_in (consA (op2 dIx (fun ρ => getV ρ 1) (fun _ => pure (.int 1))) nilA))))
  c_read_number_paper_3 [some (.str t), some (.ref S.length), none] T0).w P := fun P k => by
    simp only [w_seq, w_ite, w_tst, w_op2, w_ret, w_set, w_ifE, w_callE, w_callF, w_consA, w_nilA, w_pure, w_bAnd, w_bOr, w_bNot, w_chn, w_meth, w_tup, w_lst, oW_some, w_toB, w_isStr, gv0, gvS, List.set_cons_zero, List.set_cons_succ, w_nil, w_drop, app1, app2, app3, app4, w_evS, at0 _ h0, eq_str]
    cases p with
    | way ns =>
      simp only [Pap.kind, decide_true, if_true, w_seq, w_ite, w_tst, w_op2, w_ret, w_set, w_ifE, w_callE, w_callF, w_consA, w_nilA, w_pure, w_bAnd, w_bOr, w_bNot, w_chn, w_meth, w_tup, w_lst, oW_some, w_toB, w_isStr, gv0, gvS, List.set_cons_zero, List.set_cons_succ, w_nil, w_drop, app1, app2, app3, app4, w_evS, at1 _ h0, Pap.txt]
      exact (p_numbers_in h).go k
    | bar ss =>
      simp only [Pap.kind, way_ne_bar, decide_false, Bool.false_eq_true, if_false, w_seq, w_ite, w_tst, w_op2, w_ret, w_set, w_ifE, w_callE, w_callF, w_consA, w_nilA, w_pure, w_bAnd, w_bOr, w_bNot, w_chn, w_meth, w_tup, w_lst, oW_some, w_toB, w_isStr, gv0, gvS, List.set_cons_zero, List.set_cons_succ, w_nil, w_drop, app1, app2, app3, app4, w_evS, at1 _ h0, Pap.txt]
      exact (p_sets_in h).go k
  refine key _ fun T gT => ?_
  have hT := gT.at_ h0
  have g2 := g0.trans gT
  unfold c_read_number_paper_3
  have en : isNon p.thing = false := by cases p <;> rfl
  simp only [w_seq, w_ite, w_tst, w_op2, w_ret, w_set, w_ifE, w_callE, w_callF, w_consA, w_nilA, w_pure, w_bAnd, w_bOr, w_bNot, w_chn, w_meth, w_tup, w_lst, oW_some, w_toB, w_isStr, gv0, gvS, List.set_cons_zero, List.set_cons_succ, w_nil, w_drop, app1, app2, app3, app4, w_evS, a_is, en, Bool.false_eq_true, if_false]
  unfold c_read_number_paper_2
  simp only [w_seq, w_ite, w_tst, w_op2, w_ret, w_set, w_ifE, w_callE, w_callF, w_consA, w_nilA, w_pure, w_bAnd, w_bOr, w_bNot, w_chn, w_meth, w_tup, w_lst, oW_some, w_toB, w_isStr, gv0, gvS, List.set_cons_zero, List.set_cons_succ, w_nil, w_drop, app1, app2, app3, app4, w_evS, len_at hT, a_gt, List.length_map, List.length_cons, List.map_cons]
  cases rest with
  | nil =>
    rw [if_neg (by simp)]
    unfold c_read_number_paper_1
    simp only [w_seq, w_ite, w_tst, w_op2, w_ret, w_set, w_ifE, w_callE, w_callF, w_consA, w_nilA, w_pure, w_bAnd, w_bOr, w_bNot, w_chn, w_meth, w_tup, w_lst, oW_some, w_toB, w_isStr, gv0, gvS, List.set_cons_zero, List.set_cons_succ, w_nil, w_drop, app1, app2, app3, app4, w_evS, at0 _ hT, tup2]
    exact ⟨trivial, rfl, g2⟩
  | cons a r =>
    rw [if_pos (decide_eq_true (by simp only [List.length_cons]; omega)), w_raise2]
    simp only [w_seq, w_ite, w_tst, w_op2, w_ret, w_set, w_ifE, w_callE, w_callF, w_consA, w_nilA, w_pure, w_bAnd, w_bOr, w_bNot, w_chn, w_meth, w_tup, w_lst, oW_some, w_toB, w_isStr, gv0, gvS, List.set_cons_zero, List.set_cons_succ, w_nil, w_drop, app1, app2, app3, app4, w_evS]
    exact ⟨by simp, ⟨rfl, rfl⟩, g2⟩
/-! ### writing -/
def rowT (xs : List Str) : Str := if xs = [] then ("-" : Str) else Txt.join ("," : Str) xs
theorem row_word_w {r : Nat} {xs : List Str} {S : Store} (h : S[r]? = some (.lst (xs.map Da.str))) (hl : xs.length ≤ 64) (hx : ∀ x ∈ xs, x.length ≤ 100) : (g_row_word [.ref r] S).w (fun d S' => d = .str (rowT xs) ∧ Gr S S') NoE := by
  refine w_run ?_
  show (b_row_word [some (.ref r)] S).w _
  unfold b_row_word
  have c1 : ("," : Str).length = 1 := rfl
  simp only [w_seq, w_ite, w_tst, w_op2, w_ret, w_set, w_ifE, w_callE, w_callF, w_consA, w_nilA, w_pure, w_bAnd, w_bOr, w_bNot, w_chn, w_meth, w_tup, w_lst, oW_some, w_toB, w_isStr, gv0, gvS, List.set_cons_zero, List.set_cons_succ, w_nil, w_drop, app1, app2, app3, app4, w_evS, len_at h, a_gt, List.length_map]
  cases xs with
  | nil => exact ⟨rfl, .refl⟩
  | cons a q =>
    rw [if_pos (decide_eq_true (by simp only [List.length_cons]; omega)), join_at h hx (by rw [c1]; omega), oW_some]
    exact ⟨rfl, .refl⟩
theorem p_nodes_word {ns : List (Str × Str)} (h : Nodes ns) : Pu g_nodes_word [nodesD ns] (.str (nodesT ns)) := fun S => by
  refine w_run ?_
  show (b_nodes_word [some (nodesD ns), none, none] S).w _
  unfold b_nodes_word
  simp only [w_seq, w_ite, w_tst, w_op2, w_ret, w_set, w_ifE, w_callE, w_callF, w_consA, w_nilA, w_pure, w_bAnd, w_bOr, w_bNot, w_chn, w_meth, w_tup, w_lst, oW_some, w_toB, w_isStr, gv0, gvS, List.set_cons_zero, List.set_cons_succ, w_nil, w_drop, app1, app2, app3, app4, w_evS]
  refine w_compM (α := Str × Str) ns nodeD (fun m => .str (nodeT m)) (fun _ => True) (fun _ _ _ h => h) ?_ (sz16 (by have := h.1; omega)) (fun m hm T gT => ?_) (fun T gT => ?_)
  · refine w_src ?_
    simp only [w_seq, w_ite, w_tst, w_op2, w_ret, w_set, w_ifE, w_callE, w_callF, w_consA, w_nilA, w_pure, w_bAnd, w_bOr, w_bNot, w_chn, w_meth, w_tup, w_lst, oW_some, w_toB, w_isStr, gv0, gvS, List.set_cons_zero, List.set_cons_succ, w_nil, w_drop, app1, app2, app3, app4, w_evS]
    exact ⟨rfl, .refl, trivial⟩
  · refine ⟨rfl, ?_⟩
    have l := nodeT_len (h.2 m hm)
    have s4 := (h.2 m hm).sort.1
    have s8 := (h.2 m hm).2.2.1
    have d1 : ("." : Str).length = 1 := rfl
    have q1 : dAdd (.str m.1) (.str ("." : Str)) T = some (.str (m.1 ++ ("." : Str)), T) := a_cat (by omega)
    have q2 : dAdd (.str (m.1 ++ ("." : Str))) (.str m.2) T = some (.str (nodeT m), T) := a_cat (by rw [TL.len_tl, TL.tl_append, List.length_append, ← TL.len_tl, ← TL.len_tl]; omega)
    simp only [wipeR, w_seq, w_ite, w_tst, w_op2, w_ret, w_set, w_ifE, w_callE, w_callF, w_consA, w_nilA, w_pure, w_bAnd, w_bOr, w_bNot, w_chn, w_meth, w_tup, w_lst, oW_some, w_toB, w_isStr, gv0, gvS, List.set_cons_zero, List.set_cons_succ, w_nil, w_drop, app1, app2, app3, app4, w_evS, q1, q2]
    exact ⟨trivial, .refl⟩
  · refine w_imp0 (row_word_w (r := T.length) (xs := ns.map nodeT) (by rw [List.map_map]; exact push_at2) (by rw [List.length_map]; exact h.1) fun x hx => ?_) fun d S' ⟨e, g⟩ => ⟨?_, gT.push.trans g⟩
    · obtain ⟨m, hm, rfl⟩ := List.mem_map.mp hx
      exact Nat.le_trans (nodeT_len (h.2 m hm)) (by decide)
    · rw [e]
      unfold rowT nodesT
      cases ns <;> rfl
theorem p_numbers_word {ns : List Nat} (h : Nums ns) : Pu g_numbers_word [numsD ns] (.str (numsT ns)) := fun S => by
  refine w_run ?_
  show (b_numbers_word [some (numsD ns), none] S).w _
  unfold b_numbers_word
  simp only [w_seq, w_ite, w_tst, w_op2, w_ret, w_set, w_ifE, w_callE, w_callF, w_consA, w_nilA, w_pure, w_bAnd, w_bOr, w_bNot, w_chn, w_meth, w_tup, w_lst, oW_some, w_toB, w_isStr, gv0, gvS, List.set_cons_zero, List.set_cons_succ, w_nil, w_drop, app1, app2, app3, app4, w_evS]
  refine w_compM (α := Nat) ns (fun n => .int (n : Int)) (fun m => .str (numS m)) (fun _ => True) (fun _ _ _ h => h) ?_ (sz16 (by have := h.1; omega)) (fun m hm T gT => ?_) (fun T gT => ?_)
  · refine w_src ?_
    simp only [w_seq, w_ite, w_tst, w_op2, w_ret, w_set, w_ifE, w_callE, w_callF, w_consA, w_nilA, w_pure, w_bAnd, w_bOr, w_bNot, w_chn, w_meth, w_tup, w_lst, oW_some, w_toB, w_isStr, gv0, gvS, List.set_cons_zero, List.set_cons_succ, w_nil, w_drop, app1, app2, app3, app4, w_evS]
    exact ⟨rfl, .refl, trivial⟩
  · refine ⟨rfl, ?_⟩
    simp only [wipeR, w_seq, w_ite, w_tst, w_op2, w_ret, w_set, w_ifE, w_callE, w_callF, w_consA, w_nilA, w_pure, w_bAnd, w_bOr, w_bNot, w_chn, w_meth, w_tup, w_lst, oW_some, w_toB, w_isStr, gv0, gvS, List.set_cons_zero, List.set_cons_succ, w_nil, w_drop, app1, app2, app3, app4, w_evS, str_num (h.2 m hm)]
    exact ⟨trivial, .refl⟩
  · refine w_imp0 (row_word_w (r := T.length) (xs := ns.map numS) (by rw [List.map_map]; exact push_at2) (by rw [List.length_map]; exact h.1) fun x hx => ?_) fun d S' ⟨e, g⟩ => ⟨?_, gT.push.trans g⟩
    · obtain ⟨m, hm, rfl⟩ := List.mem_map.mp hx
      exact Nat.le_trans (numS_len (h.2 m hm)) (by decide)
    · rw [e]
      unfold rowT numsT
      cases ns <;> rfl
/-- [numbers_word(one) for one in sets], joined -/
def papT (p : Pap) : Str := p.kind ++ (" " : Str) ++ p.txt
theorem kind_len (p : Pap) : p.kind.length = 3 := by cases p <;> rfl
theorem papT_len {p : Pap} (h : p.Ok) : (papT p).length ≤ 60000 := by
  have b1 : (" " : Str).length = 1 := rfl
  unfold papT
  rw [TL.len_tl, TL.tl_append, TL.tl_append, List.length_append, List.length_append, ← TL.len_tl, ← TL.len_tl, ← TL.len_tl, kind_len]
  cases p with
  | way ns =>
    have : (Pap.way ns).txt.length ≤ 64 * 13 := numsT_len h
    omega
  | bar ss =>
    have : (Pap.bar ss).txt.length ≤ 64 * 833 := setsT_len h
    omega
theorem txt_len {p : Pap} (h : p.Ok) : p.txt.length ≤ 53312 := by
  cases p with
  | way ns =>
    have : (Pap.way ns).txt.length ≤ 64 * 13 := numsT_len h
    omega
  | bar ss =>
    have : (Pap.bar ss).txt.length ≤ 64 * 833 := setsT_len h
    omega
theorem glue {x y : Str} {T : Store} {k : Str} (hx : x.length ≤ 60000) (hy : y.length ≤ 60000) : dAdd (.str x) (.str y) T = some (.str (x ++ y), T) := a_cat (by omega)
theorem p_number_paper_text {p : Pap} (h : p.Ok) : Pu g_number_paper_text [p.da] (.str (papT p)) := fun S => by
  refine w_run ?_
  show (b_number_paper_text [some p.da, none, none, none] S).w _
  unfold b_number_paper_text
  have ht : ∀ a b : Da, ∀ ρ : Ev, gTupF 2 (gConsF (gSet 1) (gConsF (gSet 2) gNilF)) (.tup [a, b]) ρ S = some ((ρ.set 1 (some a)).set 2 (some b), S) := fun a b ρ => rfl
  have b1 : (" " : Str).length = 1 := rfl
  have k3 := kind_len p
  have q1 : ∀ T : Store, dAdd (.str p.kind) (.str (" " : Str)) T = some (.str (p.kind ++ (" " : Str)), T) := fun T => a_cat (by omega)
  have l4 : (p.kind ++ (" " : Str)).length = 4 := by rw [TL.len_tl, TL.tl_append, List.length_append, ← TL.len_tl, ← TL.len_tl, k3, b1]
  have q2 : ∀ T : Store, dAdd (.str (p.kind ++ (" " : Str))) (.str p.txt) T = some (.str (papT p), T) := fun T => a_cat (by have := txt_len h; omega)
  unfold Pap.da
  simp only [w_seq, w_ite, w_tst, w_op2, w_ret, w_set, w_ifE, w_callE, w_callF, w_consA, w_nilA, w_pure, w_bAnd, w_bOr, w_bNot, w_chn, w_meth, w_tup, w_lst, oW_some, w_toB, w_isStr, gv0, gvS, List.set_cons_zero, List.set_cons_succ, w_nil, w_drop, app1, app2, app3, app4, w_evS, w_asg, ht]
  unfold c_number_paper_text_2
  simp only [w_seq, w_ite, w_tst, w_op2, w_ret, w_set, w_ifE, w_callE, w_callF, w_consA, w_nilA, w_pure, w_bAnd, w_bOr, w_bNot, w_chn, w_meth, w_tup, w_lst, oW_some, w_toB, w_isStr, gv0, gvS, List.set_cons_zero, List.set_cons_succ, w_nil, w_drop, app1, app2, app3, app4, w_evS, eq_str]
  cases p with
  | way ns =>
    simp only [Pap.kind, Pap.thing] at q1 q2 ⊢
    simp only [decide_true, if_true, w_seq, w_ite, w_tst, w_op2, w_ret, w_set, w_ifE, w_callE, w_callF, w_consA, w_nilA, w_pure, w_bAnd, w_bOr, w_bNot, w_chn, w_meth, w_tup, w_lst, oW_some, w_toB, w_isStr, gv0, gvS, List.set_cons_zero, List.set_cons_succ, w_nil, w_drop, app1, app2, app3, app4, w_evS, q1]
    refine (p_numbers_word h).go fun T gT => ?_
    rw [show numsT ns = (Pap.way ns).txt from rfl, q2, oW_some]
    exact ⟨rfl, gT⟩
  | bar ss =>
    simp only [Pap.kind, Pap.thing] at q1 q2 ⊢
    simp only [way_ne_bar, decide_false, Bool.false_eq_true, if_false]
    unfold c_number_paper_text_1
    have ln : cLen [setsD ss] S = some (.int ((ss.length : Nat) : Int), S) := by
      show some (Da.int (((ss.map numsD).length : Nat) : Int), S) = _
      rw [List.length_map]
    simp only [w_seq, w_ite, w_tst, w_op2, w_ret, w_set, w_ifE, w_callE, w_callF, w_consA, w_nilA, w_pure, w_bAnd, w_bOr, w_bNot, w_chn, w_meth, w_tup, w_lst, oW_some, w_toB, w_isStr, gv0, gvS, List.set_cons_zero, List.set_cons_succ, w_nil, w_drop, app1, app2, app3, app4, w_evS, q1, ln, a_gt]
    cases ss with
    | nil =>
      simp only [List.length_nil]
      exact ⟨rfl, .refl⟩
    | cons s ss =>
      rw [if_pos (decide_eq_true (by simp only [List.length_cons]; omega))]
      refine w_compM (α := List Nat) (s :: ss) numsD (fun m => .str (numsT m)) (fun _ => True) (fun _ _ _ h => h) ?_ (sz16 (by have := h.1; omega)) (fun m hm T gT => ?_) (fun T gT => ?_)
      · refine w_src ?_
        simp only [w_seq, w_ite, w_tst, w_op2, w_ret, w_set, w_ifE, w_callE, w_callF, w_consA, w_nilA, w_pure, w_bAnd, w_bOr, w_bNot, w_chn, w_meth, w_tup, w_lst, oW_some, w_toB, w_isStr, gv0, gvS, List.set_cons_zero, List.set_cons_succ, w_nil, w_drop, app1, app2, app3, app4, w_evS]
        exact ⟨rfl, .refl, trivial⟩
      · refine ⟨rfl, ?_⟩
        simp only [wipeR, w_seq, w_ite, w_tst, w_op2, w_ret, w_set, w_ifE, w_callE, w_callF, w_consA, w_nilA, w_pure, w_bAnd, w_bOr, w_bNot, w_chn, w_meth, w_tup, w_lst, oW_some, w_toB, w_isStr, gv0, gvS, List.set_cons_zero, List.set_cons_succ, w_nil, w_drop, app1, app2, app3, app4, w_evS]
        exact p_numbers_word (h.2 m hm) T
      · have at_ : (T ++ [SO.lst ((s :: ss).map fun m => Da.str (numsT m))])[T.length]? = some (.lst (((s :: ss).map numsT).map Da.str)) := by
          rw [List.map_map]
          exact push_at2
        have e : Txt.join ("/" : Str) ((s :: ss).map numsT) = (Pap.bar (s :: ss)).txt := rfl
        rw [join_at (B := 832) at_ (fun x hx => by
          obtain ⟨m, hm, rfl⟩ := List.mem_map.mp hx
          exact numsT_len (h.2 m hm)) (by rw [List.length_map, show ("/" : Str).length = 1 from rfl]; have := h.1; omega), oW_some, e, q2, oW_some]
        exact ⟨rfl, gT.push⟩
theorem ne_nil {ds : List Da} {S : Store} (h : SmD (.tup ds)) : dNe (.tup ds) (.tup []) S = some (.bl (!ds.isEmpty), S) := by
  rw [ne_tup h sm_nil]
  cases ds with
  | nil => rfl
  | cons d r => rfl
theorem p_law_numbers_word {ns : List Nat} (h : Nums ns) : Pu g_law_numbers_word [numsD ns] (.str (numsT ns)) := fun S => by
  refine w_run ?_
  show (b_law_numbers_word [some (numsD ns), none] S).w _
  unfold b_law_numbers_word
  have e1 : dNe (numsD ns) (.tup []) S = some (.bl (!(ns.map fun n : Nat => Da.int (n : Int)).isEmpty), S) := ne_nil ((nums_bd h).sm (by decide) (by decide))
  simp only [w_seq, w_ite, w_tst, w_op2, w_ret, w_set, w_ifE, w_callE, w_callF, w_consA, w_nilA, w_pure, w_bAnd, w_bOr, w_bNot, w_chn, w_meth, w_tup, w_lst, oW_some, w_toB, w_isStr, gv0, gvS, List.set_cons_zero, List.set_cons_succ, w_nil, w_drop, app1, app2, app3, app4, w_evS, tup0, e1]
  cases ns with
  | nil => exact ⟨rfl, .refl⟩
  | cons n ns =>
    rw [if_pos (show (!((n :: ns).map fun n : Nat => Da.int (n : Int)).isEmpty) = true from rfl)]
    refine w_compM (α := Nat) (n :: ns) (fun n => .int (n : Int)) (fun m => .str (numS m)) (fun _ => True) (fun _ _ _ h => h) ?_ (sz16 (by have := h.1; omega)) (fun m hm T gT => ?_) (fun T gT => ?_)
    · refine w_src ?_
      simp only [w_seq, w_ite, w_tst, w_op2, w_ret, w_set, w_ifE, w_callE, w_callF, w_consA, w_nilA, w_pure, w_bAnd, w_bOr, w_bNot, w_chn, w_meth, w_tup, w_lst, oW_some, w_toB, w_isStr, gv0, gvS, List.set_cons_zero, List.set_cons_succ, w_nil, w_drop, app1, app2, app3, app4, w_evS]
      exact ⟨rfl, .refl, trivial⟩
    · refine ⟨rfl, ?_⟩
      simp only [wipeR, w_seq, w_ite, w_tst, w_op2, w_ret, w_set, w_ifE, w_callE, w_callF, w_consA, w_nilA, w_pure, w_bAnd, w_bOr, w_bNot, w_chn, w_meth, w_tup, w_lst, oW_some, w_toB, w_isStr, gv0, gvS, List.set_cons_zero, List.set_cons_succ, w_nil, w_drop, app1, app2, app3, app4, w_evS, str_num (h.2 m hm)]
      exact ⟨trivial, .refl⟩
    · have at_ : (T ++ [SO.lst ((n :: ns).map fun m => Da.str (numS m))])[T.length]? = some (.lst (((n :: ns).map numS).map Da.str)) := by
        rw [List.map_map]
        exact push_at2
      rw [join_at (B := 12) at_ (fun x hx => by
          obtain ⟨m, hm, rfl⟩ := List.mem_map.mp hx
          exact numS_len (h.2 m hm)) (by rw [List.length_map, show ("," : Str).length = 1 from rfl]; have := h.1; omega), oW_some]
      exact ⟨rfl, gT.push⟩
/-! ### refusals -/
theorem refused_w {x : Str} {t : Str} {g : List Da → M Da} {k : Int} {S : Store} (hf : ftab x = some (1, g)) (h : (g [.str t] S).w (fun _ _ => False) (fun c fs S' => noText c fs k ∧ Gr S S')) : (g_law_refused [.fn x, .str t] S).w (fun d S' => d = .tup [.int 0, .int k] ∧ Gr S S') NoE := by
  refine w_run ?_
  show (b_law_refused [some (.fn x), some (.str t), none, none] S).w _
  unfold b_law_refused
  simp only [w_seq, w_ite, w_tst, w_op2, w_ret, w_set, w_ifE, w_callE, w_callF, w_consA, w_nilA, w_pure, w_bAnd, w_bOr, w_bNot, w_chn, w_meth, w_tup, w_lst, oW_some, w_toB, w_isStr, gv0, gvS, List.set_cons_zero, List.set_cons_succ, w_nil, w_drop, app1, app2, app3, app4, w_evS]
  unfold c_law_refused_2
  rw [w_seq]
  refine w_try ?_
  rw [w_drop, w_callLF (x := x) (g := g) rfl hf]
  simp only [w_seq, w_ite, w_tst, w_op2, w_ret, w_set, w_ifE, w_callE, w_callF, w_consA, w_nilA, w_pure, w_bAnd, w_bOr, w_bNot, w_chn, w_meth, w_tup, w_lst, oW_some, w_toB, w_isStr, gv0, gvS, List.set_cons_zero, List.set_cons_succ, w_nil, w_drop, app1, app2, app3, app4, w_evS]
  refine w_imp h (fun _ _ f => f.elim) fun c fs S1 ⟨⟨e1, e2⟩, g1⟩ => ?_
  subst e1; subst e2
  refine ⟨true, rfl, ?_⟩
  rw [if_pos rfl]
  refine w_unset ?_
  unfold suite_law_refused
  rw [w_set, w_tup, w_consA, w_attX (d := .int 0) rfl (by rfl), w_consA, w_attX (d := .int k) rfl (by rfl), w_nilA, tup2, oW_some]
  unfold c_law_refused_1
  simp only [w_seq, w_ite, w_tst, w_op2, w_ret, w_set, w_ifE, w_callE, w_callF, w_consA, w_nilA, w_pure, w_bAnd, w_bOr, w_bNot, w_chn, w_meth, w_tup, w_lst, oW_some, w_toB, w_isStr, gv0, gvS, List.set_cons_zero, List.set_cons_succ, w_nil, w_drop, app1, app2, app3, app4, w_evS]
  exact ⟨trivial, g1⟩
/-! ### draws -/
theorem pow12m : (10 : Int) ^ (12 : Int).toNat - 1 = 999999999999 := by decide
theorem numbers_w {r N : Nat} {m : Int} {S : Store} (h : FeedAt r (N + 128) S) (h0 : 0 ≤ m) (h64 : m ≤ 64) : (g_law_numbers [.ref r, .int m] S).w (fun d S' => ∃ ns, d = numsD ns ∧ Nums ns ∧ FeedAt r N S' ∧ Kp r S S') NoE := by
  refine w_run ?_
  show (b_law_numbers [some (.ref r), some (.int m), none] S).w _
  unfold b_law_numbers
  simp only [w_seq, w_ite, w_tst, w_op2, w_ret, w_set, w_ifE, w_callE, w_callF, w_consA, w_nilA, w_pure, w_bAnd, w_bOr, w_bNot, w_chn, w_meth, w_tup, w_lst, oW_some, w_toB, w_isStr, gv0, gvS, List.set_cons_zero, List.set_cons_succ, w_nil, w_drop, app1, app2, app3, app4, w_evS]
  refine w_compE (w_rng1 ?_)
  simp only [w_seq, w_ite, w_tst, w_op2, w_ret, w_set, w_ifE, w_callE, w_callF, w_consA, w_nilA, w_pure, w_bAnd, w_bOr, w_bNot, w_chn, w_meth, w_tup, w_lst, oW_some, w_toB, w_isStr, gv0, gvS, List.set_cons_zero, List.set_cons_succ, w_nil, w_drop, app1, app2, app3, app4, w_evS]
  refine ⟨m, rfl, h0, by omega, trivial, fun ds acc T => ∃ ns : List Nat, acc = ns.map (fun n : Nat => Da.int (n : Int)) ∧ (∀ n ∈ ns, n < 10 ^ 12) ∧ acc.length + ds.length = m.toNat ∧ FeedAt r (N + 2 * ds.length) T ∧ Kp r S T, ⟨[], rfl, by simp, ?_, ?_, .refl⟩, ?_, ?_⟩
  · simp [rngD]
  · refine h.less ?_
    simp only [rngD, List.length_map, List.length_range]
    omega
  · rintro acc T ⟨ns, rfl, hn, hl, f, kp⟩
    simp only [w_seq, w_ite, w_tst, w_op2, w_ret, w_set, w_ifE, w_callE, w_callF, w_consA, w_nilA, w_pure, w_bAnd, w_bOr, w_bNot, w_chn, w_meth, w_tup, w_lst, oW_some, w_toB, w_isStr, gv0, gvS, List.set_cons_zero, List.set_cons_succ, w_nil, w_drop, app1, app2, app3, app4, w_evS, ctup_at push_at2]
    refine ⟨ns, rfl, ⟨?_, hn⟩, f.push, kp.trans .push⟩
    simp only [List.length_map, List.length_nil] at hl
    omega
  · rintro d q acc T ⟨ns, rfl, hn, hl, f, kp⟩
    show oW (some ((wipeR _ _).set 2 (some d), T)) _
    simp only [wipeR, w_seq, w_ite, w_tst, w_op2, w_ret, w_set, w_ifE, w_callE, w_callF, w_consA, w_nilA, w_pure, w_bAnd, w_bOr, w_bNot, w_chn, w_meth, w_tup, w_lst, oW_some, w_toB, w_isStr, gv0, gvS, List.set_cons_zero, List.set_cons_succ, w_nil, w_drop, app1, app2, app3, app4, w_evS, w_tyes, if_true]
    refine w_imp0 (draw_w (N := N + 2 * q.length + 1) (by simpa [Nat.mul_succ, Nat.add_assoc] using f) (by decide) (by decide)) ?_
    rintro _ T1 ⟨i, rfl, i0, i40, f1, k1, _⟩
    simp only [w_seq, w_ite, w_tst, w_op2, w_ret, w_set, w_ifE, w_callE, w_callF, w_consA, w_nilA, w_pure, w_bAnd, w_bOr, w_bNot, w_chn, w_meth, w_tup, w_lst, oW_some, w_toB, w_isStr, gv0, gvS, List.set_cons_zero, List.set_cons_succ, w_nil, w_drop, app1, app2, app3, app4, w_evS, a_pow (show (0 : Int) ≤ 12 by decide) (show (12 : Int) ≤ 1000000 by decide) (show (10 : Int).natAbs < 2 ^ 64 by decide), a_sub, lst3]
    refine w_imp0 (draw_w (N := N + 2 * q.length) (f1.push) (by decide) (by decide)) ?_
    rintro _ T2 ⟨j, rfl, j0, j3, f2, k2, _⟩
    have at_ := k2.at_ (Nat.ne_of_gt f1.lt) (push_at2 (S := T1))
    obtain ⟨y, hy, e⟩ := ix_pick at_ j0 j3
    rw [e, oW_some]
    obtain ⟨z, rfl, hz⟩ : ∃ z : Nat, y = .int (z : Int) ∧ z < 10 ^ 12 := by
      simp only [List.mem_cons, List.not_mem_nil, or_false] at hy
      rcases hy with e | e | e
      · exact ⟨i.toNat, by rw [e, Int.toNat_of_nonneg i0], by omega⟩
      · exact ⟨0, by rw [e]; rfl, by decide⟩
      · exact ⟨999999999999, by rw [e, pow12m]; rfl, by decide⟩
    refine ⟨trivial, ?_, ns ++ [z], by simp, ?_, ?_, f2, kp.trans (k1.trans (Kp.push.trans k2))⟩
    · simp only [List.length_map, List.length_cons] at hl ⊢
      rw [sizeLine_eq]
      omega
    · intro n hm
      rcases List.mem_append.mp hm with hm | hm
      · exact hn n hm
      · rw [List.mem_singleton.mp hm]; exact hz
    · simp only [List.length_map, List.length_cons, List.length_append, List.length_nil] at hl ⊢
      omega
theorem many_w {r N : Nat} {S : Store} (h : FeedAt r (N + 2) S) : (g_law_many [.ref r] S).w (fun d S' => ∃ m : Int, d = .int m ∧ 0 ≤ m ∧ m ≤ 40 ∧ FeedAt r N S' ∧ Kp r S S') NoE := by
  refine w_run ?_
  show (b_law_many [some (.ref r)] S).w _
  unfold b_law_many
  simp only [w_seq, w_ite, w_tst, w_op2, w_ret, w_set, w_ifE, w_callE, w_callF, w_consA, w_nilA, w_pure, w_bAnd, w_bOr, w_bNot, w_chn, w_meth, w_tup, w_lst, oW_some, w_toB, w_isStr, gv0, gvS, List.set_cons_zero, List.set_cons_succ, w_nil, w_drop, app1, app2, app3, app4, w_evS]
  refine w_imp0 (draw_w (N := N + 1) h (by decide) (by decide)) ?_
  rintro _ T1 ⟨i, rfl, i0, i5, f1, k1, _⟩
  simp only [w_seq, w_ite, w_tst, w_op2, w_ret, w_set, w_ifE, w_callE, w_callF, w_consA, w_nilA, w_pure, w_bAnd, w_bOr, w_bNot, w_chn, w_meth, w_tup, w_lst, oW_some, w_toB, w_isStr, gv0, gvS, List.set_cons_zero, List.set_cons_succ, w_nil, w_drop, app1, app2, app3, app4, w_evS, lst2]
  refine w_imp0 (draw_w (N := N) (f1.push) (by decide) (by decide)) ?_
  rintro _ T2 ⟨j, rfl, j0, j9, f2, k2, _⟩
  have at_ := k2.at_ (Nat.ne_of_gt f1.lt) (push_at2 (S := T1))
  have e1 : dEq (.int j) (.int 0) T2 = some (.bl (decide (j = 0)), T2) := rfl
  have e2 : cInt [.bl (decide (j = 0))] T2 = some (.int (if decide (j = 0) = true then 1 else 0), T2) := rfl
  simp only [w_seq, w_ite, w_tst, w_op2, w_ret, w_set, w_ifE, w_callE, w_callF, w_consA, w_nilA, w_pure, w_bAnd, w_bOr, w_bNot, w_chn, w_meth, w_tup, w_lst, oW_some, w_toB, w_isStr, gv0, gvS, List.set_cons_zero, List.set_cons_succ, w_nil, w_drop, app1, app2, app3, app4, w_evS, e1, e2]
  obtain ⟨y, hy, e⟩ := ix_pick (i := if decide (j = 0) = true then 1 else 0) at_ (by split <;> simp) (by split <;> simp)
  rw [e, oW_some]
  simp only [List.mem_cons, List.not_mem_nil, or_false] at hy
  rcases hy with rfl | rfl
  · exact ⟨i, rfl, i0, by omega, f2, k1.trans (Kp.push.trans k2)⟩
  · exact ⟨40, rfl, by decide, by decide, f2, k1.trans (Kp.push.trans k2)⟩
/-! ### the law -/
theorem ne_refl {xs : List Da} {S : Store} (h : SmD (.tup xs)) : dNe (.tup xs) (.tup xs) S = some (.bl false, S) := by
  have e := h.refl
  simp only [pyD, PyData.eqv] at e
  rw [ne_tup h h, e]
  rfl
theorem ft_paper : ftab "read_number_paper" = some (1, g_read_number_paper) := by
  unfold ftab
  rw [if_neg (by decide), if_pos rfl]
theorem ft_nodes : ftab "read_nodes" = some (1, g_read_nodes) := by
  unfold ftab
  rw [if_pos rfl]
theorem sm2 {i j : Int} (hi : i.natAbs < 10 ^ 12) (hj : j.natAbs < 10 ^ 12) : SmD (.tup [.int i, .int j]) := (bd_tup (p := 0) (w := 41) (n := 2) (fun d hd => by
  simp only [List.mem_cons, List.not_mem_nil, or_false] at hd
  rcases hd with rfl | rfl
  · exact bd_int hi
  · exact bd_int hj) (Nat.le_refl _)).sm (by decide) (by decide)
theorem split1 {a : Str} (h : 32 ∉ tl a) : Txt.split a (" " : Str) = [a] := by
  have := TL.split_join (parts := [a]) tl_blank (by decide +kernel) (by simp) fun p hp => by rw [List.mem_singleton.mp hp]; exact h
  rwa [TL.join_eq] at this
theorem split2 {a b : Str} (h : 32 ∉ tl a) (k : 32 ∉ tl b) : Txt.split (a ++ (" " : Str) ++ b) (" " : Str) = [a, b] := by
  have := TL.split_join (parts := [a, b]) tl_blank (by decide +kernel) (by simp) fun p hp => by
    simp only [List.mem_cons, List.not_mem_nil, or_false] at hp
    rcases hp with rfl | rfl
    · exact h
    · exact k
  rwa [TL.join_eq] at this
theorem split3 {a b : Str} (h : 32 ∉ tl a) (k : 32 ∉ tl b) : Txt.split (a ++ (" " : Str) ++ b ++ (" " : Str)) (" " : Str) = [a, b, ("" : Str)] := by
  have := TL.split_join (parts := [a, b, ("" : Str)]) tl_blank (by decide +kernel) (by simp) fun p hp => by
    simp only [List.mem_cons, List.not_mem_nil, or_false] at hp
    rcases hp with rfl | rfl | rfl
    · exact h
    · exact k
    · decide
  rw [TL.join_eq] at this
  have e : Str.join (" " : Str) [a, b, ("" : Str)] = a ++ (" " : Str) ++ b ++ (" " : Str) := TL.ext_tl (by
    show tl (a ++ (" " : Str) ++ (b ++ (" " : Str) ++ ("" : Str))) = _
    simp only [TL.tl_append, List.append_assoc, show tl ("" : Str) = [] by decide, List.append_nil])
  rwa [e] at this
theorem kind_free (p : Pap) : 32 ∉ tl p.kind := by
  cases p
  · exact (by decide : 32 ∉ tl ("way" : Str))
  · exact (by decide : 32 ∉ tl ("bar" : Str))
theorem txt_free (p : Pap) : 32 ∉ tl p.txt := by
  cases p with
  | way ns => exact numsT_free (by omega)
  | bar ss => exact setsT_free (by omega)
theorem l2 {x0 x3 x4 x5 x6 x7 x8 x9 x10 x11 x12 x13 x14 x15 : Option Da} {r : Nat} {i : Int} {S : Store} {P : SP} (k : ∀ S', Gr S S' → P.nx [x0, some (.ref r), some (.int i), x3, x4, x5, x6, x7, x8, x9, x10, x11, x12, x13, x14, x15] S') :
    (c_law_2 [x0, some (.ref r), some (.int i), x3, x4, x5, x6, x7, x8, x9, x10, x11, x12, x13, x14, x15] S).w P := by
  unfold c_law_2
  simp only [w_seq, w_ite, w_tst, w_op2, w_ret, w_set, w_ifE, w_callE, w_callF, w_consA, w_nilA, w_pure, w_bAnd, w_bOr, w_bNot, w_chn, w_meth, w_tup, w_lst, oW_some, w_toB, w_isStr, gv0, gvS, List.set_cons_zero, List.set_cons_succ, w_nil, w_drop, app1, app2, app3, app4, w_evS, lst2, a_mod (show (0 : Int) < 2 by decide)]
  obtain ⟨y, hy, e⟩ := ix_pick (i := i % 2) (push_at2 (S := S) (o := .lst [.str ("way" : Str), .str ("bar" : Str)])) (by omega) (by show i % 2 < 2; omega)
  rw [e, oW_some]
  obtain ⟨p, rfl⟩ : ∃ p : Pap, y = .str p.kind := by
    simp only [List.mem_cons, List.not_mem_nil, or_false] at hy
    rcases hy with rfl | rfl
    · exact ⟨.way [], rfl⟩
    · exact ⟨.bar [], rfl⟩
  refine w_imp0 (refused_w (k := 1) ft_paper (read_kind_w (by rw [kind_len]; decide) (split1 (kind_free p)))) ?_
  rintro d S1 ⟨rfl, g1⟩
  simp only [w_seq, w_ite, w_tst, w_op2, w_ret, w_set, w_ifE, w_callE, w_callF, w_consA, w_nilA, w_pure, w_bAnd, w_bOr, w_bNot, w_chn, w_meth, w_tup, w_lst, oW_some, w_toB, w_isStr, gv0, gvS, List.set_cons_zero, List.set_cons_succ, w_nil, w_drop, app1, app2, app3, app4, w_evS, tup2, ne_refl (sm2 (i := 0) (j := 1) (by decide) (by decide)), Bool.false_eq_true, if_false]
  exact k S1 (Gr.refl.push.trans g1)
theorem papT_split (p : Pap) : Txt.split (papT p) (" " : Str) = [p.kind, p.txt] := split2 (kind_free p) (txt_free p)
theorem l3 {x0 x1 x2 x3 x4 x6 x7 x8 x9 x10 x11 x13 x14 x15 : Option Da} {ns : List (Str × Str)} {p : Pap} {S : Store} {P : SP} (hn : Nodes ns) (hp : p.Ok) (k : ∀ S', Gr S S' → P.nx [x0, x1, x2, x3, x4, some (.str (nodesT ns)), x6, x7, x8, x9, x10, x11, some (.str (papT p)), x13, x14, x15] S') :
    (c_law_3 [x0, x1, x2, x3, x4, some (.str (nodesT ns)), x6, x7, x8, x9, x10, x11, some (.str (papT p)), x13, x14, x15] S).w P := by
  unfold c_law_3
  have hl := papT_len hp
  have nl := nodesT_len hn
  have b1 : (" " : Str).length = 1 := rfl
  have b2 : (" x" : Str).length = 2 := rfl
  have q1 : dAdd (.str (papT p)) (.str (" " : Str)) S = some (.str (papT p ++ (" " : Str)), S) := a_cat (by omega)
  simp only [w_seq, w_ite, w_tst, w_op2, w_ret, w_set, w_ifE, w_callE, w_callF, w_consA, w_nilA, w_pure, w_bAnd, w_bOr, w_bNot, w_chn, w_meth, w_tup, w_lst, oW_some, w_toB, w_isStr, gv0, gvS, List.set_cons_zero, List.set_cons_succ, w_nil, w_drop, app1, app2, app3, app4, w_evS, q1]
  have c1 : (papT p ++ (" " : Str)).length ≤ 100000 := by rw [TL.len_tl, TL.tl_append, List.length_append, ← TL.len_tl, ← TL.len_tl]; omega
  refine w_imp0 (refused_w (k := 2) ft_paper (w_imp (read_paper_w hp c1 (split3 (kind_free p) (txt_free p))) (fun d S' h => by cases h.1) fun c fs S' h => h.2)) ?_
  rintro d S1 ⟨rfl, g1⟩
  have e2 : nodesT ns ++ (" x" : Str) = nodesT ns ++ (" " : Str) ++ ("x" : Str) := TL.ext_tl (by
    simp only [TL.tl_append, List.append_assoc]
    rfl)
  have q2 : dAdd (.str (nodesT ns)) (.str (" x" : Str)) S1 = some (.str (nodesT ns ++ (" x" : Str)), S1) := a_cat (by omega)
  simp only [w_seq, w_ite, w_tst, w_op2, w_ret, w_set, w_ifE, w_callE, w_callF, w_consA, w_nilA, w_pure, w_bAnd, w_bOr, w_bNot, w_chn, w_meth, w_tup, w_lst, oW_some, w_toB, w_isStr, gv0, gvS, List.set_cons_zero, List.set_cons_succ, w_nil, w_drop, app1, app2, app3, app4, w_evS, tup2, ne_refl (sm2 (i := 0) (j := 2) (by decide) (by decide)), Bool.false_eq_true, if_false, q2]
  have c2 : (nodesT ns ++ (" x" : Str)).length ≤ 100000 := by rw [TL.len_tl, TL.tl_append, List.length_append, ← TL.len_tl, ← TL.len_tl]; omega
  refine w_imp0 (refused_w (k := 1) ft_nodes (w_imp (read_nodes_w hn c2 (rest := [("x" : Str)]) (by rw [e2]; exact split2 (nodesT_free hn (by omega)) (by decide))) (fun d S' h => by cases h.1) fun c fs S' h => h.2)) ?_
  rintro d S2 ⟨rfl, g2⟩
  simp only [w_seq, w_ite, w_tst, w_op2, w_ret, w_set, w_ifE, w_callE, w_callF, w_consA, w_nilA, w_pure, w_bAnd, w_bOr, w_bNot, w_chn, w_meth, w_tup, w_lst, oW_some, w_toB, w_isStr, gv0, gvS, List.set_cons_zero, List.set_cons_succ, w_nil, w_drop, app1, app2, app3, app4, w_evS, tup2, ne_refl (sm2 (i := 0) (j := 1) (by decide) (by decide)), Bool.false_eq_true, if_false]
  exact k S2 (g1.trans g2)
theorem hi_of {x : Str} (h : ∀ c, 0x110000 ≤ c → c ∉ tl x) : PyData.strOk x = true := strOk_of fun c hc => Nat.lt_of_not_le fun q => h c q hc
theorem papT_ok (p : Pap) : PyData.strOk (papT p) = true := hi_of fun c hc => by
  unfold papT
  rw [TL.tl_append, TL.tl_append, tl_blank]
  simp only [List.mem_append, List.mem_singleton, not_or]
  refine ⟨⟨fun m => ?_, by omega⟩, ?_⟩
  · have : ∀ c ∈ tl p.kind, c < 1000 := by
      cases p
      · exact (by decide : ∀ c ∈ tl ("way" : Str), c < 1000)
      · exact (by decide : ∀ c ∈ tl ("bar" : Str), c < 1000)
    have := this c m
    omega
  · cases p with
    | way ns => exact numsT_free (by omega)
    | bar ss => exact setsT_free (by omega)
theorem da_bd {p : Pap} (h : p.Ok) : BdD 3 344194 p.da := by
  refine (bd_tup (p := 2) (w := 172096) (n := 2) (fun d hd => ?_) (Nat.le_refl _)).mono (by decide) (by decide)
  simp only [List.mem_cons, List.not_mem_nil, or_false] at hd
  rcases hd with rfl | rfl
  · exact (bd_str (w := 8) (kind_ok p).1 (kind_ok p).2).mono (by decide) (by decide)
  · exact Pap.bd h
theorem pair_bd {p : Pap} (h : p.Ok) : SmD (.tup [.str (papT p), p.da]) := (bd_tup (p := 3) (w := 344194) (n := 2) (fun d hd => by
  simp only [List.mem_cons, List.not_mem_nil, or_false] at hd
  rcases hd with rfl | rfl
  · exact (bd_str (w := 60000) (papT_ok p) (papT_len h)).mono (by decide) (by decide)
  · exact da_bd h) (Nat.le_refl _)).sm (by decide) (by decide)
theorem l4 {x0 x1 x2 x3 x4 x6 x7 x8 x9 x10 x14 x15 : Option Da} {ns : List (Str × Str)} {p : Pap} {S : Store} {P : SP} (hn : Nodes ns) (hp : p.Ok) (k : ∀ S', Gr S S' → P.nx [x0, x1, x2, x3, x4, some (.str (nodesT ns)), x6, x7, x8, x9, x10, some p.da, some (.str (papT p)), some (.str (pyD p.da).shown), x14, x15] S') :
    (c_law_4 [x0, x1, x2, x3, x4, some (.str (nodesT ns)), x6, x7, x8, x9, x10, some p.da, some (.str (papT p)), some (.str (pyD p.da).shown), x14, x15] S).w P := by
  unfold c_law_4
  simp only [w_seq, w_ite, w_tst, w_op2, w_ret, w_set, w_ifE, w_callE, w_callF, w_consA, w_nilA, w_pure, w_bAnd, w_bOr, w_bNot, w_chn, w_meth, w_tup, w_lst, oW_some, w_toB, w_isStr, gv0, gvS, List.set_cons_zero, List.set_cons_succ, w_nil, w_drop, app1, app2, app3, app4, w_evS]
  refine (p_number_paper_text hp).go fun S1 g1 => ?_
  refine w_imp (read_paper_w hp (Nat.le_trans (papT_len hp) (by decide)) (papT_split p)) ?_ fun c fs S' h => absurd rfl h.1
  rintro d S2 ⟨_, rfl, g2⟩
  have r1 := fun T => (pair_bd hp).repr T
  have r2 := fun T => ((da_bd hp).sm (by decide) (by decide)).repr T
  simp only [w_seq, w_ite, w_tst, w_op2, w_ret, w_set, w_ifE, w_callE, w_callF, w_consA, w_nilA, w_pure, w_bAnd, w_bOr, w_bNot, w_chn, w_meth, w_tup, w_lst, oW_some, w_toB, w_isStr, gv0, gvS, List.set_cons_zero, List.set_cons_succ, w_nil, w_drop, app1, app2, app3, app4, w_evS, tup2, r1, r2, ne_str, decide_true, Bool.not_true, Bool.false_eq_true, if_false]
  exact l3 hn hp fun S3 g3 => k S3 (g1.trans (g2.trans g3))
/-- the loop over both papers -/
theorem l5 {x0 x3 x4 x8 x10 x11 x12 x13 x14 x15 : Option Da} {r q : Nat} {i : Int} {ns : List (Str × Str)} {ws : List Nat} {ss : List (List Nat)} {S : Store} {P : SP} (hn : Nodes ns) (hw : Nums ws) (hs : Sets ss)
    (hq : S[q]? = some (.lst [.str (papT (.way ws)), .str (papT (.bar ss))]))
    (k : ∀ y11 y12 y13 S', Gr S S' → P.nx [x0, some (.ref r), some (.int i), x3, x4, some (.str (nodesT ns)), some (Pap.way ws).da, some (setsD ss), x8, some (.ref q), x10, y11, y12, y13, x14, x15] S') :
    (c_law_5 [x0, some (.ref r), some (.int i), x3, x4, some (.str (nodesT ns)), some (Pap.way ws).da, some (setsD ss), x8, some (.ref q), x10, x11, x12, x13, x14, x15] S).w P := by
  unfold c_law_5
  rw [w_seq]
  refine w_for (w_zip ?_)
  simp only [w_seq, w_ite, w_tst, w_op2, w_ret, w_set, w_ifE, w_callE, w_callF, w_consA, w_nilA, w_pure, w_bAnd, w_bOr, w_bNot, w_chn, w_meth, w_tup, w_lst, oW_some, w_toB, w_isStr, gv0, gvS, List.set_cons_zero, List.set_cons_succ, w_nil, w_drop, app1, app2, app3, app4, w_evS, tup2]
  refine ⟨_, _, false, true, [(Pap.way ws).da, (Pap.bar ss).da], [.str (papT (.way ws)), .str (papT (.bar ss))], fun _ => True, fun S' => S'[q]? = some (.lst [.str (papT (.way ws)), .str (papT (.bar ss))]), rfl, rfl, ?_, ⟨trivial, hq⟩, ?_⟩
  · unfold seqG
    dsimp only
    rw [hq]
  refine ⟨fun ds ρ T => (∀ d ∈ ds, ∃ p : Pap, p.Ok ∧ d = .tup [p.da, .str (papT p)]) ∧ Gr S T ∧ ∃ y11 y12 y13, ρ = [x0, some (.ref r), some (.int i), x3, x4, some (.str (nodesT ns)), some (Pap.way ws).da, some (setsD ss), x8, some (.ref q), x10, y11, y12, y13, x14, x15], ⟨?_, .refl, x11, x12, x13, rfl⟩, ?_, ?_⟩
  · intro d hd
    have hd' : d = .tup [(Pap.way ws).da, .str (papT (.way ws))] ∨ d = .tup [(Pap.bar ss).da, .str (papT (.bar ss))] := by simpa using hd
    rcases hd' with rfl | rfl
    · exact ⟨.way ws, hw, rfl⟩
    · exact ⟨.bar ss, hs, rfl⟩
  · rintro ρ T ⟨_, gT, y11, y12, y13, rfl⟩
    exact l2 fun S' g' => k y11 y12 y13 S' (gT.trans g')
  · rintro d rs ρ T ⟨hd, gT, y11, y12, y13, rfl⟩
    obtain ⟨p, hp, rfl⟩ := hd d (by simp)
    show oW (some ([x0, some (.ref r), some (.int i), x3, x4, some (.str (nodesT ns)), some (Pap.way ws).da, some (setsD ss), x8, some (.ref q), x10, some p.da, some (.str (papT p)), y13, x14, x15], T)) _
    rw [oW_some]
    have r2 := fun T => ((da_bd hp).sm (by decide) (by decide)).repr T
    simp only [w_seq, w_ite, w_tst, w_op2, w_ret, w_set, w_ifE, w_callE, w_callF, w_consA, w_nilA, w_pure, w_bAnd, w_bOr, w_bNot, w_chn, w_meth, w_tup, w_lst, oW_some, w_toB, w_isStr, gv0, gvS, List.set_cons_zero, List.set_cons_succ, w_nil, w_drop, app1, app2, app3, app4, w_evS, r2]
    refine l4 hn hp fun S' g' => ⟨⟨trivial, (gT.trans g').at_ hq⟩, fun d hd' => hd d (List.mem_cons_of_mem _ hd'), gT.trans g', _, _, _, rfl⟩
theorem law_words {ss : List (List Nat)} {ρ : Ev} {S : Store} {Q : Da → Store → Prop} {E : Str → List (Str × Da) → Store → Prop} (hs : Sets ss) (h7 : ρ[7]? = some (some (setsD ss))) (h14 : 14 < ρ.length) (k : ∀ T, Gr S T → Q (.ref T.length) (T ++ [.lst ((ss.map numsT).map Da.str)])) :
    (compE [14] (srcE (fun ρ => getV ρ 7)) (gSet 14) tyes (callF 1 g_law_numbers_word (consA (fun ρ => getV ρ 14) nilA)) ρ S).w Q E := by
  refine w_compM (α := List Nat) ss numsD (fun m => .str (numsT m)) (fun _ => True) (fun _ _ _ h => h) ?_ (sz16 (by have := hs.1; omega)) (fun m hm T gT => ?_) (fun T gT => ?_)
  · refine w_src ?_
    rw [w_getV h7]
    exact ⟨rfl, .refl, trivial⟩
  · refine ⟨rfl, ?_⟩
    have hv : ((wipeR ρ [14]).set 14 (some (numsD m)))[14]? = some (some (numsD m)) := List.getElem?_set_self (by simp [wipeR, h14])
    rw [w_callF, w_consA, w_getV hv, w_nilA, app1]
    exact p_law_numbers_word (hs.2 m hm) T
  · have := k T gT
    rwa [List.map_map] at this
theorem numsT_ok (ns : List Nat) : PyData.strOk (numsT ns) = true := hi_of fun c hc => numsT_free (by omega)
theorem nodesT_ok {ns : List (Str × Str)} (h : Nodes ns) : PyData.strOk (nodesT ns) = true := hi_of fun c hc => by
  unfold nodesT
  split
  · rw [tl_void]
    simp only [List.mem_singleton]
    omega
  · refine join_free (by rw [tl_comma]; simp only [List.mem_singleton]; omega) fun p hp => ?_
    obtain ⟨n, hn, rfl⟩ := List.mem_map.mp hp
    unfold nodeT
    rw [TL.tl_append, TL.tl_append, tl_dot]
    simp only [List.mem_append, List.mem_singleton, not_or]
    refine ⟨⟨fun m => ?_, by omega⟩, fun m => ?_⟩
    · have := (h.2 n hn).sort.2 c m
      omega
    · have := lets_in ((h.2 n hn).2.2.2 c m)
      omega
theorem l6 {x0 x3 x4 x9 x10 x11 x12 x13 x14 x15 : Option Da} {r q : Nat} {i : Int} {ns : List (Str × Str)} {ws : List Nat} {ss : List (List Nat)} {S : Store} {P : SP} (hn : Nodes ns) (hw : Nums ws) (hs : Sets ss)
    (hq : S[q]? = some (.lst ((ss.map numsT).map Da.str)))
    (k : ∀ y9 y11 y12 y13 S', Gr S S' → P.nx [x0, some (.ref r), some (.int i), x3, x4, some (.str (nodesT ns)), some (Pap.way ws).da, some (setsD ss), some (.ref q), y9, x10, y11, y12, y13, x14, x15] S') :
    (c_law_6 [x0, some (.ref r), some (.int i), x3, x4, some (.str (nodesT ns)), some (Pap.way ws).da, some (setsD ss), some (.ref q), x9, x10, x11, x12, x13, x14, x15] S).w P := by
  unfold c_law_6
  have hx : ∀ T : Store, dIx (Pap.way ws).da (.int 1) T = some (numsD ws, T) := fun T => ix_tup (atI_nat (j := 1) rfl)
  have w4 : ("way " : Str).length = 4 := rfl
  have b4 : ("bar " : Str).length = 4 := rfl
  have wl : (Pap.way ws).txt.length ≤ 53312 := txt_len (p := .way ws) hw
  have bl : (Pap.bar ss).txt.length ≤ 53312 := txt_len (p := .bar ss) hs
  have q1 : ∀ T : Store, dAdd (.str ("way " : Str)) (.str (numsT ws)) T = some (.str (papT (.way ws)), T) := fun T => by
    rw [a_cat (by rw [w4]; have : numsT ws = (Pap.way ws).txt := rfl; rw [this]; omega)]
    rfl
  have q2 : ∀ T : Store, dAdd (.str ("bar " : Str)) (.str (setsT ss)) T = some (.str (papT (.bar ss)), T) := fun T => by
    rw [a_cat (by rw [b4]; have : setsT ss = (Pap.bar ss).txt := rfl; rw [this]; omega)]
    rfl
  simp only [w_seq, w_ite, w_tst, w_op2, w_ret, w_set, w_ifE, w_callE, w_callF, w_consA, w_nilA, w_pure, w_bAnd, w_bOr, w_bNot, w_chn, w_meth, w_tup, w_lst, oW_some, w_toB, w_isStr, gv0, gvS, List.set_cons_zero, List.set_cons_succ, w_nil, w_drop, app1, app2, app3, app4, w_evS, hx]
  refine (p_law_numbers_word hw).go fun S1 g1 => ?_
  have hq1 := g1.at_ hq
  have sm : SmD (.tup ((ss.map numsT).map Da.str)) := (bd_tup (p := 0) (w := 832) (n := 64) (fun d hd => by
    obtain ⟨x, hx, rfl⟩ := List.mem_map.mp hd
    obtain ⟨m, hm, rfl⟩ := List.mem_map.mp hx
    exact bd_str (numsT_ok m) (numsT_len (hs.2 m hm))) (by rw [List.length_map, List.length_map]; exact hs.1)).sm (by decide) (by decide)
  simp only [w_seq, w_ite, w_tst, w_op2, w_ret, w_set, w_ifE, w_callE, w_callF, w_consA, w_nilA, w_pure, w_bAnd, w_bOr, w_bNot, w_chn, w_meth, w_tup, w_lst, oW_some, w_toB, w_isStr, gv0, gvS, List.set_cons_zero, List.set_cons_succ, w_nil, w_drop, app1, app2, app3, app4, w_evS, q1, lst0, ne_lst (push_old hq1) push_at2 sm sm_nil]
  have fin : ∀ T, Gr S T → oW (mkLst [.str (papT (.way ws)), .str (papT (.bar ss))] T) (fun d S => (c_law_5 [x0, some (.ref r), some (.int i), x3, x4, some (.str (nodesT ns)), some (Pap.way ws).da, some (setsD ss), some (.ref q), some d, x10, x11, x12, x13, x14, x15] S).w P) := fun T gT => by
    rw [lst2, oW_some]
    exact l5 hn hw hs push_at2 fun y11 y12 y13 S' g' => k _ _ _ _ S' (gT.push.trans g')
  cases ss with
  | nil =>
    have e : (!PyData.eqvAll (pyDs ((([] : List (List Nat)).map numsT).map Da.str)) (pyDs [])) = false := rfl
    have q3 := q2
    rw [show setsT [] = ("." : Str) from rfl] at q3
    simp only [e, Bool.false_eq_true, if_false, q3, oW_some]
    exact fin _ g1.push
  | cons s ss =>
    have e : (!PyData.eqvAll (pyDs (((s :: ss).map numsT).map Da.str)) (pyDs [])) = true := rfl
    rw [e, if_pos rfl, join_at (B := 832) (push_old hq1) (fun x hx => by
        obtain ⟨m, hm, rfl⟩ := List.mem_map.mp hx
        exact numsT_len (hs.2 m hm)) (by rw [List.length_map, show ("/" : Str).length = 1 from rfl]; have := hs.1; omega), oW_some]
    rw [show Txt.join ("/" : Str) ((s :: ss).map numsT) = setsT (s :: ss) from rfl, q2, oW_some]
    exact fin _ g1.push
theorem l7 {x0 x3 x4 x8 x9 x10 x11 x12 x13 x14 x15 : Option Da} {r : Nat} {i : Int} {ns : List (Str × Str)} {ws : List Nat} {ss : List (List Nat)} {S : Store} {P : SP} (hn : Nodes ns) (hw : Nums ws) (hs : Sets ss)
    (k : ∀ y8 y9 y11 y12 y13 S', Gr S S' → P.nx [x0, some (.ref r), some (.int i), x3, x4, some (.str (nodesT ns)), some (Pap.way ws).da, some (setsD ss), y8, y9, x10, y11, y12, y13, x14, x15] S') :
    (c_law_7 [x0, some (.ref r), some (.int i), x3, x4, some (.str (nodesT ns)), some (Pap.way ws).da, some (setsD ss), x8, x9, x10, x11, x12, x13, x14, x15] S).w P := by
  unfold c_law_7
  rw [w_seq, w_set]
  refine law_words hs rfl (by simp) fun T gT => ?_
  exact l6 hn hw hs push_at2 fun y9 y11 y12 y13 S' g' => k _ _ _ _ _ S' (gT.push.trans g')
theorem Gr.feed' {r N : Nat} {S S' : Store} (g : Gr S S') (f : FeedAt r N S) : FeedAt r N S' := g.feed f
theorem l8 {x0 x3 x4 x7 x8 x9 x10 x11 x12 x13 x14 x15 : Option Da} {r N : Nat} {i : Int} {ns : List (Str × Str)} {ws : List Nat} {S : Store} {P : SP} (hn : Nodes ns) (hw : Nums ws) (hf : FeedAt r (N + 2 + 129 * 40) S)
    (k : ∀ y7 y8 y9 y11 y12 y13 S', FeedAt r N S' → P.nx [x0, some (.ref r), some (.int i), x3, x4, some (.str (nodesT ns)), some (Pap.way ws).da, y7, y8, y9, x10, y11, y12, y13, x14, x15] S') :
    (c_law_8 [x0, some (.ref r), some (.int i), x3, x4, some (.str (nodesT ns)), some (Pap.way ws).da, x7, x8, x9, x10, x11, x12, x13, x14, x15] S).w P := by
  unfold c_law_8
  simp only [w_seq, w_ite, w_tst, w_op2, w_ret, w_set, w_ifE, w_callE, w_callF, w_consA, w_nilA, w_pure, w_bAnd, w_bOr, w_bNot, w_chn, w_meth, w_tup, w_lst, oW_some, w_toB, w_isStr, gv0, gvS, List.set_cons_zero, List.set_cons_succ, w_nil, w_drop, app1, app2, app3, app4, w_evS]
  refine w_compE (w_rng1 ?_)
  simp only [w_seq, w_ite, w_tst, w_op2, w_ret, w_set, w_ifE, w_callE, w_callF, w_consA, w_nilA, w_pure, w_bAnd, w_bOr, w_bNot, w_chn, w_meth, w_tup, w_lst, oW_some, w_toB, w_isStr, gv0, gvS, List.set_cons_zero, List.set_cons_succ, w_nil, w_drop, app1, app2, app3, app4, w_evS]
  refine w_imp0 (many_w (N := N + 129 * 40) (by rw [Nat.add_right_comm]; exact hf)) ?_
  rintro _ S1 ⟨m, rfl, m0, m40, f1, k1⟩
  refine ⟨m, rfl, m0, by omega, trivial, fun ds acc T => ∃ ss : List (List Nat), acc = ss.map numsD ∧ (∀ s ∈ ss, Nums s) ∧ acc.length + ds.length = m.toNat ∧ FeedAt r (N + 129 * ds.length) T, ⟨[], rfl, by simp, ?_, ?_⟩, ?_, ?_⟩
  · simp [rngD]
  · refine f1.less ?_
    simp only [rngD, List.length_map, List.length_range]
    omega
  · rintro acc T ⟨ss, rfl, hs, hl, f⟩
    simp only [w_seq, w_ite, w_tst, w_op2, w_ret, w_set, w_ifE, w_callE, w_callF, w_consA, w_nilA, w_pure, w_bAnd, w_bOr, w_bNot, w_chn, w_meth, w_tup, w_lst, oW_some, w_toB, w_isStr, gv0, gvS, List.set_cons_zero, List.set_cons_succ, w_nil, w_drop, app1, app2, app3, app4, w_evS, ctup_at push_at2]
    simp only [List.length_map, List.length_nil] at hl
    exact l7 hn hw (ss := ss) ⟨by omega, hs⟩ fun y8 y9 y11 y12 y13 S' g' => k _ _ _ _ _ _ S' (g'.feed f.push)
  · rintro d q acc T ⟨ss, rfl, hs, hl, f⟩
    show oW (some ((wipeR _ _).set 4 (some d), T)) _
    simp only [wipeR, w_seq, w_ite, w_tst, w_op2, w_ret, w_set, w_ifE, w_callE, w_callF, w_consA, w_nilA, w_pure, w_bAnd, w_bOr, w_bNot, w_chn, w_meth, w_tup, w_lst, oW_some, w_toB, w_isStr, gv0, gvS, List.set_cons_zero, List.set_cons_succ, w_nil, w_drop, app1, app2, app3, app4, w_evS, w_tyes, if_true]
    refine w_imp0 (draw_w (N := N + 129 * q.length + 128) (by
      rw [List.length_cons, Nat.mul_succ] at f
      exact f.less (by omega)) (by decide) (by decide)) ?_
    rintro _ T1 ⟨j, rfl, j0, j4, f2, k2, _⟩
    refine w_imp0 (numbers_w f2 j0 (by omega)) ?_
    rintro _ T2 ⟨s, rfl, hs', f3, k3⟩
    simp only [List.length_map, List.length_cons] at hl
    refine ⟨trivial, by rw [List.length_map, sizeLine_eq]; omega, ss ++ [s], by simp, fun z hz => ?_, by simp only [List.length_append, List.length_map, List.length_cons, List.length_nil]; omega, f3⟩
    rcases List.mem_append.mp hz with hz | hz
    · exact hs z hz
    · rw [List.mem_singleton.mp hz]; exact hs'
theorem l9 {x0 x3 x4 x6 x7 x8 x9 x10 x11 x12 x13 x14 x15 : Option Da} {r N : Nat} {i : Int} {ns : List (Str × Str)} {S : Store} {P : SP} (hn : Nodes ns) (hf : FeedAt r (N + 5300) S)
    (k : ∀ y6 y7 y8 y9 y11 y12 y13 S', FeedAt r N S' → P.nx [x0, some (.ref r), some (.int i), x3, x4, some (.str (nodesT ns)), y6, y7, y8, y9, x10, y11, y12, y13, x14, x15] S') :
    (c_law_9 [x0, some (.ref r), some (.int i), x3, x4, some (.str (nodesT ns)), x6, x7, x8, x9, x10, x11, x12, x13, x14, x15] S).w P := by
  unfold c_law_9
  simp only [w_seq, w_ite, w_tst, w_op2, w_ret, w_set, w_ifE, w_callE, w_callF, w_consA, w_nilA, w_pure, w_bAnd, w_bOr, w_bNot, w_chn, w_meth, w_tup, w_lst, oW_some, w_toB, w_isStr, gv0, gvS, List.set_cons_zero, List.set_cons_succ, w_nil, w_drop, app1, app2, app3, app4, w_evS]
  refine w_imp0 (many_w (N := N + 2 + 129 * 40 + 128) (hf.less (by omega))) ?_
  rintro _ S1 ⟨m, rfl, m0, m40, f1, k1⟩
  refine w_imp0 (numbers_w (N := N + 2 + 129 * 40) f1 m0 (by omega)) ?_
  rintro _ S2 ⟨ws, rfl, hw, f2, k2⟩
  rw [tup2, oW_some]
  exact l8 hn hw f2 fun y7 y8 y9 y11 y12 y13 S' f => k _ _ _ _ _ _ _ S' f
theorem text_bd {ns : List (Str × Str)} (h : Nodes ns) : SmD (.tup [.str (nodesT ns), nodesD ns]) := (bd_tup (p := 2) (w := 1216) (n := 2) (fun d hd => by
  simp only [List.mem_cons, List.not_mem_nil, or_false] at hd
  rcases hd with rfl | rfl
  · exact (bd_str (w := 896) (nodesT_ok h) (nodesT_len h)).mono (by decide) (by decide)
  · exact nodes_bd h) (Nat.le_refl _)).sm (by decide) (by decide)
theorem l10 {x0 x4 x6 x7 x8 x9 x10 x11 x12 x13 x14 x15 : Option Da} {r N : Nat} {i : Int} {ns : List (Str × Str)} {S : Store} {P : SP} (hn : Nodes ns) (hf : FeedAt r (N + 5300) S)
    (k : ∀ y6 y7 y8 y9 y11 y12 y13 S', FeedAt r N S' → P.nx [x0, some (.ref r), some (.int i), some (nodesD ns), x4, some (.str (nodesT ns)), y6, y7, y8, y9, x10, y11, y12, y13, x14, x15] S') :
    (c_law_10 [x0, some (.ref r), some (.int i), some (nodesD ns), x4, some (.str (nodesT ns)), x6, x7, x8, x9, x10, x11, x12, x13, x14, x15] S).w P := by
  unfold c_law_10
  simp only [w_seq, w_ite, w_tst, w_op2, w_ret, w_set, w_ifE, w_callE, w_callF, w_consA, w_nilA, w_pure, w_bAnd, w_bOr, w_bNot, w_chn, w_meth, w_tup, w_lst, oW_some, w_toB, w_isStr, gv0, gvS, List.set_cons_zero, List.set_cons_succ, w_nil, w_drop, app1, app2, app3, app4, w_evS]
  refine (p_nodes_word hn).go fun S1 g1 => ?_
  refine w_imp (read_nodes_w (rest := []) hn (by have := nodesT_len hn; omega) (split1 (nodesT_free hn (by omega)))) ?_ fun c fs S' h => absurd rfl h.1
  rintro d S2 ⟨_, rfl, g2⟩
  have r1 := fun T => (text_bd hn).repr T
  simp only [w_seq, w_ite, w_tst, w_op2, w_ret, w_set, w_ifE, w_callE, w_callF, w_consA, w_nilA, w_pure, w_bAnd, w_bOr, w_bNot, w_chn, w_meth, w_tup, w_lst, oW_some, w_toB, w_isStr, gv0, gvS, List.set_cons_zero, List.set_cons_succ, w_nil, w_drop, app1, app2, app3, app4, w_evS, tup2, r1, ne_str, decide_true, Bool.not_true, Bool.false_eq_true, if_false]
  exact l9 hn ((g1.trans g2).feed hf) k
theorem l11 {x0 x4 x5 x6 x7 x8 x9 x10 x11 x12 x13 x14 x15 : Option Da} {r N : Nat} {i : Int} {ns : List (Str × Str)} {S : Store} {P : SP} (hn : Nodes ns) (hf : FeedAt r (N + 5300) S)
    (k : ∀ y6 y7 y8 y9 y11 y12 y13 S', FeedAt r N S' → P.nx [x0, some (.ref r), some (.int i), some (nodesD ns), x4, some (.str (nodesT ns)), y6, y7, y8, y9, x10, y11, y12, y13, x14, x15] S') :
    (c_law_11 [x0, some (.ref r), some (.int i), some (nodesD ns), x4, x5, x6, x7, x8, x9, x10, x11, x12, x13, x14, x15] S).w P := by
  unfold c_law_11
  have e1 : dNe (nodesD ns) (.tup []) S = some (.bl (!(ns.map nodeD).isEmpty), S) := ne_nil ((nodes_bd hn).sm (by decide) (by decide))
  simp only [w_seq, w_ite, w_tst, w_op2, w_ret, w_set, w_ifE, w_callE, w_callF, w_consA, w_nilA, w_pure, w_bAnd, w_bOr, w_bNot, w_chn, w_meth, w_tup, w_lst, oW_some, w_toB, w_isStr, gv0, gvS, List.set_cons_zero, List.set_cons_succ, w_nil, w_drop, app1, app2, app3, app4, w_evS, tup0, e1]
  cases ns with
  | nil => exact l10 hn hf k
  | cons n ns =>
    rw [if_pos (show (!((n :: ns).map nodeD).isEmpty) = true from rfl)]
    refine w_compM (α := Str × Str) (n :: ns) nodeD (fun m => .str (nodeT m)) (fun _ => True) (fun _ _ _ h => h) ?_ (sz16 (by have := hn.1; omega)) (fun m hm T gT => ?_) (fun T gT => ?_)
    · refine w_src ?_
      simp only [w_seq, w_ite, w_tst, w_op2, w_ret, w_set, w_ifE, w_callE, w_callF, w_consA, w_nilA, w_pure, w_bAnd, w_bOr, w_bNot, w_chn, w_meth, w_tup, w_lst, oW_some, w_toB, w_isStr, gv0, gvS, List.set_cons_zero, List.set_cons_succ, w_nil, w_drop, app1, app2, app3, app4, w_evS]
      exact ⟨rfl, .refl, trivial⟩
    · refine ⟨rfl, ?_⟩
      have l := nodeT_len (hn.2 m hm)
      have s4 := (hn.2 m hm).sort.1
      have s8 := (hn.2 m hm).2.2.1
      have d1 : ("." : Str).length = 1 := rfl
      have q1 : dAdd (.str m.1) (.str ("." : Str)) T = some (.str (m.1 ++ ("." : Str)), T) := a_cat (by omega)
      have q2 : dAdd (.str (m.1 ++ ("." : Str))) (.str m.2) T = some (.str (nodeT m), T) := a_cat (by rw [TL.len_tl, TL.tl_append, List.length_append, ← TL.len_tl, ← TL.len_tl]; omega)
      simp only [wipeR, w_seq, w_ite, w_tst, w_op2, w_ret, w_set, w_ifE, w_callE, w_callF, w_consA, w_nilA, w_pure, w_bAnd, w_bOr, w_bNot, w_chn, w_meth, w_tup, w_lst, oW_some, w_toB, w_isStr, gv0, gvS, List.set_cons_zero, List.set_cons_succ, w_nil, w_drop, app1, app2, app3, app4, w_evS, q1, q2]
      exact ⟨trivial, .refl⟩
    · have at_ : (T ++ [SO.lst ((n :: ns).map fun m => Da.str (nodeT m))])[T.length]? = some (.lst (((n :: ns).map nodeT).map Da.str)) := by
        rw [List.map_map]
        exact push_at2
      rw [join_at (B := 13) at_ (fun x hx => by
          obtain ⟨m, hm, rfl⟩ := List.mem_map.mp hx
          exact nodeT_len (hn.2 m hm)) (by rw [List.length_map, show ("," : Str).length = 1 from rfl]; have := hn.1; omega), oW_some]
      exact l10 hn (gT.push.feed hf) k
theorem words_ok {y : Da} (h : y ∈ [Da.str ("a" : Str), .str ("mend" : Str), .str ("copy" : Str), .str ("zzzzzzzz" : Str), .str ("way" : Str), .str ("f" : Str)]) : ∃ x : Str, y = .str x ∧ 1 ≤ x.length ∧ x.length ≤ 8 ∧ ∀ c ∈ tl x, c ∈ lets := by
  simp only [List.mem_cons, List.not_mem_nil, or_false] at h
  rcases h with rfl | rfl | rfl | rfl | rfl | rfl
  all_goals exact ⟨_, rfl, by decide, by decide, by decide⟩
theorem l14 {x0 x4 x5 x6 x7 x8 x9 x10 x11 x12 x13 x14 x15 : Option Da} {r q N : Nat} {i : Int} {S : Store} {P : SP} (hf : FeedAt r (N + 5400) S) (hq : S[q]? = some (.lst [])) (hr : r < q)
    (k : ∀ y3 y4 y5 y6 y7 y8 y9 y10 y11 y12 y13 S', FeedAt r N S' → P.nx [x0, some (.ref r), some (.int i), y3, y4, y5, y6, y7, y8, y9, y10, y11, y12, y13, x14, x15] S') :
    (c_law_14 [x0, some (.ref r), some (.int i), some (.ref q), x4, x5, x6, x7, x8, x9, x10, x11, x12, x13, x14, x15] S).w P := by
  unfold c_law_14
  rw [w_seq]
  refine w_for (w_rng1 ?_)
  simp only [w_seq, w_ite, w_tst, w_op2, w_ret, w_set, w_ifE, w_callE, w_callF, w_consA, w_nilA, w_pure, w_bAnd, w_bOr, w_bNot, w_chn, w_meth, w_tup, w_lst, oW_some, w_toB, w_isStr, gv0, gvS, List.set_cons_zero, List.set_cons_succ, w_nil, w_drop, app1, app2, app3, app4, w_evS]
  refine w_imp0 (many_w (N := N + 5398) hf) ?_
  rintro _ S1 ⟨m, rfl, m0, m40, f1, k1⟩
  have hq1 := k1.at_ (by omega) hq
  refine ⟨m, rfl, m0, by omega, trivial, fun ds ρ T => ∃ (ns : List (Str × Str)) (y4 y10 : Option Da), ρ = [x0, some (.ref r), some (.int i), some (.ref q), y4, x5, x6, x7, x8, x9, y10, x11, x12, x13, x14, x15] ∧ (∀ p ∈ ns, Node p) ∧ ns.length + ds.length = m.toNat ∧ T[q]? = some (.lst (ns.map nodeD)) ∧ FeedAt r (N + 5300 + 2 * ds.length) T,
    ⟨[], x4, x10, rfl, by simp, by simp [rngD], hq1, f1.less ?_⟩, ?_, ?_⟩
  · simp only [rngD, List.length_map, List.length_range]
    omega
  · rintro ρ T ⟨ns, y4, y10, rfl, hn, hl, hT, f⟩
    simp only [List.length_nil] at hl
    unfold c_law_12
    simp only [w_seq, w_ite, w_tst, w_op2, w_ret, w_set, w_ifE, w_callE, w_callF, w_consA, w_nilA, w_pure, w_bAnd, w_bOr, w_bNot, w_chn, w_meth, w_tup, w_lst, oW_some, w_toB, w_isStr, gv0, gvS, List.set_cons_zero, List.set_cons_succ, w_nil, w_drop, app1, app2, app3, app4, w_evS, ctup_at hT]
    exact l11 (ns := ns) ⟨by omega, hn⟩ f fun y6 y7 y8 y9 y11 y12 y13 S' f' => k _ _ _ _ _ _ _ _ _ _ _ S' f'
  · rintro d ds ρ T ⟨ns, y4, y10, rfl, hn, hl, hT, f⟩
    rw [List.length_cons, Nat.mul_succ] at f
    have hTl := get_lt hT
    show oW (some ([x0, some (.ref r), some (.int i), some (.ref q), some d, x5, x6, x7, x8, x9, y10, x11, x12, x13, x14, x15], T)) _
    rw [oW_some]
    simp only [w_seq, w_ite, w_tst, w_op2, w_ret, w_set, w_ifE, w_callE, w_callF, w_consA, w_nilA, w_pure, w_bAnd, w_bOr, w_bNot, w_chn, w_meth, w_tup, w_lst, oW_some, w_toB, w_isStr, gv0, gvS, List.set_cons_zero, List.set_cons_succ, w_nil, w_drop, app1, app2, app3, app4, w_evS, lst6]
    refine w_imp0 (draw_w (N := N + 5300 + 2 * ds.length + 1) f.push (by decide) (by decide)) ?_
    rintro _ T1 ⟨j, rfl, j0, j6, f2, k2, _⟩
    have at1 := k2.at_ (Nat.ne_of_gt f.lt) (push_at2 (S := T))
    obtain ⟨y, hy, e⟩ := ix_pick at1 j0 j6
    obtain ⟨x, rfl, hx1, hx8, hxl⟩ := words_ok hy
    have hT1 := k2.at_ (by omega) (push_old hT)
    rw [e, oW_some]
    unfold c_law_13
    simp only [w_seq, w_ite, w_tst, w_op2, w_ret, w_set, w_ifE, w_callE, w_callF, w_consA, w_nilA, w_pure, w_bAnd, w_bOr, w_bNot, w_chn, w_meth, w_tup, w_lst, oW_some, w_toB, w_isStr, gv0, gvS, List.set_cons_zero, List.set_cons_succ, w_nil, w_drop, app1, app2, app3, app4, w_evS]
    rw [w_isLst hT1]
    simp only [w_seq, w_ite, w_tst, w_op2, w_ret, w_set, w_ifE, w_callE, w_callF, w_consA, w_nilA, w_pure, w_bAnd, w_bOr, w_bNot, w_chn, w_meth, w_tup, w_lst, oW_some, w_toB, w_isStr, gv0, gvS, List.set_cons_zero, List.set_cons_succ, w_nil, w_drop, app1, app2, app3, app4, w_evS, lst2]
    refine w_imp0 (draw_w (N := N + 5300 + 2 * ds.length) f2.push (by decide) (by decide)) ?_
    rintro _ T2 ⟨j2, rfl, j20, j22, f3, k3, _⟩
    have at2 := k3.at_ (Nat.ne_of_gt f2.lt) (push_at2 (S := T1))
    obtain ⟨y2, hy2, e2⟩ := ix_pick at2 j20 j22
    have hT2 := k3.at_ (by omega) (push_old hT1)
    obtain ⟨z, rfl, hz⟩ : ∃ z : Str, y2 = .str z ∧ (z = ("mend" : Str) ∨ z = ("copy" : Str)) := by
      simp only [List.mem_cons, List.not_mem_nil, or_false] at hy2
      rcases hy2 with rfl | rfl
      · exact ⟨_, rfl, .inl rfl⟩
      · exact ⟨_, rfl, .inr rfl⟩
    simp only [List.length_cons] at hl
    simp only [e2, w_seq, w_ite, w_tst, w_op2, w_ret, w_set, w_ifE, w_callE, w_callF, w_consA, w_nilA, w_pure, w_bAnd, w_bOr, w_bNot, w_chn, w_meth, w_tup, w_lst, oW_some, w_toB, w_isStr, gv0, gvS, List.set_cons_zero, List.set_cons_succ, w_nil, w_drop, app1, app2, app3, app4, w_evS, tup2, app_at hT2 (by rw [List.length_map]; omega)]
    refine ⟨trivial, ns ++ [(z, x)], _, _, rfl, fun p hp => ?_, by rw [List.length_append, List.length_singleton]; omega, ?_, f3.set hr⟩
    · rcases List.mem_append.mp hp with hp | hp
      · exact hn p hp
      · rw [List.mem_singleton.mp hp]
        exact ⟨hz, hx1, hx8, hxl⟩
    · rw [set_at hT2, List.map_append]
      rfl
theorem plain (l : List Int) (hl : l.length ≤ 63) : ∃ S, g_law [.fro (l.map Da.int)] [] = .ok (.bl true) S := by
  have h : (g_law [.fro (l.map Da.int)] []).w (fun d _ => d = .bl true) NoE := by
    refine w_run ?_
    show (b_law [some (.fro (l.map Da.int)), none, none, none, none, none, none, none, none, none, none, none, none, none, none, none] []).w _
    unfold b_law
    simp only [w_seq, w_ite, w_tst, w_op2, w_ret, w_set, w_ifE, w_callE, w_callF, w_consA, w_nilA, w_pure, w_bAnd, w_bOr, w_bNot, w_chn, w_meth, w_tup, w_lst, oW_some, w_toB, w_isStr, gv0, gvS, List.set_cons_zero, List.set_cons_succ, w_nil, w_drop, app1, app2, app3, app4, w_evS]
    refine w_imp0 (feed_w (ns := l) (S := [])) ?_
    rintro d S1 ⟨rfl, f1, _, _⟩
    unfold c_law_15
    rw [w_seq]
    refine w_for (w_rng1 ?_)
    simp only [w_seq, w_ite, w_tst, w_op2, w_ret, w_set, w_ifE, w_callE, w_callF, w_consA, w_nilA, w_pure, w_bAnd, w_bOr, w_bNot, w_chn, w_meth, w_tup, w_lst, oW_some, w_toB, w_isStr, gv0, gvS, List.set_cons_zero, List.set_cons_succ, w_nil, w_drop, app1, app2, app3, app4, w_evS]
    refine ⟨3, rfl, by decide, by decide, trivial, fun ds ρ T => ∃ (x0 x2 x3 x4 x5 x6 x7 x8 x9 x10 x11 x12 x13 x14 x15 : Option Da), ρ = [x0, some (.ref 1), x2, x3, x4, x5, x6, x7, x8, x9, x10, x11, x12, x13, x14, x15] ∧ (∀ d ∈ ds, ∃ i : Int, d = .int i) ∧ FeedAt 1 (5400 * ds.length) T,
      ⟨_, _, _, _, _, _, _, _, _, _, _, _, _, _, _, rfl, fun d hd => ?_, f1.less (by decide)⟩, ?_, ?_⟩
    · obtain ⟨i, _, rfl⟩ := List.mem_map.mp hd
      exact ⟨_, rfl⟩
    · rintro ρ T ⟨x0, x2, x3, x4, x5, x6, x7, x8, x9, x10, x11, x12, x13, x14, x15, rfl, _, f⟩
      unfold c_law_1
      simp only [w_seq, w_ite, w_tst, w_op2, w_ret, w_set, w_ifE, w_callE, w_callF, w_consA, w_nilA, w_pure, w_bAnd, w_bOr, w_bNot, w_chn, w_meth, w_tup, w_lst, oW_some, w_toB, w_isStr, gv0, gvS, List.set_cons_zero, List.set_cons_succ, w_nil, w_drop, app1, app2, app3, app4, w_evS]
    · rintro d ds ρ T ⟨x0, x2, x3, x4, x5, x6, x7, x8, x9, x10, x11, x12, x13, x14, x15, rfl, hd, f⟩
      obtain ⟨i, rfl⟩ := hd d (by simp)
      rw [List.length_cons, Nat.mul_succ] at f
      show oW (some ([x0, some (.ref 1), some (.int i), x3, x4, x5, x6, x7, x8, x9, x10, x11, x12, x13, x14, x15], T)) _
      rw [oW_some]
      simp only [w_seq, w_ite, w_tst, w_op2, w_ret, w_set, w_ifE, w_callE, w_callF, w_consA, w_nilA, w_pure, w_bAnd, w_bOr, w_bNot, w_chn, w_meth, w_tup, w_lst, oW_some, w_toB, w_isStr, gv0, gvS, List.set_cons_zero, List.set_cons_succ, w_nil, w_drop, app1, app2, app3, app4, w_evS, lst0]
      exact l14 (N := 5400 * ds.length) f.push push_at2 f.lt fun y3 y4 y5 y6 y7 y8 y9 y10 y11 y12 y13 S' f' => ⟨trivial, _, _, _, _, _, _, _, _, _, _, _, _, _, _, _, rfl, fun d hd' => hd d (List.mem_cons_of_mem _ hd'), f'⟩
  cases e : g_law [.fro (l.map Da.int)] [] with
  | ok d S =>
    rw [e] at h
    have h : d = .bl true := h
    rw [h]
    exact ⟨S, rfl⟩
  | exc c fs S => rw [e] at h; exact h.elim
  | bad => rw [e] at h; exact h.elim
end K75

/-! printed by gen.py: what the top of cancelleaves_k75_papers_as_texts has written, the end -/
namespace K75
open PySem PySem.Spec PyProof.Rows L2 M2
theorem txt_mk {K : PySem.W.Frag} {h : Heap} {mg : Str → Option Value} (X : K.In h) (G : h.Ns mainGlobals mg)
    (loo_GREATEST : ∃ t, mg "GREATEST" = some (.int 1000000000000 t))
    {f0 : Addr} {od0 an0 : Option Addr} {sl0 : Array (Option Value)} {oc0 kV0 dc0 pm0 cd0 ct0 : Value}
    {f1 : Addr} {od1 an1 : Option Addr} {sl1 : Array (Option Value)} {oc1 kV1 dc1 pm1 cd1 ct1 : Value}
    {f2 : Addr} {od2 an2 : Option Addr} {sl2 : Array (Option Value)} {oc2 kV2 dc2 pm2 cd2 ct2 : Value}
    {f3 : Addr} {od3 an3 : Option Addr} {sl3 : Array (Option Value)} {oc3 kV3 dc3 pm3 cd3 ct3 : Value}
    {f4 : Addr} {od4 an4 : Option Addr} {sl4 : Array (Option Value)} {oc4 kV4 dc4 pm4 cd4 ct4 : Value}
    {f5 : Addr} {od5 an5 : Option Addr} {sl5 : Array (Option Value)} {oc5 kV5 dc5 pm5 cd5 ct5 : Value}
    {f6 : Addr} {od6 an6 : Option Addr} {sl6 : Array (Option Value)} {oc6 kV6 dc6 pm6 cd6 ct6 : Value}
    {f7 : Addr} {od7 an7 : Option Addr} {sl7 : Array (Option Value)} {oc7 kV7 dc7 pm7 cd7 ct7 : Value}
    {f8 : Addr} {od8 an8 : Option Addr} {sl8 : Array (Option Value)} {oc8 kV8 dc8 pm8 cd8 ct8 : Value}
    {f9 : Addr} {od9 an9 : Option Addr} {sl9 : Array (Option Value)} {oc9 kV9 dc9 pm9 cd9 ct9 : Value}
    {f10 : Addr} {od10 an10 : Option Addr} {sl10 : Array (Option Value)} {oc10 kV10 dc10 pm10 cd10 ct10 : Value}
    {f11 : Addr} {od11 an11 : Option Addr} {sl11 : Array (Option Value)} {oc11 kV11 dc11 pm11 cd11 ct11 : Value}
    {f12 : Addr} {od12 an12 : Option Addr} {sl12 : Array (Option Value)} {oc12 kV12 dc12 pm12 cd12 ct12 : Value}
    {f13 : Addr} {od13 an13 : Option Addr} {sl13 : Array (Option Value)} {oc13 kV13 dc13 pm13 cd13 ct13 : Value}
    {f14 : Addr} {od14 an14 : Option Addr} {sl14 : Array (Option Value)} {oc14 kV14 dc14 pm14 cd14 ct14 : Value}
    {f15 : Addr} {od15 an15 : Option Addr} {sl15 : Array (Option Value)} {oc15 kV15 dc15 pm15 cd15 ct15 : Value}
    {f16 : Addr} {od16 an16 : Option Addr} {sl16 : Array (Option Value)} {oc16 kV16 dc16 pm16 cd16 ct16 : Value}
    {f17 : Addr} {od17 an17 : Option Addr} {sl17 : Array (Option Value)} {oc17 kV17 dc17 pm17 cd17 ct17 : Value}
    {f18 : Addr} {od18 an18 : Option Addr} {sl18 : Array (Option Value)} {oc18 kV18 dc18 pm18 cd18 ct18 : Value}
    {t_LETTERS : Tok}
    {t_MOST_LETTERS : Tok}
    {t_VOID : Tok}
    {t_NOTHING : Tok}
    {t_FIGURES : Tok}
    {t_MOST_FIGURES : Tok}
    {C_NoText I_NoText : Addr} {nm_NoText q_NoText : Str} {N_NoText : Addr} {bs_NoText bm_NoText sub_NoText : List Value} {sn_NoText : List Str} {ab_NoText : Bool} {col_NoText : Option Bool} {dd_NoText : Option Addr} {m0_NoText m1_NoText m2_NoText m3_NoText m5_NoText : Option Value}
    {od_NoText an_NoText : Option Addr} {sl_NoText : Array (Option Value)} {oc_NoText kV_NoText dc_NoText pm_NoText cd_NoText ct_NoText : Value}
    {B_LeafError : Addr}
    (a0 : PySem.W.nsIn K mainGlobals "is_word" = some (some (.ref f0)))
    (l0 : K.lookup f0 = some ⟨oc0, od0, .func (PySem.W.fnOf "is_word" "is_word" (defArgs s_is_word) (defBody s_is_word) (defScope s_is_word) .none kV0 dc0 pm0 an0 cd0 ct0), sl0⟩)
    (c0 : PySem.W.codeIn K cd0 "is_word" = true)
    (k0 : PySem.W.keepIn K (.ref f0) = true)
    (a1 : PySem.W.nsIn K mainGlobals "row_word" = some (some (.ref f1)))
    (l1 : K.lookup f1 = some ⟨oc1, od1, .func (PySem.W.fnOf "row_word" "row_word" (defArgs s_row_word) (defBody s_row_word) (defScope s_row_word) .none kV1 dc1 pm1 an1 cd1 ct1), sl1⟩)
    (c1 : PySem.W.codeIn K cd1 "row_word" = true)
    (k1 : PySem.W.keepIn K (.ref f1) = true)
    (a2 : PySem.W.nsIn K mainGlobals "nodes_word" = some (some (.ref f2)))
    (l2 : K.lookup f2 = some ⟨oc2, od2, .func (PySem.W.fnOf "nodes_word" "nodes_word" (defArgs s_nodes_word) (defBody s_nodes_word) (defScope s_nodes_word) .none kV2 dc2 pm2 an2 cd2 ct2), sl2⟩)
    (c2 : PySem.W.codeIn K cd2 "nodes_word" = true)
    (k2 : PySem.W.keepIn K (.ref f2) = true)
    (a3 : PySem.W.nsIn K mainGlobals "numbers_word" = some (some (.ref f3)))
    (l3 : K.lookup f3 = some ⟨oc3, od3, .func (PySem.W.fnOf "numbers_word" "numbers_word" (defArgs s_numbers_word) (defBody s_numbers_word) (defScope s_numbers_word) .none kV3 dc3 pm3 an3 cd3 ct3), sl3⟩)
    (c3 : PySem.W.codeIn K cd3 "numbers_word" = true)
    (k3 : PySem.W.keepIn K (.ref f3) = true)
    (a4 : PySem.W.nsIn K mainGlobals "number_paper_text" = some (some (.ref f4)))
    (l4 : K.lookup f4 = some ⟨oc4, od4, .func (PySem.W.fnOf "number_paper_text" "number_paper_text" (defArgs s_number_paper_text) (defBody s_number_paper_text) (defScope s_number_paper_text) .none kV4 dc4 pm4 an4 cd4 ct4), sl4⟩)
    (c4 : PySem.W.codeIn K cd4 "number_paper_text" = true)
    (k4 : PySem.W.keepIn K (.ref f4) = true)
    (a5 : PySem.W.nsIn K mainGlobals "number_in" = some (some (.ref f5)))
    (l5 : K.lookup f5 = some ⟨oc5, od5, .func (PySem.W.fnOf "number_in" "number_in" (defArgs s_number_in) (defBody s_number_in) (defScope s_number_in) .none kV5 dc5 pm5 an5 cd5 ct5), sl5⟩)
    (c5 : PySem.W.codeIn K cd5 "number_in" = true)
    (k5 : PySem.W.keepIn K (.ref f5) = true)
    (a6 : PySem.W.nsIn K mainGlobals "node_in" = some (some (.ref f6)))
    (l6 : K.lookup f6 = some ⟨oc6, od6, .func (PySem.W.fnOf "node_in" "node_in" (defArgs s_node_in) (defBody s_node_in) (defScope s_node_in) .none kV6 dc6 pm6 an6 cd6 ct6), sl6⟩)
    (c6 : PySem.W.codeIn K cd6 "node_in" = true)
    (k6 : PySem.W.keepIn K (.ref f6) = true)
    (a7 : PySem.W.nsIn K mainGlobals "nodes_in" = some (some (.ref f7)))
    (l7 : K.lookup f7 = some ⟨oc7, od7, .func (PySem.W.fnOf "nodes_in" "nodes_in" (defArgs s_nodes_in) (defBody s_nodes_in) (defScope s_nodes_in) .none kV7 dc7 pm7 an7 cd7 ct7), sl7⟩)
    (c7 : PySem.W.codeIn K cd7 "nodes_in" = true)
    (k7 : PySem.W.keepIn K (.ref f7) = true)
    (a8 : PySem.W.nsIn K mainGlobals "numbers_in" = some (some (.ref f8)))
    (l8 : K.lookup f8 = some ⟨oc8, od8, .func (PySem.W.fnOf "numbers_in" "numbers_in" (defArgs s_numbers_in) (defBody s_numbers_in) (defScope s_numbers_in) .none kV8 dc8 pm8 an8 cd8 ct8), sl8⟩)
    (c8 : PySem.W.codeIn K cd8 "numbers_in" = true)
    (k8 : PySem.W.keepIn K (.ref f8) = true)
    (a9 : PySem.W.nsIn K mainGlobals "sets_in" = some (some (.ref f9)))
    (l9 : K.lookup f9 = some ⟨oc9, od9, .func (PySem.W.fnOf "sets_in" "sets_in" (defArgs s_sets_in) (defBody s_sets_in) (defScope s_sets_in) .none kV9 dc9 pm9 an9 cd9 ct9), sl9⟩)
    (c9 : PySem.W.codeIn K cd9 "sets_in" = true)
    (k9 : PySem.W.keepIn K (.ref f9) = true)
    (a10 : PySem.W.nsIn K mainGlobals "read_nodes" = some (some (.ref f10)))
    (l10 : K.lookup f10 = some ⟨oc10, od10, .func (PySem.W.fnOf "read_nodes" "read_nodes" (defArgs s_read_nodes) (defBody s_read_nodes) (defScope s_read_nodes) .none kV10 dc10 pm10 an10 cd10 ct10), sl10⟩)
    (c10 : PySem.W.codeIn K cd10 "read_nodes" = true)
    (k10 : PySem.W.keepIn K (.ref f10) = true)
    (a11 : PySem.W.nsIn K mainGlobals "read_number_paper" = some (some (.ref f11)))
    (l11 : K.lookup f11 = some ⟨oc11, od11, .func (PySem.W.fnOf "read_number_paper" "read_number_paper" (defArgs s_read_number_paper) (defBody s_read_number_paper) (defScope s_read_number_paper) .none kV11 dc11 pm11 an11 cd11 ct11), sl11⟩)
    (c11 : PySem.W.codeIn K cd11 "read_number_paper" = true)
    (k11 : PySem.W.keepIn K (.ref f11) = true)
    (a12 : PySem.W.nsIn K mainGlobals "_law_feed" = some (some (.ref f12)))
    (l12 : K.lookup f12 = some ⟨oc12, od12, .func (PySem.W.fnOf "_law_feed" "_law_feed" (defArgs s_law_feed) (defBody s_law_feed) (defScope s_law_feed) .none kV12 dc12 pm12 an12 cd12 ct12), sl12⟩)
    (c12 : PySem.W.codeIn K cd12 "_law_feed" = true)
    (k12 : PySem.W.keepIn K (.ref f12) = true)
    (a13 : PySem.W.nsIn K mainGlobals "_law_draw" = some (some (.ref f13)))
    (l13 : K.lookup f13 = some ⟨oc13, od13, .func (PySem.W.fnOf "_law_draw" "_law_draw" (defArgs s_law_draw) (defBody s_law_draw) (defScope s_law_draw) .none kV13 dc13 pm13 an13 cd13 ct13), sl13⟩)
    (c13 : PySem.W.codeIn K cd13 "_law_draw" = true)
    (k13 : PySem.W.keepIn K (.ref f13) = true)
    (a14 : PySem.W.nsIn K mainGlobals "_law_numbers" = some (some (.ref f14)))
    (l14 : K.lookup f14 = some ⟨oc14, od14, .func (PySem.W.fnOf "_law_numbers" "_law_numbers" (defArgs s_law_numbers) (defBody s_law_numbers) (defScope s_law_numbers) .none kV14 dc14 pm14 an14 cd14 ct14), sl14⟩)
    (c14 : PySem.W.codeIn K cd14 "_law_numbers" = true)
    (k14 : PySem.W.keepIn K (.ref f14) = true)
    (a15 : PySem.W.nsIn K mainGlobals "_law_many" = some (some (.ref f15)))
    (l15 : K.lookup f15 = some ⟨oc15, od15, .func (PySem.W.fnOf "_law_many" "_law_many" (defArgs s_law_many) (defBody s_law_many) (defScope s_law_many) .none kV15 dc15 pm15 an15 cd15 ct15), sl15⟩)
    (c15 : PySem.W.codeIn K cd15 "_law_many" = true)
    (k15 : PySem.W.keepIn K (.ref f15) = true)
    (a16 : PySem.W.nsIn K mainGlobals "_law_numbers_word" = some (some (.ref f16)))
    (l16 : K.lookup f16 = some ⟨oc16, od16, .func (PySem.W.fnOf "_law_numbers_word" "_law_numbers_word" (defArgs s_law_numbers_word) (defBody s_law_numbers_word) (defScope s_law_numbers_word) .none kV16 dc16 pm16 an16 cd16 ct16), sl16⟩)
    (c16 : PySem.W.codeIn K cd16 "_law_numbers_word" = true)
    (k16 : PySem.W.keepIn K (.ref f16) = true)
    (a17 : PySem.W.nsIn K mainGlobals "_law_refused" = some (some (.ref f17)))
    (l17 : K.lookup f17 = some ⟨oc17, od17, .func (PySem.W.fnOf "_law_refused" "_law_refused" (defArgs s_law_refused) (defBody s_law_refused) (defScope s_law_refused) .none kV17 dc17 pm17 an17 cd17 ct17), sl17⟩)
    (c17 : PySem.W.codeIn K cd17 "_law_refused" = true)
    (k17 : PySem.W.keepIn K (.ref f17) = true)
    (a18 : PySem.W.nsIn K mainGlobals "law" = some (some (.ref f18)))
    (l18 : K.lookup f18 = some ⟨oc18, od18, .func (PySem.W.fnOf "law" "law" (defArgs s_law) (defBody s_law) (defScope s_law) .none kV18 dc18 pm18 an18 cd18 ct18), sl18⟩)
    (c18 : PySem.W.codeIn K cd18 "law" = true)
    (k18 : PySem.W.keepIn K (.ref f18) = true)
    (z_all : PySem.W.nsIn K mainGlobals "all" = some none)
    (z_int : PySem.W.nsIn K mainGlobals "int" = some none)
    (z_isinstance : PySem.W.nsIn K mainGlobals "isinstance" = some none)
    (z_len : PySem.W.nsIn K mainGlobals "len" = some none)
    (z_range : PySem.W.nsIn K mainGlobals "range" = some none)
    (z_repr : PySem.W.nsIn K mainGlobals "repr" = some none)
    (z_str : PySem.W.nsIn K mainGlobals "str" = some none)
    (z_tuple : PySem.W.nsIn K mainGlobals "tuple" = some none)
    (z_zip : PySem.W.nsIn K mainGlobals "zip" = some none)
    (v_LETTERS : PySem.W.nsIn K mainGlobals "LETTERS" = some (some (.str ("abcdefghijklmnopqrstuvwxyz" : Str) t_LETTERS)))
    (v_MOST_LETTERS : PySem.W.nsIn K mainGlobals "MOST_LETTERS" = some (some (.int 8 t_MOST_LETTERS)))
    (v_VOID : PySem.W.nsIn K mainGlobals "VOID" = some (some (.str ("-" : Str) t_VOID)))
    (v_NOTHING : PySem.W.nsIn K mainGlobals "NOTHING" = some (some (.str ("." : Str) t_NOTHING)))
    (v_FIGURES : PySem.W.nsIn K mainGlobals "FIGURES" = some (some (.str ("0123456789" : Str) t_FIGURES)))
    (v_MOST_FIGURES : PySem.W.nsIn K mainGlobals "MOST_FIGURES" = some (some (.int 12 t_MOST_FIGURES)))
    (a_NoText : PySem.W.nsIn K mainGlobals "NoText" = some (some (.ref C_NoText)))
    (x_NoText : K.lookup C_NoText = some (excClassObj nm_NoText q_NoText C_NoText N_NoText bs_NoText bm_NoText true sn_NoText sub_NoText ab_NoText col_NoText dd_NoText m0_NoText m1_NoText m2_NoText m3_NoText m5_NoText "ValueError.__new__"))
    (rv_NoText : PySem.HandSPX.refsVE bm_NoText = true)
    (sa_NoText : PySem.W.findIn K (.ref C_NoText) "__setattr__" = some (some (.builtin "object.__setattr__")))
    (ga_NoText : PySem.W.findIn K (.ref C_NoText) "__getattribute__" = some (some (.builtin "BaseException.__getattribute__")))
    (gg_NoText : PySem.W.findIn K (.ref C_NoText) "__getattr__" = some none)
    (eC_NoText : PySem.W.subIn K (.ref C_NoText) (.type "BaseException") = some true)
    (tC_NoText : PySem.W.typeIn K (.ref C_NoText) = some (.type "type"))
    (kC_NoText : PySem.W.keepIn K (.ref C_NoText) = true)
    (hC_NoText : PySem.W.hasDictIn K C_NoText = true)
    (iC_NoText : PySem.W.isClsIn K C_NoText = true)
    (sC_NoText : PySem.W.subIn K (.ref C_NoText) (.ref C_NoText) = some true)
    (n1_NoText : PySem.W.findIn K (.ref C_NoText) "row" = some none)
    (n2_NoText : PySem.W.findIn K (.ref C_NoText) "word" = some none)
    (ai_NoText : PySem.W.findIn K (.ref C_NoText) "__init__" = some (some (.ref I_NoText)))
    (ti_NoText : PySem.W.typeIn K (.ref I_NoText) = some (.type "function"))
    (l_NoText : K.lookup I_NoText = some ⟨oc_NoText, od_NoText, .func (PySem.W.fnOf "__init__" "NoText.__init__" (defArgs si_NoText) (defBody si_NoText) (defScope si_NoText) .none kV_NoText dc_NoText pm_NoText an_NoText cd_NoText ct_NoText), sl_NoText⟩)
    (c_NoText : PySem.W.codeIn K cd_NoText "NoText.__init__" = true)
    (k_NoText : PySem.W.keepIn K (.ref I_NoText) = true)
    (ab_LeafError : PySem.W.nsIn K mainGlobals "LeafError" = some (some (.ref B_LeafError)))
    (sp_LeafError : PySem.W.specialIn K (.ref B_LeafError) "__getattribute__" = some (some (.builtin "type.__getattribute__")))
    (rd_LeafError : PySem.W.readsIn K B_LeafError (.type "type") = true)
    (fc_LeafError : PySem.W.findCls K (.ref B_LeafError) (.type "type") "__init__" = some (.val (.builtin "ValueError.__init__")))
    : Txt K mg I_NoText := by
  have g_NoText := PySem.W.mg_of X G a_NoText
  have e_NoText := adOf_eq g_NoText
  have gb_LeafError := PySem.W.mg_of X G ab_LeafError
  have eb_LeafError := adOf_eq gb_LeafError
  exact {
    d_is_word := dn_mk X G a0 l0 c0 k0 fun _ _ _ _ _ _ us hl => match us, hl with | [_], _ => rfl
    d_row_word := dn_mk X G a1 l1 c1 k1 fun _ _ _ _ _ _ us hl => match us, hl with | [_], _ => rfl
    d_nodes_word := dn_mk X G a2 l2 c2 k2 fun _ _ _ _ _ _ us hl => match us, hl with | [_], _ => rfl
    d_numbers_word := dn_mk X G a3 l3 c3 k3 fun _ _ _ _ _ _ us hl => match us, hl with | [_], _ => rfl
    d_number_paper_text := dn_mk X G a4 l4 c4 k4 fun _ _ _ _ _ _ us hl => match us, hl with | [_], _ => rfl
    d_number_in := dn_mk X G a5 l5 c5 k5 fun _ _ _ _ _ _ us hl => match us, hl with | [_, _, _], _ => rfl
    d_node_in := dn_mk X G a6 l6 c6 k6 fun _ _ _ _ _ _ us hl => match us, hl with | [_], _ => rfl
    d_nodes_in := dn_mk X G a7 l7 c7 k7 fun _ _ _ _ _ _ us hl => match us, hl with | [_], _ => rfl
    d_numbers_in := dn_mk X G a8 l8 c8 k8 fun _ _ _ _ _ _ us hl => match us, hl with | [_], _ => rfl
    d_sets_in := dn_mk X G a9 l9 c9 k9 fun _ _ _ _ _ _ us hl => match us, hl with | [_], _ => rfl
    d_read_nodes := dn_mk X G a10 l10 c10 k10 fun _ _ _ _ _ _ us hl => match us, hl with | [_], _ => rfl
    d_read_number_paper := dn_mk X G a11 l11 c11 k11 fun _ _ _ _ _ _ us hl => match us, hl with | [_], _ => rfl
    d_law_feed := dn_mk X G a12 l12 c12 k12 fun _ _ _ _ _ _ us hl => match us, hl with | [_], _ => rfl
    d_law_draw := dn_mk X G a13 l13 c13 k13 fun _ _ _ _ _ _ us hl => match us, hl with | [_, _], _ => rfl
    d_law_numbers := dn_mk X G a14 l14 c14 k14 fun _ _ _ _ _ _ us hl => match us, hl with | [_, _], _ => rfl
    d_law_many := dn_mk X G a15 l15 c15 k15 fun _ _ _ _ _ _ us hl => match us, hl with | [_], _ => rfl
    d_law_numbers_word := dn_mk X G a16 l16 c16 k16 fun _ _ _ _ _ _ us hl => match us, hl with | [_], _ => rfl
    d_law_refused := dn_mk X G a17 l17 c17 k17 fun _ _ _ _ _ _ us hl => match us, hl with | [_, _], _ => rfl
    d_law := dn_mk X G a18 l18 c18 k18 fun _ _ _ _ _ _ us hl => match us, hl with | [_], _ => rfl
    b_all := PySem.W.mg_none_of X G z_all
    b_int := PySem.W.mg_none_of X G z_int
    b_isinstance := PySem.W.mg_none_of X G z_isinstance
    b_len := PySem.W.mg_none_of X G z_len
    b_range := PySem.W.mg_none_of X G z_range
    b_repr := PySem.W.mg_none_of X G z_repr
    b_str := PySem.W.mg_none_of X G z_str
    b_tuple := PySem.W.mg_none_of X G z_tuple
    b_zip := PySem.W.mg_none_of X G z_zip
    c_LETTERS := ⟨_, PySem.W.mg_of X G v_LETTERS⟩
    c_MOST_LETTERS := ⟨_, PySem.W.mg_of X G v_MOST_LETTERS⟩
    c_VOID := ⟨_, PySem.W.mg_of X G v_VOID⟩
    c_NOTHING := ⟨_, PySem.W.mg_of X G v_NOTHING⟩
    c_FIGURES := ⟨_, PySem.W.mg_of X G v_FIGURES⟩
    c_MOST_FIGURES := ⟨_, PySem.W.mg_of X G v_MOST_FIGURES⟩
    c_GREATEST := loo_GREATEST
    NoText := by
      refine ⟨by rw [e_NoText]; exact g_NoText, ?_, ?_, by rw [e_NoText]; exact ai_NoText, ti_NoText, ⟨_, fun_mk l_NoText c_NoText k_NoText, (fun_mk l_NoText c_NoText k_NoText).binds fun _ _ _ _ _ _ us hl => match us, hl with | [_, _, _], _ => rfl⟩, by rw [e_NoText]; exact n1_NoText, by rw [e_NoText]; exact n2_NoText, ?_⟩
      · rw [e_NoText]
        exact ⟨⟨nm_NoText, q_NoText, N_NoText, bs_NoText, bm_NoText, sn_NoText, sub_NoText, ab_NoText, col_NoText, dd_NoText, m0_NoText, m1_NoText, m2_NoText, m3_NoText, m5_NoText, x_NoText, rv_NoText⟩, sa_NoText, eC_NoText, tC_NoText, kC_NoText⟩
      · rw [e_NoText]
        exact ⟨ga_NoText, gg_NoText, eC_NoText, hC_NoText⟩
      · rw [eb_LeafError]
        exact ⟨gb_LeafError, sp_LeafError, rd_LeafError, fc_LeafError⟩
    ex_NoText := by
      rw [e_NoText]
      exact exm_own eC_NoText iC_NoText tC_NoText sC_NoText
  }
theorem law_fd {P : Program} {w : World} {K : PySem.W.Frag} {mg : Str → Option Value} {fa : Addr} {i_NoText : Addr} (T : Txt K mg i_NoText) (hfa : mg "law" = some (.ref fa)) (plain : ∀ ns : List Int, ns.length ≤ 63 → ∃ S, g_law [.fro (ns.map Da.int)] [] = .ok (.bl true) S) :
    ∃ (fd : FuncData) (nm : Nv) (g : List Da → M Da), (∀ (t : Shared) (u : Value), BindsTo t fd ⟨[u], []⟩ [("script", u)]) ∧ (∀ μ H, nm.inv μ H) ∧ (∀ ns : List Int, ns.length ≤ 63 → ∃ S, g [.fro (ns.map Da.int)] [] = .ok (.bl true) S) ∧
      ∀ base : Heap, K.In base → base.Ns mainGlobals mg → FnG P w K mg base 6 fa fd ["script"] (spM ⟨K, nm⟩ 1 g) := by
  have e := hfa.symm.trans T.g_law
  have e2 : fa = adOf mg "law" := by cases e; rfl
  subst e2
  obtain ⟨fd, F, hb⟩ := T.d_law.f
  refine ⟨fd, nv (adOf mg), g_law, fun t u => ?_, fun _ _ => trivial, plain, fun base _ _ => okF_law T F⟩
  obtain ⟨oc, od, kV, doc, pm, an, cdv, ct, osl, efd, lk, hcd⟩ := F.ex
  subst efd
  exact .of_eq rfl
theorem end_mk {P : Program} {w : World} {K : PySem.W.Frag} {h : Heap} {mg : Str → Option Value} {fa : Addr} (X : K.In h) (G : h.Ns mainGlobals mg) (hfa : mg "law" = some (.ref fa)) (plain : ∀ ns : List Int, ns.length ≤ 63 → ∃ S, g_law [.fro (ns.map Da.int)] [] = .ok (.bl true) S)
    (loo_GREATEST : ∃ t, mg "GREATEST" = some (.int 1000000000000 t))
    {f0 : Addr} {od0 an0 : Option Addr} {sl0 : Array (Option Value)} {oc0 kV0 dc0 pm0 cd0 ct0 : Value}
    {f1 : Addr} {od1 an1 : Option Addr} {sl1 : Array (Option Value)} {oc1 kV1 dc1 pm1 cd1 ct1 : Value}
    {f2 : Addr} {od2 an2 : Option Addr} {sl2 : Array (Option Value)} {oc2 kV2 dc2 pm2 cd2 ct2 : Value}
    {f3 : Addr} {od3 an3 : Option Addr} {sl3 : Array (Option Value)} {oc3 kV3 dc3 pm3 cd3 ct3 : Value}
    {f4 : Addr} {od4 an4 : Option Addr} {sl4 : Array (Option Value)} {oc4 kV4 dc4 pm4 cd4 ct4 : Value}
    {f5 : Addr} {od5 an5 : Option Addr} {sl5 : Array (Option Value)} {oc5 kV5 dc5 pm5 cd5 ct5 : Value}
    {f6 : Addr} {od6 an6 : Option Addr} {sl6 : Array (Option Value)} {oc6 kV6 dc6 pm6 cd6 ct6 : Value}
    {f7 : Addr} {od7 an7 : Option Addr} {sl7 : Array (Option Value)} {oc7 kV7 dc7 pm7 cd7 ct7 : Value}
    {f8 : Addr} {od8 an8 : Option Addr} {sl8 : Array (Option Value)} {oc8 kV8 dc8 pm8 cd8 ct8 : Value}
    {f9 : Addr} {od9 an9 : Option Addr} {sl9 : Array (Option Value)} {oc9 kV9 dc9 pm9 cd9 ct9 : Value}
    {f10 : Addr} {od10 an10 : Option Addr} {sl10 : Array (Option Value)} {oc10 kV10 dc10 pm10 cd10 ct10 : Value}
    {f11 : Addr} {od11 an11 : Option Addr} {sl11 : Array (Option Value)} {oc11 kV11 dc11 pm11 cd11 ct11 : Value}
    {f12 : Addr} {od12 an12 : Option Addr} {sl12 : Array (Option Value)} {oc12 kV12 dc12 pm12 cd12 ct12 : Value}
    {f13 : Addr} {od13 an13 : Option Addr} {sl13 : Array (Option Value)} {oc13 kV13 dc13 pm13 cd13 ct13 : Value}
    {f14 : Addr} {od14 an14 : Option Addr} {sl14 : Array (Option Value)} {oc14 kV14 dc14 pm14 cd14 ct14 : Value}
    {f15 : Addr} {od15 an15 : Option Addr} {sl15 : Array (Option Value)} {oc15 kV15 dc15 pm15 cd15 ct15 : Value}
    {f16 : Addr} {od16 an16 : Option Addr} {sl16 : Array (Option Value)} {oc16 kV16 dc16 pm16 cd16 ct16 : Value}
    {f17 : Addr} {od17 an17 : Option Addr} {sl17 : Array (Option Value)} {oc17 kV17 dc17 pm17 cd17 ct17 : Value}
    {f18 : Addr} {od18 an18 : Option Addr} {sl18 : Array (Option Value)} {oc18 kV18 dc18 pm18 cd18 ct18 : Value}
    {t_LETTERS : Tok}
    {t_MOST_LETTERS : Tok}
    {t_VOID : Tok}
    {t_NOTHING : Tok}
    {t_FIGURES : Tok}
    {t_MOST_FIGURES : Tok}
    {C_NoText I_NoText : Addr} {nm_NoText q_NoText : Str} {N_NoText : Addr} {bs_NoText bm_NoText sub_NoText : List Value} {sn_NoText : List Str} {ab_NoText : Bool} {col_NoText : Option Bool} {dd_NoText : Option Addr} {m0_NoText m1_NoText m2_NoText m3_NoText m5_NoText : Option Value}
    {od_NoText an_NoText : Option Addr} {sl_NoText : Array (Option Value)} {oc_NoText kV_NoText dc_NoText pm_NoText cd_NoText ct_NoText : Value}
    {B_LeafError : Addr}
    (a0 : PySem.W.nsIn K mainGlobals "is_word" = some (some (.ref f0)))
    (l0 : K.lookup f0 = some ⟨oc0, od0, .func (PySem.W.fnOf "is_word" "is_word" (defArgs s_is_word) (defBody s_is_word) (defScope s_is_word) .none kV0 dc0 pm0 an0 cd0 ct0), sl0⟩)
    (c0 : PySem.W.codeIn K cd0 "is_word" = true)
    (k0 : PySem.W.keepIn K (.ref f0) = true)
    (a1 : PySem.W.nsIn K mainGlobals "row_word" = some (some (.ref f1)))
    (l1 : K.lookup f1 = some ⟨oc1, od1, .func (PySem.W.fnOf "row_word" "row_word" (defArgs s_row_word) (defBody s_row_word) (defScope s_row_word) .none kV1 dc1 pm1 an1 cd1 ct1), sl1⟩)
    (c1 : PySem.W.codeIn K cd1 "row_word" = true)
    (k1 : PySem.W.keepIn K (.ref f1) = true)
    (a2 : PySem.W.nsIn K mainGlobals "nodes_word" = some (some (.ref f2)))
    (l2 : K.lookup f2 = some ⟨oc2, od2, .func (PySem.W.fnOf "nodes_word" "nodes_word" (defArgs s_nodes_word) (defBody s_nodes_word) (defScope s_nodes_word) .none kV2 dc2 pm2 an2 cd2 ct2), sl2⟩)
    (c2 : PySem.W.codeIn K cd2 "nodes_word" = true)
    (k2 : PySem.W.keepIn K (.ref f2) = true)
    (a3 : PySem.W.nsIn K mainGlobals "numbers_word" = some (some (.ref f3)))
    (l3 : K.lookup f3 = some ⟨oc3, od3, .func (PySem.W.fnOf "numbers_word" "numbers_word" (defArgs s_numbers_word) (defBody s_numbers_word) (defScope s_numbers_word) .none kV3 dc3 pm3 an3 cd3 ct3), sl3⟩)
    (c3 : PySem.W.codeIn K cd3 "numbers_word" = true)
    (k3 : PySem.W.keepIn K (.ref f3) = true)
    (a4 : PySem.W.nsIn K mainGlobals "number_paper_text" = some (some (.ref f4)))
    (l4 : K.lookup f4 = some ⟨oc4, od4, .func (PySem.W.fnOf "number_paper_text" "number_paper_text" (defArgs s_number_paper_text) (defBody s_number_paper_text) (defScope s_number_paper_text) .none kV4 dc4 pm4 an4 cd4 ct4), sl4⟩)
    (c4 : PySem.W.codeIn K cd4 "number_paper_text" = true)
    (k4 : PySem.W.keepIn K (.ref f4) = true)
    (a5 : PySem.W.nsIn K mainGlobals "number_in" = some (some (.ref f5)))
    (l5 : K.lookup f5 = some ⟨oc5, od5, .func (PySem.W.fnOf "number_in" "number_in" (defArgs s_number_in) (defBody s_number_in) (defScope s_number_in) .none kV5 dc5 pm5 an5 cd5 ct5), sl5⟩)
    (c5 : PySem.W.codeIn K cd5 "number_in" = true)
    (k5 : PySem.W.keepIn K (.ref f5) = true)
    (a6 : PySem.W.nsIn K mainGlobals "node_in" = some (some (.ref f6)))
    (l6 : K.lookup f6 = some ⟨oc6, od6, .func (PySem.W.fnOf "node_in" "node_in" (defArgs s_node_in) (defBody s_node_in) (defScope s_node_in) .none kV6 dc6 pm6 an6 cd6 ct6), sl6⟩)
    (c6 : PySem.W.codeIn K cd6 "node_in" = true)
    (k6 : PySem.W.keepIn K (.ref f6) = true)
    (a7 : PySem.W.nsIn K mainGlobals "nodes_in" = some (some (.ref f7)))
    (l7 : K.lookup f7 = some ⟨oc7, od7, .func (PySem.W.fnOf "nodes_in" "nodes_in" (defArgs s_nodes_in) (defBody s_nodes_in) (defScope s_nodes_in) .none kV7 dc7 pm7 an7 cd7 ct7), sl7⟩)
    (c7 : PySem.W.codeIn K cd7 "nodes_in" = true)
    (k7 : PySem.W.keepIn K (.ref f7) = true)
    (a8 : PySem.W.nsIn K mainGlobals "numbers_in" = some (some (.ref f8)))
    (l8 : K.lookup f8 = some ⟨oc8, od8, .func (PySem.W.fnOf "numbers_in" "numbers_in" (defArgs s_numbers_in) (defBody s_numbers_in) (defScope s_numbers_in) .none kV8 dc8 pm8 an8 cd8 ct8), sl8⟩)
    (c8 : PySem.W.codeIn K cd8 "numbers_in" = true)
    (k8 : PySem.W.keepIn K (.ref f8) = true)
    (a9 : PySem.W.nsIn K mainGlobals "sets_in" = some (some (.ref f9)))
    (l9 : K.lookup f9 = some ⟨oc9, od9, .func (PySem.W.fnOf "sets_in" "sets_in" (defArgs s_sets_in) (defBody s_sets_in) (defScope s_sets_in) .none kV9 dc9 pm9 an9 cd9 ct9), sl9⟩)
    (c9 : PySem.W.codeIn K cd9 "sets_in" = true)
    (k9 : PySem.W.keepIn K (.ref f9) = true)
    (a10 : PySem.W.nsIn K mainGlobals "read_nodes" = some (some (.ref f10)))
    (l10 : K.lookup f10 = some ⟨oc10, od10, .func (PySem.W.fnOf "read_nodes" "read_nodes" (defArgs s_read_nodes) (defBody s_read_nodes) (defScope s_read_nodes) .none kV10 dc10 pm10 an10 cd10 ct10), sl10⟩)
    (c10 : PySem.W.codeIn K cd10 "read_nodes" = true)
    (k10 : PySem.W.keepIn K (.ref f10) = true)
    (a11 : PySem.W.nsIn K mainGlobals "read_number_paper" = some (some (.ref f11)))
    (l11 : K.lookup f11 = some ⟨oc11, od11, .func (PySem.W.fnOf "read_number_paper" "read_number_paper" (defArgs s_read_number_paper) (defBody s_read_number_paper) (defScope s_read_number_paper) .none kV11 dc11 pm11 an11 cd11 ct11), sl11⟩)
    (c11 : PySem.W.codeIn K cd11 "read_number_paper" = true)
    (k11 : PySem.W.keepIn K (.ref f11) = true)
    (a12 : PySem.W.nsIn K mainGlobals "_law_feed" = some (some (.ref f12)))
    (l12 : K.lookup f12 = some ⟨oc12, od12, .func (PySem.W.fnOf "_law_feed" "_law_feed" (defArgs s_law_feed) (defBody s_law_feed) (defScope s_law_feed) .none kV12 dc12 pm12 an12 cd12 ct12), sl12⟩)
    (c12 : PySem.W.codeIn K cd12 "_law_feed" = true)
    (k12 : PySem.W.keepIn K (.ref f12) = true)
    (a13 : PySem.W.nsIn K mainGlobals "_law_draw" = some (some (.ref f13)))
    (l13 : K.lookup f13 = some ⟨oc13, od13, .func (PySem.W.fnOf "_law_draw" "_law_draw" (defArgs s_law_draw) (defBody s_law_draw) (defScope s_law_draw) .none kV13 dc13 pm13 an13 cd13 ct13), sl13⟩)
    (c13 : PySem.W.codeIn K cd13 "_law_draw" = true)
    (k13 : PySem.W.keepIn K (.ref f13) = true)
    (a14 : PySem.W.nsIn K mainGlobals "_law_numbers" = some (some (.ref f14)))
    (l14 : K.lookup f14 = some ⟨oc14, od14, .func (PySem.W.fnOf "_law_numbers" "_law_numbers" (defArgs s_law_numbers) (defBody s_law_numbers) (defScope s_law_numbers) .none kV14 dc14 pm14 an14 cd14 ct14), sl14⟩)
    (c14 : PySem.W.codeIn K cd14 "_law_numbers" = true)
    (k14 : PySem.W.keepIn K (.ref f14) = true)
    (a15 : PySem.W.nsIn K mainGlobals "_law_many" = some (some (.ref f15)))
    (l15 : K.lookup f15 = some ⟨oc15, od15, .func (PySem.W.fnOf "_law_many" "_law_many" (defArgs s_law_many) (defBody s_law_many) (defScope s_law_many) .none kV15 dc15 pm15 an15 cd15 ct15), sl15⟩)
    (c15 : PySem.W.codeIn K cd15 "_law_many" = true)
    (k15 : PySem.W.keepIn K (.ref f15) = true)
    (a16 : PySem.W.nsIn K mainGlobals "_law_numbers_word" = some (some (.ref f16)))
    (l16 : K.lookup f16 = some ⟨oc16, od16, .func (PySem.W.fnOf "_law_numbers_word" "_law_numbers_word" (defArgs s_law_numbers_word) (defBody s_law_numbers_word) (defScope s_law_numbers_word) .none kV16 dc16 pm16 an16 cd16 ct16), sl16⟩)
    (c16 : PySem.W.codeIn K cd16 "_law_numbers_word" = true)
    (k16 : PySem.W.keepIn K (.ref f16) = true)
    (a17 : PySem.W.nsIn K mainGlobals "_law_refused" = some (some (.ref f17)))
    (l17 : K.lookup f17 = some ⟨oc17, od17, .func (PySem.W.fnOf "_law_refused" "_law_refused" (defArgs s_law_refused) (defBody s_law_refused) (defScope s_law_refused) .none kV17 dc17 pm17 an17 cd17 ct17), sl17⟩)
    (c17 : PySem.W.codeIn K cd17 "_law_refused" = true)
    (k17 : PySem.W.keepIn K (.ref f17) = true)
    (a18 : PySem.W.nsIn K mainGlobals "law" = some (some (.ref f18)))
    (l18 : K.lookup f18 = some ⟨oc18, od18, .func (PySem.W.fnOf "law" "law" (defArgs s_law) (defBody s_law) (defScope s_law) .none kV18 dc18 pm18 an18 cd18 ct18), sl18⟩)
    (c18 : PySem.W.codeIn K cd18 "law" = true)
    (k18 : PySem.W.keepIn K (.ref f18) = true)
    (z_all : PySem.W.nsIn K mainGlobals "all" = some none)
    (z_int : PySem.W.nsIn K mainGlobals "int" = some none)
    (z_isinstance : PySem.W.nsIn K mainGlobals "isinstance" = some none)
    (z_len : PySem.W.nsIn K mainGlobals "len" = some none)
    (z_range : PySem.W.nsIn K mainGlobals "range" = some none)
    (z_repr : PySem.W.nsIn K mainGlobals "repr" = some none)
    (z_str : PySem.W.nsIn K mainGlobals "str" = some none)
    (z_tuple : PySem.W.nsIn K mainGlobals "tuple" = some none)
    (z_zip : PySem.W.nsIn K mainGlobals "zip" = some none)
    (v_LETTERS : PySem.W.nsIn K mainGlobals "LETTERS" = some (some (.str ("abcdefghijklmnopqrstuvwxyz" : Str) t_LETTERS)))
    (v_MOST_LETTERS : PySem.W.nsIn K mainGlobals "MOST_LETTERS" = some (some (.int 8 t_MOST_LETTERS)))
    (v_VOID : PySem.W.nsIn K mainGlobals "VOID" = some (some (.str ("-" : Str) t_VOID)))
    (v_NOTHING : PySem.W.nsIn K mainGlobals "NOTHING" = some (some (.str ("." : Str) t_NOTHING)))
    (v_FIGURES : PySem.W.nsIn K mainGlobals "FIGURES" = some (some (.str ("0123456789" : Str) t_FIGURES)))
    (v_MOST_FIGURES : PySem.W.nsIn K mainGlobals "MOST_FIGURES" = some (some (.int 12 t_MOST_FIGURES)))
    (a_NoText : PySem.W.nsIn K mainGlobals "NoText" = some (some (.ref C_NoText)))
    (x_NoText : K.lookup C_NoText = some (excClassObj nm_NoText q_NoText C_NoText N_NoText bs_NoText bm_NoText true sn_NoText sub_NoText ab_NoText col_NoText dd_NoText m0_NoText m1_NoText m2_NoText m3_NoText m5_NoText "ValueError.__new__"))
    (rv_NoText : PySem.HandSPX.refsVE bm_NoText = true)
    (sa_NoText : PySem.W.findIn K (.ref C_NoText) "__setattr__" = some (some (.builtin "object.__setattr__")))
    (ga_NoText : PySem.W.findIn K (.ref C_NoText) "__getattribute__" = some (some (.builtin "BaseException.__getattribute__")))
    (gg_NoText : PySem.W.findIn K (.ref C_NoText) "__getattr__" = some none)
    (eC_NoText : PySem.W.subIn K (.ref C_NoText) (.type "BaseException") = some true)
    (tC_NoText : PySem.W.typeIn K (.ref C_NoText) = some (.type "type"))
    (kC_NoText : PySem.W.keepIn K (.ref C_NoText) = true)
    (hC_NoText : PySem.W.hasDictIn K C_NoText = true)
    (iC_NoText : PySem.W.isClsIn K C_NoText = true)
    (sC_NoText : PySem.W.subIn K (.ref C_NoText) (.ref C_NoText) = some true)
    (n1_NoText : PySem.W.findIn K (.ref C_NoText) "row" = some none)
    (n2_NoText : PySem.W.findIn K (.ref C_NoText) "word" = some none)
    (ai_NoText : PySem.W.findIn K (.ref C_NoText) "__init__" = some (some (.ref I_NoText)))
    (ti_NoText : PySem.W.typeIn K (.ref I_NoText) = some (.type "function"))
    (l_NoText : K.lookup I_NoText = some ⟨oc_NoText, od_NoText, .func (PySem.W.fnOf "__init__" "NoText.__init__" (defArgs si_NoText) (defBody si_NoText) (defScope si_NoText) .none kV_NoText dc_NoText pm_NoText an_NoText cd_NoText ct_NoText), sl_NoText⟩)
    (c_NoText : PySem.W.codeIn K cd_NoText "NoText.__init__" = true)
    (k_NoText : PySem.W.keepIn K (.ref I_NoText) = true)
    (ab_LeafError : PySem.W.nsIn K mainGlobals "LeafError" = some (some (.ref B_LeafError)))
    (sp_LeafError : PySem.W.specialIn K (.ref B_LeafError) "__getattribute__" = some (some (.builtin "type.__getattribute__")))
    (rd_LeafError : PySem.W.readsIn K B_LeafError (.type "type") = true)
    (fc_LeafError : PySem.W.findCls K (.ref B_LeafError) (.type "type") "__init__" = some (.val (.builtin "ValueError.__init__")))
    : ∃ (fd : FuncData) (nm : Nv) (g : List Da → M Da), (∀ (t : Shared) (u : Value), BindsTo t fd ⟨[u], []⟩ [("script", u)]) ∧ (∀ μ H, nm.inv μ H) ∧ (∀ ns : List Int, ns.length ≤ 63 → ∃ S, g [.fro (ns.map Da.int)] [] = .ok (.bl true) S) ∧
      ∀ base : Heap, K.In base → base.Ns mainGlobals mg → FnG P w K mg base 6 fa fd ["script"] (spM ⟨K, nm⟩ 1 g) :=
  law_fd (txt_mk X G loo_GREATEST a0 l0 c0 k0 a1 l1 c1 k1 a2 l2 c2 k2 a3 l3 c3 k3 a4 l4 c4 k4 a5 l5 c5 k5 a6 l6 c6 k6 a7 l7 c7 k7 a8 l8 c8 k8 a9 l9 c9 k9 a10 l10 c10 k10 a11 l11 c11 k11 a12 l12 c12 k12 a13 l13 c13 k13 a14 l14 c14 k14 a15 l15 c15 k15 a16 l16 c16 k16 a17 l17 c17 k17 a18 l18 c18 k18 z_all z_int z_isinstance z_len z_range z_repr z_str z_tuple z_zip v_LETTERS v_MOST_LETTERS v_VOID v_NOTHING v_FIGURES v_MOST_FIGURES a_NoText x_NoText rv_NoText sa_NoText ga_NoText gg_NoText eC_NoText tC_NoText kC_NoText hC_NoText iC_NoText sC_NoText n1_NoText n2_NoText ai_NoText ti_NoText l_NoText c_NoText k_NoText ab_LeafError sp_LeafError rd_LeafError fc_LeafError) hfa plain
end K75
open PySem PySem.W PyProof.Rows
set_option maxHeartbeats 0 in
theorem PySem.Challenge.cw_cancelleaves_k75_papers_as_texts_holds : PySem.Challenge.rw_cancelleaves_k75_papers_as_texts.Holds := by
  w_on; o_law; k_head; (case hw => w_witness2)
  k_fill
  refine M2.walkM (l := PySem.Challenge.rw_cancelleaves_k75_papers_as_texts) (n := 63) (k := 6) (x := "script") rfl (by decide) rfl ⟨rfl, by decide, by decide⟩ (fun w h Y => PySem.W.kIn_of Y) ?F
  case F =>
    intro w mg fa h KX G hX hmg
    refine' K75.end_mk KX G hmg K75.plain ?loo_GREATEST ?a0 ?l0 ?c0 ?k0 ?a1 ?l1 ?c1 ?k1 ?a2 ?l2 ?c2 ?k2 ?a3 ?l3 ?c3 ?k3 ?a4 ?l4 ?c4 ?k4 ?a5 ?l5 ?c5 ?k5 ?a6 ?l6 ?c6 ?k6 ?a7 ?l7 ?c7 ?k7 ?a8 ?l8 ?c8 ?k8 ?a9 ?l9 ?c9 ?k9 ?a10 ?l10 ?c10 ?k10 ?a11 ?l11 ?c11 ?k11 ?a12 ?l12 ?c12 ?k12 ?a13 ?l13 ?c13 ?k13 ?a14 ?l14 ?c14 ?k14 ?a15 ?l15 ?c15 ?k15 ?a16 ?l16 ?c16 ?k16 ?a17 ?l17 ?c17 ?k17 ?a18 ?l18 ?c18 ?k18 ?z_all ?z_int ?z_isinstance ?z_len ?z_range ?z_repr ?z_str ?z_tuple ?z_zip ?v_LETTERS ?v_MOST_LETTERS ?v_VOID ?v_NOTHING ?v_FIGURES ?v_MOST_FIGURES ?a_NoText ?x_NoText ?rv_NoText ?sa_NoText ?ga_NoText ?gg_NoText ?eC_NoText ?tC_NoText ?kC_NoText ?hC_NoText ?iC_NoText ?sC_NoText ?n1_NoText ?n2_NoText ?ai_NoText ?ti_NoText ?l_NoText ?c_NoText ?k_NoText ?ab_LeafError ?sp_LeafError ?rd_LeafError ?fc_LeafError
    (case loo_GREATEST => exact M2.loose_int hX.2 (by first | exact List.mem_cons_self | simp))
    (case a0 => k_is)
    (case l0 => k_is)
    (case c0 => k_is)
    (case k0 => k_is)
    (case a1 => k_is)
    (case l1 => k_is)
    (case c1 => k_is)
    (case k1 => k_is)
    (case a2 => k_is)
    (case l2 => k_is)
    (case c2 => k_is)
    (case k2 => k_is)
    (case a3 => k_is)
    (case l3 => k_is)
    (case c3 => k_is)
    (case k3 => k_is)
    (case a4 => k_is)
    (case l4 => k_is)
    (case c4 => k_is)
    (case k4 => k_is)
    (case a5 => k_is)
    (case l5 => k_is)
    (case c5 => k_is)
    (case k5 => k_is)
    (case a6 => k_is)
    (case l6 => k_is)
    (case c6 => k_is)
    (case k6 => k_is)
    (case a7 => k_is)
    (case l7 => k_is)
    (case c7 => k_is)
    (case k7 => k_is)
    (case a8 => k_is)
    (case l8 => k_is)
    (case c8 => k_is)
    (case k8 => k_is)
    (case a9 => k_is)
    (case l9 => k_is)
    (case c9 => k_is)
    (case k9 => k_is)
    (case a10 => k_is)
    (case l10 => k_is)
    (case c10 => k_is)
    (case k10 => k_is)
    (case a11 => k_is)
    (case l11 => k_is)
    (case c11 => k_is)
    (case k11 => k_is)
    (case a12 => k_is)
    (case l12 => k_is)
    (case c12 => k_is)
    (case k12 => k_is)
    (case a13 => k_is)
    (case l13 => k_is)
    (case c13 => k_is)
    (case k13 => k_is)
    (case a14 => k_is)
    (case l14 => k_is)
    (case c14 => k_is)
    (case k14 => k_is)
    (case a15 => k_is)
    (case l15 => k_is)
    (case c15 => k_is)
    (case k15 => k_is)
    (case a16 => k_is)
    (case l16 => k_is)
    (case c16 => k_is)
    (case k16 => k_is)
    (case a17 => k_is)
    (case l17 => k_is)
    (case c17 => k_is)
    (case k17 => k_is)
    (case a18 => k_is)
    (case l18 => k_is)
    (case c18 => k_is)
    (case k18 => k_is)
    (case z_all => k_is)
    (case z_int => k_is)
    (case z_isinstance => k_is)
    (case z_len => k_is)
    (case z_range => k_is)
    (case z_repr => k_is)
    (case z_str => k_is)
    (case z_tuple => k_is)
    (case z_zip => k_is)
    (case v_LETTERS => k_is)
    (case v_MOST_LETTERS => k_is)
    (case v_VOID => k_is)
    (case v_NOTHING => k_is)
    (case v_FIGURES => k_is)
    (case v_MOST_FIGURES => k_is)
    (case a_NoText => k_is)
    (case x_NoText => k_is)
    (case rv_NoText => decide +kernel)
    (case sa_NoText => k_is)
    (case ga_NoText => k_is)
    (case gg_NoText => k_is)
    (case eC_NoText => k_is)
    (case tC_NoText => k_is)
    (case kC_NoText => k_is)
    (case hC_NoText => k_is)
    (case iC_NoText => k_is)
    (case sC_NoText => first | rfl | k_is)
    (case n1_NoText => k_is)
    (case n2_NoText => k_is)
    (case ai_NoText => k_is)
    (case ti_NoText => k_is)
    (case l_NoText => k_is)
    (case c_NoText => k_is)
    (case k_NoText => k_is)
    (case ab_LeafError => k_is)
    (case sp_LeafError => k_is)
    (case rd_LeafError => k_is)
    (case fc_LeafError => k_is)

