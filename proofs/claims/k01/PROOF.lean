import PyProof.Rows.All
import Wide.All
import OpenK.AllK
import Wide.FinOn
import HandS.ForMost
import HandS.Wide
import HandS.TupAny
import HandS.TupLe
import HandS.TupMul
import HandS.IsInst
import HandS.Deep
import HandS.Style
import KE.DatumOrd
import HandS.RaiseMore
import HandS.Walk
import HandS.Zip
import KE.GoesEnum
import HandS.Codes
import HandS.Call
import HandS.Ends
import HandS.More
import HandS.Words
import HandS.WordsExc
import HandS.Defaults
import HandS.Head0
import HandS.Head1
import HandS.Head2
import HandS.HeadEnd
import HandS.HeadHook1
import HandS.HeadHook2
import PySem.Challenge.RW_longfigures_k01_values_recognized
set_option Elab.async false
set_option linter.all false
set_option maxRecDepth 100000
set_option maxHeartbeats 4000000
namespace DN
open PySem PySem.Spec PyProof.Rows L2
/-! ### data, cells, results -/
inductive Val where
  | dat (d : PyData)
  | cel (n : Nat)
  | fz (ds : List PyData)
inductive Cell where
  | lst (ds : List PyData)
abbrev Mem := List Cell
structure Exc where
  cls : String
  fs : List (String × PyData)
inductive Res (α : Type) where
  | ok (a : α) (m : Mem)
  | ex (x : Exc) (m : Mem)
  | no
def Res.bind {α β : Type} (r : Res α) (f : α → Mem → Res β) : Res β := match r with
  | .ok a m => f a m
  | .ex x m => .ex x m
  | .no => .no
abbrev Rho := List (Option Val)
abbrev FE := Rho → Mem → Res Val
abbrev FT := Rho → Mem → Res Bool
abbrev FL := Rho → Mem → Res (List Val)
inductive Flo where
  | nx
  | rt (v : Val)
  | bk
  | ct
abbrev FS := Rho → Mem → Res (Flo × Rho)
/-! ### how a datum stands in the heap; ms: the cells' addresses; hs: lists that nothing reads (a comprehension's, while it is made) -/
structure Wd where
  ms : List Addr
  hs : List Addr
def Wd.out (W : Wd) (a : Addr) : Prop := a ∉ W.ms ∧ a ∉ W.hs
mutual
def RepD (K : PySem.W.Frag) (Ms : Wd) (H : Hp) : PyData → V → Prop
  | .none, v => v = .non
  | .bool b, v => v = .bl b
  | .int i, v => v = .int i
  | .str x, v => v = .str x
  | .list ds, v => ∃ a xs, v = .ref a ∧ H a = some (.lst xs) ∧ Ms.out a ∧ RepL K Ms H ds xs
  | .tuple ds, v => ∃ a xs, v = .ref a ∧ SqT K H a xs ∧ RepL K Ms H ds xs
  | .dict _, _ => False
def RepL (K : PySem.W.Frag) (Ms : Wd) (H : Hp) : List PyData → List V → Prop
  | [], xs => xs = []
  | d :: ds, xs => ∃ x r, xs = x :: r ∧ RepD K Ms H d x ∧ RepL K Ms H ds r
end
/-- a list that nothing writes: frozen, or an object of the module -/
def FzL (K : PySem.W.Frag) (H : Hp) (a : Addr) (xs : List V) : Prop :=
  (∃ o, H a = some (.frz o (.lst xs))) ∨
    ∃ (o : Obj) (its : Array Value) (n : Nat), K.lookup a = some o ∧ o.cls = .type "list" ∧ o.dict = none ∧ o.data = .seq its n ∧ its.size ≤ sizeLine ∧ Vals xs its.toList
theorem FzL.sq {K : PySem.W.Frag} {H : Hp} {a : Addr} {xs : List V} (h : FzL K H a xs) : SqL K H a xs := by
  rcases h with ⟨o, h⟩ | h
  · exact .inl (.inr ⟨o, h⟩)
  · exact .inr h
theorem FzL.keep {K : PySem.W.Frag} {H H' : Hp} {a : Addr} {xs : List V} (h : FzL K H a xs) (k : ∀ a o u, H a = some (.frz o u) → H' a = some (.frz o u)) : FzL K H' a xs := by
  rcases h with ⟨o, h⟩ | h
  · exact .inl ⟨o, k _ _ _ h⟩
  · exact .inr h
theorem FzL.of {K : PySem.W.Frag} {H : Hp} {a : Addr} {xs : List V} (n : ∀ ys, H a ≠ some (.lst ys)) (h : SqL K H a xs) : FzL K H a xs := by
  rcases h with (h | ⟨o, h⟩) | h
  · exact absurd h (n xs)
  · exact .inl ⟨o, h⟩
  · exact .inr h
def RepV (K : PySem.W.Frag) (Ms : Wd) (H : Hp) : Val → V → Prop
  | .dat d, u => RepD K Ms H d u
  | .cel n, u => ∃ a, u = .ref a ∧ Ms.ms[n]? = some a
  | .fz ds, u => ∃ a xs, u = .ref a ∧ FzL K H a xs ∧ RepL K Ms H ds xs
def RepVs (K : PySem.W.Frag) (Ms : Wd) (H : Hp) : List Val → List V → Prop
  | [], xs => xs = []
  | d :: ds, xs => ∃ x r, xs = x :: r ∧ RepV K Ms H d x ∧ RepVs K Ms H ds r
structure Ext (Ms Mt : Wd) (H H' : Hp) : Prop where
  pre : ∃ more, Mt.ms = Ms.ms ++ more
  hs : Mt.hs = Ms.hs
  new : ∀ a, a ∈ Mt.ms → a ∉ Ms.ms → H a = none
  dom : ∀ a, H' a = none → H a = none
  tup : ∀ a xs, H a = some (.tup xs) → H' a = some (.tup xs)
  frz : ∀ a o u, H a = some (.frz o u) → H' a = some (.frz o u)
  lst : ∀ a xs, Ms.out a → H a = some (.lst xs) → H' a = some (.lst xs)
  hid : ∀ a o, a ∈ Ms.hs → H a = some o → H' a = some o
def CellOk (K : PySem.W.Frag) (Ms : Wd) (H : Hp) (a : Addr) : Cell → Prop
  | .lst ds => ∃ xs, H a = some (.lst xs) ∧ RepL K Ms H ds xs
structure MemOk (K : PySem.W.Frag) (Ms : Wd) (H : Hp) (μ : Mem) : Prop where
  nd : Ms.ms.Nodup
  len : Ms.ms.length = μ.length
  cell : ∀ (i : Nat) a c, Ms.ms[i]? = some a → μ[i]? = some c → CellOk K Ms H a c
  dis : ∀ a, a ∈ Ms.ms → a ∉ Ms.hs
  hdd : ∀ a, a ∈ Ms.hs → H a ≠ none
structure RhoOk (K : PySem.W.Frag) (Ms : Wd) (H : Hp) (ρ : Rho) (σ : L2.St) : Prop where
  len : ρ.length = σ.length
  at_ : ∀ (i : Nat) v, ρ[i]? = some (some v) → ∃ u, σ[i]? = some (some u) ∧ RepV K Ms H v u
section
variable {K : PySem.W.Frag} {Ms Mt Mu : Wd} {H H' H'' : Hp}
theorem Ext.refl : Ext Ms Ms H H := ⟨⟨[], by simp⟩, rfl, fun _ h n => absurd h n, fun _ h => h, fun _ _ h => h, fun _ _ _ h => h, fun _ _ _ h => h, fun _ _ _ h => h⟩
theorem Ext.notIn (e : Ext Ms Mt H H') {a : Addr} {o : HO} (n : Ms.out a) (h : H a = some o) : Mt.out a := ⟨fun m => (nomatch (h.symm.trans (e.new a m n.1))), fun m => n.2 (by rw [← e.hs]; exact m)⟩
theorem Ext.trans (e : Ext Ms Mt H H') (f : Ext Mt Mu H' H'') : Ext Ms Mu H H'' := by
  obtain ⟨m1, h1⟩ := e.pre
  obtain ⟨m2, h2⟩ := f.pre
  refine ⟨⟨m1 ++ m2, by rw [h2, h1]; simp⟩, f.hs.trans e.hs, fun a h n => ?_, fun a h => e.dom a (f.dom a h), fun a xs h => f.tup a xs (e.tup a xs h), fun a o u h => f.frz a o u (e.frz a o u h), fun a xs n h => f.lst a xs (e.notIn n h) (e.lst a xs n h),
    fun a o n h => f.hid a o (by rw [e.hs]; exact n) (e.hid a o n h)⟩
  by_cases q : a ∈ Mt.ms
  · exact e.new a q n
  · exact e.dom a (f.new a h q)
theorem Ext.sqT (e : Ext Ms Mt H H') {a : Addr} {xs : List V} (h : SqT K H a xs) : SqT K H' a xs := by
  rcases h with (h | ⟨o, h⟩) | h
  · exact .inl (.inl (e.tup _ _ h))
  · exact .inl (.inr ⟨o, e.frz _ _ _ h⟩)
  · exact .inr h
theorem Ext.laid {p : Addr} {o : HO} (h : H p = none) : Ext Ms Ms H (upd H p o) := by
  refine ⟨⟨[], by simp⟩, rfl, fun _ h n => absurd h n, fun a q => ?_, fun a xs q => ?_, fun a o u q => ?_, fun a xs _ q => ?_, fun a u _ q => ?_⟩
  · by_cases e : a = p
    · rw [e]; exact h
    · rw [upd_ne e] at q; exact q
  · rw [upd_ne (ne_of_none q h)]; exact q
  · rw [upd_ne (ne_of_none q h)]; exact q
  · rw [upd_ne (ne_of_none q h)]; exact q
  · rw [upd_ne (ne_of_none q h)]; exact q
mutual
theorem RepD.mono (e : Ext Ms Mt H H') : ∀ (d : PyData) (v : V), RepD K Ms H d v → RepD K Mt H' d v
  | .none, _, h => h
  | .bool _, _, h => h
  | .int _, _, h => h
  | .str _, _, h => h
  | .list ds, _, ⟨a, xs, e1, h, n, r⟩ => ⟨a, xs, e1, e.lst a xs n h, e.notIn n h, RepL.mono e ds xs r⟩
  | .tuple ds, _, ⟨a, xs, e1, h, r⟩ => ⟨a, xs, e1, e.sqT h, RepL.mono e ds xs r⟩
  | .dict _, _, h => h.elim
theorem RepL.mono (e : Ext Ms Mt H H') : ∀ (ds : List PyData) (xs : List V), RepL K Ms H ds xs → RepL K Mt H' ds xs
  | [], _, h => h
  | d :: ds, _, ⟨x, r, e1, h, t⟩ => ⟨x, r, e1, RepD.mono e d x h, RepL.mono e ds r t⟩
end
theorem RepV.mono (e : Ext Ms Mt H H') : ∀ {v : Val} {u : V}, RepV K Ms H v u → RepV K Mt H' v u
  | .dat d, u, h => RepD.mono e d u h
  | .cel n, u, ⟨a, e1, h⟩ => by
    obtain ⟨more, hm⟩ := e.pre
    exact ⟨a, e1, by rw [hm, List.getElem?_append_left (List.getElem?_eq_some_iff.mp h).1]; exact h⟩
  | .fz ds, u, ⟨a, xs, e1, h, r⟩ => ⟨a, xs, e1, h.keep e.frz, RepL.mono e ds xs r⟩
theorem RepVs.mono (e : Ext Ms Mt H H') : ∀ {vs : List Val} {us : List V}, RepVs K Ms H vs us → RepVs K Mt H' vs us
  | [], _, h => h
  | _ :: _, _, ⟨x, r, e1, h, t⟩ => ⟨x, r, e1, h.mono e, RepVs.mono e t⟩
theorem RhoOk.mono {ρ : Rho} {σ : L2.St} (r : RhoOk K Ms H ρ σ) (e : Ext Ms Mt H H') : RhoOk K Mt H' ρ σ := ⟨r.len, fun i v h => by
  obtain ⟨u, h1, h2⟩ := r.at_ i v h
  exact ⟨u, h1, h2.mono e⟩⟩
theorem RhoOk.set {ρ : Rho} {σ : L2.St} {v : Val} {u : V} (r : RhoOk K Ms H ρ σ) (i : Nat) (h : RepV K Ms H v u) : RhoOk K Ms H (ρ.set i (some v)) (σ.set i (some u)) := by
  refine ⟨by simp [r.len], fun j w q => ?_⟩
  by_cases e : i = j
  · subst e
    have hi : i < ρ.length := by
      have := (List.getElem?_eq_some_iff.mp q).1
      simpa using this
    rw [List.getElem?_set_self hi] at q
    cases q
    exact ⟨u, by rw [List.getElem?_set_self (by rw [← r.len]; exact hi)], h⟩
  · rw [List.getElem?_set_ne e] at q
    rw [List.getElem?_set_ne e]
    exact r.at_ j w q
/-! fewer cells -/
mutual
theorem RepD.sub (e : ∀ a, Mt.out a → Ms.out a) : ∀ (d : PyData) (v : V), RepD K Mt H d v → RepD K Ms H d v
  | .none, _, h => h
  | .bool _, _, h => h
  | .int _, _, h => h
  | .str _, _, h => h
  | .list ds, _, ⟨a, xs, e1, h, n, r⟩ => ⟨a, xs, e1, h, e a n, RepL.sub e ds xs r⟩
  | .tuple ds, _, ⟨a, xs, e1, h, r⟩ => ⟨a, xs, e1, h, RepL.sub e ds xs r⟩
  | .dict _, _, h => h.elim
theorem RepL.sub (e : ∀ a, Mt.out a → Ms.out a) : ∀ (ds : List PyData) (xs : List V), RepL K Mt H ds xs → RepL K Ms H ds xs
  | [], _, h => h
  | d :: ds, _, ⟨x, r, e1, h, t⟩ => ⟨x, r, e1, RepD.sub e d x h, RepL.sub e ds r t⟩
end
theorem RepL.length : ∀ {ds : List PyData} {xs : List V}, RepL K Ms H ds xs → ds.length = xs.length
  | [], _, h => by cases h; rfl
  | d :: ds, _, ⟨x, r, e, _, t⟩ => by subst e; simp [RepL.length t]
theorem RepL.get : ∀ {ds : List PyData} {xs : List V} {i : Nat} {d : PyData}, RepL K Ms H ds xs → ds[i]? = some d → ∃ x, xs[i]? = some x ∧ RepD K Ms H d x
  | [], _, _, _, _, q => by simp at q
  | d :: ds, _, 0, _, ⟨x, r, e, h, t⟩, q => by
    subst e
    simp at q
    subst q
    exact ⟨x, rfl, h⟩
  | d :: ds, _, i + 1, _, ⟨x, r, e, h, t⟩, q => by
    subst e
    obtain ⟨y, h1, h2⟩ := RepL.get (i := i) t (by simpa using q)
    exact ⟨y, by simpa using h1, h2⟩
theorem RepL.append : ∀ {ds es : List PyData} {xs ys : List V}, RepL K Ms H ds xs → RepL K Ms H es ys → RepL K Ms H (ds ++ es) (xs ++ ys)
  | [], _, _, _, h, k => by cases h; exact k
  | d :: ds, _, _, _, ⟨x, r, e, h, t⟩, k => by
    subst e
    exact ⟨x, r ++ _, rfl, h, RepL.append t k⟩
theorem RepL.drop : ∀ {ds : List PyData} {xs : List V} (n : Nat), RepL K Ms H ds xs → RepL K Ms H (ds.drop n) (xs.drop n)
  | _, _, 0, h => h
  | [], _, _ + 1, h => by cases h; exact rfl
  | d :: ds, _, n + 1, ⟨x, r, e, _, t⟩ => by subst e; exact RepL.drop n t
theorem RepL.take : ∀ {ds : List PyData} {xs : List V} (n : Nat), RepL K Ms H ds xs → RepL K Ms H (ds.take n) (xs.take n)
  | _, _, 0, _ => rfl
  | [], _, _ + 1, h => by cases h; exact rfl
  | d :: ds, _, n + 1, ⟨x, r, e, h, t⟩ => by subst e; exact ⟨x, r.take n, rfl, h, RepL.take n t⟩
theorem RepL.reverse : ∀ {ds : List PyData} {xs : List V}, RepL K Ms H ds xs → RepL K Ms H ds.reverse xs.reverse
  | [], _, h => by cases h; exact rfl
  | d :: ds, _, ⟨x, r, e, h, t⟩ => by
    subst e
    rw [List.reverse_cons, List.reverse_cons]
    exact RepL.append (RepL.reverse t) ⟨x, [], rfl, h, rfl⟩
theorem RepL.set : ∀ {ds : List PyData} {xs : List V} {d : PyData} {x : V} (i : Nat), RepD K Ms H d x → RepL K Ms H ds xs → RepL K Ms H (ds.set i d) (xs.set i x)
  | [], _, _, _, _, _, h => by cases h; exact rfl
  | _ :: ds, _, _, x, 0, h, ⟨y, r, e, _, t⟩ => by subst e; exact ⟨x, r, rfl, h, t⟩
  | _ :: ds, _, _, _, i + 1, h, ⟨y, r, e, k, t⟩ => by subst e; exact ⟨y, r.set i _, rfl, k, RepL.set i h t⟩
theorem RepVs.length : ∀ {ds : List Val} {xs : List V}, RepVs K Ms H ds xs → ds.length = xs.length
  | [], _, h => by cases h; rfl
  | d :: ds, _, ⟨x, r, e, _, t⟩ => by subst e; simp [RepVs.length t]
theorem RepVs.get : ∀ {ds : List Val} {xs : List V} {i : Nat} {d : Val}, RepVs K Ms H ds xs → ds[i]? = some d → ∃ x, xs[i]? = some x ∧ RepV K Ms H d x
  | [], _, _, _, _, q => by simp at q
  | d :: ds, _, 0, _, ⟨x, r, e, h, t⟩, q => by
    subst e
    simp at q
    subst q
    exact ⟨x, rfl, h⟩
  | d :: ds, _, i + 1, _, ⟨x, r, e, h, t⟩, q => by
    subst e
    obtain ⟨y, h1, h2⟩ := RepVs.get (i := i) t (by simpa using q)
    exact ⟨y, by simpa using h1, h2⟩
theorem CellOk.mono {a : Addr} {c : Cell} (h : CellOk K Ms H a c) (e : Ext Ms Mt H H') (q : H' a = H a) : CellOk K Mt H' a c := by
  cases c with
  | lst ds =>
    obtain ⟨xs, h1, h2⟩ := h
    exact ⟨xs, by rw [q]; exact h1, RepL.mono e ds xs h2⟩
theorem CellOk.there {a : Addr} {c : Cell} (h : CellOk K Ms H a c) : H a ≠ none := by
  cases c with
  | lst ds =>
    obtain ⟨xs, h1, _⟩ := h
    rw [h1]
    exact fun z => by cases z
theorem MemOk.there {μ : Mem} (m : MemOk K Ms H μ) {a : Addr} (h : a ∈ Ms.ms) : H a ≠ none := by
  obtain ⟨i, hi, e⟩ := List.mem_iff_getElem.mp h
  have hj : i < μ.length := by rw [← m.len]; exact hi
  exact (m.cell i a (μ[i]'hj) (by rw [List.getElem?_eq_getElem hi, e]) (List.getElem?_eq_getElem hj)).there
/-- an object laid apart -/
theorem MemOk.laid {μ : Mem} (m : MemOk K Ms H μ) {p : Addr} {o : HO} (h : H p = none) : MemOk K Ms (upd H p o) μ :=
  ⟨m.nd, m.len, fun i a c h1 h2 => (m.cell i a c h1 h2).mono (Ext.laid h) (upd_ne fun e => by
    subst e
    exact m.there (List.mem_of_getElem? h1) h), m.dis, fun a q => by rw [upd_ne fun z => m.hdd a q (by rw [z]; exact h)]; exact m.hdd a q⟩
def Wd.grow (W : Wd) (p : Addr) : Wd := ⟨W.ms ++ [p], W.hs⟩
def Wd.hide (W : Wd) (p : Addr) : Wd := ⟨W.ms, W.hs ++ [p]⟩
/-- a new cell -/
theorem Ext.grow {p : Addr} {o : HO} (h : H p = none) : Ext Ms (Ms.grow p) H (upd H p o) := by
  have e := Ext.laid (Ms := Ms) (o := o) h
  refine ⟨⟨[p], rfl⟩, rfl, fun a q n => ?_, e.dom, e.tup, e.frz, e.lst, e.hid⟩
  rcases List.mem_append.mp q with q | q
  · exact absurd q n
  · rw [List.mem_singleton.mp q]; exact h
theorem MemOk.grow {μ : Mem} (m : MemOk K Ms H μ) {p : Addr} {xs : List V} {ds : List PyData} (h : H p = none) (r : RepL K Ms H ds xs) :
    MemOk K (Ms.grow p) (upd H p (.lst xs)) (μ ++ [.lst ds]) := by
  have hp : p ∉ Ms.ms := fun q => m.there q h
  have e := Ext.grow (Ms := Ms) (o := .lst xs) h
  have hh : p ∉ Ms.hs := fun q => m.hdd p q h
  refine ⟨?_, by simp [Wd.grow, m.len], fun i a c h1 h2 => ?_, fun a q => ?_, (m.laid h).hdd⟩
  · show (Ms.ms ++ [p]).Nodup
    rw [List.nodup_append]
    exact ⟨m.nd, by simp, fun x hx y hy z => by
      rw [List.mem_singleton] at hy
      subst hy z
      exact hp hx⟩
  · have h1 : (Ms.ms ++ [p])[i]? = some a := h1
    by_cases hi : i < Ms.ms.length
    · rw [List.getElem?_append_left hi] at h1
      rw [List.getElem?_append_left (by rw [← m.len]; exact hi)] at h2
      exact (m.cell i a c h1 h2).mono e (upd_ne fun z => hp (z ▸ List.mem_of_getElem? h1))
    · have hi2 : i = Ms.ms.length := by
        have q := (List.getElem?_eq_some_iff.mp h1).1
        rw [List.length_append] at q
        simp at q
        omega
      subst hi2
      rw [List.getElem?_append_right (Nat.le_refl _), Nat.sub_self] at h1
      rw [List.getElem?_append_right (by rw [m.len]; exact Nat.le_refl _), m.len, Nat.sub_self] at h2
      simp at h1 h2
      subst h1 h2
      exact ⟨xs, upd_same, RepL.mono e ds xs r⟩
  · rcases List.mem_append.mp q with q | q
    · exact m.dis a q
    · rw [List.mem_singleton.mp q]; exact hh
/-- a cell written -/
theorem Ext.write {a : Addr} {o : HO} {xs : List V} (h : a ∈ Ms.ms) (hh : a ∉ Ms.hs) (q : H a = some (.lst xs)) : Ext Ms Ms H (upd H a o) := by
  have d : ∀ b (u : HO), H b = some u → u ≠ .lst xs → b ≠ a := fun b u e n z => by
    subst z
    rw [q] at e
    exact n (Option.some.inj e).symm
  refine ⟨⟨[], by simp⟩, rfl, fun _ h n => absurd h n, fun b e => ?_, fun b ys e => ?_, fun b o u e => ?_, fun b ys n e => ?_, fun b u n e => ?_⟩
  · by_cases z : b = a
    · subst z; rw [upd_same] at e; cases e
    · rw [upd_ne z] at e; exact e
  · rw [upd_ne (d b _ e (fun z => nomatch z))]; exact e
  · rw [upd_ne (d b _ e (fun z => nomatch z))]; exact e
  · rw [upd_ne (fun z => n.1 (by rw [z]; exact h))]; exact e
  · rw [upd_ne (fun z => hh (by rw [← z]; exact n))]; exact e
theorem MemOk.write {μ : Mem} (m : MemOk K Ms H μ) {n : Nat} {a : Addr} {xs ys : List V} {ds : List PyData} (h1 : Ms.ms[n]? = some a) (q : H a = some (.lst xs)) (r : RepL K Ms H ds ys) :
    MemOk K Ms (upd H a (.lst ys)) (μ.set n (.lst ds)) := by
  have e := Ext.write (o := .lst ys) (List.mem_of_getElem? h1) (m.dis a (List.mem_of_getElem? h1)) q
  have hn : n < Ms.ms.length := (List.getElem?_eq_some_iff.mp h1).1
  refine ⟨m.nd, by simp [m.len], fun i b c h2 h3 => ?_, m.dis, fun b z w => m.hdd b z (e.dom b w)⟩
  by_cases z : n = i
  · subst z
    rw [h1] at h2
    cases h2
    rw [List.getElem?_set_self (by rw [← m.len]; exact hn)] at h3
    cases h3
    exact ⟨ys, upd_same, RepL.mono e ds ys r⟩
  · rw [List.getElem?_set_ne z] at h3
    refine (m.cell i b c h2 h3).mono e (upd_ne fun w => ?_)
    subst w
    obtain ⟨hi, ei⟩ := List.getElem?_eq_some_iff.mp h2
    obtain ⟨hj, ej⟩ := List.getElem?_eq_some_iff.mp h1
    exact z ((List.getElem_inj m.nd).mp (ej.trans ei.symm))
/-! a list hidden; its growing -/
mutual
theorem RepD.hide {p : Addr} (n : H p = none) : ∀ (d : PyData) (v : V), RepD K Ms H d v → RepD K (Ms.hide p) H d v
  | .none, _, h => h
  | .bool _, _, h => h
  | .int _, _, h => h
  | .str _, _, h => h
  | .list ds, _, ⟨a, xs, e1, h, o, r⟩ => ⟨a, xs, e1, h, ⟨o.1, fun m => (List.mem_append.mp m).elim o.2 fun z => ne_of_none h n (List.mem_singleton.mp z)⟩, RepL.hide n ds xs r⟩
  | .tuple ds, _, ⟨a, xs, e1, h, r⟩ => ⟨a, xs, e1, h, RepL.hide n ds xs r⟩
  | .dict _, _, h => h.elim
theorem RepL.hide {p : Addr} (n : H p = none) : ∀ (ds : List PyData) (xs : List V), RepL K Ms H ds xs → RepL K (Ms.hide p) H ds xs
  | [], _, h => h
  | d :: ds, _, ⟨x, r, e1, h, t⟩ => ⟨x, r, e1, RepD.hide n d x h, RepL.hide n ds r t⟩
end
theorem RepV.hide {p : Addr} (n : H p = none) : ∀ {v : Val} {u : V}, RepV K Ms H v u → RepV K (Ms.hide p) H v u
  | .dat d, u, h => RepD.hide n d u h
  | .cel _, _, h => h
  | .fz ds, _, ⟨a, xs, e1, h, r⟩ => ⟨a, xs, e1, h, RepL.hide n ds xs r⟩
theorem RhoOk.hide {ρ : Rho} {σ : L2.St} {p : Addr} (r : RhoOk K Ms H ρ σ) (n : H p = none) : RhoOk K (Ms.hide p) H ρ σ := ⟨r.len, fun i v h => by
  obtain ⟨u, h1, h2⟩ := r.at_ i v h
  exact ⟨u, h1, h2.hide n⟩⟩
theorem MemOk.hide {μ : Mem} {p : Addr} {o : HO} (m : MemOk K Ms H μ) (n : H p = none) : MemOk K (Ms.hide p) (upd H p o) μ := by
  have m1 := m.laid (o := o) n
  refine ⟨m.nd, m.len, fun i a c h1 h2 => ?_, fun a h q => (List.mem_append.mp q).elim (m.dis a h) fun z => m.there h (by rw [List.mem_singleton.mp z]; exact n), fun a q => ?_⟩
  · have q := m.cell i a c h1 h2
    cases c with
    | lst ds =>
      obtain ⟨xs, h3, h4⟩ := q
      exact ⟨xs, by rw [upd_ne (ne_of_none h3 n)]; exact h3, RepL.mono (Ext.laid n) ds xs (RepL.hide n ds xs h4)⟩
  · rcases List.mem_append.mp q with q | q
    · exact m1.hdd a q
    · rw [List.mem_singleton.mp q, upd_same]; exact fun z => nomatch z
/-- what may change of a hidden list -/
structure Hid (Ms : Wd) (p : Addr) (H H' : Hp) : Prop where
  mem : p ∈ Ms.hs
  was : ∃ xs, H p = some (.lst xs)
  now : H' p ≠ none
  same : ∀ a, a ≠ p → H' a = H a
theorem Hid.ne {p : Addr} (h : Hid Ms p H H') {a : Addr} {o : HO} (q : H a = some o) (n : ∀ xs, o ≠ .lst xs) : a ≠ p := fun e => by
  obtain ⟨xs, w⟩ := h.was
  rw [e, w] at q
  exact n xs (Option.some.inj q).symm
theorem Hid.sqT {p : Addr} (e : Hid Ms p H H') {a : Addr} {xs : List V} (h : SqT K H a xs) : SqT K H' a xs := by
  rcases h with (h | ⟨o, h⟩) | h
  · exact .inl (.inl (by rw [e.same a (e.ne h fun _ z => nomatch z)]; exact h))
  · exact .inl (.inr ⟨o, by rw [e.same a (e.ne h fun _ z => nomatch z)]; exact h⟩)
  · exact .inr h
mutual
theorem RepD.hid {p : Addr} (e : Hid Ms p H H') : ∀ (d : PyData) (v : V), RepD K Ms H d v → RepD K Ms H' d v
  | .none, _, h => h
  | .bool _, _, h => h
  | .int _, _, h => h
  | .str _, _, h => h
  | .list ds, _, ⟨a, xs, e1, h, o, r⟩ => ⟨a, xs, e1, by rw [e.same a fun z => o.2 (by rw [z]; exact e.mem)]; exact h, o, RepL.hid e ds xs r⟩
  | .tuple ds, _, ⟨a, xs, e1, h, r⟩ => ⟨a, xs, e1, e.sqT h, RepL.hid e ds xs r⟩
  | .dict _, _, h => h.elim
theorem RepL.hid {p : Addr} (e : Hid Ms p H H') : ∀ (ds : List PyData) (xs : List V), RepL K Ms H ds xs → RepL K Ms H' ds xs
  | [], _, h => h
  | d :: ds, _, ⟨x, r, e1, h, t⟩ => ⟨x, r, e1, RepD.hid e d x h, RepL.hid e ds r t⟩
end
theorem RepV.hid {p : Addr} (e : Hid Ms p H H') : ∀ {v : Val} {u : V}, RepV K Ms H v u → RepV K Ms H' v u
  | .dat d, u, h => RepD.hid e d u h
  | .cel _, _, h => h
  | .fz ds, _, ⟨a, xs, e1, h, r⟩ => ⟨a, xs, e1, h.keep fun b o u q => by rw [e.same b (e.ne q fun _ z => nomatch z)]; exact q, RepL.hid e ds xs r⟩
theorem RhoOk.hid {ρ : Rho} {σ : L2.St} {p : Addr} (r : RhoOk K Ms H ρ σ) (e : Hid Ms p H H') : RhoOk K Ms H' ρ σ := ⟨r.len, fun i v h => by
  obtain ⟨u, h1, h2⟩ := r.at_ i v h
  exact ⟨u, h1, h2.hid e⟩⟩
theorem MemOk.hid {μ : Mem} {p : Addr} (m : MemOk K Ms H μ) (e : Hid Ms p H H') : MemOk K Ms H' μ :=
  ⟨m.nd, m.len, fun i a c h1 h2 => by
    have q := m.cell i a c h1 h2
    cases c with
    | lst ds =>
      obtain ⟨xs, h3, h4⟩ := q
      exact ⟨xs, by rw [e.same a fun z => m.dis a (List.mem_of_getElem? h1) (by rw [z]; exact e.mem)]; exact h3, RepL.hid e ds xs h4⟩, m.dis, fun a q => by
    by_cases z : a = p
    · rw [z]; exact e.now
    · rw [e.same a z]; exact m.hdd a q⟩
end
/-! ### what is wanted of a result -/
section
variable {α β γ δ : Type}
abbrev Wi := Exc → Mem → Wd → Hp → Prop
def Post (K : PySem.W.Frag) (w : Wi) (R : Wd → Hp → α → β → Prop) (Ms : Wd) (H : Hp) (r : Res α) (Q : β → Hp → Prop) : Prop := match r with
  | .ok a μ => ∀ Mt H' u, Ext Ms Mt H H' → MemOk K Mt H' μ → R Mt H' a u → Q u H'
  | .ex x μ => ∀ Mt H', Ext Ms Mt H H' → MemOk K Mt H' μ → w x μ Mt H'
  | .no => False
variable {K : PySem.W.Frag} {w : Wi} {R : Wd → Hp → α → β → Prop} {R2 : Wd → Hp → γ → δ → Prop} {Ms Mt : Wd} {H H' : Hp}
theorem Post.mono {r : Res α} {Q : β → Hp → Prop} (h : Post K w R Ms H r Q) (e : Ext Ms Mt H H') : Post K w R Mt H' r Q := by
  cases r with
  | ok a μ => exact fun Mu H2 u f m q => h Mu H2 u (e.trans f) m q
  | ex x μ => exact fun Mu H2 f m => h Mu H2 (e.trans f) m
  | no => exact h
theorem Post.bind {r : Res α} {f : α → Mem → Res γ} {Q : β → Hp → Prop} {Q2 : δ → Hp → Prop} (h : Post K w R2 Ms H (r.bind f) Q2)
    (k : ∀ a μ Mt H' u, Ext Ms Mt H H' → MemOk K Mt H' μ → R Mt H' a u → Post K w R2 Mt H' (f a μ) Q2 → Q u H') : Post K w R Ms H r Q := by
  cases r with
  | ok a μ => exact fun Mt H' u e m q => k a μ Mt H' u e m q (Post.mono h e)
  | ex x μ => exact h
  | no => exact h
theorem Post.ok {a : α} {μ : Mem} {Q : β → Hp → Prop} {u : β} (h : Post K w R Ms H (.ok a μ) Q) (e : Ext Ms Mt H H') (m : MemOk K Mt H' μ) (q : R Mt H' a u) : Q u H' := h Mt H' u e m q
end
/-! ### readings by data -/
def IsB : Wd → Hp → Bool → Bool → Prop := fun _ _ a b => a = b
def tE (K : PySem.W.Frag) (w : Wi) (f : FE) : TE := fun σ H Q => ∃ Ms ρ μ, RhoOk K Ms H ρ σ ∧ MemOk K Ms H μ ∧ Post K w (RepV K) Ms H (f ρ μ) Q
def tT (K : PySem.W.Frag) (w : Wi) (f : FT) : TT := fun σ H Q => ∃ Ms ρ μ, RhoOk K Ms H ρ σ ∧ MemOk K Ms H μ ∧ Post K w IsB Ms H (f ρ μ) Q
def tL (K : PySem.W.Frag) (w : Wi) (f : FL) : TA := fun σ H Q => ∃ Ms ρ μ, RhoOk K Ms H ρ σ ∧ MemOk K Ms H μ ∧ Post K w (RepVs K) Ms H (f ρ μ) Q
/-- by values -/
def rV (K : PySem.W.Frag) (w : Wi) (g : Val → Val → Mem → Res Val) : R2 := fun x y H Q => ∃ Ms a b μ, RepV K Ms H a x ∧ RepV K Ms H b y ∧ MemOk K Ms H μ ∧ Post K w (RepV K) Ms H (g a b μ) Q
def uV (K : PySem.W.Frag) (w : Wi) (g : Val → Mem → Res Val) : V → Hp → VK → Prop := fun x H Q => ∃ Ms a μ, RepV K Ms H a x ∧ MemOk K Ms H μ ∧ Post K w (RepV K) Ms H (g a μ) Q
def cV (K : PySem.W.Frag) (w : Wi) (g : List Val → Mem → Res Val) : List V → Hp → VK → Prop := fun xs H Q => ∃ Ms as μ, RepVs K Ms H as xs ∧ MemOk K Ms H μ ∧ Post K w (RepV K) Ms H (g as μ) Q
section
variable {X : Cx}
theorem _root_.L2.PE.weak {e : Expr} {t t' : TE} (h : PE X e t) (k : ∀ σ H Q, t' σ H Q → t σ H Q) : PE X e t' := ⟨fun pins s σ H Q I q => h.run pins s σ H Q I (k σ H Q q)⟩
theorem _root_.L2.PT.weak {e : Expr} {t t' : TT} (h : PT X e t) (k : ∀ σ H Q, t' σ H Q → t σ H Q) : PT X e t' := ⟨fun pins s σ H Q I q => h.run pins s σ H Q I (k σ H Q q)⟩
theorem _root_.L2.PW.weak {e : Expr} {t t' : TT} (h : PW X e t) (k : ∀ σ H Q, t' σ H Q → t σ H Q) : PW X e t' := ⟨fun wh pins s σ H Q I q => h.run wh pins s σ H Q I (k σ H Q q)⟩
theorem _root_.L2.PA.weak {e : List Expr} {t t' : TA} (h : PA X e t) (k : ∀ σ H Q, t' σ H Q → t σ H Q) : PA X e t' := ⟨fun pos pins s σ H Q I q => h.run pos pins s σ H Q I (k σ H Q q)⟩
theorem _root_.L2.PS.weak {e : Stmt} {t t' : TS} (h : PS X e t) (k : ∀ D σ H, t' D σ H → t D σ H) : PS X e t' := ⟨fun pins s σ H D I q => h.run pins s σ H D I (k D σ H q)⟩
theorem _root_.L2.PSs.weak {e : List Stmt} {t t' : TS} (h : PSs X e t) (k : ∀ D σ H, t' D σ H → t D σ H) : PSs X e t' := ⟨fun pins s σ H D I q => h.run pins s σ H D I (k D σ H q)⟩
/-! ### expressions -/
def eVar (i : Nat) : FE := fun ρ μ => match ρ[i]? with
  | some (some v) => .ok v μ
  | _ => .no
def eC (d : PyData) : FE := fun _ μ => .ok (.dat d) μ
def eBin (g : Val → Val → Mem → Res Val) (fa fb : FE) : FE := fun ρ μ => (fa ρ μ).bind fun x μ1 => (fb ρ μ1).bind fun y μ2 => g x y μ2
def eUn (g : Val → Mem → Res Val) (fa : FE) : FE := fun ρ μ => (fa ρ μ).bind fun x μ1 => g x μ1
def lNil : FL := fun _ μ => .ok [] μ
def lCons (fa : FE) (fr : FL) : FL := fun ρ μ => (fa ρ μ).bind fun x μ1 => (fr ρ μ1).bind fun xs μ2 => .ok (x :: xs) μ2
variable {w : Wi} {a b : Expr} {fa fb : FE} {pos : Pos}
theorem de_var {i : Nat} {x : Str} (hN : X.N[i]? = some x) (hv : Vis X.env.scope x) (hd : (x == ("__debug__" : Str)) = false) (hcd : (x == ("__classdict__" : Str)) = false) : PE X (.Name x pos) (tE X.K w (eVar i)) :=
  (pe_var hN hv hd hcd).weak fun σ H Q ⟨Ms, ρ, μ, hρ, hμ, h⟩ => by
    unfold eVar at h
    cases q : ρ[i]? with
    | none => rw [q] at h; exact h.elim
    | some o =>
      cases o with
      | none => rw [q] at h; exact h.elim
      | some v =>
        rw [q] at h
        obtain ⟨u, e, r⟩ := hρ.at_ i v q
        exact ⟨u, e, h.ok .refl hμ r⟩
theorem de_int {i : Int} {j : Nat} : PE X (.Constant (.int i) j pos) (tE X.K w (eC (.int i))) := pe_int.weak fun σ H Q ⟨Ms, ρ, μ, hρ, hμ, h⟩ => h.ok .refl hμ rfl
theorem de_str {i : Str} {j : Nat} : PE X (.Constant (.str i) j pos) (tE X.K w (eC (.str i))) := pe_str.weak fun σ H Q ⟨Ms, ρ, μ, hρ, hμ, h⟩ => h.ok .refl hμ rfl
theorem de_bl {i : Bool} {j : Nat} : PE X (.Constant (.bool i) j pos) (tE X.K w (eC (.bool i))) := pe_bl.weak fun σ H Q ⟨Ms, ρ, μ, hρ, hμ, h⟩ => h.ok .refl hμ rfl
theorem de_non {j : Nat} : PE X (.Constant .none j pos) (tE X.K w (eC .none)) := pe_non.weak fun σ H Q ⟨Ms, ρ, μ, hρ, hμ, h⟩ => h.ok .refl hμ rfl
theorem de_bin {op : Operator} {g : Val → Val → Mem → Res Val} (ho : OpR X (binaryOp op) (rV X.K w g)) (ha : PE X a (tE X.K w fa)) (hb : PE X b (tE X.K w fb)) : PE X (.BinOp a op b pos) (tE X.K w (eBin g fa fb)) :=
  (pe_op ho ha hb).weak fun σ H Q ⟨Ms, ρ, μ, hρ, hμ, h⟩ => ⟨Ms, ρ, μ, hρ, hμ, h.bind fun v μ1 M1 H1 x e m rx h1 => ⟨M1, ρ, μ1, hρ.mono e, m, h1.bind fun u μ2 M2 H2 y e2 m2 ry h2 => ⟨M2, v, u, μ2, rx.mono e2, ry, m2, h2⟩⟩⟩
theorem de_cmp {op : CmpOp} {g : Val → Val → Mem → Res Val} (ho : OpR X (compareOp op) (rV X.K w g)) (ha : PE X a (tE X.K w fa)) (hb : PE X b (tE X.K w fb)) (hm : behindInMarks op b = false) : PE X (.Compare a [op] [b] pos) (tE X.K w (eBin g fa fb)) :=
  (pe_cmpR ho ha hb hm).weak fun σ H Q ⟨Ms, ρ, μ, hρ, hμ, h⟩ => ⟨Ms, ρ, μ, hρ, hμ, h.bind fun v μ1 M1 H1 x e m rx h1 => ⟨M1, ρ, μ1, hρ.mono e, m, h1.bind fun u μ2 M2 H2 y e2 m2 ry h2 => ⟨M2, v, u, μ2, rx.mono e2, ry, m2, h2⟩⟩⟩
theorem de_un {op : UnaryOp} {g : Val → Mem → Res Val} (ho : UnR X (unaryOp op) (uV X.K w g)) (ha : PE X a (tE X.K w fa)) : PE X (.UnaryOp op a pos) (tE X.K w (eUn g fa)) :=
  (pe_un ho ha).weak fun σ H Q ⟨Ms, ρ, μ, hρ, hμ, h⟩ => ⟨Ms, ρ, μ, hρ, hμ, h.bind fun v μ1 M1 H1 x e m rx h1 => ⟨M1, v, μ1, rx, m, h1⟩⟩
theorem dl_nil : PA X [] (tL X.K w lNil) := pa_nil.weak fun σ H Q ⟨Ms, ρ, μ, hρ, hμ, h⟩ => h.ok .refl hμ rfl
theorem dl_cons {es : List Expr} {fr : FL} (ha : PE X a (tE X.K w fa)) (hr : PA X es (tL X.K w fr)) (hs : starEach (a :: es) X.env = (false, eval a X.env) :: starEach es X.env) : PA X (a :: es) (tL X.K w (lCons fa fr)) :=
  (pa_cons ha hr hs).weak fun σ H Q ⟨Ms, ρ, μ, hρ, hμ, h⟩ => ⟨Ms, ρ, μ, hρ, hμ, h.bind fun v μ1 M1 H1 x e m rx h1 => ⟨M1, ρ, μ1, hρ.mono e, m, h1.bind fun vs μ2 M2 H2 xs e2 m2 rs h2 =>
    h2.ok .refl m2 ⟨x, xs, rfl, rx.mono e2, rs⟩⟩⟩
end
end DN
set_option Elab.async false
set_option linter.all false
set_option maxRecDepth 100000
set_option maxHeartbeats 4000000
namespace DN
open PySem PySem.Spec PyProof.Rows L2
/-! ### what a value is read as -/
def deref (μ : Mem) : Val → Option PyData
  | .dat d => some d
  | .cel n => match μ[n]? with
    | some (.lst ds) => some (.list ds)
    | none => none
  | .fz ds => some (.list ds)
/-- .. a list that is no frozen one -/
def derefT (μ : Mem) : Val → Option PyData
  | .dat d => some d
  | .cel n => match μ[n]? with
    | some (.lst ds) => some (.list ds)
    | none => none
  | .fz _ => none
theorem deref_cel {μ : Mem} {n : Nat} {d : PyData} (e : deref μ (.cel n) = some d) : ∃ ds, μ[n]? = some (.lst ds) ∧ d = .list ds := by
  have e' : (match μ[n]? with
    | some (.lst ds) => some (PyData.list ds)
    | none => none) = some d := e
  cases q : μ[n]? with
  | none => rw [q] at e'; exact nomatch e'
  | some c =>
    obtain ⟨ds⟩ := c
    rw [q] at e'
    exact ⟨ds, rfl, (Option.some.inj e').symm⟩
section
variable {K : PySem.W.Frag} {Ms Mt : Wd} {H H' : Hp} {μ : Mem}
mutual
theorem RepD.dp : ∀ (d : PyData) (x : V), RepD K Ms H d x → Dp K H x d
  | .none, _, h => by cases h; exact .non
  | .bool b, _, h => by cases h; exact .bl b
  | .int i, _, h => by cases h; exact .int i
  | .str i, _, h => by cases h; exact .str i
  | .list ds, _, ⟨a, xs, e, h, _, r⟩ => by subst e; exact .lst (.inl (.inl h)) (RepL.dp ds xs r)
  | .tuple ds, _, ⟨a, xs, e, h, r⟩ => by subst e; exact .tup h (RepL.dp ds xs r)
  | .dict _, _, h => h.elim
theorem RepL.dp : ∀ (ds : List PyData) (xs : List V), RepL K Ms H ds xs → DpAll K H xs ds
  | [], _, h => by cases h; exact .nil
  | d :: ds, _, ⟨x, r, e, h, t⟩ => by subst e; exact .cons (RepD.dp d x h) (RepL.dp ds r t)
end
theorem MemOk.at_ {n : Nat} {a : Addr} {ds : List PyData} (m : MemOk K Ms H μ) (h : Ms.ms[n]? = some a) (e : μ[n]? = some (.lst ds)) : ∃ xs, H a = some (.lst xs) ∧ RepL K Ms H ds xs := m.cell n a _ h e
/-- a list that is read -/
theorem RepV.lst {v : Val} {x : V} {ds : List PyData} (r : RepV K Ms H v x) (m : MemOk K Ms H μ) (e : deref μ v = some (.list ds)) : ∃ a xs, x = .ref a ∧ SqL K H a xs ∧ RepL K Ms H ds xs := by
  cases v with
  | dat d =>
    cases e
    obtain ⟨a, xs, e1, h, _, r⟩ := r
    exact ⟨a, xs, e1, .inl (.inl h), r⟩
  | cel n =>
    obtain ⟨a, e1, h⟩ := r
    obtain ⟨ds', q, e2⟩ := deref_cel e
    cases e2
    obtain ⟨xs, h1, h2⟩ := m.at_ h q
    exact ⟨a, xs, e1, .inl (.inl h1), h2⟩
  | fz ds =>
    cases e
    obtain ⟨a, xs, e1, h, r⟩ := r
    exact ⟨a, xs, e1, h.sq, r⟩
/-- .. that is tracked as it is -/
theorem RepV.lstT {v : Val} {x : V} {ds : List PyData} (r : RepV K Ms H v x) (m : MemOk K Ms H μ) (e : derefT μ v = some (.list ds)) : ∃ a xs, x = .ref a ∧ H a = some (.lst xs) ∧ RepL K Ms H ds xs := by
  cases v with
  | dat d =>
    cases e
    obtain ⟨a, xs, e1, h, _, r⟩ := r
    exact ⟨a, xs, e1, h, r⟩
  | cel n =>
    obtain ⟨a, e1, h⟩ := r
    obtain ⟨ds', q, e2⟩ := deref_cel (show deref μ (.cel n) = _ from e)
    cases e2
    obtain ⟨xs, h1, h2⟩ := m.at_ h q
    exact ⟨a, xs, e1, h1, h2⟩
  | fz ds => cases e
def noList : PyData → Bool
  | .list _ => false
  | _ => true
theorem RepV.rd {v : Val} {x : V} {d : PyData} (r : RepV K Ms H v x) (e : deref μ v = some d) (n : noList d = true) : RepD K Ms H d x := by
  cases v with
  | dat d' => cases e; exact r
  | cel k =>
    obtain ⟨ds', q, e2⟩ := deref_cel e
    cases e2
    cases n
  | fz ds => cases e; cases n
theorem derefT_deref {v : Val} {d : PyData} (e : derefT μ v = some d) : deref μ v = some d := by
  cases v with
  | dat d' => exact e
  | cel k => exact e
  | fz ds => cases e
theorem RepV.dp {v : Val} {x : V} {d : PyData} (r : RepV K Ms H v x) (m : MemOk K Ms H μ) (e : deref μ v = some d) : Dp K H x d := by
  cases q : noList d with
  | true => exact RepD.dp d x (r.rd e q)
  | false =>
    cases d with
    | list ds =>
      obtain ⟨a, xs, e1, h, r1⟩ := r.lst m e
      subst e1
      exact .lst h (RepL.dp ds xs r1)
    | _ => cases q
theorem RepD.int {x : V} {i : Int} (r : RepD K Ms H (.int i) x) : x = .int i := r
end
/-! ### lists of one kind -/
def intsD : List PyData → Option (List Int)
  | [] => some []
  | .int i :: r => match intsD r with
    | some l => some (i :: l)
    | none => none
  | _ => none
def boolsD : List PyData → Option (List Bool)
  | [] => some []
  | .bool i :: r => match boolsD r with
    | some l => some (i :: l)
    | none => none
  | _ => none
def strsD : List PyData → Option (List Str)
  | [] => some []
  | .str i :: r => match strsD r with
    | some l => some (i :: l)
    | none => none
  | _ => none
theorem intsD_eq : ∀ {ds : List PyData} {ns : List Int}, intsD ds = some ns → ds = ns.map PyData.int
  | [], _, h => by cases h; rfl
  | d :: r, ns, h => by
    cases d with
    | int i =>
      unfold intsD at h
      cases q : intsD r with
      | none => simp only [q] at h; cases h
      | some l =>
        simp only [q] at h
        cases h
        rw [intsD_eq q]
        rfl
    | _ => simp only [intsD] at h; cases h
theorem boolsD_eq : ∀ {ds : List PyData} {ns : List Bool}, boolsD ds = some ns → ds = ns.map PyData.bool
  | [], _, h => by cases h; rfl
  | d :: r, ns, h => by
    cases d with
    | bool i =>
      unfold boolsD at h
      cases q : boolsD r with
      | none => simp only [q] at h; cases h
      | some l =>
        simp only [q] at h
        cases h
        rw [boolsD_eq q]
        rfl
    | _ => simp only [boolsD] at h; cases h
theorem strsD_eq : ∀ {ds : List PyData} {ns : List Str}, strsD ds = some ns → ds = ns.map PyData.str
  | [], _, h => by cases h; rfl
  | d :: r, ns, h => by
    cases d with
    | str i =>
      unfold strsD at h
      cases q : strsD r with
      | none => simp only [q] at h; cases h
      | some l =>
        simp only [q] at h
        cases h
        rw [strsD_eq q]
        rfl
    | _ => simp only [strsD] at h; cases h
section
variable {K : PySem.W.Frag} {Ms Mt : Wd} {H H' : Hp} {μ : Mem}
theorem RepL.ints : ∀ {ns : List Int} {xs : List V}, RepL K Ms H (ns.map PyData.int) xs → xs = ns.map V.int
  | [], _, h => h
  | n :: ns, _, ⟨x, r, e, h, t⟩ => by subst e; rw [RepL.ints (ns := ns) t, show x = V.int n from h]; rfl
theorem RepL.bools : ∀ {ns : List Bool} {xs : List V}, RepL K Ms H (ns.map PyData.bool) xs → xs = ns.map V.bl
  | [], _, h => h
  | n :: ns, _, ⟨x, r, e, h, t⟩ => by subst e; rw [RepL.bools (ns := ns) t, show x = V.bl n from h]; rfl
theorem RepL.strs : ∀ {ns : List Str} {xs : List V}, RepL K Ms H (ns.map PyData.str) xs → xs = ns.map V.str
  | [], _, h => h
  | n :: ns, _, ⟨x, r, e, h, t⟩ => by subst e; rw [RepL.strs (ns := ns) t, show x = V.str n from h]; rfl
end
theorem line_eq : (sizeLine : Nat) = 16777216 := sizeLine_eq
/-! ### operators -/
def okD (d : PyData) (μ : Mem) : Res Val := .ok (.dat d) μ
def addD : PyData → PyData → Mem → Res Val
  | .int i, .int j, μ => okD (.int (i + j)) μ
  | .bool a, .int j, μ => okD (.int ((if a = true then (1 : Int) else 0) + j)) μ
  | .str x, .str y, μ => if x.length + y.length ≤ 16777216 then okD (.str (x ++ y)) μ else .no
  | .tuple xs, .tuple ys, μ => if xs.length + ys.length ≤ 16777216 then okD (.tuple (xs ++ ys)) μ else .no
  | .list xs, .list ys, μ => if xs.length + ys.length ≤ 16777216 then okD (.list (xs ++ ys)) μ else .no
  | _, _, _ => .no
def g2 (rd : Mem → Val → Option PyData) (h : PyData → PyData → Mem → Res Val) : Val → Val → Mem → Res Val := fun a b μ => match rd μ a with
  | some d => (match rd μ b with
    | some e => h d e μ
    | none => .no)
  | none => .no
def gAdd := g2 derefT addD
def subD : PyData → PyData → Mem → Res Val
  | .int i, .int j, μ => okD (.int (i - j)) μ
  | _, _, _ => .no
def gSub := g2 deref subD
def repD (ds : List PyData) : Nat → List PyData
  | 0 => []
  | n + 1 => ds ++ repD ds n
def mulD : PyData → PyData → Mem → Res Val
  | .int i, .int j, μ => if i.natAbs.log2 + j.natAbs.log2 < 1000000 then okD (.int (i * j)) μ else .no
  | .tuple ds, .int k, μ => if ds ≠ [] ∧ 2 ≤ k ∧ k ≤ 1000 ∧ ds.length ≤ 1000 then okD (.tuple (repD ds k.toNat)) μ else .no
  | _, _, _ => .no
def gMul := g2 deref mulD
def fdivD : PyData → PyData → Mem → Res Val
  | .int i, .int j, μ => if 0 < j ∧ j.natAbs.log2 < 9000 then okD (.int (i / j)) μ else .no
  | _, _, _ => .no
def gFdiv := g2 deref fdivD
def modD : PyData → PyData → Mem → Res Val
  | .int i, .int j, μ => if 0 < j then okD (.int (i % j)) μ else .no
  | _, _, _ => .no
def gMod := g2 deref modD
def powD : PyData → PyData → Mem → Res Val
  | .int i, .int j, μ => if 0 ≤ j ∧ j ≤ 1000000 ∧ i.natAbs < 18446744073709551616 then okD (.int (i ^ j.toNat)) μ else .no
  | _, _, _ => .no
def gPow := g2 deref powD
def eqD (neg : Bool) : PyData → PyData → Mem → Res Val := fun d e μ =>
  if SeqAt.shaped d = true ∧ SeqAt.shaped e = true then okD (.bool (if neg then !PyData.eqv d e else PyData.eqv d e)) μ else .no
def gEq (neg : Bool) := g2 deref (eqD neg)
inductive Ord where | lt | le | gt | ge
def Ord.op : Ord → CmpOp
  | .lt => .Lt
  | .le => .LtE
  | .gt => .Gt
  | .ge => .GtE
def ordI : Ord → Int → Int → Bool
  | .lt, i, j => decide (i < j)
  | .le, i, j => decide (i ≤ j)
  | .gt, i, j => decide (j < i)
  | .ge, i, j => decide (j ≤ i)
def lexI : List Int → List Int → Bool
  | [], [] => false
  | [], _ :: _ => true
  | _ :: _, [] => false
  | x :: xs, y :: ys => if x = y then lexI xs ys else decide (x < y)
def ordL : Ord → List Int → List Int → Bool
  | .lt, i, j => lexI i j
  | .le, i, j => !lexI j i
  | .gt, i, j => lexI j i
  | .ge, i, j => !lexI i j
def ordD (o : Ord) : PyData → PyData → Mem → Res Val
  | .int i, .int j, μ => okD (.bool (ordI o i j)) μ
  | .tuple ds, .tuple es, μ => match intsD ds, intsD es with
    | some ns, some ms => okD (.bool (ordL o ns ms)) μ
    | _, _ => .no
  | _, _, _ => .no
def gOrd (o : Ord) := g2 deref (ordD o)
def flatD : PyData → Bool
  | .none => true
  | .bool _ => true
  | .int _ => true
  | .str _ => true
  | _ => false
def inD (neg : Bool) : PyData → PyData → Mem → Res Val
  | .str x, .str z, μ => match x.cps.toList with
    | [c] => okD (.bool (if neg then !decide (c ∈ z.cps.toList) else decide (c ∈ z.cps.toList))) μ
    | _ => .no
  | d, .tuple ds, μ => if flatD d = true ∧ ds.all flatD = true then okD (.bool (if neg then !(ds.any fun z => PyData.eqv z d) else ds.any fun z => PyData.eqv z d)) μ else .no
  | d, .list ds, μ => if SeqAt.shaped d = true ∧ SeqAt.shaped (.list ds) = true then okD (.bool (if neg then !(ds.any fun z => PyData.eqv z d) else ds.any fun z => PyData.eqv z d)) μ else .no
  | _, _, _ => .no
def gIn (neg : Bool) := g2 deref (inD neg)
def isNone : PyData → Bool
  | .none => true
  | _ => false
def isD (neg : Bool) : PyData → PyData → Mem → Res Val
  | d, .none, μ => okD (.bool (if neg then !isNone d else isNone d)) μ
  | .bool a, .bool b, μ => okD (.bool (if neg then !decide (a = b) else decide (a = b))) μ
  | _, _, _ => .no
def gIs (neg : Bool) := g2 deref (isD neg)
def negD : PyData → Mem → Res Val
  | .int i, μ => okD (.int (-i)) μ
  | _, _ => .no
def g1 (h : PyData → Mem → Res Val) : Val → Mem → Res Val := fun a μ => match deref μ a with
  | some d => h d μ
  | none => .no
def gNeg := g1 negD
def gNot := g1 fun d μ => match d with
  | .bool b => okD (.bool (!b)) μ
  | _ => .no
theorem repD_eq (ds : List PyData) : ∀ n, repD ds n = (List.replicate n ds).flatten
  | 0 => rfl
  | n + 1 => by rw [repD, repD_eq ds n, List.replicate_succ, List.flatten_cons]
theorem lexI_eq : ∀ xs ys : List Int, PySem.W.listLt xs ys = lexI xs ys
  | [], [] => rfl
  | [], _ :: _ => rfl
  | _ :: _, [] => rfl
  | x :: xs, y :: ys => by
    unfold PySem.W.listLt lexI
    rw [lexI_eq xs ys]
    rfl
section
variable {X : Cx} {w : Wi}
/-- two data read -/
theorem g2_run {f : Value → Value → Sem Value} {rd : Mem → Val → Option PyData} {h : PyData → PyData → Mem → Res Val}
    (k : ∀ (pins : List (Addr × Obj)) (s : Shared) (σ : L2.St) (H : Hp) (x y : V) (v u : Value) (Q : VK) (Ms : Wd) (a b : Val) (μ : Mem) (d e : PyData), Inv X pins σ H s → RelV x v → RelV y u → RepV X.K Ms H a x → RepV X.K Ms H b y → MemOk X.K Ms H μ →
      rd μ a = some d → rd μ b = some e → Post X.K w (RepV X.K) Ms H (h d e μ) Q → wpAny (model X.prog X.w) X.A (f v u) (EP X pins σ Q) X.xe s) : OpR X f (rV X.K w (g2 rd h)) := by
  intro pins s σ H x y v u Q I rx ry ⟨Ms, a, b, μ, ra, rb, m, p⟩
  unfold g2 at p
  cases ea : rd μ a with
  | none => rw [ea] at p; exact p.elim
  | some d =>
    rw [ea] at p
    cases eb : rd μ b with
    | none => simp only [eb] at p; exact p.elim
    | some e =>
      simp only [eb] at p
      exact k pins s σ H x y v u Q Ms a b μ d e I rx ry ra rb m ea eb p
theorem g1_run {f : Value → Sem Value} {h : PyData → Mem → Res Val}
    (k : ∀ (pins : List (Addr × Obj)) (s : Shared) (σ : L2.St) (H : Hp) (x : V) (v : Value) (Q : VK) (Ms : Wd) (a : Val) (μ : Mem) (d : PyData), Inv X pins σ H s → RelV x v → RepV X.K Ms H a x → MemOk X.K Ms H μ →
      deref μ a = some d → Post X.K w (RepV X.K) Ms H (h d μ) Q → wpAny (model X.prog X.w) X.A (f v) (EP X pins σ Q) X.xe s) : UnR X f (uV X.K w (g1 h)) := by
  intro pins s σ H x v Q I rx ⟨Ms, a, μ, ra, m, p⟩
  unfold g1 at p
  cases ea : deref μ a with
  | none => rw [ea] at p; exact p.elim
  | some d =>
    simp only [ea] at p
    exact k pins s σ H x v Q Ms a μ d I rx ra m ea p
theorem Post.okD {Ms : Wd} {H : Hp} {d : PyData} {μ : Mem} {Q : VK} {u : V} {K : PySem.W.Frag} (h : Post K w (RepV K) Ms H (DN.okD d μ) Q) (m : MemOk K Ms H μ) (r : RepD K Ms H d u) : Q u H := Post.ok h .refl m r
theorem Post.okN {Ms : Wd} {H : Hp} {d : PyData} {μ : Mem} {Q : VK} {p : Addr} {o : HO} {K : PySem.W.Frag} (h : Post K w (RepV K) Ms H (DN.okD d μ) Q) (m : MemOk K Ms H μ) (n : H p = none) (r : RepD K Ms (upd H p o) d (.ref p)) : Q (.ref p) (upd H p o) := Post.ok h (.laid n) (m.laid n) r
theorem RepL.laid {K : PySem.W.Frag} {Ms : Wd} {H : Hp} {p : Addr} {o : HO} {ds : List PyData} {xs : List V} (r : RepL K Ms H ds xs) (n : H p = none) : RepL K Ms (upd H p o) ds xs := RepL.mono (Ext.laid n) ds xs r
theorem rep_lst {K : PySem.W.Frag} {Ms : Wd} {H : Hp} {p : Addr} {ds : List PyData} {xs : List V} {μ : Mem} (m : MemOk K Ms H μ) (r : RepL K Ms H ds xs) (n : H p = none) : RepD K Ms (upd H p (.lst xs)) (.list ds) (.ref p) :=
  ⟨p, xs, rfl, upd_same, ⟨fun q => m.there q n, fun q => m.hdd p q n⟩, r.laid n⟩
theorem rep_tup {K : PySem.W.Frag} {Ms : Wd} {H : Hp} {p : Addr} {ds : List PyData} {xs : List V} (r : RepL K Ms H ds xs) (n : H p = none) : RepD K Ms (upd H p (.tup xs)) (.tuple ds) (.ref p) :=
  ⟨p, xs, rfl, SqT.of upd_same, r.laid n⟩
theorem op_add_bi : OpR X (binaryOp .Add) (fun x y H Q => ∃ i k, x = .bl i ∧ y = .int k ∧ Q (.int ((if i = true then (1 : Int) else 0) + k)) H) := by
  intro pins s σ H x y v u Q I rx ry h
  obtain ⟨i, k, rfl, rfl, q⟩ := h
  obtain ⟨t, rfl⟩ := ry
  cases rx
  exact PySem.IntBool.add_bool_int ⟨.int ((if i = true then (1 : Int) else 0) + k), H, I.tok _, ⟨_, rfl⟩, q⟩
theorem or_add : OpR X (binaryOp .Add) (rV X.K w gAdd) := g2_run fun pins s σ H x y v u Q Ms a b μ d e I rx ry ra rb m ea eb p => by
  have ea' := derefT_deref ea
  have eb' := derefT_deref eb
  cases d with
  | int i =>
    cases e with
    | int j =>
      have e1 : x = .int i := ra.rd ea' rfl
      have e2 : y = .int j := rb.rd eb' rfl
      exact op_add pins s σ H x y v u Q I rx ry ⟨i, j, e1, e2, p.okD m rfl⟩
    | _ => exact p.elim
  | bool i =>
    cases e with
    | int j =>
      have e1 : x = .bl i := ra.rd ea' rfl
      have e2 : y = .int j := rb.rd eb' rfl
      exact op_add_bi pins s σ H x y v u Q I rx ry ⟨i, j, e1, e2, p.okD m rfl⟩
    | _ => exact p.elim
  | str i =>
    cases e with
    | str j =>
      have e1 : x = .str i := ra.rd ea' rfl
      have e2 : y = .str j := rb.rd eb' rfl
      simp only [addD] at p
      split at p
      · rename_i hz
        exact op_add_str pins s σ H x y v u Q I rx ry ⟨i, j, e1, e2, by rw [line_eq]; exact hz, p.okD m rfl⟩
      · exact p.elim
    | _ => exact p.elim
  | tuple ds =>
    cases e with
    | tuple es =>
      obtain ⟨a1, xs, e1, h1, r1⟩ := ra.rd ea' rfl
      obtain ⟨a2, ys, e2, h2, r2⟩ := rb.rd eb' rfl
      simp only [addD] at p
      split at p
      · rename_i hz
        refine op_catA pins s σ H x y v u Q I rx ry ⟨a1, a2, xs, ys, e1, e2, h1, h2, ?_, fun z => ?_, fun z1 z2 => ?_, fun _ _ l hl => ?_⟩
        · rw [line_eq, ← r1.length, ← r2.length]; exact hz
        · subst z
          have z2 : ds = [] := List.eq_nil_of_length_eq_zero (by rw [r1.length]; rfl)
          subst z2
          exact p.okD m ⟨a2, ys, rfl, h2, by simpa using r2⟩
        · subst z2
          have z3 : es = [] := List.eq_nil_of_length_eq_zero (by rw [r2.length]; rfl)
          subst z3
          exact p.okD m ⟨a1, xs, rfl, h1, by simpa using r1⟩
        · exact p.okN m hl (rep_tup (r1.append r2) hl)
      · exact p.elim
    | _ => exact p.elim
  | list ds =>
    cases e with
    | list es =>
      obtain ⟨a1, xs, e1, h1, r1⟩ := ra.lstT m ea
      obtain ⟨a2, ys, e2, h2, r2⟩ := rb.lstT m eb
      simp only [addD] at p
      split at p
      · rename_i hz
        refine op_cat pins s σ H x y v u Q I rx ry ⟨a1, a2, xs, ys, e1, e2, h1, h2, ?_, fun l hl => ?_⟩
        · rw [line_eq, ← r1.length, ← r2.length]; exact hz
        · exact p.okN m hl (rep_lst m (r1.append r2) hl)
      · exact p.elim
    | _ => exact p.elim
  | none => exact p.elim
  | dict _ => exact p.elim
theorem or_sub : OpR X (binaryOp .Sub) (rV X.K w gSub) := g2_run fun pins s σ H x y v u Q Ms a b μ d e I rx ry ra rb m ea eb p => by
  cases d with
  | int i =>
    cases e with
    | int j => exact op_sub pins s σ H x y v u Q I rx ry ⟨i, j, ra.rd ea rfl, rb.rd eb rfl, p.okD m rfl⟩
    | _ => exact p.elim
  | _ => exact p.elim
theorem rep_flat {K : PySem.W.Frag} {Ms : Wd} {H : Hp} {ds : List PyData} {xs : List V} (r : RepL K Ms H ds xs) : ∀ n : Nat, RepL K Ms H (repD ds n) (List.replicate n xs).flatten
  | 0 => rfl
  | n + 1 => by rw [List.replicate_succ, List.flatten_cons]; exact r.append (rep_flat r n)
theorem or_mul : OpR X (binaryOp .Mult) (rV X.K w gMul) := g2_run fun pins s σ H x y v u Q Ms a b μ d e I rx ry ra rb m ea eb p => by
  cases d with
  | int i =>
    cases e with
    | int j =>
      simp only [mulD] at p
      split at p
      · rename_i hz
        exact op_mulW pins s σ H x y v u Q I rx ry ⟨i, j, ra.rd ea rfl, rb.rd eb rfl, hz, p.okD m rfl⟩
      · exact p.elim
    | _ => exact p.elim
  | tuple ds =>
    cases e with
    | int k =>
      obtain ⟨a1, xs, e1, h1, r1⟩ := ra.rd ea rfl
      simp only [mulD] at p
      split at p
      · rename_i hz
        obtain ⟨z1, z2, z3, z4⟩ := hz
        refine op_repT pins s σ H x y v u Q I rx ry ⟨a1, k, xs, e1, rb.rd eb rfl, h1, fun z => z1 ?_, z2, z3, by rw [← r1.length]; exact z4, fun l hl => p.okN m hl (rep_tup (rep_flat r1 _) hl)⟩
        exact List.eq_nil_of_length_eq_zero (by rw [r1.length, z]; rfl)
      · exact p.elim
    | _ => exact p.elim
  | _ => exact p.elim
theorem or_fdiv : OpR X (binaryOp .FloorDiv) (rV X.K w gFdiv) := g2_run fun pins s σ H x y v u Q Ms a b μ d e I rx ry ra rb m ea eb p => by
  cases d with
  | int i =>
    cases e with
    | int j =>
      simp only [fdivD] at p
      split at p
      · rename_i hz
        exact op_fdivW pins s σ H x y v u Q I rx ry ⟨i, j, ra.rd ea rfl, rb.rd eb rfl, hz, p.okD m rfl⟩
      · exact p.elim
    | _ => exact p.elim
  | _ => exact p.elim
theorem or_mod : OpR X (binaryOp .Mod) (rV X.K w gMod) := g2_run fun pins s σ H x y v u Q Ms a b μ d e I rx ry ra rb m ea eb p => by
  cases d with
  | int i =>
    cases e with
    | int j =>
      simp only [modD] at p
      split at p
      · rename_i hz
        exact op_mod pins s σ H x y v u Q I rx ry ⟨i, j, ra.rd ea rfl, rb.rd eb rfl, hz, p.okD m rfl⟩
      · exact p.elim
    | _ => exact p.elim
  | _ => exact p.elim
theorem or_pow : OpR X (binaryOp .Pow) (rV X.K w gPow) := g2_run fun pins s σ H x y v u Q Ms a b μ d e I rx ry ra rb m ea eb p => by
  cases d with
  | int i =>
    cases e with
    | int j =>
      simp only [powD] at p
      split at p
      · rename_i hz
        exact op_pow pins s σ H x y v u Q I rx ry ⟨i, j, ra.rd ea rfl, rb.rd eb rfl, ⟨hz.1, hz.2.1, hz.2.2⟩, p.okD m rfl⟩
      · exact p.elim
    | _ => exact p.elim
  | _ => exact p.elim
theorem or_eq (hu : X.A.units + 64 < cLine) : OpR X (compareOp .Eq) (rV X.K w (gEq false)) := g2_run fun pins s σ H x y v u Q Ms a b μ d e I rx ry ra rb m ea eb p => by
  unfold eqD at p
  split at p
  · rename_i hz
    exact op_eqD hu pins s σ H x y v u Q I rx ry ⟨d, e, ra.dp m ea, rb.dp m eb, hz.1, hz.2, p.okD m rfl⟩
  · exact p.elim
theorem or_ne (hu : X.A.units + 64 < cLine) : OpR X (compareOp .NotEq) (rV X.K w (gEq true)) := g2_run fun pins s σ H x y v u Q Ms a b μ d e I rx ry ra rb m ea eb p => by
  unfold eqD at p
  split at p
  · rename_i hz
    exact op_neD hu pins s σ H x y v u Q I rx ry ⟨d, e, ra.dp m ea, rb.dp m eb, hz.1, hz.2, p.okD m rfl⟩
  · exact p.elim
theorem RepD.holds {pins : List (Addr × Obj)} {s : Shared} {σ : L2.St} {H : Hp} {x : V} {v : Value} {Ms : Wd} {ns : List Int} (I : Inv X pins σ H s) (rx : RelV x v) (r : RepD X.K Ms H (.tuple (ns.map PyData.int)) x) : PySem.W.Holds s.heap v (PySem.W.Tup.mk ns) :=
  Dp.reads I _ x v (RepD.dp _ x r) rx
theorem tup_depth : PySem.W.Datum.depth (PySem.W.Tup Int) ≤ 64 := by decide
theorem or_ord (hu : X.A.units + 64 < cLine) (o : Ord) : OpR X (compareOp o.op) (rV X.K w (gOrd o)) := g2_run fun pins s σ H x y v u Q Ms a b μ d e I rx ry ra rb m ea eb p => by
  have hd : X.A.units + PySem.W.Datum.depth (PySem.W.Tup Int) < cLine := by
    have := tup_depth
    omega
  cases d with
  | int i =>
    cases e with
    | int j =>
      have e1 : x = .int i := ra.rd ea rfl
      have e2 : y = .int j := rb.rd eb rfl
      cases o with
      | lt => exact op_lt pins s σ H x y v u Q I rx ry ⟨i, j, e1, e2, p.okD m rfl⟩
      | le => exact op_le pins s σ H x y v u Q I rx ry ⟨i, j, e1, e2, p.okD m rfl⟩
      | gt => exact op_gt pins s σ H x y v u Q I rx ry ⟨i, j, e1, e2, p.okD m rfl⟩
      | ge => exact op_ge pins s σ H x y v u Q I rx ry ⟨i, j, e1, e2, p.okD m rfl⟩
    | _ => exact p.elim
  | tuple ds =>
    cases e with
    | tuple es =>
      simp only [ordD] at p
      split at p
      · rename_i ns ms h1 h2
        rw [intsD_eq h1] at ea
        rw [intsD_eq h2] at eb
        have r1 := RepD.holds I rx (ra.rd ea rfl)
        have r2 := RepD.holds I ry (rb.rd eb rfl)
        cases o with
        | lt => exact PySem.W.lt_datum r1 r2 hd ⟨.bl _, H, I, rfl, p.okD m (by show V.bl _ = V.bl _; rw [show PySem.W.DatumOrd.lt (PySem.W.Tup.mk ns) (PySem.W.Tup.mk ms) = lexI ns ms from lexI_eq ns ms]; rfl)⟩
        | le => exact PySem.W.le_datum r1 r2 hd ⟨.bl _, H, I, rfl, p.okD m (by show V.bl _ = V.bl _; rw [show PySem.W.DatumOrd.lt (PySem.W.Tup.mk ms) (PySem.W.Tup.mk ns) = lexI ms ns from lexI_eq ms ns]; rfl)⟩
        | gt => exact PySem.W.gt_datum r1 r2 hd ⟨.bl _, H, I, rfl, p.okD m (by show V.bl _ = V.bl _; rw [show PySem.W.DatumOrd.lt (PySem.W.Tup.mk ms) (PySem.W.Tup.mk ns) = lexI ms ns from lexI_eq ms ns]; rfl)⟩
        | ge => exact PySem.W.ge_datum r1 r2 hd ⟨.bl _, H, I, rfl, p.okD m (by show V.bl _ = V.bl _; rw [show PySem.W.DatumOrd.lt (PySem.W.Tup.mk ns) (PySem.W.Tup.mk ms) = lexI ns ms from lexI_eq ns ms]; rfl)⟩
      · exact p.elim
    | _ => exact p.elim
  | _ => exact p.elim
end
/-! flat data -/
section
variable {K : PySem.W.Frag} {Ms : Wd} {H : Hp}
theorem RepD.flat : ∀ {d : PyData} {x : V}, RepD K Ms H d x → flatD d = true → flatV x = true
  | .none, _, h, _ => by cases h; rfl
  | .bool _, _, h, _ => by cases h; rfl
  | .int _, _, h, _ => by cases h; rfl
  | .str _, _, h, _ => by cases h; rfl
  | .list _, _, _, f => by cases f
  | .tuple _, _, _, f => by cases f
  | .dict _, _, _, f => by cases f
def toV : PyData → V
  | .none => .non
  | .bool b => .bl b
  | .int i => .int i
  | .str x => .str x
  | _ => .non
theorem RepD.toV : ∀ {d : PyData} {x : V}, RepD K Ms H d x → flatD d = true → x = DN.toV d
  | .none, _, h, _ => h
  | .bool _, _, h, _ => h
  | .int _, _, h, _ => h
  | .str _, _, h, _ => h
  | .list _, _, _, f => by cases f
  | .tuple _, _, _, f => by cases f
  | .dict _, _, _, f => by cases f
theorem eqV_toV : ∀ (d e : PyData), flatD d = true → flatD e = true → eqV (DN.toV d) (DN.toV e) = PyData.eqv d e := by
  intro d e fd fe
  cases d <;> first
    | exact absurd fd Bool.false_ne_true
    | (cases e <;> first
        | exact absurd fe Bool.false_ne_true
        | (simp only [DN.toV, eqV, PyData.eqv]))
theorem RepD.eqv {d e : PyData} {x y : V} (r : RepD K Ms H d x) (q : RepD K Ms H e y) (fd : flatD d = true) (fe : flatD e = true) : eqV x y = PyData.eqv d e := by
  rw [r.toV fd, q.toV fe]
  exact eqV_toV d e fd fe
theorem RepL.flat : ∀ {ds : List PyData} {xs : List V}, RepL K Ms H ds xs → ds.all flatD = true → xs.all flatV = true
  | [], _, h, _ => by cases h; rfl
  | d :: ds, _, ⟨x, r, e, h, t⟩, f => by
    subst e
    rw [List.all_cons, Bool.and_eq_true] at f
    rw [List.all_cons, Bool.and_eq_true]
    exact ⟨h.flat f.1, RepL.flat t f.2⟩
theorem RepL.inV {e : PyData} {y : V} (q : RepD K Ms H e y) (fe : flatD e = true) : ∀ {ds : List PyData} {xs : List V}, RepL K Ms H ds xs → ds.all flatD = true → L2.inV y xs = ds.any fun z => PyData.eqv z e
  | [], _, h, _ => by cases h; rfl
  | d :: ds, _, ⟨x, r, ee, h, t⟩, f => by
    subst ee
    rw [List.all_cons, Bool.and_eq_true] at f
    have ih := RepL.inV q fe t f.2
    unfold L2.inV at ih ⊢
    rw [List.any_cons, List.any_cons, ih, h.eqv q f.1 fe]
end
section
variable {X : Cx} {w : Wi}
theorem in_str_one {x : Str} {c : Nat} (h : x.cps.toList = [c]) : x = ⟨#[c]⟩ := TL.ext_tl h
theorem or_in (hu : X.A.units + 65 < cLine) : OpR X (compareOp .In) (rV X.K w (gIn false)) := g2_run fun pins s σ H x y v u Q Ms a b μ d e I rx ry ra rb m ea eb p => by
  cases e with
  | str z =>
    cases d with
    | str i =>
      simp only [inD] at p
      split at p
      · rename_i c hc
        have e1 : x = .str i := ra.rd ea rfl
        rw [in_str_one hc] at e1
        exact op_in_sign pins s σ H x y v u Q I rx ry ⟨c, z, e1, rb.rd eb rfl, p.okD m rfl⟩
      · exact p.elim
    | _ => exact p.elim
  | tuple ds =>
    obtain ⟨a1, xs, e1, h1, r1⟩ := rb.rd eb rfl
    have hp : (if flatD d = true ∧ ds.all flatD = true then okD (.bool (if false = true then !(ds.any fun z => PyData.eqv z d) else ds.any fun z => PyData.eqv z d)) μ else .no) = inD false d (.tuple ds) μ := by cases d <;> rfl
    rw [← hp] at p
    split at p
    · rename_i hz
      have rd : RepD X.K Ms H d x := ra.rd ea (by cases d <;> first | rfl | exact hz.1)
      exact op_in_seq pins s σ H x y v u Q I rx ry ⟨a1, xs, e1, .inr h1, rd.flat hz.1, r1.flat hz.2, p.okD m (by rw [RepL.inV rd hz.1 r1 hz.2]; rfl)⟩
    · exact p.elim
  | list ds =>
    have hp : (if SeqAt.shaped d = true ∧ SeqAt.shaped (.list ds) = true then okD (.bool (if false = true then !(ds.any fun z => PyData.eqv z d) else ds.any fun z => PyData.eqv z d)) μ else .no) = inD false d (.list ds) μ := by cases d <;> rfl
    rw [← hp] at p
    split at p
    · rename_i hz
      exact op_inD hu pins s σ H x y v u Q I rx ry ⟨d, ds, ra.dp m ea, rb.dp m eb, hz.1, hz.2, p.okD m rfl⟩
    · exact p.elim
  | _ => cases d <;> exact p.elim
theorem or_notIn (hu : X.A.units + 65 < cLine) : OpR X (compareOp .NotIn) (rV X.K w (gIn true)) := g2_run fun pins s σ H x y v u Q Ms a b μ d e I rx ry ra rb m ea eb p => by
  cases e with
  | str z =>
    cases d with
    | str i =>
      simp only [inD] at p
      split at p
      · rename_i c hc
        have e1 : x = .str i := ra.rd ea rfl
        rw [in_str_one hc] at e1
        exact op_notIn_sign pins s σ H x y v u Q I rx ry ⟨c, z, e1, rb.rd eb rfl, p.okD m rfl⟩
      · exact p.elim
    | _ => exact p.elim
  | tuple ds =>
    obtain ⟨a1, xs, e1, h1, r1⟩ := rb.rd eb rfl
    have hp : (if flatD d = true ∧ ds.all flatD = true then okD (.bool (if true = true then !(ds.any fun z => PyData.eqv z d) else ds.any fun z => PyData.eqv z d)) μ else .no) = inD true d (.tuple ds) μ := by cases d <;> rfl
    rw [← hp] at p
    split at p
    · rename_i hz
      have rd : RepD X.K Ms H d x := ra.rd ea (by cases d <;> first | rfl | exact hz.1)
      exact op_notIn_seq pins s σ H x y v u Q I rx ry ⟨a1, xs, e1, .inr h1, rd.flat hz.1, r1.flat hz.2, p.okD m (by rw [RepL.inV rd hz.1 r1 hz.2]; rfl)⟩
    · exact p.elim
  | list ds =>
    have hp : (if SeqAt.shaped d = true ∧ SeqAt.shaped (.list ds) = true then okD (.bool (if true = true then !(ds.any fun z => PyData.eqv z d) else ds.any fun z => PyData.eqv z d)) μ else .no) = inD true d (.list ds) μ := by cases d <;> rfl
    rw [← hp] at p
    split at p
    · rename_i hz
      exact op_notInD hu pins s σ H x y v u Q I rx ry ⟨d, ds, ra.dp m ea, rb.dp m eb, hz.1, hz.2, p.okD m rfl⟩
    · exact p.elim
  | _ => cases d <;> exact p.elim
theorem RepD.isNon {K : PySem.W.Frag} {Ms : Wd} {H : Hp} {d : PyData} {x : V} (r : Dp K H x d) : decide (x = .non) = isNone d := by
  cases r <;> rfl
theorem or_is : OpR X (compareOp .Is) (rV X.K w (gIs false)) := g2_run fun pins s σ H x y v u Q Ms a b μ d e I rx ry ra rb m ea eb p => by
  cases e with
  | none =>
    have hp : isD false d .none μ = okD (.bool (isNone d)) μ := by cases d <;> rfl
    rw [hp] at p
    refine op_isN pins s σ H x y v u Q I rx ry ⟨rb.rd eb rfl, ?_⟩
    rw [RepD.isNon (Ms := Ms) (ra.dp m ea)]
    exact p.okD m rfl
  | bool z =>
    cases d with
    | bool i => exact op_isBl pins s σ H x y v u Q I rx ry ⟨i, z, ra.rd ea rfl, rb.rd eb rfl, p.okD m rfl⟩
    | _ => exact p.elim
  | _ => cases d <;> exact p.elim
theorem or_isNot : OpR X (compareOp .IsNot) (rV X.K w (gIs true)) := g2_run fun pins s σ H x y v u Q Ms a b μ d e I rx ry ra rb m ea eb p => by
  cases e with
  | none =>
    have hp : isD true d .none μ = okD (.bool (!isNone d)) μ := by cases d <;> rfl
    rw [hp] at p
    refine op_notN pins s σ H x y v u Q I rx ry ⟨rb.rd eb rfl, ?_⟩
    rw [RepD.isNon (Ms := Ms) (ra.dp m ea)]
    exact p.okD m rfl
  | bool z =>
    cases d with
    | bool i => exact op_notBl pins s σ H x y v u Q I rx ry ⟨i, z, ra.rd ea rfl, rb.rd eb rfl, p.okD m rfl⟩
    | _ => exact p.elim
  | _ => cases d <;> exact p.elim
theorem or_neg : UnR X (unaryOp .USub) (uV X.K w gNeg) := g1_run fun pins s σ H x v Q Ms a μ d I rx ra m ea p => by
  cases d with
  | int i => exact un_neg pins s σ H x v Q I rx ⟨i, ra.rd ea rfl, p.okD m rfl⟩
  | _ => exact p.elim
end
end DN
set_option Elab.async false
set_option linter.all false
set_option maxRecDepth 100000
set_option maxHeartbeats 4000000
namespace DN
open PySem PySem.Spec PyProof.Rows L2
/-! ### subscripts -/
def idxD : PyData → PyData → Mem → Res Val
  | .list ds, .int i, μ => match atI ds i with
    | some d => okD d μ
    | none => .no
  | .tuple ds, .int i, μ => match atI ds i with
    | some d => okD d μ
    | none => .no
  | .str z, .int i, μ => if z.length ≤ 16777216 then (match atI z.cps.toList i with
    | some c => okD (.str ⟨#[c]⟩) μ
    | none => .no) else .no
  | _, _, _ => .no
def gIdx := g2 deref idxD
def cutL {α : Type} (xs : List α) (lo hi : Option Int) : List α := (xs.drop (HT.sIx xs.length 0 lo)).take (HT.sIx xs.length xs.length hi - HT.sIx xs.length 0 lo)
def cutD (lo hi : Option Int) : PyData → Mem → Res Val
  | .list ds, μ => okD (.list (cutL ds lo hi)) μ
  | .tuple ds, μ => okD (.tuple (cutL ds lo hi)) μ
  | .str z, μ => if z.length ≤ 16777216 then okD (.str ⟨(cutL z.cps.toList lo hi).toArray⟩) μ else .no
  | _, _ => .no
def revD : PyData → Mem → Res Val
  | .list ds, μ => okD (.list ds.reverse) μ
  | _, _ => .no
section
variable {K : PySem.W.Frag} {Ms : Wd} {H : Hp}
theorem RepL.atI {ds : List PyData} {xs : List V} {i : Int} {d : PyData} (r : RepL K Ms H ds xs) (h : L2.atI ds i = some d) : ∃ x, L2.atI xs i = some x ∧ RepD K Ms H d x := by
  unfold L2.atI at h ⊢
  rw [← r.length]
  cases q : ixN ds.length i with
  | none => rw [q] at h; cases h
  | some j =>
    rw [q] at h
    obtain ⟨x, h1, h2⟩ := r.get (i := j) h
    exact ⟨x, h1, h2⟩
theorem RepL.cutL {ds : List PyData} {xs : List V} (lo hi : Option Int) (r : RepL K Ms H ds xs) : RepL K Ms H (DN.cutL ds lo hi) (cutV xs lo hi) := by
  unfold DN.cutL cutV
  rw [r.length]
  exact (r.drop _).take _
end
section
variable {X : Cx} {w : Wi}
theorem or_idx : IxR X (rV X.K w gIdx) := by
  intro value slice pins s σ H x y v u Q I rx ry ⟨Ms, a, b, μ, ra, rb, m, p⟩ hs
  unfold gIdx g2 at p
  cases ea : deref μ a with
  | none => rw [ea] at p; exact p.elim
  | some d =>
    cases eb : deref μ b with
    | none => simp only [ea, eb] at p; exact p.elim
    | some e =>
      simp only [ea, eb] at p
      cases d with
      | list ds =>
        cases e with
        | int i =>
          simp only [idxD] at p
          split at p
          · rename_i d hd
            obtain ⟨a1, xs, e1, h1, r1⟩ := ra.lst m ea
            obtain ⟨z, h2, h3⟩ := r1.atI hd
            exact ix_list value slice pins s σ H x y v u Q I rx ry ⟨a1, xs, i, z, e1, rb.rd eb rfl, h1, h2, p.okD m h3⟩ hs
          · exact p.elim
        | _ => exact p.elim
      | tuple ds =>
        cases e with
        | int i =>
          simp only [idxD] at p
          split at p
          · rename_i d hd
            obtain ⟨a1, xs, e1, h1, r1⟩ := ra.rd ea rfl
            obtain ⟨z, h2, h3⟩ := r1.atI hd
            exact ix_tup value slice pins s σ H x y v u Q I rx ry ⟨a1, xs, i, z, e1, rb.rd eb rfl, h1, h2, p.okD m h3⟩ hs
          · exact p.elim
        | _ => exact p.elim
      | str z =>
        cases e with
        | int i =>
          simp only [idxD] at p
          split at p
          · rename_i hz
            split at p
            · rename_i c hc
              exact ix_str value slice pins s σ H x y v u Q I rx ry ⟨z, i, c, ra.rd ea rfl, rb.rd eb rfl, by rw [line_eq]; exact hz, hc, p.okD m rfl⟩ hs
            · exact p.elim
          · exact p.elim
        | _ => exact p.elim
      | _ => exact p.elim
theorem de_idx {a b : Expr} {fa fb : FE} {pos : Pos} (ha : PE X a (tE X.K w fa)) (hb : PE X b (tE X.K w fb)) (hs : PlainIx b) : PE X (.Subscript a b pos) (tE X.K w (eBin gIdx fa fb)) :=
  (pe_ix or_idx ha hb hs).weak fun σ H Q ⟨Ms, ρ, μ, hρ, hμ, h⟩ => ⟨Ms, ρ, μ, hρ, hμ, h.bind fun v μ1 M1 H1 x e m rx h1 => ⟨M1, ρ, μ1, hρ.mono e, m, h1.bind fun u μ2 M2 H2 y e2 m2 ry h2 => ⟨M2, v, u, μ2, rx.mono e2, ry, m2, h2⟩⟩⟩
/-- a slice's part -/
abbrev FO := Rho → Mem → Res (Option Int)
def IsO : Wd → Hp → Option Int → Option Int → Prop := fun _ _ a b => a = b
def tO (K : PySem.W.Frag) (w : Wi) (f : FO) : TO := fun σ H Q => ∃ Ms ρ μ, RhoOk K Ms H ρ σ ∧ MemOk K Ms H μ ∧ Post K w IsO Ms H (f ρ μ) Q
theorem _root_.L2.PO.weak {X : Cx} {e : Option Expr} {t t' : TO} (h : PO X e t) (k : ∀ σ H Q, t' σ H Q → t σ H Q) : PO X e t' := ⟨fun pins s σ H Q I q => h.run pins s σ H Q I (k σ H Q q)⟩
def oNone : FO := fun _ μ => .ok none μ
def oSome (f : FE) : FO := fun ρ μ => (f ρ μ).bind fun v μ1 => match v with
  | .dat (.int i) => .ok (some i) μ1
  | _ => .no
theorem do_none : PO X none (tO X.K w oNone) := po_none.weak fun σ H Q ⟨Ms, ρ, μ, hρ, hμ, h⟩ => h.ok .refl hμ rfl
theorem do_some {e : Expr} {f : FE} (he : PE X e (tE X.K w f)) : PO X (some e) (tO X.K w (oSome f)) := (po_some he).weak fun σ H Q ⟨Ms, ρ, μ, hρ, hμ, h⟩ => ⟨Ms, ρ, μ, hρ, hμ, h.bind fun v μ1 M1 H1 x e m rx h1 => by
  cases v with
  | dat d =>
    cases d with
    | int i => exact ⟨i, rx, h1.ok .refl m rfl⟩
    | _ => exact h1.elim
  | _ => exact h1.elim⟩
def eCut (fa : FE) (fl fh : FO) : FE := fun ρ μ => (fa ρ μ).bind fun x μ1 => (fl ρ μ1).bind fun l μ2 => (fh ρ μ2).bind fun h μ3 => g1 (cutD l h) x μ3
def sV (K : PySem.W.Frag) (w : Wi) : V → Option Int → Option Int → Hp → VK → Prop := fun x lo hi H Q => ∃ Ms a μ, RepV K Ms H a x ∧ MemOk K Ms H μ ∧ Post K w (RepV K) Ms H (g1 (cutD lo hi) a μ) Q
theorem or_cut : SlR X (sV X.K w) := by
  intro pins s σ H x v vl vu lo hi sl Q I rx hs pl pu ⟨Ms, a, μ, ra, m, p⟩
  unfold g1 at p
  cases ea : deref μ a with
  | none => rw [ea] at p; exact p.elim
  | some d =>
    simp only [ea] at p
    cases d with
    | list ds =>
      obtain ⟨a1, xs, e1, h1, r1⟩ := ra.lst m ea
      exact sl_list pins s σ H x v vl vu lo hi sl Q I rx hs pl pu ⟨a1, xs, e1, h1, fun q hq => p.okN m hq (rep_lst m (r1.cutL lo hi) hq)⟩
    | tuple ds =>
      obtain ⟨a1, xs, e1, h1, r1⟩ := ra.rd ea rfl
      refine sl_tupA pins s σ H x v vl vu lo hi sl Q I rx hs pl pu ⟨a1, xs, e1, h1, fun hw => ?_, fun _ q hq => p.okN m hq (rep_tup (r1.cutL lo hi) hq)⟩
      refine p.okD m ⟨a1, xs, rfl, h1, ?_⟩
      have e2 : cutV xs lo hi = xs := by
        unfold cutV
        rw [hw.1, hw.2]
        simp
      have := r1.cutL lo hi
      rw [e2] at this
      exact this
    | str z =>
      simp only [cutD] at p
      split at p
      · rename_i hz
        exact sl_str pins s σ H x v vl vu lo hi sl Q I rx hs pl pu ⟨z, ra.rd ea rfl, by rw [line_eq]; exact hz, p.okD m (by
          show V.str _ = V.str _
          unfold cutS DN.cutL
          rw [show z.cps.toList.length = z.length by simp [Str.length]])⟩
      · exact p.elim
    | _ => exact p.elim
theorem de_cut {a : Expr} {lo hi : Option Expr} {fa : FE} {fl fh : FO} {pos p2 : Pos} (ha : PE X a (tE X.K w fa)) (hl : PO X lo (tO X.K w fl)) (hh : PO X hi (tO X.K w fh)) : PE X (.Subscript a (.Slice lo hi none p2) pos) (tE X.K w (eCut fa fl fh)) :=
  (pe_slice or_cut ha hl hh).weak fun σ H Q ⟨Ms, ρ, μ, hρ, hμ, h⟩ => ⟨Ms, ρ, μ, hρ, hμ, h.bind fun v μ1 M1 H1 x e m rx h1 => ⟨M1, ρ, μ1, hρ.mono e, m, h1.bind fun l μ2 M2 H2 l' e2 m2 rl h2 =>
    ⟨M2, ρ, μ2, (hρ.mono e).mono e2, m2, h2.bind fun u μ3 M3 H3 u' e3 m3 ru h3 => ⟨M3, v, μ3, (rx.mono e2).mono e3, m3, by cases rl; cases ru; exact h3⟩⟩⟩⟩
theorem de_rev {e : Expr} {fe : FE} {k : Nat} {p1 p2 p3 pos : Pos} (he : PE X e (tE X.K w fe)) : PE X (.Subscript e (.Slice none none (some (.UnaryOp .USub (.Constant (.int 1) k p1) p2)) p3) pos) (tE X.K w (eUn (g1 revD) fe)) :=
  (pe_revL he).weak fun σ H Q ⟨Ms, ρ, μ, hρ, hμ, h⟩ => ⟨Ms, ρ, μ, hρ, hμ, h.bind fun v μ1 M1 H1 x e m rx h1 => by
    unfold g1 at h1
    cases ea : deref μ1 v with
    | none => rw [ea] at h1; exact h1.elim
    | some d =>
      simp only [ea] at h1
      cases d with
      | list ds =>
        obtain ⟨a1, xs, e1, h2, r1⟩ := rx.lst m ea
        exact ⟨a1, xs, e1, h2, fun q hq => h1.okN m hq (rep_lst m r1.reverse hq)⟩
      | _ => exact h1.elim⟩
/-! ### displays -/
def datL : List Val → Option (List PyData)
  | [] => some []
  | .dat d :: r => match datL r with
    | some l => some (d :: l)
    | none => none
  | _ => none
theorem datL_rep {K : PySem.W.Frag} {Ms : Wd} {H : Hp} : ∀ {vs : List Val} {ds : List PyData} {xs : List V}, datL vs = some ds → RepVs K Ms H vs xs → RepL K Ms H ds xs
  | [], _, _, h, r => by cases h; exact r
  | v :: vs, ds, _, h, ⟨x, r, e, rx, t⟩ => by
    cases v with
    | dat d =>
      unfold datL at h
      cases q : datL vs with
      | none => simp only [q] at h; cases h
      | some l =>
        simp only [q] at h
        cases h
        exact ⟨x, r, e, rx, datL_rep q t⟩
    | _ => simp only [datL] at h; cases h
def gTup : List Val → Mem → Res Val := fun vs μ => match datL vs with
  | some ds => if ds.length ≤ 16777216 then okD (.tuple ds) μ else .no
  | none => .no
def gLst : List Val → Mem → Res Val := fun vs μ => match datL vs with
  | some ds => if ds.length ≤ 16777216 then okD (.list ds) μ else .no
  | none => .no
def eArgs (g : List Val → Mem → Res Val) (fl : FL) : FE := fun ρ μ => (fl ρ μ).bind fun vs μ1 => g vs μ1
theorem de_tup {es : List Expr} {fl : FL} {k : Nat} {pos : Pos} (h : PA X es (tL X.K w fl)) : PE X (.Tuple es k pos) (tE X.K w (eArgs gTup fl)) :=
  (pe_tup h).weak fun σ H Q ⟨Ms, ρ, μ, hρ, hμ, h⟩ => ⟨Ms, ρ, μ, hρ, hμ, h.bind fun vs μ1 M1 H1 xs e m rs h1 => by
    unfold gTup at h1
    split at h1
    · rename_i ds hd
      split at h1
      · rename_i hz
        have r := datL_rep hd rs
        exact ⟨by rw [← r.length, line_eq]; exact hz, fun p hp => h1.okN m hp (rep_tup r hp)⟩
      · exact h1.elim
    · exact h1.elim⟩
theorem de_lst {es : List Expr} {fl : FL} {pos : Pos} (h : PA X es (tL X.K w fl)) : PE X (.List es pos) (tE X.K w (eArgs gLst fl)) :=
  (pe_lst h).weak fun σ H Q ⟨Ms, ρ, μ, hρ, hμ, h⟩ => ⟨Ms, ρ, μ, hρ, hμ, h.bind fun vs μ1 M1 H1 xs e m rs h1 => by
    unfold gLst at h1
    split at h1
    · rename_i ds hd
      split at h1
      · rename_i hz
        have r := datL_rep hd rs
        exact ⟨by rw [← r.length, line_eq]; exact hz, fun p hp => h1.okN m hp (rep_lst m r hp)⟩
      · exact h1.elim
    · exact h1.elim⟩
/-- .. as a new cell -/
def gLstC : List Val → Mem → Res Val := fun vs μ => match datL vs with
  | some ds => if ds.length ≤ 16777216 then .ok (.cel μ.length) (μ ++ [.lst ds]) else .no
  | none => .no
theorem de_lstC {es : List Expr} {fl : FL} {pos : Pos} (h : PA X es (tL X.K w fl)) : PE X (.List es pos) (tE X.K w (eArgs gLstC fl)) :=
  (pe_lst h).weak fun σ H Q ⟨Ms, ρ, μ, hρ, hμ, h⟩ => ⟨Ms, ρ, μ, hρ, hμ, h.bind fun vs μ1 M1 H1 xs e m rs h1 => by
    unfold gLstC at h1
    split at h1
    · rename_i ds hd
      split at h1
      · rename_i hz
        have r := datL_rep hd rs
        exact ⟨by rw [← r.length, line_eq]; exact hz, fun p hp => h1.ok (.grow hp) (m.grow hp r) ⟨p, rfl, by
          show (M1.ms ++ [p])[μ1.length]? = some p
          rw [← m.len, List.getElem?_append_right (Nat.le_refl _), Nat.sub_self]
          rfl⟩⟩
      · exact h1.elim
    · exact h1.elim⟩
/-! ### built-in calls -/
def c1 (h : PyData → Mem → Res Val) : List Val → Mem → Res Val := fun vs μ => match vs with
  | [a] => g1 h a μ
  | _ => .no
def c2 (h : PyData → PyData → Mem → Res Val) : List Val → Mem → Res Val := fun vs μ => match vs with
  | [a, b] => g2 deref h a b μ
  | _ => .no
theorem c1_run {f : Value} {h : PyData → Mem → Res Val}
    (k : ∀ (pins : List (Addr × Obj)) (s : Shared) (σ : L2.St) (H : Hp) (x : V) (us : List Value) (Q : VK) (Ms : Wd) (a : Val) (μ : Mem) (d : PyData), Inv X pins σ H s → Vals [x] us → RepV X.K Ms H a x → MemOk X.K Ms H μ →
      deref μ a = some d → Post X.K w (RepV X.K) Ms H (h d μ) Q → wpAny (model X.prog X.w) X.A (PySem.call f us) (EP X pins σ Q) X.xe s) : CallR X f (cV X.K w (c1 h)) := by
  intro pins s σ H xs us Q I rx ⟨Ms, as, μ, ra, m, p⟩
  unfold c1 at p
  split at p
  · rename_i a
    obtain ⟨x, r, e, r1, r2⟩ := ra
    cases r2
    subst e
    unfold g1 at p
    cases ea : deref μ a with
    | none => rw [ea] at p; exact p.elim
    | some d =>
      simp only [ea] at p
      exact k pins s σ H x us Q Ms a μ d I rx r1 m ea p
  · exact p.elim
theorem c2_run {f : Value} {h : PyData → PyData → Mem → Res Val}
    (k : ∀ (pins : List (Addr × Obj)) (s : Shared) (σ : L2.St) (H : Hp) (x y : V) (us : List Value) (Q : VK) (Ms : Wd) (a b : Val) (μ : Mem) (d e : PyData), Inv X pins σ H s → Vals [x, y] us → RepV X.K Ms H a x → RepV X.K Ms H b y → MemOk X.K Ms H μ →
      deref μ a = some d → deref μ b = some e → Post X.K w (RepV X.K) Ms H (h d e μ) Q → wpAny (model X.prog X.w) X.A (PySem.call f us) (EP X pins σ Q) X.xe s) : CallR X f (cV X.K w (c2 h)) := by
  intro pins s σ H xs us Q I rx ⟨Ms, as, μ, ra, m, p⟩
  unfold c2 at p
  split at p
  · rename_i a b
    obtain ⟨x, r, e, r1, y, r', e', r3, r4⟩ := ra
    cases r4
    subst e'
    subst e
    unfold g2 at p
    cases ea : deref μ a with
    | none => rw [ea] at p; exact p.elim
    | some d =>
      cases eb : deref μ b with
      | none => simp only [ea, eb] at p; exact p.elim
      | some e =>
        simp only [ea, eb] at p
        exact k pins s σ H x y us Q Ms a b μ d e I rx r1 r3 m ea eb p
  · exact p.elim
def lenD : PyData → Mem → Res Val
  | .list ds, μ => okD (.int ds.length) μ
  | .tuple ds, μ => okD (.int ds.length) μ
  | .str z, μ => if z.length ≤ 16777216 then okD (.int z.length) μ else .no
  | _, _ => .no
theorem cr_len : CallR X (.builtin "len") (cV X.K w (c1 lenD)) := c1_run fun pins s σ H x us Q Ms a μ d I rx ra m ea p => by
  cases d with
  | list ds =>
    obtain ⟨a1, xs, e1, h1, r1⟩ := ra.lst m ea
    subst e1
    exact call_len_seq pins s σ H _ us Q I rx ⟨a1, xs, rfl, .inl h1, by rw [← r1.length]; exact p.okD m rfl⟩
  | tuple ds =>
    obtain ⟨a1, xs, e1, h1, r1⟩ := ra.rd ea rfl
    subst e1
    exact call_len_seq pins s σ H _ us Q I rx ⟨a1, xs, rfl, .inr h1, by rw [← r1.length]; exact p.okD m rfl⟩
  | str z =>
    simp only [lenD] at p
    split at p
    · rename_i hz
      have e1 : x = .str z := ra.rd ea rfl
      subst e1
      exact call_len_str pins s σ H _ us Q I rx ⟨z, rfl, by rw [line_eq]; exact hz, p.okD m rfl⟩
    · exact p.elim
  | _ => exact p.elim
def allD : PyData → Mem → Res Val
  | .list ds, μ => match boolsD ds with
    | some bs => okD (.bool (bs.all id)) μ
    | none => .no
  | _, _ => .no
def anyD : PyData → Mem → Res Val
  | .list ds, μ => match boolsD ds with
    | some bs => okD (.bool (bs.any id)) μ
    | none => .no
  | _, _ => .no
theorem cr_allD (hc : X.calm = true) : CallR X (.builtin "all") (cV X.K w (c1 allD)) := c1_run fun pins s σ H x us Q Ms a μ d I rx ra m ea p => by
  cases d with
  | list ds =>
    simp only [allD] at p
    split at p
    · rename_i bs hb
      obtain ⟨a1, xs, e1, h1, r1⟩ := ra.lst m ea
      subst e1
      rw [boolsD_eq hb] at r1
      rw [r1.bools] at h1
      exact cr_all hc pins s σ H _ us Q I rx ⟨a1, bs, rfl, h1, p.okD m rfl⟩
    · exact p.elim
  | _ => exact p.elim
theorem cr_anyD (hc : X.calm = true) : CallR X (.builtin "any") (cV X.K w (c1 anyD)) := c1_run fun pins s σ H x us Q Ms a μ d I rx ra m ea p => by
  cases d with
  | list ds =>
    simp only [anyD] at p
    split at p
    · rename_i bs hb
      obtain ⟨a1, xs, e1, h1, r1⟩ := ra.lst m ea
      subst e1
      rw [boolsD_eq hb] at r1
      rw [r1.bools] at h1
      exact cr_any hc pins s σ H _ us Q I rx ⟨a1, bs, rfl, h1, p.okD m rfl⟩
    · exact p.elim
  | _ => exact p.elim
def intD : PyData → Mem → Res Val
  | .int i, μ => okD (.int i) μ
  | .bool b, μ => okD (.int (if b then 1 else 0)) μ
  | .str z, μ => match PySem.intText? z with
    | some n => if z.length ≤ 640 then okD (.int n) μ else .no
    | none => .no
  | _, _ => .no
theorem cr_int : CallR X (.type "int") (cV X.K w (c1 intD)) := c1_run fun pins s σ H x us Q Ms a μ d I rx ra m ea p => by
  cases d with
  | int i =>
    have e1 : x = .int i := ra.rd ea rfl
    subst e1
    exact call_int1 pins s σ H _ us Q I rx (.inl ⟨i, rfl, p.okD m rfl⟩)
  | bool i =>
    have e1 : x = .bl i := ra.rd ea rfl
    subst e1
    exact call_int1 pins s σ H _ us Q I rx (.inr ⟨i, rfl, p.okD m rfl⟩)
  | str z =>
    simp only [intD] at p
    split at p
    · rename_i n hn
      split at p
      · rename_i hz
        have e1 : x = .str z := ra.rd ea rfl
        subst e1
        exact call_int_str pins s σ H _ us Q I rx ⟨z, n, rfl, hn, hz, p.okD m rfl⟩
      · exact p.elim
    · exact p.elim
  | _ => exact p.elim
def strD : PyData → Mem → Res Val
  | .int i, μ => if i.natAbs.log2 < 1920 then okD (.str (toString i)) μ else .no
  | .str z, μ => okD (.str z) μ
  | _, _ => .no
theorem cr_str : CallR X (.type "str") (cV X.K w (c1 strD)) := c1_run fun pins s σ H x us Q Ms a μ d I rx ra m ea p => by
  cases d with
  | int i =>
    simp only [strD] at p
    split at p
    · rename_i hz
      have e1 : x = .int i := ra.rd ea rfl
      subst e1
      exact call_str_int pins s σ H _ us Q I rx ⟨i, rfl, hz, p.okD m rfl⟩
    · exact p.elim
  | str z =>
    have e1 : x = .str z := ra.rd ea rfl
    subst e1
    exact SkE.call_str_str pins s σ H _ us Q I rx ⟨z, rfl, p.okD m rfl⟩
  | _ => exact p.elim
def absD : PyData → Mem → Res Val
  | .int i, μ => okD (.int (if i < 0 then -i else i)) μ
  | _, _ => .no
theorem cr_abs : CallR X (.builtin "abs") (cV X.K w (c1 absD)) := c1_run fun pins s σ H x us Q Ms a μ d I rx ra m ea p => by
  cases d with
  | int i =>
    have e1 : x = .int i := ra.rd ea rfl
    subst e1
    exact call_abs pins s σ H _ us Q I rx ⟨i, rfl, p.okD m rfl⟩
  | _ => exact p.elim
def max2D : PyData → PyData → Mem → Res Val
  | .int i, .int j, μ => okD (.int (if j > i then j else i)) μ
  | _, _, _ => .no
def min2D : PyData → PyData → Mem → Res Val
  | .int i, .int j, μ => okD (.int (if j < i then j else i)) μ
  | _, _, _ => .no
theorem cr_max2 (hc : X.calm = true) : CallR X (.builtin "max") (cV X.K w (c2 max2D)) := c2_run fun pins s σ H x y us Q Ms a b μ d e I rx ra rb m ea eb p => by
  cases d with
  | int i =>
    cases e with
    | int j =>
      have e1 : x = .int i := ra.rd ea rfl
      have e2 : y = .int j := rb.rd eb rfl
      subst e1 e2
      exact call_max2 hc pins s σ H _ us Q I rx ⟨i, j, rfl, p.okD m rfl⟩
    | _ => exact p.elim
  | _ => exact p.elim
theorem cr_min2 (hc : X.calm = true) : CallR X (.builtin "min") (cV X.K w (c2 min2D)) := c2_run fun pins s σ H x y us Q Ms a b μ d e I rx ra rb m ea eb p => by
  cases d with
  | int i =>
    cases e with
    | int j =>
      have e1 : x = .int i := ra.rd ea rfl
      have e2 : y = .int j := rb.rd eb rfl
      subst e1 e2
      exact call_min2 hc pins s σ H _ us Q I rx ⟨i, j, rfl, p.okD m rfl⟩
    | _ => exact p.elim
  | _ => exact p.elim
def maxI : Int → List Int → Int
  | a, [] => a
  | a, x :: xs => maxI (if x > a then x else a) xs
def minI : Int → List Int → Int
  | a, [] => a
  | a, x :: xs => minI (if x < a then x else a) xs
theorem maxI_ge : ∀ (xs : List Int) (a : Int), a ≤ maxI a xs ∧ ∀ x ∈ xs, x ≤ maxI a xs
  | [], a => ⟨Int.le_refl _, fun _ h => nomatch h⟩
  | x :: xs, a => by
    obtain ⟨h1, h2⟩ := maxI_ge xs (if x > a then x else a)
    refine ⟨?_, fun y hy => ?_⟩
    · refine Int.le_trans ?_ h1
      split <;> omega
    · rcases List.mem_cons.mp hy with rfl | hy
      · refine Int.le_trans ?_ h1
        split <;> omega
      · exact h2 y hy
theorem maxI_mem : ∀ (xs : List Int) (a : Int), maxI a xs ∈ a :: xs
  | [], a => List.mem_cons_self
  | x :: xs, a => by
    have h := maxI_mem xs (if x > a then x else a)
    show maxI (if x > a then x else a) xs ∈ _
    rcases List.mem_cons.mp h with h | h
    · rw [h]
      split <;> simp
    · simp [h]
theorem minI_le : ∀ (xs : List Int) (a : Int), minI a xs ≤ a ∧ ∀ x ∈ xs, minI a xs ≤ x
  | [], a => ⟨Int.le_refl _, fun _ h => nomatch h⟩
  | x :: xs, a => by
    obtain ⟨h1, h2⟩ := minI_le xs (if x < a then x else a)
    refine ⟨?_, fun y hy => ?_⟩
    · refine Int.le_trans h1 ?_
      split <;> omega
    · rcases List.mem_cons.mp hy with rfl | hy
      · refine Int.le_trans h1 ?_
        split <;> omega
      · exact h2 y hy
theorem minI_mem : ∀ (xs : List Int) (a : Int), minI a xs ∈ a :: xs
  | [], a => List.mem_cons_self
  | x :: xs, a => by
    have h := minI_mem xs (if x < a then x else a)
    show minI (if x < a then x else a) xs ∈ _
    rcases List.mem_cons.mp h with h | h
    · rw [h]
      split <;> simp
    · simp [h]
def max1D : PyData → Mem → Res Val
  | .list ds, μ => match intsD ds with
    | some (n :: ns) => okD (.int (maxI n ns)) μ
    | _ => .no
  | _, _ => .no
def min1D : PyData → Mem → Res Val
  | .list ds, μ => match intsD ds with
    | some (n :: ns) => okD (.int (minI n ns)) μ
    | _ => .no
  | _, _ => .no
theorem cr_max1 (hc : X.calm = true) : CallR X (.builtin "max") (cV X.K w (c1 max1D)) := c1_run fun pins s σ H x us Q Ms a μ d I rx ra m ea p => by
  cases d with
  | list ds =>
    simp only [max1D] at p
    split at p
    · rename_i n ns hb
      obtain ⟨a1, xs, e1, h1, r1⟩ := ra.lst m ea
      subst e1
      rw [intsD_eq hb] at r1
      rw [r1.ints] at h1
      refine cr_max hc pins s σ H _ us Q I rx ⟨a1, n :: ns, rfl, h1, by simp, fun k hk hk2 => ?_⟩
      have e2 : k = maxI n ns := Int.le_antisymm (by
        rcases List.mem_cons.mp hk with h | h
        · rw [h]; exact (maxI_ge ns n).1
        · exact (maxI_ge ns n).2 k h) (hk2 _ (maxI_mem ns n))
      rw [e2]
      exact p.okD m rfl
    · exact p.elim
  | _ => exact p.elim
theorem cr_min1 (hc : X.calm = true) : CallR X (.builtin "min") (cV X.K w (c1 min1D)) := c1_run fun pins s σ H x us Q Ms a μ d I rx ra m ea p => by
  cases d with
  | list ds =>
    simp only [min1D] at p
    split at p
    · rename_i n ns hb
      obtain ⟨a1, xs, e1, h1, r1⟩ := ra.lst m ea
      subst e1
      rw [intsD_eq hb] at r1
      rw [r1.ints] at h1
      refine cr_min hc pins s σ H _ us Q I rx ⟨a1, n :: ns, rfl, h1, by simp, fun k hk hk2 => ?_⟩
      have e2 : k = minI n ns := Int.le_antisymm (hk2 _ (minI_mem ns n)) (by
        rcases List.mem_cons.mp hk with h | h
        · rw [h]; exact (minI_le ns n).1
        · exact (minI_le ns n).2 k h)
      rw [e2]
      exact p.okD m rfl
    · exact p.elim
  | _ => exact p.elim
def sumD : PyData → Mem → Res Val
  | .list ds, μ => match intsD ds with
    | some ns => okD (.int ns.sum) μ
    | none => .no
  | _, _ => .no
theorem cr_sumD (hc : X.calm = true) : CallR X (.builtin "sum") (cV X.K w (c1 sumD)) := c1_run fun pins s σ H x us Q Ms a μ d I rx ra m ea p => by
  cases d with
  | list ds =>
    simp only [sumD] at p
    split at p
    · rename_i ns hb
      obtain ⟨a1, xs, e1, h1, r1⟩ := ra.lst m ea
      subst e1
      rw [intsD_eq hb] at r1
      rw [r1.ints] at h1
      exact cr_sum hc pins s σ H _ us Q I rx ⟨a1, ns, rfl, h1, p.okD m rfl⟩
    · exact p.elim
  | _ => exact p.elim
def listD : PyData → Mem → Res Val
  | .list ds, μ => okD (.list ds) μ
  | .tuple ds, μ => okD (.list ds) μ
  | _, _ => .no
theorem cr_list : CallR X (.type "list") (cV X.K w (c1 listD)) := c1_run fun pins s σ H x us Q Ms a μ d I rx ra m ea p => by
  cases d with
  | list ds =>
    obtain ⟨a1, xs, e1, h1, r1⟩ := ra.lst m ea
    subst e1
    exact call_list_of pins s σ H _ us Q I rx ⟨a1, xs, rfl, .inl h1, fun l hl => p.okN m hl (rep_lst m r1 hl)⟩
  | tuple ds =>
    obtain ⟨a1, xs, e1, h1, r1⟩ := ra.rd ea rfl
    subst e1
    exact call_list_of pins s σ H _ us Q I rx ⟨a1, xs, rfl, .inr h1, fun l hl => p.okN m hl (rep_lst m r1 hl)⟩
  | _ => exact p.elim
def tupleD : PyData → Mem → Res Val
  | .list ds, μ => okD (.tuple ds) μ
  | .tuple ds, μ => okD (.tuple ds) μ
  | _, _ => .no
theorem cr_tuple : CallR X (.type "tuple") (cV X.K w (c1 tupleD)) := c1_run fun pins s σ H x us Q Ms a μ d I rx ra m ea p => by
  cases d with
  | list ds =>
    obtain ⟨a1, xs, e1, h1, r1⟩ := ra.lst m ea
    subst e1
    exact call_tuple_of pins s σ H _ us Q I rx ⟨a1, xs, rfl, .inl ⟨h1, fun l hl => p.okN m hl (rep_tup r1 hl)⟩⟩
  | tuple ds =>
    obtain ⟨a1, xs, e1, h1, r1⟩ := ra.rd ea rfl
    subst e1
    exact call_tuple_of pins s σ H _ us Q I rx ⟨a1, xs, rfl, .inr ⟨h1, p.okD m ⟨a1, xs, rfl, h1, r1⟩⟩⟩
  | _ => exact p.elim
/-- a call's reading -/
theorem ca_weak {r : List V → Hp → VK → Prop} {g : List Val → Mem → Res Val} {e : Expr} {fl : FL} (h : PE X e (tCB (cV X.K w g) (tL X.K w fl))) : PE X e (tE X.K w (eArgs g fl)) :=
  h.weak fun σ H Q ⟨Ms, ρ, μ, hρ, hμ, h⟩ => ⟨Ms, ρ, μ, hρ, hμ, h.bind fun vs μ1 M1 H1 xs e m rs h1 => ⟨M1, vs, μ1, rs, m, h1⟩⟩
/-! ### isinstance -/
def tyN : PyData → String
  | .none => "NoneType"
  | .bool _ => "bool"
  | .int _ => "int"
  | .str _ => "str"
  | .list _ => "list"
  | .tuple _ => "tuple"
  | .dict _ => "dict"
def isT (d : PyData) (T : String) : Bool := match d with
  | .none => false
  | .bool _ => T == "bool" || T == "int"
  | .int _ => T == "int"
  | .str _ => T == "str"
  | .list _ => T == "list"
  | .tuple _ => T == "tuple"
  | .dict _ => false
def tyOk (T : String) : Bool := T == "bool" || T == "int" || T == "str" || T == "list" || T == "tuple"
theorem kit_tab : ∀ a ∈ ["NoneType", "bool", "int", "str", "list", "tuple"], ∀ T ∈ ["bool", "int", "str", "list", "tuple"], kitB a T = some (a == T || (a == "bool" && T == "int")) := by decide +kernel
theorem isT_kit {d : PyData} {T : String} (h : tyOk T = true) (n : tyN d ≠ "dict") : kitB (tyN d) T = some (isT d T) := by
  have hT : T ∈ ["bool", "int", "str", "list", "tuple"] := by
    simp only [tyOk, Bool.or_eq_true, beq_iff_eq] at h
    rcases h with (((h | h) | h) | h) | h <;> subst h <;> simp
  have hd : tyN d ∈ ["NoneType", "bool", "int", "str", "list", "tuple"] := by
    cases d <;> first | exact absurd rfl n | simp [tyN]
  rw [kit_tab _ hd _ hT]
  simp only [List.mem_cons, List.not_mem_nil, or_false] at hT
  rcases hT with rfl | rfl | rfl | rfl | rfl <;> cases d <;> rfl
def gIsT (T : String) : Val → Mem → Res Val := g1 fun d μ => if tyN d = "dict" then .no else okD (.bool (isT d T)) μ
theorem tyx_of {K : PySem.W.Frag} {Ms : Wd} {H : Hp} {μ : Mem} {a : Val} {x : V} {d : PyData} (ra : RepV K Ms H a x) (m : MemOk K Ms H μ) (e : deref μ a = some d) : TyX K H x (.type (tyN d)) := by
  have q := ra.dp m e
  cases q with
  | non => exact .base .non
  | bl b => exact .base (.bl b)
  | int i => exact .base (.int i)
  | str z => exact .base (.str z)
  | lst h _ =>
    rcases h with (h | ⟨o, h⟩) | ⟨o, its, n, h, c, _⟩
    · exact .base (.lst h)
    · exact .base (.frz h)
    · exact .kList h c
  | tup h _ =>
    rcases h with (h | ⟨o, h⟩) | ⟨o, its, n, h, c, _⟩
    · exact .base (.tup h)
    · exact .fTuple h
    · exact .kTuple h c
theorem de_isi {e : Expr} {fe : FE} {T : Str} {Ts : String} {p p2 pos : Pos} (hg : Gl X "isinstance") (hm : X.mg "isinstance" = none) (hgT : Gl X T) (hmT : X.mg T = none) (hv : bootBuiltins T = some (.type Ts)) (hT : tyOk Ts = true) (hn : T ≠ "__name__") (hdb : (T == ("__debug__" : Str)) = false)
    (he : PE X e (tE X.K w fe)) (hs : starEach [e, .Name T p2] X.env = (false, eval e X.env) :: starEach [.Name T p2] X.env) : PE X (.Call (.Name "isinstance" p) [e, .Name T p2] [] pos) (tE X.K w (eUn (gIsT Ts) fe)) :=
  (pe_callB call_isi hg hm (by decide +kernel) (pa_cons he (pa_cons (pe_bltn (v := .ty Ts) hgT hmT hv rfl hn hdb) pa_nil) hs) (by decide) (by decide) hs (by rfl)).weak fun σ H Q ⟨Ms, ρ, μ, hρ, hμ, h⟩ => ⟨Ms, ρ, μ, hρ, hμ, h.bind fun v μ1 M1 H1 x e m rx h1 => by
    unfold gIsT g1 at h1
    cases ea : deref μ1 v with
    | none => rw [ea] at h1; exact h1.elim
    | some d =>
      simp only [ea] at h1
      split at h1
      · exact h1.elim
      · rename_i nd
        exact ⟨x, .ty Ts, .type (tyN d), .type Ts, isT d Ts, rfl, .ty Ts, tyx_of rx m ea, kit_ty (isT_kit hT nd), h1.okD m rfl⟩⟩
/-! ### methods of built-in types -/
def mV (K : PySem.W.Frag) (w : Wi) (g : Val → List Val → Mem → Res Val) : V → List V → Hp → VK → Prop := fun x xs H Q => ∃ Ms a as μ, RepV K Ms H a x ∧ RepVs K Ms H as xs ∧ MemOk K Ms H μ ∧ Post K w (RepV K) Ms H (g a as μ) Q
def isTyp (T : String) (d : PyData) : Bool := match d with
  | .list _ => T == "list"
  | .str _ => T == "str"
  | _ => false
def eMeth (T : String) (g : Val → List Val → Mem → Res Val) (fo : FE) (fl : FL) : FE := fun ρ μ => (fo ρ μ).bind fun v μ1 => match deref μ1 v with
  | some d => if isTyp T d = true then (fl ρ μ1).bind fun as μ2 => g v as μ2 else .no
  | none => .no
theorem tyv_of {K : PySem.W.Frag} {Ms : Wd} {H : Hp} {μ : Mem} {a : Val} {x : V} {d : PyData} {T : String} (ra : RepV K Ms H a x) (m : MemOk K Ms H μ) (e : deref μ a = some d) (h : isTyp T d = true) : tyV K T x H := by
  cases d with
  | list ds =>
    obtain ⟨a1, xs, e1, h1, r1⟩ := ra.lst m e
    subst e1
    exact .inl ⟨eq_of_beq h, xs, h1⟩
  | str z =>
    have e1 : x = .str z := ra.rd e rfl
    subst e1
    exact eq_of_beq h
  | _ => cases h
theorem de_meth {o e : Expr} {es : List Expr} {fo : FE} {fl : FL} {name : Str} {apos cpos : Pos} {T id : String} {g : Val → List Val → Mem → Res Val} (pa : PlainAttrs T) (slot : Slot T name id) (hty : typeOf (.builtin id) = pure (.type "method_descriptor")) (hm : MtR X id (mV X.K w g)) (ho : PE X o (tE X.K w fo)) (ha : PA X (e :: es) (tL X.K w fl))
    (hbase : attributeBase o name X.env (eval o X.env) = eval o X.env)
    (hfew : ((backTo cpos (starEach (e :: es) X.env)).all (fun x => !x.1) && (backToKw cpos (keywordEach [] X.env)).all (fun x => x.1.isSome)
      && decide ((e :: es).length + ([] : List Keyword).length + (if ([] : List Keyword).isEmpty then 0 else 1) < 30)) = true)
    (hline : (apos.endLine == cpos.line) = true) (hs : starEach (e :: es) X.env = (false, eval e X.env) :: starEach es X.env) (hplain : (backTo cpos (starEach es X.env)).any (·.1) = false) :
    PE X (.Call (.Attribute o name apos) (e :: es) [] cpos) (tE X.K w (eMeth T g fo fl)) :=
  (pe_bm pa slot hty hm ho ha hbase hfew hline hs hplain).weak fun σ H Q ⟨Ms, ρ, μ, hρ, hμ, h⟩ => ⟨Ms, ρ, μ, hρ, hμ, h.bind fun v μ1 M1 H1 x e m rx h1 => by
    cases ea : deref μ1 v with
    | none => simp only [ea] at h1; exact h1.elim
    | some d =>
      simp only [ea] at h1
      split at h1
      · rename_i ht
        exact ⟨tyv_of rx m ea ht, M1, ρ, μ1, hρ.mono e, m, h1.bind fun as μ2 M2 H2 xs e2 m2 rs h2 => ⟨M2, v, as, μ2, rx.mono e2, rs, m2, h2⟩⟩
      · exact h1.elim⟩
/-- l.append(x), l a cell -/
def gAppend : Val → List Val → Mem → Res Val := fun v as μ => match v, as with
  | .cel n, [.dat d] => (match μ[n]? with
    | some (.lst ds) => if ds.length < 16777216 then .ok (.dat .none) (μ.set n (.lst (ds ++ [d]))) else .no
    | none => .no)
  | _, _ => .no
theorem mr_append : MtR X "list.append" (mV X.K w gAppend) := by
  intro pins s σ H x xs v us Q I rx rs ⟨Ms, a, as, μ, ra, ras, m, p⟩
  unfold gAppend at p
  split at p
  · rename_i n d
    split at p
    · rename_i ds hd
      split at p
      · rename_i hz
        obtain ⟨y, r, e, r1, r2⟩ := ras
        cases r2
        subst e
        obtain ⟨b, e1, h1⟩ := ra
        subst e1
        obtain ⟨ys, h2, h3⟩ := m.at_ h1 hd
        refine mt_append pins s σ H _ _ v us Q I rx rs ⟨b, ys, y, rfl, rfl, h2, by rw [line_eq, ← h3.length]; exact hz, ?_⟩
        exact p.ok (Ext.write (List.mem_of_getElem? h1) (m.dis b (List.mem_of_getElem? h1)) h2) (m.write h1 h2 (h3.append ⟨y, [], rfl, r1, rfl⟩)) rfl
      · exact p.elim
    · exact p.elim
  · exact p.elim
/-- l.count(x), flat items -/
def gCount : Val → List Val → Mem → Res Val := fun v as μ => match deref μ v, as with
  | some (.list ds), [.dat d] => if flatD d = true ∧ ds.all flatD = true then okD (.int ((ds.filter fun z => PyData.eqv z d).length : Nat)) μ else .no
  | _, _ => .no
theorem countP_vals {x : V} : ∀ {xs : List V} {us : List Value}, Vals xs us → xs.all flatV = true → us.countP (eqU x) = (xs.filter fun y => eqV y x).length
  | _, _, .nil, _ => rfl
  | y :: xs, u :: us, .cons r t, f => by
    rw [List.all_cons, Bool.and_eq_true] at f
    rw [List.countP_cons, List.filter_cons, eqU_of r f.1, countP_vals t f.2]
    cases eqV y x <;> simp
theorem RepL.filt {K : PySem.W.Frag} {Ms : Wd} {H : Hp} {e : PyData} {y : V} (q : RepD K Ms H e y) (fe : flatD e = true) : ∀ {ds : List PyData} {xs : List V}, RepL K Ms H ds xs → ds.all flatD = true → (xs.filter fun z => eqV z y).length = (ds.filter fun z => PyData.eqv z e).length
  | [], _, h, _ => by cases h; rfl
  | d :: ds, _, ⟨x, r, ee, h, t⟩, f => by
    subst ee
    rw [List.all_cons, Bool.and_eq_true] at f
    have ih := RepL.filt q fe t f.2
    rw [List.filter_cons, List.filter_cons, h.eqv q f.1 fe]
    cases PyData.eqv d e <;> simp [ih]
theorem mr_count : MtR X "list.count" (mV X.K w gCount) := by
  intro pins s σ H x xs v us Q I rx rs ⟨Ms, a, as, μ, ra, ras, m, p⟩
  unfold gCount at p
  split at p
  · rename_i ds d ea
    split at p
    · rename_i hf
      obtain ⟨y, r, e, r1, r2⟩ := ras
      cases r2
      subst e
      obtain ⟨a1, ys, e1, h1, r3⟩ := ra.lst m ea
      subst e1
      cases rx
      obtain ⟨u, rfl, ru⟩ := rs.one
      obtain ⟨its, rv, ⟨⟨cls, dd, data, sl⟩, n, ho, hc, hdn, hd⟩, hlen⟩ := I.list h1
      simp only at hc hd
      subst hc hd
      have fy := RepD.flat r1 hf.1
      have fs := RepL.flat r3 hf.2
      refine call_meets PySem.F.slot_list_count ⟨_, ho, rfl⟩ PySem.F.entry_list_count (PySem.F.args_list_count_2 _ _)
        (SeqAt.list_countAt a1 its.toArray n dd sl u (eqU y)) ⟨ho, fun z hz => mem_eqAt ru fy rv fs z (by simpa using hz), ?_⟩
      have ec : its.toArray.toList.countP (eqU y) = (ds.filter fun z => PyData.eqv z d).length := by
        rw [List.toList_toArray, countP_vals rv fs, RepL.filt r1 hf.1 r3 hf.2]
      refine ⟨.int ((ds.filter fun z => PyData.eqv z d).length : Nat), H, I.tok _, ⟨s.toks, ?_⟩, p.okD m rfl⟩
      show Value.int ((its.toArray.toList.countP (eqU y) : Nat) : Int) s.toks = _
      rw [ec]
    · exact p.elim
  · exact p.elim
end
end DN
set_option Elab.async false
set_option linter.all false
set_option maxRecDepth 100000
set_option maxHeartbeats 4000000
namespace DN
open PySem PySem.Spec PyProof.Rows L2
/-! ### tests -/
def tOf (f : FE) : FT := fun ρ μ => (f ρ μ).bind fun v μ1 => match v with
  | .dat (.bool b) => .ok b μ1
  | _ => .no
section
variable {X : Cx} {w : Wi} {a b c : Expr} {fa fb fc : FE} {ta tb : FT} {pos : Pos}
theorem tT_test {K : PySem.W.Frag} {f : FE} {t : TE} (k : ∀ σ H Q, tE K w f σ H Q → t σ H Q) (σ : L2.St) (H : Hp) (Q : Bool → Hp → Prop) (h : tT K w (tOf f) σ H Q) : t σ H fun x H' => ∃ k, x = .bl k ∧ Q k H' := by
  obtain ⟨Ms, ρ, μ, hρ, hμ, h⟩ := h
  refine k σ H _ ⟨Ms, ρ, μ, hρ, hμ, h.bind fun v μ1 M1 H1 x e m rx h1 => ?_⟩
  cases v with
  | dat d =>
    cases d with
    | bool b => exact ⟨b, rx, h1.ok .refl m rfl⟩
    | _ => exact h1.elim
  | _ => exact h1.elim
theorem dt_val {e : Expr} {f : FE} (h : PE X e (tE X.K w f)) (he : ∀ whole, isTrue e X.env whole = (do let v ← whole; standAt e.pos; holding [v] (truthy v))) : PT X e (tT X.K w (tOf f)) :=
  (pt_val h he).weak fun σ H Q q => tT_test (fun _ _ _ z => z) σ H Q q
theorem dt_cmp {op : CmpOp} {g : Val → Val → Mem → Res Val} (ho : OpR X (compareOp op) (rV X.K w g)) (ha : PE X a (tE X.K w fa)) (hb : PE X b (tE X.K w fb)) (hm : behindInMarks op b = false) : PT X (.Compare a [op] [b] pos) (tT X.K w (tOf (eBin g fa fb))) :=
  (pt_cmpR ho ha hb hm).weak fun σ H Q q => tT_test (fun σ H Q ⟨Ms, ρ, μ, hρ, hμ, h⟩ => ⟨Ms, ρ, μ, hρ, hμ, h.bind fun v μ1 M1 H1 x e m rx h1 => ⟨M1, ρ, μ1, hρ.mono e, m, h1.bind fun u μ2 M2 H2 y e2 m2 ry h2 => ⟨M2, v, u, μ2, rx.mono e2, ry, m2, h2⟩⟩⟩) σ H Q q
def eChain (g g' : Val → Val → Mem → Res Val) (fa fb fc : FE) : FE := fun ρ μ => (fa ρ μ).bind fun x μ1 => (fb ρ μ1).bind fun y μ2 => (g x y μ2).bind fun c μ3 => match c with
  | .dat (.bool true) => (fc ρ μ3).bind fun z μ4 => g' y z μ4
  | .dat (.bool false) => okD (.bool false) μ3
  | _ => .no
theorem chain_weak {K : PySem.W.Frag} {g g' : Val → Val → Mem → Res Val} (σ : L2.St) (H : Hp) (Q : VK) (h : tE K w (eChain g g' fa fb fc) σ H Q) : tChain (rV K w g) (rV K w g') (tE K w fa) (tE K w fb) (tE K w fc) σ H Q := by
  obtain ⟨Ms, ρ, μ, hρ, hμ, h⟩ := h
  refine ⟨Ms, ρ, μ, hρ, hμ, h.bind fun v μ1 M1 H1 x e m rx h1 => ⟨M1, ρ, μ1, hρ.mono e, m, h1.bind fun u μ2 M2 H2 y e2 m2 ry h2 => ⟨M2, v, u, μ2, rx.mono e2, ry, m2, h2.bind fun c μ3 M3 H3 z e3 m3 rz h3 => ?_⟩⟩⟩
  cases c with
  | dat d =>
    cases d with
    | bool b =>
      refine ⟨b, rz, ?_⟩
      cases b with
      | true =>
        rw [if_pos rfl]
        exact ⟨M3, ρ, μ3, ((hρ.mono e).mono e2).mono e3, m3, h3.bind fun t μ4 M4 H4 z' e4 m4 rt h4 => ⟨M4, u, t, μ4, (ry.mono e3).mono e4, rt, m4, h4⟩⟩
      | false =>
        rw [if_neg Bool.false_ne_true]
        exact h3.okD m3 rfl
    | _ => exact h3.elim
  | _ => exact h3.elim
theorem de_chain {op op' : CmpOp} {g g' : Val → Val → Mem → Res Val} (ho : OpR X (compareOp op) (rV X.K w g)) (ho' : OpR X (compareOp op') (rV X.K w g')) (ha : PE X a (tE X.K w fa)) (hb : PE X b (tE X.K w fb)) (hc : PE X c (tE X.K w fc)) (hm : lastMarks [op, op'] [b, c] = false) :
    PE X (.Compare a [op, op'] [b, c] pos) (tE X.K w (eChain g g' fa fb fc)) := (pe_chain ho ho' ha hb hc hm).weak chain_weak
theorem dt_chain {op op' : CmpOp} {g g' : Val → Val → Mem → Res Val} (ho : OpR X (compareOp op) (rV X.K w g)) (ho' : OpR X (compareOp op') (rV X.K w g')) (ha : PE X a (tE X.K w fa)) (hb : PE X b (tE X.K w fb)) (hc : PE X c (tE X.K w fc)) (hm : lastMarks [op, op'] [b, c] = false) :
    PT X (.Compare a [op, op'] [b, c] pos) (tT X.K w (tOf (eChain g g' fa fb fc))) := (pt_chain ho ho' ha hb hc hm).weak fun σ H Q q => tT_test chain_weak σ H Q q
def fAnd (ta tb : FT) : FT := fun ρ μ => (ta ρ μ).bind fun c μ1 => if c = true then tb ρ μ1 else .ok false μ1
def fOr (ta tb : FT) : FT := fun ρ μ => (ta ρ μ).bind fun c μ1 => if c = true then .ok true μ1 else tb ρ μ1
def fNot (ta : FT) : FT := fun ρ μ => (ta ρ μ).bind fun c μ1 => .ok (!c) μ1
theorem dw_and {rest : List Expr} (ha : PT X a (tT X.K w ta)) (hb : PW X (.BoolOp .And (b :: rest) pos) (tT X.K w tb)) : PW X (.BoolOp .And (a :: b :: rest) pos) (tT X.K w (fAnd ta tb)) :=
  (pw_and ha hb).weak fun σ H Q ⟨Ms, ρ, μ, hρ, hμ, h⟩ => ⟨Ms, ρ, μ, hρ, hμ, h.bind fun v μ1 M1 H1 x e m rx h1 => by
    cases rx
    cases v with
    | true => exact ⟨M1, ρ, μ1, hρ.mono e, m, h1⟩
    | false => exact h1.ok .refl m rfl⟩
theorem dw_or {rest : List Expr} (ha : PT X a (tT X.K w ta)) (hb : PW X (.BoolOp .Or (b :: rest) pos) (tT X.K w tb)) : PW X (.BoolOp .Or (a :: b :: rest) pos) (tT X.K w (fOr ta tb)) :=
  (pw_or ha hb).weak fun σ H Q ⟨Ms, ρ, μ, hρ, hμ, h⟩ => ⟨Ms, ρ, μ, hρ, hμ, h.bind fun v μ1 M1 H1 x e m rx h1 => by
    cases rx
    cases v with
    | false => exact ⟨M1, ρ, μ1, hρ.mono e, m, h1⟩
    | true => exact h1.ok .refl m rfl⟩
theorem dt_not (ha : PT X a (tT X.K w ta)) : PT X (.UnaryOp .Not a pos) (tT X.K w (fNot ta)) :=
  (pt_not ha).weak fun σ H Q ⟨Ms, ρ, μ, hρ, hμ, h⟩ => ⟨Ms, ρ, μ, hρ, hμ, h.bind fun v μ1 M1 H1 x e m rx h1 => by
    cases rx
    exact h1.ok .refl m rfl⟩
/-! as values -/
def eAnd (fa fb : FE) : FE := fun ρ μ => (fa ρ μ).bind fun v μ1 => match v with
  | .dat (.bool true) => fb ρ μ1
  | .dat (.bool false) => okD (.bool false) μ1
  | _ => .no
def eOr (fa fb : FE) : FE := fun ρ μ => (fa ρ μ).bind fun v μ1 => match v with
  | .dat (.bool false) => fb ρ μ1
  | .dat (.bool true) => okD (.bool true) μ1
  | _ => .no
theorem de_and {rest : List Expr} (ha : PE X a (tE X.K w fa)) (hb : PE X (.BoolOp .And (b :: rest) pos) (tE X.K w fb)) : PE X (.BoolOp .And (a :: b :: rest) pos) (tE X.K w (eAnd fa fb)) :=
  (pe_and ha hb).weak fun σ H Q ⟨Ms, ρ, μ, hρ, hμ, h⟩ => ⟨Ms, ρ, μ, hρ, hμ, h.bind fun v μ1 M1 H1 x e m rx h1 => by
    cases v with
    | dat d =>
      cases d with
      | bool b =>
        refine ⟨b, rx, ?_⟩
        cases b with
        | true => exact ⟨M1, ρ, μ1, hρ.mono e, m, h1⟩
        | false => exact h1.okD m rfl
      | _ => exact h1.elim
    | _ => exact h1.elim⟩
theorem de_or {rest : List Expr} (ha : PE X a (tE X.K w fa)) (hb : PE X (.BoolOp .Or (b :: rest) pos) (tE X.K w fb)) : PE X (.BoolOp .Or (a :: b :: rest) pos) (tE X.K w (eOr fa fb)) :=
  (pe_or ha hb).weak fun σ H Q ⟨Ms, ρ, μ, hρ, hμ, h⟩ => ⟨Ms, ρ, μ, hρ, hμ, h.bind fun v μ1 M1 H1 x e m rx h1 => by
    cases v with
    | dat d =>
      cases d with
      | bool b =>
        refine ⟨b, rx, ?_⟩
        cases b with
        | false => exact ⟨M1, ρ, μ1, hρ.mono e, m, h1⟩
        | true => exact h1.okD m rfl
      | _ => exact h1.elim
    | _ => exact h1.elim⟩
theorem de_not (ha : PE X a (tE X.K w fa)) : PE X (.UnaryOp .Not a pos) (tE X.K w (eUn gNot fa)) :=
  (pe_not ha).weak fun σ H Q ⟨Ms, ρ, μ, hρ, hμ, h⟩ => ⟨Ms, ρ, μ, hρ, hμ, h.bind fun v μ1 M1 H1 x e m rx h1 => by
    unfold gNot g1 at h1
    cases ea : deref μ1 v with
    | none => rw [ea] at h1; exact h1.elim
    | some d =>
      simp only [ea] at h1
      cases d with
      | bool b => exact ⟨b, rx.rd ea rfl, h1.okD m rfl⟩
      | _ => exact h1.elim⟩
def eIf (t : FT) (fa fb : FE) : FE := fun ρ μ => (t ρ μ).bind fun c μ1 => if c = true then fa ρ μ1 else fb ρ μ1
theorem de_if {t : Expr} {tt : FT} (ht : PT X t (tT X.K w tt)) (ha : PE X a (tE X.K w fa)) (hb : PE X b (tE X.K w fb)) : PE X (.IfExp t a b pos) (tE X.K w (eIf tt fa fb)) :=
  (pe_ifExp ht ha hb).weak fun σ H Q ⟨Ms, ρ, μ, hρ, hμ, h⟩ => ⟨Ms, ρ, μ, hρ, hμ, h.bind fun v μ1 M1 H1 x e m rx h1 => by
    cases rx
    cases v with
    | true => exact ⟨M1, ρ, μ1, hρ.mono e, m, h1⟩
    | false => exact ⟨M1, ρ, μ1, hρ.mono e, m, h1⟩⟩
end
/-! ### targets -/
abbrev FG := Val → Rho → Option Rho
def tG (K : PySem.W.Frag) (g : FG) : TG := fun v σ H Q => ∃ Ms ρ a ρ', RhoOk K Ms H ρ σ ∧ RepV K Ms H a v ∧ g a ρ = some ρ' ∧ ∀ σ', RhoOk K Ms H ρ' σ' → Q σ' H
def tGs (K : PySem.W.Frag) (g : List PyData → Rho → Option Rho) : TGs := fun vs σ H Q => ∃ Ms ρ ds ρ', RhoOk K Ms H ρ σ ∧ RepL K Ms H ds vs ∧ g ds ρ = some ρ' ∧ ∀ σ', RhoOk K Ms H ρ' σ' → Q σ' H
theorem _root_.L2.PG.weak {X : Cx} {e : Expr} {t t' : TG} (h : PG X e t) (k : ∀ v σ H Q, t' v σ H Q → t v σ H Q) : PG X e t' := ⟨fun pins s σ H v u Q I r q => h.run pins s σ H v u Q I r (k v σ H Q q)⟩
theorem _root_.L2.PGs.weak {X : Cx} {e : List Expr} {t t' : TGs} (h : PGs X e t) (k : ∀ v σ H Q, t' v σ H Q → t v σ H Q) : PGs X e t' := ⟨fun pins s σ H v u Q I r q => h.run pins s σ H v u Q I r (k v σ H Q q)⟩
def gNm (i : Nat) : FG := fun v ρ => some (ρ.set i (some v))
def gNl : List PyData → Rho → Option Rho := fun ds ρ => match ds with
  | [] => some ρ
  | _ => none
def gCn (g : FG) (r : List PyData → Rho → Option Rho) : List PyData → Rho → Option Rho := fun ds ρ => match ds with
  | d :: ds => (match g (.dat d) ρ with
    | some ρ1 => r ds ρ1
    | none => none)
  | [] => none
def gTp (n : Nat) (g : List PyData → Rho → Option Rho) : FG := fun v ρ => match v with
  | .dat (.tuple ds) => if ds.length = n then g ds ρ else none
  | _ => none
section
variable {X : Cx} {pos : Pos}
theorem dg_name {i : Nat} {x : Str} (hN : X.N.Nodup) (hi : X.N[i]? = some x) (hx : Loc X.env.scope x) (hf : X.fn x = true ∨ X.env.scope.names.lookup x = some .local) : PG X (.Name x pos) (tG X.K (gNm i)) :=
  (pg_name hN hi hx hf).weak fun v σ H Q ⟨Ms, ρ, a, ρ', hρ, ha, hg, h⟩ => by
    cases hg
    exact h _ (hρ.set i ha)
theorem dgs_nil : PGs X [] (tGs X.K gNl) := pgs_nil.weak fun v σ H Q ⟨Ms, ρ, ds, ρ', hρ, ha, hg, h⟩ => by
  cases ds with
  | nil =>
    cases hg
    exact ⟨ha, h σ hρ⟩
  | cons d ds => cases hg
theorem dgs_cons {e : Expr} {es : List Expr} {g : FG} {r : List PyData → Rho → Option Rho} (h1 : PG X e (tG X.K g)) (h2 : PGs X es (tGs X.K r)) (hs : (assignEach (e :: es) X.env).map (·.2) = assign e X.env :: (assignEach es X.env).map (·.2)) : PGs X (e :: es) (tGs X.K (gCn g r)) :=
  (pgs_cons h1 h2 hs).weak fun v σ H Q ⟨Ms, ρ, ds, ρ', hρ, ha, hg, h⟩ => by
    cases ds with
    | nil => cases hg
    | cons d ds =>
      obtain ⟨x, r', e1, rx, t⟩ := ha
      unfold gCn at hg
      split at hg
      · rename_i d' ds' e2
        cases e2
        split at hg
        · rename_i ρ1 h3
          exact ⟨x, r', e1, Ms, ρ, .dat d, ρ1, hρ, rx, h3, fun σ' hρ' => ⟨Ms, ρ1, ds, ρ', hρ', t, hg, h⟩⟩
        · cases hg
      · cases hg
theorem dg_tup {es : List Expr} {k : Nat} {n : Nat} {g : List PyData → Rho → Option Rho} (hc : X.calm = true) (h : PGs X es (tGs X.K g)) (hn : (assignEach es X.env).length = n) (hst : (assignEach es X.env).findIdx? (·.1) = none) : PG X (.Tuple es k pos) (tG X.K (gTp n g)) :=
  (pg_tup hc h hn hst).weak fun v σ H Q ⟨Ms, ρ, a, ρ', hρ, ha, hg, h⟩ => by
    unfold gTp at hg
    split at hg
    · rename_i ds
      split at hg
      · rename_i hl
        obtain ⟨a1, xs, e1, h1, r1⟩ := ha
        exact ⟨a1, xs, e1, h1, by rw [← r1.length]; exact hl, Ms, ρ, ds, ρ', hρ, r1, hg, h⟩
      · cases hg
    · cases hg
end
/-! ### statements -/
def EndD (K : PySem.W.Frag) (Mt : Wd) (D : Ends) (fl : Flo) (σ : L2.St) (H : Hp) : Prop := match fl with
  | .nx => D.nx σ H
  | .rt v => ∀ u, RepV K Mt H v u → D.rt u H
  | .bk => D.bk σ H
  | .ct => D.ct σ H
def IsS (K : PySem.W.Frag) : Wd → Hp → Flo × Rho → Wd × Flo × L2.St → Prop := fun Mt H a b => b.1 = Mt ∧ b.2.1 = a.1 ∧ RhoOk K Mt H a.2 b.2.2
def QS (K : PySem.W.Frag) (D : Ends) : Wd × Flo × L2.St → Hp → Prop := fun b H => EndD K b.1 D b.2.1 b.2.2 H
abbrev PostS (K : PySem.W.Frag) (w : Wi) (Ms : Wd) (H : Hp) (r : Res (Flo × Rho)) (D : Ends) : Prop := Post K w (IsS K) Ms H r (QS K D)
def tS (K : PySem.W.Frag) (w : Wi) (f : FS) : TS := fun D σ H => ∃ Ms ρ μ, RhoOk K Ms H ρ σ ∧ MemOk K Ms H μ ∧ PostS K w Ms H (f ρ μ) D
theorem PostS.fin {K : PySem.W.Frag} {w : Wi} {Ms Mt : Wd} {H H' : Hp} {fl : Flo} {ρ : Rho} {μ : Mem} {D : Ends} {σ : L2.St} (h : PostS K w Ms H (.ok (fl, ρ) μ) D) (e : Ext Ms Mt H H') (m : MemOk K Mt H' μ) (r : RhoOk K Mt H' ρ σ) : EndD K Mt D fl σ H' :=
  h Mt H' (Mt, fl, σ) e m ⟨rfl, rfl, r⟩
def sPass : FS := fun ρ μ => .ok (.nx, ρ) μ
def sBreak : FS := fun ρ μ => .ok (.bk, ρ) μ
def sCont : FS := fun ρ μ => .ok (.ct, ρ) μ
def sNo : FS := fun _ _ => .no
def sSeq (f g : FS) : FS := fun ρ μ => (f ρ μ).bind fun q μ1 => match q.1 with
  | .nx => g q.2 μ1
  | _ => .ok q μ1
def sExpr (f : FE) : FS := fun ρ μ => (f ρ μ).bind fun _ μ1 => .ok (.nx, ρ) μ1
def sRet (f : FE) : FS := fun ρ μ => (f ρ μ).bind fun v μ1 => .ok (.rt v, ρ) μ1
def sRetN : FS := fun ρ μ => .ok (.rt (.dat .none), ρ) μ
def sIf (t : FT) (f g : FS) : FS := fun ρ μ => (t ρ μ).bind fun c μ1 => if c = true then f ρ μ1 else g ρ μ1
def sAsg (f : FE) (g : FG) : FS := fun ρ μ => (f ρ μ).bind fun v μ1 => match g v ρ with
  | some ρ1 => .ok (.nx, ρ1) μ1
  | none => .no
def sPar2 (i j : Nat) (fl : FL) : FS := fun ρ μ => (fl ρ μ).bind fun vs μ1 => match vs with
  | [v, u] => .ok (.nx, (ρ.set i (some v)).set j (some u)) μ1
  | _ => .no
def sPar3 (i j k : Nat) (fl : FL) : FS := fun ρ μ => (fl ρ μ).bind fun vs μ1 => match vs with
  | [v, u, t] => .ok (.nx, ((ρ.set i (some v)).set j (some u)).set k (some t)) μ1
  | _ => .no
/-- o[i] = v, o a cell -/
def gSet (o i v : Val) (μ : Mem) : Res Unit := match o, i, v with
  | .cel n, .dat (.int k), .dat d => (match μ[n]? with
    | some (.lst ds) => (match ixN ds.length k with
      | some j => .ok () (μ.set n (.lst (ds.set j d)))
      | none => .no)
    | none => .no)
  | _, _, _ => .no
def sSet (fv fo fi : FE) : FS := fun ρ μ => (fv ρ μ).bind fun v μ1 => (fo ρ μ1).bind fun o μ2 => (fi ρ μ2).bind fun i μ3 => (gSet o i v μ3).bind fun _ μ4 => .ok (.nx, ρ) μ4
section
variable {X : Cx} {w : Wi} {st : Stmt} {rest : List Stmt} {f g : FS} {fe : FE} {e : Expr} {pos : Pos}
theorem dss_nil : PSs X [] (tS X.K w sPass) := pss_nil.weak fun D σ H ⟨Ms, ρ, μ, hρ, hμ, h⟩ => PostS.fin h .refl hμ hρ
theorem dss_cons (h1 : PS X st (tS X.K w f)) (h2 : PSs X rest (tS X.K w g)) : PSs X (st :: rest) (tS X.K w (sSeq f g)) :=
  (pss_cons h1 h2).weak fun D σ H ⟨Ms, ρ, μ, hρ, hμ, h⟩ => ⟨Ms, ρ, μ, hρ, hμ, h.bind fun q μ1 M1 H1 b e m r h1 => by
    obtain ⟨fl, ρ1⟩ := q
    obtain ⟨W, fl', σ'⟩ := b
    obtain ⟨r1, r2, r3⟩ := r
    simp only at r1 r2 r3
    subst r1 r2
    cases fl' with
    | nx => exact ⟨W, ρ1, μ1, r3, m, h1⟩
    | rt v => exact fun u hu => PostS.fin h1 .refl m r3 u hu
    | bk => exact PostS.fin (D := D) (fl := .bk) h1 .refl m r3
    | ct => exact PostS.fin (D := D) (fl := .ct) h1 .refl m r3⟩
theorem ds_pass : PS X (.Pass pos) (tS X.K w sPass) := ps_pass.weak fun D σ H ⟨Ms, ρ, μ, hρ, hμ, h⟩ => PostS.fin h .refl hμ hρ
theorem ds_break : PS X (.Break pos) (tS X.K w sBreak) := ps_break.weak fun D σ H ⟨Ms, ρ, μ, hρ, hμ, h⟩ => PostS.fin h .refl hμ hρ
theorem ds_cont : PS X (.Continue pos) (tS X.K w sCont) := ps_continue.weak fun D σ H ⟨Ms, ρ, μ, hρ, hμ, h⟩ => PostS.fin h .refl hμ hρ
theorem ds_no : PS X st (tS X.K w sNo) := ps_never.weak fun D σ H ⟨Ms, ρ, μ, hρ, hμ, h⟩ => (h : False).elim
theorem ds_expr (he : PE X e (tE X.K w fe)) (hs : swapsWith e none pos.line X.env = pure false) : PS X (.Expr e pos) (tS X.K w (sExpr fe)) :=
  (ps_expr he hs).weak fun D σ H ⟨Ms, ρ, μ, hρ, hμ, h⟩ => ⟨Ms, ρ, μ, hρ, hμ, h.bind fun v μ1 M1 H1 x e m rx h1 => PostS.fin h1 .refl m (hρ.mono e)⟩
theorem ds_ret (he : PE X e (tE X.K w fe)) : PS X (.Return (some e) pos) (tS X.K w (sRet fe)) :=
  (ps_ret he).weak fun D σ H ⟨Ms, ρ, μ, hρ, hμ, h⟩ => ⟨Ms, ρ, μ, hρ, hμ, h.bind fun v μ1 M1 H1 x e m rx h1 => PostS.fin h1 .refl m (hρ.mono e) x rx⟩
theorem ds_retN : PS X (.Return none pos) (tS X.K w sRetN) := ps_retN.weak fun D σ H ⟨Ms, ρ, μ, hρ, hμ, h⟩ => PostS.fin h .refl hμ hρ .non rfl
theorem ds_if {t : Expr} {tt : FT} {a b : List Stmt} (ht : PT X t (tT X.K w tt)) (ha : PSs X a (tS X.K w f)) (hb : PSs X b (tS X.K w g)) : PS X (.If t a b pos) (tS X.K w (sIf tt f g)) :=
  (ps_if ht ha hb).weak fun D σ H ⟨Ms, ρ, μ, hρ, hμ, h⟩ => ⟨Ms, ρ, μ, hρ, hμ, h.bind fun v μ1 M1 H1 x e m rx h1 => by
    cases rx
    cases v with
    | true => exact ⟨M1, ρ, μ1, hρ.mono e, m, h1⟩
    | false => exact ⟨M1, ρ, μ1, hρ.mono e, m, h1⟩⟩
theorem asg_weak {K : PySem.W.Frag} {gg : FG} {te : TE} {tg : TG} (hte : ∀ σ H Q, tE K w fe σ H Q → te σ H Q) (htg : ∀ v σ H Q, tG K gg v σ H Q → tg v σ H Q) (D : Ends) (σ : L2.St) (H : Hp) (h : tS K w (sAsg fe gg) D σ H) : tAsg te tg D σ H := by
  obtain ⟨Ms, ρ, μ, hρ, hμ, h⟩ := h
  refine hte σ H _ ⟨Ms, ρ, μ, hρ, hμ, h.bind fun v μ1 M1 H1 x e m rx h1 => htg _ _ _ _ ?_⟩
  split at h1
  · rename_i ρ1 hg
    exact ⟨M1, ρ, v, ρ1, hρ.mono e, rx, hg, fun σ' hρ' => PostS.fin h1 .refl m hρ'⟩
  · exact h1.elim
theorem ds_asg {tg : Expr} {gg : FG} (he : PE X e (tE X.K w fe)) (hg : PG X tg (tG X.K gg)) (hs : swapsWithSole [tg] e pos.line X.env = pure false) (hw : swappedStores [tg] e X.env = pure none) (h1 : (assignEach [tg] X.env).map (·.2) = [assign tg X.env]) :
    PS X (.Assign [tg] e pos) (tS X.K w (sAsg fe gg)) := (ps_asg he hg hs hw h1).weak (asg_weak (fun _ _ _ h => h) fun _ _ _ _ h => h)
theorem ds_set {i : Nat} {x : Str} {pos' : Pos} (hN : X.N.Nodup) (hi : X.N[i]? = some x) (hx : Loc X.env.scope x) (he : PE X e (tE X.K w fe)) (hs : swapsWith e (some (.Name x pos')) pos.line X.env = pure false) (hf : X.fn x = true ∨ X.env.scope.names.lookup x = some .local) :
    PS X (.Assign [.Name x pos'] e pos) (tS X.K w (sAsg fe (gNm i))) := (ps_set hN hi hx he hs hf).weak (asg_weak (fun _ _ _ h => h) fun v σ H Q ⟨Ms, ρ, a, ρ', hρ, ha, hg, h⟩ => by
      cases hg
      exact h _ (hρ.set i ha))
theorem ds_par2 {i j : Nat} {x y : Str} {a b : Expr} {fl : FL} {px py pt : Pos} {kt k2 pt2} (hc : X.calm = true) (hN : X.N.Nodup) (hi : X.N[i]? = some x) (hj : X.N[j]? = some y) (hij : i ≠ j)
    (hx : X.env.scope.names.lookup x = some .local) (hy : X.env.scope.names.lookup y = some .local) (ha : PA X [a, b] (tL X.K w fl))
    (hw : swappedStores [.Tuple [.Name x px, .Name y py] kt pt] (.Tuple [a, b] k2 pt2) X.env = pure (some [x, y])) :
    PS X (.Assign [.Tuple [.Name x px, .Name y py] kt pt] (.Tuple [a, b] k2 pt2) pos) (tS X.K w (sPar2 i j fl)) :=
  (ps_par hc hN hi hj hij hx hy ha hw).weak fun D σ H ⟨Ms, ρ, μ, hρ, hμ, h⟩ => ⟨Ms, ρ, μ, hρ, hμ, h.bind fun vs μ1 M1 H1 xs e m rs h1 => by
    split at h1
    · rename_i v u
      obtain ⟨x1, r1, e1, q1, x2, r2, e2, q2, e3⟩ := rs
      cases e3
      subst e2
      subst e1
      exact ⟨x1, x2, rfl, PostS.fin h1 .refl m (((hρ.mono e).set i q1).set j q2)⟩
    · exact h1.elim⟩
theorem ds_par3 {i j l : Nat} {x y z : Str} {a b c : Expr} {fl : FL} {px py pz pt : Pos} {kt k2 pt2} (hc : X.calm = true) (hN : X.N.Nodup) (hi : X.N[i]? = some x) (hj : X.N[j]? = some y) (hl : X.N[l]? = some z) (hij : i ≠ j) (hil : i ≠ l) (hjl : j ≠ l)
    (hx : X.env.scope.names.lookup x = some .local) (hy : X.env.scope.names.lookup y = some .local) (hz : X.env.scope.names.lookup z = some .local) (ha : PA X [a, b, c] (tL X.K w fl))
    (hw : swappedStores [.Tuple [.Name x px, .Name y py, .Name z pz] kt pt] (.Tuple [a, b, c] k2 pt2) X.env = pure (some [x, y, z])) :
    PS X (.Assign [.Tuple [.Name x px, .Name y py, .Name z pz] kt pt] (.Tuple [a, b, c] k2 pt2) pos) (tS X.K w (sPar3 i j l fl)) :=
  (ps_par3 hc hN hi hj hl hij hil hjl hx hy hz ha hw).weak fun D σ H ⟨Ms, ρ, μ, hρ, hμ, h⟩ => ⟨Ms, ρ, μ, hρ, hμ, h.bind fun vs μ1 M1 H1 xs e m rs h1 => by
    split at h1
    · rename_i v u t
      obtain ⟨x1, r1, e1, q1, x2, r2, e2, q2, x3, r3, e3, q3, e4⟩ := rs
      cases e4
      subst e3
      subst e2
      subst e1
      exact ⟨x1, x2, x3, rfl, PostS.fin h1 .refl m ((((hρ.mono e).set i q1).set j q2).set l q3)⟩
    · exact h1.elim⟩
theorem ds_setI {o i : Expr} {fo fi : FE} {pos' : Pos} (hv : PE X e (tE X.K w fe)) (ho : PE X o (tE X.K w fo)) (hi : PE X i (tE X.K w fi)) (hs : swapsWithSole [.Subscript o i pos'] e pos.line X.env = pure false) (hw : swappedStores [.Subscript o i pos'] e X.env = pure none)
    (h1 : (assignEach [.Subscript o i pos'] X.env).map (·.2) = [assign (.Subscript o i pos') X.env])
    (ha : ∀ v, assign (.Subscript o i pos') X.env v = (do
      let ov ← holding [v] (eval o X.env)
      let iv ← holding [v, ov] (eval i X.env)
      standAt pos'
      holding [v, ov, iv] (setItem ov iv v)
      release [v, ov, iv] [])) : PS X (.Assign [.Subscript o i pos'] e pos) (tS X.K w (sSet fe fo fi)) :=
  (ps_asg hv (pg_sub ho hi set_list ha) hs hw h1).weak fun D σ H ⟨Ms, ρ, μ, hρ, hμ, h⟩ => ⟨Ms, ρ, μ, hρ, hμ, h.bind fun v μ1 M1 H1 x e1 m1 rx h1 => ⟨M1, ρ, μ1, hρ.mono e1, m1, h1.bind fun ov μ2 M2 H2 y e2 m2 ry h2 => ⟨M2, ρ, μ2, (hρ.mono e1).mono e2, m2, h2.bind fun iv μ3 M3 H3 z e3 m3 rz h3 => by
    have rx' := (rx.mono e2).mono e3
    have ry' := ry.mono e3
    have hρ' := ((hρ.mono e1).mono e2).mono e3
    unfold gSet at h3
    split at h3
    · rename_i n k d
      split at h3
      · rename_i ds hd
        split at h3
        · rename_i j hj
          obtain ⟨b, e4, h4⟩ := ry'
          subst e4
          obtain ⟨ys, h5, h6⟩ := m3.at_ h4 hd
          refine ⟨b, ys, k, j, rfl, rz, h5, by rw [← h6.length]; exact hj, ?_⟩
          have ee := Ext.write (o := .lst (ys.set j x)) (List.mem_of_getElem? h4) (m3.dis b (List.mem_of_getElem? h4)) h5
          exact PostS.fin h3 ee (m3.write h4 h5 (h6.set j rx')) (hρ'.mono ee)
        · exact h3.elim
      · exact h3.elim
    · exact h3.elim⟩⟩⟩
/-! ### while -/
def whileD (c : FT) (b : FS) : Nat → Rho → Mem → Res (Flo × Rho)
  | 0, _, _ => .no
  | n + 1, ρ, μ => (c ρ μ).bind fun t μ1 => if t = true then (b ρ μ1).bind fun q μ2 => match q.1 with
      | .nx => whileD c b n q.2 μ2
      | .ct => whileD c b n q.2 μ2
      | .bk => .ok (.nx, q.2) μ2
      | .rt v => .ok (.rt v, q.2) μ2
    else .ok (.nx, ρ) μ1
def fuel : Nat := 1000000
def sWhile (c : FT) (b : FS) : FS := fun ρ μ => whileD c b fuel ρ μ
theorem ds_while {t : Expr} {tt : FT} {body : List Stmt} (hp : PassesOwn (model X.prog X.w) X.A X.env X.xe) (ht : PT X t (tT X.K w tt)) (hb : PSs X body (tS X.K w f)) : PS X (.While t body [] pos) (tS X.K w (sWhile tt f)) :=
  (ps_while hp ht hb).weak fun D σ H ⟨Ms, ρ, μ, hρ, hμ, h⟩ => by
    refine ⟨fun n σ H => ∃ Ms ρ μ, RhoOk X.K Ms H ρ σ ∧ MemOk X.K Ms H μ ∧ PostS X.K w Ms H (whileD tt f n ρ μ) D, ⟨fuel, Ms, ρ, μ, hρ, hμ, h⟩, ?_⟩
    rintro n σ H ⟨Ms, ρ, μ, hρ, hμ, h⟩
    cases n with
    | zero => exact h.elim
    | succ n =>
      refine ⟨Ms, ρ, μ, hρ, hμ, h.bind fun c μ1 M1 H1 x e m rx h1 => ?_⟩
      cases rx
      cases c with
      | false => exact PostS.fin h1 .refl m (hρ.mono e)
      | true =>
        refine ⟨fun σ' H' => ∃ Ms ρ μ, RhoOk X.K Ms H' ρ σ' ∧ MemOk X.K Ms H' μ ∧ PostS X.K w Ms H' (whileD tt f n ρ μ) D, fun σ' H' h' => ⟨n, Nat.lt_succ_self n, h'⟩, M1, ρ, μ1, hρ.mono e, m, h1.bind fun q μ2 M2 H2 b e2 m2 r h2 => ?_⟩
        obtain ⟨fl, ρ1⟩ := q
        obtain ⟨W, fl', σ'⟩ := b
        obtain ⟨r1, r2, r3⟩ := r
        simp only at r1 r2 r3
        subst r1 r2
        cases fl' with
        | nx => exact ⟨W, ρ1, μ2, r3, m2, h2⟩
        | ct => exact ⟨W, ρ1, μ2, r3, m2, h2⟩
        | bk => exact PostS.fin (D := D) (fl := .nx) h2 .refl m2 r3
        | rt v => exact fun u hu => PostS.fin h2 .refl m2 r3 u hu
end
end DN
set_option Elab.async false
set_option linter.all false
set_option maxRecDepth 100000
set_option maxHeartbeats 4000000
namespace DN
open PySem PySem.Spec PyProof.Rows L2
/-! ### enumerate of a tuple -/
section
open Sem (wp)
open AutoSeq1 (wpAny_loadPart')
theorem meets_enumT (l : Addr) (items : Array Value) :
    Meets (Builtin.«enumerate.__new__» ⟨[.type "enumerate", .ref l], []⟩) (fun _ R s => s.heap.IsTuple l items ∧
      R (.ok (.ret (.ref (s.heap.push { cls := .type "tuple_iterator", data := .fields #[.ref l, .int 0 0] }).objs.size)))
        { s with heap := (s.heap.push { cls := .type "tuple_iterator", data := .fields #[.ref l, .int 0 0] }).push { cls := .type "enumerate", data := .fields #[.none, .bool false, .ref s.heap.objs.size, rawInt 0, .none, .none] } }) :=
  .of_wp fun prog w A R s h => by
    obtain ⟨hp, g, d, tk, os⟩ := s
    obtain ⟨hl, h⟩ := h
    have hsub := sub_enumerate
    have q1 : ∀ {A' : Around} {E : Value → Shared → Prop} {Q : Value → Shared → Prop}, Q (.ref hp.objs.size) ⟨hp.push { cls := .type "tuple_iterator", data := .fields #[.ref l, .int 0 0] }, g, d, tk, os⟩ → wpAny (model prog w) A' (pyIter (.ref l)) Q E ⟨hp, g, d, tk, os⟩ :=
      fun q => wpAny_pyIter_tuple hl q
    wp_walk using q1
    refine wpAny_stack_any fun st => wpAny_pure ?_
    split
    · rename_i c _ _ _ _ _
      cases (c == Value.type "enumerate")
      · wp_walk using q1
        exact ⟨_, rfl, h⟩
      · wp_walk using q1
        exact ⟨_, rfl, h⟩
    · wp_walk using q1
      exact ⟨_, rfl, h⟩
variable {prog : Program} {w : World} {A : Around} {E : Value → Shared → Prop} {s : Shared}
theorem call_enumT {l : Addr} {items : Array Value} {Q : Value → Shared → Prop} (hL : s.heap.IsTuple l items)
    (h : ∀ h', IsEnum h' (s.heap.objs.size + 1) s.heap.objs.size 0 .none → h'.IsTupleIter s.heap.objs.size l 0 → h'.objs.size = s.heap.objs.size + 2 →
      (∀ b o, s.heap.get? b = some o → h'.get? b = some o) → Q (.ref (s.heap.objs.size + 1)) { s with heap := h' }) :
    wpAny (model prog w) A (call (.type "enumerate") [.ref l]) Q E s := by
  refine callType_new F.called_enumerate (by decide) (F.typeCall_enumerate_1 _) (F.newCall_enumerate_1 _) (fun obj => F.args_object_init_2 obj _) F.entry_enumerate_new
    (meets_enumT l items) ⟨hL, ?_⟩
  have hz : (s.heap.push { cls := .type "tuple_iterator", data := .fields #[.ref l, .int 0 0] }).objs.size = s.heap.objs.size + 1 := Heap.size_push ..
  show _ ∧ _
  rw [hz]
  have he : IsEnum ((s.heap.push { cls := .type "tuple_iterator", data := .fields #[.ref l, .int 0 0] }).push
      { cls := .type "enumerate", data := .fields #[.none, .bool false, .ref s.heap.objs.size, rawInt 0, .none, .none] }) (s.heap.objs.size + 1) s.heap.objs.size 0 .none := by
    have := Heap.get?_push_size (s.heap.push { cls := .type "tuple_iterator", data := .fields #[.ref l, .int 0 0] })
      (o := { cls := .type "enumerate", data := .fields #[.none, .bool false, .ref s.heap.objs.size, rawInt 0, .none, .none] }) rfl
    rw [hz] at this; exact this
  refine ⟨⟨_, he, rfl⟩, h _ he ⟨_, Heap.get?_push_of_some _ (Heap.get?_push_size _ rfl), rfl, rfl⟩ (by rw [Heap.size_push, hz]) fun b o x => Heap.get?_push_of_some _ (Heap.get?_push_of_some _ x)⟩
end
def IteT (K : PySem.W.Frag) (a : Addr) : It :=
  ⟨fun i H => ∃ (xs : List V) (x : V), SqT K H a xs ∧ xs[i]? = some x, fun i H v H' => ∃ T x, v = .ref T ∧ H T = none ∧ H' = upd H T (.tup [.int (i : Nat), x]) ∧ ∀ xs, SqT K H a xs → xs[i]? = some x, fun i H => ∃ xs : List V, SqT K H a xs ∧ xs.length ≤ i⟩
theorem turn_enumT {P : Program} {w : World} {K : PySem.W.Frag} {elts : List Expr} {kk : Nat} {tpos : Pos} (a e it : Addr) :
    Turn P w K (.Tuple elts kk tpos) (IteT K a) [e, it] e (fun i h => (∃ old, IsEnum h e it ((i : Nat) : Int) old) ∧ h.IsTupleIter it a i ∧ e ≠ it ∧ a ≠ it ∧ e ≠ a) where
  mem := by simp
  obj := fun i h st b hb => by
    obtain ⟨⟨old, he⟩, ⟨o, ho, hc, hd⟩, _⟩ := st
    have e' : b = e ∨ b = it := by simpa using hb
    rcases e' with z | z
    · rw [z]; exact ⟨_, he, fun v q => nomatch q⟩
    · rw [z]; exact ⟨o, ho, fun v q => by rw [hd] at q; cases q⟩
  keep := fun i h h' st k => let ⟨⟨old, he⟩, hi, hne⟩ := st; ⟨⟨old, k e (by simp) _ he⟩, hi.at fun o q => k it (by simp) o q, hne⟩
  item := by
    intro X hP hw hK hc i pins s σ H E I hf st hg
    subst hP hw hK
    obtain ⟨⟨old, he⟩, hit, hne, hai, hea⟩ := st
    obtain ⟨xs, x, hq, hx⟩ := hg
    obtain ⟨its, rv, p, hz⟩ := I.tuple hq
    obtain ⟨u, hu, ru⟩ := rv.get hx
    have hel : e < s.heap.objs.size := Heap.lt_size he
    have hil : it < s.heap.objs.size := by obtain ⟨_, q, _⟩ := hit; exact Heap.lt_size q
    have hh : X.A.in1.handled = none := I.ok.hd hc
    have D := Draws.tuple (prog := X.prog) (w := X.w) (A := X.A.in1) hh it a hai its.toArray
    have hlt : i < its.toArray.size := by
      rw [List.size_toArray]
      exact (List.getElem?_eq_some_iff.mp hu).1
    refine wpAny_pyNext_enum_itemD D he ⟨hit, p⟩ hlt hne (by simp [hne, hea]) fun x' h' tk hP ho hst' hT hsz hk => ?_
    have ex : x' = u := by
      rw [List.getElem?_toArray, hu] at hP
      exact (Option.some.inj hP).symm
    subst ex
    refine ⟨_, rfl, wpAny_letOwnedTupleGo_enum (s := { s with heap := h', toks := tk + 1 }) ho fun h'' he' sb => ?_⟩
    have hT2 : h''.get? s.heap.objs.size = some { cls := .type "tuple", data := .seq #[.int i tk, x'] } := (sb.2 _ (Nat.ne_of_gt hel)).trans hT
    have new : ObjOk X.prog X.w (upd H s.heap.objs.size (.tup [.int (i : Nat), x])) h'' s.heap.objs.size (.tup [.int (i : Nat), x]) :=
      ⟨by show 2 ≤ sizeLine; decide, [.int i tk, x'], .cons ⟨_, rfl⟩ (.cons ru .nil), ⟨_, hT2, rfl, _, rfl⟩⟩
    have I1 : Inv X pins σ (upd H s.heap.objs.size (.tup [.int (i : Nat), x])) { s with heap := h'', toks := tk + 1 } :=
      I.turnedNew (ch := [e, it]) (fun b ob hb q => (sb.2 b (fun z => hb (by simp [z]))).trans (hk b ob (fun z => hb (by simp [z])) (fun z => hb (by simp [z])) q)) hf (Nat.le_refl _) new
    refine ⟨.ref s.heap.objs.size, _, I1, rfl, ⟨_, x, rfl, I.hok.fresh (Nat.le_refl _), rfl, fun ys hy => by rw [I.tuple_inj hy hq]; exact hx⟩, ⟨⟨x', ?_⟩, hst'.1.at fun o q => (sb.2 it (Ne.symm hne)).trans q, hne, hai, hea⟩, fun b hb => ?_⟩
    · have e1 : ((i + 1 : Nat) : Int) = (i : Int) + 1 := by omega
      rw [e1]; exact he'
    · have hb' : b < s.heap.objs.size := by
        have e' : b = e ∨ b = it := by simpa using hb
        rcases e' with z | z
        · rw [z]; exact hel
        · rw [z]; exact hil
      rw [upd_ne (Nat.ne_of_lt hb')]
      exact (hf b hb).1
  done := by
    intro X hP hw hK hc i pins s σ H E I hf st hg
    subst hP hw hK
    obtain ⟨⟨old, he⟩, hit, hne, hai, hea⟩ := st
    obtain ⟨xs, hq, hx⟩ := hg
    obtain ⟨its, rv, p, hz⟩ := I.tuple hq
    obtain ⟨f0, f1, f2, f3, f4, f5⟩ := hf it (by simp)
    have hl := rv.length
    have hn : its.toArray[i]? = none := by simp; omega
    have hT : s.TypeIs (.ref e) "enumerate" := ⟨_, he, rfl⟩
    unfold pyNext
    refine wpAny_bind (wpAny_attempt (wpAny_callSpecial?_slot (name := Str.ofString "__next__") hT F.slot_enumerate_next
      (wpAny_call_entry F.slot_enumerate_next hT F.entry_enumerate_next ?_ (F.args_enumerate_next_1 _))))
    show wpAny _ _ (field (.ref e) 2 >>= _) _ _ _
    refine wpAny_bind (wpAny_field he rfl (x := .ref it) rfl ?_)
    refine wpAny_bind (wpAny_nextOf_tuple_end (I.ok.hd hc) hit (show s.heap.IsTuple a its.toArray from p) hn fun h' x he' hx' => ?_)
    obtain ⟨o, ho, hc'⟩ := hx'
    refine wpAny_bind (wpAny_isInstance (T := "StopIteration") (b := true) ⟨o, ho, hc'⟩ isSubtype_stop ?_)
    exact wpAny_pure ⟨rfl, I.turned (t' := s.toks) (fun b o hb q => he' b o hb q) f0 f1 f3 f4 f5⟩
  self := fun A i s Q E st h => let ⟨⟨_, he⟩, _⟩ := st; wpAny_pyIter_enum he h
def iEnumA (K : PySem.W.Frag) (ta : TA) : TI := fun σ H R => ta σ H fun vs H1 => ∃ a xs, vs = [.ref a] ∧ ((SqL K H1 a xs ∧ R (Ite K a) H1) ∨ (SqT K H1 a xs ∧ R (IteT K a) H1))
theorem pi_enumA {X : Cx} {e : Expr} {ta : TA} {p pos tpos : Pos} {elts : List Expr} {kk : Nat} (hg : Gl X "enumerate") (hm : X.mg "enumerate" = none) (ha : PA X [e] ta) (hs : starEach [e] X.env = [(false, eval e X.env)]) :
    PI X (.Tuple elts kk tpos) (.Call (.Name "enumerate" p) [e] [] pos) (iEnumA X.K ta) := by
  refine ⟨fun pins s σ H R I h => ?_⟩
  refine Call_ (ld_blt I hg hm boot_enumerate (PyProof.Rows.callWith_type1 (thn (ha.run pos pins s σ H _ I h) fun us s1 ⟨vs, H1, I1, r1, q1⟩ => ?_) hs rfl))
  obtain ⟨a, xs, ex, q1⟩ := q1
  subst ex
  cases r1 with
  | cons r rr =>
    cases rr
    cases r
    have fresh : ∀ b, b ∈ [s1.heap.objs.size + 1, s1.heap.objs.size] → FpOk X pins H1 b := fun b hb => by
      have e' : b = s1.heap.objs.size + 1 ∨ b = s1.heap.objs.size := by simpa using hb
      have hle : s1.heap.objs.size ≤ b := by
        rcases e' with z | z
        · rw [z]; exact Nat.le_add_right _ _
        · rw [z]; exact Nat.le_refl _
      exact I1.fpOk hle (I1.hok.fresh hle)
    rcases q1 with ⟨hq, q⟩ | ⟨hq, q⟩
    · obtain ⟨its, rv, p', hz⟩ := I1.list hq
      refine call_enumerate_list p'.isList fun h' he hit hsz hk => wpAny_pyIter_enum he ?_
      have I2 : Inv X pins σ H1 { s1 with heap := h' } := I1.kept (t' := s1.toks) hk
      exact ⟨s1.heap.objs.size + 1, [s1.heap.objs.size + 1, s1.heap.objs.size], _, _, H1, rfl, I2, turn_enum a (s1.heap.objs.size + 1) s1.heap.objs.size, ⟨⟨.none, he⟩, hit, Nat.succ_ne_self _⟩, fresh, q⟩
    · obtain ⟨its, rv, p', hz⟩ := I1.tuple hq
      have hlt : a < s1.heap.objs.size := p'.lt
      refine call_enumT (show s1.heap.IsTuple a its.toArray from p') fun h' he hit hsz hk => wpAny_pyIter_enum he ?_
      have I2 : Inv X pins σ H1 { s1 with heap := h' } := I1.kept (t' := s1.toks) hk
      exact ⟨s1.heap.objs.size + 1, [s1.heap.objs.size + 1, s1.heap.objs.size], _, _, H1, rfl, I2, turn_enumT a (s1.heap.objs.size + 1) s1.heap.objs.size, ⟨⟨.none, he⟩, hit, Nat.succ_ne_self _, Nat.ne_of_lt hlt, Nat.ne_of_gt (Nat.lt_succ_of_lt hlt)⟩, fresh, q⟩
theorem walk_enumT {K : PySem.W.Frag} {a : Addr} {xs : List V} : Walk (IteT K a) xs.length (fun H => SqT K H a xs) (YPair (fun i => some (.int (i : Nat))) (fun i => xs[i]?)) := by
  refine ⟨fun i _ hi q => ⟨xs, xs[i], q, by simp [hi]⟩, fun _ q => ⟨xs, q, Nat.le_refl _⟩, fun i H v H' _ q y => ?_⟩
  obtain ⟨T, x, h1, h2, h3, h4⟩ := y
  exact ⟨T, .int (i : Nat), x, h1, h2, h3, rfl, h4 xs q⟩
theorem walk_zipT {K : PySem.W.Frag} {a b : Addr} {xs ys : List V} {n : Nat} (hn : n = min xs.length ys.length) : Walk (RZ.ItzT K a b) n (fun H => SqT K H a xs ∧ SqT K H b ys) (YPair (fun i => xs[i]?) (fun i => ys[i]?)) := by
  subst hn
  refine ⟨fun i _ hi q => ?_, fun _ q => ⟨xs, ys, q.1, q.2, by omega⟩, fun i H v H' _ q y => ?_⟩
  · have h1 : i < xs.length := by omega
    have h2 : i < ys.length := by omega
    exact ⟨xs, ys, xs[i], ys[i], q.1, q.2, by simp [h1], by simp [h2]⟩
  · obtain ⟨T, x, z, h1, h2, h3, h4, h5⟩ := y
    exact ⟨T, x, z, h1, h2, h3, h4 xs q.1, h5 ys q.2⟩
/-! ### what is walked: any list, tuple, text -/
def iAnyT (K : PySem.W.Frag) (tl : TE) : TI := fun σ H R => tl σ H fun x H1 => (∃ a, x = .ref a ∧ (∃ xs, SqL K H1 a xs) ∧ R (Itl K a) H1) ∨ (∃ a, x = .ref a ∧ (∃ xs, SqT K H1 a xs) ∧ R (Itt K a) H1) ∨ (∃ z, x = .str z ∧ R (Its z) H1)
theorem pi_any {X : Cx} {tg l : Expr} {tl : TE} (hl : PE X l tl) : PI X tg l (iAnyT X.K tl) := by
  refine ⟨fun pins s σ H R I h => ?_⟩
  refine thn (hl.run pins s σ H _ I h) fun v s1 ⟨x, H1, I1, r1, q1⟩ => ?_
  rcases q1 with ⟨a, e, ⟨xs, hq⟩, q⟩ | ⟨a, e, ⟨xs, hq⟩, q⟩ | ⟨z, e, q⟩
  · subst e
    cases r1
    obtain ⟨its, rv, p, hz⟩ := I1.list hq
    refine wpAny_pyIter_list p.isList ?_
    refine ⟨s1.heap.objs.size, [s1.heap.objs.size], _, _, H1, rfl, I1.kept (t' := s1.toks) fun b o e => Heap.get?_push_of_some _ e, turn_list a _, ⟨_, Heap.get?_push_size _ rfl, rfl, rfl⟩, fun b hb => ?_, q⟩
    have e : b = s1.heap.objs.size := by simpa using hb
    subst e
    exact I1.fpOk (Nat.le_refl _) (I1.hok.fresh (Nat.le_refl _))
  · subst e
    cases r1
    obtain ⟨its, rv, p, hz⟩ := I1.tuple hq
    refine wpAny_pyIter_tuple (show s1.heap.IsTuple a its.toArray from p) ?_
    refine ⟨s1.heap.objs.size, [s1.heap.objs.size], _, _, H1, rfl, I1.kept (t' := s1.toks) fun b o e => Heap.get?_push_of_some _ e, turn_tuple a _, ⟨_, Heap.get?_push_size _ rfl, rfl, rfl⟩, fun b hb => ?_, q⟩
    have e : b = s1.heap.objs.size := by simpa using hb
    subst e
    exact I1.fpOk (Nat.le_refl _) (I1.hok.fresh (Nat.le_refl _))
  · subst e
    obtain ⟨t, rfl⟩ := r1
    cases ha : z.cps.all (· < 128)
    · exact wpAny_pyIter_wide ha (pi_one (tk := s1.toks) I1 _ (turn_str _ z t "str_iterator" (.inr rfl)) ⟨_, Heap.get?_push_size _ rfl, rfl, rfl⟩ q)
    · exact wpAny_pyIter_ascii ha (pi_one (tk := s1.toks) I1 _ (turn_str _ z t "str_ascii_iterator" (.inl rfl)) ⟨_, Heap.get?_push_size _ rfl, rfl, rfl⟩ q)
/-! ### walks by data -/
abbrev FI := Rho → Mem → Res (List PyData)
def Kp (K : PySem.W.Frag) (Ms Mt : Wd) (H H' : Hp) : Prop := ∀ d x, RepD K Ms H d x → RepD K Mt H' d x
def KpF (H H' : Hp) : Prop := ∀ a o u, H a = some (.frz o u) → H' a = some (.frz o u)
def Grow (H H' : Hp) : Prop := H' = H ∨ ∃ T o, H T = none ∧ H' = upd H T o
def ItOk (K : PySem.W.Frag) : Wd → Hp → List PyData → It → Prop := fun Ms H ds J => ∀ Mt H', Kp K Ms Mt H H' → KpF H H' →
  (∀ (i : Nat) d, ds[i]? = some d → J.go i H' ∧ ∀ x H'', J.yld i H' x H'' → Grow H' H'' ∧ RepD K Mt H'' d x) ∧ J.stop ds.length H'
def tI (K : PySem.W.Frag) (w : Wi) (f : FI) : TI := fun σ H R => ∃ Ms ρ μ, RhoOk K Ms H ρ σ ∧ MemOk K Ms H μ ∧ Post K w (ItOk K) Ms H (f ρ μ) R
theorem _root_.L2.PI.weak {X : Cx} {tg e : Expr} {t t' : TI} (h : PI X tg e t) (k : ∀ σ H Q, t' σ H Q → t σ H Q) : PI X tg e t' := ⟨fun pins s σ H Q I q => h.run pins s σ H Q I (k σ H Q q)⟩
def signsD (z : Str) : List PyData := z.cps.toList.map fun c => .str ⟨#[c]⟩
def iAny (f : FE) : FI := fun ρ μ => (f ρ μ).bind fun v μ1 => match v with
  | .dat (.list ds) => .ok ds μ1
  | .dat (.tuple ds) => .ok ds μ1
  | .dat (.str z) => .ok (signsD z) μ1
  | .fz ds => .ok ds μ1
  | _ => .no
section
variable {X : Cx} {w : Wi} {tg : Expr}
theorem itok_list {K : PySem.W.Frag} {Ms : Wd} {H : Hp} {a : Addr} {ds : List PyData} (r : RepD K Ms H (.list ds) (.ref a)) : ItOk K Ms H ds (Itl K a) := fun Mt H' k _ => by
  obtain ⟨a', xs, e, h, o, rs⟩ := k _ _ r
  cases e
  have W := walk_list (K := K) (a := a) (xs := xs)
  have q : SqL K H' a xs := .inl (.inl h)
  refine ⟨fun i d hd => ?_, by rw [rs.length]; exact W.stops H' q⟩
  obtain ⟨x, hx, rx⟩ := rs.get hd
  have hi := (List.getElem?_eq_some_iff.mp hx).1
  refine ⟨W.goes i H' hi q, fun y H'' hy => ?_⟩
  obtain ⟨e1, e2⟩ := W.yields i H' y H'' hi q hy
  rw [hx] at e2
  cases e2
  subst e1
  exact ⟨.inl rfl, rx⟩
theorem itok_tup {K : PySem.W.Frag} {Ms : Wd} {H : Hp} {a : Addr} {ds : List PyData} (r : RepD K Ms H (.tuple ds) (.ref a)) : ItOk K Ms H ds (Itt K a) := fun Mt H' k _ => by
  obtain ⟨a', xs, e, h, rs⟩ := k _ _ r
  cases e
  have W := walk_tup (K := K) (a := a) (xs := xs)
  refine ⟨fun i d hd => ?_, by rw [rs.length]; exact W.stops H' h⟩
  obtain ⟨x, hx, rx⟩ := rs.get hd
  have hi := (List.getElem?_eq_some_iff.mp hx).1
  refine ⟨W.goes i H' hi h, fun y H'' hy => ?_⟩
  obtain ⟨e1, e2⟩ := W.yields i H' y H'' hi h hy
  rw [hx] at e2
  cases e2
  subst e1
  exact ⟨.inl rfl, rx⟩
theorem itok_str {K : PySem.W.Frag} {Ms : Wd} {H : Hp} (z : Str) : ItOk K Ms H (signsD z) (Its z) := fun Mt H' k _ => by
  have W := walk_str (z := z)
  have hl : (signsD z).length = z.cps.size := by simp [signsD]
  refine ⟨fun i d hd => ?_, by rw [hl]; exact W.stops H' trivial⟩
  have hi : i < z.cps.size := by
    have := (List.getElem?_eq_some_iff.mp hd).1
    rw [hl] at this
    exact this
  refine ⟨W.goes i H' hi trivial, fun y H'' hy => ?_⟩
  obtain ⟨e1, c, hc, e2⟩ := W.yields i H' y H'' hi trivial hy
  subst e1 e2
  refine ⟨.inl rfl, ?_⟩
  have : (signsD z)[i]? = some (.str ⟨#[c]⟩) := by
    rw [signsD, List.getElem?_map, Array.getElem?_toList, hc]
    rfl
  rw [this] at hd
  cases hd
  rfl
theorem Kp.repL {K : PySem.W.Frag} {Ms Mt : Wd} {H H' : Hp} (k : Kp K Ms Mt H H') : ∀ {ds : List PyData} {xs : List V}, RepL K Ms H ds xs → RepL K Mt H' ds xs
  | [], _, h => h
  | d :: ds, _, ⟨x, r, e, h, t⟩ => ⟨x, r, e, k d x h, Kp.repL k t⟩
theorem itok_fz {K : PySem.W.Frag} {Ms : Wd} {H : Hp} {a : Addr} {xs : List V} {ds : List PyData} (h : FzL K H a xs) (rs : RepL K Ms H ds xs) : ItOk K Ms H ds (Itl K a) := fun Mt H' k kf => by
  have W := walk_list (K := K) (a := a) (xs := xs)
  have q : SqL K H' a xs := (h.keep kf).sq
  refine ⟨fun i d hd => ?_, by rw [rs.length]; exact W.stops H' q⟩
  obtain ⟨x, hx, rx⟩ := (k.repL rs).get hd
  have hi := (List.getElem?_eq_some_iff.mp hx).1
  refine ⟨W.goes i H' hi q, fun y H'' hy => ?_⟩
  obtain ⟨e1, e2⟩ := W.yields i H' y H'' hi q hy
  rw [hx] at e2
  cases e2
  subst e1
  exact ⟨.inl rfl, rx⟩
theorem di_any {e : Expr} {f : FE} (he : PE X e (tE X.K w f)) : PI X tg e (tI X.K w (iAny f)) :=
  (pi_any he).weak fun σ H R ⟨Ms, ρ, μ, hρ, hμ, h⟩ => ⟨Ms, ρ, μ, hρ, hμ, h.bind fun v μ1 M1 H1 x e m rx h1 => by
    cases v with
    | dat d =>
      cases d with
      | list ds =>
        obtain ⟨a, xs, e1, h2, o, rs⟩ := id rx
        subst e1
        exact .inl ⟨a, rfl, ⟨xs, .inl (.inl h2)⟩, h1.ok .refl m (itok_list rx)⟩
      | tuple ds =>
        obtain ⟨a, xs, e1, h2, rs⟩ := id rx
        subst e1
        exact .inr (.inl ⟨a, rfl, ⟨xs, h2⟩, h1.ok .refl m (itok_tup rx)⟩)
      | str z => exact .inr (.inr ⟨z, rx, h1.ok .refl m (itok_str z)⟩)
      | _ => exact h1.elim
    | fz ds =>
      obtain ⟨a, xs, e1, h2, rs⟩ := rx
      exact .inl ⟨a, e1, ⟨xs, h2.sq⟩, h1.ok .refl m (itok_fz h2 rs)⟩
    | cel n => exact h1.elim⟩
/-! range -/
def rangeD (lo : Int) : Nat → List PyData
  | 0 => []
  | n + 1 => .int lo :: rangeD (lo + 1) n
theorem rangeD_len : ∀ (n : Nat) (lo : Int), (rangeD lo n).length = n
  | 0, _ => rfl
  | n + 1, lo => by rw [rangeD, List.length_cons, rangeD_len n]
theorem rangeD_get : ∀ (n : Nat) (lo : Int) (i : Nat), i < n → (rangeD lo n)[i]? = some (.int (lo + i))
  | 0, _, _, h => absurd h (Nat.not_lt_zero _)
  | n + 1, lo, 0, _ => by simp [rangeD]
  | n + 1, lo, i + 1, h => by
    rw [rangeD, List.getElem?_cons_succ, rangeD_get n (lo + 1) i (by omega)]
    congr 2
    omega
theorem itok_range {K : PySem.W.Frag} {Ms : Wd} {H : Hp} (lo : Int) (n : Nat) : ItOk K Ms H (rangeD lo n) (Itr lo n) := fun Mt H' k _ => by
  have W := walk_range (lo := lo) (n := n)
  refine ⟨fun i d hd => ?_, by rw [rangeD_len]; exact W.stops H' trivial⟩
  have hi : i < n := by
    have := (List.getElem?_eq_some_iff.mp hd).1
    rw [rangeD_len] at this
    exact this
  rw [rangeD_get n lo i hi] at hd
  cases hd
  refine ⟨W.goes i H' hi trivial, fun y H'' hy => ?_⟩
  obtain ⟨e1, e2⟩ := W.yields i H' y H'' hi trivial hy
  subst e1 e2
  exact ⟨.inl rfl, rfl⟩
def iRange (fl : FL) : FI := fun ρ μ => (fl ρ μ).bind fun vs μ1 => match vs with
  | [.dat (.int j)] => if j < 4611686018427387904 ∧ -4611686018427387904 ≤ j then .ok (rangeD 0 j.toNat) μ1 else .no
  | [.dat (.int i), .dat (.int j)] => if i < 4611686018427387904 ∧ -4611686018427387904 ≤ i ∧ j < 4611686018427387904 ∧ -4611686018427387904 ≤ j then .ok (rangeD i (j - i).toNat) μ1 else .no
  | _ => .no
theorem di_range1 {a : Expr} {fl : FL} {p pos : Pos} (hg : Gl X "range") (hm : X.mg "range" = none) (ha : PA X [a] (tL X.K w fl)) (hs : starEach [a] X.env = [(false, eval a X.env)]) (hl : ∀ ρ μ vs μ1, fl ρ μ = .ok vs μ1 → vs.length = 1) : PI X tg (.Call (.Name "range" p) [a] [] pos) (tI X.K w (iRange fl)) :=
  (pi_range1 hg hm ha hs).weak fun σ H R ⟨Ms, ρ, μ, hρ, hμ, h⟩ => ⟨Ms, ρ, μ, hρ, hμ, by
    unfold iRange at h
    cases q : fl ρ μ with
    | no => rw [q] at h; exact h.elim
    | ex x μ1 => rw [q] at h; exact h
    | ok vs μ1 =>
      have hl1 := hl ρ μ vs μ1 q
      rw [q] at h
      intro M1 H1 xs e m rx
      have h1 := Post.mono h e
      match vs, hl1 with
      | [v], _ =>
        cases v with
        | dat d =>
          cases d with
          | int j =>
            dsimp only [Res.bind] at h1
            split at h1
            · rename_i hz
              obtain ⟨x, r, e1, r1, r2⟩ := rx
              cases r2
              subst e1
              cases (show x = V.int j from r1)
              exact ⟨j, rfl, by omega, by omega, h1.ok .refl m (itok_range 0 j.toNat)⟩
            · exact h1.elim
          | _ => exact h1.elim
        | _ => exact h1.elim⟩
theorem di_range2 {a b : Expr} {fl : FL} {p pos : Pos} (hg : Gl X "range") (hm : X.mg "range" = none) (ha : PA X [a, b] (tL X.K w fl)) (hs : starEach [a, b] X.env = [(false, eval a X.env), (false, eval b X.env)]) (hs2 : starEach [b] X.env = [(false, eval b X.env)]) (hl : ∀ ρ μ vs μ1, fl ρ μ = .ok vs μ1 → vs.length = 2) : PI X tg (.Call (.Name "range" p) [a, b] [] pos) (tI X.K w (iRange fl)) :=
  (pi_range2 hg hm ha hs hs2).weak fun σ H R ⟨Ms, ρ, μ, hρ, hμ, h⟩ => ⟨Ms, ρ, μ, hρ, hμ, by
    unfold iRange at h
    cases q : fl ρ μ with
    | no => rw [q] at h; exact h.elim
    | ex x μ1 => rw [q] at h; exact h
    | ok vs μ1 =>
      have hl1 := hl ρ μ vs μ1 q
      rw [q] at h
      intro M1 H1 xs e m rx
      have h1 := Post.mono h e
      match vs, hl1 with
      | [v, u], _ =>
        cases v with
        | dat d =>
          cases d with
          | int i =>
            cases u with
            | dat d =>
              cases d with
              | int j =>
                dsimp only [Res.bind] at h1
                split at h1
                · rename_i hz
                  obtain ⟨x, r, e1, r1, y, r', e2, r2, r3⟩ := rx
                  cases r3
                  subst e2
                  subst e1
                  cases (show x = V.int i from r1)
                  cases (show y = V.int j from r2)
                  exact ⟨i, j, rfl, by omega, h1.ok .refl m (itok_range i (j - i).toNat)⟩
                · exact h1.elim
              | _ => exact h1.elim
            | _ => exact h1.elim
          | _ => exact h1.elim
        | _ => exact h1.elim⟩
/-! enumerate, zip -/
def enumD (i : Nat) : List PyData → List PyData
  | [] => []
  | d :: ds => .tuple [.int (i : Nat), d] :: enumD (i + 1) ds
theorem enumD_len : ∀ (ds : List PyData) (i : Nat), (enumD i ds).length = ds.length
  | [], _ => rfl
  | d :: ds, i => by rw [enumD, List.length_cons, enumD_len ds, List.length_cons]
theorem enumD_get : ∀ (ds : List PyData) (k i : Nat) (d : PyData), (enumD k ds)[i]? = some d → ∃ e, ds[i]? = some e ∧ d = .tuple [.int ((k + i : Nat) : Int), e]
  | [], _, _, _, h => by simp [enumD] at h
  | e :: ds, k, 0, d, h => by
    simp [enumD] at h
    exact ⟨e, rfl, by rw [← h]; rfl⟩
  | e :: ds, k, i + 1, d, h => by
    rw [enumD, List.getElem?_cons_succ] at h
    obtain ⟨e', h1, h2⟩ := enumD_get ds (k + 1) i d h
    refine ⟨e', by simpa using h1, ?_⟩
    rw [h2, show k + 1 + i = k + (i + 1) by omega]
theorem rep_pair {K : PySem.W.Frag} {Mt : Wd} {H : Hp} {T : Addr} {d e : PyData} {x y : V} (n : H T = none) (r1 : RepD K Mt H d x) (r2 : RepD K Mt H e y) : RepD K Mt (upd H T (.tup [x, y])) (.tuple [d, e]) (.ref T) :=
  rep_tup (ds := [d, e]) (xs := [x, y]) ⟨x, [y], rfl, r1, y, [], rfl, r2, rfl⟩ n
def seqOf : Val → Option (Bool × List PyData)
  | .dat (.list ds) => some (true, ds)
  | .dat (.tuple ds) => some (false, ds)
  | _ => none
def iEnum (fl : FL) : FI := fun ρ μ => (fl ρ μ).bind fun vs μ1 => match vs with
  | [v] => (match seqOf v with
    | some (_, ds) => .ok (enumD 0 ds) μ1
    | none => .no)
  | _ => .no
theorem di_enum {e : Expr} {fl : FL} {p pos tpos : Pos} {elts : List Expr} {kk : Nat} (hg : Gl X "enumerate") (hm : X.mg "enumerate" = none) (ha : PA X [e] (tL X.K w fl)) (hs : starEach [e] X.env = [(false, eval e X.env)]) :
    PI X (.Tuple elts kk tpos) (.Call (.Name "enumerate" p) [e] [] pos) (tI X.K w (iEnum fl)) :=
  (pi_enumA hg hm ha hs).weak fun σ H R ⟨Ms, ρ, μ, hρ, hμ, h⟩ => ⟨Ms, ρ, μ, hρ, hμ, h.bind fun vs μ1 M1 H1 xs e m rs h1 => by
    split at h1
    · rename_i v
      split at h1
      · rename_i k ds hv
        obtain ⟨x, r, e1, r1, r2⟩ := rs
        cases r2
        subst e1
        cases v with
        | dat d =>
          cases d with
          | list ds' =>
            cases hv
            obtain ⟨a, ys, e2, h2, o, r3⟩ := id r1
            subst e2
            refine ⟨a, ys, rfl, .inl ⟨.inl (.inl h2), h1.ok .refl m fun Mt H' k _ => ?_⟩⟩
            obtain ⟨a', ys', e3, h3, o', r4⟩ := k _ _ r1
            cases e3
            have W := walk_enum (K := X.K) (a := a) (xs := ys')
            have q : SqL X.K H' a ys' := .inl (.inl h3)
            refine ⟨fun i d hd => ?_, by rw [enumD_len, r4.length]; exact W.stops H' q⟩
            obtain ⟨e4, hd4, e5⟩ := enumD_get _ 0 i d hd
            obtain ⟨z, hz, rz⟩ := r4.get hd4
            have hi := (List.getElem?_eq_some_iff.mp hz).1
            refine ⟨W.goes i H' hi q, fun y H'' hy => ?_⟩
            obtain ⟨T, x1, x2, e6, n6, e7, f1, f2⟩ := W.yields i H' y H'' hi q hy
            cases f1
            cases (hz.symm.trans f2)
            subst e6 e7 e5
            exact ⟨.inr ⟨T, _, n6, rfl⟩, rep_pair n6 (by rw [Nat.zero_add]; rfl) rz⟩
          | tuple ds' =>
            cases hv
            obtain ⟨a, ys, e2, h2, r3⟩ := id r1
            subst e2
            refine ⟨a, ys, rfl, .inr ⟨h2, h1.ok .refl m fun Mt H' k _ => ?_⟩⟩
            obtain ⟨a', ys', e3, q, r4⟩ := k _ _ r1
            cases e3
            have W := walk_enumT (K := X.K) (a := a) (xs := ys')
            refine ⟨fun i d hd => ?_, by rw [enumD_len, r4.length]; exact W.stops H' q⟩
            obtain ⟨e4, hd4, e5⟩ := enumD_get _ 0 i d hd
            obtain ⟨z, hz, rz⟩ := r4.get hd4
            have hi := (List.getElem?_eq_some_iff.mp hz).1
            refine ⟨W.goes i H' hi q, fun y H'' hy => ?_⟩
            obtain ⟨T, x1, x2, e6, n6, e7, f1, f2⟩ := W.yields i H' y H'' hi q hy
            cases f1
            cases (hz.symm.trans f2)
            subst e6 e7 e5
            exact ⟨.inr ⟨T, _, n6, rfl⟩, rep_pair n6 (by rw [Nat.zero_add]; rfl) rz⟩
          | _ => cases hv
        | _ => cases hv
      · exact h1.elim
    · exact h1.elim⟩
def zipD : List PyData → List PyData → List PyData
  | d :: ds, e :: es => .tuple [d, e] :: zipD ds es
  | _, _ => []
theorem zipD_len : ∀ (ds es : List PyData), (zipD ds es).length = min ds.length es.length
  | [], _ => by simp [zipD]
  | _ :: _, [] => by simp [zipD]
  | d :: ds, e :: es => by rw [zipD, List.length_cons, zipD_len ds es, List.length_cons, List.length_cons]; omega
theorem zipD_get : ∀ (ds es : List PyData) (i : Nat) (d : PyData), (zipD ds es)[i]? = some d → ∃ e f, ds[i]? = some e ∧ es[i]? = some f ∧ d = .tuple [e, f]
  | [], _, _, _, h => by simp [zipD] at h
  | _ :: _, [], _, _, h => by simp [zipD] at h
  | a :: ds, b :: es, 0, d, h => by
    simp [zipD] at h
    exact ⟨a, b, rfl, rfl, h.symm⟩
  | a :: ds, b :: es, i + 1, d, h => by
    rw [zipD, List.getElem?_cons_succ] at h
    obtain ⟨e, f, h1, h2, h3⟩ := zipD_get ds es i d h
    exact ⟨e, f, by simpa using h1, by simpa using h2, h3⟩
def iZip (fl : FL) : FI := fun ρ μ => (fl ρ μ).bind fun vs μ1 => match vs with
  | [v, u] => (match v, u with
    | .dat (.list ds), .dat (.list es) => .ok (zipD ds es) μ1
    | .dat (.tuple ds), .dat (.tuple es) => .ok (zipD ds es) μ1
    | _, _ => .no)
  | _ => .no
theorem di_zip {e e2 : Expr} {fl : FL} {p pos tpos : Pos} {elts : List Expr} {kk : Nat} (hg : Gl X "zip") (hm : X.mg "zip" = none) (ha : PA X [e, e2] (tL X.K w fl)) (hs : starEach [e, e2] X.env = (false, eval e X.env) :: starEach [e2] X.env) (hpl : (backTo pos (starEach [e2] X.env)).any (·.1) = false) :
    PI X (.Tuple elts kk tpos) (.Call (.Name "zip" p) [e, e2] [] pos) (tI X.K w (iZip fl)) :=
  (RZ.pi_zipA hg hm ha hs hpl).weak fun σ H R ⟨Ms, ρ, μ, hρ, hμ, h⟩ => ⟨Ms, ρ, μ, hρ, hμ, h.bind fun vs μ1 M1 H1 xs e m rs h1 => by
    split at h1
    · rename_i v u
      obtain ⟨x, r, e1, r1, x2, r', e2, r2, r3⟩ := rs
      cases r3
      subst e2
      subst e1
      split at h1
      · rename_i ds es
        obtain ⟨a, ys, e3, h3, o3, r3⟩ := id r1
        obtain ⟨b, zs, e4, h4, o4, r4⟩ := id r2
        subst e3 e4
        refine ⟨a, b, ys, zs, rfl, .inl ⟨.inl (.inl h3), .inl (.inl h4), h1.ok .refl m fun Mt H' k _ => ?_⟩⟩
        obtain ⟨a', ys', e5, h5, o5, r5⟩ := k _ _ r1
        obtain ⟨b', zs', e6, h6, o6, r6⟩ := k _ _ r2
        cases e5
        cases e6
        have W := walk_zip (K := X.K) (a := a) (b := b) (xs := ys') (ys := zs') rfl
        have q : SqL X.K H' a ys' ∧ SqL X.K H' b zs' := ⟨.inl (.inl h5), .inl (.inl h6)⟩
        refine ⟨fun i d hd => ?_, by rw [zipD_len, r5.length, r6.length]; exact W.stops H' q⟩
        obtain ⟨f, g, hf, hg', e7⟩ := zipD_get ds es i d hd
        obtain ⟨z1, hz1, rz1⟩ := r5.get hf
        obtain ⟨z2, hz2, rz2⟩ := r6.get hg'
        have hi : i < min ys'.length zs'.length := by
          have h1 := (List.getElem?_eq_some_iff.mp hz1).1
          have h2 := (List.getElem?_eq_some_iff.mp hz2).1
          omega
        refine ⟨W.goes i H' hi q, fun y H'' hy => ?_⟩
        obtain ⟨T, x1, x2, e8, n8, e9, f1, f2⟩ := W.yields i H' y H'' hi q hy
        cases (hz1.symm.trans f1)
        cases (hz2.symm.trans f2)
        subst e7 e8 e9
        exact ⟨.inr ⟨T, _, n8, rfl⟩, rep_pair n8 rz1 rz2⟩
      · rename_i ds es
        obtain ⟨a, ys, e3, h3, r3⟩ := id r1
        obtain ⟨b, zs, e4, h4, r4⟩ := id r2
        subst e3 e4
        refine ⟨a, b, ys, zs, rfl, .inr ⟨h3, h4, h1.ok .refl m fun Mt H' k _ => ?_⟩⟩
        obtain ⟨a', ys', e5, h5, r5⟩ := k _ _ r1
        obtain ⟨b', zs', e6, h6, r6⟩ := k _ _ r2
        cases e5
        cases e6
        have W := walk_zipT (K := X.K) (a := a) (b := b) (xs := ys') (ys := zs') rfl
        have q : SqT X.K H' a ys' ∧ SqT X.K H' b zs' := ⟨h5, h6⟩
        refine ⟨fun i d hd => ?_, by rw [zipD_len, r5.length, r6.length]; exact W.stops H' q⟩
        obtain ⟨f, g, hf, hg', e7⟩ := zipD_get ds es i d hd
        obtain ⟨z1, hz1, rz1⟩ := r5.get hf
        obtain ⟨z2, hz2, rz2⟩ := r6.get hg'
        have hi : i < min ys'.length zs'.length := by
          have h1 := (List.getElem?_eq_some_iff.mp hz1).1
          have h2 := (List.getElem?_eq_some_iff.mp hz2).1
          omega
        refine ⟨W.goes i H' hi q, fun y H'' hy => ?_⟩
        obtain ⟨T, x1, x2, e8, n8, e9, f1, f2⟩ := W.yields i H' y H'' hi q hy
        cases (hz1.symm.trans f1)
        cases (hz2.symm.trans f2)
        subst e7 e8 e9
        exact ⟨.inr ⟨T, _, n8, rfl⟩, rep_pair n8 rz1 rz2⟩
      · exact h1.elim
    · exact h1.elim⟩
end
end DN
set_option Elab.async false
set_option linter.all false
set_option maxRecDepth 100000
set_option maxHeartbeats 4000000
namespace DN
open PySem PySem.Spec PyProof.Rows L2
/-! ### for -/
def forD (g : FG) (b : FS) : List PyData → Rho → Mem → Res (Flo × Rho)
  | [], ρ, μ => .ok (.nx, ρ) μ
  | d :: ds, ρ, μ => match g (.dat d) ρ with
    | some ρ1 => (b ρ1 μ).bind fun q μ1 => match q.1 with
      | .nx => forD g b ds q.2 μ1
      | .ct => forD g b ds q.2 μ1
      | .bk => .ok (.nx, q.2) μ1
      | .rt v => .ok (.rt v, q.2) μ1
    | none => .no
def sFor (fi : FI) (g : FG) (b : FS) : FS := fun ρ μ => (fi ρ μ).bind fun ds μ1 => forD g b ds ρ μ1
section
variable {K : PySem.W.Frag} {Ms Mt Mu : Wd} {H H' H'' : Hp}
theorem Kp.of (e : Ext Ms Mt H H') : Kp K Ms Mt H H' := fun d x r => RepD.mono e d x r
theorem KpF.of (e : Ext Ms Mt H H') : KpF H H' := e.frz
theorem Grow.ext (h : Grow H H') : Ext Ms Ms H H' := by
  rcases h with rfl | ⟨T, o, n, rfl⟩
  · exact .refl
  · exact .laid n
theorem Grow.mem {μ : Mem} (h : Grow H H') (m : MemOk K Ms H μ) : MemOk K Ms H' μ := by
  rcases h with rfl | ⟨T, o, n, rfl⟩
  · exact m
  · exact m.laid n
end
section
variable {X : Cx} {w : Wi}
theorem ds_for {tg iter : Expr} {fi : FI} {g : FG} {f : FS} {body : List Stmt} {pos : Pos} (hp : PassesOwn (model X.prog X.w) X.A X.env X.xe) (hc : X.calm = true) (hi : PI X tg iter (tI X.K w fi)) (hg : PG X tg (tG X.K g)) (hb : PSs X body (tS X.K w f))
    (hs : ∀ x, foldedSetIterable iter X.env x = pure x) : PS X (.For tg iter body [] pos) (tS X.K w (sFor fi g f)) :=
  (ps_for hp hc hi hg hb hs).weak fun D σ H ⟨Ms, ρ, μ, hρ, hμ, h⟩ => ⟨Ms, ρ, μ, hρ, hμ, h.bind fun ds μ1 M1 H1 J e m it h1 => by
    refine ⟨fun i n σ H => ∃ Mt ρ μ, Ext M1 Mt H1 H ∧ i + n = ds.length ∧ RhoOk X.K Mt H ρ σ ∧ MemOk X.K Mt H μ ∧ PostS X.K w Mt H (forD g f (ds.drop i) ρ μ) D, ⟨ds.length, M1, ρ, μ1, .refl, by omega, hρ.mono e, m, by rw [List.drop_zero]; exact h1⟩, ?_⟩
    rintro i n σ H ⟨Mt, ρ, μ, e2, hn, hρ2, m2, h2⟩
    obtain ⟨it1, it2⟩ := it Mt H (.of e2) (.of e2)
    by_cases hlt : i < ds.length
    · right
      have hd : ds[i]? = some ds[i] := List.getElem?_eq_getElem hlt
      obtain ⟨go, yl⟩ := it1 i _ hd
      rw [List.drop_eq_getElem_cons hlt, forD] at h2
      split at h2
      · rename_i ρ1 hg1
        refine ⟨go, fun σ' H' => ∃ Mt' ρ' μ', Ext M1 Mt' H1 H' ∧ RhoOk X.K Mt' H' ρ' σ' ∧ MemOk X.K Mt' H' μ' ∧ PostS X.K w Mt' H' (forD g f (ds.drop (i + 1)) ρ' μ') D, ?_, ?_⟩
        · rintro σ' H' ⟨Mt', ρ', μ', e3, hρ3, m3, h3⟩
          exact ⟨n - 1, by omega, Mt', ρ', μ', e3, by omega, hρ3, m3, h3⟩
        · intro x H' hy
          obtain ⟨gr, rx⟩ := yl x H' hy
          have eg := gr.ext (Ms := Mt)
          have mg := gr.mem m2
          refine ⟨Mt, ρ, .dat ds[i], ρ1, hρ2.mono eg, rx, hg1, fun σ' hσ' => ⟨Mt, ρ1, μ, hσ', mg, (Post.mono h2 eg).bind fun q μ3 M3 H3 b e3 m3 r h3 => ?_⟩⟩
          obtain ⟨fl, ρ3⟩ := q
          obtain ⟨W, fl', σ3⟩ := b
          obtain ⟨r1, r2, r3⟩ := r
          simp only at r1 r2 r3
          subst r1 r2
          cases fl' with
          | nx => exact ⟨W, ρ3, μ3, (e2.trans eg).trans e3, r3, m3, h3⟩
          | ct => exact ⟨W, ρ3, μ3, (e2.trans eg).trans e3, r3, m3, h3⟩
          | bk => exact PostS.fin (D := D) (fl := .nx) h3 .refl m3 r3
          | rt v => exact fun u hu => PostS.fin h3 .refl m3 r3 u hu
      · exact h2.elim
    · left
      have ei : i = ds.length := by omega
      subst ei
      rw [List.drop_length, forD] at h2
      exact ⟨it2, PostS.fin (D := D) (fl := .nx) h2 .refl m2 hρ2⟩⟩
/-! ### list comprehensions -/
theorem MemOk.unhide {K : PySem.W.Frag} {Ms : Wd} {H : Hp} {μ : Mem} {p : Addr} (m : MemOk K (Ms.hide p) H μ) : MemOk K Ms H μ :=
  ⟨m.nd, m.len, fun i a c h1 h2 => by
    have q := m.cell i a c h1 h2
    cases c with
    | lst ds =>
      obtain ⟨xs, h3, h4⟩ := q
      exact ⟨xs, h3, RepL.sub (Ms := Ms) (Mt := Ms.hide p) (fun a o => ⟨o.1, fun z => o.2 (List.mem_append_left _ z)⟩) _ _ h4⟩, fun a h z => m.dis a h (List.mem_append_left _ z), fun a z => m.hdd a (List.mem_append_left _ z)⟩
def wipeR (ρ : Rho) : List Nat → Rho
  | [] => ρ
  | v :: vs => (wipeR ρ vs).set v none
def compD (g : FG) (t : FT) (f : FE) (ρ : Rho) : List PyData → Mem → Res (List PyData)
  | [], μ => .ok [] μ
  | d :: ds, μ => match g (.dat d) ρ with
    | some ρ1 => (t ρ1 μ).bind fun c μ1 => if c = true then (f ρ1 μ1).bind fun y μ2 => (match y with
        | .dat e => (compD g t f ρ ds μ2).bind fun es μ3 => .ok (e :: es) μ3
        | _ => .no)
      else compD g t f ρ ds μ1
    | none => .no
def eComp (fi : FI) (g : FG) (t : FT) (f : FE) (vs : List Nat) : FE := fun ρ μ => (fi ρ μ).bind fun ds μ1 =>
  if ds.length < 16777216 then (compD g t f (wipeR ρ vs) ds μ1).bind fun es μ2 => okD (.list es) μ2 else .no
theorem wipeR_rep {K : PySem.W.Frag} {Ms : Wd} {H : Hp} {ρ : Rho} {σ : L2.St} (r : RhoOk K Ms H ρ σ) : ∀ vs, RhoOk K Ms H (wipeR ρ vs) (wipe σ vs)
  | [] => r
  | v :: vs => by
    have ih := wipeR_rep r vs
    refine ⟨by simp [wipeR, wipe, ih.len], fun i x h => ?_⟩
    unfold wipeR at h
    unfold wipe
    by_cases e : v = i
    · subst e
      by_cases hv : v < (wipeR ρ vs).length
      · rw [List.getElem?_set_self hv] at h; cases h
      · rw [List.getElem?_eq_none (by simpa using hv)] at h; cases h
    · rw [List.getElem?_set_ne e] at h
      rw [List.getElem?_set_ne e]
      exact ih.at_ i x h
/-- a target that writes only the block's names -/
def OnlyIn (t : TG) (vs : List Nat) : Prop := ∀ v σ H Q, t v (wipe σ vs) H Q → t v (wipe σ vs) H fun σ' H' => wipe σ' vs = wipe σ vs ∧ Q σ' H'
theorem wipe_comm {σ : L2.St} {i : Nat} {x : Option V} : ∀ {vs : List Nat}, i ∈ vs → wipe (σ.set i x) vs = wipe σ vs
  | [], h => nomatch h
  | v :: vs, h => by
    unfold wipe
    by_cases e : i ∈ vs
    · rw [wipe_comm e]
    · have ev : i = v := by
        rcases List.mem_cons.mp h with h | h
        · exact h
        · exact absurd h e
      subst ev
      have hw : ∀ (us : List Nat), i ∉ us → wipe (σ.set i x) us = (wipe σ us).set i x := by
        intro us
        induction us with
        | nil => intro _; rfl
        | cons u us ih =>
          intro hn
          have h1 : i ≠ u := fun z => hn (by rw [z]; exact List.mem_cons_self)
          have h2 : i ∉ us := fun z => hn (List.mem_cons_of_mem _ z)
          unfold wipe
          rw [ih h2, List.set_comm _ _ h1]
      rw [hw vs e, List.set_set]
theorem wipe_wipe {σ : L2.St} : ∀ {vs us : List Nat}, (∀ i ∈ us, i ∈ vs) → wipe (wipe σ us) vs = wipe σ vs
  | vs, [], _ => rfl
  | vs, u :: us, h => by
    show wipe ((wipe σ us).set u none) vs = _
    rw [wipe_comm (h u List.mem_cons_self)]
    exact wipe_wipe fun i hi => h i (List.mem_cons_of_mem _ hi)
theorem wipe_idem {σ : L2.St} {vs : List Nat} : wipe (wipe σ vs) vs = wipe σ vs := wipe_wipe fun _ h => h
theorem tLc_weak {K : PySem.W.Frag} {wi : TI} {tg : TG} {tt : TT} {te : TE} {vs : List Nat} {fi : FI} {g : FG} {t : FT} {f : FE} (hw : ∀ z μ M H, w z μ M H → False)
    (hi : ∀ σ H Q, tI K w fi σ H Q → wi σ H Q) (hg : ∀ v σ0 H (Q : L2.St → Hp → Prop), (∃ σ, σ0 = wipe σ vs) → tG K g v σ0 H Q → tg v σ0 H fun σ' H' => wipe σ' vs = wipe σ0 vs ∧ Q σ' H') (ht : ∀ σ H Q, tT K w t σ H Q → tt σ H Q) (hf : ∀ σ H Q, tE K w f σ H Q → te σ H Q)
    (σ : L2.St) (H : Hp) (Q : VK) (h : tE K w (eComp fi g t f vs) σ H Q)
    (mono : ∀ v σ0 H (Q Q' : L2.St → Hp → Prop), (∀ σ H, Q σ H → Q' σ H) → tg v σ0 H Q → tg v σ0 H Q') : tLc wi tg tt te vs σ H Q := by
  obtain ⟨Ms, ρ, μ, hρ, hμ, h⟩ := h
  refine hi σ H _ ⟨Ms, ρ, μ, hρ, hμ, h.bind fun ds μ1 M1 H1 J e m it h1 => ?_⟩
  split at h1
  case isFalse => exact h1.elim
  rename_i hlen
  intro D hD
  have hρ1 := hρ.mono e
  -- the invariant: Mt the outer world, the list at D hidden
  refine ⟨fun i n H => ∃ Mt μ acc ys, Ext M1 Mt H1 H ∧ i + n = ds.length ∧ acc.length ≤ i ∧ H D = some (.lst ys) ∧ RepL K (Mt.hide D) H acc ys ∧ RhoOk K (Mt.hide D) H (wipeR ρ vs) (wipe σ vs) ∧ MemOk K (Mt.hide D) H μ ∧ Kp K M1 (Mt.hide D) H1 H ∧ KpF H1 H ∧
      Post K w (RepV K) M1 H1 ((compD g t f (wipeR ρ vs) (ds.drop i) μ).bind fun es μ2 => okD (.list (acc ++ es)) μ2) Q, ⟨ds.length, M1, μ1, [], [], .laid hD, by omega, Nat.le_refl _, upd_same, rfl, ?_, m.hide hD, fun d x r => ?_, fun a o u q => by rw [upd_ne (ne_of_none q hD)]; exact q, ?_⟩, ?_⟩
  · exact ((wipeR_rep hρ1 vs).hide hD).mono (.laid hD)
  · exact RepD.mono (.laid hD) d x (RepD.hide hD d x r)
  · rw [List.drop_zero]
    exact h1
  rintro i n H ⟨Mt, μ, acc, ys, e2, hn, hacc, hDl, ra, hρ2, m2, kp, kf, h2⟩
  obtain ⟨it1, it2⟩ := it (Mt.hide D) H kp kf
  by_cases hlt : i < ds.length
  · right
    have hd : ds[i]? = some ds[i] := List.getElem?_eq_getElem hlt
    obtain ⟨go, yl⟩ := it1 i _ hd
    rw [List.drop_eq_getElem_cons hlt, compD] at h2
    split at h2
    case h_2 => exact h2.elim
    rename_i ρ1 hg1
    -- what a turn reaches
    refine ⟨go, fun H' => ∃ Mt' μ' acc' ys', Ext M1 Mt' H1 H' ∧ acc'.length ≤ i + 1 ∧ H' D = some (.lst ys') ∧ RepL K (Mt'.hide D) H' acc' ys' ∧ RhoOk K (Mt'.hide D) H' (wipeR ρ vs) (wipe σ vs) ∧ MemOk K (Mt'.hide D) H' μ' ∧ Kp K M1 (Mt'.hide D) H1 H' ∧ KpF H1 H' ∧
        Post K w (RepV K) M1 H1 ((compD g t f (wipeR ρ vs) (ds.drop (i + 1)) μ').bind fun es μ2 => okD (.list (acc' ++ es)) μ2) Q, ?_, ?_⟩
    · rintro H' ⟨Mt', μ', acc', ys', a1, a2, a3, a4, a5, a6, a7, a8, a9⟩
      exact ⟨n - 1, by omega, Mt', μ', acc', ys', a1, by omega, by omega, a3, a4, a5, a6, a7, a8, a9⟩
    intro x H' hy
    obtain ⟨gr, rx⟩ := yl x H' hy
    -- from the inner world back to the outer one
    have unhide : ∀ {M' : Wd} {Ha Hb : Hp}, Ext (Mt.hide D) M' Ha Hb → ∃ M'' : Wd, M' = M''.hide D ∧ M''.hs = Mt.hs ∧ (∃ more, M''.ms = Mt.ms ++ more) := fun {M' Ha Hb} x => by
      obtain ⟨more, hm⟩ := x.pre
      exact ⟨⟨M'.ms, Mt.hs⟩, by
        have : M'.hs = Mt.hs ++ [D] := x.hs
        cases M'
        simp only [Wd.hide] at this ⊢
        rw [this], rfl, more, hm⟩
    -- an outer extension from an inner one
    have outer : ∀ {M'' : Wd} {Hb : Hp}, Ext (Mt.hide D) (M''.hide D) H Hb → M''.hs = Mt.hs → Ext M1 M'' H1 Hb := fun {M'' Hb} x hh => by
      have oD : ∀ a o, H1 a = some o → a ≠ D := fun a o q z => by rw [z, hD] at q; cases q
      refine ⟨?_, hh.trans e2.hs, fun a h1 h2 => ?_, fun a q => e2.dom a (x.dom a q), fun a xs q => x.tup a xs (e2.tup a xs q), fun a o u q => x.frz a o u (e2.frz a o u q), fun a xs n q => ?_, fun a o n q => ?_⟩
      · obtain ⟨m1, h1⟩ := e2.pre
        obtain ⟨m2, h2⟩ := x.pre
        exact ⟨m1 ++ m2, by rw [show M''.ms = Mt.ms ++ m2 from h2, h1]; simp⟩
      · by_cases q : a ∈ Mt.ms
        · exact e2.new a q h2
        · exact e2.dom a (x.new a h1 q)
      · have o1 := e2.notIn n q
        refine x.lst a xs ⟨o1.1, fun z => ?_⟩ (e2.lst a xs n q)
        rcases List.mem_append.mp z with z | z
        · exact o1.2 z
        · exact oD a _ q (List.mem_singleton.mp z)
      · exact x.hid a o (List.mem_append_left _ (by rw [e2.hs]; exact n)) (e2.hid a o n q)
    have eg := gr.ext (Ms := Mt.hide D)
    have mg := gr.mem m2
    have kpI : ∀ {M' : Wd} {Hb : Hp}, Ext (Mt.hide D) M' H Hb → Kp K M1 M' H1 Hb := fun {M' Hb} x d v r => RepD.mono x d v (kp d v r)
    have kfI : ∀ {M' : Wd} {Hb : Hp}, Ext (Mt.hide D) M' H Hb → KpF H1 Hb := fun {M' Hb} x a o u q => x.frz a o u (kf a o u q)
    refine mono _ _ _ _ _ (fun σ' H'' q => ⟨q.1.trans wipe_idem, q.2⟩) (hg x (wipe σ vs) H' _ ⟨σ, rfl⟩ ⟨Mt.hide D, wipeR ρ vs, .dat ds[i], ρ1, hρ2.mono eg, rx, hg1, fun σ' hσ' => ht σ' H' _ ⟨Mt.hide D, ρ1, μ, hσ', mg, ?_⟩⟩)
    -- the test
    cases rt : t ρ1 μ with
    | no => rw [rt] at h2; exact h2.elim
    | ex z μ3 =>
      rw [rt] at h2
      intro M3 H3 e3 m3
      obtain ⟨M4, rfl, hh, _⟩ := unhide (eg.trans e3)
      exact (hw _ _ _ _ (h2 M4 H3 (outer (eg.trans e3) hh) (m3.unhide))).elim
    | ok c μ3 =>
      rw [rt] at h2
      intro M3 H3 b e3 m3 rb
      cases rb
      have eA := eg.trans e3
      cases c with
      | false =>
        obtain ⟨M4, rfl, hh, _⟩ := unhide eA
        rw [if_neg Bool.false_ne_true]
        have hDl3 := eA.hid D _ (List.mem_append_right _ (List.mem_singleton.mpr rfl)) hDl
        exact ⟨M4, μ3, acc, ys, outer eA hh, by omega, hDl3, RepL.mono eA acc ys ra, hρ2.mono eA, m3, kpI eA, kfI eA, h2⟩
      | true =>
        rw [if_pos rfl]
        refine hf σ' H3 _ ⟨M3, ρ1, μ3, hσ'.mono e3, m3, ?_⟩
        dsimp only [Res.bind] at h2
        rw [if_pos rfl] at h2
        cases rf : f ρ1 μ3 with
        | no => rw [rf] at h2; exact h2.elim
        | ex z μ4 =>
          rw [rf] at h2
          intro M4 H4 e4 m4
          obtain ⟨M5, rfl, hh, _⟩ := unhide (eA.trans e4)
          exact (hw _ _ _ _ (h2 M5 H4 (outer (eA.trans e4) hh) (m4.unhide))).elim
        | ok y μ4 =>
          rw [rf] at h2
          intro M4 H4 u e4 m4 ru
          have eB := eA.trans e4
          obtain ⟨M5, rfl, hh, _⟩ := unhide eB
          cases y with
          | dat d =>
            have hDl4 := eB.hid D _ (List.mem_append_right _ (List.mem_singleton.mpr rfl)) hDl
            have rl : RepL K (M5.hide D) H4 acc ys := RepL.mono eB acc ys ra
            have hd2 : Hid (M5.hide D) D H4 (upd H4 D (.lst (ys ++ [u]))) := ⟨List.mem_append_right _ (List.mem_singleton.mpr rfl), ⟨ys, hDl4⟩, by rw [upd_same]; exact fun z => (nomatch z), fun a n => upd_ne n⟩
            have eO := outer eB hh
            have oD : ∀ a o, H1 a = some o → a ≠ D := fun a o q z => by rw [z, hD] at q; cases q
            refine ⟨ys, hDl4, by rw [line_eq, ← rl.length]; omega, M5, μ4, acc ++ [d], ys ++ [u], ⟨eO.pre, eO.hs, eO.new, fun a q => ?_, fun a xs q => ?_, fun a o v q => ?_, fun a xs n q => ?_, fun a o n q => ?_⟩, by rw [List.length_append]; simp; omega, upd_same, RepL.hid hd2 _ _ (rl.append ⟨u, [], rfl, ru, rfl⟩), (hρ2.mono eB).hid hd2, m4.hid hd2, fun d' v r => RepD.hid hd2 d' v (kpI eB d' v r), fun a o v q => ?_, ?_⟩
            · by_cases z : a = D
              · rw [z]; exact hD
              · rw [upd_ne z] at q; exact eO.dom a q
            · rw [upd_ne (oD a _ q)]; exact eO.tup a xs q
            · rw [upd_ne (oD a _ q)]; exact eO.frz a o v q
            · rw [upd_ne (oD a _ q)]; exact eO.lst a xs n q
            · rw [upd_ne (oD a _ q)]; exact eO.hid a o n q
            · rw [upd_ne (oD a _ q)]; exact kfI eB a o v q
            · dsimp only [Res.bind] at h2
              have ee : ((compD g t f (wipeR ρ vs) (ds.drop (i + 1)) μ4).bind fun es μ2 => okD (.list ((acc ++ [d]) ++ es)) μ2) = (((compD g t f (wipeR ρ vs) (ds.drop (i + 1)) μ4).bind fun es μ3 => Res.ok (d :: es) μ3).bind fun es μ2 => okD (.list (acc ++ es)) μ2) := by
                cases compD g t f (wipeR ρ vs) (ds.drop (i + 1)) μ4 with
                | ok es μ5 => simp [Res.bind]
                | ex z μ5 => rfl
                | no => rfl
              rw [ee]
              exact h2
          | cel n => exact h2.elim
          | fz n => exact h2.elim
  · left
    have ei : i = ds.length := by omega
    subst ei
    rw [List.drop_length, compD] at h2
    refine ⟨it2, h2 Mt H (.ref D) e2 m2.unhide ?_⟩
    refine ⟨D, ys, rfl, hDl, ⟨fun z => ?_, fun z => ?_⟩, ?_⟩
    · exact m2.dis D z (List.mem_append_right _ (List.mem_singleton.mpr rfl))
    · rw [e2.hs] at z
      exact m.hdd D z hD
    · rw [List.append_nil]
      exact RepL.sub (Ms := Mt) (Mt := Mt.hide D) (fun a o => ⟨o.1, fun z => o.2 (List.mem_append_left _ z)⟩) _ _ ra
end
end DN
set_option Elab.async false
set_option linter.all false
set_option maxRecDepth 100000
set_option maxHeartbeats 4000000
namespace DN
open PySem PySem.Spec PyProof.Rows L2
def wF : Wi := fun _ _ _ _ => False
/-! ### a comprehension's target: a name, a tuple of names -/
inductive Tg where
  | nm (i : Nat)
  | tp (l : List Nat)
def gNs : List Nat → List PyData → Rho → Option Rho
  | [] => gNl
  | i :: is => gCn (gNm i) (gNs is)
def Tg.data : Tg → FG
  | .nm i => gNm i
  | .tp l => gTp l.length (gNs l)
def rNs : List Nat → TGs
  | [] => gNil
  | i :: is => gCons (gName i) (rNs is)
def Tg.raw (K : PySem.W.Frag) : Tg → TG
  | .nm i => gName i
  | .tp l => L2.gTup K l.length (rNs l)
def Tg.slots : Tg → List Nat
  | .nm i => [i]
  | .tp l => l
theorem rNs_mono : ∀ (l : List Nat) {vs : List V} {σ : L2.St} {H : Hp} {Q Q' : L2.St → Hp → Prop}, (∀ σ H, Q σ H → Q' σ H) → rNs l vs σ H Q → rNs l vs σ H Q'
  | [], _, _, _, _, _, k, h => ⟨h.1, k _ _ h.2⟩
  | i :: l, _, _, _, _, _, k, h => by
    obtain ⟨v, r, e, h⟩ := h
    exact ⟨v, r, e, rNs_mono l k h⟩
theorem Tg.mono {K : PySem.W.Frag} (g : Tg) (v : V) (σ : L2.St) (H : Hp) (Q Q' : L2.St → Hp → Prop) (k : ∀ σ H, Q σ H → Q' σ H) (h : g.raw K v σ H Q) : g.raw K v σ H Q' := by
  cases g with
  | nm i => exact k _ _ h
  | tp l =>
    obtain ⟨a, xs, e1, h1, h2, h⟩ := h
    exact ⟨a, xs, e1, h1, h2, rNs_mono l k h⟩
theorem rNs_data {K : PySem.W.Frag} {Ms : Wd} {H : Hp} {vs : List Nat} {σ0 : L2.St} {Q : L2.St → Hp → Prop} : ∀ (l : List Nat) {ds : List PyData} {xs : List V} {ρ ρ' : Rho} {σ : L2.St}, (∀ i ∈ l, i ∈ vs) → RhoOk K Ms H ρ σ → wipe σ vs = wipe σ0 vs → RepL K Ms H ds xs → gNs l ds ρ = some ρ' →
    (∀ σ', RhoOk K Ms H ρ' σ' → Q σ' H) → rNs l xs σ H fun σ' H' => wipe σ' vs = wipe σ0 vs ∧ Q σ' H'
  | [], ds, xs, ρ, ρ', σ, _, hρ, hw, r, hg, k => by
    cases ds with
    | nil =>
      cases hg
      exact ⟨r, hw, k σ hρ⟩
    | cons d ds => cases hg
  | i :: l, ds, xs, ρ, ρ', σ, hl, hρ, hw, r, hg, k => by
    cases ds with
    | nil => cases hg
    | cons d ds =>
      obtain ⟨x, r', e, rx, t⟩ := r
      refine ⟨x, r', e, ?_⟩
      have hg' : gNs l ds (ρ.set i (some (.dat d))) = some ρ' := hg
      exact rNs_data l (fun j hj => hl j (List.mem_cons_of_mem _ hj)) (hρ.set i (show RepV K Ms H (.dat d) x from rx)) ((wipe_comm (hl i List.mem_cons_self)).trans hw) t hg' k
theorem Tg.hg {K : PySem.W.Frag} (g : Tg) {vs : List Nat} (hs : ∀ i ∈ g.slots, i ∈ vs) (v : V) (σ0 : L2.St) (H : Hp) (Q : L2.St → Hp → Prop) (h : tG K g.data v σ0 H Q) : g.raw K v σ0 H fun σ' H' => wipe σ' vs = wipe σ0 vs ∧ Q σ' H' := by
  obtain ⟨Ms, ρ, a, ρ', hρ, ra, hg, k⟩ := h
  cases g with
  | nm i =>
    cases hg
    exact ⟨wipe_comm (hs i (List.mem_singleton.mpr rfl)), k _ (hρ.set i ra)⟩
  | tp l =>
    have hg' : gTp l.length (gNs l) a ρ = some ρ' := hg
    unfold gTp at hg'
    split at hg'
    · rename_i ds
      split at hg'
      · rename_i hl
        obtain ⟨p, xs, e1, h1, r1⟩ := ra
        exact ⟨p, xs, e1, h1, by rw [← r1.length]; exact hl, rNs_data l hs hρ rfl r1 hg' k⟩
      · cases hg'
    · cases hg'
section
variable {X : Cx}
theorem de_lc {elt tg iter : Expr} {ifs : List Expr} {scope : Scope} {own : List (Str × Nat)} {pos : Pos} {fi : FI} {g : Tg} {t : FT} {f : FE} (hc : X.calm = true) (hN : X.N.Nodup) (hi : PI X tg iter (tI X.K wF fi)) (ok : BlkOk X.N X.env.scope scope own)
    (hg : ∀ (s : Shared) (H : Hp) (C : Addr) (cl : List (Str × Addr)) (fp : List Addr), PG (X.blk s H scope (compEnvC scope cl C X.env) fp) tg (g.raw X.K)) (hgs : ∀ i ∈ g.slots, i ∈ own.map (·.2)) (ht : ∀ (s : Shared) (H : Hp) (C : Addr) (cl : List (Str × Addr)) (fp : List Addr), PTs (X.blk s H scope (compEnvC scope cl C X.env) fp) ifs (tT X.K wF t))
    (he : ∀ (s : Shared) (H : Hp) (C : Addr) (cl : List (Str × Addr)) (fp : List Addr), PE (X.blk s H scope (compEnvC scope cl C X.env) fp) elt (tE X.K wF f)) (hs : ∀ x, foldedSetIterable iter X.env x = pure x) :
    PE X (.ListComp elt [⟨tg, iter, ifs, 0⟩] scope pos) (tE X.K wF (eComp fi g.data t f (own.map (·.2)))) :=
  (pe_lc hc hN hi ok hg ht he hs).weak fun σ H Q h => tLc_weak (fun _ _ _ _ z => z) (fun _ _ _ q => q) (fun v σ0 H Q _ q => g.hg hgs v σ0 H Q q) (fun _ _ _ q => q) (fun _ _ _ q => q) σ H Q h g.mono
theorem ds_setLc {i : Nat} {y : Str} {py : Pos} {elt tg iter : Expr} {ifs : List Expr} {scope : Scope} {own : List (Str × Nat)} {pos spos : Pos} {fi : FI} {g : Tg} {t : FT} {f : FE} (hc : X.calm = true) (hN : X.N.Nodup) (hy : X.N[i]? = some y) (hyl : X.env.scope.names.lookup y = some .local)
    (hsw : swapsWith (.ListComp elt [⟨tg, iter, ifs, 0⟩] scope pos) (some (.Name y py)) spos.line X.env = pure true) (hi : PI X tg iter (tI X.K wF fi)) (ok : BlkOk X.N X.env.scope scope own)
    (hg : ∀ (s : Shared) (H : Hp) (C : Addr) (cl : List (Str × Addr)) (fp : List Addr), PG (X.blk s H scope (compEnvC scope cl C X.env) fp) tg (g.raw X.K)) (hgs : ∀ i ∈ g.slots, i ∈ own.map (·.2)) (ht : ∀ (s : Shared) (H : Hp) (C : Addr) (cl : List (Str × Addr)) (fp : List Addr), PTs (X.blk s H scope (compEnvC scope cl C X.env) fp) ifs (tT X.K wF t))
    (he : ∀ (s : Shared) (H : Hp) (C : Addr) (cl : List (Str × Addr)) (fp : List Addr), PE (X.blk s H scope (compEnvC scope cl C X.env) fp) elt (tE X.K wF f)) (hs : ∀ x, foldedSetIterable iter X.env x = pure x) :
    PS X (.Assign [.Name y py] (.ListComp elt [⟨tg, iter, ifs, 0⟩] scope pos) spos) (tS X.K wF (sAsg (eComp fi g.data t f (own.map (·.2))) (gNm i))) :=
  (ps_setLc hc hN hy hyl hsw hi ok hg ht he hs).weak (asg_weak (fun σ H Q h => tLc_weak (fun _ _ _ _ z => z) (fun _ _ _ q => q) (fun v σ0 H Q _ q => g.hg hgs v σ0 H Q q) (fun _ _ _ q => q) (fun _ _ _ q => q) σ H Q h g.mono)
    fun v σ H Q ⟨Ms, ρ, a, ρ', hρ, ha, hg, h⟩ => by
      cases hg
      exact h _ (hρ.set i ha))
/-! ### own defs -/
abbrev DF := List Val → Mem → Res Val
def spD (K : PySem.W.Frag) (n : Nat) (g : DF) : Sp := fun vs H Q _ => ∃ Ms as μ, as.length = n ∧ RepVs K Ms H as vs ∧ MemOk K Ms H μ ∧ Post K wF (RepV K) Ms H (g as μ) Q
def gCall (n : Nat) (g : DF) : DF := fun as μ => if as.length = n then g as μ else .no
theorem de_call {x : Str} {n : Nat} {g : DF} {k j : Nat} {f : Addr} {fd : FuncData} {ps : List Str} {p pos : Pos} {e : Expr} {es : List Expr} {fl : FL} (F : FnOk X.prog X.w X.K X.mg X.base CX0 j f fd ps (spD X.K n g)) (hr : Room k X.A) (hj : j ≤ k) (hg : Gl X x) (hm : X.mg x = some (.ref f)) (hk : PySem.W.keepIn X.K (.ref f) = true) (hb : Binds X.K fd ps [])
    (ha : PA X (e :: es) (tL X.K wF fl)) (hdb : (x == ("__debug__" : Str)) = false) (he : starEach (e :: es) X.env = (false, eval e X.env) :: starEach es X.env) (hpl : (backTo pos (starEach es X.env)).any (·.1) = false) : PE X (.Call (.Name x p) (e :: es) [] pos) (tE X.K wF (eArgs (gCall n g) fl)) :=
  (pe_call (E := E0) F (hr.mono hj) hg hm hk hb .nil pass0 ha hdb he hpl).weak fun σ H Q ⟨Ms, ρ, μ, hρ, hμ, h⟩ => ⟨Ms, ρ, μ, hρ, hμ, h.bind fun as μ1 M1 H1 xs e m rs h1 => by
    unfold gCall at h1
    split at h1
    · rename_i hn
      exact ⟨M1, as, μ1, hn, by rw [List.append_nil]; exact rs, m, h1⟩
    · exact h1.elim⟩
theorem de_call0 {x : Str} {g : DF} {k j : Nat} {f : Addr} {fd : FuncData} {ps : List Str} {p pos : Pos} (F : FnOk X.prog X.w X.K X.mg X.base CX0 j f fd ps (spD X.K 0 g)) (hr : Room k X.A) (hj : j ≤ k) (hg : Gl X x) (hm : X.mg x = some (.ref f)) (hk : PySem.W.keepIn X.K (.ref f) = true) (hb : Binds X.K fd ps [])
    (hdb : (x == ("__debug__" : Str)) = false) : PE X (.Call (.Name x p) [] [] pos) (tE X.K wF (eArgs (gCall 0 g) lNil)) :=
  (pe_call0 (E := E0) F (hr.mono hj) hg hm hk hb .nil pass0 hdb).weak fun σ H Q ⟨Ms, ρ, μ, hρ, hμ, h⟩ => ⟨Ms, [], μ, rfl, rfl, hμ, h⟩
/-- a call's end: the cells of the callee's own are let go; one that is handed back is read, or kept -/
def finish (keep : Bool) (n : Nat) (v : Val) (μ : Mem) : Res Val := match v with
  | .cel j => if j < n then .ok (.cel j) (μ.take n) else (match μ[j]? with
    | some (.lst ds) => if keep = true then .ok (.cel n) (μ.take n ++ [.lst ds]) else .ok (.dat (.list ds)) (μ.take n)
    | none => .no)
  | .dat d => .ok (.dat d) (μ.take n)
  | .fz ds => .ok (.fz ds) (μ.take n)
def startR (N : Nat) (as : List Val) : Rho := as.map some ++ List.replicate (N - as.length) none
def bodyF (N : Nat) (keep : Bool) (f : FS) : DF := fun as μ => (f (startR N as) μ).bind fun q μ1 => match q.1 with
  | .nx => finish keep μ.length (.dat .none) μ1
  | .rt v => finish keep μ.length v μ1
  | _ => .no
theorem RepVs.map {K : PySem.W.Frag} {Ms : Wd} {H : Hp} : ∀ {as : List Val} {vs : List V} {i : Nat} {a : Val}, RepVs K Ms H as vs → as[i]? = some a → ∃ v, vs[i]? = some v ∧ RepV K Ms H a v := fun r h => r.get h
theorem start_rep {K : PySem.W.Frag} {Ms : Wd} {H : Hp} {N : List Str} {as : List Val} {vs : List V} (r : RepVs K Ms H as vs) : RhoOk K Ms H (startR N.length as) (L2.start N vs) := by
  have hl := r.length
  refine ⟨by simp [startR, L2.start, hl], fun i v h => ?_⟩
  unfold startR at h
  unfold L2.start
  by_cases hi : i < as.length
  · rw [List.getElem?_append_left (by simpa using hi), List.getElem?_map] at h
    cases q : as[i]? with
    | none => rw [q] at h; cases h
    | some a =>
      rw [q] at h
      cases h
      obtain ⟨u, h1, h2⟩ := r.get q
      refine ⟨u, ?_, h2⟩
      rw [List.getElem?_append_left (by simp; omega), List.getElem?_map, h1]
      rfl
  · rw [List.getElem?_append_right (by simpa using hi), List.getElem?_replicate] at h
    split at h <;> cases h
theorem Ext.back {Ms Mt : Wd} {H H' : Hp} (e : Ext Ms Mt H H') : Ext Ms Ms H H' := ⟨⟨[], by simp⟩, rfl, fun _ h n => absurd h n, e.dom, e.tup, e.frz, e.lst, e.hid⟩
theorem back_out {Ms Mt : Wd} {H H' : Hp} (e : Ext Ms Mt H H') (a : Addr) (o : Mt.out a) : Ms.out a := by
  obtain ⟨more, hm⟩ := e.pre
  exact ⟨fun h => o.1 (by rw [hm]; exact List.mem_append_left _ h), fun h => o.2 (by rw [e.hs]; exact h)⟩
theorem MemOk.back {K : PySem.W.Frag} {Ms Mt : Wd} {H H' : Hp} {μ μ' : Mem} (e : Ext Ms Mt H H') (m : MemOk K Ms H μ) (m' : MemOk K Mt H' μ') : MemOk K Ms H' (μ'.take μ.length) := by
  obtain ⟨more, hm⟩ := e.pre
  have hl : μ.length ≤ μ'.length := by
    rw [← m.len, ← m'.len, hm, List.length_append]
    omega
  refine ⟨m.nd, by rw [List.length_take, m.len]; omega, fun i a c h1 h2 => ?_, m.dis, fun a h => m'.hdd a (by rw [e.hs]; exact h)⟩
  have hi := (List.getElem?_eq_some_iff.mp h1).1
  rw [List.getElem?_take_of_lt (by rw [← m.len]; exact hi)] at h2
  have q := m'.cell i a c (by rw [hm, List.getElem?_append_left hi]; exact h1) h2
  cases c with
  | lst ds =>
    obtain ⟨xs, h3, h4⟩ := q
    exact ⟨xs, h3, RepL.sub (back_out e) _ _ h4⟩
theorem finish_ok {K : PySem.W.Frag} {Ms Mt : Wd} {H H' : Hp} {μ μ' : Mem} {keep : Bool} {v : Val} {u : V} {Q : VK} (e : Ext Ms Mt H H') (m : MemOk K Ms H μ) (m' : MemOk K Mt H' μ') (r : RepV K Mt H' v u) (h : Post K wF (RepV K) Ms H (finish keep μ.length v μ') Q) : Q u H' := by
  have mb := m.back e m'
  cases v with
  | dat d => exact h Ms H' u e.back mb (RepD.sub (back_out e) d u r)
  | fz ds =>
    obtain ⟨a, xs, e1, h1, r1⟩ := r
    exact h Ms H' u e.back mb ⟨a, xs, e1, h1, RepL.sub (back_out e) _ _ r1⟩
  | cel j =>
    obtain ⟨more, hm⟩ := e.pre
    obtain ⟨a, e1, h1⟩ := r
    subst e1
    unfold finish at h
    dsimp only at h
    split at h
    · rename_i hj
      refine h Ms H' _ e.back mb ⟨a, rfl, ?_⟩
      rw [hm, List.getElem?_append_left (by rw [m.len]; exact hj)] at h1
      exact h1
    · rename_i hj
      split at h
      · rename_i ds hd
        have aM : a ∈ Mt.ms := List.mem_of_getElem? h1
        have aN : a ∉ Ms.ms := fun z => by
          obtain ⟨i, hi, ei⟩ := List.mem_iff_getElem.mp z
          have h2 : Mt.ms[i]? = some a := by rw [hm, List.getElem?_append_left hi, List.getElem?_eq_getElem hi, ei]
          obtain ⟨hj', ej⟩ := List.getElem?_eq_some_iff.mp h1
          obtain ⟨hi', ei'⟩ := List.getElem?_eq_some_iff.mp h2
          have := (List.getElem_inj m'.nd).mp (ej.trans ei'.symm)
          rw [m.len] at hi
          omega
        have aH : a ∉ Ms.hs := fun z => m'.dis a aM (by rw [e.hs]; exact z)
        obtain ⟨xs, h2, h3⟩ := m'.at_ h1 hd
        split at h
        · -- kept as a new cell
          have ek : Ext Ms (Ms.grow a) H H' := ⟨⟨[a], rfl⟩, rfl, fun b hb nb => by
            rcases List.mem_append.mp hb with hb | hb
            · exact absurd hb nb
            · rw [List.mem_singleton.mp hb]; exact e.new a aM aN, e.dom, e.tup, e.frz, e.lst, e.hid⟩
          have ok2 : ∀ b, Mt.out b → (Ms.grow a).out b := fun b o => ⟨fun z => by
            rcases List.mem_append.mp z with z | z
            · exact (back_out e b o).1 z
            · rw [List.mem_singleton.mp z] at o; exact o.1 aM, (back_out e b o).2⟩
          refine h (Ms.grow a) H' _ ek ⟨?_, ?_, fun i b c g1 g2 => ?_, fun b hb => ?_, mb.hdd⟩ ⟨a, rfl, ?_⟩
          · show (Ms.ms ++ [a]).Nodup
            rw [List.nodup_append]
            exact ⟨m.nd, by simp, fun x hx y hy z => by
              rw [List.mem_singleton] at hy
              subst hy z
              exact aN hx⟩
          · show (Ms.ms ++ [a]).length = _
            rw [List.length_append, List.length_append, mb.len]
            rfl
          · have g1 : (Ms.ms ++ [a])[i]? = some b := g1
            by_cases hi : i < Ms.ms.length
            · rw [List.getElem?_append_left hi] at g1
              rw [List.getElem?_append_left (by rw [← mb.len]; exact hi)] at g2
              have hi2 : i < μ.length := by rw [← m.len]; exact hi
              rw [List.getElem?_take_of_lt hi2] at g2
              have q := m'.cell i b c (by rw [hm, List.getElem?_append_left hi]; exact g1) g2
              cases c with
              | lst es =>
                obtain ⟨ys, h4, h5⟩ := q
                exact ⟨ys, h4, RepL.sub ok2 _ _ h5⟩
            · have hi2 : i = Ms.ms.length := by
                have q := (List.getElem?_eq_some_iff.mp g1).1
                rw [List.length_append] at q
                simp at q
                omega
              subst hi2
              rw [List.getElem?_append_right (Nat.le_refl _), Nat.sub_self] at g1
              rw [List.getElem?_append_right (by rw [mb.len]; exact Nat.le_refl _), mb.len, Nat.sub_self] at g2
              simp at g1 g2
              subst g1 g2
              exact ⟨xs, h2, RepL.sub ok2 _ _ h3⟩
          · rcases List.mem_append.mp hb with hb | hb
            · exact m.dis b hb
            · rw [List.mem_singleton.mp hb]; exact aH
          · show (Ms.ms ++ [a])[μ.length]? = some a
            rw [← m.len, List.getElem?_append_right (Nat.le_refl _), Nat.sub_self]
            rfl
        · exact h Ms H' _ e.back mb ⟨a, xs, rfl, h2, ⟨aN, aH⟩, RepL.sub (back_out e) _ _ h3⟩
      · exact h.elim
/-- a def keeps its promise: its body's meaning -/
theorem fn_den {P : Program} {w : World} {K : PySem.W.Frag} {mg : Str → Option Value} {base : Heap} {x qual : Str} {st : Stmt} {f : Addr} {fd : FuncData} {N ps : List Str} {k : Nat} {keep : Bool} {fb : FS} (F : Fun K x qual st f fd) (S : FnScope N ps (defScope st))
    (hb : ∀ (cdv : Value) (A : Around) (outer : List Env) (s : Shared) (H : Hp) (E : XK), Room k (A.deeper (envOfC qual (defScope st) s.heap.objs.size f cdv)) →
      PSs (cxOf CX0 P w K mg base N qual (defScope st) f cdv A outer s H E).nox (defBody st) (tS K wF fb)) : FnOk P w K mg base CX0 (k + 1) f fd ps (spD K ps.length (bodyF N.length keep fb)) := by
  refine F.ok S (fun vs H Q E h => ?_) (fun cdv A outer s H vs Q E hr h => ⟨_, hb cdv A outer s H E hr, ?_⟩)
  · obtain ⟨Ms, as, μ, hn, r, _⟩ := h
    rw [← r.length, hn]
  · obtain ⟨Ms, as, μ, hn, r, m, h⟩ := h
    refine ⟨Ms, _, μ, start_rep (N := N) r, m, ?_⟩
    unfold bodyF at h
    cases q : fb (startR N.length as) μ with
    | no => rw [q] at h; exact h.elim
    | ex z μ1 => rw [q] at h; exact h
    | ok a μ1 =>
      rw [q] at h
      obtain ⟨fl, ρ'⟩ := a
      rintro Mt H' ⟨W, fl', σ'⟩ e m' ⟨r1, r2, r3⟩
      simp only at r1 r2 r3
      subst r1 r2
      dsimp only [Res.bind] at h
      cases fl' with
      | nx => exact finish_ok (v := .dat .none) (u := .non) e m m' rfl h
      | rt v => exact fun u hu => finish_ok e m m' hu h
      | bk => exact h.elim
      | ct => exact h.elim
end
end DN
set_option Elab.async false
set_option linter.all false
set_option maxRecDepth 100000
set_option maxHeartbeats 4000000
namespace DN
open PySem PySem.Spec PyProof.Rows L2
structure Cfg where
  N : List Str
  fn : List (Str × Nat × DF)
  gl : List (Str × PyData)
  mu : List Str
def ix (x : Str) : List Str → Option Nat
  | [] => none
  | y :: r => if y = x then some 0 else (match ix x r with
    | some i => some (i + 1)
    | none => none)
theorem ix_get {x : Str} : ∀ {N : List Str} {i : Nat}, ix x N = some i → N[i]? = some x
  | [], _, h => nomatch h
  | y :: r, i, h => by
    unfold ix at h
    split at h
    · rename_i e
      cases h
      simp [e]
    · split at h
      · rename_i j q
        cases h
        simpa using ix_get q
      · cases h
/-! ### tables -/
def binG : Operator → Option (Val → Val → Mem → Res Val)
  | .Add => some gAdd
  | .Sub => some gSub
  | .Mult => some gMul
  | .FloorDiv => some gFdiv
  | .Mod => some gMod
  | .Pow => some gPow
  | _ => none
def cmpG : CmpOp → Option (Val → Val → Mem → Res Val)
  | .Eq => some (gEq false)
  | .NotEq => some (gEq true)
  | .Lt => some (gOrd .lt)
  | .LtE => some (gOrd .le)
  | .Gt => some (gOrd .gt)
  | .GtE => some (gOrd .ge)
  | .In => some (gIn false)
  | .NotIn => some (gIn true)
  | .Is => some (gIs false)
  | .IsNot => some (gIs true)
inductive BK where
  | fn (id : String)
  | ty (T : String)
def BK.val : BK → Value
  | .fn id => .builtin id
  | .ty T => .type T
def bltTab : List (Str × Nat × BK × DF) := [("len", 1, .fn "len", c1 lenD), ("all", 1, .fn "all", c1 allD), ("any", 1, .fn "any", c1 anyD), ("int", 1, .ty "int", c1 intD), ("str", 1, .ty "str", c1 strD), ("abs", 1, .fn "abs", c1 absD),
  ("max", 1, .fn "max", c1 max1D), ("max", 2, .fn "max", c2 max2D), ("min", 1, .fn "min", c1 min1D), ("min", 2, .fn "min", c2 min2D), ("sum", 1, .fn "sum", c1 sumD), ("list", 1, .ty "list", c1 listD), ("tuple", 1, .ty "tuple", c1 tupleD)]
def bltFind (x : Str) (n : Nat) : List (Str × Nat × BK × DF) → Option (BK × DF)
  | [] => none
  | (y, m, b, g) :: r => if y = x ∧ m = n then some (b, g) else bltFind x n r
theorem bltFind_mem {x : Str} {n : Nat} {b : BK} {g : DF} : ∀ {l : List (Str × Nat × BK × DF)}, bltFind x n l = some (b, g) → (x, n, b, g) ∈ l
  | [], h => nomatch h
  | (y, m, b', g') :: r, h => by
    unfold bltFind at h
    split at h
    · rename_i e
      cases h
      rw [e.1, e.2]
      exact List.mem_cons_self
    · exact List.mem_cons_of_mem _ (bltFind_mem h)
def tyTab : List (Str × String) := [("int", "int"), ("bool", "bool"), ("str", "str"), ("tuple", "tuple"), ("list", "list")]
def blts : List Str := ["len", "all", "any", "int", "str", "abs", "max", "min", "sum", "list", "tuple", "isinstance", "range", "enumerate", "zip", "bool"]
def mthTab (x : Str) : Option (String × (Val → List Val → Mem → Res Val)) := if x = "append" then some ("list", gAppend) else if x = "count" then some ("list", gCount) else none
/-! ### conditions on the text -/
def okName (x : Str) : Bool := !(x == ("__debug__" : Str)) && !(x == ("__classdict__" : Str)) && decide (x ≠ "__name__")
def isStar : Expr → Bool
  | .Starred .. => true
  | _ => false
def isSlice : Expr → Bool
  | .Slice .. => true
  | _ => false
def isSet : Expr → Bool
  | .Set .. => true
  | _ => false
def isTup : Expr → Bool
  | .Tuple .. => true
  | _ => false
def plainT : Expr → Bool
  | .UnaryOp .Not _ _ => false
  | .BoolOp .. => false
  | .IfExp .. => false
  | .Compare .. => false
  | _ => true
def noComp : Expr → Bool
  | .ListComp .. => false
  | .SetComp .. => false
  | .DictComp .. => false
  | _ => true
def plainO : Expr → Bool
  | .Call .. => false
  | _ => true
def isNm : Expr → Option Str
  | .Name x _ => some x
  | _ => none
theorem star_plain {e : Expr} (h : isStar e = false) (es : List Expr) (env : Env) : starEach (e :: es) env = (false, eval e env) :: starEach es env := by
  cases e <;> first | rfl | cases h
theorem plain_ix {b : Expr} (h : isSlice b = false) : PlainIx b := by
  intro o i
  cases b <;> first | rfl | cases h
theorem isTrue_plain' {e : Expr} (h : plainT e = true) (env : Env) (whole : Sem Value) : isTrue e env whole = (do let v ← whole; standAt e.pos; holding [v] (truthy v)) := by
  cases e with
  | UnaryOp op a p => cases op <;> first | rfl | cases h
  | _ => first | rfl | cases h
theorem swaps_plain {e : Expr} (h : noComp e = true) (t : Option Expr) (l : Nat) (env : Env) : swapsWith e t l env = pure false := by
  cases e <;> first | rfl | cases h
theorem base_plain {o : Expr} (h : plainO o = true) (x : Str) (env : Env) : attributeBase o x env (eval o env) = eval o env := by
  cases o <;> first | rfl | cases h
theorem folded_plain {e : Expr} (h : isSet e = false) (env : Env) (x : Value) : foldedSetIterable e env x = pure x := by
  cases e <;> first | rfl | cases h
theorem stars_any {pos : Pos} {env : Env} : ∀ {es : List Expr}, es.all (fun e => !isStar e) = true → (backTo pos (starEach es env)).any (·.1) = false
  | [], _ => rfl
  | e :: es, h => by
    rw [List.all_cons, Bool.and_eq_true] at h
    have h1 : isStar e = false := by simpa using h.1
    rw [star_plain h1]
    have ih := stars_any (pos := pos) (env := env) h.2
    unfold backTo at ih ⊢
    rw [List.map_cons, List.any_cons, ih]
    rfl
theorem assignEach_plain {env : Env} : ∀ {es : List Expr}, es.all (fun e => !isStar e) = true → assignEach es env = es.map fun e => (false, assign e env)
  | [], _ => rfl
  | e :: es, h => by
    rw [List.all_cons, Bool.and_eq_true] at h
    have ih := assignEach_plain (env := env) h.2
    have h1 : isStar e = false := by simpa using h.1
    have : assignEach (e :: es) env = (false, assign e env) :: assignEach es env := by cases e <;> first | rfl | cases h1
    rw [this, ih, List.map_cons]
/-- what a tuple's stores are -/
def swapN (sc : Scope) (ts vs : List Expr) : Option (Option (List Str)) :=
  if !(ts.length == 2 || ts.length == 3) || vs.length != ts.length then some none else
  if vs.any isStar then none else
  let line := (ts.head?.map (·.pos.line)).getD 0
  let names := ts.filterMap fun
    | .Name id pos => if sc.names.lookup id == some .local && pos.line == line then some id else none
    | _ => none
  if names.length != ts.length || names.eraseDups.length != names.length then some none else
  if vs.all (foldedForSure 8) then some none else
  if vs.all (constantsAlone 8) then none else some (some names)
theorem swapN_ok {sc : Scope} {env : Env} {ts vs : List Expr} {k k2 : Nat} {p p2 : Pos} {r : Option (List Str)} (he : env.scope = sc) (hk : sc.kind = .function) (h : swapN sc ts vs = some r) : swappedStores [.Tuple ts k p] (.Tuple vs k2 p2) env = pure r := by
  subst he
  have hb : env.blockKind = .function := by unfold Env.blockKind; rw [hk]; rfl
  unfold swapN at h
  unfold swappedStores
  simp only [hb]
  have e0 : ((ScopeKind.function : ScopeKind) != .function) = false := rfl
  simp only [e0, Bool.or_false]
  split at h
  · rename_i h1
    cases h
    rw [if_pos h1]
  · rename_i h1
    rw [if_neg h1]
    split at h
    · cases h
    · rename_i h2
      refine (if_neg fun z => h2 (Eq.trans rfl z)).trans ?_
      dsimp only at h
      split at h
      · rename_i h3
        cases h
        exact if_pos h3
      · rename_i h3
        split at h
        · rename_i h4
          cases h
          exact (if_neg h3).trans (if_pos h4)
        · rename_i h4
          split at h
          · cases h
          · rename_i h5
            cases h
            refine (if_neg h3).trans ((if_neg h4).trans ?_)
            rw [if_neg h5]
            rfl
/-! ### the meaning of a text -/
def orO {α β γ : Type} (a : Option α) (b : Option β) (f : α → β → γ) : Option γ := match a with
  | some x => (match b with
    | some y => some (f x y)
    | none => none)
  | none => none
def ownOf (N : List Str) (t : Expr) : Option (List (Str × Nat) × Tg) := match t with
  | .Name x _ => (match ix x N with
    | some i => some ([(x, i)], .nm i)
    | none => none)
  | .Tuple es _ _ => (match es.mapM fun e => (match e with
      | .Name x _ => (match ix x N with
        | some i => some (x, i)
        | none => none)
      | _ => none) with
    | some l => some (l, .tp (l.map (·.2)))
    | none => none)
  | _ => none
mutual
def denE (C : Cfg) : Nat → Scope → Expr → Option FE
  | 0, _, _ => none
  | n + 1, sc, e => match e with
    | .Constant c _ _ => (match c with
      | .int i => some (eC (.int i))
      | .str s => some (eC (.str s))
      | .bool b => some (eC (.bool b))
      | .none => some (eC .none)
      | _ => none)
    | .Name x _ => if okName x = true then (match sc.names.lookup x with
        | some .globalImplicit => (match C.gl.lookup x with
          | some d => some (eC d)
          | none => none)
        | some .globalExplicit => none
        | some _ => (match ix x C.N with
          | some i => some (eVar i)
          | none => none)
        | none => none) else none
    | .BinOp a op b _ => (match binG op with
      | some g => orO (denE C n sc a) (denE C n sc b) (eBin g)
      | none => none)
    | .UnaryOp op a _ => (match op with
      | .USub => (denE C n sc a).map (eUn gNeg)
      | .Not => (denE C n sc a).map (eUn gNot)
      | _ => none)
    | .BoolOp op vs _ => denB C n sc op vs
    | .Compare a ops bs _ => (match ops, bs with
      | [op], [b] => if behindInMarks op b = true then none else (match cmpG op with
        | some g => orO (denE C n sc a) (denE C n sc b) (eBin g)
        | none => none)
      | [op, op'], [b, c] => if lastMarks [op, op'] [b, c] = true then none else (match cmpG op with
        | some g => (match cmpG op' with
          | some g' => orO (denE C n sc a) (orO (denE C n sc b) (denE C n sc c) Prod.mk) fun fa p => eChain g g' fa p.1 p.2
          | none => none)
        | none => none)
      | _, _ => none)
    | .IfExp t a b _ => orO (denT C n sc t) (orO (denE C n sc a) (denE C n sc b) Prod.mk) fun t p => eIf t p.1 p.2
    | .Tuple es _ _ => (denL C n sc es).map (eArgs gTup)
    | .List es _ => (denL C n sc es).map (eArgs gLst)
    | .Subscript a b _ => (match b with
      | .Slice lo hi st _ => (match st with
        | none => orO (denE C n sc a) (orO (denO C n sc lo) (denO C n sc hi) Prod.mk) fun fa p => eCut fa p.1 p.2
        | some (.UnaryOp .USub (.Constant (.int 1) _ _) _) => (match lo, hi with
          | none, none => (denE C n sc a).map (eUn (g1 revD))
          | _, _ => none)
        | _ => none)
      | _ => if isSlice b = true then none else orO (denE C n sc a) (denE C n sc b) (eBin gIdx))
    | .Call f args kws pos => (match kws with
      | _ :: _ => none
      | [] => (match f with
        | .Name x _ => if okName x = true then (if sc.names.lookup x = some .globalImplicit then (match C.fn.lookup x with
            | some (k, g) => (denL C n sc args).map (eArgs (gCall k g))
            | none => if x = "isinstance" then (match args with
                | [e, .Name T _] => (match tyTab.lookup T with
                  | some Ts => if okName T = true ∧ sc.names.lookup T = some .globalImplicit then (denE C n sc e).map (eUn (gIsT Ts)) else none
                  | none => none)
                | _ => none)
              else (match args with
                | [] => none
                | a :: as => (match bltFind x (a :: as).length bltTab with
                  | some (_, g) => (denL C n sc (a :: as)).map (eArgs g)
                  | none => none))) else none) else none
        | .Attribute o m apos => (match args with
          | [a] => (match mthTab m with
            | some (T, g) => if plainO o = true ∧ (apos.endLine == pos.line) = true then orO (denE C n sc o) (denE C n sc a) fun fo fa => eMeth T g fo (lCons fa lNil) else none
            | none => none)
          | _ => none)
        | _ => none))
    | .ListComp elt gs scope _ => (match gs with
      | [⟨tg, iter, ifs, 0⟩] => (match ownOf C.N tg with
        | some (own, g) => if blkC C.N sc scope own = true ∧ isSet iter = false ∧ (own.all fun p => decide ((relS scope sc).names.lookup p.1 = some .local)) = true then
            (match denI C n sc (isTup tg) iter with
            | some fi => (match ifs with
              | [] => (denE C n (relS scope sc) elt).map fun f => eComp fi g.data (fun _ μ => .ok true μ) f (own.map (·.2))
              | [c] => orO (denT C n (relS scope sc) c) (denE C n (relS scope sc) elt) fun t f => eComp fi g.data t f (own.map (·.2))
              | _ => none)
            | none => none) else none
        | none => none)
      | _ => none)
    | _ => none
def denL (C : Cfg) : Nat → Scope → List Expr → Option FL
  | 0, _, _ => none
  | _ + 1, _, [] => some lNil
  | n + 1, sc, e :: es => if isStar e = true then none else orO (denE C n sc e) (denL C n sc es) lCons
def denO (C : Cfg) : Nat → Scope → Option Expr → Option FO
  | 0, _, _ => none
  | _ + 1, _, none => some oNone
  | n + 1, sc, some e => (denE C n sc e).map oSome
def denB (C : Cfg) : Nat → Scope → BoolOp → List Expr → Option FE
  | 0, _, _, _ => none
  | _ + 1, _, _, [] => none
  | n + 1, sc, _, [a] => denE C n sc a
  | n + 1, sc, op, a :: b :: r => orO (denE C n sc a) (denB C n sc op (b :: r)) (match op with
    | .And => eAnd
    | .Or => eOr)
def denT (C : Cfg) : Nat → Scope → Expr → Option FT
  | 0, _, _ => none
  | n + 1, sc, e => match e with
    | .UnaryOp .Not a _ => (denT C n sc a).map fNot
    | .BoolOp op vs _ => denTs C n sc op vs
    | .Compare a ops bs _ => (match ops, bs with
      | [op], [b] => if behindInMarks op b = true then none else (match cmpG op with
        | some g => orO (denE C n sc a) (denE C n sc b) fun fa fb => tOf (eBin g fa fb)
        | none => none)
      | [op, op'], [b, c] => if lastMarks [op, op'] [b, c] = true then none else (match cmpG op with
        | some g => (match cmpG op' with
          | some g' => orO (denE C n sc a) (orO (denE C n sc b) (denE C n sc c) Prod.mk) fun fa p => tOf (eChain g g' fa p.1 p.2)
          | none => none)
        | none => none)
      | _, _ => none)
    | e => if plainT e = true then (denE C n sc e).map tOf else none
def denTs (C : Cfg) : Nat → Scope → BoolOp → List Expr → Option FT
  | 0, _, _, _ => none
  | _ + 1, _, _, [] => none
  | n + 1, sc, _, [a] => denT C n sc a
  | n + 1, sc, op, a :: b :: r => orO (denT C n sc a) (denTs C n sc op (b :: r)) (match op with
    | .And => fAnd
    | .Or => fOr)
def denI (C : Cfg) : Nat → Scope → Bool → Expr → Option FI
  | 0, _, _, _ => none
  | n + 1, sc, tup, iter => match iter with
    | .Call (.Name x p) args [] pos => if sc.names.lookup x = some .globalImplicit ∧ x = "range" then (match args with
          | [a] => if isStar a = true then none else (denE C n sc a).map fun fa => iRange (lCons fa lNil)
          | [a, b] => if isStar a = true ∨ isStar b = true then none else orO (denE C n sc a) (denE C n sc b) fun fa fb => iRange (lCons fa (lCons fb lNil))
          | _ => none)
        else if sc.names.lookup x = some .globalImplicit ∧ x = "enumerate" then (if tup = true then (match args with
          | [a] => if isStar a = true then none else (denL C n sc [a]).map iEnum
          | _ => none) else none)
        else if sc.names.lookup x = some .globalImplicit ∧ x = "zip" then (if tup = true then (match args with
          | [a, b] => if isStar a = true ∨ isStar b = true then none else (denL C n sc [a, b]).map iZip
          | _ => none) else none)
        else (denE C n sc (.Call (.Name x p) args [] pos)).map iAny
    | e => (denE C n sc e).map iAny
end
end DN
set_option Elab.async false
set_option linter.all false
set_option maxRecDepth 100000
set_option maxHeartbeats 8000000
namespace DN
open PySem PySem.Spec PyProof.Rows L2
structure CtxOk (C : Cfg) (k : Nat) (X : Cx) : Prop where
  N : X.N = C.N
  nd : C.N.Nodup
  calm : X.calm = true
  room : Room k X.A
  xe : X.xe = fun _ _ => False
  fns : ∀ x n g, C.fn.lookup x = some (n, g) → ∃ f fd ps j, j ≤ k ∧ FnOk X.prog X.w X.K X.mg X.base CX0 j f fd ps (spD X.K n g) ∧ X.mg x = some (.ref f) ∧ PySem.W.keepIn X.K (.ref f) = true ∧ Binds X.K fd ps []
  gls : ∀ x d, C.gl.lookup x = some d → ∃ v u, X.mg x = some u ∧ RelV v u ∧ ∀ Ms H, RepD X.K Ms H d v
  free : ∀ x, x ∈ blts → X.mg x = none
theorem CtxOk.u65 {C : Cfg} {k : Nat} {X : Cx} (h : CtxOk C k X) : X.A.units + 65 < cLine := by have := h.room.un; omega
theorem CtxOk.blk {C : Cfg} {k : Nat} {X : Cx} (h : CtxOk C k X) (s : Shared) (H : Hp) (scope : Scope) (env : Env) (fp : List Addr) : CtxOk C k (X.blk s H scope env fp) :=
  ⟨h.N, h.nd, h.calm, h.room, rfl, h.fns, h.gls, h.free⟩
theorem orO_some {α β γ : Type} {a : Option α} {b : Option β} {f : α → β → γ} {z : γ} (h : orO a b f = some z) : ∃ x y, a = some x ∧ b = some y ∧ z = f x y := by
  unfold orO at h
  cases a with
  | none => cases h
  | some x =>
    cases b with
    | none => cases h
    | some y => cases h; exact ⟨x, y, rfl, rfl, rfl⟩
section
variable {X : Cx} {C : Cfg} {k : Nat}
theorem bin_ok {op : Operator} {g : Val → Val → Mem → Res Val} (h : binG op = some g) : OpR X (binaryOp op) (rV X.K wF g) := by
  cases op <;> first
    | cases h; exact or_add
    | cases h; exact or_sub
    | cases h; exact or_mul
    | cases h; exact or_fdiv
    | cases h; exact or_mod
    | cases h; exact or_pow
    | cases h
theorem cmp_ok (hc : CtxOk C k X) {op : CmpOp} {g : Val → Val → Mem → Res Val} (h : cmpG op = some g) : OpR X (compareOp op) (rV X.K wF g) := by
  have h64 : X.A.units + 64 < cLine := by have := hc.u65; omega
  cases op <;> first
    | (cases h; exact or_eq h64)
    | (cases h; exact or_ne h64)
    | (cases h; exact or_ord h64 .lt)
    | (cases h; exact or_ord h64 .le)
    | (cases h; exact or_ord h64 .gt)
    | (cases h; exact or_ord h64 .ge)
    | (cases h; exact or_in hc.u65)
    | (cases h; exact or_notIn hc.u65)
    | (cases h; exact or_is)
    | (cases h; exact or_isNot)
theorem blt_ok (hc : CtxOk C k X) {x : Str} {n : Nat} {b : BK} {g : DF} (h : bltFind x n bltTab = some (b, g)) : CallR X b.val (cV X.K wF g) ∧ bootBuiltins x = some b.val ∧ x ∈ blts := by
  have hm := bltFind_mem h
  simp only [bltTab, List.mem_cons, List.not_mem_nil, or_false, Prod.mk.injEq] at hm
  rcases hm with ⟨rfl, -, rfl, rfl⟩ | ⟨rfl, -, rfl, rfl⟩ | ⟨rfl, -, rfl, rfl⟩ | ⟨rfl, -, rfl, rfl⟩ | ⟨rfl, -, rfl, rfl⟩ | ⟨rfl, -, rfl, rfl⟩ | ⟨rfl, -, rfl, rfl⟩ | ⟨rfl, -, rfl, rfl⟩ | ⟨rfl, -, rfl, rfl⟩ | ⟨rfl, -, rfl, rfl⟩ | ⟨rfl, -, rfl, rfl⟩ | ⟨rfl, -, rfl, rfl⟩ | ⟨rfl, -, rfl, rfl⟩
  · exact ⟨cr_len, by decide +kernel, by decide +kernel⟩
  · exact ⟨cr_allD hc.calm, by decide +kernel, by decide +kernel⟩
  · exact ⟨cr_anyD hc.calm, by decide +kernel, by decide +kernel⟩
  · exact ⟨cr_int, by decide +kernel, by decide +kernel⟩
  · exact ⟨cr_str, by decide +kernel, by decide +kernel⟩
  · exact ⟨cr_abs, by decide +kernel, by decide +kernel⟩
  · exact ⟨cr_max1 hc.calm, by decide +kernel, by decide +kernel⟩
  · exact ⟨cr_max2 hc.calm, by decide +kernel, by decide +kernel⟩
  · exact ⟨cr_min1 hc.calm, by decide +kernel, by decide +kernel⟩
  · exact ⟨cr_min2 hc.calm, by decide +kernel, by decide +kernel⟩
  · exact ⟨cr_sumD hc.calm, by decide +kernel, by decide +kernel⟩
  · exact ⟨cr_list, by decide +kernel, by decide +kernel⟩
  · exact ⟨cr_tuple, by decide +kernel, by decide +kernel⟩
theorem ty_ok {T : Str} {Ts : String} (h : tyTab.lookup T = some Ts) : tyOk Ts = true ∧ bootBuiltins T = some (.type Ts) ∧ T ∈ blts := by
  unfold tyTab at h
  simp only [List.lookup] at h
  repeat' split at h
  all_goals first
    | (cases h; done)
    | (rename_i e; have e' := eq_of_beq e; subst e'; cases h; exact ⟨by decide +kernel, by decide +kernel, by decide +kernel⟩)
theorem okName_of {x : Str} (h : okName x = true) : (x == ("__debug__" : Str)) = false ∧ (x == ("__classdict__" : Str)) = false ∧ x ≠ "__name__" := by
  unfold okName at h
  simp only [Bool.and_eq_true, Bool.not_eq_true', decide_eq_true_eq] at h
  exact ⟨h.1.1, h.1.2, h.2⟩
theorem ownTuple {N : List Str} : ∀ {es : List Expr} {own : List (Str × Nat)}, (es.mapM fun e => (match e with
      | .Name x _ => (match ix x N with
        | some i => some (x, i)
        | none => none)
      | _ => none)) = some own → es.length = own.length ∧ (∀ (i : Nat) e, es[i]? = some e → ∃ x p j, e = .Name x p ∧ own[i]? = some (x, j) ∧ ix x N = some j)
  | [], own, h => by
    simp at h
    subst h
    exact ⟨rfl, fun i e h => by simp at h⟩
  | e :: es, own, h => by
    rw [List.mapM_cons] at h
    cases e with
    | Name x p =>
      dsimp only at h
      cases q : ix x N with
      | none => simp [q] at h
      | some j =>
        simp only [q] at h
        cases q2 : (es.mapM fun e => (match e with
            | .Name x _ => (match ix x N with
              | some i => some (x, i)
              | none => none)
            | _ => none)) with
        | none => simp [q2] at h
        | some r =>
          simp [q2] at h
          subst h
          obtain ⟨h1, h2⟩ := ownTuple q2
          refine ⟨by simp [h1], fun i e h => ?_⟩
          cases i with
          | zero =>
            simp at h
            subst h
            exact ⟨x, p, j, rfl, by simp, q⟩
          | succ i =>
            obtain ⟨y, p', j', a, b, c⟩ := h2 i e (by simpa using h)
            exact ⟨y, p', j', a, by simpa using b, c⟩
    | _ => simp at h
/-- names as targets in a block -/
theorem pgs_names {Y : Cx} {N : List Str} (hN : Y.N.Nodup) (eN : Y.N = N) : ∀ {es : List Expr} {own : List (Str × Nat)}, (es.length = own.length ∧ (∀ (i : Nat) e, es[i]? = some e → ∃ x p j, e = .Name x p ∧ own[i]? = some (x, j) ∧ ix x N = some j)) →
    (∀ p, p ∈ own → Y.env.scope.names.lookup p.1 = some .local) → PGs Y es (rNs (own.map (·.2)))
  | [], [], _, _ => pgs_nil
  | [], _ :: _, h, _ => by simp at h
  | _ :: _, [], h, _ => by simp at h
  | e :: es, o :: own, h, hl => by
    obtain ⟨x, p, j, e1, e2, e3⟩ := h.2 0 e rfl
    simp at e2
    subst e1 e2
    have h1 := hl (x, j) List.mem_cons_self
    refine pgs_cons (pg_name hN (by rw [eN]; exact ix_get e3) (.inl h1) (.inr h1)) (pgs_names hN eN ⟨by simpa using h.1, fun i e q => ?_⟩ fun p q => hl p (List.mem_cons_of_mem _ q))
    obtain ⟨y, p', j', a, b, c⟩ := h.2 (i + 1) e (by simpa using q)
    exact ⟨y, p', j', a, by simpa using b, c⟩
theorem names_plain {N : List Str} {es : List Expr} {own : List (Str × Nat)} (h : es.length = own.length ∧ (∀ (i : Nat) e, es[i]? = some e → ∃ x p j, e = .Name x p ∧ own[i]? = some (x, j) ∧ ix x N = some j)) : es.all (fun e => !isStar e) = true := by
  rw [List.all_eq_true]
  intro e he
  obtain ⟨i, hi, e1⟩ := List.mem_iff_getElem.mp he
  obtain ⟨x, p, j, e2, _⟩ := h.2 i e (by rw [List.getElem?_eq_getElem hi, e1])
  subst e2
  rfl
theorem find_none {env : Env} {es : List Expr} (h : es.all (fun e => !isStar e) = true) : (assignEach es env).findIdx? (·.1) = none ∧ (assignEach es env).length = es.length := by
  rw [assignEach_plain h]
  refine ⟨?_, by simp⟩
  rw [List.findIdx?_eq_none_iff]
  intro x hx
  obtain ⟨e, _, e1⟩ := List.mem_map.mp hx
  rw [← e1]
theorem own_ok {N : List Str} {tg : Expr} {own : List (Str × Nat)} {g : Tg} (h : ownOf N tg = some (own, g)) : (∀ i, i ∈ g.slots → i ∈ own.map (·.2)) ∧ ∀ (Y : Cx), Y.calm = true → Y.N.Nodup → Y.N = N → (∀ p, p ∈ own → Y.env.scope.names.lookup p.1 = some .local) → PG Y tg (g.raw Y.K) := by
  cases tg with
  | Name x p =>
    simp only [ownOf] at h
    split at h
    · rename_i i hi
      cases h
      refine ⟨fun i h => by simpa [Tg.slots] using h, fun Y hc hN eN hl => ?_⟩
      have h1 := hl (x, i) (List.mem_singleton.mpr rfl)
      exact pg_name hN (by rw [eN]; exact ix_get hi) (.inl h1) (.inr h1)
    · cases h
  | Tuple es k p =>
    simp only [ownOf] at h
    split at h
    · rename_i l hl
      cases h
      have q := ownTuple hl
      refine ⟨fun i h => h, fun Y hc hN eN hl => ?_⟩
      have pl := names_plain q
      obtain ⟨f1, f2⟩ := find_none (env := Y.env) pl
      show PG Y (.Tuple es k p) (L2.gTup Y.K (own.map (·.2)).length (rNs (own.map (·.2))))
      refine pg_tup hc (pgs_names hN eN q hl) ?_ f1
      rw [f2, List.length_map, q.1]
    · cases h
  | _ => cases h
end
end DN
set_option Elab.async false
set_option linter.all false
set_option maxRecDepth 100000
set_option maxHeartbeats 8000000
namespace DN
open PySem PySem.Spec PyProof.Rows L2
theorem denL_stars {C : Cfg} : ∀ {n : Nat} {sc : Scope} {es : List Expr} {f : FL}, denL C n sc es = some f → es.all (fun e => !isStar e) = true
  | 0, _, _, _, h => nomatch h
  | _ + 1, _, [], _, _ => rfl
  | n + 1, sc, e :: es, f, h => by
    simp only [denL] at h
    split at h
    · cases h
    · rename_i hs
      obtain ⟨x, y, h1, h2, _⟩ := orO_some h
      rw [List.all_cons, Bool.and_eq_true]
      exact ⟨by simpa using hs, denL_stars h2⟩
/-- what is shown of the n-th meaning -/
structure Snd (C : Cfg) (n : Nat) : Prop where
  e : ∀ {k X sc e f}, CtxOk C k X → X.env.scope = sc → denE C n sc e = some f → PE X e (tE X.K wF f)
  l : ∀ {k X sc es f}, CtxOk C k X → X.env.scope = sc → denL C n sc es = some f → PA X es (tL X.K wF f)
  o : ∀ {k X sc e f}, CtxOk C k X → X.env.scope = sc → denO C n sc e = some f → PO X e (tO X.K wF f)
  b : ∀ {k X sc op vs pos f}, CtxOk C k X → X.env.scope = sc → denB C n sc op vs = some f → PE X (.BoolOp op vs pos) (tE X.K wF f)
  t : ∀ {k X sc e f}, CtxOk C k X → X.env.scope = sc → denT C n sc e = some f → PT X e (tT X.K wF f)
  ts : ∀ {k X sc op vs pos f}, CtxOk C k X → X.env.scope = sc → denTs C n sc op vs = some f → PW X (.BoolOp op vs pos) (tT X.K wF f)
  i : ∀ {k X sc tup tg e f}, CtxOk C k X → X.env.scope = sc → isTup tg = tup → denI C n sc tup e = some f → PI X tg e (tI X.K wF f)
section
variable {C : Cfg} {n : Nat}
theorem snd_l (S : Snd C n) {k X sc es f} (hc : CtxOk C k X) (he : X.env.scope = sc) (h : denL C (n + 1) sc es = some f) : PA X es (tL X.K wF f) := by
  cases es with
  | nil => cases h; exact dl_nil
  | cons e es =>
    simp only [denL] at h
    split at h
    · cases h
    · rename_i hs
      obtain ⟨x, y, h1, h2, e1⟩ := orO_some h
      subst e1
      exact dl_cons (S.e hc he h1) (S.l hc he h2) (star_plain (by simpa using hs) es X.env)
theorem snd_o (S : Snd C n) {k X sc e f} (hc : CtxOk C k X) (he : X.env.scope = sc) (h : denO C (n + 1) sc e = some f) : PO X e (tO X.K wF f) := by
  cases e with
  | none => cases h; exact do_none
  | some e =>
    simp only [denO] at h
    cases q : denE C n sc e with
    | none => rw [q] at h; cases h
    | some x =>
      rw [q] at h
      cases h
      exact do_some (S.e hc he q)
theorem snd_b (S : Snd C n) {k X sc op vs pos f} (hc : CtxOk C k X) (he : X.env.scope = sc) (h : denB C (n + 1) sc op vs = some f) : PE X (.BoolOp op vs pos) (tE X.K wF f) := by
  match vs, h with
  | [a], h => exact pe_one (S.e hc he h)
  | a :: b :: r, h =>
    simp only [denB] at h
    obtain ⟨x, y, h1, h2, e1⟩ := orO_some h
    subst e1
    cases op with
    | And => exact de_and (S.e hc he h1) (S.b hc he h2)
    | Or => exact de_or (S.e hc he h1) (S.b hc he h2)
theorem snd_ts (S : Snd C n) {k X sc op vs pos f} (hc : CtxOk C k X) (he : X.env.scope = sc) (h : denTs C (n + 1) sc op vs = some f) : PW X (.BoolOp op vs pos) (tT X.K wF f) := by
  match vs, h with
  | [a], h =>
    cases op with
    | And => exact pw_and1 (S.t hc he h)
    | Or => exact pw_or1 (S.t hc he h)
  | a :: b :: r, h =>
    simp only [denTs] at h
    obtain ⟨x, y, h1, h2, e1⟩ := orO_some h
    subst e1
    cases op with
    | And => exact dw_and (S.t hc he h1) (S.ts hc he h2)
    | Or => exact dw_or (S.t hc he h1) (S.ts hc he h2)
theorem snd_t (S : Snd C n) {k X sc e f} (hc : CtxOk C k X) (he : X.env.scope = sc) (h : denT C (n + 1) sc e = some f) : PT X e (tT X.K wF f) := by
  have gen : ∀ {e : Expr}, (if plainT e = true then (denE C n sc e).map tOf else none) = some f → PT X e (tT X.K wF f) := fun {e} h => by
    split at h
    · rename_i hp
      cases q : denE C n sc e with
      | none => rw [q] at h; cases h
      | some x =>
        rw [q] at h
        cases h
        exact dt_val (S.e hc he q) (isTrue_plain' hp X.env)
    · cases h
  cases e with
  | UnaryOp op a pos =>
    cases op with
    | Not =>
      simp only [denT] at h
      cases q : denT C n sc a with
      | none => rw [q] at h; cases h
      | some x =>
        rw [q] at h
        cases h
        exact dt_not (S.t hc he q)
    | _ => exact gen h
  | BoolOp op vs pos =>
    simp only [denT] at h
    exact (S.ts hc he h).pt
  | Compare a ops bs pos =>
    simp only [denT] at h
    split at h
    · rename_i op b
      split at h
      · cases h
      · rename_i hm
        split at h
        · rename_i g hg
          obtain ⟨x, y, h1, h2, e1⟩ := orO_some h
          subst e1
          exact dt_cmp (cmp_ok hc hg) (S.e hc he h1) (S.e hc he h2) (by simpa using hm)
        · cases h
    · rename_i op op' b c
      split at h
      · cases h
      · rename_i hm
        split at h
        · rename_i g hg
          split at h
          · rename_i g' hg'
            obtain ⟨x, y, h1, h2, e1⟩ := orO_some h
            obtain ⟨y1, y2, h3, h4, e2⟩ := orO_some h2
            subst e1 e2
            exact dt_chain (cmp_ok hc hg) (cmp_ok hc hg') (S.e hc he h1) (S.e hc he h3) (S.e hc he h4) (by simpa using hm)
          · cases h
        · cases h
    · cases h
  | _ => exact gen h
theorem snd_i (S : Snd C n) {k X sc tup tg e f} (hc : CtxOk C k X) (he : X.env.scope = sc) (ht : isTup tg = tup) (h : denI C (n + 1) sc tup e = some f) : PI X tg e (tI X.K wF f) := by
  have gen : ∀ {e : Expr}, (denE C n sc e).map iAny = some f → PI X tg e (tI X.K wF f) := fun {e} h => by
    cases q : denE C n sc e with
    | none => rw [q] at h; cases h
    | some x =>
      rw [q] at h
      cases h
      exact di_any (S.e hc he q)
  have tupd : tup = true → ∃ elts kk tpos, tg = .Tuple elts kk tpos := fun z => by
    rw [z] at ht
    cases tg <;> first | exact ⟨_, _, _, rfl⟩ | cases ht
  cases e with
  | Call fn args kws pos =>
    cases fn with
    | Name x p =>
      cases kws with
      | nil =>
        simp only [denI] at h
        split at h
        · rename_i hx
          obtain ⟨hx1, rfl⟩ := hx
          have hg : Gl X "range" := by show X.env.scope.names.lookup _ = _; rw [he]; exact hx1
          have hm := hc.free "range" (by decide +kernel)
          split at h
          · rename_i a
            split at h
            · cases h
            · rename_i hs
              cases q : denE C n sc a with
              | none => rw [q] at h; cases h
              | some x =>
                rw [q] at h
                cases h
                have s1 := star_plain (e := a) (by simpa using hs) [] X.env
                exact di_range1 hg hm (dl_cons (S.e hc he q) dl_nil s1) s1 fun ρ μ vs μ1 h => by
                  simp only [lCons, lNil] at h
                  cases q2 : x ρ μ with
                  | ok a m => rw [q2] at h; simp [Res.bind] at h; rw [← h.1]; rfl
                  | ex a m => rw [q2] at h; simp [Res.bind] at h
                  | no => rw [q2] at h; simp [Res.bind] at h
          · rename_i a b
            split at h
            · cases h
            · rename_i hs
              have hsa : isStar a = false := by
                cases q : isStar a with
                | false => rfl
                | true => exact absurd (.inl q) hs
              have hsb : isStar b = false := by
                cases q : isStar b with
                | false => rfl
                | true => exact absurd (.inr q) hs
              obtain ⟨x, y, h1, h2, e1⟩ := orO_some h
              subst e1
              have s2 := star_plain hsb [] X.env
              have s1 := star_plain hsa [b] X.env
              exact di_range2 hg hm (dl_cons (S.e hc he h1) (dl_cons (S.e hc he h2) dl_nil s2) s1) (by rw [s1, s2]; rfl) s2 fun ρ μ vs μ1 h => by
                simp only [lCons, lNil] at h
                cases q2 : x ρ μ with
                | ok a m =>
                  rw [q2] at h
                  simp only [Res.bind] at h
                  cases q3 : y ρ m with
                  | ok b m2 => rw [q3] at h; simp at h; rw [← h.1]; rfl
                  | ex b m2 => rw [q3] at h; simp at h
                  | no => rw [q3] at h; simp at h
                | ex a m => rw [q2] at h; simp [Res.bind] at h
                | no => rw [q2] at h; simp [Res.bind] at h
          · cases h
        · split at h
          · rename_i hx
            obtain ⟨hx1, rfl⟩ := hx
            have hg : Gl X "enumerate" := by show X.env.scope.names.lookup _ = _; rw [he]; exact hx1
            have hm := hc.free "enumerate" (by decide +kernel)
            split at h
            · rename_i htu
              obtain ⟨elts, kk, tpos, rfl⟩ := tupd htu
              split at h
              · rename_i a
                split at h
                · cases h
                · rename_i hs
                  cases q : denL C n sc [a] with
                  | none => rw [q] at h; cases h
                  | some x =>
                    rw [q] at h
                    cases h
                    exact di_enum hg hm (S.l hc he q) (star_plain (by simpa using hs) [] X.env)
              · cases h
            · cases h
          · split at h
            · rename_i hx
              obtain ⟨hx1, rfl⟩ := hx
              have hg : Gl X "zip" := by show X.env.scope.names.lookup _ = _; rw [he]; exact hx1
              have hm := hc.free "zip" (by decide +kernel)
              split at h
              · rename_i htu
                obtain ⟨elts, kk, tpos, rfl⟩ := tupd htu
                split at h
                · rename_i a b
                  split at h
                  · cases h
                  · rename_i hs
                    have hsa : isStar a = false := by
                      cases q : isStar a with
                      | false => rfl
                      | true => exact absurd (.inl q) hs
                    have hsb : isStar b = false := by
                      cases q : isStar b with
                      | false => rfl
                      | true => exact absurd (.inr q) hs
                    cases q : denL C n sc [a, b] with
                    | none => rw [q] at h; cases h
                    | some x =>
                      rw [q] at h
                      cases h
                      exact di_zip hg hm (S.l hc he q) (star_plain hsa [b] X.env) (stars_any (es := [b]) (by rw [List.all_cons, hsb]; rfl))
                · cases h
              · cases h
            · exact gen h
      | cons _ _ => exact gen h
    | _ => exact gen h
  | _ => exact gen h
end
end DN
set_option Elab.async false
set_option linter.all false
set_option maxRecDepth 100000
set_option maxHeartbeats 8000000
namespace DN
open PySem PySem.Spec PyProof.Rows L2
theorem ps_never_e {X : Cx} {e : Expr} {pos : Pos} : PE X e (fun _ _ _ => False) := ⟨fun _ _ _ _ _ _ h => h.elim⟩
section
variable {C : Cfg} {n : Nat}
theorem lc_any (S : Snd C n) {k X sc elt gs scope pos f} (hc : CtxOk C k X) (he : X.env.scope = sc) (h : denE C (n + 1) sc (.ListComp elt gs scope pos) = some f) :
    ∃ tg iter ifs own g fi t fe, gs = [⟨tg, iter, ifs, 0⟩] ∧ f = eComp fi (Tg.data g) t fe (own.map (·.2)) ∧ PI X tg iter (tI X.K wF fi) ∧ BlkOk X.N X.env.scope scope own ∧
      (∀ (s : Shared) (H : Hp) (C : Addr) (cl : List (Str × Addr)) (fp : List Addr), PG (X.blk s H scope (compEnvC scope cl C X.env) fp) tg (g.raw X.K)) ∧ (∀ i, i ∈ g.slots → i ∈ own.map (·.2)) ∧
      (∀ (s : Shared) (H : Hp) (C : Addr) (cl : List (Str × Addr)) (fp : List Addr), PTs (X.blk s H scope (compEnvC scope cl C X.env) fp) ifs (tT X.K wF t)) ∧
      (∀ (s : Shared) (H : Hp) (C : Addr) (cl : List (Str × Addr)) (fp : List Addr), PE (X.blk s H scope (compEnvC scope cl C X.env) fp) elt (tE X.K wF fe)) ∧ isSet iter = false := by
  simp only [denE] at h
  split at h
  · rename_i tg iter ifs
    split at h
    · rename_i own g hw
      split at h
      · rename_i hb
        obtain ⟨hb1, hb2, hb3⟩ := hb
        obtain ⟨o1, o2⟩ := own_ok hw
        have hl : ∀ p, p ∈ own → (relS scope sc).names.lookup p.1 = some .local := fun p hp => of_decide_eq_true (List.all_eq_true.mp hb3 p hp)
        have blk : ∀ (s : Shared) (H : Hp) (D : Addr) (cl : List (Str × Addr)) (fp : List Addr), CtxOk C k (X.blk s H scope (compEnvC scope cl D X.env) fp) := fun s H D cl fp => hc.blk s H scope _ fp
        have bsc : ∀ (s : Shared) (H : Hp) (D : Addr) (cl : List (Str × Addr)) (fp : List Addr), (X.blk s H scope (compEnvC scope cl D X.env) fp).env.scope = relS scope sc := fun s H D cl fp => by rw [← he]; rfl
        have ok : BlkOk X.N X.env.scope scope own := by rw [hc.N, he]; exact blkOk_by hb1
        have pg : ∀ (s : Shared) (H : Hp) (D : Addr) (cl : List (Str × Addr)) (fp : List Addr), PG (X.blk s H scope (compEnvC scope cl D X.env) fp) tg (g.raw X.K) := fun s H D cl fp =>
          o2 (X.blk s H scope (compEnvC scope cl D X.env) fp) hc.calm (by show X.N.Nodup; rw [hc.N]; exact hc.nd) hc.N fun p hp => by rw [bsc]; exact hl p hp
        split at h
        · rename_i fi hfi
          have pi : PI X tg iter (tI X.K wF fi) := S.i hc he rfl hfi
          split at h
          · cases q : denE C n (relS scope sc) elt with
            | none => rw [q] at h; cases h
            | some x =>
              rw [q] at h
              cases h
              exact ⟨tg, iter, [], own, g, fi, _, x, rfl, rfl, pi, ok, pg, o1, fun s H D cl fp => ⟨fun pins s' σ H' Q I h => by
                obtain ⟨Ms, ρ, μ, hρ, hμ, h⟩ := h
                exact pts_nil.run pins s' σ H' Q I (h.ok .refl hμ rfl)⟩, fun s H D cl fp => S.e (blk s H D cl fp) (bsc s H D cl fp) q, hb2⟩
          · rename_i c
            obtain ⟨x, y, h1, h2, e1⟩ := orO_some h
            exact ⟨tg, iter, [c], own, g, fi, x, y, rfl, e1, pi, ok, pg, o1, fun s H D cl fp => pts_one (S.t (blk s H D cl fp) (bsc s H D cl fp) h1), fun s H D cl fp => S.e (blk s H D cl fp) (bsc s H D cl fp) h2, hb2⟩
          · cases h
        · cases h
      · cases h
    · cases h
  · cases h
theorem call_any (S : Snd C n) {k X sc fn args kws pos f} (hc : CtxOk C k X) (he : X.env.scope = sc) (h : denE C (n + 1) sc (.Call fn args kws pos) = some f) : PE X (.Call fn args kws pos) (tE X.K wF f) := by
  simp only [denE] at h
  split at h
  · cases h
  split at h
  · rename_i x p
    split at h
    · rename_i hx
      obtain ⟨n1, n2, n3⟩ := okName_of hx
      split at h
      · rename_i hgl
        have hg : Gl X x := by show X.env.scope.names.lookup _ = _; rw [he]; exact hgl
        split at h
        · rename_i m g hfn
          cases q : denL C n sc args with
          | none => rw [q] at h; cases h
          | some fl =>
            rw [q] at h
            cases h
            obtain ⟨fa, fd, ps, j, hj, F, hm, hk, hb⟩ := hc.fns x m g hfn
            have st := denL_stars q
            have pa := S.l hc he q
            cases args with
            | nil =>
              have e0 : fl = lNil := by
                cases n with
                | zero => cases q
                | succ n => cases q; rfl
              subst e0
              have F0 : ∃ z, z = m := ⟨m, rfl⟩
              by_cases hm0 : m = 0
              · subst hm0
                exact de_call0 F hc.room hj hg hm hk hb n1
              · refine (ps_never_e (pos := pos)).weak fun σ H Q ⟨Ms, ρ, μ, hρ, hμ, h⟩ => ?_
                unfold eArgs lNil gCall at h
                dsimp only [Res.bind] at h
                rw [if_neg (fun z => hm0 z.symm)] at h
                exact h.elim
            | cons a as =>
              rw [List.all_cons, Bool.and_eq_true] at st
              exact de_call F hc.room hj hg hm hk hb pa n1 (star_plain (by simpa using st.1) as X.env) (stars_any st.2)
        · split at h
          · rename_i hxi
            subst hxi
            split at h
            · rename_i e T p2
              split at h
              · rename_i Ts hT
                split at h
                · rename_i hok
                  obtain ⟨t1, t2⟩ := hok
                  obtain ⟨m1, m2, m3⟩ := okName_of t1
                  obtain ⟨k1, k2, k3⟩ := ty_ok hT
                  cases q : denE C n sc e with
                  | none => rw [q] at h; cases h
                  | some x =>
                    rw [q] at h
                    cases h
                    have hs : isStar e = false := by
                      cases n with
                      | zero => cases q
                      | succ n => cases e <;> first | rfl | (simp only [denE] at q; cases q)
                    exact de_isi hg (hc.free _ (by decide +kernel)) (by show X.env.scope.names.lookup _ = _; rw [he]; exact t2) (hc.free _ k3) k2 k1 m3 m1 (S.e hc he q) (star_plain hs _ X.env)
                · cases h
              · cases h
            · cases h
          · split at h
            · cases h
            · rename_i a as
              split at h
              · rename_i b g hb
                cases q : denL C n sc (a :: as) with
                | none => rw [q] at h; cases h
                | some fl =>
                  rw [q] at h
                  cases h
                  obtain ⟨c1, c2, c3⟩ := blt_ok hc hb
                  have st := denL_stars q
                  have pa := S.l hc he q
                  rw [List.all_cons, Bool.and_eq_true] at st
                  have s1 := star_plain (e := a) (by simpa using st.1) as X.env
                  have s2 := stars_any (pos := pos) (env := X.env) st.2
                  cases b with
                  | fn id => exact ca_weak (r := fun _ _ _ => True) (pe_callB c1 hg (hc.free _ c3) c2 pa n3 n1 s1 s2)
                  | ty T => exact ca_weak (r := fun _ _ _ => True) (pe_callTy c1 hg (hc.free _ c3) c2 pa n3 n1 s1 s2)
              · cases h
      · cases h
    · cases h
  · rename_i o m apos
    split at h
    · rename_i a
      split at h
      · rename_i T g hT
        split at h
        · rename_i hp
          obtain ⟨p1, p2⟩ := hp
          obtain ⟨x, y, h1, h2, e1⟩ := orO_some h
          subst e1
          have hs : isStar a = false := by
            cases n with
            | zero => cases h2
            | succ n => cases a <;> first | rfl | (simp only [denE] at h2; cases h2)
          have s1 := star_plain hs [] X.env
          have pa : PA X [a] (tL X.K wF (lCons y lNil)) := dl_cons (S.e hc he h2) dl_nil s1
          have few : ((backTo pos (starEach [a] X.env)).all (fun x => !x.1) && (backToKw pos (keywordEach [] X.env)).all (fun x => x.1.isSome)
              && decide ([a].length + ([] : List Keyword).length + (if ([] : List Keyword).isEmpty then 0 else 1) < 30)) = true := by
            rw [s1]
            rfl
          unfold mthTab at hT
          split at hT
          · rename_i hm
            subst hm
            cases hT
            exact de_meth PySem.F.plainAttrs_list PySem.F.slot_list_append PySem.F.type_list_append mr_append (S.e hc he h1) pa (base_plain p1 _ X.env) few p2 s1 (by rfl)
          · split at hT
            · rename_i hm
              subst hm
              cases hT
              exact de_meth PySem.F.plainAttrs_list PySem.F.slot_list_count PySem.F.type_list_count mr_count (S.e hc he h1) pa (base_plain p1 _ X.env) few p2 s1 (by rfl)
            · cases hT
        · cases h
      · cases h
    · cases h
  · cases h
theorem snd_e (S : Snd C n) {k X sc e f} (hc : CtxOk C k X) (he : X.env.scope = sc) (h : denE C (n + 1) sc e = some f) : PE X e (tE X.K wF f) := by
  cases e with
  | Constant c j pos =>
    cases c <;> first
      | (simp only [denE] at h; cases h; exact de_int)
      | (simp only [denE] at h; cases h; exact de_str)
      | (simp only [denE] at h; cases h; exact de_bl)
      | (simp only [denE] at h; cases h; exact de_non)
      | (simp only [denE] at h; cases h)
  | Name x pos =>
    simp only [denE] at h
    split at h
    · rename_i hx
      obtain ⟨n1, n2, n3⟩ := okName_of hx
      split at h
      · rename_i hk
        split at h
        · rename_i d hd
          cases h
          obtain ⟨v, u, hm, r, rep⟩ := hc.gls x d hd
          exact (pe_glob (by show X.env.scope.names.lookup _ = _; rw [he]; exact hk) hm r n1).weak fun σ H Q ⟨Ms, ρ, μ, hρ, hμ, h⟩ => h.ok .refl hμ (rep Ms H)
        · cases h
      · cases h
      · rename_i kd h1 h2 h3
        split at h
        · rename_i i hi
          cases h
          refine de_var (by rw [hc.N]; exact ix_get hi) ?_ n1 n2
          rw [← he] at h3
          cases kd with
          | «local» => exact .inl h3
          | cell => exact .inr (.inl h3)
          | free => exact .inr (.inr h3)
          | globalImplicit => exact absurd rfl h1
          | globalExplicit => exact absurd rfl h2
        · cases h
      · cases h
    · cases h
  | BinOp a op b pos =>
    simp only [denE] at h
    split at h
    · rename_i g hg
      obtain ⟨x, y, h1, h2, e1⟩ := orO_some h
      subst e1
      exact de_bin (bin_ok hg) (S.e hc he h1) (S.e hc he h2)
    · cases h
  | UnaryOp op a pos =>
    simp only [denE] at h
    split at h
    · cases q : denE C n sc a with
      | none => rw [q] at h; cases h
      | some x =>
        rw [q] at h
        cases h
        exact de_un or_neg (S.e hc he q)
    · cases q : denE C n sc a with
      | none => rw [q] at h; cases h
      | some x =>
        rw [q] at h
        cases h
        exact de_not (S.e hc he q)
    · cases h
  | BoolOp op vs pos =>
    simp only [denE] at h
    exact S.b hc he h
  | Compare a ops bs pos =>
    simp only [denE] at h
    split at h
    · rename_i op b
      split at h
      · cases h
      · rename_i hm
        split at h
        · rename_i g hg
          obtain ⟨x, y, h1, h2, e1⟩ := orO_some h
          subst e1
          exact de_cmp (cmp_ok hc hg) (S.e hc he h1) (S.e hc he h2) (by simpa using hm)
        · cases h
    · rename_i op op' b c
      split at h
      · cases h
      · rename_i hm
        split at h
        · rename_i g hg
          split at h
          · rename_i g' hg'
            obtain ⟨x, y, h1, h2, e1⟩ := orO_some h
            obtain ⟨y1, y2, h3, h4, e2⟩ := orO_some h2
            subst e1 e2
            exact de_chain (cmp_ok hc hg) (cmp_ok hc hg') (S.e hc he h1) (S.e hc he h3) (S.e hc he h4) (by simpa using hm)
          · cases h
        · cases h
    · cases h
  | IfExp t a b pos =>
    simp only [denE] at h
    obtain ⟨x, y, h1, h2, e1⟩ := orO_some h
    obtain ⟨y1, y2, h3, h4, e2⟩ := orO_some h2
    subst e1 e2
    exact de_if (S.t hc he h1) (S.e hc he h3) (S.e hc he h4)
  | Tuple es j pos =>
    simp only [denE] at h
    cases q : denL C n sc es with
    | none => rw [q] at h; cases h
    | some x =>
      rw [q] at h
      cases h
      exact de_tup (S.l hc he q)
  | List es pos =>
    simp only [denE] at h
    cases q : denL C n sc es with
    | none => rw [q] at h; cases h
    | some x =>
      rw [q] at h
      cases h
      exact de_lst (S.l hc he q)
  | Subscript a b pos =>
    have gen : ∀ {b : Expr}, (if isSlice b = true then none else orO (denE C n sc a) (denE C n sc b) (eBin gIdx)) = some f → PE X (.Subscript a b pos) (tE X.K wF f) := fun {b} h => by
      split at h
      · cases h
      · rename_i hs
        obtain ⟨x, y, h1, h2, e1⟩ := orO_some h
        subst e1
        exact de_idx (S.e hc he h1) (S.e hc he h2) (plain_ix (by simpa using hs))
    cases b with
    | Slice lo hi st p2 =>
      simp only [denE] at h
      split at h
      · obtain ⟨x, y, h1, h2, e1⟩ := orO_some h
        obtain ⟨y1, y2, h3, h4, e2⟩ := orO_some h2
        subst e1 e2
        exact de_cut (S.e hc he h1) (S.o hc he h3) (S.o hc he h4)
      · split at h
        · cases q : denE C n sc a with
          | none => rw [q] at h; cases h
          | some x =>
            rw [q] at h
            cases h
            exact de_rev (S.e hc he q)
        · cases h
      · cases h
    | _ => exact gen h
  | Call fn args kws pos => exact call_any S hc he h
  | ListComp elt gs scope pos =>
    obtain ⟨tg, iter, ifs, own, g, fi, t, fe, rfl, rfl, h1, h2, h3, h4, h5, h6, h7⟩ := lc_any S hc he h
    exact de_lc hc.calm (by rw [hc.N]; exact hc.nd) h1 h2 h3 h4 h5 h6 (folded_plain h7 X.env)
  | _ => simp only [denE] at h <;> cases h
end
theorem snd (C : Cfg) : ∀ n, Snd C n
  | 0 => ⟨fun _ _ h => (nomatch h), fun _ _ h => (nomatch h), fun _ _ h => (nomatch h), fun _ _ h => (nomatch h), fun _ _ h => (nomatch h), fun _ _ h => (nomatch h), fun _ _ _ h => (nomatch h)⟩
  | n + 1 => ⟨snd_e (snd C n), snd_l (snd C n), snd_o (snd C n), snd_b (snd C n), snd_t (snd C n), snd_ts (snd C n), snd_i (snd C n)⟩
end DN
set_option Elab.async false
set_option linter.all false
set_option maxRecDepth 100000
set_option maxHeartbeats 8000000
namespace DN
open PySem PySem.Spec PyProof.Rows L2
/-! ### statements -/
def isLoc (sc : Scope) (x : Str) : Bool := match sc.names.lookup x with
  | some .local => true
  | some .cell => true
  | _ => false
mutual
def denG (C : Cfg) : Nat → Scope → Expr → Option FG
  | 0, _, _ => none
  | n + 1, sc, t => match t with
    | .Name x _ => if isLoc sc x = true then (ix x C.N).map gNm else none
    | .Tuple es _ _ => if es.all (fun e => !isStar e) = true then (denGs C n sc es).map (gTp es.length) else none
    | _ => none
def denGs (C : Cfg) : Nat → Scope → List Expr → Option (List PyData → Rho → Option Rho)
  | 0, _, _ => none
  | _ + 1, _, [] => some gNl
  | n + 1, sc, e :: es => orO (denG C n sc e) (denGs C n sc es) gCn
end
/-- the value given to a name: a list's display given to a name of C.mu is a cell -/
def denV (C : Cfg) (n : Nat) (sc : Scope) (x : Str) (e : Expr) : Option FE := match e with
  | .List es _ => if x ∈ C.mu then (denL C n sc es).map (eArgs gLstC) else denE C (n + 1) sc e
  | e => denE C (n + 1) sc e
def denVs (C : Cfg) (n : Nat) (sc : Scope) : List Str → List Expr → Option FL
  | [], [] => some lNil
  | x :: xs, e :: es => if isStar e = true then none else orO (denV C n sc x e) (denVs C n sc xs es) lCons
  | _, _ => none
def nmOf : Expr → Option Str
  | .Name x _ => some x
  | _ => none
def swapB (sc : Scope) (x : Str) (px : Pos) (e : Expr) (scope : Scope) : Bool :=
  decide (sc.names.lookup x = some .local) && px.line == e.pos.line && !(scope.names.any fun (n, k) => n == x && (k == .local || k == .cell))
def ixConst : Expr → Bool
  | .Constant .. => true
  | .UnaryOp .. => true
  | .Name .. => true
  | _ => false
mutual
def denS (C : Cfg) : Nat → Scope → Stmt → Option FS
  | 0, _, _ => none
  | n + 1, sc, st => match st with
    | .Return v _ => (match v with
      | some (.List es p) => if ("return" : Str) ∈ C.mu then (denL C n sc es).map fun fl => sRet (eArgs gLstC fl) else (denE C n sc (.List es p)).map sRet
      | some e => (denE C n sc e).map sRet
      | none => some sRetN)
    | .Pass _ => some sPass
    | .Break _ => some sBreak
    | .Continue _ => some sCont
    | .Raise _ _ _ => some sNo
    | .Expr e _ => if noComp e = true then (denE C n sc e).map sExpr else none
    | .If t a b _ => orO (denT C n sc t) (orO (denSs C n sc a) (denSs C n sc b) Prod.mk) fun t p => sIf t p.1 p.2
    | .While t b el _ => (match el with
      | [] => orO (denT C n sc t) (denSs C n sc b) sWhile
      | _ => none)
    | .For tg it b el _ => (match el with
      | [] => if isSet it = false then orO (denI C n sc (isTup tg) it) (orO (denG C n sc tg) (denSs C n sc b) Prod.mk) fun fi p => sFor fi p.1 p.2 else none
      | _ => none)
    | .Assign ts e _ => (match ts with
      | [.Name x px] => if isLoc sc x = true then (match ix x C.N with
          | some i => (match e with
            | .ListComp elt gs scope pos => if swapB sc x px (.ListComp elt gs scope pos) scope = true then (denE C n sc e).map fun f => sAsg f (gNm i) else none
            | e => if noComp e = true then (denV C n sc x e).map fun f => sAsg f (gNm i) else none)
          | none => none) else none
      | [.Subscript o i _] => if ixConst i = true ∧ noComp e = true then orO (denE C n sc e) (orO (denE C n sc o) (denE C n sc i) Prod.mk) fun fe p => sSet fe p.1 p.2 else none
      | [.Tuple ts k p] => if ts.all (fun e => !isStar e) = true ∧ noComp e = true then (match e with
          | .Tuple vs k2 p2 => (match swapN sc ts vs with
            | some (some names) => (match ts, vs with
              | [.Name x _, .Name y _], [a, b] => if names = [x, y] ∧ x ≠ y ∧ sc.names.lookup x = some .local ∧ sc.names.lookup y = some .local then orO (orO (ix x C.N) (ix y C.N) Prod.mk) (denVs C n sc [x, y] [a, b]) fun ij fl => sPar2 ij.1 ij.2 fl else none
              | [.Name x _, .Name y _, .Name z _], [a, b, c] => if names = [x, y, z] ∧ x ≠ y ∧ x ≠ z ∧ y ≠ z ∧ sc.names.lookup x = some .local ∧ sc.names.lookup y = some .local ∧ sc.names.lookup z = some .local then
                  orO (orO (ix x C.N) (orO (ix y C.N) (ix z C.N) Prod.mk) Prod.mk) (denVs C n sc [x, y, z] [a, b, c]) fun ij fl => sPar3 ij.1 ij.2.1 ij.2.2 fl else none
              | _, _ => none)
            | some none => orO (denE C n sc (.Tuple vs k2 p2)) (denG C n sc (.Tuple ts k p)) sAsg
            | none => none)
          | e => if isTup e = true then none else orO (denE C n sc e) (denG C n sc (.Tuple ts k p)) sAsg) else none
      | _ => none)
    | _ => none
def denSs (C : Cfg) : Nat → Scope → List Stmt → Option FS
  | 0, _, _ => none
  | _ + 1, _, [] => some sPass
  | n + 1, sc, s :: r => orO (denS C n sc s) (denSs C n sc r) sSeq
end
structure StOk (C : Cfg) (k : Nat) (X : Cx) : Prop extends CtxOk C k X where
  fn : ∀ x, X.fn x = true
  kind : X.env.scope.kind = .function
theorem StOk.pass {C : Cfg} {k : Nat} {X : Cx} (h : StOk C k X) : PassesOwn (model X.prog X.w) X.A X.env X.xe := by
  rw [h.xe]
  exact PassesOwn.never
theorem isLoc_ok {sc : Scope} {x : Str} {env : Env} (he : env.scope = sc) (h : isLoc sc x = true) : Loc env.scope x := by
  subst he
  unfold isLoc at h
  split at h
  · rename_i q; exact .inl q
  · rename_i q; exact .inr q
  · cases h
structure SndG (C : Cfg) (n : Nat) : Prop where
  g : ∀ {k X sc t g}, StOk C k X → X.env.scope = sc → denG C n sc t = some g → PG X t (tG X.K g)
  gs : ∀ {k X sc ts g}, StOk C k X → X.env.scope = sc → ts.all (fun e => !isStar e) = true → denGs C n sc ts = some g → PGs X ts (tGs X.K g)
theorem sole_plain {e : Expr} (h : noComp e = true) (t : Expr) (l : Nat) (env : Env) : swapsWithSole [t] e l env = pure false := swaps_plain h (some t) l env
theorem assign_cons {env : Env} {e : Expr} {es : List Expr} (h : isStar e = false) : (assignEach (e :: es) env).map (·.2) = assign e env :: (assignEach es env).map (·.2) := by
  cases e <;> first | rfl | cases h
theorem sndG (C : Cfg) : ∀ n, SndG C n
  | 0 => ⟨fun _ _ h => (nomatch h), fun _ _ _ h => (nomatch h)⟩
  | n + 1 => by
    have S := sndG C n
    refine ⟨fun {k X sc t g} hc he h => ?_, fun {k X sc ts g} hc he hs h => ?_⟩
    · cases t with
      | Name x p =>
        simp only [denG] at h
        split at h
        · rename_i hl
          cases q : ix x C.N with
          | none => rw [q] at h; cases h
          | some i =>
            rw [q] at h
            cases h
            exact dg_name (by rw [hc.N]; exact hc.nd) (by rw [hc.N]; exact ix_get q) (isLoc_ok he hl) (.inl (hc.fn x))
        · cases h
      | Tuple es j p =>
        simp only [denG] at h
        split at h
        · rename_i hs
          cases q : denGs C n sc es with
          | none => rw [q] at h; cases h
          | some r =>
            rw [q] at h
            cases h
            obtain ⟨f1, f2⟩ := find_none (env := X.env) hs
            exact dg_tup hc.calm (S.gs hc he hs q) f2 f1
        · cases h
      | _ => simp only [denG] at h <;> cases h
    · cases ts with
      | nil => cases h; exact dgs_nil
      | cons e es =>
        simp only [denGs] at h
        obtain ⟨x, y, h1, h2, e1⟩ := orO_some h
        subst e1
        rw [List.all_cons, Bool.and_eq_true] at hs
        exact dgs_cons (S.g hc he h1) (S.gs hc he hs.2 h2) (assign_cons (by simpa using hs.1))
section
variable {C : Cfg} {n : Nat}
theorem snd_v {k X sc x e f} (hc : CtxOk C k X) (he : X.env.scope = sc) (h : denV C n sc x e = some f) : PE X e (tE X.K wF f) := by
  have gen : ∀ {e : Expr}, denE C (n + 1) sc e = some f → PE X e (tE X.K wF f) := fun q => (snd C (n + 1)).e hc he q
  cases e with
  | List es p =>
    simp only [denV] at h
    split at h
    · cases q : denL C n sc es with
      | none => rw [q] at h; cases h
      | some fl =>
        rw [q] at h
        cases h
        exact de_lstC ((snd C n).l hc he q)
    · exact gen h
  | _ => exact gen h
theorem snd_vs {k X sc} (hc : CtxOk C k X) (he : X.env.scope = sc) : ∀ {xs : List Str} {es : List Expr} {fl : FL}, denVs C n sc xs es = some fl → PA X es (tL X.K wF fl)
  | [], [], _, h => by cases h; exact dl_nil
  | [], _ :: _, _, h => nomatch h
  | _ :: _, [], _, h => nomatch h
  | x :: xs, e :: es, fl, h => by
    simp only [denVs] at h
    split at h
    · cases h
    · rename_i hs
      obtain ⟨a, b, h1, h2, e1⟩ := orO_some h
      subst e1
      exact dl_cons (snd_v hc he h1) (snd_vs hc he h2) (star_plain (by simpa using hs) es X.env)
theorem ix_ne {N : List Str} {x y : Str} {i j : Nat} (h1 : ix x N = some i) (h2 : ix y N = some j) (n : x ≠ y) : i ≠ j := fun e => by
  subst e
  have a := ix_get h1
  have b := ix_get h2
  rw [a] at b
  exact n (Option.some.inj b)
theorem swap_comp {sc : Scope} {x : Str} {px : Pos} {elt : Expr} {gs : List Comprehension} {scope : Scope} {pos : Pos} {env : Env} {l : Nat} (he : env.scope = sc) (hk : env.scope.kind = .function) (h : swapB sc x px (.ListComp elt gs scope pos) scope = true) :
    swapsWith (.ListComp elt gs scope pos) (some (.Name x px)) l env = pure true ∧ env.scope.names.lookup x = some .local := by
  unfold swapB at h
  simp only [Bool.and_eq_true, decide_eq_true_eq, Bool.not_eq_true'] at h
  obtain ⟨⟨h1, h2⟩, h3⟩ := h
  rw [← he] at h1
  exact ⟨sw_true hk h1 h2 h3, h1⟩
structure SndS (C : Cfg) (n : Nat) : Prop where
  s : ∀ {k X sc st f}, StOk C k X → X.env.scope = sc → denS C n sc st = some f → PS X st (tS X.K wF f)
  ss : ∀ {k X sc sts f}, StOk C k X → X.env.scope = sc → denSs C n sc sts = some f → PSs X sts (tS X.K wF f)
theorem sub_ha {o i : Expr} {pos : Pos} {env : Env} (h : ixConst i = true) : ∀ v, assign (.Subscript o i pos) env v = (do
      let ov ← holding [v] (eval o env)
      let iv ← holding [v, ov] (eval i env)
      standAt pos
      holding [v, ov, iv] (setItem ov iv v)
      release [v, ov, iv] []) := by
  intro v
  cases i <;> first | rfl | cases h
theorem asg_any {k X sc ts e spos f} (hc : StOk C k X) (he : X.env.scope = sc) (h : denS C (n + 1) sc (.Assign ts e spos) = some f) : PS X (.Assign ts e spos) (tS X.K wF f) := by
  have hN : X.N.Nodup := by rw [hc.N]; exact hc.nd
  simp only [denS] at h
  split at h
  · rename_i x px
    split at h
    · rename_i hl
      split at h
      · rename_i i hi
        have hi' : X.N[i]? = some x := by rw [hc.N]; exact ix_get hi
        split at h
        · rename_i elt gs scope pos
          split at h
          · rename_i hsw
            cases n with
            | zero => cases h
            | succ n =>
              cases q : denE C (n + 1) sc (.ListComp elt gs scope pos) with
              | none => rw [q] at h; cases h
              | some x =>
                rw [q] at h
                cases h
                obtain ⟨tg, iter, ifs, own, g, fi, t, fe, rfl, rfl, h1, h2, h3, h4, h5, h6, h7⟩ := lc_any (snd C n) hc.toCtxOk he q
                obtain ⟨w1, w2⟩ := swap_comp he hc.kind hsw
                exact ds_setLc hc.calm hN hi' w2 w1 h1 h2 h3 h4 h5 h6 (folded_plain h7 X.env)
          · cases h
        · split at h
          · rename_i hnc
            cases q : denV C n sc x e with
            | none => rw [q] at h; cases h
            | some x =>
              rw [q] at h
              cases h
              exact ds_set hN hi' (isLoc_ok he hl) (snd_v hc.toCtxOk he q) (swaps_plain hnc _ _ _) (.inl (hc.fn _))
          · cases h
      · cases h
    · cases h
  · rename_i o i p
    split at h
    · rename_i hh
      obtain ⟨h1, h2⟩ := hh
      obtain ⟨x, y, g1, g2, e1⟩ := orO_some h
      obtain ⟨y1, y2, g3, g4, e2⟩ := orO_some g2
      subst e1 e2
      exact ds_setI ((snd C n).e hc.toCtxOk he g1) ((snd C n).e hc.toCtxOk he g3) ((snd C n).e hc.toCtxOk he g4) (sole_plain h2 _ _ _) (by rfl) (by rfl) (sub_ha h1)
    · cases h
  · rename_i ts j p
    split at h
    · rename_i hh
      obtain ⟨hs, hnc⟩ := hh
      have tup : ∀ {e : Expr}, noComp e = true → swappedStores [.Tuple ts j p] e X.env = pure none → orO (denE C n sc e) (denG C n sc (.Tuple ts j p)) sAsg = some f → PS X (.Assign [.Tuple ts j p] e spos) (tS X.K wF f) := fun {e} nc hw h => by
        obtain ⟨x, y, g1, g2, e1⟩ := orO_some h
        subst e1
        exact ds_asg ((snd C n).e hc.toCtxOk he g1) ((sndG C n).g hc he g2) (sole_plain nc _ _ _) hw (by rfl)
      split at h
      · rename_i vs k2 p2
        split at h
        · rename_i names hsw
          have hw := swapN_ok (k := j) (k2 := k2) (p := p) (p2 := p2) he (by rw [← he]; exact hc.kind) hsw
          split at h
          · rename_i x px y py a b
            split at h
            · rename_i hh
              obtain ⟨e1, n1, l1, l2⟩ := hh
              subst e1
              obtain ⟨ij, fl, g1, g2, e2⟩ := orO_some h
              obtain ⟨i1, j1, g3, g4, e3⟩ := orO_some g1
              subst e2 e3
              exact ds_par2 hc.calm hN (by rw [hc.N]; exact ix_get g3) (by rw [hc.N]; exact ix_get g4) (ix_ne g3 g4 n1) (by rw [he]; exact l1) (by rw [he]; exact l2) (snd_vs hc.toCtxOk he g2) hw
            · cases h
          · rename_i x px y py z pz a b c
            split at h
            · rename_i hh
              obtain ⟨e1, n1, n2, n3, l1, l2, l3⟩ := hh
              subst e1
              obtain ⟨ij, fl, g1, g2, e2⟩ := orO_some h
              obtain ⟨i1, j1, g3, g4, e3⟩ := orO_some g1
              obtain ⟨i2, j2, g5, g6, e4⟩ := orO_some g4
              subst e2 e3 e4
              exact ds_par3 hc.calm hN (by rw [hc.N]; exact ix_get g3) (by rw [hc.N]; exact ix_get g5) (by rw [hc.N]; exact ix_get g6) (ix_ne g3 g5 n1) (ix_ne g3 g6 n2) (ix_ne g5 g6 n3) (by rw [he]; exact l1) (by rw [he]; exact l2) (by rw [he]; exact l3) (snd_vs hc.toCtxOk he g2) hw
            · cases h
          · cases h
        · rename_i hsw
          have hw := swapN_ok (k := j) (k2 := k2) (p := p) (p2 := p2) he (by rw [← he]; exact hc.kind) hsw
          exact tup hnc hw h
        · cases h
      · split at h
        · cases h
        · rename_i hnt
          refine tup hnc ?_ h
          cases e <;> first | rfl | exact absurd rfl hnt
    · cases h
  · cases h
theorem sndS (C : Cfg) : ∀ n, SndS C n
  | 0 => ⟨fun _ _ h => (nomatch h), fun _ _ h => (nomatch h)⟩
  | n + 1 => by
    have S := sndS C n
    refine ⟨fun {k X sc st f} hc he h => ?_, fun {k X sc sts f} hc he h => ?_⟩
    · have hE : ∀ {e g}, denE C n sc e = some g → PE X e (tE X.K wF g) := fun q => (snd C n).e hc.toCtxOk he q
      cases st with
      | Return v p =>
        simp only [denS] at h
        split at h
        · rename_i es p'
          split at h
          · cases q : denL C n sc es with
            | none => rw [q] at h; cases h
            | some fl =>
              rw [q] at h
              cases h
              exact ds_ret (de_lstC ((snd C n).l hc.toCtxOk he q))
          · cases q : denE C n sc (.List es p') with
            | none => rw [q] at h; cases h
            | some x =>
              rw [q] at h
              cases h
              exact ds_ret (hE q)
        · rename_i e _
          cases q : denE C n sc e with
          | none => rw [q] at h; cases h
          | some x =>
            rw [q] at h
            cases h
            exact ds_ret (hE q)
        · cases h
          exact ds_retN
      | Pass p => cases h; exact ds_pass
      | Break p => cases h; exact ds_break
      | Continue p => cases h; exact ds_cont
      | Raise a b p => cases h; exact ds_no
      | Expr e p =>
        simp only [denS] at h
        split at h
        · rename_i hnc
          cases q : denE C n sc e with
          | none => rw [q] at h; cases h
          | some x =>
            rw [q] at h
            cases h
            exact ds_expr (hE q) (swaps_plain hnc _ _ _)
        · cases h
      | If t a b p =>
        simp only [denS] at h
        obtain ⟨x, y, h1, h2, e1⟩ := orO_some h
        obtain ⟨y1, y2, h3, h4, e2⟩ := orO_some h2
        subst e1 e2
        exact ds_if ((snd C n).t hc.toCtxOk he h1) (S.ss hc he h3) (S.ss hc he h4)
      | While t b el p =>
        simp only [denS] at h
        split at h
        · obtain ⟨x, y, h1, h2, e1⟩ := orO_some h
          subst e1
          exact ds_while hc.pass ((snd C n).t hc.toCtxOk he h1) (S.ss hc he h2)
        · cases h
      | For tg it b el p =>
        simp only [denS] at h
        split at h
        · split at h
          · rename_i hs
            obtain ⟨x, y, h1, h2, e1⟩ := orO_some h
            obtain ⟨y1, y2, h3, h4, e2⟩ := orO_some h2
            subst e1 e2
            exact ds_for hc.pass hc.calm ((snd C n).i hc.toCtxOk he rfl h1) ((sndG C n).g hc he h3) (S.ss hc he h4) (folded_plain hs X.env)
          · cases h
        · cases h
      | Assign ts e p => exact asg_any hc he h
      | _ => simp only [denS] at h <;> cases h
    · cases sts with
      | nil => cases h; exact dss_nil
      | cons st sts =>
        simp only [denSs] at h
        obtain ⟨x, y, h1, h2, e1⟩ := orO_some h
        subst e1
        exact dss_cons (S.s hc he h1) (S.ss hc he h2)
end
end DN
set_option Elab.async false
set_option linter.all false
set_option maxRecDepth 100000
set_option maxHeartbeats 8000000
namespace DN
open PySem PySem.Spec PyProof.Rows L2
abbrev FnP (K : PySem.W.Frag) (x : Str) (st : Stmt) (f : Addr) (fd : FuncData) : Prop := FunD K x x (defArgs st) (defBody st) (defScope st) [] [] f fd
/-- a def keeps its promise: its body's meaning -/
theorem fn_denD {P : Program} {w : World} {K : PySem.W.Frag} {mg : Str → Option Value} {base : Heap} {x : Str} {st : Stmt} {f : Addr} {fd : FuncData} {N ps : List Str} {k : Nat} {keep : Bool} {fb : FS} (F : FnP K x st f fd) (S : FnScope N ps (defScope st))
    (hb : ∀ (cdv : Value) (A : Around) (outer : List Env) (s : Shared) (H : Hp) (E : XK), Room k (A.deeper (envOfC x (defScope st) s.heap.objs.size f cdv)) →
      PSs (cxOf CX0 P w K mg base N x (defScope st) f cdv A outer s H E).nox (defBody st) (tS K wF fb)) : FnOk P w K mg base CX0 (k + 1) f fd ps (spD K ps.length (bodyF N.length keep fb)) := by
  refine F.ok S (fun vs H Q E h => ?_) (fun cdv A outer s H vs Q E hr h => ⟨_, PSs.nox (hb cdv A outer s H E hr), ?_⟩)
  · obtain ⟨Ms, as, μ, hn, r, _⟩ := h
    rw [← r.length, hn]
  · obtain ⟨Ms, as, μ, hn, r, m, h⟩ := h
    refine ⟨Ms, _, μ, start_rep (N := N) r, m, ?_⟩
    unfold bodyF at h
    cases q : fb (startR N.length as) μ with
    | no => rw [q] at h; exact h.elim
    | ex z μ1 => rw [q] at h; exact h
    | ok a μ1 =>
      rw [q] at h
      obtain ⟨fl, ρ'⟩ := a
      rintro Mt H' ⟨W, fl', σ'⟩ e m' ⟨r1, r2, r3⟩
      simp only at r1 r2 r3
      subst r1 r2
      dsimp only [Res.bind] at h
      cases fl' with
      | nx => exact finish_ok (v := .dat .none) (u := .non) e m m' rfl h
      | rt v => exact fun u hu => finish_ok e m m' hu h
      | bk => exact h.elim
      | ct => exact h.elim
/-- what the module gives to a def's walk -/
structure Kept (P : Program) (w : World) (K : PySem.W.Frag) (mg : Str → Option Value) (base : Heap) (k : Nat) (x : Str) (n : Nat) (g : DF) : Prop where
  ex : ∃ f fd ps j, j ≤ k ∧ FnOk P w K mg base CX0 j f fd ps (spD K n g) ∧ mg x = some (.ref f) ∧ PySem.W.keepIn K (.ref f) = true ∧ Binds K fd ps []
section
variable {P : Program} {w : World} {K : PySem.W.Frag} {mg : Str → Option Value} {base : Heap}
theorem Kept.mono {j k : Nat} {x : Str} {n : Nat} {g : DF} (h : Kept P w K mg base j x n g) (l : j ≤ k) : Kept P w K mg base k x n g := by
  obtain ⟨f, fd, ps, i, h1, h2⟩ := h.ex
  exact ⟨f, fd, ps, i, Nat.le_trans h1 l, h2⟩
def Gls (K : PySem.W.Frag) (mg : Str → Option Value) (gl : List (Str × PyData)) : Prop := ∀ x d, gl.lookup x = some d → ∃ v u, mg x = some u ∧ RelV v u ∧ ∀ Ms H, RepD K Ms H d v
theorem Gls.nil : Gls K mg [] := fun _ _ h => nomatch h
theorem fn_ok {x : Str} {st : Stmt} {f : Addr} {fd : FuncData} {N ps : List Str} {k : Nat} (keep : Bool) {fb : FS} {C : Cfg} (F : FnP K x st f fd) (S : FnScope N ps (defScope st))
    (hC : C.N = N) (hf : ∀ y n g, C.fn.lookup y = some (n, g) → Kept P w K mg base k y n g) (hgl : Gls K mg C.gl) (hfree : ∀ y, y ∈ blts → mg y = none)
    (hd : denSs C 60 (defScope st) (defBody st) = some fb) : FnOk P w K mg base CX0 (k + 1) f fd ps (spD K ps.length (bodyF N.length keep fb)) := by
  refine fn_denD F S fun cdv A outer s H E hr => ?_
  refine (sndS C 60).ss (k := k) ?_ rfl hd
  have c : CtxOk C k (cxOf CX0 P w K mg base N x (defScope st) f cdv A outer s H E).nox := {
    N := hC.symm
    nd := by rw [hC]; exact S.nd
    calm := rfl
    room := hr
    xe := rfl
    fns := fun y n g h => (hf y n g h).ex
    gls := hgl
    free := hfree }
  exact { toCtxOk := c, fn := fun _ => rfl, kind := S.kind }
theorem kept_def {x : Str} {st : Stmt} {f : Addr} {fd : FuncData} {N ps : List Str} {k : Nat} (keep : Bool) {fb : FS} {C : Cfg} (F : FnP K x st f fd) (S : FnScope N ps (defScope st)) (hm : mg x = some (.ref f))
    (hb : Binds K fd ps []) (hC : C.N = N) (hf : ∀ y n g, C.fn.lookup y = some (n, g) → Kept P w K mg base k y n g) (hgl : Gls K mg C.gl) (hfree : ∀ y, y ∈ blts → mg y = none)
    (hd : denSs C 60 (defScope st) (defBody st) = some fb) : Kept P w K mg base (k + 1) x ps.length (bodyF N.length keep fb) :=
  ⟨f, fd, ps, k + 1, Nat.le_refl _, fn_ok keep F S hC hf hgl hfree hd, hm, F.kp, hb⟩
def noF : DF := fun _ _ => .no
theorem kept_no {x : Str} {st : Stmt} {f : Addr} {fd : FuncData} {N ps : List Str} {k : Nat} (F : FnP K x st f fd) (S : FnScope N ps (defScope st)) (hm : mg x = some (.ref f)) (hb : Binds K fd ps []) : Kept P w K mg base (k + 1) x ps.length noF :=
  ⟨f, fd, ps, k + 1, Nat.le_refl _, F.ok S (fun vs H Q E h => by
    obtain ⟨Ms, as, μ, hn, r, _⟩ := h
    rw [← r.length, hn]) (fun cdv A outer s H vs Q E hr h => by
    obtain ⟨Ms, as, μ, hn, r, m, h⟩ := h
    exact h.elim), hm, F.kp, hb⟩
/-- the callees, one by one -/
theorem kept_nil {k : Nat} : ∀ y n g, ([] : List (Str × Nat × DF)).lookup y = some (n, g) → Kept P w K mg base k y n g := fun _ _ _ h => nomatch h
theorem kept_cons {k : Nat} {x : Str} {n : Nat} {g : DF} {l : List (Str × Nat × DF)} (h : Kept P w K mg base k x n g) (t : ∀ y n g, l.lookup y = some (n, g) → Kept P w K mg base k y n g) :
    ∀ y m g', ((x, n, g) :: l).lookup y = some (m, g') → Kept P w K mg base k y m g' := fun y m g' q => by
  rw [List.lookup_cons] at q
  split at q
  · rename_i e
    cases q
    rw [eq_of_beq e]
    exact h
  · exact t y m g' q
/-- the law's promise from its body's meaning -/
theorem law_sp {g : DF} {H : Hp} {a : Addr} {ns : List Int} (hO : Only H) (hS : SqL K H a (ns.map V.int)) (h : ∃ μ, g [.fz (ns.map PyData.int)] [] = .ok (.dat (.bool true)) μ) :
    spD K 1 g [.ref a] H (fun v _ => v = .bl true) fun _ _ _ => False := by
  obtain ⟨μ, h⟩ := h
  have rl : ∀ ns : List Int, RepL K ⟨[], []⟩ H (ns.map PyData.int) (ns.map V.int) := fun ns => by
    induction ns with
    | nil => rfl
    | cons n ns ih => exact ⟨_, _, rfl, rfl, ih⟩
  refine ⟨⟨[], []⟩, [.fz (ns.map PyData.int)], [], rfl, ⟨_, _, rfl, ⟨a, _, rfl, FzL.of (fun ys q => ?_) hS, rl ns⟩, rfl⟩, ⟨List.nodup_nil, rfl, fun i a c h => by simp at h, fun a h => by simp at h, fun a h => by simp at h⟩, ?_⟩
  · rcases hO a with e | ⟨o, xs, e⟩ <;> rw [e] at q <;> cases q
  · rw [h]
    rintro Mt H' u _ _ r
    exact r
end
end DN
set_option Elab.async false
set_option linter.all false
set_option maxRecDepth 100000
set_option maxHeartbeats 4000000
namespace DN
open PySem PySem.Spec PyProof.Rows L2
/-! ### what a result satisfies -/
def wp {α : Type} (r : Res α) (Q : α → Mem → Prop) : Prop := match r with
  | .ok a μ => Q a μ
  | _ => False
section
variable {α β : Type}
theorem wp_ok {a : α} {μ : Mem} {Q : α → Mem → Prop} : wp (.ok a μ) Q = Q a μ := rfl
theorem wp_okD {d : PyData} {μ : Mem} {Q : Val → Mem → Prop} : wp (okD d μ) Q = Q (.dat d) μ := rfl
theorem wp_bind {r : Res α} {f : α → Mem → Res β} {Q : β → Mem → Prop} : wp (r.bind f) Q = wp r fun a μ => wp (f a μ) Q := by
  cases r <;> rfl
theorem wp_mono {r : Res α} {Q Q' : α → Mem → Prop} (h : wp r Q) (k : ∀ a μ, Q a μ → Q' a μ) : wp r Q' := by
  cases r with
  | ok a μ => exact k a μ h
  | _ => exact h
theorem wp_ex {r : Res α} {Q : α → Mem → Prop} (h : wp r Q) : ∃ a μ, r = .ok a μ ∧ Q a μ := by
  cases r with
  | ok a μ => exact ⟨a, μ, rfl, h⟩
  | _ => exact h.elim
end
section
variable {ρ : Rho} {μ : Mem} {Q : Val → Mem → Prop} {QT : Bool → Mem → Prop} {QL : List Val → Mem → Prop} {QS : Flo × Rho → Mem → Prop} {fa fb fc : FE} {t ta tb : FT} {fl : FL} {f g : FS} {i j k : Nat}
def varV : Option (Option Val) → Mem → (Val → Mem → Prop) → Prop
  | some (some v), μ, Q => Q v μ
  | _, _, _ => False
theorem w_var : wp (eVar i ρ μ) Q = varV ρ[i]? μ Q := by
  unfold eVar
  split
  · rename_i v q; rw [q]; rfl
  · rename_i q
    cases e : ρ[i]? with
    | none => rfl
    | some o =>
      cases o with
      | none => rfl
      | some v => exact absurd e (q v)
theorem w_varV {v : Val} : varV (some (some v)) μ Q = Q v μ := rfl
theorem w_c {d : PyData} : wp (eC d ρ μ) Q = Q (.dat d) μ := rfl
theorem w_bin {gg : Val → Val → Mem → Res Val} : wp (eBin gg fa fb ρ μ) Q = wp (fa ρ μ) fun x μ1 => wp (fb ρ μ1) fun y μ2 => wp (gg x y μ2) Q := by
  unfold eBin; simp only [wp_bind]
theorem w_un {gg : Val → Mem → Res Val} : wp (eUn gg fa ρ μ) Q = wp (fa ρ μ) fun x μ1 => wp (gg x μ1) Q := by
  unfold eUn; simp only [wp_bind]
theorem w_nil : wp (lNil ρ μ) QL = QL [] μ := rfl
theorem w_cons : wp (lCons fa fl ρ μ) QL = wp (fa ρ μ) fun x μ1 => wp (fl ρ μ1) fun xs μ2 => QL (x :: xs) μ2 := by
  unfold lCons; simp only [wp_bind, wp_ok]
theorem w_args {gg : List Val → Mem → Res Val} : wp (eArgs gg fl ρ μ) Q = wp (fl ρ μ) fun vs μ1 => wp (gg vs μ1) Q := by
  unfold eArgs; simp only [wp_bind]
def boolV : Val → Mem → (Bool → Mem → Prop) → Prop
  | .dat (.bool b), μ, Q => Q b μ
  | _, _, _ => False
theorem w_boolV {b : Bool} : boolV (.dat (.bool b)) μ QT = QT b μ := rfl
theorem w_tOf : wp (tOf fa ρ μ) QT = wp (fa ρ μ) fun v μ1 => boolV v μ1 QT := by
  unfold tOf; rw [wp_bind]; congr; funext v μ1
  cases v with
  | dat d => cases d <;> rfl
  | _ => rfl
theorem w_fAnd : wp (fAnd ta tb ρ μ) QT = wp (ta ρ μ) fun c μ1 => if c = true then wp (tb ρ μ1) QT else QT false μ1 := by
  unfold fAnd; rw [wp_bind]; congr; funext c μ1; cases c <;> rfl
theorem w_fOr : wp (fOr ta tb ρ μ) QT = wp (ta ρ μ) fun c μ1 => if c = true then QT true μ1 else wp (tb ρ μ1) QT := by
  unfold fOr; rw [wp_bind]; congr; funext c μ1; cases c <;> rfl
theorem w_fNot : wp (fNot ta ρ μ) QT = wp (ta ρ μ) fun c μ1 => QT (!c) μ1 := by
  unfold fNot; rw [wp_bind]; rfl
theorem w_eAnd : wp (eAnd fa fb ρ μ) Q = wp (fa ρ μ) fun v μ1 => boolV v μ1 fun c μ2 => if c = true then wp (fb ρ μ2) Q else Q (.dat (.bool false)) μ2 := by
  unfold eAnd; rw [wp_bind]; congr; funext v μ1
  cases v with
  | dat d => cases d with
    | bool b => cases b <;> rfl
    | _ => rfl
  | _ => rfl
theorem w_eOr : wp (eOr fa fb ρ μ) Q = wp (fa ρ μ) fun v μ1 => boolV v μ1 fun c μ2 => if c = true then Q (.dat (.bool true)) μ2 else wp (fb ρ μ2) Q := by
  unfold eOr; rw [wp_bind]; congr; funext v μ1
  cases v with
  | dat d => cases d with
    | bool b => cases b <;> rfl
    | _ => rfl
  | _ => rfl
theorem w_eIf : wp (eIf t fa fb ρ μ) Q = wp (t ρ μ) fun c μ1 => if c = true then wp (fa ρ μ1) Q else wp (fb ρ μ1) Q := by
  unfold eIf; rw [wp_bind]; congr; funext c μ1; cases c <;> rfl
theorem w_chain {g1 g2 : Val → Val → Mem → Res Val} : wp (eChain g1 g2 fa fb fc ρ μ) Q = wp (fa ρ μ) fun x μ1 => wp (fb ρ μ1) fun y μ2 => wp (g1 x y μ2) fun v μ3 => boolV v μ3 fun c μ4 => if c = true then wp (fc ρ μ4) fun z μ5 => wp (g2 y z μ5) Q else Q (.dat (.bool false)) μ4 := by
  unfold eChain; simp only [wp_bind]; congr; funext x μ1; congr; funext y μ2; congr; funext v μ3
  cases v with
  | dat d => cases d with
    | bool b => cases b <;> first | rfl | (simp only [wp_bind, w_boolV]; rfl)
    | _ => rfl
  | _ => rfl
def optV : Val → Mem → (Option Int → Mem → Prop) → Prop
  | .dat (.int i), μ, Q => Q (some i) μ
  | _, _, _ => False
theorem w_optV {i : Int} {QO : Option Int → Mem → Prop} : optV (.dat (.int i)) μ QO = QO (some i) μ := rfl
theorem w_oNone {QO : Option Int → Mem → Prop} : wp (oNone ρ μ) QO = QO none μ := rfl
theorem w_oSome {QO : Option Int → Mem → Prop} : wp (oSome fa ρ μ) QO = wp (fa ρ μ) fun v μ1 => optV v μ1 QO := by
  unfold oSome; rw [wp_bind]; congr; funext v μ1
  cases v with
  | dat d => cases d <;> rfl
  | _ => rfl
theorem w_cut {lo hi : FO} : wp (eCut fa lo hi ρ μ) Q = wp (fa ρ μ) fun x μ1 => wp (lo ρ μ1) fun l μ2 => wp (hi ρ μ2) fun h μ3 => wp (g1 (cutD l h) x μ3) Q := by
  unfold eCut; simp only [wp_bind]
theorem o_cutT {ds : List PyData} {l h : Option Int} : g1 (cutD l h) (.dat (.tuple ds)) μ = okD (.tuple (cutL ds l h)) μ := rfl
theorem o_cutL {ds : List PyData} {l h : Option Int} : g1 (cutD l h) (.dat (.list ds)) μ = okD (.list (cutL ds l h)) μ := rfl
theorem w_pass : wp (sPass ρ μ) QS = QS (.nx, ρ) μ := rfl
theorem w_ret : wp (sRet fa ρ μ) QS = wp (fa ρ μ) fun v μ1 => QS (.rt v, ρ) μ1 := by
  unfold sRet; simp only [wp_bind, wp_ok]
theorem w_if : wp (sIf t f g ρ μ) QS = wp (t ρ μ) fun c μ1 => if c = true then wp (f ρ μ1) QS else wp (g ρ μ1) QS := by
  unfold sIf; rw [wp_bind]; congr; funext c μ1; cases c <;> rfl
def seqV (q : Flo × Rho) (μ : Mem) (k : Rho → Mem → Prop) (Q : Flo × Rho → Mem → Prop) : Prop := match q.1 with
  | .nx => k q.2 μ
  | _ => Q q μ
theorem w_seqV {k : Rho → Mem → Prop} : seqV (.nx, ρ) μ k QS = k ρ μ := rfl
theorem w_seqR {k : Rho → Mem → Prop} {v : Val} : seqV (.rt v, ρ) μ k QS = QS (.rt v, ρ) μ := rfl
theorem w_seq : wp (sSeq f g ρ μ) QS = wp (f ρ μ) fun q μ1 => seqV q μ1 (fun ρ1 μ2 => wp (g ρ1 μ2) QS) QS := by
  unfold sSeq; rw [wp_bind]; congr; funext q μ1
  obtain ⟨fl, ρ1⟩ := q
  cases fl <;> rfl
def asgV (o : Option Rho) (μ : Mem) (Q : Flo × Rho → Mem → Prop) : Prop := match o with
  | some ρ1 => Q (.nx, ρ1) μ
  | none => False
theorem w_seqI (P : Rho → Mem → Prop) (h1 : wp (f ρ μ) fun q μ1 => seqV q μ1 P QS) (h2 : ∀ ρ1 μ1, P ρ1 μ1 → wp (g ρ1 μ1) QS) : wp (sSeq f g ρ μ) QS := by
  rw [w_seq]
  refine wp_mono h1 fun q μ1 z => ?_
  obtain ⟨fl, ρ1⟩ := q
  cases fl <;> first | exact h2 _ _ z | exact z
theorem w_asgV : asgV (some ρ) μ QS = QS (.nx, ρ) μ := rfl
theorem w_asg {gg : FG} : wp (sAsg fa gg ρ μ) QS = wp (fa ρ μ) fun v μ1 => asgV (gg v ρ) μ1 QS := by
  unfold sAsg; rw [wp_bind]; congr; funext v μ1; cases gg v ρ <;> rfl
theorem w_gNm {v : Val} : gNm i v ρ = some (ρ.set i (some v)) := rfl
theorem w_gTp {n : Nat} {gg : List PyData → Rho → Option Rho} {ds : List PyData} : gTp n gg (.dat (.tuple ds)) ρ = if ds.length = n then gg ds ρ else none := rfl
theorem w_gNl : gNl [] ρ = some ρ := rfl
theorem w_gCn {i : Nat} {r : List PyData → Rho → Option Rho} {d : PyData} {ds : List PyData} : gCn (gNm i) r (d :: ds) ρ = r ds (ρ.set i (some (.dat d))) := rfl
def par2V (i j : Nat) (vs : List Val) (ρ : Rho) (μ : Mem) (Q : Flo × Rho → Mem → Prop) : Prop := match vs with
  | [v, u] => Q (.nx, (ρ.set i (some v)).set j (some u)) μ
  | _ => False
theorem w_par2V {v u : Val} : par2V i j [v, u] ρ μ QS = QS (.nx, (ρ.set i (some v)).set j (some u)) μ := rfl
theorem w_par2 : wp (sPar2 i j fl ρ μ) QS = wp (fl ρ μ) fun vs μ1 => par2V i j vs ρ μ1 QS := by
  unfold sPar2; rw [wp_bind]; congr; funext vs μ1
  rcases vs with _ | ⟨a, _ | ⟨b, _ | ⟨c, r⟩⟩⟩ <;> rfl
theorem w_set {fv fo fi : FE} : wp (sSet fv fo fi ρ μ) QS = wp (fv ρ μ) fun v μ1 => wp (fo ρ μ1) fun o μ2 => wp (fi ρ μ2) fun i μ3 => wp (gSet o i v μ3) fun _ μ4 => QS (.nx, ρ) μ4 := by
  unfold sSet; simp only [wp_bind, wp_ok]
theorem w_call {n : Nat} {gg : DF} {vs : List Val} (h : vs.length = n) : wp (gCall n gg vs μ) Q = wp (gg vs μ) Q := by
  unfold gCall; rw [if_pos h]
def endV (keep : Bool) (n : Nat) (q : Flo × Rho) (μ : Mem) (Q : Val → Mem → Prop) : Prop := match q.1 with
  | .nx => Q (.dat .none) (μ.take n)
  | .rt (.dat d) => Q (.dat d) (μ.take n)
  | .rt v => wp (finish keep n v μ) Q
  | _ => False
theorem w_body {N : Nat} {keep : Bool} {as : List Val} : wp (bodyF N keep f as μ) Q = wp (f (startR N as) μ) fun q μ1 => endV keep μ.length q μ1 Q := by
  unfold bodyF; rw [wp_bind]; congr; funext q μ1
  obtain ⟨fl, ρ1⟩ := q
  cases fl with
  | rt v => cases v <;> rfl
  | _ => rfl
theorem w_endD {keep : Bool} {n : Nat} {d : PyData} : endV keep n (.rt (.dat d), ρ) μ Q = Q (.dat d) (μ.take n) := rfl
theorem w_endN {keep : Bool} {n : Nat} : endV keep n (.nx, ρ) μ Q = Q (.dat .none) (μ.take n) := rfl
theorem w_for {fi : FI} {gg : FG} : wp (sFor fi gg f ρ μ) QS = wp (fi ρ μ) fun ds μ1 => wp (forD gg f ds ρ μ1) QS := by
  unfold sFor; simp only [wp_bind]
theorem w_forN {gg : FG} : wp (forD gg f [] ρ μ) QS = QS (.nx, ρ) μ := rfl
def loopV (q : Flo × Rho) (μ : Mem) (k : Rho → Mem → Prop) (Q : Flo × Rho → Mem → Prop) : Prop := match q.1 with
  | .nx => k q.2 μ
  | .ct => k q.2 μ
  | .bk => Q (.nx, q.2) μ
  | .rt v => Q (.rt v, q.2) μ
theorem w_loopN {k : Rho → Mem → Prop} : loopV (.nx, ρ) μ k QS = k ρ μ := rfl
theorem w_loopR {k : Rho → Mem → Prop} {v : Val} : loopV (.rt v, ρ) μ k QS = QS (.rt v, ρ) μ := rfl
theorem w_forC {i : Nat} {d : PyData} {ds : List PyData} : wp (forD (gNm i) f (d :: ds) ρ μ) QS = wp (f (ρ.set i (some (.dat d))) μ) fun q μ1 => loopV q μ1 (fun ρ1 μ2 => wp (forD (gNm i) f ds ρ1 μ2) QS) QS := by
  show wp (Res.bind _ _) QS = _
  rw [wp_bind]; congr; funext q μ1
  obtain ⟨fl, ρ1⟩ := q
  cases fl <;> rfl
theorem w_forG {gg : FG} {d : PyData} {ds : List PyData} {ρ0 : Rho} (h : gg (.dat d) ρ = some ρ0) : wp (forD gg f (d :: ds) ρ μ) QS = wp (f ρ0 μ) fun q μ1 => loopV q μ1 (fun ρ1 μ2 => wp (forD gg f ds ρ1 μ2) QS) QS := by
  have e : forD gg f (d :: ds) ρ μ = (f ρ0 μ).bind fun q μ1 => match q.1 with
      | .nx => forD gg f ds q.2 μ1
      | .ct => forD gg f ds q.2 μ1
      | .bk => .ok (.nx, q.2) μ1
      | .rt v => .ok (.rt v, q.2) μ1 := by
    conv => lhs; unfold forD
    rw [h]
    all_goals rfl
  rw [e, wp_bind]
  congr; funext q μ1
  obtain ⟨fl, ρ1⟩ := q
  cases fl <;> rfl
theorem w_while {n : Nat} : wp (whileD t f (n + 1) ρ μ) QS = wp (t ρ μ) fun c μ1 => if c = true then wp (f ρ μ1) fun q μ2 => loopV q μ2 (fun ρ1 μ3 => wp (whileD t f n ρ1 μ3) QS) QS else QS (.nx, ρ) μ1 := by
  have e : whileD t f (n + 1) ρ μ = (t ρ μ).bind fun t1 μ1 => if t1 = true then (f ρ μ1).bind fun q μ2 => match q.1 with
      | .nx => whileD t f n q.2 μ2
      | .ct => whileD t f n q.2 μ2
      | .bk => .ok (.nx, q.2) μ2
      | .rt v => .ok (.rt v, q.2) μ2
    else .ok (.nx, ρ) μ1 := rfl
  rw [e, wp_bind]; congr; funext c μ1
  cases c with
  | false => rfl
  | true =>
    simp only [if_true, wp_bind]
    congr; funext q μ2
    obtain ⟨fl, ρ1⟩ := q
    cases fl <;> rfl
end
/-! operators at data -/
section
variable {μ : Mem} {Q : Val → Mem → Prop}
theorem o_add {i j : Int} : gAdd (.dat (.int i)) (.dat (.int j)) μ = okD (.int (i + j)) μ := rfl
theorem o_addB {i : Bool} {j : Int} : gAdd (.dat (.bool i)) (.dat (.int j)) μ = okD (.int ((if i = true then (1 : Int) else 0) + j)) μ := rfl
theorem o_addT {xs ys : List PyData} (h : xs.length + ys.length ≤ 16777216) : gAdd (.dat (.tuple xs)) (.dat (.tuple ys)) μ = okD (.tuple (xs ++ ys)) μ := if_pos h
theorem o_addL {xs ys : List PyData} (h : xs.length + ys.length ≤ 16777216) : gAdd (.dat (.list xs)) (.dat (.list ys)) μ = okD (.list (xs ++ ys)) μ := if_pos h
theorem o_sub {i j : Int} : gSub (.dat (.int i)) (.dat (.int j)) μ = okD (.int (i - j)) μ := rfl
theorem o_mul {i j : Int} (h : i.natAbs.log2 + j.natAbs.log2 < 1000000) : gMul (.dat (.int i)) (.dat (.int j)) μ = okD (.int (i * j)) μ := if_pos h
theorem o_fdiv {i j : Int} (h : 0 < j ∧ j.natAbs.log2 < 9000) : gFdiv (.dat (.int i)) (.dat (.int j)) μ = okD (.int (i / j)) μ := if_pos h
theorem o_mod {i j : Int} (h : 0 < j) : gMod (.dat (.int i)) (.dat (.int j)) μ = okD (.int (i % j)) μ := if_pos h
theorem o_ord {o : Ord} {i j : Int} : gOrd o (.dat (.int i)) (.dat (.int j)) μ = okD (.bool (ordI o i j)) μ := rfl
theorem o_lt {i j : Int} : ordI .lt i j = decide (i < j) := rfl
theorem o_le {i j : Int} : ordI .le i j = decide (i ≤ j) := rfl
theorem o_gt {i j : Int} : ordI .gt i j = decide (j < i) := rfl
theorem o_ge {i j : Int} : ordI .ge i j = decide (j ≤ i) := rfl
theorem o_eqI {i j : Int} : gEq false (.dat (.int i)) (.dat (.int j)) μ = okD (.bool (decide (i = j))) μ := by
  show eqD false (.int i) (.int j) μ = _
  unfold eqD
  rw [if_pos ⟨rfl, rfl⟩]
  rfl
theorem o_neI {i j : Int} : gEq true (.dat (.int i)) (.dat (.int j)) μ = okD (.bool (!decide (i = j))) μ := by
  show eqD true (.int i) (.int j) μ = _
  unfold eqD
  rw [if_pos ⟨rfl, rfl⟩]
  rfl
theorem o_eqB {neg : Bool} {i j : Bool} : gEq neg (.dat (.bool i)) (.dat (.bool j)) μ = okD (.bool (if neg then !(i == j) else i == j)) μ := by
  show eqD neg (.bool i) (.bool j) μ = _
  unfold eqD
  rw [if_pos ⟨rfl, rfl⟩]
  rfl
theorem o_eq {d e : PyData} {neg : Bool} (h1 : SeqAt.shaped d = true) (h2 : SeqAt.shaped e = true) : gEq neg (.dat d) (.dat e) μ = okD (.bool (if neg then !PyData.eqv d e else PyData.eqv d e)) μ := if_pos ⟨h1, h2⟩
theorem o_tup {vs : List Val} {ds : List PyData} (h : datL vs = some ds) (h2 : ds.length ≤ 16777216) : DN.gTup vs μ = okD (.tuple ds) μ := by
  unfold DN.gTup; rw [h]; exact if_pos h2
theorem o_lst {vs : List Val} {ds : List PyData} (h : datL vs = some ds) (h2 : ds.length ≤ 16777216) : gLst vs μ = okD (.list ds) μ := by
  unfold gLst; rw [h]; exact if_pos h2
theorem datL_nil : datL [] = some [] := rfl
theorem datL_cons {d : PyData} {r : List Val} : datL (.dat d :: r) = (datL r).map (d :: ·) := by
  have e : datL (.dat d :: r) = match datL r with
      | some l => some (d :: l)
      | none => none := rfl
  rw [e]
  cases datL r <;> rfl
theorem o_isT {T : String} {d : PyData} (h : tyN d ≠ "dict") : gIsT T (.dat d) μ = okD (.bool (isT d T)) μ := if_neg h
theorem o_not {b : Bool} : gNot (.dat (.bool b)) μ = okD (.bool (!b)) μ := rfl
theorem o_neg {i : Int} : gNeg (.dat (.int i)) μ = okD (.int (-i)) μ := rfl
theorem o_len_t {ds : List PyData} : c1 lenD [.dat (.tuple ds)] μ = okD (.int ds.length) μ := rfl
theorem o_len_l {ds : List PyData} : c1 lenD [.dat (.list ds)] μ = okD (.int ds.length) μ := rfl
theorem o_len_f {ds : List PyData} : c1 lenD [.fz ds] μ = okD (.int ds.length) μ := rfl
def natIx {α : Type} (ds : List α) (n : Nat) : Option α := ds[n]?
theorem o_idx_t {ds : List PyData} {i : Int} {d : PyData} (h : L2.atI ds i = some d) : gIdx (.dat (.tuple ds)) (.dat (.int i)) μ = okD d μ := by
  show (match L2.atI ds i with | some d => okD d μ | none => Res.no) = _
  rw [h]
theorem o_idx_l {ds : List PyData} {i : Int} {d : PyData} (h : L2.atI ds i = some d) : gIdx (.dat (.list ds)) (.dat (.int i)) μ = okD d μ := by
  show (match L2.atI ds i with | some d => okD d μ | none => Res.no) = _
  rw [h]
def idxV (o : Option PyData) (μ : Mem) (Q : Val → Mem → Prop) : Prop := match o with
  | some d => Q (.dat d) μ
  | none => False
theorem w_idxV {d : PyData} : idxV (some d) μ Q = Q (.dat d) μ := rfl
theorem w_idx_t {ds : List PyData} {i : Int} : wp (gIdx (.dat (.tuple ds)) (.dat (.int i)) μ) Q = idxV (L2.atI ds i) μ Q := by
  show wp (match L2.atI ds i with | some d => okD d μ | none => Res.no) Q = _
  cases L2.atI ds i <;> rfl
theorem w_idx_l {ds : List PyData} {i : Int} : wp (gIdx (.dat (.list ds)) (.dat (.int i)) μ) Q = idxV (L2.atI ds i) μ Q := by
  show wp (match L2.atI ds i with | some d => okD d μ | none => Res.no) Q = _
  cases L2.atI ds i <;> rfl
theorem w_idx_f {ds : List PyData} {i : Int} : wp (gIdx (.fz ds) (.dat (.int i)) μ) Q = idxV (L2.atI ds i) μ Q := by
  show wp (match L2.atI ds i with | some d => okD d μ | none => Res.no) Q = _
  cases L2.atI ds i <;> rfl
theorem atI_nat {α : Type} {ds : List α} {k : Nat} : L2.atI ds (k : Int) = ds[k]? := by
  unfold L2.atI L2.ixN
  rw [if_pos (Int.natCast_nonneg k)]
  by_cases h : k < ds.length
  · rw [if_pos (by omega)]; rfl
  · rw [if_neg (by omega), List.getElem?_eq_none (by omega)]; rfl
theorem at0 {α : Type} {a : α} {ds : List α} : L2.atI (a :: ds) 0 = some a := atI_nat (k := 0)
theorem at1 {α : Type} {a b : α} {ds : List α} : L2.atI (a :: b :: ds) 1 = some b := atI_nat (k := 1)
theorem at2 {α : Type} {a b c : α} {ds : List α} : L2.atI (a :: b :: c :: ds) 2 = some c := atI_nat (k := 2)
theorem at_in {α : Type} {ds : List α} {i : Int} (h0 : 0 ≤ i) (h1 : i < ds.length) : ∃ d, L2.atI ds i = some d ∧ d ∈ ds := by
  obtain ⟨k, rfl⟩ := Int.eq_ofNat_of_zero_le h0
  have hk : k < ds.length := by omega
  exact ⟨ds[k], by rw [atI_nat, List.getElem?_eq_getElem hk], List.getElem_mem hk⟩
theorem cut1 {α : Type} {a : α} {ds : List α} : cutL (a :: ds) (some 1) none = ds := by
  unfold cutL
  have e1 : HT.sIx (a :: ds).length 0 (some 1) = 1 := by
    have : HT.sIx (a :: ds).length 0 (some ((1 : Nat) : Int)) = min 1 (a :: ds).length := HT.sIx_nat _ _ _
    rw [List.length_cons] at this ⊢
    exact this.trans (by omega)
  rw [e1]
  show ((a :: ds).drop 1).take (ds.length + 1 - 1) = ds
  simp
theorem cut_to {α : Type} {ds : List α} {i : Int} (h0 : 0 ≤ i) : cutL ds none (some i) = ds.take i.toNat := by
  unfold cutL
  show (ds.drop 0).take (HT.sIx ds.length ds.length (some i) - 0) = _
  have e1 : HT.sIx ds.length ds.length (some i) = min i.toNat ds.length := by
    unfold HT.sIx
    dsimp only
    rw [if_neg (by omega)]
  rw [e1, List.drop_zero, Nat.sub_zero, List.take_eq_take_iff]
  omega
theorem cut_from {α : Type} {ds : List α} {i : Int} (h0 : 0 ≤ i) : cutL ds (some i) none = ds.drop i.toNat := by
  unfold cutL
  have e1 : HT.sIx ds.length 0 (some i) = min i.toNat ds.length := by
    unfold HT.sIx
    dsimp only
    rw [if_neg (by omega)]
  rw [e1]
  show (ds.drop _).take (ds.length - _) = _
  rw [List.take_of_length_le (by rw [List.length_drop]; omega)]
  by_cases h : i.toNat ≤ ds.length
  · rw [Nat.min_eq_left h]
  · rw [Nat.min_eq_right (by omega), List.drop_of_length_le (Nat.le_refl _), List.drop_of_length_le (by omega)]
theorem w_isT {T : String} {d : PyData} (h : tyN d ≠ "dict") : wp (gIsT T (.dat d) μ) Q = Q (.dat (.bool (isT d T))) μ := by rw [o_isT h]; rfl
theorem w_eq {d e : PyData} {neg : Bool} (h1 : SeqAt.shaped d = true) (h2 : SeqAt.shaped e = true) : wp (gEq neg (.dat d) (.dat e) μ) Q = Q (.dat (.bool (if neg then !PyData.eqv d e else PyData.eqv d e))) μ := by rw [o_eq h1 h2]; rfl
theorem w_tup {vs : List Val} : wp (DN.gTup vs μ) Q = match datL vs with
  | some ds => if ds.length ≤ 16777216 then Q (.dat (.tuple ds)) μ else False
  | none => False := by
  unfold DN.gTup
  cases datL vs with
  | none => rfl
  | some ds => dsimp only; by_cases h : ds.length ≤ 16777216 <;> simp [h, wp, okD]
theorem w_lst {vs : List Val} : wp (gLst vs μ) Q = match datL vs with
  | some ds => if ds.length ≤ 16777216 then Q (.dat (.list ds)) μ else False
  | none => False := by
  unfold gLst
  cases datL vs with
  | none => rfl
  | some ds => dsimp only; by_cases h : ds.length ≤ 16777216 <;> simp [h, wp, okD]
/-- any value that a spoiling may meet: depth, width -/
def wf (m : Nat) : Nat → PyData → Prop
  | _, .none => True
  | _, .bool _ => True
  | _, .int _ => True
  | _, .str s => PySem.PyData.strOk s = true
  | n + 1, .list ds => ds.length ≤ m ∧ ∀ d ∈ ds, wf m n d
  | n + 1, .tuple ds => ds.length ≤ m ∧ ∀ d ∈ ds, wf m n d
  | _, _ => False
theorem wf.nod {m : Nat} : ∀ {n : Nat} {d : PyData}, wf m n d → tyN d ≠ "dict"
  | n, .dict _, h => by cases n <;> exact absurd h (fun z => z)
  | _, .none, _ => fun z => by simp [tyN] at z
  | _, .bool _, _ => fun z => by simp [tyN] at z
  | _, .int _, _ => fun z => by simp [tyN] at z
  | _, .str _, _ => fun z => by simp [tyN] at z
  | _, .list _, _ => fun z => by simp [tyN] at z
  | _, .tuple _, _ => fun z => by simp [tyN] at z
theorem wf.mono {m m' : Nat} (hm : m ≤ m') : ∀ {n n' : Nat} {d : PyData}, n ≤ n' → wf m n d → wf m' n' d
  | _, _, .none, _, _ => by simp only [wf]
  | _, _, .bool _, _, _ => by simp only [wf]
  | _, _, .int _, _, _ => by simp only [wf]
  | n, n', .str s, _, h => by simp only [wf] at h ⊢; exact h
  | 0, _, .list _, _, h => absurd h (fun z => by simp only [wf] at z)
  | 0, _, .tuple _, _, h => absurd h (fun z => by simp only [wf] at z)
  | n, _, .dict _, _, h => absurd h (fun z => by simp only [wf] at z)
  | n + 1, 0, .list _, l, _ => absurd l (by omega)
  | n + 1, 0, .tuple _, l, _ => absurd l (by omega)
  | n + 1, n' + 1, .list ds, l, h => by
    simp only [wf] at h ⊢
    exact ⟨Nat.le_trans h.1 hm, fun d hd => wf.mono hm (by omega) (h.2 d hd)⟩
  | n + 1, n' + 1, .tuple ds, l, h => by
    simp only [wf] at h ⊢
    exact ⟨Nat.le_trans h.1 hm, fun d hd => wf.mono hm (by omega) (h.2 d hd)⟩
theorem lay_all : ∀ {ds : List PyData}, (∀ d ∈ ds, d.canLay0 = true) → PyData.canLayAll0 ds = true
  | [], _ => rfl
  | d :: ds, h => by
    show (d.canLay0 && PyData.canLayAll0 ds) = true
    rw [h d List.mem_cons_self, lay_all fun e he => h e (List.mem_cons_of_mem _ he)]; rfl
theorem dep_all {n : Nat} : ∀ {ds : List PyData}, (∀ d ∈ ds, d.depth ≤ n) → PyData.depthAll ds ≤ n
  | [], _ => Nat.zero_le _
  | d :: ds, h => by
    show max d.depth (PyData.depthAll ds) ≤ n
    have h1 := h d List.mem_cons_self
    have h2 := dep_all (n := n) (ds := ds) fun e he => h e (List.mem_cons_of_mem _ he)
    omega
theorem wf.lay {m : Nat} : ∀ {n : Nat} {d : PyData}, wf m n d → d.canLay0 = true ∧ d.depth ≤ n
  | _, .none, _ => ⟨by simp [PyData.canLay0], by simp [PyData.depth]⟩
  | _, .bool _, _ => ⟨by simp [PyData.canLay0], by simp [PyData.depth]⟩
  | _, .int _, _ => ⟨by simp [PyData.canLay0], by simp [PyData.depth]⟩
  | _, .str s, h => ⟨by simp only [wf] at h; simp only [PyData.canLay0]; exact h, by simp [PyData.depth]⟩
  | 0, .list _, h => absurd h (fun z => by simp only [wf] at z)
  | 0, .tuple _, h => absurd h (fun z => by simp only [wf] at z)
  | n, .dict _, h => absurd h (fun z => by simp only [wf] at z)
  | n + 1, .list ds, h => by
    simp only [wf] at h
    refine ⟨?_, ?_⟩
    · simp only [PyData.canLay0]
      exact lay_all fun d hd => (wf.lay (h.2 d hd)).1
    · simp only [PyData.depth]
      have := dep_all (n := n) (ds := ds) fun d hd => (wf.lay (h.2 d hd)).2
      omega
  | n + 1, .tuple ds, h => by
    simp only [wf] at h
    refine ⟨?_, ?_⟩
    · simp only [PyData.canLay0]
      exact lay_all fun d hd => (wf.lay (h.2 d hd)).1
    · simp only [PyData.depth]
      have := dep_all (n := n) (ds := ds) fun d hd => (wf.lay (h.2 d hd)).2
      omega
theorem wf.shaped {m n : Nat} {d : PyData} (h : wf m n d) (hn : n ≤ 64) : SeqAt.shaped d = true := by
  obtain ⟨h1, h2⟩ := h.lay
  unfold SeqAt.shaped
  rw [h1, decide_eq_true (by omega : d.depth ≤ 64)]
  rfl
end
/-! ### comprehensions, iterators -/
section
variable {ρ : Rho} {μ : Mem} {Q : Val → Mem → Prop} {QD : List PyData → Mem → Prop} {fa f : FE} {fi : FI} {fl : FL} {g : FG} {t : FT} {vs : List Nat}
theorem w_comp : wp (eComp fi g t f vs ρ μ) Q = wp (fi ρ μ) fun ds μ1 => if ds.length < 16777216 then wp (compD g t f (wipeR ρ vs) ds μ1) fun es μ2 => Q (.dat (.list es)) μ2 else False := by
  unfold eComp; rw [wp_bind]; congr; funext ds μ1
  by_cases h : ds.length < 16777216
  · simp only [h, if_true, wp_bind, wp_okD]
  · simp only [h, if_false]; rfl
def datV (y : Val) (μ : Mem) (Q : PyData → Mem → Prop) : Prop := match y with
  | .dat e => Q e μ
  | _ => False
theorem w_datV {d : PyData} {QP : PyData → Mem → Prop} : datV (.dat d) μ QP = QP d μ := rfl
theorem w_compN : wp (compD g t f ρ [] μ) QD = QD [] μ := rfl
def rhoV (o : Option Rho) (k : Rho → Prop) : Prop := match o with
  | some ρ1 => k ρ1
  | none => False
theorem w_rhoV {k : Rho → Prop} : rhoV (some ρ) k = k ρ := rfl
theorem w_compC {d : PyData} {ds : List PyData} : wp (compD g t f ρ (d :: ds) μ) QD = rhoV (g (.dat d) ρ) fun ρ1 => wp (t ρ1 μ) fun c μ1 => if c = true then wp (f ρ1 μ1) fun y μ2 => datV y μ2 fun e μ3 => wp (compD g t f ρ ds μ3) fun es μ4 => QD (e :: es) μ4 else wp (compD g t f ρ ds μ1) QD := by
  have e : compD g t f ρ (d :: ds) μ = match g (.dat d) ρ with
    | some ρ1 => (t ρ1 μ).bind fun c μ1 => if c = true then (f ρ1 μ1).bind fun y μ2 => (match y with
        | .dat e => (compD g t f ρ ds μ2).bind fun es μ3 => .ok (e :: es) μ3
        | _ => .no)
      else compD g t f ρ ds μ1
    | none => .no := rfl
  rw [e]
  cases g (.dat d) ρ with
  | none => rfl
  | some ρ1 =>
    simp only [wp_bind, w_rhoV]
    congr; funext c μ1
    cases c with
    | false => rfl
    | true =>
      simp only [if_true, wp_bind]
      congr; funext y μ2
      cases y with
      | dat d => simp only [wp_bind, wp_ok, w_datV]
      | _ => rfl
theorem w_okT {c : Bool} {QT : Bool → Mem → Prop} : wp (Res.ok c μ) QT = QT c μ := rfl
def anyR (v : Val) (μ1 : Mem) : Res (List PyData) := match v with
  | .dat (.list ds) => .ok ds μ1
  | .dat (.tuple ds) => .ok ds μ1
  | .dat (.str z) => .ok (signsD z) μ1
  | .fz ds => .ok ds μ1
  | _ => .no
theorem w_any : wp (iAny fa ρ μ) QD = wp (fa ρ μ) fun v μ1 => wp (anyR v μ1) QD := by unfold iAny; rw [wp_bind]; rfl
theorem w_any_t {ds : List PyData} : wp (anyR (.dat (.tuple ds)) μ) QD = QD ds μ := rfl
theorem w_any_l {ds : List PyData} : wp (anyR (.dat (.list ds)) μ) QD = QD ds μ := rfl
theorem w_any_f {ds : List PyData} : wp (anyR (.fz ds) μ) QD = QD ds μ := rfl
def enumR (vs : List Val) (μ1 : Mem) : Res (List PyData) := match vs with
  | [v] => (match seqOf v with
    | some (_, ds) => .ok (enumD 0 ds) μ1
    | none => .no)
  | _ => .no
theorem w_enum : wp (iEnum fl ρ μ) QD = wp (fl ρ μ) fun v μ1 => wp (enumR v μ1) QD := by unfold iEnum; rw [wp_bind]; rfl
theorem w_enum_t {ds : List PyData} : wp (enumR [.dat (.tuple ds)] μ) QD = QD (enumD 0 ds) μ := rfl
theorem w_enum_l {ds : List PyData} : wp (enumR [.dat (.list ds)] μ) QD = QD (enumD 0 ds) μ := rfl
def zipR (vs : List Val) (μ1 : Mem) : Res (List PyData) := match vs with
  | [v, u] => (match v, u with
    | .dat (.list ds), .dat (.list es) => .ok (zipD ds es) μ1
    | .dat (.tuple ds), .dat (.tuple es) => .ok (zipD ds es) μ1
    | _, _ => .no)
  | _ => .no
theorem w_zip : wp (iZip fl ρ μ) QD = wp (fl ρ μ) fun v μ1 => wp (zipR v μ1) QD := by unfold iZip; rw [wp_bind]; rfl
theorem w_zip_t {ds es : List PyData} : wp (zipR [.dat (.tuple ds), .dat (.tuple es)] μ) QD = QD (zipD ds es) μ := rfl
theorem w_zip_l {ds es : List PyData} : wp (zipR [.dat (.list ds), .dat (.list es)] μ) QD = QD (zipD ds es) μ := rfl
theorem zip_nil {es : List PyData} : zipD [] es = [] := rfl
theorem zip_nil2 {ds : List PyData} : zipD ds [] = [] := by cases ds <;> rfl
theorem zip_cons {d e : PyData} {ds es : List PyData} : zipD (d :: ds) (e :: es) = .tuple [d, e] :: zipD ds es := rfl
def rangeR (vs : List Val) (μ1 : Mem) : Res (List PyData) := match vs with
  | [.dat (.int j)] => if j < 4611686018427387904 ∧ -4611686018427387904 ≤ j then .ok (rangeD 0 j.toNat) μ1 else .no
  | [.dat (.int i), .dat (.int j)] => if i < 4611686018427387904 ∧ -4611686018427387904 ≤ i ∧ j < 4611686018427387904 ∧ -4611686018427387904 ≤ j then .ok (rangeD i (j - i).toNat) μ1 else .no
  | _ => .no
theorem w_range : wp (iRange fl ρ μ) QD = wp (fl ρ μ) fun v μ1 => wp (rangeR v μ1) QD := by
  unfold iRange; rw [wp_bind]; rfl
theorem w_range1 {j : Int} (h : j < 4611686018427387904 ∧ -4611686018427387904 ≤ j) : wp (rangeR [.dat (.int j)] μ) QD = QD (rangeD 0 j.toNat) μ := by
  show wp (if _ then _ else _) QD = _
  rw [if_pos h]; rfl
theorem w_all {bs : List Bool} {ds : List PyData} (h : boolsD ds = some bs) : wp (c1 allD [.dat (.list ds)] μ) Q = Q (.dat (.bool (bs.all id))) μ := by
  show wp (match boolsD ds with | some bs => _ | none => _) Q = _
  rw [h]; rfl
theorem w_anyB {bs : List Bool} {ds : List PyData} (h : boolsD ds = some bs) : wp (c1 anyD [.dat (.list ds)] μ) Q = Q (.dat (.bool (bs.any id))) μ := by
  show wp (match boolsD ds with | some bs => _ | none => _) Q = _
  rw [h]; rfl
theorem tg_nm {i : Nat} {v : Val} : (Tg.data (.nm i)) v ρ = some (ρ.set i (some v)) := rfl
theorem tg_tp2 {i j : Nat} {a b : PyData} : (Tg.data (.tp [i, j])) (.dat (.tuple [a, b])) ρ = some ((ρ.set i (some (.dat a))).set j (some (.dat b))) := rfl
theorem wipe_nil : wipeR ρ [] = ρ := rfl
theorem wipe_cons {i : Nat} {is : List Nat} : wipeR ρ (i :: is) = (wipeR ρ is).set i none := rfl
theorem boolsD_map {α : Type} (h : α → Bool) : ∀ ds : List α, boolsD (ds.map fun d => .bool (h d)) = some (ds.map h)
  | [] => rfl
  | d :: ds => by
    rw [List.map_cons]
    unfold boolsD
    rw [boolsD_map h ds]; rfl
/-- all items the same way, the memory as it was -/
theorem cmp_map {r : PyData → Rho} {h : PyData → PyData} : ∀ (ds : List PyData) {QD : List PyData → Mem → Prop}, (∀ d ∈ ds, g (.dat d) ρ = some (r d)) → (∀ d ∈ ds, ∀ Q : Val → Mem → Prop, Q (.dat (h d)) μ → wp (f (r d) μ) Q) → wp (compD g (fun _ μ => .ok true μ) f ρ ds μ) QD = QD (ds.map h) μ
  | [], _, _, _ => rfl
  | d :: ds, QD, hg, hf => by
    obtain ⟨a, μ', e, h1, h2⟩ := wp_ex (hf d List.mem_cons_self (fun a μ' => a = .dat (h d) ∧ μ' = μ) ⟨rfl, rfl⟩)
    rw [h1, h2] at e
    rw [w_compC, hg d List.mem_cons_self, w_rhoV, w_okT, if_pos rfl, e, wp_ok, w_datV, cmp_map ds (fun d hd => hg d (List.mem_cons_of_mem _ hd)) (fun d hd => hf d (List.mem_cons_of_mem _ hd))]
    rfl
/-- all items kept as a test says -/
theorem cmp_filter {r : PyData → Rho} {h : PyData → PyData} {c : PyData → Bool} : ∀ (ds : List PyData) {QD : List PyData → Mem → Prop}, (∀ d ∈ ds, g (.dat d) ρ = some (r d)) → (∀ d ∈ ds, ∀ Q : Bool → Mem → Prop, Q (c d) μ → wp (t (r d) μ) Q) →
    (∀ d ∈ ds, ∀ Q : Val → Mem → Prop, Q (.dat (h d)) μ → wp (f (r d) μ) Q) → wp (compD g t f ρ ds μ) QD = QD ((ds.filter c).map h) μ
  | [], _, _, _, _ => rfl
  | d :: ds, QD, hg, ht, hf => by
    obtain ⟨a, μ', e, h1, h2⟩ := wp_ex (hf d List.mem_cons_self (fun a μ' => a = .dat (h d) ∧ μ' = μ) ⟨rfl, rfl⟩)
    rw [h1, h2] at e
    obtain ⟨a, μ', e2, h1, h2⟩ := wp_ex (ht d List.mem_cons_self (fun a μ' => a = c d ∧ μ' = μ) ⟨rfl, rfl⟩)
    rw [h1, h2] at e2
    have ih := fun QD => cmp_filter ds (QD := QD) (fun d hd => hg d (List.mem_cons_of_mem _ hd)) (fun d hd => ht d (List.mem_cons_of_mem _ hd)) (fun d hd => hf d (List.mem_cons_of_mem _ hd))
    rw [w_compC, hg d List.mem_cons_self, w_rhoV, e2, wp_ok]
    cases q : c d with
    | true =>
      rw [if_pos rfl, e, wp_ok, w_datV, ih, List.filter_cons, q, if_pos rfl]
      rfl
    | false =>
      rw [if_neg (by simp), ih, List.filter_cons, q, if_neg (by simp)]
end
end DN
set_option Elab.async false
set_option linter.all false
set_option maxRecDepth 100000
set_option maxHeartbeats 8000000
namespace K01
open PySem PySem.Spec PyProof.Rows L2 DN
def b_is_number : FS := (sSeq (sRet (eAnd (eUn (gIsT "int") (eVar 0)) (eAnd (eUn gNot (eUn (gIsT "bool") (eVar 0))) (eChain (gOrd .le) (gOrd .le) (eVar 1) (eVar 0) (eVar 2))))) sPass)
def F_is_number : DF := bodyF 3 false b_is_number
def c_is_number : Cfg := ⟨["value", "least", "most"], [], [], []⟩
def b_is_tuple : FS := (sSeq (sRet (eAnd (eUn (gIsT "tuple") (eVar 0)) (eChain (gOrd .le) (gOrd .le) (eVar 1) (eArgs (c1 lenD) (lCons (eVar 0) lNil)) (eVar 2)))) sPass)
def F_is_tuple : DF := bodyF 3 false b_is_tuple
def c_is_tuple : Cfg := ⟨["value", "least", "most"], [], [], []⟩
def b_is_part : FS := (sSeq (sIf (fOr (fNot (tOf (eArgs (gCall 3 F_is_tuple) (lCons (eVar 0) (lCons (eC (.int 3)) (lCons (eC (.int 3)) lNil)))))) (fNot (tOf (eArgs (gCall 3 F_is_number) (lCons (eBin gIdx (eVar 0) (eC (.int 0))) (lCons (eC (.int 0)) (lCons (eC (.int 9)) lNil))))))) (sSeq (sRet (eC (.bool false))) sPass) sPass) (sSeq (sRet (eAnd (eArgs (gCall 3 F_is_number) (lCons (eBin gIdx (eVar 0) (eC (.int 1))) (lCons (eC (.int 0)) (lCons (eC (.int 2)) lNil)))) (eAnd (eArgs (gCall 3 F_is_number) (lCons (eBin gIdx (eVar 0) (eC (.int 2))) (lCons (eC (.int 0)) (lCons (eC (.int 9)) lNil)))) (eBin (gEq true) (eCut (eVar 0) (oSome (eC (.int 1))) oNone) (eArgs DN.gTup (lCons (eC (.int 0)) (lCons (eC (.int 0)) lNil))))))) sPass))
def F_is_part : DF := bodyF 1 false b_is_part
def c_is_part : Cfg := ⟨["value"], [("is_number", 3, F_is_number), ("is_tuple", 3, F_is_tuple)], [], []⟩
def b_is_good_pattern : FS := (sSeq (sIf (fOr (fNot (tOf (eArgs (gCall 3 F_is_tuple) (lCons (eVar 0) (lCons (eC (.int 1)) (lCons (eC (.int 3)) lNil)))))) (fNot (tOf (eArgs (c1 allD) (lCons (eComp (iAny (eVar 0)) (Tg.data (.nm 1)) (fun _ μ => .ok true μ) (eArgs (gCall 1 F_is_part) (lCons (eVar 1) lNil)) [1]) lNil))))) (sSeq (sRet (eC (.bool false))) sPass) sPass) (sSeq (sIf (tOf (eArgs (c1 anyD) (lCons (eComp (iZip (lCons (eVar 0) (lCons (eCut (eVar 0) (oSome (eC (.int 1))) oNone) lNil))) (Tg.data (.tp [2, 3])) (fun _ μ => .ok true μ) (eBin (gEq false) (eBin gIdx (eVar 2) (eC (.int 0))) (eBin gIdx (eVar 3) (eC (.int 0)))) [2, 3]) lNil))) (sSeq (sRet (eC (.bool false))) sPass) sPass) (sSeq (sRet (eOr (eBin (gOrd .gt) (eBin gIdx (eBin gIdx (eVar 0) (eC (.int 0))) (eC (.int 0))) (eC (.int 0))) (eBin (gEq false) (eVar 0) (eArgs DN.gTup (lCons (eArgs DN.gTup (lCons (eC (.int 0)) (lCons (eC (.int 0)) (lCons (eC (.int 1)) lNil)))) lNil))))) sPass)))
def F_is_good_pattern : DF := bodyF 4 false b_is_good_pattern
def c_is_good_pattern : Cfg := ⟨["value", "part", "one", "other"], [("is_part", 1, F_is_part), ("is_tuple", 3, F_is_tuple)], [], []⟩
def b_is_row : FS := (sSeq (sIf (fOr (fNot (tOf (eArgs (gCall 3 F_is_tuple) (lCons (eVar 0) (lCons (eC (.int 2)) (lCons (eC (.int 3)) lNil)))))) (fNot (tOf (eUn (gIsT "str") (eBin gIdx (eVar 0) (eC (.int 0))))))) (sSeq (sRet (eC (.bool false))) sPass) sPass) (sSeq (sPar2 2 3 (lCons (eBin gIdx (eVar 0) (eC (.int 0))) (lCons (eCut (eVar 0) (oSome (eC (.int 1))) oNone) lNil))) (sSeq (sIf (tOf (eBin (gEq false) (eVar 2) (eC (.str "write")))) (sSeq (sRet (eAnd (eBin (gEq false) (eArgs (c1 lenD) (lCons (eVar 3) lNil)) (eC (.int 1))) (eArgs (gCall 1 F_is_good_pattern) (lCons (eBin gIdx (eVar 3) (eC (.int 0))) lNil)))) sPass) sPass) (sSeq (sIf (fNot (tOf (eArgs (gCall 3 F_is_number) (lCons (eBin gIdx (eVar 3) (eC (.int 0))) (lCons (eC (.int 0)) (lCons (eBin gSub (eVar 1) (eC (.int 1))) lNil)))))) (sSeq (sRet (eC (.bool false))) sPass) sPass) (sSeq (sIf (tOf (eBin (gEq false) (eVar 2) (eC (.str "back")))) (sSeq (sRet (eBin (gEq false) (eArgs (c1 lenD) (lCons (eVar 3) lNil)) (eC (.int 1)))) sPass) sPass) (sSeq (sIf (tOf (eBin (gEq false) (eArgs (c1 lenD) (lCons (eVar 3) lNil)) (eC (.int 1)))) (sSeq (sRet (eC (.bool false))) sPass) sPass) (sSeq (sIf (tOf (eBin (gIn false) (eVar 2) (eArgs DN.gTup (lCons (eC (.str "add")) (lCons (eC (.str "apart")) (lCons (eC (.str "join")) lNil)))))) (sSeq (sRet (eArgs (gCall 3 F_is_number) (lCons (eBin gIdx (eVar 3) (eC (.int 1))) (lCons (eC (.int 0)) (lCons (eBin gSub (eVar 1) (eC (.int 1))) lNil))))) sPass) sPass) (sSeq (sRet (eIf (tOf (eBin (gEq false) (eVar 2) (eC (.str "times")))) (eArgs (gCall 3 F_is_number) (lCons (eBin gIdx (eVar 3) (eC (.int 1))) (lCons (eC (.int 0)) (lCons (eC (.int 99)) lNil)))) (eAnd (eBin (gEq false) (eVar 2) (eC (.str "drop"))) (eArgs (gCall 3 F_is_number) (lCons (eBin gIdx (eVar 3) (eC (.int 1))) (lCons (eC (.int 1)) (lCons (eC (.int 20)) lNil))))))) sPass))))))))
def F_is_row : DF := bodyF 4 false b_is_row
def c_is_row : Cfg := ⟨["value", "ahead", "word", "rest"], [("is_number", 3, F_is_number), ("is_good_pattern", 1, F_is_good_pattern), ("is_tuple", 3, F_is_tuple)], [], []⟩
def b_is_good_script : FS := (sSeq (sIf (fOr (fNot (tOf (eArgs (gCall 3 F_is_tuple) (lCons (eVar 0) (lCons (eC (.int 1)) (lCons (eC (.int 6)) lNil)))))) (fNot (tOf (eArgs (c1 allD) (lCons (eComp (iEnum (lCons (eVar 0) lNil)) (Tg.data (.tp [1, 2])) (fun _ μ => .ok true μ) (eArgs (gCall 2 F_is_row) (lCons (eVar 2) (lCons (eVar 1) lNil))) [1, 2]) lNil))))) (sSeq (sRet (eC (.bool false))) sPass) sPass) (sSeq (sRet (eBin (gOrd .lt) (eArgs (c1 lenD) (lCons (eComp (iAny (eVar 0)) (Tg.data (.nm 2)) (tOf (eBin (gEq false) (eBin gIdx (eVar 2) (eC (.int 0))) (eC (.str "join")))) (eVar 2) [2]) lNil)) (eC (.int 3)))) sPass))
def F_is_good_script : DF := bodyF 3 false b_is_good_script
def c_is_good_script : Cfg := ⟨["value", "ahead", "row"], [("is_row", 2, F_is_row), ("is_tuple", 3, F_is_tuple)], [], []⟩
def b_is_pattern : FS := (sSeq (sRet (eArgs (gCall 1 F_is_good_pattern) (lCons (eVar 0) lNil))) sPass)
def F_is_pattern : DF := bodyF 1 false b_is_pattern
def c_is_pattern : Cfg := ⟨["value"], [("is_good_pattern", 1, F_is_good_pattern)], [], []⟩
def b_is_script : FS := (sSeq (sRet (eArgs (gCall 1 F_is_good_script) (lCons (eVar 0) lNil))) sPass)
def F_is_script : DF := bodyF 1 false b_is_script
def c_is_script : Cfg := ⟨["value"], [("is_good_script", 1, F_is_good_script)], [], []⟩
def b_l_source : FS := (sSeq (sAsg (eC (.int 0)) (gNm 2)) (sSeq (sIf (tOf (eBin (gOrd .lt) (eVar 1) (eArgs (c1 lenD) (lCons (eVar 0) lNil)))) (sSeq (sAsg (eArgs (c1 absD) (lCons (eArgs (c1 intD) (lCons (eBin gIdx (eVar 0) (eVar 1)) lNil)) lNil)) (gNm 2)) sPass) sPass) (sSeq (sIf (tOf (eBin (gOrd .lt) (eVar 2) (eBin gPow (eC (.int 10)) (eC (.int 18))))) (sSeq (sRet (eArgs gLstC (lCons (eC (.int 0)) (lCons (eBin gAdd (eC (.int 1)) (eBin gMod (eArgs (c1 intD) (lCons (eBin gAdd (eBin gMul (eVar 2) (eC (.int 7919))) (eBin gMul (eC (.int 104729)) (eVar 1))) lNil)) (eC (.int 2147483646)))) lNil)))) sPass) sPass) (sSeq (sRet (eArgs gLstC (lCons (eVar 2) (lCons (eBin gAdd (eC (.int 1)) (eBin gMod (eArgs (c1 intD) (lCons (eBin gAdd (eVar 2) (eVar 1)) lNil)) (eC (.int 2147483646)))) lNil)))) sPass))))
def F_l_source : DF := bodyF 3 true b_l_source
def c_l_source : Cfg := ⟨["_law_script_here", "_law_k", "_law_cell"], [], [], ["return"]⟩
def b_l_draw : FS := (sSeq (sIf (tOf (eBin (gOrd .gt) (eBin gIdx (eVar 0) (eC (.int 0))) (eC (.int 0)))) (sSeq (sAsg (eBin gMod (eArgs (c1 intD) (lCons (eBin gIdx (eVar 0) (eC (.int 0))) lNil)) (eVar 1)) (gNm 2)) (sSeq (sSet (eBin gFdiv (eBin gIdx (eVar 0) (eC (.int 0))) (eVar 1)) (eVar 0) (eC (.int 0))) (sSeq (sRet (eVar 2)) sPass))) sPass) (sSeq (sSet (eBin gMod (eArgs (c1 intD) (lCons (eBin gMul (eBin gIdx (eVar 0) (eC (.int 1))) (eC (.int 48271))) lNil)) (eC (.int 2147483647))) (eVar 0) (eC (.int 1))) (sSeq (sRet (eBin gMod (eArgs (c1 intD) (lCons (eBin gFdiv (eBin gMod (eArgs (c1 intD) (lCons (eBin gMul (eBin gIdx (eVar 0) (eC (.int 1))) (eBin gIdx (eVar 0) (eC (.int 1)))) lNil)) (eC (.int 2147483629))) (eC (.int 64))) lNil)) (eVar 1))) sPass)))
def F_l_draw : DF := bodyF 3 false b_l_draw
def c_l_draw : Cfg := ⟨["_law_source_here", "_law_many", "_law_found"], [], [], []⟩
def b_l_of : FS := (sSeq (sRet (eBin gIdx (eVar 1) (eArgs (gCall 2 F_l_draw) (lCons (eVar 0) (lCons (eArgs (c1 lenD) (lCons (eVar 1) lNil)) lNil))))) sPass)
def F_l_of : DF := bodyF 2 false b_l_of
def c_l_of : Cfg := ⟨["_law_source_here", "_law_items"], [("_law_draw", 2, F_l_draw)], [], []⟩
def lb_l_pattern_0 : FS := (sSeq (sAsg (eArgs (gCall 2 F_l_of) (lCons (eVar 0) (lCons (eArgs gLst (lCons (eC (.int 0)) (lCons (eC (.int 0)) (lCons (eC (.int 9)) (lCons (eC (.int 9)) (lCons (eC (.int 1)) (lCons (eC (.int 5)) (lCons (eC (.int 4)) (lCons (eArgs (gCall 2 F_l_draw) (lCons (eVar 0) (lCons (eC (.int 10)) lNil))) lNil))))))))) lNil))) (gNm 4)) (sSeq (sIf (tOf (eBin (gEq false) (eVar 4) (eVar 2))) (sSeq (sAsg (eBin gMod (eBin gAdd (eBin gAdd (eVar 4) (eC (.int 1))) (eArgs (gCall 2 F_l_draw) (lCons (eVar 0) (lCons (eC (.int 9)) lNil)))) (eC (.int 10))) (gNm 4)) sPass) sPass) (sSeq (sAsg (eArgs (gCall 2 F_l_of) (lCons (eVar 0) (lCons (eArgs gLst (lCons (eArgs DN.gTup (lCons (eC (.int 0)) (lCons (eC (.int 1)) lNil))) (lCons (eArgs DN.gTup (lCons (eC (.int 0)) (lCons (eC (.int 2)) lNil))) (lCons (eArgs DN.gTup (lCons (eC (.int 1)) (lCons (eC (.int 0)) lNil))) (lCons (eArgs DN.gTup (lCons (eC (.int 1)) (lCons (eC (.int 0)) lNil))) (lCons (eArgs DN.gTup (lCons (eC (.int 1)) (lCons (eC (.int 1)) lNil))) (lCons (eArgs DN.gTup (lCons (eC (.int 2)) (lCons (eC (.int 0)) lNil))) lNil))))))) lNil))) (gNm 5)) (sSeq (sIf (tOf (eBin (gEq false) (eArgs (gCall 2 F_l_draw) (lCons (eVar 0) (lCons (eC (.int 4)) lNil))) (eC (.int 0)))) (sSeq (sAsg (eArgs DN.gTup (lCons (eArgs (gCall 2 F_l_draw) (lCons (eVar 0) (lCons (eC (.int 3)) lNil))) (lCons (eBin gAdd (eC (.int 1)) (eArgs (gCall 2 F_l_draw) (lCons (eVar 0) (lCons (eC (.int 9)) lNil)))) lNil))) (gNm 5)) sPass) sPass) (sSeq (sPar2 1 2 (lCons (eBin gAdd (eVar 1) (eArgs DN.gTup (lCons (eBin gAdd (eArgs DN.gTup (lCons (eVar 4) lNil)) (eVar 5)) lNil))) (lCons (eVar 4) lNil))) sPass)))))
def b_l_pattern : FS := (sSeq (sAsg (eArgs DN.gTup (lCons (eArgs DN.gTup lNil) (lCons (eC (.int 0)) lNil))) (gTp 2 (gCn (gNm 1) (gCn (gNm 2) gNl)))) (sSeq (sFor (iRange (lCons (eBin gAdd (eC (.int 1)) (eArgs (gCall 2 F_l_draw) (lCons (eVar 0) (lCons (eC (.int 3)) lNil)))) lNil)) (gNm 3) lb_l_pattern_0) (sSeq (sIf (tOf (eBin (gEq false) (eBin gIdx (eBin gIdx (eVar 1) (eC (.int 0))) (eC (.int 0))) (eC (.int 0)))) (sSeq (sRet (eArgs DN.gTup (lCons (eArgs DN.gTup (lCons (eC (.int 0)) (lCons (eC (.int 0)) (lCons (eC (.int 1)) lNil)))) lNil))) sPass) sPass) (sSeq (sRet (eVar 1)) sPass))))
def F_l_pattern : DF := bodyF 6 false b_l_pattern
def c_l_pattern : Cfg := ⟨["_law_source_here", "_law_found", "_law_last", "_law_turn", "_law_figure", "_law_pair"], [("_law_draw", 2, F_l_draw), ("_law_of", 2, F_l_of)], [], []⟩
def lb_l_script_0 : FS := (sSeq (sPar2 4 5 (lCons (eArgs (gCall 2 F_l_draw) (lCons (eVar 0) (lCons (eArgs (c1 lenD) (lCons (eVar 2) lNil)) lNil))) (lCons (eArgs (gCall 2 F_l_draw) (lCons (eVar 0) (lCons (eArgs (c1 lenD) (lCons (eVar 2) lNil)) lNil))) lNil))) (sSeq (sAsg (eArgs gLst (lCons (eC (.str "write")) (lCons (eC (.str "write")) (lCons (eC (.str "add")) (lCons (eC (.str "add")) (lCons (eC (.str "apart")) (lCons (eC (.str "apart")) (lCons (eC (.str "times")) (lCons (eC (.str "back")) (lCons (eC (.str "drop")) (lCons (eC (.str "join")) lNil))))))))))) (gNm 6)) (sSeq (sAsg (eArgs (gCall 2 F_l_of) (lCons (eVar 0) (lCons (eIf (tOf (eBin (gOrd .gt) (eVar 3) (eC (.int 1)))) (eCut (eVar 6) oNone (oSome (eUn gNeg (eC (.int 1))))) (eVar 6)) lNil))) (gNm 7)) (sSeq (sAsg (eBin gAdd (eVar 3) (eArgs (c1 intD) (lCons (eBin (gEq false) (eVar 7) (eC (.str "join"))) lNil))) (gNm 3)) (sSeq (sAsg (eArgs DN.gTup (lCons (eVar 7) (lCons (eVar 4) (lCons (eVar 5) lNil)))) (gNm 8)) (sSeq (sIf (tOf (eBin (gEq false) (eVar 7) (eC (.str "write")))) (sSeq (sAsg (eArgs DN.gTup (lCons (eVar 7) (lCons (eArgs (gCall 1 F_l_pattern) (lCons (eVar 0) lNil)) lNil))) (gNm 8)) sPass) (sSeq (sIf (tOf (eBin (gEq false) (eVar 7) (eC (.str "times")))) (sSeq (sAsg (eArgs (gCall 2 F_l_of) (lCons (eVar 0) (lCons (eArgs gLst (lCons (eC (.int 0)) (lCons (eC (.int 1)) (lCons (eC (.int 2)) (lCons (eC (.int 3)) (lCons (eC (.int 9)) (lCons (eC (.int 11)) (lCons (eC (.int 99)) (lCons (eArgs (gCall 2 F_l_draw) (lCons (eVar 0) (lCons (eC (.int 100)) lNil))) lNil))))))))) lNil))) (gNm 9)) (sSeq (sAsg (eArgs DN.gTup (lCons (eVar 7) (lCons (eVar 4) (lCons (eVar 9) lNil)))) (gNm 8)) sPass)) (sSeq (sIf (tOf (eBin (gEq false) (eVar 7) (eC (.str "drop")))) (sSeq (sAsg (eArgs DN.gTup (lCons (eVar 7) (lCons (eVar 4) (lCons (eArgs (gCall 2 F_l_of) (lCons (eVar 0) (lCons (eArgs gLst (lCons (eC (.int 1)) (lCons (eC (.int 1)) (lCons (eC (.int 2)) (lCons (eC (.int 3)) (lCons (eBin gAdd (eC (.int 1)) (eArgs (gCall 2 F_l_draw) (lCons (eVar 0) (lCons (eC (.int 9)) lNil)))) lNil)))))) lNil))) lNil)))) (gNm 8)) sPass) sPass) sPass)) sPass)) (sSeq (sAsg (eBin gAdd (eVar 2) (eArgs DN.gTup (lCons (eIf (tOf (eBin (gEq false) (eVar 7) (eC (.str "back")))) (eCut (eVar 8) oNone (oSome (eC (.int 2)))) (eVar 8)) lNil))) (gNm 2)) sPass)))))))
def b_l_script : FS := (sSeq (sPar2 2 3 (lCons (eArgs DN.gTup (lCons (eArgs DN.gTup (lCons (eC (.str "write")) (lCons (eArgs (gCall 1 F_l_pattern) (lCons (eVar 0) lNil)) lNil))) lNil)) (lCons (eC (.int 0)) lNil))) (sSeq (sWhile (fAnd (tOf (eBin (gOrd .lt) (eArgs (c1 lenD) (lCons (eVar 2) lNil)) (eVar 1))) (tOf (eBin (gOrd .gt) (eArgs (gCall 2 F_l_draw) (lCons (eVar 0) (lCons (eC (.int 6)) lNil))) (eC (.int 0))))) lb_l_script_0) (sSeq (sRet (eVar 2)) sPass)))
def F_l_script : DF := bodyF 10 false b_l_script
def c_l_script : Cfg := ⟨["_law_source_here", "_law_most", "_law_rows", "_law_joins", "_law_one", "_law_other", "_law_words", "_law_word", "_law_row", "_law_many"], [("_law_draw", 2, F_l_draw), ("_law_pattern", 1, F_l_pattern), ("_law_of", 2, F_l_of)], [], []⟩
def b_l_is_int : FS := (sSeq (sRet (eAnd (eUn (gIsT "int") (eVar 0)) (eAnd (eUn gNot (eUn (gIsT "bool") (eVar 0))) (eChain (gOrd .le) (gOrd .le) (eVar 1) (eVar 0) (eVar 2))))) sPass)
def F_l_is_int : DF := bodyF 3 false b_l_is_int
def c_l_is_int : Cfg := ⟨["_law_value", "_law_least", "_law_top"], [], [], []⟩
def lb_l_is_pattern_0 : FS := (sSeq (sIf (fOr (fNot (tOf (eUn (gIsT "tuple") (eVar 2)))) (fOr (tOf (eBin (gEq true) (eArgs (c1 lenD) (lCons (eVar 2) lNil)) (eC (.int 3)))) (fNot (tOf (eArgs (gCall 3 F_l_is_int) (lCons (eBin gIdx (eVar 2) (eC (.int 0))) (lCons (eC (.int 0)) (lCons (eC (.int 9)) lNil)))))))) (sSeq (sRet (eC (.bool false))) sPass) sPass) (sSeq (sIf (fOr (fNot (tOf (eArgs (gCall 3 F_l_is_int) (lCons (eBin gIdx (eVar 2) (eC (.int 1))) (lCons (eC (.int 0)) (lCons (eC (.int 2)) lNil)))))) (fNot (tOf (eArgs (gCall 3 F_l_is_int) (lCons (eBin gIdx (eVar 2) (eC (.int 2))) (lCons (eC (.int 0)) (lCons (eC (.int 9)) lNil))))))) (sSeq (sRet (eC (.bool false))) sPass) sPass) (sSeq (sIf (fOr (tOf (eBin (gEq false) (eBin gAdd (eBin gIdx (eVar 2) (eC (.int 1))) (eBin gIdx (eVar 2) (eC (.int 2)))) (eC (.int 0)))) (tOf (eBin (gEq false) (eBin gIdx (eVar 2) (eC (.int 0))) (eVar 1)))) (sSeq (sRet (eC (.bool false))) sPass) sPass) (sSeq (sAsg (eBin gIdx (eVar 2) (eC (.int 0))) (gNm 1)) sPass))))
def b_l_is_pattern : FS := (sSeq (sIf (fOr (fNot (tOf (eUn (gIsT "tuple") (eVar 0)))) (fNot (tOf (eChain (gOrd .le) (gOrd .le) (eC (.int 1)) (eArgs (c1 lenD) (lCons (eVar 0) lNil)) (eC (.int 3)))))) (sSeq (sRet (eC (.bool false))) sPass) sPass) (sSeq (sAsg (eC .none) (gNm 1)) (sSeq (sFor (iAny (eVar 0)) (gNm 2) lb_l_is_pattern_0) (sSeq (sRet (eOr (eBin (gEq true) (eBin gIdx (eBin gIdx (eVar 0) (eC (.int 0))) (eC (.int 0))) (eC (.int 0))) (eBin (gEq false) (eVar 0) (eArgs DN.gTup (lCons (eArgs DN.gTup (lCons (eC (.int 0)) (lCons (eC (.int 0)) (lCons (eC (.int 1)) lNil)))) lNil))))) sPass))))
def F_l_is_pattern : DF := bodyF 3 false b_l_is_pattern
def c_l_is_pattern : Cfg := ⟨["_law_value", "_law_last", "_law_part"], [("_law_is_int", 3, F_l_is_int)], [], []⟩
def b_l_is_row : FS := (sSeq (sIf (fOr (fNot (tOf (eUn (gIsT "tuple") (eVar 0)))) (fOr (tOf (eBin (gOrd .lt) (eArgs (c1 lenD) (lCons (eVar 0) lNil)) (eC (.int 2)))) (fNot (tOf (eUn (gIsT "str") (eBin gIdx (eVar 0) (eC (.int 0)))))))) (sSeq (sRet (eC (.bool false))) sPass) sPass) (sSeq (sIf (tOf (eBin (gEq false) (eBin gIdx (eVar 0) (eC (.int 0))) (eC (.str "write")))) (sSeq (sRet (eAnd (eBin (gEq false) (eArgs (c1 lenD) (lCons (eVar 0) lNil)) (eC (.int 2))) (eArgs (gCall 1 F_l_is_pattern) (lCons (eBin gIdx (eVar 0) (eC (.int 1))) lNil)))) sPass) sPass) (sSeq (sIf (fNot (tOf (eArgs (gCall 3 F_l_is_int) (lCons (eBin gIdx (eVar 0) (eC (.int 1))) (lCons (eC (.int 0)) (lCons (eBin gSub (eVar 1) (eC (.int 1))) lNil)))))) (sSeq (sRet (eC (.bool false))) sPass) sPass) (sSeq (sIf (fOr (tOf (eBin (gEq false) (eBin gIdx (eVar 0) (eC (.int 0))) (eC (.str "back")))) (tOf (eBin (gEq true) (eArgs (c1 lenD) (lCons (eVar 0) lNil)) (eC (.int 3))))) (sSeq (sRet (eAnd (eBin (gEq false) (eBin gIdx (eVar 0) (eC (.int 0))) (eC (.str "back"))) (eBin (gEq false) (eArgs (c1 lenD) (lCons (eVar 0) lNil)) (eC (.int 2))))) sPass) sPass) (sSeq (sIf (tOf (eBin (gIn false) (eBin gIdx (eVar 0) (eC (.int 0))) (eArgs DN.gTup (lCons (eC (.str "add")) (lCons (eC (.str "apart")) (lCons (eC (.str "join")) lNil)))))) (sSeq (sRet (eArgs (gCall 3 F_l_is_int) (lCons (eBin gIdx (eVar 0) (eC (.int 2))) (lCons (eC (.int 0)) (lCons (eBin gSub (eVar 1) (eC (.int 1))) lNil))))) sPass) sPass) (sSeq (sIf (tOf (eBin (gEq false) (eBin gIdx (eVar 0) (eC (.int 0))) (eC (.str "times")))) (sSeq (sRet (eArgs (gCall 3 F_l_is_int) (lCons (eBin gIdx (eVar 0) (eC (.int 2))) (lCons (eC (.int 0)) (lCons (eC (.int 99)) lNil))))) sPass) sPass) (sSeq (sRet (eAnd (eBin (gEq false) (eBin gIdx (eVar 0) (eC (.int 0))) (eC (.str "drop"))) (eArgs (gCall 3 F_l_is_int) (lCons (eBin gIdx (eVar 0) (eC (.int 2))) (lCons (eC (.int 1)) (lCons (eC (.int 20)) lNil)))))) sPass)))))))
def F_l_is_row : DF := bodyF 2 false b_l_is_row
def c_l_is_row : Cfg := ⟨["_law_value", "_law_ahead"], [("_law_is_int", 3, F_l_is_int), ("_law_is_pattern", 1, F_l_is_pattern)], [], []⟩
def lb_l_is_script_0 : FS := (sSeq (sIf (fNot (tOf (eArgs (gCall 2 F_l_is_row) (lCons (eVar 2) (lCons (eVar 1) lNil))))) (sSeq (sRet (eC (.bool false))) sPass) sPass) sPass)
def b_l_is_script : FS := (sSeq (sIf (fOr (fNot (tOf (eUn (gIsT "tuple") (eVar 0)))) (fNot (tOf (eChain (gOrd .le) (gOrd .le) (eC (.int 1)) (eArgs (c1 lenD) (lCons (eVar 0) lNil)) (eC (.int 6)))))) (sSeq (sRet (eC (.bool false))) sPass) sPass) (sSeq (sFor (iEnum (lCons (eVar 0) lNil)) (gTp 2 (gCn (gNm 1) (gCn (gNm 2) gNl))) lb_l_is_script_0) (sSeq (sRet (eBin (gOrd .lt) (eMeth "list" gCount (eComp (iAny (eVar 0)) (Tg.data (.nm 2)) (fun _ μ => .ok true μ) (eBin gIdx (eVar 2) (eC (.int 0))) [2]) (lCons (eC (.str "join")) lNil)) (eC (.int 3)))) sPass)))
def F_l_is_script : DF := bodyF 3 false b_l_is_script
def c_l_is_script : Cfg := ⟨["_law_value", "_law_ahead", "_law_row"], [("_law_is_row", 2, F_l_is_row)], [], []⟩
def b_l_odd : FS := (sSeq (sAsg (eArgs gLst (lCons (eC .none) (lCons (eC (.bool true)) (lCons (eC (.bool false)) (lCons (eC (.int 0)) (lCons (eC (.int 1)) (lCons (eC (.int 2)) (lCons (eC (.int 3)) (lCons (eC (.int 9)) (lCons (eC (.int 10)) (lCons (eC (.int 20)) (lCons (eC (.int 21)) (lCons (eC (.int 99)) (lCons (eC (.int 100)) (lCons (eUn gNeg (eC (.int 1))) (lCons (eBin gPow (eC (.int 10)) (eC (.int 30))) (lCons (eC (.str "")) lNil))))))))))))))))) (gNm 1)) (sSeq (sAsg (eBin gAdd (eVar 1) (eArgs gLst (lCons (eC (.str "write")) (lCons (eC (.str "join")) (lCons (eC (.str "drop")) (lCons (eArgs DN.gTup lNil) (lCons (eArgs gLst lNil) (lCons (eArgs DN.gTup (lCons (eC (.int 0)) (lCons (eC (.int 0)) (lCons (eC (.int 1)) lNil)))) (lCons (eArgs DN.gTup (lCons (eC (.int 9)) (lCons (eC (.int 1)) (lCons (eC (.int 0)) lNil)))) (lCons (eArgs DN.gTup (lCons (eC (.int 9)) (lCons (eC (.int 0)) (lCons (eC (.int 0)) lNil)))) lNil)))))))))) (gNm 1)) (sSeq (sRet (eArgs (gCall 2 F_l_of) (lCons (eVar 0) (lCons (eBin gAdd (eVar 1) (eArgs gLst (lCons (eArgs DN.gTup (lCons (eC (.str "back")) (lCons (eC (.int 0)) lNil))) (lCons (eArgs DN.gTup (lCons (eC (.str "join")) (lCons (eC (.int 0)) (lCons (eC (.int 0)) lNil)))) (lCons (eC (.str "times")) (lCons (eC (.int 5)) lNil)))))) lNil)))) sPass)))
def F_l_odd : DF := bodyF 2 false b_l_odd
def c_l_odd : Cfg := ⟨["_law_source_here", "_law_items"], [("_law_of", 2, F_l_of)], [], []⟩
def b_l_spoilt (g : DF) : FS := (sSeq (sIf (fOr (fNot (tOf (eUn (gIsT "tuple") (eVar 1)))) (fOr (tOf (eBin (gEq false) (eVar 1) (eArgs DN.gTup lNil))) (tOf (eBin (gEq false) (eArgs (gCall 2 F_l_draw) (lCons (eVar 0) (lCons (eC (.int 6)) lNil))) (eC (.int 0)))))) (sSeq (sRet (eArgs (gCall 1 F_l_odd) (lCons (eVar 0) lNil))) sPass) sPass) (sSeq (sPar2 2 3 (lCons (eArgs (gCall 2 F_l_draw) (lCons (eVar 0) (lCons (eArgs (c1 lenD) (lCons (eVar 1) lNil)) lNil))) (lCons (eArgs (gCall 2 F_l_draw) (lCons (eVar 0) (lCons (eC (.int 9)) lNil))) lNil))) (sSeq (sIf (tOf (eBin (gEq false) (eVar 3) (eC (.int 0)))) (sSeq (sRet (eBin gAdd (eCut (eVar 1) oNone (oSome (eVar 2))) (eCut (eVar 1) (oSome (eBin gAdd (eVar 2) (eC (.int 1)))) oNone))) sPass) sPass) (sSeq (sIf (tOf (eBin (gEq false) (eVar 3) (eC (.int 1)))) (sSeq (sRet (eBin gAdd (eCut (eVar 1) oNone (oSome (eBin gAdd (eVar 2) (eC (.int 1))))) (eCut (eVar 1) (oSome (eVar 2)) oNone))) sPass) sPass) (sSeq (sIf (tOf (eBin (gEq false) (eVar 3) (eC (.int 2)))) (sSeq (sRet (eBin gAdd (eBin gAdd (eCut (eVar 1) oNone (oSome (eVar 2))) (eArgs DN.gTup (lCons (eArgs (gCall 1 F_l_odd) (lCons (eVar 0) lNil)) lNil))) (eCut (eVar 1) (oSome (eVar 2)) oNone))) sPass) sPass) (sSeq (sIf (tOf (eBin (gEq false) (eVar 3) (eC (.int 3)))) (sSeq (sRet (eArgs (c1 listD) (lCons (eVar 1) lNil))) sPass) sPass) (sSeq (sIf (fAnd (tOf (eUn (gIsT "int") (eBin gIdx (eVar 1) (eVar 2)))) (tOf (eBin (gOrd .lt) (eVar 3) (eC (.int 6))))) (sSeq (sRet (eBin gAdd (eBin gAdd (eCut (eVar 1) oNone (oSome (eVar 2))) (eArgs DN.gTup (lCons (eBin gSub (eBin gAdd (eBin gIdx (eVar 1) (eVar 2)) (eArgs (gCall 2 F_l_draw) (lCons (eVar 0) (lCons (eC (.int 3)) lNil)))) (eC (.int 1))) lNil))) (eCut (eVar 1) (oSome (eBin gAdd (eVar 2) (eC (.int 1)))) oNone))) sPass) sPass) (sSeq (sRet (eBin gAdd (eBin gAdd (eCut (eVar 1) oNone (oSome (eVar 2))) (eArgs DN.gTup (lCons (eArgs (gCall 2 g) (lCons (eVar 0) (lCons (eBin gIdx (eVar 1) (eVar 2)) lNil))) lNil))) (eCut (eVar 1) (oSome (eBin gAdd (eVar 2) (eC (.int 1)))) oNone))) sPass))))))))
def F_l_spoilt : Nat → DF
  | 0 => noF
  | n + 1 => bodyF 4 false (b_l_spoilt (F_l_spoilt n))
def c_l_spoilt (g : DF) : Cfg := ⟨["_law_source_here", "_law_value", "_law_at", "_law_mode"], [("_law_spoilt", 2, g), ("_law_draw", 2, F_l_draw), ("_law_odd", 1, F_l_odd)], [], []⟩
def lb_law_0 : FS := (sSeq (sIf (tOf (eBin (gEq true) (eArgs (gCall 1 F_is_pattern) (lCons (eVar 4) lNil)) (eArgs (gCall 1 F_l_is_pattern) (lCons (eVar 4) lNil)))) (sSeq (sRet (eC (.bool false))) sPass) sPass) (sSeq (sIf (tOf (eBin (gEq true) (eArgs (gCall 1 F_is_script) (lCons (eVar 4) lNil)) (eArgs (gCall 1 F_l_is_script) (lCons (eVar 4) lNil)))) (sSeq (sRet (eC (.bool false))) sPass) sPass) (sSeq (sAsg (eArgs (gCall 2 (F_l_spoilt 16)) (lCons (eVar 2) (lCons (eVar 4) lNil))) (gNm 4)) sPass)))
def lb_law_1 : FS := (sSeq (sFor (iRange (lCons (eC (.int 5)) lNil)) (gNm 5) lb_law_0) sPass)
def lb_law_2 : FS := (sSeq (sAsg (eArgs (gCall 2 F_l_source) (lCons (eVar 0) (lCons (eVar 1) lNil))) (gNm 2)) (sSeq (sAsg (eArgs gLst (lCons (eArgs (gCall 2 F_l_script) (lCons (eVar 2) (lCons (eC (.int 6)) lNil))) (lCons (eArgs (gCall 2 F_l_script) (lCons (eVar 2) (lCons (eC (.int 4)) lNil))) (lCons (eArgs (gCall 1 F_l_pattern) (lCons (eVar 2) lNil)) lNil)))) (gNm 3)) (sSeq (sFor (iAny (eBin gAdd (eVar 3) (eArgs gLst (lCons (eArgs DN.gTup (lCons (eArgs DN.gTup (lCons (eC (.int 0)) (lCons (eC (.int 0)) (lCons (eC (.int 1)) lNil)))) lNil)) lNil)))) (gNm 4) lb_law_1) sPass)))
def b_law : FS := (sSeq (sFor (iRange (lCons (eBin gAdd (eC (.int 1)) (eArgs (c2 min2D) (lCons (eArgs (c1 lenD) (lCons (eVar 0) lNil)) (lCons (eC (.int 10)) lNil)))) lNil)) (gNm 1) lb_law_2) (sSeq (sAsg (eArgs DN.gTup (lCons (eArgs DN.gTup (lCons (eC (.str "write")) (lCons (eArgs DN.gTup (lCons (eArgs DN.gTup (lCons (eC (.int 9)) (lCons (eC (.int 1)) (lCons (eC (.int 0)) lNil)))) lNil)) lNil))) (lCons (eArgs DN.gTup (lCons (eC (.str "join")) (lCons (eC (.int 0)) (lCons (eC (.int 0)) lNil)))) lNil))) (gTp 2 (gCn (gNm 6) (gCn (gNm 7) gNl)))) (sSeq (sIf (fOr (fNot (tOf (eArgs (gCall 1 F_is_script) (lCons (eArgs DN.gTup (lCons (eVar 6) (lCons (eVar 7) (lCons (eVar 7) lNil)))) lNil)))) (tOf (eArgs (gCall 1 F_is_script) (lCons (eArgs DN.gTup (lCons (eVar 6) (lCons (eVar 7) (lCons (eVar 7) (lCons (eVar 7) lNil))))) lNil)))) (sSeq (sRet (eC (.bool false))) sPass) sPass) (sSeq (sIf (fOr (tOf (eArgs (gCall 1 F_is_pattern) (lCons (eArgs DN.gTup (lCons (eArgs DN.gTup (lCons (eC (.int 0)) (lCons (eC (.int 1)) (lCons (eC (.int 0)) lNil)))) lNil)) lNil))) (fOr (tOf (eArgs (gCall 1 F_is_pattern) (lCons (eArgs DN.gTup (lCons (eArgs DN.gTup (lCons (eC (.int 9)) (lCons (eC (.int 0)) (lCons (eC (.int 0)) lNil)))) lNil)) lNil))) (tOf (eArgs (gCall 1 F_is_pattern) (lCons (eArgs DN.gTup (lCons (eArgs DN.gTup (lCons (eC (.int 9)) (lCons (eC (.int 1)) (lCons (eC (.int 0)) lNil)))) (lCons (eArgs DN.gTup (lCons (eC (.int 9)) (lCons (eC (.int 0)) (lCons (eC (.int 1)) lNil)))) lNil))) lNil))))) (sSeq (sRet (eC (.bool false))) sPass) sPass) (sSeq (sRet (eArgs (gCall 1 F_is_pattern) (lCons (eArgs DN.gTup (lCons (eArgs DN.gTup (lCons (eC (.int 9)) (lCons (eC (.int 0)) (lCons (eC (.int 1)) lNil)))) (lCons (eArgs DN.gTup (lCons (eC (.int 0)) (lCons (eC (.int 2)) (lCons (eC (.int 9)) lNil)))) (lCons (eArgs DN.gTup (lCons (eC (.int 9)) (lCons (eC (.int 1)) (lCons (eC (.int 0)) lNil)))) lNil)))) lNil))) sPass)))))
def F_law : DF := bodyF 8 false b_law
def c_law : Cfg := ⟨["_law_script_here", "_law_k", "_law_source_here", "_law_some", "_law_value", "_law_turn", "_law_row", "_law_join"], [("is_pattern", 1, F_is_pattern), ("is_script", 1, F_is_script), ("_law_spoilt", 2, (F_l_spoilt 16)), ("_law_is_script", 1, F_l_is_script), ("_law_is_pattern", 1, F_l_is_pattern), ("_law_pattern", 1, F_l_pattern), ("_law_script", 2, F_l_script), ("_law_source", 2, F_l_source)], [], []⟩
end K01
set_option Elab.async false
set_option linter.all false
set_option maxRecDepth 100000
set_option maxHeartbeats 4000000
namespace K01
open PySem PySem.Spec PyProof.Rows L2 DN
/-! ### the readers, by cases -/
def nm (v : PyData) (lo hi : Int) : Bool := match v with
  | .int i => decide (lo ≤ i) && decide (i ≤ hi)
  | _ => false
def nod (v : PyData) : Prop := tyN v ≠ "dict"
theorem number_w {v : PyData} {lo hi : Int} {μ : Mem} {Q : Val → Mem → Prop} (h : nod v) : wp (F_is_number [.dat v, .dat (.int lo), .dat (.int hi)] μ) Q = Q (.dat (.bool (nm v lo hi))) μ := by
  unfold F_is_number b_is_number
  simp only [wp_ok, wp_okD, wp_bind, w_var, w_varV, w_c, w_bin, w_un, w_nil, w_cons, w_args, w_boolV, w_tOf, w_fAnd, w_fOr, w_fNot, w_eAnd, w_eOr, w_eIf, w_chain, w_optV, w_oNone, w_oSome, w_cut, o_cutT, o_cutL, w_pass, w_ret, w_if, w_seqV, w_seqR, w_seq, w_asgV, w_asg, w_gNm, w_gTp, w_gNl, w_gCn, w_par2V, w_par2, w_set, w_body, w_endD, w_endN, w_for, w_forN, w_loopN, w_loopR, w_forC, o_add, o_addB, o_sub, o_ord, o_lt, o_le, o_gt, o_ge, o_eqI, o_neI, o_eqB, o_not, o_neg, o_len_t, o_len_l, o_len_f, datL_nil, datL_cons, startR, List.map_cons, List.map_nil, List.length_cons, List.length_nil, List.replicate_succ, List.replicate_zero, List.cons_append, List.nil_append, List.getElem?_cons_zero, List.getElem?_cons_succ, List.set_cons_zero, List.set_cons_succ, List.take_length, Option.map_some, Option.map_none, List.append_nil, Nat.sub_self, w_idxV, w_idx_t, w_idx_l, w_idx_f, at0, at1, at2, cut1, w_call, w_tup, w_lst, Nat.reduceSub, Nat.reduceAdd, Nat.reduceLeDiff, if_true, reduceIte, Bool.not_true, Bool.not_false, Bool.false_eq_true, reduceCtorEq, w_isT, w_comp, w_datV, w_compN, w_rhoV, w_compC, w_okT, w_any, w_any_t, w_any_l, w_any_f, w_enum, w_enum_t, w_enum_l, w_zip, w_zip_t, w_zip_l, zip_nil, zip_nil2, zip_cons, w_range, tg_nm, tg_tp2, wipe_nil, wipe_cons, Nat.reduceLT, Nat.reduceSub, Nat.reduceAdd, o_isT h]
  cases v with
  | int i =>
    simp only [wp_ok, wp_okD, wp_bind, w_var, w_varV, w_c, w_bin, w_un, w_nil, w_cons, w_args, w_boolV, w_tOf, w_fAnd, w_fOr, w_fNot, w_eAnd, w_eOr, w_eIf, w_chain, w_optV, w_oNone, w_oSome, w_cut, o_cutT, o_cutL, w_pass, w_ret, w_if, w_seqV, w_seqR, w_seq, w_asgV, w_asg, w_gNm, w_gTp, w_gNl, w_gCn, w_par2V, w_par2, w_set, w_body, w_endD, w_endN, w_for, w_forN, w_loopN, w_loopR, w_forC, o_add, o_addB, o_sub, o_ord, o_lt, o_le, o_gt, o_ge, o_eqI, o_neI, o_eqB, o_not, o_neg, o_len_t, o_len_l, o_len_f, datL_nil, datL_cons, startR, List.map_cons, List.map_nil, List.length_cons, List.length_nil, List.replicate_succ, List.replicate_zero, List.cons_append, List.nil_append, List.getElem?_cons_zero, List.getElem?_cons_succ, List.set_cons_zero, List.set_cons_succ, List.take_length, Option.map_some, Option.map_none, List.append_nil, Nat.sub_self, w_idxV, w_idx_t, w_idx_l, w_idx_f, at0, at1, at2, cut1, w_call, w_tup, w_lst, Nat.reduceSub, Nat.reduceAdd, Nat.reduceLeDiff, if_true, reduceIte, Bool.not_true, Bool.not_false, Bool.false_eq_true, reduceCtorEq, w_isT, w_comp, w_datV, w_compN, w_rhoV, w_compC, w_okT, w_any, w_any_t, w_any_l, w_any_f, w_enum, w_enum_t, w_enum_l, w_zip, w_zip_t, w_zip_l, zip_nil, zip_nil2, zip_cons, w_range, tg_nm, tg_tp2, wipe_nil, wipe_cons, Nat.reduceLT, isT, nm, beq_self_eq_true, if_true]
    by_cases h1 : lo ≤ i
    · simp [h1, wp_ok, wp_okD, wp_bind, w_var, w_varV, w_c, w_bin, w_un, w_nil, w_cons, w_args, w_boolV, w_tOf, w_fAnd, w_fOr, w_fNot, w_eAnd, w_eOr, w_eIf, w_chain, w_optV, w_oNone, w_oSome, w_cut, o_cutT, o_cutL, w_pass, w_ret, w_if, w_seqV, w_seqR, w_seq, w_asgV, w_asg, w_gNm, w_gTp, w_gNl, w_gCn, w_par2V, w_par2, w_set, w_body, w_endD, w_endN, w_for, w_forN, w_loopN, w_loopR, w_forC, o_add, o_addB, o_sub, o_ord, o_lt, o_le, o_gt, o_ge, o_eqI, o_neI, o_eqB, o_not, o_neg, o_len_t, o_len_l, o_len_f, datL_nil, datL_cons, startR, List.map_cons, List.map_nil, List.length_cons, List.length_nil, List.replicate_succ, List.replicate_zero, List.cons_append, List.nil_append, List.getElem?_cons_zero, List.getElem?_cons_succ, List.set_cons_zero, List.set_cons_succ, List.take_length, Option.map_some, Option.map_none, List.append_nil, Nat.sub_self, w_idxV, w_idx_t, w_idx_l, w_idx_f, at0, at1, at2, cut1, w_call, w_tup, w_lst, Nat.reduceSub, Nat.reduceAdd, Nat.reduceLeDiff, if_true, reduceIte, Bool.not_true, Bool.not_false, Bool.false_eq_true, reduceCtorEq, w_isT, w_comp, w_datV, w_compN, w_rhoV, w_compC, w_okT, w_any, w_any_t, w_any_l, w_any_f, w_enum, w_enum_t, w_enum_l, w_zip, w_zip_t, w_zip_l, zip_nil, zip_nil2, zip_cons, w_range, tg_nm, tg_tp2, wipe_nil, wipe_cons, Nat.reduceLT, isT]
    · simp [h1, wp_ok, wp_okD, wp_bind, w_var, w_varV, w_c, w_bin, w_un, w_nil, w_cons, w_args, w_boolV, w_tOf, w_fAnd, w_fOr, w_fNot, w_eAnd, w_eOr, w_eIf, w_chain, w_optV, w_oNone, w_oSome, w_cut, o_cutT, o_cutL, w_pass, w_ret, w_if, w_seqV, w_seqR, w_seq, w_asgV, w_asg, w_gNm, w_gTp, w_gNl, w_gCn, w_par2V, w_par2, w_set, w_body, w_endD, w_endN, w_for, w_forN, w_loopN, w_loopR, w_forC, o_add, o_addB, o_sub, o_ord, o_lt, o_le, o_gt, o_ge, o_eqI, o_neI, o_eqB, o_not, o_neg, o_len_t, o_len_l, o_len_f, datL_nil, datL_cons, startR, List.map_cons, List.map_nil, List.length_cons, List.length_nil, List.replicate_succ, List.replicate_zero, List.cons_append, List.nil_append, List.getElem?_cons_zero, List.getElem?_cons_succ, List.set_cons_zero, List.set_cons_succ, List.take_length, Option.map_some, Option.map_none, List.append_nil, Nat.sub_self, w_idxV, w_idx_t, w_idx_l, w_idx_f, at0, at1, at2, cut1, w_call, w_tup, w_lst, Nat.reduceSub, Nat.reduceAdd, Nat.reduceLeDiff, if_true, reduceIte, Bool.not_true, Bool.not_false, Bool.false_eq_true, reduceCtorEq, w_isT, w_comp, w_datV, w_compN, w_rhoV, w_compC, w_okT, w_any, w_any_t, w_any_l, w_any_f, w_enum, w_enum_t, w_enum_l, w_zip, w_zip_t, w_zip_l, zip_nil, zip_nil2, zip_cons, w_range, tg_nm, tg_tp2, wipe_nil, wipe_cons, Nat.reduceLT, isT]
  | _ => simp [wp_ok, wp_okD, wp_bind, w_var, w_varV, w_c, w_bin, w_un, w_nil, w_cons, w_args, w_boolV, w_tOf, w_fAnd, w_fOr, w_fNot, w_eAnd, w_eOr, w_eIf, w_chain, w_optV, w_oNone, w_oSome, w_cut, o_cutT, o_cutL, w_pass, w_ret, w_if, w_seqV, w_seqR, w_seq, w_asgV, w_asg, w_gNm, w_gTp, w_gNl, w_gCn, w_par2V, w_par2, w_set, w_body, w_endD, w_endN, w_for, w_forN, w_loopN, w_loopR, w_forC, o_add, o_addB, o_sub, o_ord, o_lt, o_le, o_gt, o_ge, o_eqI, o_neI, o_eqB, o_not, o_neg, o_len_t, o_len_l, o_len_f, datL_nil, datL_cons, startR, List.map_cons, List.map_nil, List.length_cons, List.length_nil, List.replicate_succ, List.replicate_zero, List.cons_append, List.nil_append, List.getElem?_cons_zero, List.getElem?_cons_succ, List.set_cons_zero, List.set_cons_succ, List.take_length, Option.map_some, Option.map_none, List.append_nil, Nat.sub_self, w_idxV, w_idx_t, w_idx_l, w_idx_f, at0, at1, at2, cut1, w_call, w_tup, w_lst, Nat.reduceSub, Nat.reduceAdd, Nat.reduceLeDiff, if_true, reduceIte, Bool.not_true, Bool.not_false, Bool.false_eq_true, reduceCtorEq, w_isT, w_comp, w_datV, w_compN, w_rhoV, w_compC, w_okT, w_any, w_any_t, w_any_l, w_any_f, w_enum, w_enum_t, w_enum_l, w_zip, w_zip_t, w_zip_l, zip_nil, zip_nil2, zip_cons, w_range, tg_nm, tg_tp2, wipe_nil, wipe_cons, Nat.reduceLT, isT, nm]
theorem is_int_w {v : PyData} {lo hi : Int} {μ : Mem} {Q : Val → Mem → Prop} (h : nod v) : wp (F_l_is_int [.dat v, .dat (.int lo), .dat (.int hi)] μ) Q = Q (.dat (.bool (nm v lo hi))) μ := number_w h
def tp (v : PyData) (lo hi : Int) : Bool := match v with
  | .tuple ds => decide (lo ≤ (ds.length : Int)) && decide ((ds.length : Int) ≤ hi)
  | _ => false
theorem tuple_w {v : PyData} {lo hi : Int} {μ : Mem} {Q : Val → Mem → Prop} (h : nod v) : wp (F_is_tuple [.dat v, .dat (.int lo), .dat (.int hi)] μ) Q = Q (.dat (.bool (tp v lo hi))) μ := by
  unfold F_is_tuple b_is_tuple
  simp only [wp_ok, wp_okD, wp_bind, w_var, w_varV, w_c, w_bin, w_un, w_nil, w_cons, w_args, w_boolV, w_tOf, w_fAnd, w_fOr, w_fNot, w_eAnd, w_eOr, w_eIf, w_chain, w_optV, w_oNone, w_oSome, w_cut, o_cutT, o_cutL, w_pass, w_ret, w_if, w_seqV, w_seqR, w_seq, w_asgV, w_asg, w_gNm, w_gTp, w_gNl, w_gCn, w_par2V, w_par2, w_set, w_body, w_endD, w_endN, w_for, w_forN, w_loopN, w_loopR, w_forC, o_add, o_addB, o_sub, o_ord, o_lt, o_le, o_gt, o_ge, o_eqI, o_neI, o_eqB, o_not, o_neg, o_len_t, o_len_l, o_len_f, datL_nil, datL_cons, startR, List.map_cons, List.map_nil, List.length_cons, List.length_nil, List.replicate_succ, List.replicate_zero, List.cons_append, List.nil_append, List.getElem?_cons_zero, List.getElem?_cons_succ, List.set_cons_zero, List.set_cons_succ, List.take_length, Option.map_some, Option.map_none, List.append_nil, Nat.sub_self, w_idxV, w_idx_t, w_idx_l, w_idx_f, at0, at1, at2, cut1, w_call, w_tup, w_lst, Nat.reduceSub, Nat.reduceAdd, Nat.reduceLeDiff, if_true, reduceIte, Bool.not_true, Bool.not_false, Bool.false_eq_true, reduceCtorEq, w_isT, w_comp, w_datV, w_compN, w_rhoV, w_compC, w_okT, w_any, w_any_t, w_any_l, w_any_f, w_enum, w_enum_t, w_enum_l, w_zip, w_zip_t, w_zip_l, zip_nil, zip_nil2, zip_cons, w_range, tg_nm, tg_tp2, wipe_nil, wipe_cons, Nat.reduceLT, Nat.reduceSub, Nat.reduceAdd, o_isT h]
  cases v with
  | tuple ds =>
    simp only [wp_ok, wp_okD, wp_bind, w_var, w_varV, w_c, w_bin, w_un, w_nil, w_cons, w_args, w_boolV, w_tOf, w_fAnd, w_fOr, w_fNot, w_eAnd, w_eOr, w_eIf, w_chain, w_optV, w_oNone, w_oSome, w_cut, o_cutT, o_cutL, w_pass, w_ret, w_if, w_seqV, w_seqR, w_seq, w_asgV, w_asg, w_gNm, w_gTp, w_gNl, w_gCn, w_par2V, w_par2, w_set, w_body, w_endD, w_endN, w_for, w_forN, w_loopN, w_loopR, w_forC, o_add, o_addB, o_sub, o_ord, o_lt, o_le, o_gt, o_ge, o_eqI, o_neI, o_eqB, o_not, o_neg, o_len_t, o_len_l, o_len_f, datL_nil, datL_cons, startR, List.map_cons, List.map_nil, List.length_cons, List.length_nil, List.replicate_succ, List.replicate_zero, List.cons_append, List.nil_append, List.getElem?_cons_zero, List.getElem?_cons_succ, List.set_cons_zero, List.set_cons_succ, List.take_length, Option.map_some, Option.map_none, List.append_nil, Nat.sub_self, w_idxV, w_idx_t, w_idx_l, w_idx_f, at0, at1, at2, cut1, w_call, w_tup, w_lst, Nat.reduceSub, Nat.reduceAdd, Nat.reduceLeDiff, if_true, reduceIte, Bool.not_true, Bool.not_false, Bool.false_eq_true, reduceCtorEq, w_isT, w_comp, w_datV, w_compN, w_rhoV, w_compC, w_okT, w_any, w_any_t, w_any_l, w_any_f, w_enum, w_enum_t, w_enum_l, w_zip, w_zip_t, w_zip_l, zip_nil, zip_nil2, zip_cons, w_range, tg_nm, tg_tp2, wipe_nil, wipe_cons, Nat.reduceLT, isT, tp, beq_self_eq_true, if_true]
    by_cases h1 : lo ≤ (ds.length : Int)
    · simp [h1, wp_ok, wp_okD, wp_bind, w_var, w_varV, w_c, w_bin, w_un, w_nil, w_cons, w_args, w_boolV, w_tOf, w_fAnd, w_fOr, w_fNot, w_eAnd, w_eOr, w_eIf, w_chain, w_optV, w_oNone, w_oSome, w_cut, o_cutT, o_cutL, w_pass, w_ret, w_if, w_seqV, w_seqR, w_seq, w_asgV, w_asg, w_gNm, w_gTp, w_gNl, w_gCn, w_par2V, w_par2, w_set, w_body, w_endD, w_endN, w_for, w_forN, w_loopN, w_loopR, w_forC, o_add, o_addB, o_sub, o_ord, o_lt, o_le, o_gt, o_ge, o_eqI, o_neI, o_eqB, o_not, o_neg, o_len_t, o_len_l, o_len_f, datL_nil, datL_cons, startR, List.map_cons, List.map_nil, List.length_cons, List.length_nil, List.replicate_succ, List.replicate_zero, List.cons_append, List.nil_append, List.getElem?_cons_zero, List.getElem?_cons_succ, List.set_cons_zero, List.set_cons_succ, List.take_length, Option.map_some, Option.map_none, List.append_nil, Nat.sub_self, w_idxV, w_idx_t, w_idx_l, w_idx_f, at0, at1, at2, cut1, w_call, w_tup, w_lst, Nat.reduceSub, Nat.reduceAdd, Nat.reduceLeDiff, if_true, reduceIte, Bool.not_true, Bool.not_false, Bool.false_eq_true, reduceCtorEq, w_isT, w_comp, w_datV, w_compN, w_rhoV, w_compC, w_okT, w_any, w_any_t, w_any_l, w_any_f, w_enum, w_enum_t, w_enum_l, w_zip, w_zip_t, w_zip_l, zip_nil, zip_nil2, zip_cons, w_range, tg_nm, tg_tp2, wipe_nil, wipe_cons, Nat.reduceLT, isT]
    · simp [h1, wp_ok, wp_okD, wp_bind, w_var, w_varV, w_c, w_bin, w_un, w_nil, w_cons, w_args, w_boolV, w_tOf, w_fAnd, w_fOr, w_fNot, w_eAnd, w_eOr, w_eIf, w_chain, w_optV, w_oNone, w_oSome, w_cut, o_cutT, o_cutL, w_pass, w_ret, w_if, w_seqV, w_seqR, w_seq, w_asgV, w_asg, w_gNm, w_gTp, w_gNl, w_gCn, w_par2V, w_par2, w_set, w_body, w_endD, w_endN, w_for, w_forN, w_loopN, w_loopR, w_forC, o_add, o_addB, o_sub, o_ord, o_lt, o_le, o_gt, o_ge, o_eqI, o_neI, o_eqB, o_not, o_neg, o_len_t, o_len_l, o_len_f, datL_nil, datL_cons, startR, List.map_cons, List.map_nil, List.length_cons, List.length_nil, List.replicate_succ, List.replicate_zero, List.cons_append, List.nil_append, List.getElem?_cons_zero, List.getElem?_cons_succ, List.set_cons_zero, List.set_cons_succ, List.take_length, Option.map_some, Option.map_none, List.append_nil, Nat.sub_self, w_idxV, w_idx_t, w_idx_l, w_idx_f, at0, at1, at2, cut1, w_call, w_tup, w_lst, Nat.reduceSub, Nat.reduceAdd, Nat.reduceLeDiff, if_true, reduceIte, Bool.not_true, Bool.not_false, Bool.false_eq_true, reduceCtorEq, w_isT, w_comp, w_datV, w_compN, w_rhoV, w_compC, w_okT, w_any, w_any_t, w_any_l, w_any_f, w_enum, w_enum_t, w_enum_l, w_zip, w_zip_t, w_zip_l, zip_nil, zip_nil2, zip_cons, w_range, tg_nm, tg_tp2, wipe_nil, wipe_cons, Nat.reduceLT, isT]
  | _ => simp [wp_ok, wp_okD, wp_bind, w_var, w_varV, w_c, w_bin, w_un, w_nil, w_cons, w_args, w_boolV, w_tOf, w_fAnd, w_fOr, w_fNot, w_eAnd, w_eOr, w_eIf, w_chain, w_optV, w_oNone, w_oSome, w_cut, o_cutT, o_cutL, w_pass, w_ret, w_if, w_seqV, w_seqR, w_seq, w_asgV, w_asg, w_gNm, w_gTp, w_gNl, w_gCn, w_par2V, w_par2, w_set, w_body, w_endD, w_endN, w_for, w_forN, w_loopN, w_loopR, w_forC, o_add, o_addB, o_sub, o_ord, o_lt, o_le, o_gt, o_ge, o_eqI, o_neI, o_eqB, o_not, o_neg, o_len_t, o_len_l, o_len_f, datL_nil, datL_cons, startR, List.map_cons, List.map_nil, List.length_cons, List.length_nil, List.replicate_succ, List.replicate_zero, List.cons_append, List.nil_append, List.getElem?_cons_zero, List.getElem?_cons_succ, List.set_cons_zero, List.set_cons_succ, List.take_length, Option.map_some, Option.map_none, List.append_nil, Nat.sub_self, w_idxV, w_idx_t, w_idx_l, w_idx_f, at0, at1, at2, cut1, w_call, w_tup, w_lst, Nat.reduceSub, Nat.reduceAdd, Nat.reduceLeDiff, if_true, reduceIte, Bool.not_true, Bool.not_false, Bool.false_eq_true, reduceCtorEq, w_isT, w_comp, w_datV, w_compN, w_rhoV, w_compC, w_okT, w_any, w_any_t, w_any_l, w_any_f, w_enum, w_enum_t, w_enum_l, w_zip, w_zip_t, w_zip_l, zip_nil, zip_nil2, zip_cons, w_range, tg_nm, tg_tp2, wipe_nil, wipe_cons, Nat.reduceLT, isT, tp]
end K01
set_option Elab.async false
set_option linter.all false
set_option maxRecDepth 100000
set_option maxHeartbeats 4000000
namespace K01
open PySem PySem.Spec PyProof.Rows L2 DN
def part (v : PyData) : Bool := match v with
  | .tuple [a, b, c] => nm a 0 9 && (nm b 0 2 && (nm c 0 9 && !PyData.eqvAll [b, c] [.int 0, .int 0]))
  | _ => false
theorem sh2 {m n : Nat} {b c : PyData} (hn : n ≤ 40) (h1 : wf m n b) (h2 : wf m n c) : SeqAt.shaped (.tuple [b, c]) = true := by
  have : wf (m + 2) (n + 1) (.tuple [b, c]) := by
    simp only [wf]
    refine ⟨by simp, fun d hd => ?_⟩
    simp at hd
    rcases hd with rfl | rfl
    · exact h1.mono (by omega) (Nat.le_refl _)
    · exact h2.mono (by omega) (Nat.le_refl _)
  exact this.shaped (by omega)
theorem part_w {m n : Nat} {v : PyData} {μ : Mem} {Q : Val → Mem → Prop} (hn : n ≤ 40) (h : wf m n v) : wp (F_is_part [.dat v] μ) Q = Q (.dat (.bool (part v))) μ := by
  unfold F_is_part b_is_part
  simp only [wp_ok, wp_okD, wp_bind, w_var, w_varV, w_c, w_bin, w_un, w_nil, w_cons, w_args, w_boolV, w_tOf, w_fAnd, w_fOr, w_fNot, w_eAnd, w_eOr, w_eIf, w_chain, w_optV, w_oNone, w_oSome, w_cut, o_cutT, o_cutL, w_pass, w_ret, w_if, w_seqV, w_seqR, w_seq, w_asgV, w_asg, w_gNm, w_gTp, w_gNl, w_gCn, w_par2V, w_par2, w_set, w_body, w_endD, w_endN, w_for, w_forN, w_loopN, w_loopR, w_forC, o_add, o_addB, o_sub, o_ord, o_lt, o_le, o_gt, o_ge, o_eqI, o_neI, o_eqB, o_not, o_neg, o_len_t, o_len_l, o_len_f, datL_nil, datL_cons, startR, List.map_cons, List.map_nil, List.length_cons, List.length_nil, List.replicate_succ, List.replicate_zero, List.cons_append, List.nil_append, List.getElem?_cons_zero, List.getElem?_cons_succ, List.set_cons_zero, List.set_cons_succ, List.take_length, Option.map_some, Option.map_none, List.append_nil, Nat.sub_self, w_idxV, w_idx_t, w_idx_l, w_idx_f, at0, at1, at2, cut1, w_call, w_tup, w_lst, Nat.reduceSub, Nat.reduceAdd, Nat.reduceLeDiff, if_true, reduceIte, Bool.not_true, Bool.not_false, Bool.false_eq_true, reduceCtorEq, w_isT, w_comp, w_datV, w_compN, w_rhoV, w_compC, w_okT, w_any, w_any_t, w_any_l, w_any_f, w_enum, w_enum_t, w_enum_l, w_zip, w_zip_t, w_zip_l, zip_nil, zip_nil2, zip_cons, w_range, tg_nm, tg_tp2, wipe_nil, wipe_cons, Nat.reduceLT, tuple_w h.nod]
  cases v with
  | tuple ds =>
    cases n with
    | zero => simp only [wf] at h
    | succ n =>
      simp only [wf] at h
      obtain ⟨-, h⟩ := h
      rcases ds with _ | ⟨a, _ | ⟨b, _ | ⟨c, _ | ⟨d, r⟩⟩⟩⟩
      · simp [wp_ok, wp_okD, wp_bind, w_var, w_varV, w_c, w_bin, w_un, w_nil, w_cons, w_args, w_boolV, w_tOf, w_fAnd, w_fOr, w_fNot, w_eAnd, w_eOr, w_eIf, w_chain, w_optV, w_oNone, w_oSome, w_cut, o_cutT, o_cutL, w_pass, w_ret, w_if, w_seqV, w_seqR, w_seq, w_asgV, w_asg, w_gNm, w_gTp, w_gNl, w_gCn, w_par2V, w_par2, w_set, w_body, w_endD, w_endN, w_for, w_forN, w_loopN, w_loopR, w_forC, o_add, o_addB, o_sub, o_ord, o_lt, o_le, o_gt, o_ge, o_eqI, o_neI, o_eqB, o_not, o_neg, o_len_t, o_len_l, o_len_f, datL_nil, datL_cons, startR, List.map_cons, List.map_nil, List.length_cons, List.length_nil, List.replicate_succ, List.replicate_zero, List.cons_append, List.nil_append, List.getElem?_cons_zero, List.getElem?_cons_succ, List.set_cons_zero, List.set_cons_succ, List.take_length, Option.map_some, Option.map_none, List.append_nil, Nat.sub_self, w_idxV, w_idx_t, w_idx_l, w_idx_f, at0, at1, at2, cut1, w_call, w_tup, w_lst, Nat.reduceSub, Nat.reduceAdd, Nat.reduceLeDiff, if_true, reduceIte, Bool.not_true, Bool.not_false, Bool.false_eq_true, reduceCtorEq, w_isT, w_comp, w_datV, w_compN, w_rhoV, w_compC, w_okT, w_any, w_any_t, w_any_l, w_any_f, w_enum, w_enum_t, w_enum_l, w_zip, w_zip_t, w_zip_l, zip_nil, zip_nil2, zip_cons, w_range, tg_nm, tg_tp2, wipe_nil, wipe_cons, Nat.reduceLT, tp, part]
      · simp [wp_ok, wp_okD, wp_bind, w_var, w_varV, w_c, w_bin, w_un, w_nil, w_cons, w_args, w_boolV, w_tOf, w_fAnd, w_fOr, w_fNot, w_eAnd, w_eOr, w_eIf, w_chain, w_optV, w_oNone, w_oSome, w_cut, o_cutT, o_cutL, w_pass, w_ret, w_if, w_seqV, w_seqR, w_seq, w_asgV, w_asg, w_gNm, w_gTp, w_gNl, w_gCn, w_par2V, w_par2, w_set, w_body, w_endD, w_endN, w_for, w_forN, w_loopN, w_loopR, w_forC, o_add, o_addB, o_sub, o_ord, o_lt, o_le, o_gt, o_ge, o_eqI, o_neI, o_eqB, o_not, o_neg, o_len_t, o_len_l, o_len_f, datL_nil, datL_cons, startR, List.map_cons, List.map_nil, List.length_cons, List.length_nil, List.replicate_succ, List.replicate_zero, List.cons_append, List.nil_append, List.getElem?_cons_zero, List.getElem?_cons_succ, List.set_cons_zero, List.set_cons_succ, List.take_length, Option.map_some, Option.map_none, List.append_nil, Nat.sub_self, w_idxV, w_idx_t, w_idx_l, w_idx_f, at0, at1, at2, cut1, w_call, w_tup, w_lst, Nat.reduceSub, Nat.reduceAdd, Nat.reduceLeDiff, if_true, reduceIte, Bool.not_true, Bool.not_false, Bool.false_eq_true, reduceCtorEq, w_isT, w_comp, w_datV, w_compN, w_rhoV, w_compC, w_okT, w_any, w_any_t, w_any_l, w_any_f, w_enum, w_enum_t, w_enum_l, w_zip, w_zip_t, w_zip_l, zip_nil, zip_nil2, zip_cons, w_range, tg_nm, tg_tp2, wipe_nil, wipe_cons, Nat.reduceLT, tp, part]
      · simp [wp_ok, wp_okD, wp_bind, w_var, w_varV, w_c, w_bin, w_un, w_nil, w_cons, w_args, w_boolV, w_tOf, w_fAnd, w_fOr, w_fNot, w_eAnd, w_eOr, w_eIf, w_chain, w_optV, w_oNone, w_oSome, w_cut, o_cutT, o_cutL, w_pass, w_ret, w_if, w_seqV, w_seqR, w_seq, w_asgV, w_asg, w_gNm, w_gTp, w_gNl, w_gCn, w_par2V, w_par2, w_set, w_body, w_endD, w_endN, w_for, w_forN, w_loopN, w_loopR, w_forC, o_add, o_addB, o_sub, o_ord, o_lt, o_le, o_gt, o_ge, o_eqI, o_neI, o_eqB, o_not, o_neg, o_len_t, o_len_l, o_len_f, datL_nil, datL_cons, startR, List.map_cons, List.map_nil, List.length_cons, List.length_nil, List.replicate_succ, List.replicate_zero, List.cons_append, List.nil_append, List.getElem?_cons_zero, List.getElem?_cons_succ, List.set_cons_zero, List.set_cons_succ, List.take_length, Option.map_some, Option.map_none, List.append_nil, Nat.sub_self, w_idxV, w_idx_t, w_idx_l, w_idx_f, at0, at1, at2, cut1, w_call, w_tup, w_lst, Nat.reduceSub, Nat.reduceAdd, Nat.reduceLeDiff, if_true, reduceIte, Bool.not_true, Bool.not_false, Bool.false_eq_true, reduceCtorEq, w_isT, w_comp, w_datV, w_compN, w_rhoV, w_compC, w_okT, w_any, w_any_t, w_any_l, w_any_f, w_enum, w_enum_t, w_enum_l, w_zip, w_zip_t, w_zip_l, zip_nil, zip_nil2, zip_cons, w_range, tg_nm, tg_tp2, wipe_nil, wipe_cons, Nat.reduceLT, tp, part]
      · have ha := h a (by simp)
        have hb := h b (by simp)
        have hc := h c (by simp)
        have e1 : tp (.tuple [a, b, c]) 3 3 = true := by simp [tp]
        rw [e1]
        simp only [wp_ok, wp_okD, wp_bind, w_var, w_varV, w_c, w_bin, w_un, w_nil, w_cons, w_args, w_boolV, w_tOf, w_fAnd, w_fOr, w_fNot, w_eAnd, w_eOr, w_eIf, w_chain, w_optV, w_oNone, w_oSome, w_cut, o_cutT, o_cutL, w_pass, w_ret, w_if, w_seqV, w_seqR, w_seq, w_asgV, w_asg, w_gNm, w_gTp, w_gNl, w_gCn, w_par2V, w_par2, w_set, w_body, w_endD, w_endN, w_for, w_forN, w_loopN, w_loopR, w_forC, o_add, o_addB, o_sub, o_ord, o_lt, o_le, o_gt, o_ge, o_eqI, o_neI, o_eqB, o_not, o_neg, o_len_t, o_len_l, o_len_f, datL_nil, datL_cons, startR, List.map_cons, List.map_nil, List.length_cons, List.length_nil, List.replicate_succ, List.replicate_zero, List.cons_append, List.nil_append, List.getElem?_cons_zero, List.getElem?_cons_succ, List.set_cons_zero, List.set_cons_succ, List.take_length, Option.map_some, Option.map_none, List.append_nil, Nat.sub_self, w_idxV, w_idx_t, w_idx_l, w_idx_f, at0, at1, at2, cut1, w_call, w_tup, w_lst, Nat.reduceSub, Nat.reduceAdd, Nat.reduceLeDiff, if_true, reduceIte, Bool.not_true, Bool.not_false, Bool.false_eq_true, reduceCtorEq, w_isT, w_comp, w_datV, w_compN, w_rhoV, w_compC, w_okT, w_any, w_any_t, w_any_l, w_any_f, w_enum, w_enum_t, w_enum_l, w_zip, w_zip_t, w_zip_l, zip_nil, zip_nil2, zip_cons, w_range, tg_nm, tg_tp2, wipe_nil, wipe_cons, Nat.reduceLT, number_w ha.nod, number_w hb.nod, number_w hc.nod]
        cases q1 : nm a 0 9 with
        | false => simp [wp_ok, wp_okD, wp_bind, w_var, w_varV, w_c, w_bin, w_un, w_nil, w_cons, w_args, w_boolV, w_tOf, w_fAnd, w_fOr, w_fNot, w_eAnd, w_eOr, w_eIf, w_chain, w_optV, w_oNone, w_oSome, w_cut, o_cutT, o_cutL, w_pass, w_ret, w_if, w_seqV, w_seqR, w_seq, w_asgV, w_asg, w_gNm, w_gTp, w_gNl, w_gCn, w_par2V, w_par2, w_set, w_body, w_endD, w_endN, w_for, w_forN, w_loopN, w_loopR, w_forC, o_add, o_addB, o_sub, o_ord, o_lt, o_le, o_gt, o_ge, o_eqI, o_neI, o_eqB, o_not, o_neg, o_len_t, o_len_l, o_len_f, datL_nil, datL_cons, startR, List.map_cons, List.map_nil, List.length_cons, List.length_nil, List.replicate_succ, List.replicate_zero, List.cons_append, List.nil_append, List.getElem?_cons_zero, List.getElem?_cons_succ, List.set_cons_zero, List.set_cons_succ, List.take_length, Option.map_some, Option.map_none, List.append_nil, Nat.sub_self, w_idxV, w_idx_t, w_idx_l, w_idx_f, at0, at1, at2, cut1, w_call, w_tup, w_lst, Nat.reduceSub, Nat.reduceAdd, Nat.reduceLeDiff, if_true, reduceIte, Bool.not_true, Bool.not_false, Bool.false_eq_true, reduceCtorEq, w_isT, w_comp, w_datV, w_compN, w_rhoV, w_compC, w_okT, w_any, w_any_t, w_any_l, w_any_f, w_enum, w_enum_t, w_enum_l, w_zip, w_zip_t, w_zip_l, zip_nil, zip_nil2, zip_cons, w_range, tg_nm, tg_tp2, wipe_nil, wipe_cons, Nat.reduceLT, part, q1]
        | true =>
          simp only [wp_ok, wp_okD, wp_bind, w_var, w_varV, w_c, w_bin, w_un, w_nil, w_cons, w_args, w_boolV, w_tOf, w_fAnd, w_fOr, w_fNot, w_eAnd, w_eOr, w_eIf, w_chain, w_optV, w_oNone, w_oSome, w_cut, o_cutT, o_cutL, w_pass, w_ret, w_if, w_seqV, w_seqR, w_seq, w_asgV, w_asg, w_gNm, w_gTp, w_gNl, w_gCn, w_par2V, w_par2, w_set, w_body, w_endD, w_endN, w_for, w_forN, w_loopN, w_loopR, w_forC, o_add, o_addB, o_sub, o_ord, o_lt, o_le, o_gt, o_ge, o_eqI, o_neI, o_eqB, o_not, o_neg, o_len_t, o_len_l, o_len_f, datL_nil, datL_cons, startR, List.map_cons, List.map_nil, List.length_cons, List.length_nil, List.replicate_succ, List.replicate_zero, List.cons_append, List.nil_append, List.getElem?_cons_zero, List.getElem?_cons_succ, List.set_cons_zero, List.set_cons_succ, List.take_length, Option.map_some, Option.map_none, List.append_nil, Nat.sub_self, w_idxV, w_idx_t, w_idx_l, w_idx_f, at0, at1, at2, cut1, w_call, w_tup, w_lst, Nat.reduceSub, Nat.reduceAdd, Nat.reduceLeDiff, if_true, reduceIte, Bool.not_true, Bool.not_false, Bool.false_eq_true, reduceCtorEq, w_isT, w_comp, w_datV, w_compN, w_rhoV, w_compC, w_okT, w_any, w_any_t, w_any_l, w_any_f, w_enum, w_enum_t, w_enum_l, w_zip, w_zip_t, w_zip_l, zip_nil, zip_nil2, zip_cons, w_range, tg_nm, tg_tp2, wipe_nil, wipe_cons, Nat.reduceLT, number_w ha.nod, number_w hb.nod, number_w hc.nod]
          cases q2 : nm b 0 2 with
          | false => simp [wp_ok, wp_okD, wp_bind, w_var, w_varV, w_c, w_bin, w_un, w_nil, w_cons, w_args, w_boolV, w_tOf, w_fAnd, w_fOr, w_fNot, w_eAnd, w_eOr, w_eIf, w_chain, w_optV, w_oNone, w_oSome, w_cut, o_cutT, o_cutL, w_pass, w_ret, w_if, w_seqV, w_seqR, w_seq, w_asgV, w_asg, w_gNm, w_gTp, w_gNl, w_gCn, w_par2V, w_par2, w_set, w_body, w_endD, w_endN, w_for, w_forN, w_loopN, w_loopR, w_forC, o_add, o_addB, o_sub, o_ord, o_lt, o_le, o_gt, o_ge, o_eqI, o_neI, o_eqB, o_not, o_neg, o_len_t, o_len_l, o_len_f, datL_nil, datL_cons, startR, List.map_cons, List.map_nil, List.length_cons, List.length_nil, List.replicate_succ, List.replicate_zero, List.cons_append, List.nil_append, List.getElem?_cons_zero, List.getElem?_cons_succ, List.set_cons_zero, List.set_cons_succ, List.take_length, Option.map_some, Option.map_none, List.append_nil, Nat.sub_self, w_idxV, w_idx_t, w_idx_l, w_idx_f, at0, at1, at2, cut1, w_call, w_tup, w_lst, Nat.reduceSub, Nat.reduceAdd, Nat.reduceLeDiff, if_true, reduceIte, Bool.not_true, Bool.not_false, Bool.false_eq_true, reduceCtorEq, w_isT, w_comp, w_datV, w_compN, w_rhoV, w_compC, w_okT, w_any, w_any_t, w_any_l, w_any_f, w_enum, w_enum_t, w_enum_l, w_zip, w_zip_t, w_zip_l, zip_nil, zip_nil2, zip_cons, w_range, tg_nm, tg_tp2, wipe_nil, wipe_cons, Nat.reduceLT, part, q1, q2]
          | true =>
            simp only [wp_ok, wp_okD, wp_bind, w_var, w_varV, w_c, w_bin, w_un, w_nil, w_cons, w_args, w_boolV, w_tOf, w_fAnd, w_fOr, w_fNot, w_eAnd, w_eOr, w_eIf, w_chain, w_optV, w_oNone, w_oSome, w_cut, o_cutT, o_cutL, w_pass, w_ret, w_if, w_seqV, w_seqR, w_seq, w_asgV, w_asg, w_gNm, w_gTp, w_gNl, w_gCn, w_par2V, w_par2, w_set, w_body, w_endD, w_endN, w_for, w_forN, w_loopN, w_loopR, w_forC, o_add, o_addB, o_sub, o_ord, o_lt, o_le, o_gt, o_ge, o_eqI, o_neI, o_eqB, o_not, o_neg, o_len_t, o_len_l, o_len_f, datL_nil, datL_cons, startR, List.map_cons, List.map_nil, List.length_cons, List.length_nil, List.replicate_succ, List.replicate_zero, List.cons_append, List.nil_append, List.getElem?_cons_zero, List.getElem?_cons_succ, List.set_cons_zero, List.set_cons_succ, List.take_length, Option.map_some, Option.map_none, List.append_nil, Nat.sub_self, w_idxV, w_idx_t, w_idx_l, w_idx_f, at0, at1, at2, cut1, w_call, w_tup, w_lst, Nat.reduceSub, Nat.reduceAdd, Nat.reduceLeDiff, if_true, reduceIte, Bool.not_true, Bool.not_false, Bool.false_eq_true, reduceCtorEq, w_isT, w_comp, w_datV, w_compN, w_rhoV, w_compC, w_okT, w_any, w_any_t, w_any_l, w_any_f, w_enum, w_enum_t, w_enum_l, w_zip, w_zip_t, w_zip_l, zip_nil, zip_nil2, zip_cons, w_range, tg_nm, tg_tp2, wipe_nil, wipe_cons, Nat.reduceLT, number_w ha.nod, number_w hb.nod, number_w hc.nod]
            cases q3 : nm c 0 9 with
            | false => simp [wp_ok, wp_okD, wp_bind, w_var, w_varV, w_c, w_bin, w_un, w_nil, w_cons, w_args, w_boolV, w_tOf, w_fAnd, w_fOr, w_fNot, w_eAnd, w_eOr, w_eIf, w_chain, w_optV, w_oNone, w_oSome, w_cut, o_cutT, o_cutL, w_pass, w_ret, w_if, w_seqV, w_seqR, w_seq, w_asgV, w_asg, w_gNm, w_gTp, w_gNl, w_gCn, w_par2V, w_par2, w_set, w_body, w_endD, w_endN, w_for, w_forN, w_loopN, w_loopR, w_forC, o_add, o_addB, o_sub, o_ord, o_lt, o_le, o_gt, o_ge, o_eqI, o_neI, o_eqB, o_not, o_neg, o_len_t, o_len_l, o_len_f, datL_nil, datL_cons, startR, List.map_cons, List.map_nil, List.length_cons, List.length_nil, List.replicate_succ, List.replicate_zero, List.cons_append, List.nil_append, List.getElem?_cons_zero, List.getElem?_cons_succ, List.set_cons_zero, List.set_cons_succ, List.take_length, Option.map_some, Option.map_none, List.append_nil, Nat.sub_self, w_idxV, w_idx_t, w_idx_l, w_idx_f, at0, at1, at2, cut1, w_call, w_tup, w_lst, Nat.reduceSub, Nat.reduceAdd, Nat.reduceLeDiff, if_true, reduceIte, Bool.not_true, Bool.not_false, Bool.false_eq_true, reduceCtorEq, w_isT, w_comp, w_datV, w_compN, w_rhoV, w_compC, w_okT, w_any, w_any_t, w_any_l, w_any_f, w_enum, w_enum_t, w_enum_l, w_zip, w_zip_t, w_zip_l, zip_nil, zip_nil2, zip_cons, w_range, tg_nm, tg_tp2, wipe_nil, wipe_cons, Nat.reduceLT, part, q1, q2, q3]
            | true =>
              simp only [wp_ok, wp_okD, wp_bind, w_var, w_varV, w_c, w_bin, w_un, w_nil, w_cons, w_args, w_boolV, w_tOf, w_fAnd, w_fOr, w_fNot, w_eAnd, w_eOr, w_eIf, w_chain, w_optV, w_oNone, w_oSome, w_cut, o_cutT, o_cutL, w_pass, w_ret, w_if, w_seqV, w_seqR, w_seq, w_asgV, w_asg, w_gNm, w_gTp, w_gNl, w_gCn, w_par2V, w_par2, w_set, w_body, w_endD, w_endN, w_for, w_forN, w_loopN, w_loopR, w_forC, o_add, o_addB, o_sub, o_ord, o_lt, o_le, o_gt, o_ge, o_eqI, o_neI, o_eqB, o_not, o_neg, o_len_t, o_len_l, o_len_f, datL_nil, datL_cons, startR, List.map_cons, List.map_nil, List.length_cons, List.length_nil, List.replicate_succ, List.replicate_zero, List.cons_append, List.nil_append, List.getElem?_cons_zero, List.getElem?_cons_succ, List.set_cons_zero, List.set_cons_succ, List.take_length, Option.map_some, Option.map_none, List.append_nil, Nat.sub_self, w_idxV, w_idx_t, w_idx_l, w_idx_f, at0, at1, at2, cut1, w_call, w_tup, w_lst, Nat.reduceSub, Nat.reduceAdd, Nat.reduceLeDiff, if_true, reduceIte, Bool.not_true, Bool.not_false, Bool.false_eq_true, reduceCtorEq, w_isT, w_comp, w_datV, w_compN, w_rhoV, w_compC, w_okT, w_any, w_any_t, w_any_l, w_any_f, w_enum, w_enum_t, w_enum_l, w_zip, w_zip_t, w_zip_l, zip_nil, zip_nil2, zip_cons, w_range, tg_nm, tg_tp2, wipe_nil, wipe_cons, Nat.reduceLT, w_eq (neg := true) (sh2 (by omega) hb hc) (show SeqAt.shaped (.tuple [.int 0, .int 0]) = true from rfl), part, q1, q2, q3, Bool.true_and, PyData.eqv]
      · have e1 : tp (.tuple (a :: b :: c :: d :: r)) 3 3 = false := by
          simp only [tp, List.length_cons, Bool.and_eq_false_iff, decide_eq_false_iff_not]
          right; omega
        rw [e1]
        simp only [wp_ok, wp_okD, wp_bind, w_var, w_varV, w_c, w_bin, w_un, w_nil, w_cons, w_args, w_boolV, w_tOf, w_fAnd, w_fOr, w_fNot, w_eAnd, w_eOr, w_eIf, w_chain, w_optV, w_oNone, w_oSome, w_cut, o_cutT, o_cutL, w_pass, w_ret, w_if, w_seqV, w_seqR, w_seq, w_asgV, w_asg, w_gNm, w_gTp, w_gNl, w_gCn, w_par2V, w_par2, w_set, w_body, w_endD, w_endN, w_for, w_forN, w_loopN, w_loopR, w_forC, o_add, o_addB, o_sub, o_ord, o_lt, o_le, o_gt, o_ge, o_eqI, o_neI, o_eqB, o_not, o_neg, o_len_t, o_len_l, o_len_f, datL_nil, datL_cons, startR, List.map_cons, List.map_nil, List.length_cons, List.length_nil, List.replicate_succ, List.replicate_zero, List.cons_append, List.nil_append, List.getElem?_cons_zero, List.getElem?_cons_succ, List.set_cons_zero, List.set_cons_succ, List.take_length, Option.map_some, Option.map_none, List.append_nil, Nat.sub_self, w_idxV, w_idx_t, w_idx_l, w_idx_f, at0, at1, at2, cut1, w_call, w_tup, w_lst, Nat.reduceSub, Nat.reduceAdd, Nat.reduceLeDiff, if_true, reduceIte, Bool.not_true, Bool.not_false, Bool.false_eq_true, reduceCtorEq, w_isT, w_comp, w_datV, w_compN, w_rhoV, w_compC, w_okT, w_any, w_any_t, w_any_l, w_any_f, w_enum, w_enum_t, w_enum_l, w_zip, w_zip_t, w_zip_l, zip_nil, zip_nil2, zip_cons, w_range, tg_nm, tg_tp2, wipe_nil, wipe_cons, Nat.reduceLT, part]
  | _ => simp [wp_ok, wp_okD, wp_bind, w_var, w_varV, w_c, w_bin, w_un, w_nil, w_cons, w_args, w_boolV, w_tOf, w_fAnd, w_fOr, w_fNot, w_eAnd, w_eOr, w_eIf, w_chain, w_optV, w_oNone, w_oSome, w_cut, o_cutT, o_cutL, w_pass, w_ret, w_if, w_seqV, w_seqR, w_seq, w_asgV, w_asg, w_gNm, w_gTp, w_gNl, w_gCn, w_par2V, w_par2, w_set, w_body, w_endD, w_endN, w_for, w_forN, w_loopN, w_loopR, w_forC, o_add, o_addB, o_sub, o_ord, o_lt, o_le, o_gt, o_ge, o_eqI, o_neI, o_eqB, o_not, o_neg, o_len_t, o_len_l, o_len_f, datL_nil, datL_cons, startR, List.map_cons, List.map_nil, List.length_cons, List.length_nil, List.replicate_succ, List.replicate_zero, List.cons_append, List.nil_append, List.getElem?_cons_zero, List.getElem?_cons_succ, List.set_cons_zero, List.set_cons_succ, List.take_length, Option.map_some, Option.map_none, List.append_nil, Nat.sub_self, w_idxV, w_idx_t, w_idx_l, w_idx_f, at0, at1, at2, cut1, w_call, w_tup, w_lst, Nat.reduceSub, Nat.reduceAdd, Nat.reduceLeDiff, if_true, reduceIte, Bool.not_true, Bool.not_false, Bool.false_eq_true, reduceCtorEq, w_isT, w_comp, w_datV, w_compN, w_rhoV, w_compC, w_okT, w_any, w_any_t, w_any_l, w_any_f, w_enum, w_enum_t, w_enum_l, w_zip, w_zip_t, w_zip_l, zip_nil, zip_nil2, zip_cons, w_range, tg_nm, tg_tp2, wipe_nil, wipe_cons, Nat.reduceLT, tp, part]
end K01
set_option Elab.async false
set_option linter.all false
set_option maxRecDepth 100000
set_option maxHeartbeats 4000000
namespace K01
open PySem PySem.Spec PyProof.Rows L2 DN
def fig (v : PyData) : PyData := match v with
  | .tuple (a :: _) => a
  | _ => .none
def run (last : PyData) : List PyData → Bool
  | [] => true
  | p :: r => part p && (!PyData.eqv (fig p) last && run (fig p) r)
def head0 (ds : List PyData) : Bool := match ds with
  | p :: _ => (match fig p with
    | .int x => decide (0 < x)
    | _ => false)
  | [] => false
def one0 : PyData := .tuple [.tuple [.int 0, .int 0, .int 1]]
def pat (v : PyData) : Bool := match v with
  | .tuple ds => decide (1 ≤ ds.length) && (decide (ds.length ≤ 3) && (run .none ds && (head0 ds || PyData.eqv v one0)))
  | _ => false
theorem nm_int {v : PyData} {lo hi : Int} (h : nm v lo hi = true) : ∃ i, v = .int i ∧ lo ≤ i ∧ i ≤ hi := by
  cases v with
  | int i => simp only [nm, Bool.and_eq_true, decide_eq_true_eq] at h; exact ⟨i, rfl, h⟩
  | _ => simp [nm] at h
theorem part_ex {v : PyData} (h : part v = true) : ∃ x y z, v = .tuple [.int x, .int y, .int z] ∧ 0 ≤ x ∧ x ≤ 9 ∧ 0 ≤ y ∧ y ≤ 2 ∧ 0 ≤ z ∧ z ≤ 9 ∧ ¬ (y + z = 0) := by
  unfold part at h
  split at h
  · rename_i a b c
    simp only [Bool.and_eq_true] at h
    obtain ⟨h1, h2, h3, h4⟩ := h
    obtain ⟨x, rfl, x1, x2⟩ := nm_int h1
    obtain ⟨y, rfl, y1, y2⟩ := nm_int h2
    obtain ⟨z, rfl, z1, z2⟩ := nm_int h3
    refine ⟨x, y, z, rfl, x1, x2, y1, y2, z1, z2, fun e => ?_⟩
    have ey : y = 0 := by omega
    have ez : z = 0 := by omega
    subst ey ez
    simp [PyData.eqvAll, PyData.eqv] at h4
  · cases h
theorem eqv_i {i j : Int} : PyData.eqv (.int i) (.int j) = (i == j) := by simp only [PyData.eqv]
theorem eqv_all2 {a b c d : PyData} : PyData.eqvAll [a, b] [c, d] = (PyData.eqv a c && PyData.eqv b d) := by simp only [PyData.eqvAll, Bool.and_true]
theorem shI {i : Int} : SeqAt.shaped (.int i) = true := rfl
theorem shN : SeqAt.shaped .none = true := rfl
theorem lb_pat_w {m n : Nat} {v : Val} {p last : PyData} {μ : Mem} {QS : Flo × Rho → Mem → Prop} (hn : n ≤ 40) (hp : wf m n p) (hl : SeqAt.shaped last = true) :
    wp (lb_l_is_pattern_0 [some v, some (.dat last), some (.dat p)] μ) QS = if (part p && !PyData.eqv (fig p) last) = true then QS (.nx, [some v, some (.dat (fig p)), some (.dat p)]) μ else QS (.rt (.dat (.bool false)), [some v, some (.dat last), some (.dat p)]) μ := by
  unfold lb_l_is_pattern_0
  simp only [wp_ok, wp_okD, wp_bind, w_var, w_varV, w_c, w_bin, w_un, w_nil, w_cons, w_args, w_boolV, w_tOf, w_fAnd, w_fOr, w_fNot, w_eAnd, w_eOr, w_eIf, w_chain, w_optV, w_oNone, w_oSome, w_cut, o_cutT, o_cutL, w_pass, w_ret, w_if, w_seqV, w_seqR, w_seq, w_asgV, w_asg, w_gNm, w_gTp, w_gNl, w_gCn, w_par2V, w_par2, w_set, w_body, w_endD, w_endN, w_for, w_forN, w_loopN, w_loopR, w_forC, o_add, o_addB, o_sub, o_ord, o_lt, o_le, o_gt, o_ge, o_eqI, o_neI, o_eqB, o_not, o_neg, o_len_t, o_len_l, o_len_f, datL_nil, datL_cons, startR, List.map_cons, List.map_nil, List.length_cons, List.length_nil, List.replicate_succ, List.replicate_zero, List.cons_append, List.nil_append, List.getElem?_cons_zero, List.getElem?_cons_succ, List.set_cons_zero, List.set_cons_succ, List.take_length, Option.map_some, Option.map_none, List.append_nil, Nat.sub_self, w_idxV, w_idx_t, w_idx_l, w_idx_f, at0, at1, at2, cut1, w_call, w_tup, w_lst, Nat.reduceSub, Nat.reduceAdd, Nat.reduceLeDiff, if_true, reduceIte, Bool.not_true, Bool.not_false, Bool.false_eq_true, reduceCtorEq, w_isT, w_comp, w_datV, w_compN, w_rhoV, w_compC, w_okT, w_any, w_any_t, w_any_l, w_any_f, w_enum, w_enum_t, w_enum_l, w_zip, w_zip_t, w_zip_l, zip_nil, zip_nil2, zip_cons, w_range, tg_nm, tg_tp2, wipe_nil, wipe_cons, Nat.reduceLT, w_isT hp.nod]
  cases p with
  | tuple ds =>
    cases n with
    | zero => simp only [wf] at hp
    | succ n =>
      simp only [wf] at hp
      obtain ⟨-, h⟩ := hp
      rcases ds with _ | ⟨a, _ | ⟨b, _ | ⟨c, _ | ⟨d, r⟩⟩⟩⟩
      · simp [wp_ok, wp_okD, wp_bind, w_var, w_varV, w_c, w_bin, w_un, w_nil, w_cons, w_args, w_boolV, w_tOf, w_fAnd, w_fOr, w_fNot, w_eAnd, w_eOr, w_eIf, w_chain, w_optV, w_oNone, w_oSome, w_cut, o_cutT, o_cutL, w_pass, w_ret, w_if, w_seqV, w_seqR, w_seq, w_asgV, w_asg, w_gNm, w_gTp, w_gNl, w_gCn, w_par2V, w_par2, w_set, w_body, w_endD, w_endN, w_for, w_forN, w_loopN, w_loopR, w_forC, o_add, o_addB, o_sub, o_ord, o_lt, o_le, o_gt, o_ge, o_eqI, o_neI, o_eqB, o_not, o_neg, o_len_t, o_len_l, o_len_f, datL_nil, datL_cons, startR, List.map_cons, List.map_nil, List.length_cons, List.length_nil, List.replicate_succ, List.replicate_zero, List.cons_append, List.nil_append, List.getElem?_cons_zero, List.getElem?_cons_succ, List.set_cons_zero, List.set_cons_succ, List.take_length, Option.map_some, Option.map_none, List.append_nil, Nat.sub_self, w_idxV, w_idx_t, w_idx_l, w_idx_f, at0, at1, at2, cut1, w_call, w_tup, w_lst, Nat.reduceSub, Nat.reduceAdd, Nat.reduceLeDiff, if_true, reduceIte, Bool.not_true, Bool.not_false, Bool.false_eq_true, reduceCtorEq, w_isT, w_comp, w_datV, w_compN, w_rhoV, w_compC, w_okT, w_any, w_any_t, w_any_l, w_any_f, w_enum, w_enum_t, w_enum_l, w_zip, w_zip_t, w_zip_l, zip_nil, zip_nil2, zip_cons, w_range, tg_nm, tg_tp2, wipe_nil, wipe_cons, Nat.reduceLT, isT, part]
      · simp [wp_ok, wp_okD, wp_bind, w_var, w_varV, w_c, w_bin, w_un, w_nil, w_cons, w_args, w_boolV, w_tOf, w_fAnd, w_fOr, w_fNot, w_eAnd, w_eOr, w_eIf, w_chain, w_optV, w_oNone, w_oSome, w_cut, o_cutT, o_cutL, w_pass, w_ret, w_if, w_seqV, w_seqR, w_seq, w_asgV, w_asg, w_gNm, w_gTp, w_gNl, w_gCn, w_par2V, w_par2, w_set, w_body, w_endD, w_endN, w_for, w_forN, w_loopN, w_loopR, w_forC, o_add, o_addB, o_sub, o_ord, o_lt, o_le, o_gt, o_ge, o_eqI, o_neI, o_eqB, o_not, o_neg, o_len_t, o_len_l, o_len_f, datL_nil, datL_cons, startR, List.map_cons, List.map_nil, List.length_cons, List.length_nil, List.replicate_succ, List.replicate_zero, List.cons_append, List.nil_append, List.getElem?_cons_zero, List.getElem?_cons_succ, List.set_cons_zero, List.set_cons_succ, List.take_length, Option.map_some, Option.map_none, List.append_nil, Nat.sub_self, w_idxV, w_idx_t, w_idx_l, w_idx_f, at0, at1, at2, cut1, w_call, w_tup, w_lst, Nat.reduceSub, Nat.reduceAdd, Nat.reduceLeDiff, if_true, reduceIte, Bool.not_true, Bool.not_false, Bool.false_eq_true, reduceCtorEq, w_isT, w_comp, w_datV, w_compN, w_rhoV, w_compC, w_okT, w_any, w_any_t, w_any_l, w_any_f, w_enum, w_enum_t, w_enum_l, w_zip, w_zip_t, w_zip_l, zip_nil, zip_nil2, zip_cons, w_range, tg_nm, tg_tp2, wipe_nil, wipe_cons, Nat.reduceLT, isT, part]
      · simp [wp_ok, wp_okD, wp_bind, w_var, w_varV, w_c, w_bin, w_un, w_nil, w_cons, w_args, w_boolV, w_tOf, w_fAnd, w_fOr, w_fNot, w_eAnd, w_eOr, w_eIf, w_chain, w_optV, w_oNone, w_oSome, w_cut, o_cutT, o_cutL, w_pass, w_ret, w_if, w_seqV, w_seqR, w_seq, w_asgV, w_asg, w_gNm, w_gTp, w_gNl, w_gCn, w_par2V, w_par2, w_set, w_body, w_endD, w_endN, w_for, w_forN, w_loopN, w_loopR, w_forC, o_add, o_addB, o_sub, o_ord, o_lt, o_le, o_gt, o_ge, o_eqI, o_neI, o_eqB, o_not, o_neg, o_len_t, o_len_l, o_len_f, datL_nil, datL_cons, startR, List.map_cons, List.map_nil, List.length_cons, List.length_nil, List.replicate_succ, List.replicate_zero, List.cons_append, List.nil_append, List.getElem?_cons_zero, List.getElem?_cons_succ, List.set_cons_zero, List.set_cons_succ, List.take_length, Option.map_some, Option.map_none, List.append_nil, Nat.sub_self, w_idxV, w_idx_t, w_idx_l, w_idx_f, at0, at1, at2, cut1, w_call, w_tup, w_lst, Nat.reduceSub, Nat.reduceAdd, Nat.reduceLeDiff, if_true, reduceIte, Bool.not_true, Bool.not_false, Bool.false_eq_true, reduceCtorEq, w_isT, w_comp, w_datV, w_compN, w_rhoV, w_compC, w_okT, w_any, w_any_t, w_any_l, w_any_f, w_enum, w_enum_t, w_enum_l, w_zip, w_zip_t, w_zip_l, zip_nil, zip_nil2, zip_cons, w_range, tg_nm, tg_tp2, wipe_nil, wipe_cons, Nat.reduceLT, isT, part]
      · have ha := h a (by simp)
        have hb := h b (by simp)
        have hc := h c (by simp)
        have e1 : isT (.tuple [a, b, c]) "tuple" = true := rfl
        simp only [e1, wp_ok, wp_okD, wp_bind, w_var, w_varV, w_c, w_bin, w_un, w_nil, w_cons, w_args, w_boolV, w_tOf, w_fAnd, w_fOr, w_fNot, w_eAnd, w_eOr, w_eIf, w_chain, w_optV, w_oNone, w_oSome, w_cut, o_cutT, o_cutL, w_pass, w_ret, w_if, w_seqV, w_seqR, w_seq, w_asgV, w_asg, w_gNm, w_gTp, w_gNl, w_gCn, w_par2V, w_par2, w_set, w_body, w_endD, w_endN, w_for, w_forN, w_loopN, w_loopR, w_forC, o_add, o_addB, o_sub, o_ord, o_lt, o_le, o_gt, o_ge, o_eqI, o_neI, o_eqB, o_not, o_neg, o_len_t, o_len_l, o_len_f, datL_nil, datL_cons, startR, List.map_cons, List.map_nil, List.length_cons, List.length_nil, List.replicate_succ, List.replicate_zero, List.cons_append, List.nil_append, List.getElem?_cons_zero, List.getElem?_cons_succ, List.set_cons_zero, List.set_cons_succ, List.take_length, Option.map_some, Option.map_none, List.append_nil, Nat.sub_self, w_idxV, w_idx_t, w_idx_l, w_idx_f, at0, at1, at2, cut1, w_call, w_tup, w_lst, Nat.reduceSub, Nat.reduceAdd, Nat.reduceLeDiff, if_true, reduceIte, Bool.not_true, Bool.not_false, Bool.false_eq_true, reduceCtorEq, w_isT, w_comp, w_datV, w_compN, w_rhoV, w_compC, w_okT, w_any, w_any_t, w_any_l, w_any_f, w_enum, w_enum_t, w_enum_l, w_zip, w_zip_t, w_zip_l, zip_nil, zip_nil2, zip_cons, w_range, tg_nm, tg_tp2, wipe_nil, wipe_cons, Nat.reduceLT, is_int_w ha.nod, is_int_w hb.nod, is_int_w hc.nod]
        cases q1 : nm a 0 9 with
        | false => simp [wp_ok, wp_okD, wp_bind, w_var, w_varV, w_c, w_bin, w_un, w_nil, w_cons, w_args, w_boolV, w_tOf, w_fAnd, w_fOr, w_fNot, w_eAnd, w_eOr, w_eIf, w_chain, w_optV, w_oNone, w_oSome, w_cut, o_cutT, o_cutL, w_pass, w_ret, w_if, w_seqV, w_seqR, w_seq, w_asgV, w_asg, w_gNm, w_gTp, w_gNl, w_gCn, w_par2V, w_par2, w_set, w_body, w_endD, w_endN, w_for, w_forN, w_loopN, w_loopR, w_forC, o_add, o_addB, o_sub, o_ord, o_lt, o_le, o_gt, o_ge, o_eqI, o_neI, o_eqB, o_not, o_neg, o_len_t, o_len_l, o_len_f, datL_nil, datL_cons, startR, List.map_cons, List.map_nil, List.length_cons, List.length_nil, List.replicate_succ, List.replicate_zero, List.cons_append, List.nil_append, List.getElem?_cons_zero, List.getElem?_cons_succ, List.set_cons_zero, List.set_cons_succ, List.take_length, Option.map_some, Option.map_none, List.append_nil, Nat.sub_self, w_idxV, w_idx_t, w_idx_l, w_idx_f, at0, at1, at2, cut1, w_call, w_tup, w_lst, Nat.reduceSub, Nat.reduceAdd, Nat.reduceLeDiff, if_true, reduceIte, Bool.not_true, Bool.not_false, Bool.false_eq_true, reduceCtorEq, w_isT, w_comp, w_datV, w_compN, w_rhoV, w_compC, w_okT, w_any, w_any_t, w_any_l, w_any_f, w_enum, w_enum_t, w_enum_l, w_zip, w_zip_t, w_zip_l, zip_nil, zip_nil2, zip_cons, w_range, tg_nm, tg_tp2, wipe_nil, wipe_cons, Nat.reduceLT, part, q1]
        | true =>
          simp only [wp_ok, wp_okD, wp_bind, w_var, w_varV, w_c, w_bin, w_un, w_nil, w_cons, w_args, w_boolV, w_tOf, w_fAnd, w_fOr, w_fNot, w_eAnd, w_eOr, w_eIf, w_chain, w_optV, w_oNone, w_oSome, w_cut, o_cutT, o_cutL, w_pass, w_ret, w_if, w_seqV, w_seqR, w_seq, w_asgV, w_asg, w_gNm, w_gTp, w_gNl, w_gCn, w_par2V, w_par2, w_set, w_body, w_endD, w_endN, w_for, w_forN, w_loopN, w_loopR, w_forC, o_add, o_addB, o_sub, o_ord, o_lt, o_le, o_gt, o_ge, o_eqI, o_neI, o_eqB, o_not, o_neg, o_len_t, o_len_l, o_len_f, datL_nil, datL_cons, startR, List.map_cons, List.map_nil, List.length_cons, List.length_nil, List.replicate_succ, List.replicate_zero, List.cons_append, List.nil_append, List.getElem?_cons_zero, List.getElem?_cons_succ, List.set_cons_zero, List.set_cons_succ, List.take_length, Option.map_some, Option.map_none, List.append_nil, Nat.sub_self, w_idxV, w_idx_t, w_idx_l, w_idx_f, at0, at1, at2, cut1, w_call, w_tup, w_lst, Nat.reduceSub, Nat.reduceAdd, Nat.reduceLeDiff, if_true, reduceIte, Bool.not_true, Bool.not_false, Bool.false_eq_true, reduceCtorEq, w_isT, w_comp, w_datV, w_compN, w_rhoV, w_compC, w_okT, w_any, w_any_t, w_any_l, w_any_f, w_enum, w_enum_t, w_enum_l, w_zip, w_zip_t, w_zip_l, zip_nil, zip_nil2, zip_cons, w_range, tg_nm, tg_tp2, wipe_nil, wipe_cons, Nat.reduceLT, is_int_w ha.nod, is_int_w hb.nod, is_int_w hc.nod]
          cases q2 : nm b 0 2 with
          | false => simp [wp_ok, wp_okD, wp_bind, w_var, w_varV, w_c, w_bin, w_un, w_nil, w_cons, w_args, w_boolV, w_tOf, w_fAnd, w_fOr, w_fNot, w_eAnd, w_eOr, w_eIf, w_chain, w_optV, w_oNone, w_oSome, w_cut, o_cutT, o_cutL, w_pass, w_ret, w_if, w_seqV, w_seqR, w_seq, w_asgV, w_asg, w_gNm, w_gTp, w_gNl, w_gCn, w_par2V, w_par2, w_set, w_body, w_endD, w_endN, w_for, w_forN, w_loopN, w_loopR, w_forC, o_add, o_addB, o_sub, o_ord, o_lt, o_le, o_gt, o_ge, o_eqI, o_neI, o_eqB, o_not, o_neg, o_len_t, o_len_l, o_len_f, datL_nil, datL_cons, startR, List.map_cons, List.map_nil, List.length_cons, List.length_nil, List.replicate_succ, List.replicate_zero, List.cons_append, List.nil_append, List.getElem?_cons_zero, List.getElem?_cons_succ, List.set_cons_zero, List.set_cons_succ, List.take_length, Option.map_some, Option.map_none, List.append_nil, Nat.sub_self, w_idxV, w_idx_t, w_idx_l, w_idx_f, at0, at1, at2, cut1, w_call, w_tup, w_lst, Nat.reduceSub, Nat.reduceAdd, Nat.reduceLeDiff, if_true, reduceIte, Bool.not_true, Bool.not_false, Bool.false_eq_true, reduceCtorEq, w_isT, w_comp, w_datV, w_compN, w_rhoV, w_compC, w_okT, w_any, w_any_t, w_any_l, w_any_f, w_enum, w_enum_t, w_enum_l, w_zip, w_zip_t, w_zip_l, zip_nil, zip_nil2, zip_cons, w_range, tg_nm, tg_tp2, wipe_nil, wipe_cons, Nat.reduceLT, part, q1, q2]
          | true =>
            simp only [wp_ok, wp_okD, wp_bind, w_var, w_varV, w_c, w_bin, w_un, w_nil, w_cons, w_args, w_boolV, w_tOf, w_fAnd, w_fOr, w_fNot, w_eAnd, w_eOr, w_eIf, w_chain, w_optV, w_oNone, w_oSome, w_cut, o_cutT, o_cutL, w_pass, w_ret, w_if, w_seqV, w_seqR, w_seq, w_asgV, w_asg, w_gNm, w_gTp, w_gNl, w_gCn, w_par2V, w_par2, w_set, w_body, w_endD, w_endN, w_for, w_forN, w_loopN, w_loopR, w_forC, o_add, o_addB, o_sub, o_ord, o_lt, o_le, o_gt, o_ge, o_eqI, o_neI, o_eqB, o_not, o_neg, o_len_t, o_len_l, o_len_f, datL_nil, datL_cons, startR, List.map_cons, List.map_nil, List.length_cons, List.length_nil, List.replicate_succ, List.replicate_zero, List.cons_append, List.nil_append, List.getElem?_cons_zero, List.getElem?_cons_succ, List.set_cons_zero, List.set_cons_succ, List.take_length, Option.map_some, Option.map_none, List.append_nil, Nat.sub_self, w_idxV, w_idx_t, w_idx_l, w_idx_f, at0, at1, at2, cut1, w_call, w_tup, w_lst, Nat.reduceSub, Nat.reduceAdd, Nat.reduceLeDiff, if_true, reduceIte, Bool.not_true, Bool.not_false, Bool.false_eq_true, reduceCtorEq, w_isT, w_comp, w_datV, w_compN, w_rhoV, w_compC, w_okT, w_any, w_any_t, w_any_l, w_any_f, w_enum, w_enum_t, w_enum_l, w_zip, w_zip_t, w_zip_l, zip_nil, zip_nil2, zip_cons, w_range, tg_nm, tg_tp2, wipe_nil, wipe_cons, Nat.reduceLT, is_int_w ha.nod, is_int_w hb.nod, is_int_w hc.nod]
            cases q3 : nm c 0 9 with
            | false => simp [wp_ok, wp_okD, wp_bind, w_var, w_varV, w_c, w_bin, w_un, w_nil, w_cons, w_args, w_boolV, w_tOf, w_fAnd, w_fOr, w_fNot, w_eAnd, w_eOr, w_eIf, w_chain, w_optV, w_oNone, w_oSome, w_cut, o_cutT, o_cutL, w_pass, w_ret, w_if, w_seqV, w_seqR, w_seq, w_asgV, w_asg, w_gNm, w_gTp, w_gNl, w_gCn, w_par2V, w_par2, w_set, w_body, w_endD, w_endN, w_for, w_forN, w_loopN, w_loopR, w_forC, o_add, o_addB, o_sub, o_ord, o_lt, o_le, o_gt, o_ge, o_eqI, o_neI, o_eqB, o_not, o_neg, o_len_t, o_len_l, o_len_f, datL_nil, datL_cons, startR, List.map_cons, List.map_nil, List.length_cons, List.length_nil, List.replicate_succ, List.replicate_zero, List.cons_append, List.nil_append, List.getElem?_cons_zero, List.getElem?_cons_succ, List.set_cons_zero, List.set_cons_succ, List.take_length, Option.map_some, Option.map_none, List.append_nil, Nat.sub_self, w_idxV, w_idx_t, w_idx_l, w_idx_f, at0, at1, at2, cut1, w_call, w_tup, w_lst, Nat.reduceSub, Nat.reduceAdd, Nat.reduceLeDiff, if_true, reduceIte, Bool.not_true, Bool.not_false, Bool.false_eq_true, reduceCtorEq, w_isT, w_comp, w_datV, w_compN, w_rhoV, w_compC, w_okT, w_any, w_any_t, w_any_l, w_any_f, w_enum, w_enum_t, w_enum_l, w_zip, w_zip_t, w_zip_l, zip_nil, zip_nil2, zip_cons, w_range, tg_nm, tg_tp2, wipe_nil, wipe_cons, Nat.reduceLT, part, q1, q2, q3]
            | true =>
              obtain ⟨x, rfl, x1, x2⟩ := nm_int q1
              obtain ⟨y, rfl, y1, y2⟩ := nm_int q2
              obtain ⟨z, rfl, z1, z2⟩ := nm_int q3
              simp only [wp_ok, wp_okD, wp_bind, w_var, w_varV, w_c, w_bin, w_un, w_nil, w_cons, w_args, w_boolV, w_tOf, w_fAnd, w_fOr, w_fNot, w_eAnd, w_eOr, w_eIf, w_chain, w_optV, w_oNone, w_oSome, w_cut, o_cutT, o_cutL, w_pass, w_ret, w_if, w_seqV, w_seqR, w_seq, w_asgV, w_asg, w_gNm, w_gTp, w_gNl, w_gCn, w_par2V, w_par2, w_set, w_body, w_endD, w_endN, w_for, w_forN, w_loopN, w_loopR, w_forC, o_add, o_addB, o_sub, o_ord, o_lt, o_le, o_gt, o_ge, o_eqI, o_neI, o_eqB, o_not, o_neg, o_len_t, o_len_l, o_len_f, datL_nil, datL_cons, startR, List.map_cons, List.map_nil, List.length_cons, List.length_nil, List.replicate_succ, List.replicate_zero, List.cons_append, List.nil_append, List.getElem?_cons_zero, List.getElem?_cons_succ, List.set_cons_zero, List.set_cons_succ, List.take_length, Option.map_some, Option.map_none, List.append_nil, Nat.sub_self, w_idxV, w_idx_t, w_idx_l, w_idx_f, at0, at1, at2, cut1, w_call, w_tup, w_lst, Nat.reduceSub, Nat.reduceAdd, Nat.reduceLeDiff, if_true, reduceIte, Bool.not_true, Bool.not_false, Bool.false_eq_true, reduceCtorEq, w_isT, w_comp, w_datV, w_compN, w_rhoV, w_compC, w_okT, w_any, w_any_t, w_any_l, w_any_f, w_enum, w_enum_t, w_enum_l, w_zip, w_zip_t, w_zip_l, zip_nil, zip_nil2, zip_cons, w_range, tg_nm, tg_tp2, wipe_nil, wipe_cons, Nat.reduceLT, w_eq (neg := false) (shI (i := x)) hl, part, q1, q2, q3, Bool.true_and, fig, eqv_all2, eqv_i]
              by_cases ez : y + z = 0
              · have ey : y = 0 := by omega
                have ez' : z = 0 := by omega
                subst ey ez'
                simp [wp_ok, wp_okD, wp_bind, w_var, w_varV, w_c, w_bin, w_un, w_nil, w_cons, w_args, w_boolV, w_tOf, w_fAnd, w_fOr, w_fNot, w_eAnd, w_eOr, w_eIf, w_chain, w_optV, w_oNone, w_oSome, w_cut, o_cutT, o_cutL, w_pass, w_ret, w_if, w_seqV, w_seqR, w_seq, w_asgV, w_asg, w_gNm, w_gTp, w_gNl, w_gCn, w_par2V, w_par2, w_set, w_body, w_endD, w_endN, w_for, w_forN, w_loopN, w_loopR, w_forC, o_add, o_addB, o_sub, o_ord, o_lt, o_le, o_gt, o_ge, o_eqI, o_neI, o_eqB, o_not, o_neg, o_len_t, o_len_l, o_len_f, datL_nil, datL_cons, startR, List.map_cons, List.map_nil, List.length_cons, List.length_nil, List.replicate_succ, List.replicate_zero, List.cons_append, List.nil_append, List.getElem?_cons_zero, List.getElem?_cons_succ, List.set_cons_zero, List.set_cons_succ, List.take_length, Option.map_some, Option.map_none, List.append_nil, Nat.sub_self, w_idxV, w_idx_t, w_idx_l, w_idx_f, at0, at1, at2, cut1, w_call, w_tup, w_lst, Nat.reduceSub, Nat.reduceAdd, Nat.reduceLeDiff, if_true, reduceIte, Bool.not_true, Bool.not_false, Bool.false_eq_true, reduceCtorEq, w_isT, w_comp, w_datV, w_compN, w_rhoV, w_compC, w_okT, w_any, w_any_t, w_any_l, w_any_f, w_enum, w_enum_t, w_enum_l, w_zip, w_zip_t, w_zip_l, zip_nil, zip_nil2, zip_cons, w_range, tg_nm, tg_tp2, wipe_nil, wipe_cons, Nat.reduceLT]
              · have : ¬ (y = 0 ∧ z = 0) := fun ⟨a, b⟩ => ez (by omega)
                have e3 : (y == 0 && z == 0) = false := by
                  rw [Bool.and_eq_false_iff, beq_eq_false_iff_ne, beq_eq_false_iff_ne]
                  by_cases y = 0
                  · right; omega
                  · left; assumption
                rw [e3]
                cases q : PyData.eqv (.int x) last <;> simp [wp_ok, wp_okD, wp_bind, w_var, w_varV, w_c, w_bin, w_un, w_nil, w_cons, w_args, w_boolV, w_tOf, w_fAnd, w_fOr, w_fNot, w_eAnd, w_eOr, w_eIf, w_chain, w_optV, w_oNone, w_oSome, w_cut, o_cutT, o_cutL, w_pass, w_ret, w_if, w_seqV, w_seqR, w_seq, w_asgV, w_asg, w_gNm, w_gTp, w_gNl, w_gCn, w_par2V, w_par2, w_set, w_body, w_endD, w_endN, w_for, w_forN, w_loopN, w_loopR, w_forC, o_add, o_addB, o_sub, o_ord, o_lt, o_le, o_gt, o_ge, o_eqI, o_neI, o_eqB, o_not, o_neg, o_len_t, o_len_l, o_len_f, datL_nil, datL_cons, startR, List.map_cons, List.map_nil, List.length_cons, List.length_nil, List.replicate_succ, List.replicate_zero, List.cons_append, List.nil_append, List.getElem?_cons_zero, List.getElem?_cons_succ, List.set_cons_zero, List.set_cons_succ, List.take_length, Option.map_some, Option.map_none, List.append_nil, Nat.sub_self, w_idxV, w_idx_t, w_idx_l, w_idx_f, at0, at1, at2, cut1, w_call, w_tup, w_lst, Nat.reduceSub, Nat.reduceAdd, Nat.reduceLeDiff, if_true, reduceIte, Bool.not_true, Bool.not_false, Bool.false_eq_true, reduceCtorEq, w_isT, w_comp, w_datV, w_compN, w_rhoV, w_compC, w_okT, w_any, w_any_t, w_any_l, w_any_f, w_enum, w_enum_t, w_enum_l, w_zip, w_zip_t, w_zip_l, zip_nil, zip_nil2, zip_cons, w_range, tg_nm, tg_tp2, wipe_nil, wipe_cons, Nat.reduceLT, ez, q]
      · have e1 : ¬ (((r.length + 1 + 1 + 1 + 1 : Nat) : Int) = 3) := by omega
        simp [wp_ok, wp_okD, wp_bind, w_var, w_varV, w_c, w_bin, w_un, w_nil, w_cons, w_args, w_boolV, w_tOf, w_fAnd, w_fOr, w_fNot, w_eAnd, w_eOr, w_eIf, w_chain, w_optV, w_oNone, w_oSome, w_cut, o_cutT, o_cutL, w_pass, w_ret, w_if, w_seqV, w_seqR, w_seq, w_asgV, w_asg, w_gNm, w_gTp, w_gNl, w_gCn, w_par2V, w_par2, w_set, w_body, w_endD, w_endN, w_for, w_forN, w_loopN, w_loopR, w_forC, o_add, o_addB, o_sub, o_ord, o_lt, o_le, o_gt, o_ge, o_eqI, o_neI, o_eqB, o_not, o_neg, o_len_t, o_len_l, o_len_f, datL_nil, datL_cons, startR, List.map_cons, List.map_nil, List.length_cons, List.length_nil, List.replicate_succ, List.replicate_zero, List.cons_append, List.nil_append, List.getElem?_cons_zero, List.getElem?_cons_succ, List.set_cons_zero, List.set_cons_succ, List.take_length, Option.map_some, Option.map_none, List.append_nil, Nat.sub_self, w_idxV, w_idx_t, w_idx_l, w_idx_f, at0, at1, at2, cut1, w_call, w_tup, w_lst, Nat.reduceSub, Nat.reduceAdd, Nat.reduceLeDiff, if_true, reduceIte, Bool.not_true, Bool.not_false, Bool.false_eq_true, reduceCtorEq, w_isT, w_comp, w_datV, w_compN, w_rhoV, w_compC, w_okT, w_any, w_any_t, w_any_l, w_any_f, w_enum, w_enum_t, w_enum_l, w_zip, w_zip_t, w_zip_l, zip_nil, zip_nil2, zip_cons, w_range, tg_nm, tg_tp2, wipe_nil, wipe_cons, Nat.reduceLT, isT, part, e1]
        intro hh
        omega
  | _ => simp [wp_ok, wp_okD, wp_bind, w_var, w_varV, w_c, w_bin, w_un, w_nil, w_cons, w_args, w_boolV, w_tOf, w_fAnd, w_fOr, w_fNot, w_eAnd, w_eOr, w_eIf, w_chain, w_optV, w_oNone, w_oSome, w_cut, o_cutT, o_cutL, w_pass, w_ret, w_if, w_seqV, w_seqR, w_seq, w_asgV, w_asg, w_gNm, w_gTp, w_gNl, w_gCn, w_par2V, w_par2, w_set, w_body, w_endD, w_endN, w_for, w_forN, w_loopN, w_loopR, w_forC, o_add, o_addB, o_sub, o_ord, o_lt, o_le, o_gt, o_ge, o_eqI, o_neI, o_eqB, o_not, o_neg, o_len_t, o_len_l, o_len_f, datL_nil, datL_cons, startR, List.map_cons, List.map_nil, List.length_cons, List.length_nil, List.replicate_succ, List.replicate_zero, List.cons_append, List.nil_append, List.getElem?_cons_zero, List.getElem?_cons_succ, List.set_cons_zero, List.set_cons_succ, List.take_length, Option.map_some, Option.map_none, List.append_nil, Nat.sub_self, w_idxV, w_idx_t, w_idx_l, w_idx_f, at0, at1, at2, cut1, w_call, w_tup, w_lst, Nat.reduceSub, Nat.reduceAdd, Nat.reduceLeDiff, if_true, reduceIte, Bool.not_true, Bool.not_false, Bool.false_eq_true, reduceCtorEq, w_isT, w_comp, w_datV, w_compN, w_rhoV, w_compC, w_okT, w_any, w_any_t, w_any_l, w_any_f, w_enum, w_enum_t, w_enum_l, w_zip, w_zip_t, w_zip_l, zip_nil, zip_nil2, zip_cons, w_range, tg_nm, tg_tp2, wipe_nil, wipe_cons, Nat.reduceLT, isT, part]
theorem pat_loop {m n : Nat} {v : Val} {μ : Mem} {QS : Flo × Rho → Mem → Prop} (hn : n ≤ 40) : ∀ (ds : List PyData) (last : PyData) (o : Option Val), (∀ d ∈ ds, wf m n d) → SeqAt.shaped last = true →
    (run last ds = true → ∀ x y, QS (.nx, [some v, x, y]) μ) → (run last ds = false → ∀ ρ, QS (.rt (.dat (.bool false)), ρ) μ) → wp (forD (gNm 2) lb_l_is_pattern_0 ds [some v, some (.dat last), o] μ) QS
  | [], last, o, _, _, h1, _ => h1 rfl _ _
  | p :: ds, last, o, hw, hl, h1, h2 => by
    simp only [wp_ok, wp_okD, wp_bind, w_var, w_varV, w_c, w_bin, w_un, w_nil, w_cons, w_args, w_boolV, w_tOf, w_fAnd, w_fOr, w_fNot, w_eAnd, w_eOr, w_eIf, w_chain, w_optV, w_oNone, w_oSome, w_cut, o_cutT, o_cutL, w_pass, w_ret, w_if, w_seqV, w_seqR, w_seq, w_asgV, w_asg, w_gNm, w_gTp, w_gNl, w_gCn, w_par2V, w_par2, w_set, w_body, w_endD, w_endN, w_for, w_forN, w_loopN, w_loopR, w_forC, o_add, o_addB, o_sub, o_ord, o_lt, o_le, o_gt, o_ge, o_eqI, o_neI, o_eqB, o_not, o_neg, o_len_t, o_len_l, o_len_f, datL_nil, datL_cons, startR, List.map_cons, List.map_nil, List.length_cons, List.length_nil, List.replicate_succ, List.replicate_zero, List.cons_append, List.nil_append, List.getElem?_cons_zero, List.getElem?_cons_succ, List.set_cons_zero, List.set_cons_succ, List.take_length, Option.map_some, Option.map_none, List.append_nil, Nat.sub_self, w_idxV, w_idx_t, w_idx_l, w_idx_f, at0, at1, at2, cut1, w_call, w_tup, w_lst, Nat.reduceSub, Nat.reduceAdd, Nat.reduceLeDiff, if_true, reduceIte, Bool.not_true, Bool.not_false, Bool.false_eq_true, reduceCtorEq, w_isT, w_comp, w_datV, w_compN, w_rhoV, w_compC, w_okT, w_any, w_any_t, w_any_l, w_any_f, w_enum, w_enum_t, w_enum_l, w_zip, w_zip_t, w_zip_l, zip_nil, zip_nil2, zip_cons, w_range, tg_nm, tg_tp2, wipe_nil, wipe_cons, Nat.reduceLT]
    rw [lb_pat_w hn (hw p List.mem_cons_self) hl]
    cases q : (part p && !PyData.eqv (fig p) last) with
    | false =>
      simp only [wp_ok, wp_okD, wp_bind, w_var, w_varV, w_c, w_bin, w_un, w_nil, w_cons, w_args, w_boolV, w_tOf, w_fAnd, w_fOr, w_fNot, w_eAnd, w_eOr, w_eIf, w_chain, w_optV, w_oNone, w_oSome, w_cut, o_cutT, o_cutL, w_pass, w_ret, w_if, w_seqV, w_seqR, w_seq, w_asgV, w_asg, w_gNm, w_gTp, w_gNl, w_gCn, w_par2V, w_par2, w_set, w_body, w_endD, w_endN, w_for, w_forN, w_loopN, w_loopR, w_forC, o_add, o_addB, o_sub, o_ord, o_lt, o_le, o_gt, o_ge, o_eqI, o_neI, o_eqB, o_not, o_neg, o_len_t, o_len_l, o_len_f, datL_nil, datL_cons, startR, List.map_cons, List.map_nil, List.length_cons, List.length_nil, List.replicate_succ, List.replicate_zero, List.cons_append, List.nil_append, List.getElem?_cons_zero, List.getElem?_cons_succ, List.set_cons_zero, List.set_cons_succ, List.take_length, Option.map_some, Option.map_none, List.append_nil, Nat.sub_self, w_idxV, w_idx_t, w_idx_l, w_idx_f, at0, at1, at2, cut1, w_call, w_tup, w_lst, Nat.reduceSub, Nat.reduceAdd, Nat.reduceLeDiff, if_true, reduceIte, Bool.not_true, Bool.not_false, Bool.false_eq_true, reduceCtorEq, w_isT, w_comp, w_datV, w_compN, w_rhoV, w_compC, w_okT, w_any, w_any_t, w_any_l, w_any_f, w_enum, w_enum_t, w_enum_l, w_zip, w_zip_t, w_zip_l, zip_nil, zip_nil2, zip_cons, w_range, tg_nm, tg_tp2, wipe_nil, wipe_cons, Nat.reduceLT]
      refine h2 ?_ _
      unfold run
      rw [← Bool.and_assoc, q]; rfl
    | true =>
      simp only [wp_ok, wp_okD, wp_bind, w_var, w_varV, w_c, w_bin, w_un, w_nil, w_cons, w_args, w_boolV, w_tOf, w_fAnd, w_fOr, w_fNot, w_eAnd, w_eOr, w_eIf, w_chain, w_optV, w_oNone, w_oSome, w_cut, o_cutT, o_cutL, w_pass, w_ret, w_if, w_seqV, w_seqR, w_seq, w_asgV, w_asg, w_gNm, w_gTp, w_gNl, w_gCn, w_par2V, w_par2, w_set, w_body, w_endD, w_endN, w_for, w_forN, w_loopN, w_loopR, w_forC, o_add, o_addB, o_sub, o_ord, o_lt, o_le, o_gt, o_ge, o_eqI, o_neI, o_eqB, o_not, o_neg, o_len_t, o_len_l, o_len_f, datL_nil, datL_cons, startR, List.map_cons, List.map_nil, List.length_cons, List.length_nil, List.replicate_succ, List.replicate_zero, List.cons_append, List.nil_append, List.getElem?_cons_zero, List.getElem?_cons_succ, List.set_cons_zero, List.set_cons_succ, List.take_length, Option.map_some, Option.map_none, List.append_nil, Nat.sub_self, w_idxV, w_idx_t, w_idx_l, w_idx_f, at0, at1, at2, cut1, w_call, w_tup, w_lst, Nat.reduceSub, Nat.reduceAdd, Nat.reduceLeDiff, if_true, reduceIte, Bool.not_true, Bool.not_false, Bool.false_eq_true, reduceCtorEq, w_isT, w_comp, w_datV, w_compN, w_rhoV, w_compC, w_okT, w_any, w_any_t, w_any_l, w_any_f, w_enum, w_enum_t, w_enum_l, w_zip, w_zip_t, w_zip_l, zip_nil, zip_nil2, zip_cons, w_range, tg_nm, tg_tp2, wipe_nil, wipe_cons, Nat.reduceLT]
      rw [Bool.and_eq_true] at q
      obtain ⟨x, y, z, rfl, _⟩ := part_ex q.1
      refine pat_loop hn ds _ _ (fun d hd => hw d (List.mem_cons_of_mem _ hd)) shI (fun q2 => h1 ?_) fun q2 => h2 ?_
      · unfold run; rw [q.1, q.2]; exact q2
      · unfold run; rw [q.1, q.2]; exact q2
end K01
set_option Elab.async false
set_option linter.all false
set_option maxRecDepth 100000
set_option maxHeartbeats 4000000
namespace K01
open PySem PySem.Spec PyProof.Rows L2 DN
theorem wf_tup {m n : Nat} {ds : List PyData} (h : wf m n (.tuple ds)) : ∃ k, n = k + 1 ∧ ds.length ≤ m ∧ ∀ d ∈ ds, wf m k d := by
  cases n with
  | zero => simp only [wf] at h
  | succ n => simp only [wf] at h; exact ⟨n, rfl, h⟩
theorem run_all : ∀ {ds : List PyData} {last : PyData}, run last ds = true → ds.all part = true
  | [], _, _ => rfl
  | p :: ds, last, h => by
    unfold run at h
    simp only [Bool.and_eq_true] at h
    rw [List.all_cons, h.1, run_all h.2.2]; rfl
theorem sh_one : SeqAt.shaped one0 = true := rfl
theorem law_pat_w {m n : Nat} {v : PyData} {μ : Mem} {Q : Val → Mem → Prop} (hn : n ≤ 40) (hm : m ≤ 1000) (h : wf m n v) : wp (F_l_is_pattern [.dat v] μ) Q = Q (.dat (.bool (pat v))) μ := by
  have key : ∀ Q : Val → Mem → Prop, Q (.dat (.bool (pat v))) μ → wp (F_l_is_pattern [.dat v] μ) Q := by
    intro Q hQ
    unfold F_l_is_pattern b_l_is_pattern
    simp only [wp_ok, wp_okD, wp_bind, w_var, w_varV, w_c, w_bin, w_un, w_nil, w_cons, w_args, w_boolV, w_tOf, w_fAnd, w_fOr, w_fNot, w_eAnd, w_eOr, w_eIf, w_chain, w_optV, w_oNone, w_oSome, w_cut, o_cutT, o_cutL, w_pass, w_ret, w_if, w_seqV, w_seqR, w_seq, w_asgV, w_asg, w_gNm, w_gTp, w_gNl, w_gCn, w_par2V, w_par2, w_set, w_body, w_endD, w_endN, w_for, w_forN, w_loopN, w_loopR, w_forC, o_add, o_addB, o_sub, o_ord, o_lt, o_le, o_gt, o_ge, o_eqI, o_neI, o_eqB, o_not, o_neg, o_len_t, o_len_l, o_len_f, datL_nil, datL_cons, startR, List.map_cons, List.map_nil, List.length_cons, List.length_nil, List.replicate_succ, List.replicate_zero, List.cons_append, List.nil_append, List.getElem?_cons_zero, List.getElem?_cons_succ, List.set_cons_zero, List.set_cons_succ, List.take_length, Option.map_some, Option.map_none, List.append_nil, Nat.sub_self, w_idxV, w_idx_t, w_idx_l, w_idx_f, at0, at1, at2, cut1, w_call, w_tup, w_lst, Nat.reduceSub, Nat.reduceAdd, Nat.reduceLeDiff, if_true, reduceIte, Bool.not_true, Bool.not_false, Bool.false_eq_true, reduceCtorEq, w_isT, w_comp, w_datV, w_compN, w_rhoV, w_compC, w_okT, w_any, w_any_t, w_any_l, w_any_f, w_enum, w_enum_t, w_enum_l, w_zip, w_zip_t, w_zip_l, zip_nil, zip_nil2, zip_cons, w_range, tg_nm, tg_tp2, wipe_nil, wipe_cons, Nat.reduceLT, w_isT h.nod]
    cases v with
    | tuple ds =>
      have hsh := h.shaped (by omega)
      obtain ⟨k, rfl, hl, hw⟩ := wf_tup h
      have e1 : isT (.tuple ds) "tuple" = true := rfl
      simp only [wp_ok, wp_okD, wp_bind, w_var, w_varV, w_c, w_bin, w_un, w_nil, w_cons, w_args, w_boolV, w_tOf, w_fAnd, w_fOr, w_fNot, w_eAnd, w_eOr, w_eIf, w_chain, w_optV, w_oNone, w_oSome, w_cut, o_cutT, o_cutL, w_pass, w_ret, w_if, w_seqV, w_seqR, w_seq, w_asgV, w_asg, w_gNm, w_gTp, w_gNl, w_gCn, w_par2V, w_par2, w_set, w_body, w_endD, w_endN, w_for, w_forN, w_loopN, w_loopR, w_forC, o_add, o_addB, o_sub, o_ord, o_lt, o_le, o_gt, o_ge, o_eqI, o_neI, o_eqB, o_not, o_neg, o_len_t, o_len_l, o_len_f, datL_nil, datL_cons, startR, List.map_cons, List.map_nil, List.length_cons, List.length_nil, List.replicate_succ, List.replicate_zero, List.cons_append, List.nil_append, List.getElem?_cons_zero, List.getElem?_cons_succ, List.set_cons_zero, List.set_cons_succ, List.take_length, Option.map_some, Option.map_none, List.append_nil, Nat.sub_self, w_idxV, w_idx_t, w_idx_l, w_idx_f, at0, at1, at2, cut1, w_call, w_tup, w_lst, Nat.reduceSub, Nat.reduceAdd, Nat.reduceLeDiff, if_true, reduceIte, Bool.not_true, Bool.not_false, Bool.false_eq_true, reduceCtorEq, w_isT, w_comp, w_datV, w_compN, w_rhoV, w_compC, w_okT, w_any, w_any_t, w_any_l, w_any_f, w_enum, w_enum_t, w_enum_l, w_zip, w_zip_t, w_zip_l, zip_nil, zip_nil2, zip_cons, w_range, tg_nm, tg_tp2, wipe_nil, wipe_cons, Nat.reduceLT, e1]
      by_cases c1 : (1 : Int) ≤ ds.length
      · by_cases c2 : (ds.length : Int) ≤ 3
        · simp only [wp_ok, wp_okD, wp_bind, w_var, w_varV, w_c, w_bin, w_un, w_nil, w_cons, w_args, w_boolV, w_tOf, w_fAnd, w_fOr, w_fNot, w_eAnd, w_eOr, w_eIf, w_chain, w_optV, w_oNone, w_oSome, w_cut, o_cutT, o_cutL, w_pass, w_ret, w_if, w_seqV, w_seqR, w_seq, w_asgV, w_asg, w_gNm, w_gTp, w_gNl, w_gCn, w_par2V, w_par2, w_set, w_body, w_endD, w_endN, w_for, w_forN, w_loopN, w_loopR, w_forC, o_add, o_addB, o_sub, o_ord, o_lt, o_le, o_gt, o_ge, o_eqI, o_neI, o_eqB, o_not, o_neg, o_len_t, o_len_l, o_len_f, datL_nil, datL_cons, startR, List.map_cons, List.map_nil, List.length_cons, List.length_nil, List.replicate_succ, List.replicate_zero, List.cons_append, List.nil_append, List.getElem?_cons_zero, List.getElem?_cons_succ, List.set_cons_zero, List.set_cons_succ, List.take_length, Option.map_some, Option.map_none, List.append_nil, Nat.sub_self, w_idxV, w_idx_t, w_idx_l, w_idx_f, at0, at1, at2, cut1, w_call, w_tup, w_lst, Nat.reduceSub, Nat.reduceAdd, Nat.reduceLeDiff, if_true, reduceIte, Bool.not_true, Bool.not_false, Bool.false_eq_true, reduceCtorEq, w_isT, w_comp, w_datV, w_compN, w_rhoV, w_compC, w_okT, w_any, w_any_t, w_any_l, w_any_f, w_enum, w_enum_t, w_enum_l, w_zip, w_zip_t, w_zip_l, zip_nil, zip_nil2, zip_cons, w_range, tg_nm, tg_tp2, wipe_nil, wipe_cons, Nat.reduceLT, c1, c2, decide_true]
          show wp (forD (gNm 2) lb_l_is_pattern_0 ds _ μ) _
          refine pat_loop (by omega) ds .none none hw shN (fun hr x y => ?_) fun hr ρ => ?_
          · simp only [wp_ok, wp_okD, wp_bind, w_var, w_varV, w_c, w_bin, w_un, w_nil, w_cons, w_args, w_boolV, w_tOf, w_fAnd, w_fOr, w_fNot, w_eAnd, w_eOr, w_eIf, w_chain, w_optV, w_oNone, w_oSome, w_cut, o_cutT, o_cutL, w_pass, w_ret, w_if, w_seqV, w_seqR, w_seq, w_asgV, w_asg, w_gNm, w_gTp, w_gNl, w_gCn, w_par2V, w_par2, w_set, w_body, w_endD, w_endN, w_for, w_forN, w_loopN, w_loopR, w_forC, o_add, o_addB, o_sub, o_ord, o_lt, o_le, o_gt, o_ge, o_eqI, o_neI, o_eqB, o_not, o_neg, o_len_t, o_len_l, o_len_f, datL_nil, datL_cons, startR, List.map_cons, List.map_nil, List.length_cons, List.length_nil, List.replicate_succ, List.replicate_zero, List.cons_append, List.nil_append, List.getElem?_cons_zero, List.getElem?_cons_succ, List.set_cons_zero, List.set_cons_succ, List.take_length, Option.map_some, Option.map_none, List.append_nil, Nat.sub_self, w_idxV, w_idx_t, w_idx_l, w_idx_f, at0, at1, at2, cut1, w_call, w_tup, w_lst, Nat.reduceSub, Nat.reduceAdd, Nat.reduceLeDiff, if_true, reduceIte, Bool.not_true, Bool.not_false, Bool.false_eq_true, reduceCtorEq, w_isT, w_comp, w_datV, w_compN, w_rhoV, w_compC, w_okT, w_any, w_any_t, w_any_l, w_any_f, w_enum, w_enum_t, w_enum_l, w_zip, w_zip_t, w_zip_l, zip_nil, zip_nil2, zip_cons, w_range, tg_nm, tg_tp2, wipe_nil, wipe_cons, Nat.reduceLT]
            rcases ds with _ | ⟨p, r⟩
            · simp at c1
            · have hp := run_all hr
              rw [List.all_cons, Bool.and_eq_true] at hp
              obtain ⟨a, b, c, rfl, g1, _⟩ := part_ex hp.1
              simp only [wp_ok, wp_okD, wp_bind, w_var, w_varV, w_c, w_bin, w_un, w_nil, w_cons, w_args, w_boolV, w_tOf, w_fAnd, w_fOr, w_fNot, w_eAnd, w_eOr, w_eIf, w_chain, w_optV, w_oNone, w_oSome, w_cut, o_cutT, o_cutL, w_pass, w_ret, w_if, w_seqV, w_seqR, w_seq, w_asgV, w_asg, w_gNm, w_gTp, w_gNl, w_gCn, w_par2V, w_par2, w_set, w_body, w_endD, w_endN, w_for, w_forN, w_loopN, w_loopR, w_forC, o_add, o_addB, o_sub, o_ord, o_lt, o_le, o_gt, o_ge, o_eqI, o_neI, o_eqB, o_not, o_neg, o_len_t, o_len_l, o_len_f, datL_nil, datL_cons, startR, List.map_cons, List.map_nil, List.length_cons, List.length_nil, List.replicate_succ, List.replicate_zero, List.cons_append, List.nil_append, List.getElem?_cons_zero, List.getElem?_cons_succ, List.set_cons_zero, List.set_cons_succ, List.take_length, Option.map_some, Option.map_none, List.append_nil, Nat.sub_self, w_idxV, w_idx_t, w_idx_l, w_idx_f, at0, at1, at2, cut1, w_call, w_tup, w_lst, Nat.reduceSub, Nat.reduceAdd, Nat.reduceLeDiff, if_true, reduceIte, Bool.not_true, Bool.not_false, Bool.false_eq_true, reduceCtorEq, w_isT, w_comp, w_datV, w_compN, w_rhoV, w_compC, w_okT, w_any, w_any_t, w_any_l, w_any_f, w_enum, w_enum_t, w_enum_l, w_zip, w_zip_t, w_zip_l, zip_nil, zip_nil2, zip_cons, w_range, tg_nm, tg_tp2, wipe_nil, wipe_cons, Nat.reduceLT]
              have e5 : pat (.tuple (.tuple [.int a, .int b, .int c] :: r)) = (decide (0 < a) || PyData.eqv (.tuple (.tuple [.int a, .int b, .int c] :: r)) one0) := by
                simp only [pat, hr, head0, fig]
                rw [decide_eq_true (by omega : 1 ≤ (PyData.tuple [.int a, .int b, .int c] :: r).length), decide_eq_true (by omega : (PyData.tuple [.int a, .int b, .int c] :: r).length ≤ 3)]
                simp
              rw [e5] at hQ
              by_cases ha : a = 0
              · subst ha
                simp only [wp_ok, wp_okD, wp_bind, w_var, w_varV, w_c, w_bin, w_un, w_nil, w_cons, w_args, w_boolV, w_tOf, w_fAnd, w_fOr, w_fNot, w_eAnd, w_eOr, w_eIf, w_chain, w_optV, w_oNone, w_oSome, w_cut, o_cutT, o_cutL, w_pass, w_ret, w_if, w_seqV, w_seqR, w_seq, w_asgV, w_asg, w_gNm, w_gTp, w_gNl, w_gCn, w_par2V, w_par2, w_set, w_body, w_endD, w_endN, w_for, w_forN, w_loopN, w_loopR, w_forC, o_add, o_addB, o_sub, o_ord, o_lt, o_le, o_gt, o_ge, o_eqI, o_neI, o_eqB, o_not, o_neg, o_len_t, o_len_l, o_len_f, datL_nil, datL_cons, startR, List.map_cons, List.map_nil, List.length_cons, List.length_nil, List.replicate_succ, List.replicate_zero, List.cons_append, List.nil_append, List.getElem?_cons_zero, List.getElem?_cons_succ, List.set_cons_zero, List.set_cons_succ, List.take_length, Option.map_some, Option.map_none, List.append_nil, Nat.sub_self, w_idxV, w_idx_t, w_idx_l, w_idx_f, at0, at1, at2, cut1, w_call, w_tup, w_lst, Nat.reduceSub, Nat.reduceAdd, Nat.reduceLeDiff, if_true, reduceIte, Bool.not_true, Bool.not_false, Bool.false_eq_true, reduceCtorEq, w_isT, w_comp, w_datV, w_compN, w_rhoV, w_compC, w_okT, w_any, w_any_t, w_any_l, w_any_f, w_enum, w_enum_t, w_enum_l, w_zip, w_zip_t, w_zip_l, zip_nil, zip_nil2, zip_cons, w_range, tg_nm, tg_tp2, wipe_nil, wipe_cons, Nat.reduceLT, decide_true]
                have e6 : datL [Val.dat (.tuple [.int 0, .int 0, .int 1])] = some [.tuple [.int 0, .int 0, .int 1]] := rfl
                show wp (gEq false _ (.dat one0) μ) _
                rw [w_eq (neg := false) hsh sh_one]
                simpa [wp_ok, wp_okD, wp_bind, w_var, w_varV, w_c, w_bin, w_un, w_nil, w_cons, w_args, w_boolV, w_tOf, w_fAnd, w_fOr, w_fNot, w_eAnd, w_eOr, w_eIf, w_chain, w_optV, w_oNone, w_oSome, w_cut, o_cutT, o_cutL, w_pass, w_ret, w_if, w_seqV, w_seqR, w_seq, w_asgV, w_asg, w_gNm, w_gTp, w_gNl, w_gCn, w_par2V, w_par2, w_set, w_body, w_endD, w_endN, w_for, w_forN, w_loopN, w_loopR, w_forC, o_add, o_addB, o_sub, o_ord, o_lt, o_le, o_gt, o_ge, o_eqI, o_neI, o_eqB, o_not, o_neg, o_len_t, o_len_l, o_len_f, datL_nil, datL_cons, startR, List.map_cons, List.map_nil, List.length_cons, List.length_nil, List.replicate_succ, List.replicate_zero, List.cons_append, List.nil_append, List.getElem?_cons_zero, List.getElem?_cons_succ, List.set_cons_zero, List.set_cons_succ, List.take_length, Option.map_some, Option.map_none, List.append_nil, Nat.sub_self, w_idxV, w_idx_t, w_idx_l, w_idx_f, at0, at1, at2, cut1, w_call, w_tup, w_lst, Nat.reduceSub, Nat.reduceAdd, Nat.reduceLeDiff, if_true, reduceIte, Bool.not_true, Bool.not_false, Bool.false_eq_true, reduceCtorEq, w_isT, w_comp, w_datV, w_compN, w_rhoV, w_compC, w_okT, w_any, w_any_t, w_any_l, w_any_f, w_enum, w_enum_t, w_enum_l, w_zip, w_zip_t, w_zip_l, zip_nil, zip_nil2, zip_cons, w_range, tg_nm, tg_tp2, wipe_nil, wipe_cons, Nat.reduceLT] using hQ
              · have : 0 < a := by omega
                simp only [wp_ok, wp_okD, wp_bind, w_var, w_varV, w_c, w_bin, w_un, w_nil, w_cons, w_args, w_boolV, w_tOf, w_fAnd, w_fOr, w_fNot, w_eAnd, w_eOr, w_eIf, w_chain, w_optV, w_oNone, w_oSome, w_cut, o_cutT, o_cutL, w_pass, w_ret, w_if, w_seqV, w_seqR, w_seq, w_asgV, w_asg, w_gNm, w_gTp, w_gNl, w_gCn, w_par2V, w_par2, w_set, w_body, w_endD, w_endN, w_for, w_forN, w_loopN, w_loopR, w_forC, o_add, o_addB, o_sub, o_ord, o_lt, o_le, o_gt, o_ge, o_eqI, o_neI, o_eqB, o_not, o_neg, o_len_t, o_len_l, o_len_f, datL_nil, datL_cons, startR, List.map_cons, List.map_nil, List.length_cons, List.length_nil, List.replicate_succ, List.replicate_zero, List.cons_append, List.nil_append, List.getElem?_cons_zero, List.getElem?_cons_succ, List.set_cons_zero, List.set_cons_succ, List.take_length, Option.map_some, Option.map_none, List.append_nil, Nat.sub_self, w_idxV, w_idx_t, w_idx_l, w_idx_f, at0, at1, at2, cut1, w_call, w_tup, w_lst, Nat.reduceSub, Nat.reduceAdd, Nat.reduceLeDiff, if_true, reduceIte, Bool.not_true, Bool.not_false, Bool.false_eq_true, reduceCtorEq, w_isT, w_comp, w_datV, w_compN, w_rhoV, w_compC, w_okT, w_any, w_any_t, w_any_l, w_any_f, w_enum, w_enum_t, w_enum_l, w_zip, w_zip_t, w_zip_l, zip_nil, zip_nil2, zip_cons, w_range, tg_nm, tg_tp2, wipe_nil, wipe_cons, Nat.reduceLT, ha, decide_false]
                simpa [this] using hQ
          · have e5 : pat (.tuple ds) = false := by
              simp only [pat, hr, Bool.false_and, Bool.and_false]
            rw [e5] at hQ
            simp only [wp_ok, wp_okD, wp_bind, w_var, w_varV, w_c, w_bin, w_un, w_nil, w_cons, w_args, w_boolV, w_tOf, w_fAnd, w_fOr, w_fNot, w_eAnd, w_eOr, w_eIf, w_chain, w_optV, w_oNone, w_oSome, w_cut, o_cutT, o_cutL, w_pass, w_ret, w_if, w_seqV, w_seqR, w_seq, w_asgV, w_asg, w_gNm, w_gTp, w_gNl, w_gCn, w_par2V, w_par2, w_set, w_body, w_endD, w_endN, w_for, w_forN, w_loopN, w_loopR, w_forC, o_add, o_addB, o_sub, o_ord, o_lt, o_le, o_gt, o_ge, o_eqI, o_neI, o_eqB, o_not, o_neg, o_len_t, o_len_l, o_len_f, datL_nil, datL_cons, startR, List.map_cons, List.map_nil, List.length_cons, List.length_nil, List.replicate_succ, List.replicate_zero, List.cons_append, List.nil_append, List.getElem?_cons_zero, List.getElem?_cons_succ, List.set_cons_zero, List.set_cons_succ, List.take_length, Option.map_some, Option.map_none, List.append_nil, Nat.sub_self, w_idxV, w_idx_t, w_idx_l, w_idx_f, at0, at1, at2, cut1, w_call, w_tup, w_lst, Nat.reduceSub, Nat.reduceAdd, Nat.reduceLeDiff, if_true, reduceIte, Bool.not_true, Bool.not_false, Bool.false_eq_true, reduceCtorEq, w_isT, w_comp, w_datV, w_compN, w_rhoV, w_compC, w_okT, w_any, w_any_t, w_any_l, w_any_f, w_enum, w_enum_t, w_enum_l, w_zip, w_zip_t, w_zip_l, zip_nil, zip_nil2, zip_cons, w_range, tg_nm, tg_tp2, wipe_nil, wipe_cons, Nat.reduceLT]
            exact hQ
        · have e5 : pat (.tuple ds) = false := by
            simp only [pat]
            rw [decide_eq_false (by omega : ¬ ds.length ≤ 3)]
            simp
          rw [e5] at hQ
          simp only [wp_ok, wp_okD, wp_bind, w_var, w_varV, w_c, w_bin, w_un, w_nil, w_cons, w_args, w_boolV, w_tOf, w_fAnd, w_fOr, w_fNot, w_eAnd, w_eOr, w_eIf, w_chain, w_optV, w_oNone, w_oSome, w_cut, o_cutT, o_cutL, w_pass, w_ret, w_if, w_seqV, w_seqR, w_seq, w_asgV, w_asg, w_gNm, w_gTp, w_gNl, w_gCn, w_par2V, w_par2, w_set, w_body, w_endD, w_endN, w_for, w_forN, w_loopN, w_loopR, w_forC, o_add, o_addB, o_sub, o_ord, o_lt, o_le, o_gt, o_ge, o_eqI, o_neI, o_eqB, o_not, o_neg, o_len_t, o_len_l, o_len_f, datL_nil, datL_cons, startR, List.map_cons, List.map_nil, List.length_cons, List.length_nil, List.replicate_succ, List.replicate_zero, List.cons_append, List.nil_append, List.getElem?_cons_zero, List.getElem?_cons_succ, List.set_cons_zero, List.set_cons_succ, List.take_length, Option.map_some, Option.map_none, List.append_nil, Nat.sub_self, w_idxV, w_idx_t, w_idx_l, w_idx_f, at0, at1, at2, cut1, w_call, w_tup, w_lst, Nat.reduceSub, Nat.reduceAdd, Nat.reduceLeDiff, if_true, reduceIte, Bool.not_true, Bool.not_false, Bool.false_eq_true, reduceCtorEq, w_isT, w_comp, w_datV, w_compN, w_rhoV, w_compC, w_okT, w_any, w_any_t, w_any_l, w_any_f, w_enum, w_enum_t, w_enum_l, w_zip, w_zip_t, w_zip_l, zip_nil, zip_nil2, zip_cons, w_range, tg_nm, tg_tp2, wipe_nil, wipe_cons, Nat.reduceLT, c1, c2, decide_true, decide_false]
          exact hQ
      · have e5 : pat (.tuple ds) = false := by
          simp only [pat]
          rw [decide_eq_false (by omega : ¬ 1 ≤ ds.length)]
          simp
        rw [e5] at hQ
        simp only [wp_ok, wp_okD, wp_bind, w_var, w_varV, w_c, w_bin, w_un, w_nil, w_cons, w_args, w_boolV, w_tOf, w_fAnd, w_fOr, w_fNot, w_eAnd, w_eOr, w_eIf, w_chain, w_optV, w_oNone, w_oSome, w_cut, o_cutT, o_cutL, w_pass, w_ret, w_if, w_seqV, w_seqR, w_seq, w_asgV, w_asg, w_gNm, w_gTp, w_gNl, w_gCn, w_par2V, w_par2, w_set, w_body, w_endD, w_endN, w_for, w_forN, w_loopN, w_loopR, w_forC, o_add, o_addB, o_sub, o_ord, o_lt, o_le, o_gt, o_ge, o_eqI, o_neI, o_eqB, o_not, o_neg, o_len_t, o_len_l, o_len_f, datL_nil, datL_cons, startR, List.map_cons, List.map_nil, List.length_cons, List.length_nil, List.replicate_succ, List.replicate_zero, List.cons_append, List.nil_append, List.getElem?_cons_zero, List.getElem?_cons_succ, List.set_cons_zero, List.set_cons_succ, List.take_length, Option.map_some, Option.map_none, List.append_nil, Nat.sub_self, w_idxV, w_idx_t, w_idx_l, w_idx_f, at0, at1, at2, cut1, w_call, w_tup, w_lst, Nat.reduceSub, Nat.reduceAdd, Nat.reduceLeDiff, if_true, reduceIte, Bool.not_true, Bool.not_false, Bool.false_eq_true, reduceCtorEq, w_isT, w_comp, w_datV, w_compN, w_rhoV, w_compC, w_okT, w_any, w_any_t, w_any_l, w_any_f, w_enum, w_enum_t, w_enum_l, w_zip, w_zip_t, w_zip_l, zip_nil, zip_nil2, zip_cons, w_range, tg_nm, tg_tp2, wipe_nil, wipe_cons, Nat.reduceLT, c1, decide_false]
        exact hQ
    | _ => simpa [wp_ok, wp_okD, wp_bind, w_var, w_varV, w_c, w_bin, w_un, w_nil, w_cons, w_args, w_boolV, w_tOf, w_fAnd, w_fOr, w_fNot, w_eAnd, w_eOr, w_eIf, w_chain, w_optV, w_oNone, w_oSome, w_cut, o_cutT, o_cutL, w_pass, w_ret, w_if, w_seqV, w_seqR, w_seq, w_asgV, w_asg, w_gNm, w_gTp, w_gNl, w_gCn, w_par2V, w_par2, w_set, w_body, w_endD, w_endN, w_for, w_forN, w_loopN, w_loopR, w_forC, o_add, o_addB, o_sub, o_ord, o_lt, o_le, o_gt, o_ge, o_eqI, o_neI, o_eqB, o_not, o_neg, o_len_t, o_len_l, o_len_f, datL_nil, datL_cons, startR, List.map_cons, List.map_nil, List.length_cons, List.length_nil, List.replicate_succ, List.replicate_zero, List.cons_append, List.nil_append, List.getElem?_cons_zero, List.getElem?_cons_succ, List.set_cons_zero, List.set_cons_succ, List.take_length, Option.map_some, Option.map_none, List.append_nil, Nat.sub_self, w_idxV, w_idx_t, w_idx_l, w_idx_f, at0, at1, at2, cut1, w_call, w_tup, w_lst, Nat.reduceSub, Nat.reduceAdd, Nat.reduceLeDiff, if_true, reduceIte, Bool.not_true, Bool.not_false, Bool.false_eq_true, reduceCtorEq, w_isT, w_comp, w_datV, w_compN, w_rhoV, w_compC, w_okT, w_any, w_any_t, w_any_l, w_any_f, w_enum, w_enum_t, w_enum_l, w_zip, w_zip_t, w_zip_l, zip_nil, zip_nil2, zip_cons, w_range, tg_nm, tg_tp2, wipe_nil, wipe_cons, Nat.reduceLT, isT, pat] using hQ
  obtain ⟨a, μ', e, h1, h2⟩ := wp_ex (key (fun a μ' => a = .dat (.bool (pat v)) ∧ μ' = μ) ⟨rfl, rfl⟩)
  rw [e, h1, h2]
  rfl
end K01
set_option Elab.async false
set_option linter.all false
set_option maxRecDepth 100000
set_option maxHeartbeats 4000000
namespace K01
open PySem PySem.Spec PyProof.Rows L2 DN
theorem good_pat_w {m n : Nat} {v : PyData} {μ : Mem} {Q : Val → Mem → Prop} (hn : n ≤ 40) (hm : m ≤ 1000) (h : wf m n v) : wp (F_is_good_pattern [.dat v] μ) Q = Q (.dat (.bool (pat v))) μ := by
  have key : ∀ Q : Val → Mem → Prop, Q (.dat (.bool (pat v))) μ → wp (F_is_good_pattern [.dat v] μ) Q := by
    intro Q hQ
    unfold F_is_good_pattern b_is_good_pattern
    simp only [wp_ok, wp_okD, wp_bind, w_var, w_varV, w_c, w_bin, w_un, w_nil, w_cons, w_args, w_boolV, w_tOf, w_fAnd, w_fOr, w_fNot, w_eAnd, w_eOr, w_eIf, w_chain, w_optV, w_oNone, w_oSome, w_cut, o_cutT, o_cutL, w_pass, w_ret, w_if, w_seqV, w_seqR, w_seq, w_asgV, w_asg, w_gNm, w_gTp, w_gNl, w_gCn, w_par2V, w_par2, w_set, w_body, w_endD, w_endN, w_for, w_forN, w_loopN, w_loopR, w_forC, o_add, o_addB, o_sub, o_ord, o_lt, o_le, o_gt, o_ge, o_eqI, o_neI, o_eqB, o_not, o_neg, o_len_t, o_len_l, o_len_f, datL_nil, datL_cons, startR, List.map_cons, List.map_nil, List.length_cons, List.length_nil, List.replicate_succ, List.replicate_zero, List.cons_append, List.nil_append, List.getElem?_cons_zero, List.getElem?_cons_succ, List.set_cons_zero, List.set_cons_succ, List.take_length, Option.map_some, Option.map_none, List.append_nil, Nat.sub_self, w_idxV, w_idx_t, w_idx_l, w_idx_f, at0, at1, at2, cut1, w_call, w_tup, w_lst, Nat.reduceSub, Nat.reduceAdd, Nat.reduceLeDiff, if_true, reduceIte, Bool.not_true, Bool.not_false, Bool.false_eq_true, reduceCtorEq, w_isT, w_comp, w_datV, w_compN, w_rhoV, w_compC, w_okT, w_any, w_any_t, w_any_l, w_any_f, w_enum, w_enum_t, w_enum_l, w_zip, w_zip_t, w_zip_l, zip_nil, zip_nil2, zip_cons, w_range, tg_nm, tg_tp2, wipe_nil, wipe_cons, Nat.reduceLT, tuple_w h.nod]
    cases q : tp v 1 3 with
    | false =>
      have e5 : pat v = false := by
        cases v with
        | tuple ds =>
          simp only [tp, Bool.and_eq_false_iff, decide_eq_false_iff_not] at q
          simp only [pat, Bool.and_eq_false_iff, decide_eq_false_iff_not]
          rcases q with q | q
          · left; omega
          · right; left; omega
        | _ => rfl
      rw [e5] at hQ
      simp only [wp_ok, wp_okD, wp_bind, w_var, w_varV, w_c, w_bin, w_un, w_nil, w_cons, w_args, w_boolV, w_tOf, w_fAnd, w_fOr, w_fNot, w_eAnd, w_eOr, w_eIf, w_chain, w_optV, w_oNone, w_oSome, w_cut, o_cutT, o_cutL, w_pass, w_ret, w_if, w_seqV, w_seqR, w_seq, w_asgV, w_asg, w_gNm, w_gTp, w_gNl, w_gCn, w_par2V, w_par2, w_set, w_body, w_endD, w_endN, w_for, w_forN, w_loopN, w_loopR, w_forC, o_add, o_addB, o_sub, o_ord, o_lt, o_le, o_gt, o_ge, o_eqI, o_neI, o_eqB, o_not, o_neg, o_len_t, o_len_l, o_len_f, datL_nil, datL_cons, startR, List.map_cons, List.map_nil, List.length_cons, List.length_nil, List.replicate_succ, List.replicate_zero, List.cons_append, List.nil_append, List.getElem?_cons_zero, List.getElem?_cons_succ, List.set_cons_zero, List.set_cons_succ, List.take_length, Option.map_some, Option.map_none, List.append_nil, Nat.sub_self, w_idxV, w_idx_t, w_idx_l, w_idx_f, at0, at1, at2, cut1, w_call, w_tup, w_lst, Nat.reduceSub, Nat.reduceAdd, Nat.reduceLeDiff, if_true, reduceIte, Bool.not_true, Bool.not_false, Bool.false_eq_true, reduceCtorEq, w_isT, w_comp, w_datV, w_compN, w_rhoV, w_compC, w_okT, w_any, w_any_t, w_any_l, w_any_f, w_enum, w_enum_t, w_enum_l, w_zip, w_zip_t, w_zip_l, zip_nil, zip_nil2, zip_cons, w_range, tg_nm, tg_tp2, wipe_nil, wipe_cons, Nat.reduceLT]
      exact hQ
    | true =>
      cases v with
      | tuple ds =>
        have hsh := h.shaped (by omega)
        obtain ⟨k, rfl, hl, hw⟩ := wf_tup h
        simp only [tp, Bool.and_eq_true, decide_eq_true_eq] at q
        have hk : k ≤ 40 := by omega
        have fin : ∀ (a b c : Int) (r : List PyData), ds = .tuple [.int a, .int b, .int c] :: r → 0 ≤ a → run .none ds = true → ∀ K : Val → Mem → Prop, (∀ z : Bool, Q (.dat (.bool z)) μ → K (.dat (.bool z)) μ) →
            (if decide (0 < a) = true then Q (.dat (.bool true)) μ else wp (gEq false (.dat (.tuple ds)) (.dat one0) μ) K) := by
          intro a b c r e h0 hr K hK
          subst e
          have e5 : pat (.tuple (.tuple [.int a, .int b, .int c] :: r)) = (decide (0 < a) || PyData.eqv (.tuple (.tuple [.int a, .int b, .int c] :: r)) one0) := by
            simp only [pat, hr, head0, fig]
            rw [decide_eq_true (by omega : 1 ≤ (PyData.tuple [.int a, .int b, .int c] :: r).length), decide_eq_true (by omega : (PyData.tuple [.int a, .int b, .int c] :: r).length ≤ 3)]
            simp
          rw [e5] at hQ
          by_cases ha : 0 < a
          · simpa [ha] using hQ
          · simp only [ha, decide_false, Bool.false_eq_true, if_false]
            rw [w_eq (neg := false) hsh sh_one]
            refine hK _ ?_
            simpa [ha] using hQ
        have bad : run .none ds = false → Q (.dat (.bool false)) μ := fun hr => by
          have e5 : pat (.tuple ds) = false := by simp only [pat, hr, Bool.false_and, Bool.and_false]
          rw [e5] at hQ; exact hQ
        have nn : ∀ i : Int, PyData.eqv (.int i) .none = false := fun i => by simp only [PyData.eqv]
        have ii : ∀ i j : Int, (decide (i = j)) = (j == i) := fun i j => by
          by_cases e : i = j
          · subst e; simp
          · rw [decide_eq_false e]; symm; rw [beq_eq_false_iff_ne]; exact fun z => e z.symm
        rcases ds with _ | ⟨p1, _ | ⟨p2, _ | ⟨p3, _ | ⟨p4, r⟩⟩⟩⟩
        · simp at q
        · have w1 := hw p1 (by simp)
          simp only [wp_ok, wp_okD, wp_bind, w_var, w_varV, w_c, w_bin, w_un, w_nil, w_cons, w_args, w_boolV, w_tOf, w_fAnd, w_fOr, w_fNot, w_eAnd, w_eOr, w_eIf, w_chain, w_optV, w_oNone, w_oSome, w_cut, o_cutT, o_cutL, w_pass, w_ret, w_if, w_seqV, w_seqR, w_seq, w_asgV, w_asg, w_gNm, w_gTp, w_gNl, w_gCn, w_par2V, w_par2, w_set, w_body, w_endD, w_endN, w_for, w_forN, w_loopN, w_loopR, w_forC, o_add, o_addB, o_sub, o_ord, o_lt, o_le, o_gt, o_ge, o_eqI, o_neI, o_eqB, o_not, o_neg, o_len_t, o_len_l, o_len_f, datL_nil, datL_cons, startR, List.map_cons, List.map_nil, List.length_cons, List.length_nil, List.replicate_succ, List.replicate_zero, List.cons_append, List.nil_append, List.getElem?_cons_zero, List.getElem?_cons_succ, List.set_cons_zero, List.set_cons_succ, List.take_length, Option.map_some, Option.map_none, List.append_nil, Nat.sub_self, w_idxV, w_idx_t, w_idx_l, w_idx_f, at0, at1, at2, cut1, w_call, w_tup, w_lst, Nat.reduceSub, Nat.reduceAdd, Nat.reduceLeDiff, if_true, reduceIte, Bool.not_true, Bool.not_false, Bool.false_eq_true, reduceCtorEq, w_isT, w_comp, w_datV, w_compN, w_rhoV, w_compC, w_okT, w_any, w_any_t, w_any_l, w_any_f, w_enum, w_enum_t, w_enum_l, w_zip, w_zip_t, w_zip_l, zip_nil, zip_nil2, zip_cons, w_range, tg_nm, tg_tp2, wipe_nil, wipe_cons, Nat.reduceLT, part_w hk w1]
          rw [w_all (bs := [part p1]) rfl]
          cases g1 : part p1 with
          | false =>
            simp only [wp_ok, wp_okD, wp_bind, w_var, w_varV, w_c, w_bin, w_un, w_nil, w_cons, w_args, w_boolV, w_tOf, w_fAnd, w_fOr, w_fNot, w_eAnd, w_eOr, w_eIf, w_chain, w_optV, w_oNone, w_oSome, w_cut, o_cutT, o_cutL, w_pass, w_ret, w_if, w_seqV, w_seqR, w_seq, w_asgV, w_asg, w_gNm, w_gTp, w_gNl, w_gCn, w_par2V, w_par2, w_set, w_body, w_endD, w_endN, w_for, w_forN, w_loopN, w_loopR, w_forC, o_add, o_addB, o_sub, o_ord, o_lt, o_le, o_gt, o_ge, o_eqI, o_neI, o_eqB, o_not, o_neg, o_len_t, o_len_l, o_len_f, datL_nil, datL_cons, startR, List.map_cons, List.map_nil, List.length_cons, List.length_nil, List.replicate_succ, List.replicate_zero, List.cons_append, List.nil_append, List.getElem?_cons_zero, List.getElem?_cons_succ, List.set_cons_zero, List.set_cons_succ, List.take_length, Option.map_some, Option.map_none, List.append_nil, Nat.sub_self, w_idxV, w_idx_t, w_idx_l, w_idx_f, at0, at1, at2, cut1, w_call, w_tup, w_lst, Nat.reduceSub, Nat.reduceAdd, Nat.reduceLeDiff, if_true, reduceIte, Bool.not_true, Bool.not_false, Bool.false_eq_true, reduceCtorEq, w_isT, w_comp, w_datV, w_compN, w_rhoV, w_compC, w_okT, w_any, w_any_t, w_any_l, w_any_f, w_enum, w_enum_t, w_enum_l, w_zip, w_zip_t, w_zip_l, zip_nil, zip_nil2, zip_cons, w_range, tg_nm, tg_tp2, wipe_nil, wipe_cons, Nat.reduceLT, List.all_cons, List.all_nil, id, Bool.and_true]
            exact bad (by simp [run, g1])
          | true =>
            obtain ⟨a, b, c, rfl, i1, _⟩ := part_ex g1
            simp only [wp_ok, wp_okD, wp_bind, w_var, w_varV, w_c, w_bin, w_un, w_nil, w_cons, w_args, w_boolV, w_tOf, w_fAnd, w_fOr, w_fNot, w_eAnd, w_eOr, w_eIf, w_chain, w_optV, w_oNone, w_oSome, w_cut, o_cutT, o_cutL, w_pass, w_ret, w_if, w_seqV, w_seqR, w_seq, w_asgV, w_asg, w_gNm, w_gTp, w_gNl, w_gCn, w_par2V, w_par2, w_set, w_body, w_endD, w_endN, w_for, w_forN, w_loopN, w_loopR, w_forC, o_add, o_addB, o_sub, o_ord, o_lt, o_le, o_gt, o_ge, o_eqI, o_neI, o_eqB, o_not, o_neg, o_len_t, o_len_l, o_len_f, datL_nil, datL_cons, startR, List.map_cons, List.map_nil, List.length_cons, List.length_nil, List.replicate_succ, List.replicate_zero, List.cons_append, List.nil_append, List.getElem?_cons_zero, List.getElem?_cons_succ, List.set_cons_zero, List.set_cons_succ, List.take_length, Option.map_some, Option.map_none, List.append_nil, Nat.sub_self, w_idxV, w_idx_t, w_idx_l, w_idx_f, at0, at1, at2, cut1, w_call, w_tup, w_lst, Nat.reduceSub, Nat.reduceAdd, Nat.reduceLeDiff, if_true, reduceIte, Bool.not_true, Bool.not_false, Bool.false_eq_true, reduceCtorEq, w_isT, w_comp, w_datV, w_compN, w_rhoV, w_compC, w_okT, w_any, w_any_t, w_any_l, w_any_f, w_enum, w_enum_t, w_enum_l, w_zip, w_zip_t, w_zip_l, zip_nil, zip_nil2, zip_cons, w_range, tg_nm, tg_tp2, wipe_nil, wipe_cons, Nat.reduceLT, List.all_cons, List.all_nil, id, Bool.and_true]
            rw [w_anyB (bs := []) rfl]
            simp only [wp_ok, wp_okD, wp_bind, w_var, w_varV, w_c, w_bin, w_un, w_nil, w_cons, w_args, w_boolV, w_tOf, w_fAnd, w_fOr, w_fNot, w_eAnd, w_eOr, w_eIf, w_chain, w_optV, w_oNone, w_oSome, w_cut, o_cutT, o_cutL, w_pass, w_ret, w_if, w_seqV, w_seqR, w_seq, w_asgV, w_asg, w_gNm, w_gTp, w_gNl, w_gCn, w_par2V, w_par2, w_set, w_body, w_endD, w_endN, w_for, w_forN, w_loopN, w_loopR, w_forC, o_add, o_addB, o_sub, o_ord, o_lt, o_le, o_gt, o_ge, o_eqI, o_neI, o_eqB, o_not, o_neg, o_len_t, o_len_l, o_len_f, datL_nil, datL_cons, startR, List.map_cons, List.map_nil, List.length_cons, List.length_nil, List.replicate_succ, List.replicate_zero, List.cons_append, List.nil_append, List.getElem?_cons_zero, List.getElem?_cons_succ, List.set_cons_zero, List.set_cons_succ, List.take_length, Option.map_some, Option.map_none, List.append_nil, Nat.sub_self, w_idxV, w_idx_t, w_idx_l, w_idx_f, at0, at1, at2, cut1, w_call, w_tup, w_lst, Nat.reduceSub, Nat.reduceAdd, Nat.reduceLeDiff, if_true, reduceIte, Bool.not_true, Bool.not_false, Bool.false_eq_true, reduceCtorEq, w_isT, w_comp, w_datV, w_compN, w_rhoV, w_compC, w_okT, w_any, w_any_t, w_any_l, w_any_f, w_enum, w_enum_t, w_enum_l, w_zip, w_zip_t, w_zip_l, zip_nil, zip_nil2, zip_cons, w_range, tg_nm, tg_tp2, wipe_nil, wipe_cons, Nat.reduceLT, List.any_nil]
            exact fin a b c [] rfl i1 (by simp [run, g1, fig, nn]) _ fun z hz => by simpa only [wp_ok, wp_okD, wp_bind, w_var, w_varV, w_c, w_bin, w_un, w_nil, w_cons, w_args, w_boolV, w_tOf, w_fAnd, w_fOr, w_fNot, w_eAnd, w_eOr, w_eIf, w_chain, w_optV, w_oNone, w_oSome, w_cut, o_cutT, o_cutL, w_pass, w_ret, w_if, w_seqV, w_seqR, w_seq, w_asgV, w_asg, w_gNm, w_gTp, w_gNl, w_gCn, w_par2V, w_par2, w_set, w_body, w_endD, w_endN, w_for, w_forN, w_loopN, w_loopR, w_forC, o_add, o_addB, o_sub, o_ord, o_lt, o_le, o_gt, o_ge, o_eqI, o_neI, o_eqB, o_not, o_neg, o_len_t, o_len_l, o_len_f, datL_nil, datL_cons, startR, List.map_cons, List.map_nil, List.length_cons, List.length_nil, List.replicate_succ, List.replicate_zero, List.cons_append, List.nil_append, List.getElem?_cons_zero, List.getElem?_cons_succ, List.set_cons_zero, List.set_cons_succ, List.take_length, Option.map_some, Option.map_none, List.append_nil, Nat.sub_self, w_idxV, w_idx_t, w_idx_l, w_idx_f, at0, at1, at2, cut1, w_call, w_tup, w_lst, Nat.reduceSub, Nat.reduceAdd, Nat.reduceLeDiff, if_true, reduceIte, Bool.not_true, Bool.not_false, Bool.false_eq_true, reduceCtorEq, w_isT, w_comp, w_datV, w_compN, w_rhoV, w_compC, w_okT, w_any, w_any_t, w_any_l, w_any_f, w_enum, w_enum_t, w_enum_l, w_zip, w_zip_t, w_zip_l, zip_nil, zip_nil2, zip_cons, w_range, tg_nm, tg_tp2, wipe_nil, wipe_cons, Nat.reduceLT] using hz
        · have w1 := hw p1 (by simp)
          have w2 := hw p2 (by simp)
          simp only [wp_ok, wp_okD, wp_bind, w_var, w_varV, w_c, w_bin, w_un, w_nil, w_cons, w_args, w_boolV, w_tOf, w_fAnd, w_fOr, w_fNot, w_eAnd, w_eOr, w_eIf, w_chain, w_optV, w_oNone, w_oSome, w_cut, o_cutT, o_cutL, w_pass, w_ret, w_if, w_seqV, w_seqR, w_seq, w_asgV, w_asg, w_gNm, w_gTp, w_gNl, w_gCn, w_par2V, w_par2, w_set, w_body, w_endD, w_endN, w_for, w_forN, w_loopN, w_loopR, w_forC, o_add, o_addB, o_sub, o_ord, o_lt, o_le, o_gt, o_ge, o_eqI, o_neI, o_eqB, o_not, o_neg, o_len_t, o_len_l, o_len_f, datL_nil, datL_cons, startR, List.map_cons, List.map_nil, List.length_cons, List.length_nil, List.replicate_succ, List.replicate_zero, List.cons_append, List.nil_append, List.getElem?_cons_zero, List.getElem?_cons_succ, List.set_cons_zero, List.set_cons_succ, List.take_length, Option.map_some, Option.map_none, List.append_nil, Nat.sub_self, w_idxV, w_idx_t, w_idx_l, w_idx_f, at0, at1, at2, cut1, w_call, w_tup, w_lst, Nat.reduceSub, Nat.reduceAdd, Nat.reduceLeDiff, if_true, reduceIte, Bool.not_true, Bool.not_false, Bool.false_eq_true, reduceCtorEq, w_isT, w_comp, w_datV, w_compN, w_rhoV, w_compC, w_okT, w_any, w_any_t, w_any_l, w_any_f, w_enum, w_enum_t, w_enum_l, w_zip, w_zip_t, w_zip_l, zip_nil, zip_nil2, zip_cons, w_range, tg_nm, tg_tp2, wipe_nil, wipe_cons, Nat.reduceLT, part_w hk w1, part_w hk w2]
          rw [w_all (bs := [part p1, part p2]) rfl]
          cases g1 : part p1 with
          | false =>
            simp only [wp_ok, wp_okD, wp_bind, w_var, w_varV, w_c, w_bin, w_un, w_nil, w_cons, w_args, w_boolV, w_tOf, w_fAnd, w_fOr, w_fNot, w_eAnd, w_eOr, w_eIf, w_chain, w_optV, w_oNone, w_oSome, w_cut, o_cutT, o_cutL, w_pass, w_ret, w_if, w_seqV, w_seqR, w_seq, w_asgV, w_asg, w_gNm, w_gTp, w_gNl, w_gCn, w_par2V, w_par2, w_set, w_body, w_endD, w_endN, w_for, w_forN, w_loopN, w_loopR, w_forC, o_add, o_addB, o_sub, o_ord, o_lt, o_le, o_gt, o_ge, o_eqI, o_neI, o_eqB, o_not, o_neg, o_len_t, o_len_l, o_len_f, datL_nil, datL_cons, startR, List.map_cons, List.map_nil, List.length_cons, List.length_nil, List.replicate_succ, List.replicate_zero, List.cons_append, List.nil_append, List.getElem?_cons_zero, List.getElem?_cons_succ, List.set_cons_zero, List.set_cons_succ, List.take_length, Option.map_some, Option.map_none, List.append_nil, Nat.sub_self, w_idxV, w_idx_t, w_idx_l, w_idx_f, at0, at1, at2, cut1, w_call, w_tup, w_lst, Nat.reduceSub, Nat.reduceAdd, Nat.reduceLeDiff, if_true, reduceIte, Bool.not_true, Bool.not_false, Bool.false_eq_true, reduceCtorEq, w_isT, w_comp, w_datV, w_compN, w_rhoV, w_compC, w_okT, w_any, w_any_t, w_any_l, w_any_f, w_enum, w_enum_t, w_enum_l, w_zip, w_zip_t, w_zip_l, zip_nil, zip_nil2, zip_cons, w_range, tg_nm, tg_tp2, wipe_nil, wipe_cons, Nat.reduceLT, List.all_cons, List.all_nil, id, Bool.and_true, Bool.false_and]
            exact bad (by simp [run, g1])
          | true =>
            cases g2 : part p2 with
            | false =>
              simp only [wp_ok, wp_okD, wp_bind, w_var, w_varV, w_c, w_bin, w_un, w_nil, w_cons, w_args, w_boolV, w_tOf, w_fAnd, w_fOr, w_fNot, w_eAnd, w_eOr, w_eIf, w_chain, w_optV, w_oNone, w_oSome, w_cut, o_cutT, o_cutL, w_pass, w_ret, w_if, w_seqV, w_seqR, w_seq, w_asgV, w_asg, w_gNm, w_gTp, w_gNl, w_gCn, w_par2V, w_par2, w_set, w_body, w_endD, w_endN, w_for, w_forN, w_loopN, w_loopR, w_forC, o_add, o_addB, o_sub, o_ord, o_lt, o_le, o_gt, o_ge, o_eqI, o_neI, o_eqB, o_not, o_neg, o_len_t, o_len_l, o_len_f, datL_nil, datL_cons, startR, List.map_cons, List.map_nil, List.length_cons, List.length_nil, List.replicate_succ, List.replicate_zero, List.cons_append, List.nil_append, List.getElem?_cons_zero, List.getElem?_cons_succ, List.set_cons_zero, List.set_cons_succ, List.take_length, Option.map_some, Option.map_none, List.append_nil, Nat.sub_self, w_idxV, w_idx_t, w_idx_l, w_idx_f, at0, at1, at2, cut1, w_call, w_tup, w_lst, Nat.reduceSub, Nat.reduceAdd, Nat.reduceLeDiff, if_true, reduceIte, Bool.not_true, Bool.not_false, Bool.false_eq_true, reduceCtorEq, w_isT, w_comp, w_datV, w_compN, w_rhoV, w_compC, w_okT, w_any, w_any_t, w_any_l, w_any_f, w_enum, w_enum_t, w_enum_l, w_zip, w_zip_t, w_zip_l, zip_nil, zip_nil2, zip_cons, w_range, tg_nm, tg_tp2, wipe_nil, wipe_cons, Nat.reduceLT, List.all_cons, List.all_nil, id, Bool.and_true, Bool.and_false]
              exact bad (by simp [run, g1, g2])
            | true =>
              obtain ⟨a, b, c, rfl, i1, _⟩ := part_ex g1
              obtain ⟨a2, b2, c2, rfl, _⟩ := part_ex g2
              simp only [wp_ok, wp_okD, wp_bind, w_var, w_varV, w_c, w_bin, w_un, w_nil, w_cons, w_args, w_boolV, w_tOf, w_fAnd, w_fOr, w_fNot, w_eAnd, w_eOr, w_eIf, w_chain, w_optV, w_oNone, w_oSome, w_cut, o_cutT, o_cutL, w_pass, w_ret, w_if, w_seqV, w_seqR, w_seq, w_asgV, w_asg, w_gNm, w_gTp, w_gNl, w_gCn, w_par2V, w_par2, w_set, w_body, w_endD, w_endN, w_for, w_forN, w_loopN, w_loopR, w_forC, o_add, o_addB, o_sub, o_ord, o_lt, o_le, o_gt, o_ge, o_eqI, o_neI, o_eqB, o_not, o_neg, o_len_t, o_len_l, o_len_f, datL_nil, datL_cons, startR, List.map_cons, List.map_nil, List.length_cons, List.length_nil, List.replicate_succ, List.replicate_zero, List.cons_append, List.nil_append, List.getElem?_cons_zero, List.getElem?_cons_succ, List.set_cons_zero, List.set_cons_succ, List.take_length, Option.map_some, Option.map_none, List.append_nil, Nat.sub_self, w_idxV, w_idx_t, w_idx_l, w_idx_f, at0, at1, at2, cut1, w_call, w_tup, w_lst, Nat.reduceSub, Nat.reduceAdd, Nat.reduceLeDiff, if_true, reduceIte, Bool.not_true, Bool.not_false, Bool.false_eq_true, reduceCtorEq, w_isT, w_comp, w_datV, w_compN, w_rhoV, w_compC, w_okT, w_any, w_any_t, w_any_l, w_any_f, w_enum, w_enum_t, w_enum_l, w_zip, w_zip_t, w_zip_l, zip_nil, zip_nil2, zip_cons, w_range, tg_nm, tg_tp2, wipe_nil, wipe_cons, Nat.reduceLT, List.all_cons, List.all_nil, id, Bool.and_true]
              rw [w_anyB (bs := [decide (a = a2)]) rfl]
              simp only [wp_ok, wp_okD, wp_bind, w_var, w_varV, w_c, w_bin, w_un, w_nil, w_cons, w_args, w_boolV, w_tOf, w_fAnd, w_fOr, w_fNot, w_eAnd, w_eOr, w_eIf, w_chain, w_optV, w_oNone, w_oSome, w_cut, o_cutT, o_cutL, w_pass, w_ret, w_if, w_seqV, w_seqR, w_seq, w_asgV, w_asg, w_gNm, w_gTp, w_gNl, w_gCn, w_par2V, w_par2, w_set, w_body, w_endD, w_endN, w_for, w_forN, w_loopN, w_loopR, w_forC, o_add, o_addB, o_sub, o_ord, o_lt, o_le, o_gt, o_ge, o_eqI, o_neI, o_eqB, o_not, o_neg, o_len_t, o_len_l, o_len_f, datL_nil, datL_cons, startR, List.map_cons, List.map_nil, List.length_cons, List.length_nil, List.replicate_succ, List.replicate_zero, List.cons_append, List.nil_append, List.getElem?_cons_zero, List.getElem?_cons_succ, List.set_cons_zero, List.set_cons_succ, List.take_length, Option.map_some, Option.map_none, List.append_nil, Nat.sub_self, w_idxV, w_idx_t, w_idx_l, w_idx_f, at0, at1, at2, cut1, w_call, w_tup, w_lst, Nat.reduceSub, Nat.reduceAdd, Nat.reduceLeDiff, if_true, reduceIte, Bool.not_true, Bool.not_false, Bool.false_eq_true, reduceCtorEq, w_isT, w_comp, w_datV, w_compN, w_rhoV, w_compC, w_okT, w_any, w_any_t, w_any_l, w_any_f, w_enum, w_enum_t, w_enum_l, w_zip, w_zip_t, w_zip_l, zip_nil, zip_nil2, zip_cons, w_range, tg_nm, tg_tp2, wipe_nil, wipe_cons, Nat.reduceLT, List.any_cons, List.any_nil, id, Bool.or_false]
              cases e : decide (a = a2) with
              | true =>
                simp only [wp_ok, wp_okD, wp_bind, w_var, w_varV, w_c, w_bin, w_un, w_nil, w_cons, w_args, w_boolV, w_tOf, w_fAnd, w_fOr, w_fNot, w_eAnd, w_eOr, w_eIf, w_chain, w_optV, w_oNone, w_oSome, w_cut, o_cutT, o_cutL, w_pass, w_ret, w_if, w_seqV, w_seqR, w_seq, w_asgV, w_asg, w_gNm, w_gTp, w_gNl, w_gCn, w_par2V, w_par2, w_set, w_body, w_endD, w_endN, w_for, w_forN, w_loopN, w_loopR, w_forC, o_add, o_addB, o_sub, o_ord, o_lt, o_le, o_gt, o_ge, o_eqI, o_neI, o_eqB, o_not, o_neg, o_len_t, o_len_l, o_len_f, datL_nil, datL_cons, startR, List.map_cons, List.map_nil, List.length_cons, List.length_nil, List.replicate_succ, List.replicate_zero, List.cons_append, List.nil_append, List.getElem?_cons_zero, List.getElem?_cons_succ, List.set_cons_zero, List.set_cons_succ, List.take_length, Option.map_some, Option.map_none, List.append_nil, Nat.sub_self, w_idxV, w_idx_t, w_idx_l, w_idx_f, at0, at1, at2, cut1, w_call, w_tup, w_lst, Nat.reduceSub, Nat.reduceAdd, Nat.reduceLeDiff, if_true, reduceIte, Bool.not_true, Bool.not_false, Bool.false_eq_true, reduceCtorEq, w_isT, w_comp, w_datV, w_compN, w_rhoV, w_compC, w_okT, w_any, w_any_t, w_any_l, w_any_f, w_enum, w_enum_t, w_enum_l, w_zip, w_zip_t, w_zip_l, zip_nil, zip_nil2, zip_cons, w_range, tg_nm, tg_tp2, wipe_nil, wipe_cons, Nat.reduceLT]
                exact bad (by rw [ii] at e; simp only [run, g1, g2, fig, nn, eqv_i, e]; rfl)
              | false =>
                simp only [wp_ok, wp_okD, wp_bind, w_var, w_varV, w_c, w_bin, w_un, w_nil, w_cons, w_args, w_boolV, w_tOf, w_fAnd, w_fOr, w_fNot, w_eAnd, w_eOr, w_eIf, w_chain, w_optV, w_oNone, w_oSome, w_cut, o_cutT, o_cutL, w_pass, w_ret, w_if, w_seqV, w_seqR, w_seq, w_asgV, w_asg, w_gNm, w_gTp, w_gNl, w_gCn, w_par2V, w_par2, w_set, w_body, w_endD, w_endN, w_for, w_forN, w_loopN, w_loopR, w_forC, o_add, o_addB, o_sub, o_ord, o_lt, o_le, o_gt, o_ge, o_eqI, o_neI, o_eqB, o_not, o_neg, o_len_t, o_len_l, o_len_f, datL_nil, datL_cons, startR, List.map_cons, List.map_nil, List.length_cons, List.length_nil, List.replicate_succ, List.replicate_zero, List.cons_append, List.nil_append, List.getElem?_cons_zero, List.getElem?_cons_succ, List.set_cons_zero, List.set_cons_succ, List.take_length, Option.map_some, Option.map_none, List.append_nil, Nat.sub_self, w_idxV, w_idx_t, w_idx_l, w_idx_f, at0, at1, at2, cut1, w_call, w_tup, w_lst, Nat.reduceSub, Nat.reduceAdd, Nat.reduceLeDiff, if_true, reduceIte, Bool.not_true, Bool.not_false, Bool.false_eq_true, reduceCtorEq, w_isT, w_comp, w_datV, w_compN, w_rhoV, w_compC, w_okT, w_any, w_any_t, w_any_l, w_any_f, w_enum, w_enum_t, w_enum_l, w_zip, w_zip_t, w_zip_l, zip_nil, zip_nil2, zip_cons, w_range, tg_nm, tg_tp2, wipe_nil, wipe_cons, Nat.reduceLT]
                exact fin a b c _ rfl i1 (by rw [ii] at e; simp only [run, g1, g2, fig, nn, eqv_i, e]; rfl) _ fun z hz => by simpa only [wp_ok, wp_okD, wp_bind, w_var, w_varV, w_c, w_bin, w_un, w_nil, w_cons, w_args, w_boolV, w_tOf, w_fAnd, w_fOr, w_fNot, w_eAnd, w_eOr, w_eIf, w_chain, w_optV, w_oNone, w_oSome, w_cut, o_cutT, o_cutL, w_pass, w_ret, w_if, w_seqV, w_seqR, w_seq, w_asgV, w_asg, w_gNm, w_gTp, w_gNl, w_gCn, w_par2V, w_par2, w_set, w_body, w_endD, w_endN, w_for, w_forN, w_loopN, w_loopR, w_forC, o_add, o_addB, o_sub, o_ord, o_lt, o_le, o_gt, o_ge, o_eqI, o_neI, o_eqB, o_not, o_neg, o_len_t, o_len_l, o_len_f, datL_nil, datL_cons, startR, List.map_cons, List.map_nil, List.length_cons, List.length_nil, List.replicate_succ, List.replicate_zero, List.cons_append, List.nil_append, List.getElem?_cons_zero, List.getElem?_cons_succ, List.set_cons_zero, List.set_cons_succ, List.take_length, Option.map_some, Option.map_none, List.append_nil, Nat.sub_self, w_idxV, w_idx_t, w_idx_l, w_idx_f, at0, at1, at2, cut1, w_call, w_tup, w_lst, Nat.reduceSub, Nat.reduceAdd, Nat.reduceLeDiff, if_true, reduceIte, Bool.not_true, Bool.not_false, Bool.false_eq_true, reduceCtorEq, w_isT, w_comp, w_datV, w_compN, w_rhoV, w_compC, w_okT, w_any, w_any_t, w_any_l, w_any_f, w_enum, w_enum_t, w_enum_l, w_zip, w_zip_t, w_zip_l, zip_nil, zip_nil2, zip_cons, w_range, tg_nm, tg_tp2, wipe_nil, wipe_cons, Nat.reduceLT] using hz
        · have w1 := hw p1 (by simp)
          have w2 := hw p2 (by simp)
          have w3 := hw p3 (by simp)
          simp only [wp_ok, wp_okD, wp_bind, w_var, w_varV, w_c, w_bin, w_un, w_nil, w_cons, w_args, w_boolV, w_tOf, w_fAnd, w_fOr, w_fNot, w_eAnd, w_eOr, w_eIf, w_chain, w_optV, w_oNone, w_oSome, w_cut, o_cutT, o_cutL, w_pass, w_ret, w_if, w_seqV, w_seqR, w_seq, w_asgV, w_asg, w_gNm, w_gTp, w_gNl, w_gCn, w_par2V, w_par2, w_set, w_body, w_endD, w_endN, w_for, w_forN, w_loopN, w_loopR, w_forC, o_add, o_addB, o_sub, o_ord, o_lt, o_le, o_gt, o_ge, o_eqI, o_neI, o_eqB, o_not, o_neg, o_len_t, o_len_l, o_len_f, datL_nil, datL_cons, startR, List.map_cons, List.map_nil, List.length_cons, List.length_nil, List.replicate_succ, List.replicate_zero, List.cons_append, List.nil_append, List.getElem?_cons_zero, List.getElem?_cons_succ, List.set_cons_zero, List.set_cons_succ, List.take_length, Option.map_some, Option.map_none, List.append_nil, Nat.sub_self, w_idxV, w_idx_t, w_idx_l, w_idx_f, at0, at1, at2, cut1, w_call, w_tup, w_lst, Nat.reduceSub, Nat.reduceAdd, Nat.reduceLeDiff, if_true, reduceIte, Bool.not_true, Bool.not_false, Bool.false_eq_true, reduceCtorEq, w_isT, w_comp, w_datV, w_compN, w_rhoV, w_compC, w_okT, w_any, w_any_t, w_any_l, w_any_f, w_enum, w_enum_t, w_enum_l, w_zip, w_zip_t, w_zip_l, zip_nil, zip_nil2, zip_cons, w_range, tg_nm, tg_tp2, wipe_nil, wipe_cons, Nat.reduceLT, part_w hk w1, part_w hk w2, part_w hk w3]
          rw [w_all (bs := [part p1, part p2, part p3]) rfl]
          cases g1 : part p1 with
          | false =>
            simp only [wp_ok, wp_okD, wp_bind, w_var, w_varV, w_c, w_bin, w_un, w_nil, w_cons, w_args, w_boolV, w_tOf, w_fAnd, w_fOr, w_fNot, w_eAnd, w_eOr, w_eIf, w_chain, w_optV, w_oNone, w_oSome, w_cut, o_cutT, o_cutL, w_pass, w_ret, w_if, w_seqV, w_seqR, w_seq, w_asgV, w_asg, w_gNm, w_gTp, w_gNl, w_gCn, w_par2V, w_par2, w_set, w_body, w_endD, w_endN, w_for, w_forN, w_loopN, w_loopR, w_forC, o_add, o_addB, o_sub, o_ord, o_lt, o_le, o_gt, o_ge, o_eqI, o_neI, o_eqB, o_not, o_neg, o_len_t, o_len_l, o_len_f, datL_nil, datL_cons, startR, List.map_cons, List.map_nil, List.length_cons, List.length_nil, List.replicate_succ, List.replicate_zero, List.cons_append, List.nil_append, List.getElem?_cons_zero, List.getElem?_cons_succ, List.set_cons_zero, List.set_cons_succ, List.take_length, Option.map_some, Option.map_none, List.append_nil, Nat.sub_self, w_idxV, w_idx_t, w_idx_l, w_idx_f, at0, at1, at2, cut1, w_call, w_tup, w_lst, Nat.reduceSub, Nat.reduceAdd, Nat.reduceLeDiff, if_true, reduceIte, Bool.not_true, Bool.not_false, Bool.false_eq_true, reduceCtorEq, w_isT, w_comp, w_datV, w_compN, w_rhoV, w_compC, w_okT, w_any, w_any_t, w_any_l, w_any_f, w_enum, w_enum_t, w_enum_l, w_zip, w_zip_t, w_zip_l, zip_nil, zip_nil2, zip_cons, w_range, tg_nm, tg_tp2, wipe_nil, wipe_cons, Nat.reduceLT, List.all_cons, List.all_nil, id, Bool.and_true, Bool.false_and]
            exact bad (by simp [run, g1])
          | true =>
            cases g2 : part p2 with
            | false =>
              simp only [wp_ok, wp_okD, wp_bind, w_var, w_varV, w_c, w_bin, w_un, w_nil, w_cons, w_args, w_boolV, w_tOf, w_fAnd, w_fOr, w_fNot, w_eAnd, w_eOr, w_eIf, w_chain, w_optV, w_oNone, w_oSome, w_cut, o_cutT, o_cutL, w_pass, w_ret, w_if, w_seqV, w_seqR, w_seq, w_asgV, w_asg, w_gNm, w_gTp, w_gNl, w_gCn, w_par2V, w_par2, w_set, w_body, w_endD, w_endN, w_for, w_forN, w_loopN, w_loopR, w_forC, o_add, o_addB, o_sub, o_ord, o_lt, o_le, o_gt, o_ge, o_eqI, o_neI, o_eqB, o_not, o_neg, o_len_t, o_len_l, o_len_f, datL_nil, datL_cons, startR, List.map_cons, List.map_nil, List.length_cons, List.length_nil, List.replicate_succ, List.replicate_zero, List.cons_append, List.nil_append, List.getElem?_cons_zero, List.getElem?_cons_succ, List.set_cons_zero, List.set_cons_succ, List.take_length, Option.map_some, Option.map_none, List.append_nil, Nat.sub_self, w_idxV, w_idx_t, w_idx_l, w_idx_f, at0, at1, at2, cut1, w_call, w_tup, w_lst, Nat.reduceSub, Nat.reduceAdd, Nat.reduceLeDiff, if_true, reduceIte, Bool.not_true, Bool.not_false, Bool.false_eq_true, reduceCtorEq, w_isT, w_comp, w_datV, w_compN, w_rhoV, w_compC, w_okT, w_any, w_any_t, w_any_l, w_any_f, w_enum, w_enum_t, w_enum_l, w_zip, w_zip_t, w_zip_l, zip_nil, zip_nil2, zip_cons, w_range, tg_nm, tg_tp2, wipe_nil, wipe_cons, Nat.reduceLT, List.all_cons, List.all_nil, id, Bool.and_true, Bool.and_false, Bool.false_and, Bool.true_and]
              exact bad (by simp [run, g1, g2])
            | true =>
              cases g3 : part p3 with
              | false =>
                simp only [wp_ok, wp_okD, wp_bind, w_var, w_varV, w_c, w_bin, w_un, w_nil, w_cons, w_args, w_boolV, w_tOf, w_fAnd, w_fOr, w_fNot, w_eAnd, w_eOr, w_eIf, w_chain, w_optV, w_oNone, w_oSome, w_cut, o_cutT, o_cutL, w_pass, w_ret, w_if, w_seqV, w_seqR, w_seq, w_asgV, w_asg, w_gNm, w_gTp, w_gNl, w_gCn, w_par2V, w_par2, w_set, w_body, w_endD, w_endN, w_for, w_forN, w_loopN, w_loopR, w_forC, o_add, o_addB, o_sub, o_ord, o_lt, o_le, o_gt, o_ge, o_eqI, o_neI, o_eqB, o_not, o_neg, o_len_t, o_len_l, o_len_f, datL_nil, datL_cons, startR, List.map_cons, List.map_nil, List.length_cons, List.length_nil, List.replicate_succ, List.replicate_zero, List.cons_append, List.nil_append, List.getElem?_cons_zero, List.getElem?_cons_succ, List.set_cons_zero, List.set_cons_succ, List.take_length, Option.map_some, Option.map_none, List.append_nil, Nat.sub_self, w_idxV, w_idx_t, w_idx_l, w_idx_f, at0, at1, at2, cut1, w_call, w_tup, w_lst, Nat.reduceSub, Nat.reduceAdd, Nat.reduceLeDiff, if_true, reduceIte, Bool.not_true, Bool.not_false, Bool.false_eq_true, reduceCtorEq, w_isT, w_comp, w_datV, w_compN, w_rhoV, w_compC, w_okT, w_any, w_any_t, w_any_l, w_any_f, w_enum, w_enum_t, w_enum_l, w_zip, w_zip_t, w_zip_l, zip_nil, zip_nil2, zip_cons, w_range, tg_nm, tg_tp2, wipe_nil, wipe_cons, Nat.reduceLT, List.all_cons, List.all_nil, id, Bool.and_true, Bool.and_false, Bool.true_and]
                exact bad (by simp [run, g1, g2, g3])
              | true =>
                obtain ⟨a, b, c, rfl, i1, _⟩ := part_ex g1
                obtain ⟨a2, b2, c2, rfl, _⟩ := part_ex g2
                obtain ⟨a3, b3, c3, rfl, _⟩ := part_ex g3
                simp only [wp_ok, wp_okD, wp_bind, w_var, w_varV, w_c, w_bin, w_un, w_nil, w_cons, w_args, w_boolV, w_tOf, w_fAnd, w_fOr, w_fNot, w_eAnd, w_eOr, w_eIf, w_chain, w_optV, w_oNone, w_oSome, w_cut, o_cutT, o_cutL, w_pass, w_ret, w_if, w_seqV, w_seqR, w_seq, w_asgV, w_asg, w_gNm, w_gTp, w_gNl, w_gCn, w_par2V, w_par2, w_set, w_body, w_endD, w_endN, w_for, w_forN, w_loopN, w_loopR, w_forC, o_add, o_addB, o_sub, o_ord, o_lt, o_le, o_gt, o_ge, o_eqI, o_neI, o_eqB, o_not, o_neg, o_len_t, o_len_l, o_len_f, datL_nil, datL_cons, startR, List.map_cons, List.map_nil, List.length_cons, List.length_nil, List.replicate_succ, List.replicate_zero, List.cons_append, List.nil_append, List.getElem?_cons_zero, List.getElem?_cons_succ, List.set_cons_zero, List.set_cons_succ, List.take_length, Option.map_some, Option.map_none, List.append_nil, Nat.sub_self, w_idxV, w_idx_t, w_idx_l, w_idx_f, at0, at1, at2, cut1, w_call, w_tup, w_lst, Nat.reduceSub, Nat.reduceAdd, Nat.reduceLeDiff, if_true, reduceIte, Bool.not_true, Bool.not_false, Bool.false_eq_true, reduceCtorEq, w_isT, w_comp, w_datV, w_compN, w_rhoV, w_compC, w_okT, w_any, w_any_t, w_any_l, w_any_f, w_enum, w_enum_t, w_enum_l, w_zip, w_zip_t, w_zip_l, zip_nil, zip_nil2, zip_cons, w_range, tg_nm, tg_tp2, wipe_nil, wipe_cons, Nat.reduceLT, List.all_cons, List.all_nil, id, Bool.and_true]
                rw [w_anyB (bs := [decide (a = a2), decide (a2 = a3)]) rfl]
                simp only [wp_ok, wp_okD, wp_bind, w_var, w_varV, w_c, w_bin, w_un, w_nil, w_cons, w_args, w_boolV, w_tOf, w_fAnd, w_fOr, w_fNot, w_eAnd, w_eOr, w_eIf, w_chain, w_optV, w_oNone, w_oSome, w_cut, o_cutT, o_cutL, w_pass, w_ret, w_if, w_seqV, w_seqR, w_seq, w_asgV, w_asg, w_gNm, w_gTp, w_gNl, w_gCn, w_par2V, w_par2, w_set, w_body, w_endD, w_endN, w_for, w_forN, w_loopN, w_loopR, w_forC, o_add, o_addB, o_sub, o_ord, o_lt, o_le, o_gt, o_ge, o_eqI, o_neI, o_eqB, o_not, o_neg, o_len_t, o_len_l, o_len_f, datL_nil, datL_cons, startR, List.map_cons, List.map_nil, List.length_cons, List.length_nil, List.replicate_succ, List.replicate_zero, List.cons_append, List.nil_append, List.getElem?_cons_zero, List.getElem?_cons_succ, List.set_cons_zero, List.set_cons_succ, List.take_length, Option.map_some, Option.map_none, List.append_nil, Nat.sub_self, w_idxV, w_idx_t, w_idx_l, w_idx_f, at0, at1, at2, cut1, w_call, w_tup, w_lst, Nat.reduceSub, Nat.reduceAdd, Nat.reduceLeDiff, if_true, reduceIte, Bool.not_true, Bool.not_false, Bool.false_eq_true, reduceCtorEq, w_isT, w_comp, w_datV, w_compN, w_rhoV, w_compC, w_okT, w_any, w_any_t, w_any_l, w_any_f, w_enum, w_enum_t, w_enum_l, w_zip, w_zip_t, w_zip_l, zip_nil, zip_nil2, zip_cons, w_range, tg_nm, tg_tp2, wipe_nil, wipe_cons, Nat.reduceLT, List.any_cons, List.any_nil, id, Bool.or_false]
                cases e : decide (a = a2) with
                | true =>
                  simp only [wp_ok, wp_okD, wp_bind, w_var, w_varV, w_c, w_bin, w_un, w_nil, w_cons, w_args, w_boolV, w_tOf, w_fAnd, w_fOr, w_fNot, w_eAnd, w_eOr, w_eIf, w_chain, w_optV, w_oNone, w_oSome, w_cut, o_cutT, o_cutL, w_pass, w_ret, w_if, w_seqV, w_seqR, w_seq, w_asgV, w_asg, w_gNm, w_gTp, w_gNl, w_gCn, w_par2V, w_par2, w_set, w_body, w_endD, w_endN, w_for, w_forN, w_loopN, w_loopR, w_forC, o_add, o_addB, o_sub, o_ord, o_lt, o_le, o_gt, o_ge, o_eqI, o_neI, o_eqB, o_not, o_neg, o_len_t, o_len_l, o_len_f, datL_nil, datL_cons, startR, List.map_cons, List.map_nil, List.length_cons, List.length_nil, List.replicate_succ, List.replicate_zero, List.cons_append, List.nil_append, List.getElem?_cons_zero, List.getElem?_cons_succ, List.set_cons_zero, List.set_cons_succ, List.take_length, Option.map_some, Option.map_none, List.append_nil, Nat.sub_self, w_idxV, w_idx_t, w_idx_l, w_idx_f, at0, at1, at2, cut1, w_call, w_tup, w_lst, Nat.reduceSub, Nat.reduceAdd, Nat.reduceLeDiff, if_true, reduceIte, Bool.not_true, Bool.not_false, Bool.false_eq_true, reduceCtorEq, w_isT, w_comp, w_datV, w_compN, w_rhoV, w_compC, w_okT, w_any, w_any_t, w_any_l, w_any_f, w_enum, w_enum_t, w_enum_l, w_zip, w_zip_t, w_zip_l, zip_nil, zip_nil2, zip_cons, w_range, tg_nm, tg_tp2, wipe_nil, wipe_cons, Nat.reduceLT, Bool.true_or]
                  exact bad (by rw [ii] at e; simp only [run, g1, g2, g3, fig, nn, eqv_i, e]; rfl)
                | false =>
                  cases e2 : decide (a2 = a3) with
                  | true =>
                    simp only [wp_ok, wp_okD, wp_bind, w_var, w_varV, w_c, w_bin, w_un, w_nil, w_cons, w_args, w_boolV, w_tOf, w_fAnd, w_fOr, w_fNot, w_eAnd, w_eOr, w_eIf, w_chain, w_optV, w_oNone, w_oSome, w_cut, o_cutT, o_cutL, w_pass, w_ret, w_if, w_seqV, w_seqR, w_seq, w_asgV, w_asg, w_gNm, w_gTp, w_gNl, w_gCn, w_par2V, w_par2, w_set, w_body, w_endD, w_endN, w_for, w_forN, w_loopN, w_loopR, w_forC, o_add, o_addB, o_sub, o_ord, o_lt, o_le, o_gt, o_ge, o_eqI, o_neI, o_eqB, o_not, o_neg, o_len_t, o_len_l, o_len_f, datL_nil, datL_cons, startR, List.map_cons, List.map_nil, List.length_cons, List.length_nil, List.replicate_succ, List.replicate_zero, List.cons_append, List.nil_append, List.getElem?_cons_zero, List.getElem?_cons_succ, List.set_cons_zero, List.set_cons_succ, List.take_length, Option.map_some, Option.map_none, List.append_nil, Nat.sub_self, w_idxV, w_idx_t, w_idx_l, w_idx_f, at0, at1, at2, cut1, w_call, w_tup, w_lst, Nat.reduceSub, Nat.reduceAdd, Nat.reduceLeDiff, if_true, reduceIte, Bool.not_true, Bool.not_false, Bool.false_eq_true, reduceCtorEq, w_isT, w_comp, w_datV, w_compN, w_rhoV, w_compC, w_okT, w_any, w_any_t, w_any_l, w_any_f, w_enum, w_enum_t, w_enum_l, w_zip, w_zip_t, w_zip_l, zip_nil, zip_nil2, zip_cons, w_range, tg_nm, tg_tp2, wipe_nil, wipe_cons, Nat.reduceLT, Bool.or_true]
                    exact bad (by rw [ii] at e e2; simp only [run, g1, g2, g3, fig, nn, eqv_i, e, e2]; rfl)
                  | false =>
                    simp only [wp_ok, wp_okD, wp_bind, w_var, w_varV, w_c, w_bin, w_un, w_nil, w_cons, w_args, w_boolV, w_tOf, w_fAnd, w_fOr, w_fNot, w_eAnd, w_eOr, w_eIf, w_chain, w_optV, w_oNone, w_oSome, w_cut, o_cutT, o_cutL, w_pass, w_ret, w_if, w_seqV, w_seqR, w_seq, w_asgV, w_asg, w_gNm, w_gTp, w_gNl, w_gCn, w_par2V, w_par2, w_set, w_body, w_endD, w_endN, w_for, w_forN, w_loopN, w_loopR, w_forC, o_add, o_addB, o_sub, o_ord, o_lt, o_le, o_gt, o_ge, o_eqI, o_neI, o_eqB, o_not, o_neg, o_len_t, o_len_l, o_len_f, datL_nil, datL_cons, startR, List.map_cons, List.map_nil, List.length_cons, List.length_nil, List.replicate_succ, List.replicate_zero, List.cons_append, List.nil_append, List.getElem?_cons_zero, List.getElem?_cons_succ, List.set_cons_zero, List.set_cons_succ, List.take_length, Option.map_some, Option.map_none, List.append_nil, Nat.sub_self, w_idxV, w_idx_t, w_idx_l, w_idx_f, at0, at1, at2, cut1, w_call, w_tup, w_lst, Nat.reduceSub, Nat.reduceAdd, Nat.reduceLeDiff, if_true, reduceIte, Bool.not_true, Bool.not_false, Bool.false_eq_true, reduceCtorEq, w_isT, w_comp, w_datV, w_compN, w_rhoV, w_compC, w_okT, w_any, w_any_t, w_any_l, w_any_f, w_enum, w_enum_t, w_enum_l, w_zip, w_zip_t, w_zip_l, zip_nil, zip_nil2, zip_cons, w_range, tg_nm, tg_tp2, wipe_nil, wipe_cons, Nat.reduceLT, Bool.or_false]
                    exact fin a b c _ rfl i1 (by rw [ii] at e e2; simp only [run, g1, g2, g3, fig, nn, eqv_i, e, e2]; rfl) _ fun z hz => by simpa only [wp_ok, wp_okD, wp_bind, w_var, w_varV, w_c, w_bin, w_un, w_nil, w_cons, w_args, w_boolV, w_tOf, w_fAnd, w_fOr, w_fNot, w_eAnd, w_eOr, w_eIf, w_chain, w_optV, w_oNone, w_oSome, w_cut, o_cutT, o_cutL, w_pass, w_ret, w_if, w_seqV, w_seqR, w_seq, w_asgV, w_asg, w_gNm, w_gTp, w_gNl, w_gCn, w_par2V, w_par2, w_set, w_body, w_endD, w_endN, w_for, w_forN, w_loopN, w_loopR, w_forC, o_add, o_addB, o_sub, o_ord, o_lt, o_le, o_gt, o_ge, o_eqI, o_neI, o_eqB, o_not, o_neg, o_len_t, o_len_l, o_len_f, datL_nil, datL_cons, startR, List.map_cons, List.map_nil, List.length_cons, List.length_nil, List.replicate_succ, List.replicate_zero, List.cons_append, List.nil_append, List.getElem?_cons_zero, List.getElem?_cons_succ, List.set_cons_zero, List.set_cons_succ, List.take_length, Option.map_some, Option.map_none, List.append_nil, Nat.sub_self, w_idxV, w_idx_t, w_idx_l, w_idx_f, at0, at1, at2, cut1, w_call, w_tup, w_lst, Nat.reduceSub, Nat.reduceAdd, Nat.reduceLeDiff, if_true, reduceIte, Bool.not_true, Bool.not_false, Bool.false_eq_true, reduceCtorEq, w_isT, w_comp, w_datV, w_compN, w_rhoV, w_compC, w_okT, w_any, w_any_t, w_any_l, w_any_f, w_enum, w_enum_t, w_enum_l, w_zip, w_zip_t, w_zip_l, zip_nil, zip_nil2, zip_cons, w_range, tg_nm, tg_tp2, wipe_nil, wipe_cons, Nat.reduceLT] using hz
        · simp at q
          omega
      | _ => simp [tp] at q
  obtain ⟨a, μ', e, h1, h2⟩ := wp_ex (key (fun a μ' => a = .dat (.bool (pat v)) ∧ μ' = μ) ⟨rfl, rfl⟩)
  rw [e, h1, h2]
  rfl
end K01
set_option Elab.async false
set_option linter.all false
set_option maxRecDepth 100000
set_option maxHeartbeats 4000000
namespace K01
open PySem PySem.Spec PyProof.Rows L2 DN
def mem3 (w : Str) : Bool := [PyData.str "add", .str "apart", .str "join"].any fun z => PyData.eqv z (.str w)
def row (v : PyData) (n : Int) : Bool := match v with
  | .tuple [.str w, a] => if PyData.eqv (.str w) (.str "write") = true then pat a else nm a 0 (n - 1) && PyData.eqv (.str w) (.str "back")
  | .tuple [.str w, a, b] => if PyData.eqv (.str w) (.str "write") = true then false else nm a 0 (n - 1) && (if PyData.eqv (.str w) (.str "back") = true then false else if mem3 w = true then nm b 0 (n - 1) else if PyData.eqv (.str w) (.str "times") = true then nm b 0 99 else PyData.eqv (.str w) (.str "drop") && nm b 1 20)
  | _ => false
theorem w_mem3 {w : Str} {μ : Mem} {Q : Val → Mem → Prop} : wp (gIn false (.dat (.str w)) (.dat (.tuple [.str "add", .str "apart", .str "join"])) μ) Q = Q (.dat (.bool (mem3 w))) μ := rfl
theorem w_eqS {m n : Nat} {w x : Str} {μ : Mem} {Q : Val → Mem → Prop} {neg : Bool} (hw : wf m n (.str w)) (hx : SeqAt.shaped (.str x) = true) : wp (gEq neg (.dat (.str w)) (.dat (.str x)) μ) Q = Q (.dat (.bool (if neg then !PyData.eqv (.str w) (.str x) else PyData.eqv (.str w) (.str x)))) μ := by
  have h0 : wf m 0 (.str w) := by
    simp only [wf] at hw ⊢
    exact hw
  rw [w_eq (h0.shaped (by omega)) hx]
theorem s1 : SeqAt.shaped (.str "write") = true := by decide +kernel
theorem s2 : SeqAt.shaped (.str "back") = true := by decide +kernel
theorem s3 : SeqAt.shaped (.str "times") = true := by decide +kernel
theorem s4 : SeqAt.shaped (.str "drop") = true := by decide +kernel
theorem s5 : SeqAt.shaped (.str "join") = true := by decide +kernel
theorem row_w {m n : Nat} {v : PyData} {k : Int} {μ : Mem} {Q : Val → Mem → Prop} (hn : n ≤ 40) (hm : m ≤ 1000) (h : wf m n v) : wp (F_is_row [.dat v, .dat (.int k)] μ) Q = Q (.dat (.bool (row v k))) μ := by
  unfold F_is_row b_is_row
  simp only [wp_ok, wp_okD, wp_bind, w_var, w_varV, w_c, w_bin, w_un, w_nil, w_cons, w_args, w_boolV, w_tOf, w_fAnd, w_fOr, w_fNot, w_eAnd, w_eOr, w_eIf, w_chain, w_optV, w_oNone, w_oSome, w_cut, o_cutT, o_cutL, w_pass, w_ret, w_if, w_seqV, w_seqR, w_seq, w_asgV, w_asg, w_gNm, w_gTp, w_gNl, w_gCn, w_par2V, w_par2, w_set, w_body, w_endD, w_endN, w_for, w_forN, w_loopN, w_loopR, w_forC, o_add, o_addB, o_sub, o_ord, o_lt, o_le, o_gt, o_ge, o_eqI, o_neI, o_eqB, o_not, o_neg, o_len_t, o_len_l, o_len_f, datL_nil, datL_cons, startR, List.map_cons, List.map_nil, List.length_cons, List.length_nil, List.replicate_succ, List.replicate_zero, List.cons_append, List.nil_append, List.getElem?_cons_zero, List.getElem?_cons_succ, List.set_cons_zero, List.set_cons_succ, List.take_length, Option.map_some, Option.map_none, List.append_nil, Nat.sub_self, w_idxV, w_idx_t, w_idx_l, w_idx_f, at0, at1, at2, cut1, w_call, w_tup, w_lst, Nat.reduceSub, Nat.reduceAdd, Nat.reduceLeDiff, if_true, reduceIte, Bool.not_true, Bool.not_false, Bool.false_eq_true, reduceCtorEq, w_isT, w_comp, w_datV, w_compN, w_rhoV, w_compC, w_okT, w_any, w_any_t, w_any_l, w_any_f, w_enum, w_enum_t, w_enum_l, w_zip, w_zip_t, w_zip_l, zip_nil, zip_nil2, zip_cons, w_range, tg_nm, tg_tp2, wipe_nil, wipe_cons, Nat.reduceLT, tuple_w h.nod]
  cases v with
  | tuple ds =>
    obtain ⟨j, rfl, hl, hw⟩ := wf_tup h
    have hj : j ≤ 40 := by omega
    rcases ds with _ | ⟨a, _ | ⟨b, _ | ⟨c, _ | ⟨d, r⟩⟩⟩⟩
    · simp [wp_ok, wp_okD, wp_bind, w_var, w_varV, w_c, w_bin, w_un, w_nil, w_cons, w_args, w_boolV, w_tOf, w_fAnd, w_fOr, w_fNot, w_eAnd, w_eOr, w_eIf, w_chain, w_optV, w_oNone, w_oSome, w_cut, o_cutT, o_cutL, w_pass, w_ret, w_if, w_seqV, w_seqR, w_seq, w_asgV, w_asg, w_gNm, w_gTp, w_gNl, w_gCn, w_par2V, w_par2, w_set, w_body, w_endD, w_endN, w_for, w_forN, w_loopN, w_loopR, w_forC, o_add, o_addB, o_sub, o_ord, o_lt, o_le, o_gt, o_ge, o_eqI, o_neI, o_eqB, o_not, o_neg, o_len_t, o_len_l, o_len_f, datL_nil, datL_cons, startR, List.map_cons, List.map_nil, List.length_cons, List.length_nil, List.replicate_succ, List.replicate_zero, List.cons_append, List.nil_append, List.getElem?_cons_zero, List.getElem?_cons_succ, List.set_cons_zero, List.set_cons_succ, List.take_length, Option.map_some, Option.map_none, List.append_nil, Nat.sub_self, w_idxV, w_idx_t, w_idx_l, w_idx_f, at0, at1, at2, cut1, w_call, w_tup, w_lst, Nat.reduceSub, Nat.reduceAdd, Nat.reduceLeDiff, if_true, reduceIte, Bool.not_true, Bool.not_false, Bool.false_eq_true, reduceCtorEq, w_isT, w_comp, w_datV, w_compN, w_rhoV, w_compC, w_okT, w_any, w_any_t, w_any_l, w_any_f, w_enum, w_enum_t, w_enum_l, w_zip, w_zip_t, w_zip_l, zip_nil, zip_nil2, zip_cons, w_range, tg_nm, tg_tp2, wipe_nil, wipe_cons, Nat.reduceLT, tp, row]
    · simp [wp_ok, wp_okD, wp_bind, w_var, w_varV, w_c, w_bin, w_un, w_nil, w_cons, w_args, w_boolV, w_tOf, w_fAnd, w_fOr, w_fNot, w_eAnd, w_eOr, w_eIf, w_chain, w_optV, w_oNone, w_oSome, w_cut, o_cutT, o_cutL, w_pass, w_ret, w_if, w_seqV, w_seqR, w_seq, w_asgV, w_asg, w_gNm, w_gTp, w_gNl, w_gCn, w_par2V, w_par2, w_set, w_body, w_endD, w_endN, w_for, w_forN, w_loopN, w_loopR, w_forC, o_add, o_addB, o_sub, o_ord, o_lt, o_le, o_gt, o_ge, o_eqI, o_neI, o_eqB, o_not, o_neg, o_len_t, o_len_l, o_len_f, datL_nil, datL_cons, startR, List.map_cons, List.map_nil, List.length_cons, List.length_nil, List.replicate_succ, List.replicate_zero, List.cons_append, List.nil_append, List.getElem?_cons_zero, List.getElem?_cons_succ, List.set_cons_zero, List.set_cons_succ, List.take_length, Option.map_some, Option.map_none, List.append_nil, Nat.sub_self, w_idxV, w_idx_t, w_idx_l, w_idx_f, at0, at1, at2, cut1, w_call, w_tup, w_lst, Nat.reduceSub, Nat.reduceAdd, Nat.reduceLeDiff, if_true, reduceIte, Bool.not_true, Bool.not_false, Bool.false_eq_true, reduceCtorEq, w_isT, w_comp, w_datV, w_compN, w_rhoV, w_compC, w_okT, w_any, w_any_t, w_any_l, w_any_f, w_enum, w_enum_t, w_enum_l, w_zip, w_zip_t, w_zip_l, zip_nil, zip_nil2, zip_cons, w_range, tg_nm, tg_tp2, wipe_nil, wipe_cons, Nat.reduceLT, tp, row]
    · have ha := hw a (by simp)
      have hb := hw b (by simp)
      have e1 : tp (.tuple [a, b]) 2 3 = true := by simp [tp]
      rw [e1]
      simp only [wp_ok, wp_okD, wp_bind, w_var, w_varV, w_c, w_bin, w_un, w_nil, w_cons, w_args, w_boolV, w_tOf, w_fAnd, w_fOr, w_fNot, w_eAnd, w_eOr, w_eIf, w_chain, w_optV, w_oNone, w_oSome, w_cut, o_cutT, o_cutL, w_pass, w_ret, w_if, w_seqV, w_seqR, w_seq, w_asgV, w_asg, w_gNm, w_gTp, w_gNl, w_gCn, w_par2V, w_par2, w_set, w_body, w_endD, w_endN, w_for, w_forN, w_loopN, w_loopR, w_forC, o_add, o_addB, o_sub, o_ord, o_lt, o_le, o_gt, o_ge, o_eqI, o_neI, o_eqB, o_not, o_neg, o_len_t, o_len_l, o_len_f, datL_nil, datL_cons, startR, List.map_cons, List.map_nil, List.length_cons, List.length_nil, List.replicate_succ, List.replicate_zero, List.cons_append, List.nil_append, List.getElem?_cons_zero, List.getElem?_cons_succ, List.set_cons_zero, List.set_cons_succ, List.take_length, Option.map_some, Option.map_none, List.append_nil, Nat.sub_self, w_idxV, w_idx_t, w_idx_l, w_idx_f, at0, at1, at2, cut1, w_call, w_tup, w_lst, Nat.reduceSub, Nat.reduceAdd, Nat.reduceLeDiff, if_true, reduceIte, Bool.not_true, Bool.not_false, Bool.false_eq_true, reduceCtorEq, w_isT, w_comp, w_datV, w_compN, w_rhoV, w_compC, w_okT, w_any, w_any_t, w_any_l, w_any_f, w_enum, w_enum_t, w_enum_l, w_zip, w_zip_t, w_zip_l, zip_nil, zip_nil2, zip_cons, w_range, tg_nm, tg_tp2, wipe_nil, wipe_cons, Nat.reduceLT, w_isT ha.nod]
      cases a with
      | str w =>
        have e2 : isT (.str w) "str" = true := rfl
        simp only [e2, wp_ok, wp_okD, wp_bind, w_var, w_varV, w_c, w_bin, w_un, w_nil, w_cons, w_args, w_boolV, w_tOf, w_fAnd, w_fOr, w_fNot, w_eAnd, w_eOr, w_eIf, w_chain, w_optV, w_oNone, w_oSome, w_cut, o_cutT, o_cutL, w_pass, w_ret, w_if, w_seqV, w_seqR, w_seq, w_asgV, w_asg, w_gNm, w_gTp, w_gNl, w_gCn, w_par2V, w_par2, w_set, w_body, w_endD, w_endN, w_for, w_forN, w_loopN, w_loopR, w_forC, o_add, o_addB, o_sub, o_ord, o_lt, o_le, o_gt, o_ge, o_eqI, o_neI, o_eqB, o_not, o_neg, o_len_t, o_len_l, o_len_f, datL_nil, datL_cons, startR, List.map_cons, List.map_nil, List.length_cons, List.length_nil, List.replicate_succ, List.replicate_zero, List.cons_append, List.nil_append, List.getElem?_cons_zero, List.getElem?_cons_succ, List.set_cons_zero, List.set_cons_succ, List.take_length, Option.map_some, Option.map_none, List.append_nil, Nat.sub_self, w_idxV, w_idx_t, w_idx_l, w_idx_f, at0, at1, at2, cut1, w_call, w_tup, w_lst, Nat.reduceSub, Nat.reduceAdd, Nat.reduceLeDiff, if_true, reduceIte, Bool.not_true, Bool.not_false, Bool.false_eq_true, reduceCtorEq, w_isT, w_comp, w_datV, w_compN, w_rhoV, w_compC, w_okT, w_any, w_any_t, w_any_l, w_any_f, w_enum, w_enum_t, w_enum_l, w_zip, w_zip_t, w_zip_l, zip_nil, zip_nil2, zip_cons, w_range, tg_nm, tg_tp2, wipe_nil, wipe_cons, Nat.reduceLT, w_eqS ha s1, w_eqS ha s2, row]
        cases q1 : PyData.eqv (.str w) (.str "write") with
        | true => simp [wp_ok, wp_okD, wp_bind, w_var, w_varV, w_c, w_bin, w_un, w_nil, w_cons, w_args, w_boolV, w_tOf, w_fAnd, w_fOr, w_fNot, w_eAnd, w_eOr, w_eIf, w_chain, w_optV, w_oNone, w_oSome, w_cut, o_cutT, o_cutL, w_pass, w_ret, w_if, w_seqV, w_seqR, w_seq, w_asgV, w_asg, w_gNm, w_gTp, w_gNl, w_gCn, w_par2V, w_par2, w_set, w_body, w_endD, w_endN, w_for, w_forN, w_loopN, w_loopR, w_forC, o_add, o_addB, o_sub, o_ord, o_lt, o_le, o_gt, o_ge, o_eqI, o_neI, o_eqB, o_not, o_neg, o_len_t, o_len_l, o_len_f, datL_nil, datL_cons, startR, List.map_cons, List.map_nil, List.length_cons, List.length_nil, List.replicate_succ, List.replicate_zero, List.cons_append, List.nil_append, List.getElem?_cons_zero, List.getElem?_cons_succ, List.set_cons_zero, List.set_cons_succ, List.take_length, Option.map_some, Option.map_none, List.append_nil, Nat.sub_self, w_idxV, w_idx_t, w_idx_l, w_idx_f, at0, at1, at2, cut1, w_call, w_tup, w_lst, Nat.reduceSub, Nat.reduceAdd, Nat.reduceLeDiff, if_true, reduceIte, Bool.not_true, Bool.not_false, Bool.false_eq_true, reduceCtorEq, w_isT, w_comp, w_datV, w_compN, w_rhoV, w_compC, w_okT, w_any, w_any_t, w_any_l, w_any_f, w_enum, w_enum_t, w_enum_l, w_zip, w_zip_t, w_zip_l, zip_nil, zip_nil2, zip_cons, w_range, tg_nm, tg_tp2, wipe_nil, wipe_cons, Nat.reduceLT, good_pat_w hj hm hb]
        | false =>
          simp only [wp_ok, wp_okD, wp_bind, w_var, w_varV, w_c, w_bin, w_un, w_nil, w_cons, w_args, w_boolV, w_tOf, w_fAnd, w_fOr, w_fNot, w_eAnd, w_eOr, w_eIf, w_chain, w_optV, w_oNone, w_oSome, w_cut, o_cutT, o_cutL, w_pass, w_ret, w_if, w_seqV, w_seqR, w_seq, w_asgV, w_asg, w_gNm, w_gTp, w_gNl, w_gCn, w_par2V, w_par2, w_set, w_body, w_endD, w_endN, w_for, w_forN, w_loopN, w_loopR, w_forC, o_add, o_addB, o_sub, o_ord, o_lt, o_le, o_gt, o_ge, o_eqI, o_neI, o_eqB, o_not, o_neg, o_len_t, o_len_l, o_len_f, datL_nil, datL_cons, startR, List.map_cons, List.map_nil, List.length_cons, List.length_nil, List.replicate_succ, List.replicate_zero, List.cons_append, List.nil_append, List.getElem?_cons_zero, List.getElem?_cons_succ, List.set_cons_zero, List.set_cons_succ, List.take_length, Option.map_some, Option.map_none, List.append_nil, Nat.sub_self, w_idxV, w_idx_t, w_idx_l, w_idx_f, at0, at1, at2, cut1, w_call, w_tup, w_lst, Nat.reduceSub, Nat.reduceAdd, Nat.reduceLeDiff, if_true, reduceIte, Bool.not_true, Bool.not_false, Bool.false_eq_true, reduceCtorEq, w_isT, w_comp, w_datV, w_compN, w_rhoV, w_compC, w_okT, w_any, w_any_t, w_any_l, w_any_f, w_enum, w_enum_t, w_enum_l, w_zip, w_zip_t, w_zip_l, zip_nil, zip_nil2, zip_cons, w_range, tg_nm, tg_tp2, wipe_nil, wipe_cons, Nat.reduceLT, number_w hb.nod]
          cases q2 : nm b 0 (k - 1) with
          | false => simp [wp_ok, wp_okD, wp_bind, w_var, w_varV, w_c, w_bin, w_un, w_nil, w_cons, w_args, w_boolV, w_tOf, w_fAnd, w_fOr, w_fNot, w_eAnd, w_eOr, w_eIf, w_chain, w_optV, w_oNone, w_oSome, w_cut, o_cutT, o_cutL, w_pass, w_ret, w_if, w_seqV, w_seqR, w_seq, w_asgV, w_asg, w_gNm, w_gTp, w_gNl, w_gCn, w_par2V, w_par2, w_set, w_body, w_endD, w_endN, w_for, w_forN, w_loopN, w_loopR, w_forC, o_add, o_addB, o_sub, o_ord, o_lt, o_le, o_gt, o_ge, o_eqI, o_neI, o_eqB, o_not, o_neg, o_len_t, o_len_l, o_len_f, datL_nil, datL_cons, startR, List.map_cons, List.map_nil, List.length_cons, List.length_nil, List.replicate_succ, List.replicate_zero, List.cons_append, List.nil_append, List.getElem?_cons_zero, List.getElem?_cons_succ, List.set_cons_zero, List.set_cons_succ, List.take_length, Option.map_some, Option.map_none, List.append_nil, Nat.sub_self, w_idxV, w_idx_t, w_idx_l, w_idx_f, at0, at1, at2, cut1, w_call, w_tup, w_lst, Nat.reduceSub, Nat.reduceAdd, Nat.reduceLeDiff, if_true, reduceIte, Bool.not_true, Bool.not_false, Bool.false_eq_true, reduceCtorEq, w_isT, w_comp, w_datV, w_compN, w_rhoV, w_compC, w_okT, w_any, w_any_t, w_any_l, w_any_f, w_enum, w_enum_t, w_enum_l, w_zip, w_zip_t, w_zip_l, zip_nil, zip_nil2, zip_cons, w_range, tg_nm, tg_tp2, wipe_nil, wipe_cons, Nat.reduceLT]
          | true =>
            simp only [wp_ok, wp_okD, wp_bind, w_var, w_varV, w_c, w_bin, w_un, w_nil, w_cons, w_args, w_boolV, w_tOf, w_fAnd, w_fOr, w_fNot, w_eAnd, w_eOr, w_eIf, w_chain, w_optV, w_oNone, w_oSome, w_cut, o_cutT, o_cutL, w_pass, w_ret, w_if, w_seqV, w_seqR, w_seq, w_asgV, w_asg, w_gNm, w_gTp, w_gNl, w_gCn, w_par2V, w_par2, w_set, w_body, w_endD, w_endN, w_for, w_forN, w_loopN, w_loopR, w_forC, o_add, o_addB, o_sub, o_ord, o_lt, o_le, o_gt, o_ge, o_eqI, o_neI, o_eqB, o_not, o_neg, o_len_t, o_len_l, o_len_f, datL_nil, datL_cons, startR, List.map_cons, List.map_nil, List.length_cons, List.length_nil, List.replicate_succ, List.replicate_zero, List.cons_append, List.nil_append, List.getElem?_cons_zero, List.getElem?_cons_succ, List.set_cons_zero, List.set_cons_succ, List.take_length, Option.map_some, Option.map_none, List.append_nil, Nat.sub_self, w_idxV, w_idx_t, w_idx_l, w_idx_f, at0, at1, at2, cut1, w_call, w_tup, w_lst, Nat.reduceSub, Nat.reduceAdd, Nat.reduceLeDiff, if_true, reduceIte, Bool.not_true, Bool.not_false, Bool.false_eq_true, reduceCtorEq, w_isT, w_comp, w_datV, w_compN, w_rhoV, w_compC, w_okT, w_any, w_any_t, w_any_l, w_any_f, w_enum, w_enum_t, w_enum_l, w_zip, w_zip_t, w_zip_l, zip_nil, zip_nil2, zip_cons, w_range, tg_nm, tg_tp2, wipe_nil, wipe_cons, Nat.reduceLT, w_eqS ha s2]
            cases q3 : PyData.eqv (.str w) (.str "back") <;> simp [wp_ok, wp_okD, wp_bind, w_var, w_varV, w_c, w_bin, w_un, w_nil, w_cons, w_args, w_boolV, w_tOf, w_fAnd, w_fOr, w_fNot, w_eAnd, w_eOr, w_eIf, w_chain, w_optV, w_oNone, w_oSome, w_cut, o_cutT, o_cutL, w_pass, w_ret, w_if, w_seqV, w_seqR, w_seq, w_asgV, w_asg, w_gNm, w_gTp, w_gNl, w_gCn, w_par2V, w_par2, w_set, w_body, w_endD, w_endN, w_for, w_forN, w_loopN, w_loopR, w_forC, o_add, o_addB, o_sub, o_ord, o_lt, o_le, o_gt, o_ge, o_eqI, o_neI, o_eqB, o_not, o_neg, o_len_t, o_len_l, o_len_f, datL_nil, datL_cons, startR, List.map_cons, List.map_nil, List.length_cons, List.length_nil, List.replicate_succ, List.replicate_zero, List.cons_append, List.nil_append, List.getElem?_cons_zero, List.getElem?_cons_succ, List.set_cons_zero, List.set_cons_succ, List.take_length, Option.map_some, Option.map_none, List.append_nil, Nat.sub_self, w_idxV, w_idx_t, w_idx_l, w_idx_f, at0, at1, at2, cut1, w_call, w_tup, w_lst, Nat.reduceSub, Nat.reduceAdd, Nat.reduceLeDiff, if_true, reduceIte, Bool.not_true, Bool.not_false, Bool.false_eq_true, reduceCtorEq, w_isT, w_comp, w_datV, w_compN, w_rhoV, w_compC, w_okT, w_any, w_any_t, w_any_l, w_any_f, w_enum, w_enum_t, w_enum_l, w_zip, w_zip_t, w_zip_l, zip_nil, zip_nil2, zip_cons, w_range, tg_nm, tg_tp2, wipe_nil, wipe_cons, Nat.reduceLT]
      | _ => simp [wp_ok, wp_okD, wp_bind, w_var, w_varV, w_c, w_bin, w_un, w_nil, w_cons, w_args, w_boolV, w_tOf, w_fAnd, w_fOr, w_fNot, w_eAnd, w_eOr, w_eIf, w_chain, w_optV, w_oNone, w_oSome, w_cut, o_cutT, o_cutL, w_pass, w_ret, w_if, w_seqV, w_seqR, w_seq, w_asgV, w_asg, w_gNm, w_gTp, w_gNl, w_gCn, w_par2V, w_par2, w_set, w_body, w_endD, w_endN, w_for, w_forN, w_loopN, w_loopR, w_forC, o_add, o_addB, o_sub, o_ord, o_lt, o_le, o_gt, o_ge, o_eqI, o_neI, o_eqB, o_not, o_neg, o_len_t, o_len_l, o_len_f, datL_nil, datL_cons, startR, List.map_cons, List.map_nil, List.length_cons, List.length_nil, List.replicate_succ, List.replicate_zero, List.cons_append, List.nil_append, List.getElem?_cons_zero, List.getElem?_cons_succ, List.set_cons_zero, List.set_cons_succ, List.take_length, Option.map_some, Option.map_none, List.append_nil, Nat.sub_self, w_idxV, w_idx_t, w_idx_l, w_idx_f, at0, at1, at2, cut1, w_call, w_tup, w_lst, Nat.reduceSub, Nat.reduceAdd, Nat.reduceLeDiff, if_true, reduceIte, Bool.not_true, Bool.not_false, Bool.false_eq_true, reduceCtorEq, w_isT, w_comp, w_datV, w_compN, w_rhoV, w_compC, w_okT, w_any, w_any_t, w_any_l, w_any_f, w_enum, w_enum_t, w_enum_l, w_zip, w_zip_t, w_zip_l, zip_nil, zip_nil2, zip_cons, w_range, tg_nm, tg_tp2, wipe_nil, wipe_cons, Nat.reduceLT, isT, row]
    · have ha := hw a (by simp)
      have hb := hw b (by simp)
      have hc := hw c (by simp)
      have e1 : tp (.tuple [a, b, c]) 2 3 = true := by simp [tp]
      rw [e1]
      simp only [wp_ok, wp_okD, wp_bind, w_var, w_varV, w_c, w_bin, w_un, w_nil, w_cons, w_args, w_boolV, w_tOf, w_fAnd, w_fOr, w_fNot, w_eAnd, w_eOr, w_eIf, w_chain, w_optV, w_oNone, w_oSome, w_cut, o_cutT, o_cutL, w_pass, w_ret, w_if, w_seqV, w_seqR, w_seq, w_asgV, w_asg, w_gNm, w_gTp, w_gNl, w_gCn, w_par2V, w_par2, w_set, w_body, w_endD, w_endN, w_for, w_forN, w_loopN, w_loopR, w_forC, o_add, o_addB, o_sub, o_ord, o_lt, o_le, o_gt, o_ge, o_eqI, o_neI, o_eqB, o_not, o_neg, o_len_t, o_len_l, o_len_f, datL_nil, datL_cons, startR, List.map_cons, List.map_nil, List.length_cons, List.length_nil, List.replicate_succ, List.replicate_zero, List.cons_append, List.nil_append, List.getElem?_cons_zero, List.getElem?_cons_succ, List.set_cons_zero, List.set_cons_succ, List.take_length, Option.map_some, Option.map_none, List.append_nil, Nat.sub_self, w_idxV, w_idx_t, w_idx_l, w_idx_f, at0, at1, at2, cut1, w_call, w_tup, w_lst, Nat.reduceSub, Nat.reduceAdd, Nat.reduceLeDiff, if_true, reduceIte, Bool.not_true, Bool.not_false, Bool.false_eq_true, reduceCtorEq, w_isT, w_comp, w_datV, w_compN, w_rhoV, w_compC, w_okT, w_any, w_any_t, w_any_l, w_any_f, w_enum, w_enum_t, w_enum_l, w_zip, w_zip_t, w_zip_l, zip_nil, zip_nil2, zip_cons, w_range, tg_nm, tg_tp2, wipe_nil, wipe_cons, Nat.reduceLT, w_isT ha.nod]
      cases a with
      | str w =>
        have e2 : isT (.str w) "str" = true := rfl
        simp only [e2, wp_ok, wp_okD, wp_bind, w_var, w_varV, w_c, w_bin, w_un, w_nil, w_cons, w_args, w_boolV, w_tOf, w_fAnd, w_fOr, w_fNot, w_eAnd, w_eOr, w_eIf, w_chain, w_optV, w_oNone, w_oSome, w_cut, o_cutT, o_cutL, w_pass, w_ret, w_if, w_seqV, w_seqR, w_seq, w_asgV, w_asg, w_gNm, w_gTp, w_gNl, w_gCn, w_par2V, w_par2, w_set, w_body, w_endD, w_endN, w_for, w_forN, w_loopN, w_loopR, w_forC, o_add, o_addB, o_sub, o_ord, o_lt, o_le, o_gt, o_ge, o_eqI, o_neI, o_eqB, o_not, o_neg, o_len_t, o_len_l, o_len_f, datL_nil, datL_cons, startR, List.map_cons, List.map_nil, List.length_cons, List.length_nil, List.replicate_succ, List.replicate_zero, List.cons_append, List.nil_append, List.getElem?_cons_zero, List.getElem?_cons_succ, List.set_cons_zero, List.set_cons_succ, List.take_length, Option.map_some, Option.map_none, List.append_nil, Nat.sub_self, w_idxV, w_idx_t, w_idx_l, w_idx_f, at0, at1, at2, cut1, w_call, w_tup, w_lst, Nat.reduceSub, Nat.reduceAdd, Nat.reduceLeDiff, if_true, reduceIte, Bool.not_true, Bool.not_false, Bool.false_eq_true, reduceCtorEq, w_isT, w_comp, w_datV, w_compN, w_rhoV, w_compC, w_okT, w_any, w_any_t, w_any_l, w_any_f, w_enum, w_enum_t, w_enum_l, w_zip, w_zip_t, w_zip_l, zip_nil, zip_nil2, zip_cons, w_range, tg_nm, tg_tp2, wipe_nil, wipe_cons, Nat.reduceLT, w_eqS ha s1, w_eqS ha s2, row]
        cases q1 : PyData.eqv (.str w) (.str "write") with
        | true => simp [wp_ok, wp_okD, wp_bind, w_var, w_varV, w_c, w_bin, w_un, w_nil, w_cons, w_args, w_boolV, w_tOf, w_fAnd, w_fOr, w_fNot, w_eAnd, w_eOr, w_eIf, w_chain, w_optV, w_oNone, w_oSome, w_cut, o_cutT, o_cutL, w_pass, w_ret, w_if, w_seqV, w_seqR, w_seq, w_asgV, w_asg, w_gNm, w_gTp, w_gNl, w_gCn, w_par2V, w_par2, w_set, w_body, w_endD, w_endN, w_for, w_forN, w_loopN, w_loopR, w_forC, o_add, o_addB, o_sub, o_ord, o_lt, o_le, o_gt, o_ge, o_eqI, o_neI, o_eqB, o_not, o_neg, o_len_t, o_len_l, o_len_f, datL_nil, datL_cons, startR, List.map_cons, List.map_nil, List.length_cons, List.length_nil, List.replicate_succ, List.replicate_zero, List.cons_append, List.nil_append, List.getElem?_cons_zero, List.getElem?_cons_succ, List.set_cons_zero, List.set_cons_succ, List.take_length, Option.map_some, Option.map_none, List.append_nil, Nat.sub_self, w_idxV, w_idx_t, w_idx_l, w_idx_f, at0, at1, at2, cut1, w_call, w_tup, w_lst, Nat.reduceSub, Nat.reduceAdd, Nat.reduceLeDiff, if_true, reduceIte, Bool.not_true, Bool.not_false, Bool.false_eq_true, reduceCtorEq, w_isT, w_comp, w_datV, w_compN, w_rhoV, w_compC, w_okT, w_any, w_any_t, w_any_l, w_any_f, w_enum, w_enum_t, w_enum_l, w_zip, w_zip_t, w_zip_l, zip_nil, zip_nil2, zip_cons, w_range, tg_nm, tg_tp2, wipe_nil, wipe_cons, Nat.reduceLT]
        | false =>
          simp only [wp_ok, wp_okD, wp_bind, w_var, w_varV, w_c, w_bin, w_un, w_nil, w_cons, w_args, w_boolV, w_tOf, w_fAnd, w_fOr, w_fNot, w_eAnd, w_eOr, w_eIf, w_chain, w_optV, w_oNone, w_oSome, w_cut, o_cutT, o_cutL, w_pass, w_ret, w_if, w_seqV, w_seqR, w_seq, w_asgV, w_asg, w_gNm, w_gTp, w_gNl, w_gCn, w_par2V, w_par2, w_set, w_body, w_endD, w_endN, w_for, w_forN, w_loopN, w_loopR, w_forC, o_add, o_addB, o_sub, o_ord, o_lt, o_le, o_gt, o_ge, o_eqI, o_neI, o_eqB, o_not, o_neg, o_len_t, o_len_l, o_len_f, datL_nil, datL_cons, startR, List.map_cons, List.map_nil, List.length_cons, List.length_nil, List.replicate_succ, List.replicate_zero, List.cons_append, List.nil_append, List.getElem?_cons_zero, List.getElem?_cons_succ, List.set_cons_zero, List.set_cons_succ, List.take_length, Option.map_some, Option.map_none, List.append_nil, Nat.sub_self, w_idxV, w_idx_t, w_idx_l, w_idx_f, at0, at1, at2, cut1, w_call, w_tup, w_lst, Nat.reduceSub, Nat.reduceAdd, Nat.reduceLeDiff, if_true, reduceIte, Bool.not_true, Bool.not_false, Bool.false_eq_true, reduceCtorEq, w_isT, w_comp, w_datV, w_compN, w_rhoV, w_compC, w_okT, w_any, w_any_t, w_any_l, w_any_f, w_enum, w_enum_t, w_enum_l, w_zip, w_zip_t, w_zip_l, zip_nil, zip_nil2, zip_cons, w_range, tg_nm, tg_tp2, wipe_nil, wipe_cons, Nat.reduceLT, number_w hb.nod]
          cases q2 : nm b 0 (k - 1) with
          | false => simp [wp_ok, wp_okD, wp_bind, w_var, w_varV, w_c, w_bin, w_un, w_nil, w_cons, w_args, w_boolV, w_tOf, w_fAnd, w_fOr, w_fNot, w_eAnd, w_eOr, w_eIf, w_chain, w_optV, w_oNone, w_oSome, w_cut, o_cutT, o_cutL, w_pass, w_ret, w_if, w_seqV, w_seqR, w_seq, w_asgV, w_asg, w_gNm, w_gTp, w_gNl, w_gCn, w_par2V, w_par2, w_set, w_body, w_endD, w_endN, w_for, w_forN, w_loopN, w_loopR, w_forC, o_add, o_addB, o_sub, o_ord, o_lt, o_le, o_gt, o_ge, o_eqI, o_neI, o_eqB, o_not, o_neg, o_len_t, o_len_l, o_len_f, datL_nil, datL_cons, startR, List.map_cons, List.map_nil, List.length_cons, List.length_nil, List.replicate_succ, List.replicate_zero, List.cons_append, List.nil_append, List.getElem?_cons_zero, List.getElem?_cons_succ, List.set_cons_zero, List.set_cons_succ, List.take_length, Option.map_some, Option.map_none, List.append_nil, Nat.sub_self, w_idxV, w_idx_t, w_idx_l, w_idx_f, at0, at1, at2, cut1, w_call, w_tup, w_lst, Nat.reduceSub, Nat.reduceAdd, Nat.reduceLeDiff, if_true, reduceIte, Bool.not_true, Bool.not_false, Bool.false_eq_true, reduceCtorEq, w_isT, w_comp, w_datV, w_compN, w_rhoV, w_compC, w_okT, w_any, w_any_t, w_any_l, w_any_f, w_enum, w_enum_t, w_enum_l, w_zip, w_zip_t, w_zip_l, zip_nil, zip_nil2, zip_cons, w_range, tg_nm, tg_tp2, wipe_nil, wipe_cons, Nat.reduceLT]
          | true =>
            simp only [wp_ok, wp_okD, wp_bind, w_var, w_varV, w_c, w_bin, w_un, w_nil, w_cons, w_args, w_boolV, w_tOf, w_fAnd, w_fOr, w_fNot, w_eAnd, w_eOr, w_eIf, w_chain, w_optV, w_oNone, w_oSome, w_cut, o_cutT, o_cutL, w_pass, w_ret, w_if, w_seqV, w_seqR, w_seq, w_asgV, w_asg, w_gNm, w_gTp, w_gNl, w_gCn, w_par2V, w_par2, w_set, w_body, w_endD, w_endN, w_for, w_forN, w_loopN, w_loopR, w_forC, o_add, o_addB, o_sub, o_ord, o_lt, o_le, o_gt, o_ge, o_eqI, o_neI, o_eqB, o_not, o_neg, o_len_t, o_len_l, o_len_f, datL_nil, datL_cons, startR, List.map_cons, List.map_nil, List.length_cons, List.length_nil, List.replicate_succ, List.replicate_zero, List.cons_append, List.nil_append, List.getElem?_cons_zero, List.getElem?_cons_succ, List.set_cons_zero, List.set_cons_succ, List.take_length, Option.map_some, Option.map_none, List.append_nil, Nat.sub_self, w_idxV, w_idx_t, w_idx_l, w_idx_f, at0, at1, at2, cut1, w_call, w_tup, w_lst, Nat.reduceSub, Nat.reduceAdd, Nat.reduceLeDiff, if_true, reduceIte, Bool.not_true, Bool.not_false, Bool.false_eq_true, reduceCtorEq, w_isT, w_comp, w_datV, w_compN, w_rhoV, w_compC, w_okT, w_any, w_any_t, w_any_l, w_any_f, w_enum, w_enum_t, w_enum_l, w_zip, w_zip_t, w_zip_l, zip_nil, zip_nil2, zip_cons, w_range, tg_nm, tg_tp2, wipe_nil, wipe_cons, Nat.reduceLT, w_eqS ha s2]
            cases q3 : PyData.eqv (.str w) (.str "back") with
            | true => simp [wp_ok, wp_okD, wp_bind, w_var, w_varV, w_c, w_bin, w_un, w_nil, w_cons, w_args, w_boolV, w_tOf, w_fAnd, w_fOr, w_fNot, w_eAnd, w_eOr, w_eIf, w_chain, w_optV, w_oNone, w_oSome, w_cut, o_cutT, o_cutL, w_pass, w_ret, w_if, w_seqV, w_seqR, w_seq, w_asgV, w_asg, w_gNm, w_gTp, w_gNl, w_gCn, w_par2V, w_par2, w_set, w_body, w_endD, w_endN, w_for, w_forN, w_loopN, w_loopR, w_forC, o_add, o_addB, o_sub, o_ord, o_lt, o_le, o_gt, o_ge, o_eqI, o_neI, o_eqB, o_not, o_neg, o_len_t, o_len_l, o_len_f, datL_nil, datL_cons, startR, List.map_cons, List.map_nil, List.length_cons, List.length_nil, List.replicate_succ, List.replicate_zero, List.cons_append, List.nil_append, List.getElem?_cons_zero, List.getElem?_cons_succ, List.set_cons_zero, List.set_cons_succ, List.take_length, Option.map_some, Option.map_none, List.append_nil, Nat.sub_self, w_idxV, w_idx_t, w_idx_l, w_idx_f, at0, at1, at2, cut1, w_call, w_tup, w_lst, Nat.reduceSub, Nat.reduceAdd, Nat.reduceLeDiff, if_true, reduceIte, Bool.not_true, Bool.not_false, Bool.false_eq_true, reduceCtorEq, w_isT, w_comp, w_datV, w_compN, w_rhoV, w_compC, w_okT, w_any, w_any_t, w_any_l, w_any_f, w_enum, w_enum_t, w_enum_l, w_zip, w_zip_t, w_zip_l, zip_nil, zip_nil2, zip_cons, w_range, tg_nm, tg_tp2, wipe_nil, wipe_cons, Nat.reduceLT]
            | false =>
              have e0 : (decide (((2 : Nat) : Int) = 1)) = false := by decide
              simp only [wp_ok, wp_okD, wp_bind, w_var, w_varV, w_c, w_bin, w_un, w_nil, w_cons, w_args, w_boolV, w_tOf, w_fAnd, w_fOr, w_fNot, w_eAnd, w_eOr, w_eIf, w_chain, w_optV, w_oNone, w_oSome, w_cut, o_cutT, o_cutL, w_pass, w_ret, w_if, w_seqV, w_seqR, w_seq, w_asgV, w_asg, w_gNm, w_gTp, w_gNl, w_gCn, w_par2V, w_par2, w_set, w_body, w_endD, w_endN, w_for, w_forN, w_loopN, w_loopR, w_forC, o_add, o_addB, o_sub, o_ord, o_lt, o_le, o_gt, o_ge, o_eqI, o_neI, o_eqB, o_not, o_neg, o_len_t, o_len_l, o_len_f, datL_nil, datL_cons, startR, List.map_cons, List.map_nil, List.length_cons, List.length_nil, List.replicate_succ, List.replicate_zero, List.cons_append, List.nil_append, List.getElem?_cons_zero, List.getElem?_cons_succ, List.set_cons_zero, List.set_cons_succ, List.take_length, Option.map_some, Option.map_none, List.append_nil, Nat.sub_self, w_idxV, w_idx_t, w_idx_l, w_idx_f, at0, at1, at2, cut1, w_call, w_tup, w_lst, Nat.reduceSub, Nat.reduceAdd, Nat.reduceLeDiff, if_true, reduceIte, Bool.not_true, Bool.not_false, Bool.false_eq_true, reduceCtorEq, w_isT, w_comp, w_datV, w_compN, w_rhoV, w_compC, w_okT, w_any, w_any_t, w_any_l, w_any_f, w_enum, w_enum_t, w_enum_l, w_zip, w_zip_t, w_zip_l, zip_nil, zip_nil2, zip_cons, w_range, tg_nm, tg_tp2, wipe_nil, wipe_cons, Nat.reduceLT, w_mem3, e0]
              cases q4 : mem3 w with
              | true => simp [wp_ok, wp_okD, wp_bind, w_var, w_varV, w_c, w_bin, w_un, w_nil, w_cons, w_args, w_boolV, w_tOf, w_fAnd, w_fOr, w_fNot, w_eAnd, w_eOr, w_eIf, w_chain, w_optV, w_oNone, w_oSome, w_cut, o_cutT, o_cutL, w_pass, w_ret, w_if, w_seqV, w_seqR, w_seq, w_asgV, w_asg, w_gNm, w_gTp, w_gNl, w_gCn, w_par2V, w_par2, w_set, w_body, w_endD, w_endN, w_for, w_forN, w_loopN, w_loopR, w_forC, o_add, o_addB, o_sub, o_ord, o_lt, o_le, o_gt, o_ge, o_eqI, o_neI, o_eqB, o_not, o_neg, o_len_t, o_len_l, o_len_f, datL_nil, datL_cons, startR, List.map_cons, List.map_nil, List.length_cons, List.length_nil, List.replicate_succ, List.replicate_zero, List.cons_append, List.nil_append, List.getElem?_cons_zero, List.getElem?_cons_succ, List.set_cons_zero, List.set_cons_succ, List.take_length, Option.map_some, Option.map_none, List.append_nil, Nat.sub_self, w_idxV, w_idx_t, w_idx_l, w_idx_f, at0, at1, at2, cut1, w_call, w_tup, w_lst, Nat.reduceSub, Nat.reduceAdd, Nat.reduceLeDiff, if_true, reduceIte, Bool.not_true, Bool.not_false, Bool.false_eq_true, reduceCtorEq, w_isT, w_comp, w_datV, w_compN, w_rhoV, w_compC, w_okT, w_any, w_any_t, w_any_l, w_any_f, w_enum, w_enum_t, w_enum_l, w_zip, w_zip_t, w_zip_l, zip_nil, zip_nil2, zip_cons, w_range, tg_nm, tg_tp2, wipe_nil, wipe_cons, Nat.reduceLT, number_w hc.nod]
              | false =>
                simp only [wp_ok, wp_okD, wp_bind, w_var, w_varV, w_c, w_bin, w_un, w_nil, w_cons, w_args, w_boolV, w_tOf, w_fAnd, w_fOr, w_fNot, w_eAnd, w_eOr, w_eIf, w_chain, w_optV, w_oNone, w_oSome, w_cut, o_cutT, o_cutL, w_pass, w_ret, w_if, w_seqV, w_seqR, w_seq, w_asgV, w_asg, w_gNm, w_gTp, w_gNl, w_gCn, w_par2V, w_par2, w_set, w_body, w_endD, w_endN, w_for, w_forN, w_loopN, w_loopR, w_forC, o_add, o_addB, o_sub, o_ord, o_lt, o_le, o_gt, o_ge, o_eqI, o_neI, o_eqB, o_not, o_neg, o_len_t, o_len_l, o_len_f, datL_nil, datL_cons, startR, List.map_cons, List.map_nil, List.length_cons, List.length_nil, List.replicate_succ, List.replicate_zero, List.cons_append, List.nil_append, List.getElem?_cons_zero, List.getElem?_cons_succ, List.set_cons_zero, List.set_cons_succ, List.take_length, Option.map_some, Option.map_none, List.append_nil, Nat.sub_self, w_idxV, w_idx_t, w_idx_l, w_idx_f, at0, at1, at2, cut1, w_call, w_tup, w_lst, Nat.reduceSub, Nat.reduceAdd, Nat.reduceLeDiff, if_true, reduceIte, Bool.not_true, Bool.not_false, Bool.false_eq_true, reduceCtorEq, w_isT, w_comp, w_datV, w_compN, w_rhoV, w_compC, w_okT, w_any, w_any_t, w_any_l, w_any_f, w_enum, w_enum_t, w_enum_l, w_zip, w_zip_t, w_zip_l, zip_nil, zip_nil2, zip_cons, w_range, tg_nm, tg_tp2, wipe_nil, wipe_cons, Nat.reduceLT, w_eqS ha s3]
                cases q5 : PyData.eqv (.str w) (.str "times") with
                | true => simp [wp_ok, wp_okD, wp_bind, w_var, w_varV, w_c, w_bin, w_un, w_nil, w_cons, w_args, w_boolV, w_tOf, w_fAnd, w_fOr, w_fNot, w_eAnd, w_eOr, w_eIf, w_chain, w_optV, w_oNone, w_oSome, w_cut, o_cutT, o_cutL, w_pass, w_ret, w_if, w_seqV, w_seqR, w_seq, w_asgV, w_asg, w_gNm, w_gTp, w_gNl, w_gCn, w_par2V, w_par2, w_set, w_body, w_endD, w_endN, w_for, w_forN, w_loopN, w_loopR, w_forC, o_add, o_addB, o_sub, o_ord, o_lt, o_le, o_gt, o_ge, o_eqI, o_neI, o_eqB, o_not, o_neg, o_len_t, o_len_l, o_len_f, datL_nil, datL_cons, startR, List.map_cons, List.map_nil, List.length_cons, List.length_nil, List.replicate_succ, List.replicate_zero, List.cons_append, List.nil_append, List.getElem?_cons_zero, List.getElem?_cons_succ, List.set_cons_zero, List.set_cons_succ, List.take_length, Option.map_some, Option.map_none, List.append_nil, Nat.sub_self, w_idxV, w_idx_t, w_idx_l, w_idx_f, at0, at1, at2, cut1, w_call, w_tup, w_lst, Nat.reduceSub, Nat.reduceAdd, Nat.reduceLeDiff, if_true, reduceIte, Bool.not_true, Bool.not_false, Bool.false_eq_true, reduceCtorEq, w_isT, w_comp, w_datV, w_compN, w_rhoV, w_compC, w_okT, w_any, w_any_t, w_any_l, w_any_f, w_enum, w_enum_t, w_enum_l, w_zip, w_zip_t, w_zip_l, zip_nil, zip_nil2, zip_cons, w_range, tg_nm, tg_tp2, wipe_nil, wipe_cons, Nat.reduceLT, number_w hc.nod]
                | false =>
                  simp only [wp_ok, wp_okD, wp_bind, w_var, w_varV, w_c, w_bin, w_un, w_nil, w_cons, w_args, w_boolV, w_tOf, w_fAnd, w_fOr, w_fNot, w_eAnd, w_eOr, w_eIf, w_chain, w_optV, w_oNone, w_oSome, w_cut, o_cutT, o_cutL, w_pass, w_ret, w_if, w_seqV, w_seqR, w_seq, w_asgV, w_asg, w_gNm, w_gTp, w_gNl, w_gCn, w_par2V, w_par2, w_set, w_body, w_endD, w_endN, w_for, w_forN, w_loopN, w_loopR, w_forC, o_add, o_addB, o_sub, o_ord, o_lt, o_le, o_gt, o_ge, o_eqI, o_neI, o_eqB, o_not, o_neg, o_len_t, o_len_l, o_len_f, datL_nil, datL_cons, startR, List.map_cons, List.map_nil, List.length_cons, List.length_nil, List.replicate_succ, List.replicate_zero, List.cons_append, List.nil_append, List.getElem?_cons_zero, List.getElem?_cons_succ, List.set_cons_zero, List.set_cons_succ, List.take_length, Option.map_some, Option.map_none, List.append_nil, Nat.sub_self, w_idxV, w_idx_t, w_idx_l, w_idx_f, at0, at1, at2, cut1, w_call, w_tup, w_lst, Nat.reduceSub, Nat.reduceAdd, Nat.reduceLeDiff, if_true, reduceIte, Bool.not_true, Bool.not_false, Bool.false_eq_true, reduceCtorEq, w_isT, w_comp, w_datV, w_compN, w_rhoV, w_compC, w_okT, w_any, w_any_t, w_any_l, w_any_f, w_enum, w_enum_t, w_enum_l, w_zip, w_zip_t, w_zip_l, zip_nil, zip_nil2, zip_cons, w_range, tg_nm, tg_tp2, wipe_nil, wipe_cons, Nat.reduceLT, w_eqS ha s4]
                  cases q6 : PyData.eqv (.str w) (.str "drop") with
                  | true => simp [wp_ok, wp_okD, wp_bind, w_var, w_varV, w_c, w_bin, w_un, w_nil, w_cons, w_args, w_boolV, w_tOf, w_fAnd, w_fOr, w_fNot, w_eAnd, w_eOr, w_eIf, w_chain, w_optV, w_oNone, w_oSome, w_cut, o_cutT, o_cutL, w_pass, w_ret, w_if, w_seqV, w_seqR, w_seq, w_asgV, w_asg, w_gNm, w_gTp, w_gNl, w_gCn, w_par2V, w_par2, w_set, w_body, w_endD, w_endN, w_for, w_forN, w_loopN, w_loopR, w_forC, o_add, o_addB, o_sub, o_ord, o_lt, o_le, o_gt, o_ge, o_eqI, o_neI, o_eqB, o_not, o_neg, o_len_t, o_len_l, o_len_f, datL_nil, datL_cons, startR, List.map_cons, List.map_nil, List.length_cons, List.length_nil, List.replicate_succ, List.replicate_zero, List.cons_append, List.nil_append, List.getElem?_cons_zero, List.getElem?_cons_succ, List.set_cons_zero, List.set_cons_succ, List.take_length, Option.map_some, Option.map_none, List.append_nil, Nat.sub_self, w_idxV, w_idx_t, w_idx_l, w_idx_f, at0, at1, at2, cut1, w_call, w_tup, w_lst, Nat.reduceSub, Nat.reduceAdd, Nat.reduceLeDiff, if_true, reduceIte, Bool.not_true, Bool.not_false, Bool.false_eq_true, reduceCtorEq, w_isT, w_comp, w_datV, w_compN, w_rhoV, w_compC, w_okT, w_any, w_any_t, w_any_l, w_any_f, w_enum, w_enum_t, w_enum_l, w_zip, w_zip_t, w_zip_l, zip_nil, zip_nil2, zip_cons, w_range, tg_nm, tg_tp2, wipe_nil, wipe_cons, Nat.reduceLT, number_w hc.nod]
                  | false => simp [wp_ok, wp_okD, wp_bind, w_var, w_varV, w_c, w_bin, w_un, w_nil, w_cons, w_args, w_boolV, w_tOf, w_fAnd, w_fOr, w_fNot, w_eAnd, w_eOr, w_eIf, w_chain, w_optV, w_oNone, w_oSome, w_cut, o_cutT, o_cutL, w_pass, w_ret, w_if, w_seqV, w_seqR, w_seq, w_asgV, w_asg, w_gNm, w_gTp, w_gNl, w_gCn, w_par2V, w_par2, w_set, w_body, w_endD, w_endN, w_for, w_forN, w_loopN, w_loopR, w_forC, o_add, o_addB, o_sub, o_ord, o_lt, o_le, o_gt, o_ge, o_eqI, o_neI, o_eqB, o_not, o_neg, o_len_t, o_len_l, o_len_f, datL_nil, datL_cons, startR, List.map_cons, List.map_nil, List.length_cons, List.length_nil, List.replicate_succ, List.replicate_zero, List.cons_append, List.nil_append, List.getElem?_cons_zero, List.getElem?_cons_succ, List.set_cons_zero, List.set_cons_succ, List.take_length, Option.map_some, Option.map_none, List.append_nil, Nat.sub_self, w_idxV, w_idx_t, w_idx_l, w_idx_f, at0, at1, at2, cut1, w_call, w_tup, w_lst, Nat.reduceSub, Nat.reduceAdd, Nat.reduceLeDiff, if_true, reduceIte, Bool.not_true, Bool.not_false, Bool.false_eq_true, reduceCtorEq, w_isT, w_comp, w_datV, w_compN, w_rhoV, w_compC, w_okT, w_any, w_any_t, w_any_l, w_any_f, w_enum, w_enum_t, w_enum_l, w_zip, w_zip_t, w_zip_l, zip_nil, zip_nil2, zip_cons, w_range, tg_nm, tg_tp2, wipe_nil, wipe_cons, Nat.reduceLT]
      | _ => simp [wp_ok, wp_okD, wp_bind, w_var, w_varV, w_c, w_bin, w_un, w_nil, w_cons, w_args, w_boolV, w_tOf, w_fAnd, w_fOr, w_fNot, w_eAnd, w_eOr, w_eIf, w_chain, w_optV, w_oNone, w_oSome, w_cut, o_cutT, o_cutL, w_pass, w_ret, w_if, w_seqV, w_seqR, w_seq, w_asgV, w_asg, w_gNm, w_gTp, w_gNl, w_gCn, w_par2V, w_par2, w_set, w_body, w_endD, w_endN, w_for, w_forN, w_loopN, w_loopR, w_forC, o_add, o_addB, o_sub, o_ord, o_lt, o_le, o_gt, o_ge, o_eqI, o_neI, o_eqB, o_not, o_neg, o_len_t, o_len_l, o_len_f, datL_nil, datL_cons, startR, List.map_cons, List.map_nil, List.length_cons, List.length_nil, List.replicate_succ, List.replicate_zero, List.cons_append, List.nil_append, List.getElem?_cons_zero, List.getElem?_cons_succ, List.set_cons_zero, List.set_cons_succ, List.take_length, Option.map_some, Option.map_none, List.append_nil, Nat.sub_self, w_idxV, w_idx_t, w_idx_l, w_idx_f, at0, at1, at2, cut1, w_call, w_tup, w_lst, Nat.reduceSub, Nat.reduceAdd, Nat.reduceLeDiff, if_true, reduceIte, Bool.not_true, Bool.not_false, Bool.false_eq_true, reduceCtorEq, w_isT, w_comp, w_datV, w_compN, w_rhoV, w_compC, w_okT, w_any, w_any_t, w_any_l, w_any_f, w_enum, w_enum_t, w_enum_l, w_zip, w_zip_t, w_zip_l, zip_nil, zip_nil2, zip_cons, w_range, tg_nm, tg_tp2, wipe_nil, wipe_cons, Nat.reduceLT, isT, row]
    · have e1 : tp (.tuple (a :: b :: c :: d :: r)) 2 3 = false := by
        simp only [tp, List.length_cons, Bool.and_eq_false_iff, decide_eq_false_iff_not]
        right; omega
      rw [e1]
      have e5 : row (.tuple (a :: b :: c :: d :: r)) k = false := by
        unfold row
        split <;> first | rfl | simp_all
      rw [e5]
      simp only [wp_ok, wp_okD, wp_bind, w_var, w_varV, w_c, w_bin, w_un, w_nil, w_cons, w_args, w_boolV, w_tOf, w_fAnd, w_fOr, w_fNot, w_eAnd, w_eOr, w_eIf, w_chain, w_optV, w_oNone, w_oSome, w_cut, o_cutT, o_cutL, w_pass, w_ret, w_if, w_seqV, w_seqR, w_seq, w_asgV, w_asg, w_gNm, w_gTp, w_gNl, w_gCn, w_par2V, w_par2, w_set, w_body, w_endD, w_endN, w_for, w_forN, w_loopN, w_loopR, w_forC, o_add, o_addB, o_sub, o_ord, o_lt, o_le, o_gt, o_ge, o_eqI, o_neI, o_eqB, o_not, o_neg, o_len_t, o_len_l, o_len_f, datL_nil, datL_cons, startR, List.map_cons, List.map_nil, List.length_cons, List.length_nil, List.replicate_succ, List.replicate_zero, List.cons_append, List.nil_append, List.getElem?_cons_zero, List.getElem?_cons_succ, List.set_cons_zero, List.set_cons_succ, List.take_length, Option.map_some, Option.map_none, List.append_nil, Nat.sub_self, w_idxV, w_idx_t, w_idx_l, w_idx_f, at0, at1, at2, cut1, w_call, w_tup, w_lst, Nat.reduceSub, Nat.reduceAdd, Nat.reduceLeDiff, if_true, reduceIte, Bool.not_true, Bool.not_false, Bool.false_eq_true, reduceCtorEq, w_isT, w_comp, w_datV, w_compN, w_rhoV, w_compC, w_okT, w_any, w_any_t, w_any_l, w_any_f, w_enum, w_enum_t, w_enum_l, w_zip, w_zip_t, w_zip_l, zip_nil, zip_nil2, zip_cons, w_range, tg_nm, tg_tp2, wipe_nil, wipe_cons, Nat.reduceLT]
  | _ => simp [wp_ok, wp_okD, wp_bind, w_var, w_varV, w_c, w_bin, w_un, w_nil, w_cons, w_args, w_boolV, w_tOf, w_fAnd, w_fOr, w_fNot, w_eAnd, w_eOr, w_eIf, w_chain, w_optV, w_oNone, w_oSome, w_cut, o_cutT, o_cutL, w_pass, w_ret, w_if, w_seqV, w_seqR, w_seq, w_asgV, w_asg, w_gNm, w_gTp, w_gNl, w_gCn, w_par2V, w_par2, w_set, w_body, w_endD, w_endN, w_for, w_forN, w_loopN, w_loopR, w_forC, o_add, o_addB, o_sub, o_ord, o_lt, o_le, o_gt, o_ge, o_eqI, o_neI, o_eqB, o_not, o_neg, o_len_t, o_len_l, o_len_f, datL_nil, datL_cons, startR, List.map_cons, List.map_nil, List.length_cons, List.length_nil, List.replicate_succ, List.replicate_zero, List.cons_append, List.nil_append, List.getElem?_cons_zero, List.getElem?_cons_succ, List.set_cons_zero, List.set_cons_succ, List.take_length, Option.map_some, Option.map_none, List.append_nil, Nat.sub_self, w_idxV, w_idx_t, w_idx_l, w_idx_f, at0, at1, at2, cut1, w_call, w_tup, w_lst, Nat.reduceSub, Nat.reduceAdd, Nat.reduceLeDiff, if_true, reduceIte, Bool.not_true, Bool.not_false, Bool.false_eq_true, reduceCtorEq, w_isT, w_comp, w_datV, w_compN, w_rhoV, w_compC, w_okT, w_any, w_any_t, w_any_l, w_any_f, w_enum, w_enum_t, w_enum_l, w_zip, w_zip_t, w_zip_l, zip_nil, zip_nil2, zip_cons, w_range, tg_nm, tg_tp2, wipe_nil, wipe_cons, Nat.reduceLT, tp, row]
theorem law_row_w {m n : Nat} {v : PyData} {k : Int} {μ : Mem} {Q : Val → Mem → Prop} (hn : n ≤ 40) (hm : m ≤ 1000) (h : wf m n v) : wp (F_l_is_row [.dat v, .dat (.int k)] μ) Q = Q (.dat (.bool (row v k))) μ := by
  unfold F_l_is_row b_l_is_row
  simp only [wp_ok, wp_okD, wp_bind, w_var, w_varV, w_c, w_bin, w_un, w_nil, w_cons, w_args, w_boolV, w_tOf, w_fAnd, w_fOr, w_fNot, w_eAnd, w_eOr, w_eIf, w_chain, w_optV, w_oNone, w_oSome, w_cut, o_cutT, o_cutL, w_pass, w_ret, w_if, w_seqV, w_seqR, w_seq, w_asgV, w_asg, w_gNm, w_gTp, w_gNl, w_gCn, w_par2V, w_par2, w_set, w_body, w_endD, w_endN, w_for, w_forN, w_loopN, w_loopR, w_forC, o_add, o_addB, o_sub, o_ord, o_lt, o_le, o_gt, o_ge, o_eqI, o_neI, o_eqB, o_not, o_neg, o_len_t, o_len_l, o_len_f, datL_nil, datL_cons, startR, List.map_cons, List.map_nil, List.length_cons, List.length_nil, List.replicate_succ, List.replicate_zero, List.cons_append, List.nil_append, List.getElem?_cons_zero, List.getElem?_cons_succ, List.set_cons_zero, List.set_cons_succ, List.take_length, Option.map_some, Option.map_none, List.append_nil, Nat.sub_self, w_idxV, w_idx_t, w_idx_l, w_idx_f, at0, at1, at2, cut1, w_call, w_tup, w_lst, Nat.reduceSub, Nat.reduceAdd, Nat.reduceLeDiff, if_true, reduceIte, Bool.not_true, Bool.not_false, Bool.false_eq_true, reduceCtorEq, w_isT, w_comp, w_datV, w_compN, w_rhoV, w_compC, w_okT, w_any, w_any_t, w_any_l, w_any_f, w_enum, w_enum_t, w_enum_l, w_zip, w_zip_t, w_zip_l, zip_nil, zip_nil2, zip_cons, w_range, tg_nm, tg_tp2, wipe_nil, wipe_cons, Nat.reduceLT, w_isT h.nod]
  cases v with
  | tuple ds =>
    obtain ⟨j, rfl, hl, hw⟩ := wf_tup h
    have hj : j ≤ 40 := by omega
    have e0 : isT (.tuple ds) "tuple" = true := rfl
    simp only [e0, wp_ok, wp_okD, wp_bind, w_var, w_varV, w_c, w_bin, w_un, w_nil, w_cons, w_args, w_boolV, w_tOf, w_fAnd, w_fOr, w_fNot, w_eAnd, w_eOr, w_eIf, w_chain, w_optV, w_oNone, w_oSome, w_cut, o_cutT, o_cutL, w_pass, w_ret, w_if, w_seqV, w_seqR, w_seq, w_asgV, w_asg, w_gNm, w_gTp, w_gNl, w_gCn, w_par2V, w_par2, w_set, w_body, w_endD, w_endN, w_for, w_forN, w_loopN, w_loopR, w_forC, o_add, o_addB, o_sub, o_ord, o_lt, o_le, o_gt, o_ge, o_eqI, o_neI, o_eqB, o_not, o_neg, o_len_t, o_len_l, o_len_f, datL_nil, datL_cons, startR, List.map_cons, List.map_nil, List.length_cons, List.length_nil, List.replicate_succ, List.replicate_zero, List.cons_append, List.nil_append, List.getElem?_cons_zero, List.getElem?_cons_succ, List.set_cons_zero, List.set_cons_succ, List.take_length, Option.map_some, Option.map_none, List.append_nil, Nat.sub_self, w_idxV, w_idx_t, w_idx_l, w_idx_f, at0, at1, at2, cut1, w_call, w_tup, w_lst, Nat.reduceSub, Nat.reduceAdd, Nat.reduceLeDiff, if_true, reduceIte, Bool.not_true, Bool.not_false, Bool.false_eq_true, reduceCtorEq, w_isT, w_comp, w_datV, w_compN, w_rhoV, w_compC, w_okT, w_any, w_any_t, w_any_l, w_any_f, w_enum, w_enum_t, w_enum_l, w_zip, w_zip_t, w_zip_l, zip_nil, zip_nil2, zip_cons, w_range, tg_nm, tg_tp2, wipe_nil, wipe_cons, Nat.reduceLT]
    rcases ds with _ | ⟨a, _ | ⟨b, r⟩⟩
    · simp [wp_ok, wp_okD, wp_bind, w_var, w_varV, w_c, w_bin, w_un, w_nil, w_cons, w_args, w_boolV, w_tOf, w_fAnd, w_fOr, w_fNot, w_eAnd, w_eOr, w_eIf, w_chain, w_optV, w_oNone, w_oSome, w_cut, o_cutT, o_cutL, w_pass, w_ret, w_if, w_seqV, w_seqR, w_seq, w_asgV, w_asg, w_gNm, w_gTp, w_gNl, w_gCn, w_par2V, w_par2, w_set, w_body, w_endD, w_endN, w_for, w_forN, w_loopN, w_loopR, w_forC, o_add, o_addB, o_sub, o_ord, o_lt, o_le, o_gt, o_ge, o_eqI, o_neI, o_eqB, o_not, o_neg, o_len_t, o_len_l, o_len_f, datL_nil, datL_cons, startR, List.map_cons, List.map_nil, List.length_cons, List.length_nil, List.replicate_succ, List.replicate_zero, List.cons_append, List.nil_append, List.getElem?_cons_zero, List.getElem?_cons_succ, List.set_cons_zero, List.set_cons_succ, List.take_length, Option.map_some, Option.map_none, List.append_nil, Nat.sub_self, w_idxV, w_idx_t, w_idx_l, w_idx_f, at0, at1, at2, cut1, w_call, w_tup, w_lst, Nat.reduceSub, Nat.reduceAdd, Nat.reduceLeDiff, if_true, reduceIte, Bool.not_true, Bool.not_false, Bool.false_eq_true, reduceCtorEq, w_isT, w_comp, w_datV, w_compN, w_rhoV, w_compC, w_okT, w_any, w_any_t, w_any_l, w_any_f, w_enum, w_enum_t, w_enum_l, w_zip, w_zip_t, w_zip_l, zip_nil, zip_nil2, zip_cons, w_range, tg_nm, tg_tp2, wipe_nil, wipe_cons, Nat.reduceLT, row]
    · simp [wp_ok, wp_okD, wp_bind, w_var, w_varV, w_c, w_bin, w_un, w_nil, w_cons, w_args, w_boolV, w_tOf, w_fAnd, w_fOr, w_fNot, w_eAnd, w_eOr, w_eIf, w_chain, w_optV, w_oNone, w_oSome, w_cut, o_cutT, o_cutL, w_pass, w_ret, w_if, w_seqV, w_seqR, w_seq, w_asgV, w_asg, w_gNm, w_gTp, w_gNl, w_gCn, w_par2V, w_par2, w_set, w_body, w_endD, w_endN, w_for, w_forN, w_loopN, w_loopR, w_forC, o_add, o_addB, o_sub, o_ord, o_lt, o_le, o_gt, o_ge, o_eqI, o_neI, o_eqB, o_not, o_neg, o_len_t, o_len_l, o_len_f, datL_nil, datL_cons, startR, List.map_cons, List.map_nil, List.length_cons, List.length_nil, List.replicate_succ, List.replicate_zero, List.cons_append, List.nil_append, List.getElem?_cons_zero, List.getElem?_cons_succ, List.set_cons_zero, List.set_cons_succ, List.take_length, Option.map_some, Option.map_none, List.append_nil, Nat.sub_self, w_idxV, w_idx_t, w_idx_l, w_idx_f, at0, at1, at2, cut1, w_call, w_tup, w_lst, Nat.reduceSub, Nat.reduceAdd, Nat.reduceLeDiff, if_true, reduceIte, Bool.not_true, Bool.not_false, Bool.false_eq_true, reduceCtorEq, w_isT, w_comp, w_datV, w_compN, w_rhoV, w_compC, w_okT, w_any, w_any_t, w_any_l, w_any_f, w_enum, w_enum_t, w_enum_l, w_zip, w_zip_t, w_zip_l, zip_nil, zip_nil2, zip_cons, w_range, tg_nm, tg_tp2, wipe_nil, wipe_cons, Nat.reduceLT, row]
    · have ha := hw a (by simp)
      have hb := hw b (by simp)
      have e1 : decide (((r.length + 1 + 1 : Nat) : Int) < 2) = false := by rw [decide_eq_false_iff_not]; omega
      simp only [wp_ok, wp_okD, wp_bind, w_var, w_varV, w_c, w_bin, w_un, w_nil, w_cons, w_args, w_boolV, w_tOf, w_fAnd, w_fOr, w_fNot, w_eAnd, w_eOr, w_eIf, w_chain, w_optV, w_oNone, w_oSome, w_cut, o_cutT, o_cutL, w_pass, w_ret, w_if, w_seqV, w_seqR, w_seq, w_asgV, w_asg, w_gNm, w_gTp, w_gNl, w_gCn, w_par2V, w_par2, w_set, w_body, w_endD, w_endN, w_for, w_forN, w_loopN, w_loopR, w_forC, o_add, o_addB, o_sub, o_ord, o_lt, o_le, o_gt, o_ge, o_eqI, o_neI, o_eqB, o_not, o_neg, o_len_t, o_len_l, o_len_f, datL_nil, datL_cons, startR, List.map_cons, List.map_nil, List.length_cons, List.length_nil, List.replicate_succ, List.replicate_zero, List.cons_append, List.nil_append, List.getElem?_cons_zero, List.getElem?_cons_succ, List.set_cons_zero, List.set_cons_succ, List.take_length, Option.map_some, Option.map_none, List.append_nil, Nat.sub_self, w_idxV, w_idx_t, w_idx_l, w_idx_f, at0, at1, at2, cut1, w_call, w_tup, w_lst, Nat.reduceSub, Nat.reduceAdd, Nat.reduceLeDiff, if_true, reduceIte, Bool.not_true, Bool.not_false, Bool.false_eq_true, reduceCtorEq, w_isT, w_comp, w_datV, w_compN, w_rhoV, w_compC, w_okT, w_any, w_any_t, w_any_l, w_any_f, w_enum, w_enum_t, w_enum_l, w_zip, w_zip_t, w_zip_l, zip_nil, zip_nil2, zip_cons, w_range, tg_nm, tg_tp2, wipe_nil, wipe_cons, Nat.reduceLT, e1, w_isT ha.nod]
      cases a with
      | str w =>
        have e2 : isT (.str w) "str" = true := rfl
        simp only [e2, wp_ok, wp_okD, wp_bind, w_var, w_varV, w_c, w_bin, w_un, w_nil, w_cons, w_args, w_boolV, w_tOf, w_fAnd, w_fOr, w_fNot, w_eAnd, w_eOr, w_eIf, w_chain, w_optV, w_oNone, w_oSome, w_cut, o_cutT, o_cutL, w_pass, w_ret, w_if, w_seqV, w_seqR, w_seq, w_asgV, w_asg, w_gNm, w_gTp, w_gNl, w_gCn, w_par2V, w_par2, w_set, w_body, w_endD, w_endN, w_for, w_forN, w_loopN, w_loopR, w_forC, o_add, o_addB, o_sub, o_ord, o_lt, o_le, o_gt, o_ge, o_eqI, o_neI, o_eqB, o_not, o_neg, o_len_t, o_len_l, o_len_f, datL_nil, datL_cons, startR, List.map_cons, List.map_nil, List.length_cons, List.length_nil, List.replicate_succ, List.replicate_zero, List.cons_append, List.nil_append, List.getElem?_cons_zero, List.getElem?_cons_succ, List.set_cons_zero, List.set_cons_succ, List.take_length, Option.map_some, Option.map_none, List.append_nil, Nat.sub_self, w_idxV, w_idx_t, w_idx_l, w_idx_f, at0, at1, at2, cut1, w_call, w_tup, w_lst, Nat.reduceSub, Nat.reduceAdd, Nat.reduceLeDiff, if_true, reduceIte, Bool.not_true, Bool.not_false, Bool.false_eq_true, reduceCtorEq, w_isT, w_comp, w_datV, w_compN, w_rhoV, w_compC, w_okT, w_any, w_any_t, w_any_l, w_any_f, w_enum, w_enum_t, w_enum_l, w_zip, w_zip_t, w_zip_l, zip_nil, zip_nil2, zip_cons, w_range, tg_nm, tg_tp2, wipe_nil, wipe_cons, Nat.reduceLT, w_eqS ha s1, w_eqS ha s2]
        rcases r with _ | ⟨c, _ | ⟨d, r⟩⟩
        · simp only [row]
          cases q1 : PyData.eqv (.str w) (.str "write") with
          | true => simp [wp_ok, wp_okD, wp_bind, w_var, w_varV, w_c, w_bin, w_un, w_nil, w_cons, w_args, w_boolV, w_tOf, w_fAnd, w_fOr, w_fNot, w_eAnd, w_eOr, w_eIf, w_chain, w_optV, w_oNone, w_oSome, w_cut, o_cutT, o_cutL, w_pass, w_ret, w_if, w_seqV, w_seqR, w_seq, w_asgV, w_asg, w_gNm, w_gTp, w_gNl, w_gCn, w_par2V, w_par2, w_set, w_body, w_endD, w_endN, w_for, w_forN, w_loopN, w_loopR, w_forC, o_add, o_addB, o_sub, o_ord, o_lt, o_le, o_gt, o_ge, o_eqI, o_neI, o_eqB, o_not, o_neg, o_len_t, o_len_l, o_len_f, datL_nil, datL_cons, startR, List.map_cons, List.map_nil, List.length_cons, List.length_nil, List.replicate_succ, List.replicate_zero, List.cons_append, List.nil_append, List.getElem?_cons_zero, List.getElem?_cons_succ, List.set_cons_zero, List.set_cons_succ, List.take_length, Option.map_some, Option.map_none, List.append_nil, Nat.sub_self, w_idxV, w_idx_t, w_idx_l, w_idx_f, at0, at1, at2, cut1, w_call, w_tup, w_lst, Nat.reduceSub, Nat.reduceAdd, Nat.reduceLeDiff, if_true, reduceIte, Bool.not_true, Bool.not_false, Bool.false_eq_true, reduceCtorEq, w_isT, w_comp, w_datV, w_compN, w_rhoV, w_compC, w_okT, w_any, w_any_t, w_any_l, w_any_f, w_enum, w_enum_t, w_enum_l, w_zip, w_zip_t, w_zip_l, zip_nil, zip_nil2, zip_cons, w_range, tg_nm, tg_tp2, wipe_nil, wipe_cons, Nat.reduceLT, law_pat_w hj hm hb]
          | false =>
            simp only [wp_ok, wp_okD, wp_bind, w_var, w_varV, w_c, w_bin, w_un, w_nil, w_cons, w_args, w_boolV, w_tOf, w_fAnd, w_fOr, w_fNot, w_eAnd, w_eOr, w_eIf, w_chain, w_optV, w_oNone, w_oSome, w_cut, o_cutT, o_cutL, w_pass, w_ret, w_if, w_seqV, w_seqR, w_seq, w_asgV, w_asg, w_gNm, w_gTp, w_gNl, w_gCn, w_par2V, w_par2, w_set, w_body, w_endD, w_endN, w_for, w_forN, w_loopN, w_loopR, w_forC, o_add, o_addB, o_sub, o_ord, o_lt, o_le, o_gt, o_ge, o_eqI, o_neI, o_eqB, o_not, o_neg, o_len_t, o_len_l, o_len_f, datL_nil, datL_cons, startR, List.map_cons, List.map_nil, List.length_cons, List.length_nil, List.replicate_succ, List.replicate_zero, List.cons_append, List.nil_append, List.getElem?_cons_zero, List.getElem?_cons_succ, List.set_cons_zero, List.set_cons_succ, List.take_length, Option.map_some, Option.map_none, List.append_nil, Nat.sub_self, w_idxV, w_idx_t, w_idx_l, w_idx_f, at0, at1, at2, cut1, w_call, w_tup, w_lst, Nat.reduceSub, Nat.reduceAdd, Nat.reduceLeDiff, if_true, reduceIte, Bool.not_true, Bool.not_false, Bool.false_eq_true, reduceCtorEq, w_isT, w_comp, w_datV, w_compN, w_rhoV, w_compC, w_okT, w_any, w_any_t, w_any_l, w_any_f, w_enum, w_enum_t, w_enum_l, w_zip, w_zip_t, w_zip_l, zip_nil, zip_nil2, zip_cons, w_range, tg_nm, tg_tp2, wipe_nil, wipe_cons, Nat.reduceLT, is_int_w hb.nod]
            cases q2 : nm b 0 (k - 1) with
            | false => simp [wp_ok, wp_okD, wp_bind, w_var, w_varV, w_c, w_bin, w_un, w_nil, w_cons, w_args, w_boolV, w_tOf, w_fAnd, w_fOr, w_fNot, w_eAnd, w_eOr, w_eIf, w_chain, w_optV, w_oNone, w_oSome, w_cut, o_cutT, o_cutL, w_pass, w_ret, w_if, w_seqV, w_seqR, w_seq, w_asgV, w_asg, w_gNm, w_gTp, w_gNl, w_gCn, w_par2V, w_par2, w_set, w_body, w_endD, w_endN, w_for, w_forN, w_loopN, w_loopR, w_forC, o_add, o_addB, o_sub, o_ord, o_lt, o_le, o_gt, o_ge, o_eqI, o_neI, o_eqB, o_not, o_neg, o_len_t, o_len_l, o_len_f, datL_nil, datL_cons, startR, List.map_cons, List.map_nil, List.length_cons, List.length_nil, List.replicate_succ, List.replicate_zero, List.cons_append, List.nil_append, List.getElem?_cons_zero, List.getElem?_cons_succ, List.set_cons_zero, List.set_cons_succ, List.take_length, Option.map_some, Option.map_none, List.append_nil, Nat.sub_self, w_idxV, w_idx_t, w_idx_l, w_idx_f, at0, at1, at2, cut1, w_call, w_tup, w_lst, Nat.reduceSub, Nat.reduceAdd, Nat.reduceLeDiff, if_true, reduceIte, Bool.not_true, Bool.not_false, Bool.false_eq_true, reduceCtorEq, w_isT, w_comp, w_datV, w_compN, w_rhoV, w_compC, w_okT, w_any, w_any_t, w_any_l, w_any_f, w_enum, w_enum_t, w_enum_l, w_zip, w_zip_t, w_zip_l, zip_nil, zip_nil2, zip_cons, w_range, tg_nm, tg_tp2, wipe_nil, wipe_cons, Nat.reduceLT]
            | true =>
              simp only [wp_ok, wp_okD, wp_bind, w_var, w_varV, w_c, w_bin, w_un, w_nil, w_cons, w_args, w_boolV, w_tOf, w_fAnd, w_fOr, w_fNot, w_eAnd, w_eOr, w_eIf, w_chain, w_optV, w_oNone, w_oSome, w_cut, o_cutT, o_cutL, w_pass, w_ret, w_if, w_seqV, w_seqR, w_seq, w_asgV, w_asg, w_gNm, w_gTp, w_gNl, w_gCn, w_par2V, w_par2, w_set, w_body, w_endD, w_endN, w_for, w_forN, w_loopN, w_loopR, w_forC, o_add, o_addB, o_sub, o_ord, o_lt, o_le, o_gt, o_ge, o_eqI, o_neI, o_eqB, o_not, o_neg, o_len_t, o_len_l, o_len_f, datL_nil, datL_cons, startR, List.map_cons, List.map_nil, List.length_cons, List.length_nil, List.replicate_succ, List.replicate_zero, List.cons_append, List.nil_append, List.getElem?_cons_zero, List.getElem?_cons_succ, List.set_cons_zero, List.set_cons_succ, List.take_length, Option.map_some, Option.map_none, List.append_nil, Nat.sub_self, w_idxV, w_idx_t, w_idx_l, w_idx_f, at0, at1, at2, cut1, w_call, w_tup, w_lst, Nat.reduceSub, Nat.reduceAdd, Nat.reduceLeDiff, if_true, reduceIte, Bool.not_true, Bool.not_false, Bool.false_eq_true, reduceCtorEq, w_isT, w_comp, w_datV, w_compN, w_rhoV, w_compC, w_okT, w_any, w_any_t, w_any_l, w_any_f, w_enum, w_enum_t, w_enum_l, w_zip, w_zip_t, w_zip_l, zip_nil, zip_nil2, zip_cons, w_range, tg_nm, tg_tp2, wipe_nil, wipe_cons, Nat.reduceLT, w_eqS ha s2]
              cases q3 : PyData.eqv (.str w) (.str "back") <;> simp [wp_ok, wp_okD, wp_bind, w_var, w_varV, w_c, w_bin, w_un, w_nil, w_cons, w_args, w_boolV, w_tOf, w_fAnd, w_fOr, w_fNot, w_eAnd, w_eOr, w_eIf, w_chain, w_optV, w_oNone, w_oSome, w_cut, o_cutT, o_cutL, w_pass, w_ret, w_if, w_seqV, w_seqR, w_seq, w_asgV, w_asg, w_gNm, w_gTp, w_gNl, w_gCn, w_par2V, w_par2, w_set, w_body, w_endD, w_endN, w_for, w_forN, w_loopN, w_loopR, w_forC, o_add, o_addB, o_sub, o_ord, o_lt, o_le, o_gt, o_ge, o_eqI, o_neI, o_eqB, o_not, o_neg, o_len_t, o_len_l, o_len_f, datL_nil, datL_cons, startR, List.map_cons, List.map_nil, List.length_cons, List.length_nil, List.replicate_succ, List.replicate_zero, List.cons_append, List.nil_append, List.getElem?_cons_zero, List.getElem?_cons_succ, List.set_cons_zero, List.set_cons_succ, List.take_length, Option.map_some, Option.map_none, List.append_nil, Nat.sub_self, w_idxV, w_idx_t, w_idx_l, w_idx_f, at0, at1, at2, cut1, w_call, w_tup, w_lst, Nat.reduceSub, Nat.reduceAdd, Nat.reduceLeDiff, if_true, reduceIte, Bool.not_true, Bool.not_false, Bool.false_eq_true, reduceCtorEq, w_isT, w_comp, w_datV, w_compN, w_rhoV, w_compC, w_okT, w_any, w_any_t, w_any_l, w_any_f, w_enum, w_enum_t, w_enum_l, w_zip, w_zip_t, w_zip_l, zip_nil, zip_nil2, zip_cons, w_range, tg_nm, tg_tp2, wipe_nil, wipe_cons, Nat.reduceLT, w_eqS ha s2, q3]
        · have hc := hw c (by simp)
          simp only [row]
          cases q1 : PyData.eqv (.str w) (.str "write") with
          | true => simp [wp_ok, wp_okD, wp_bind, w_var, w_varV, w_c, w_bin, w_un, w_nil, w_cons, w_args, w_boolV, w_tOf, w_fAnd, w_fOr, w_fNot, w_eAnd, w_eOr, w_eIf, w_chain, w_optV, w_oNone, w_oSome, w_cut, o_cutT, o_cutL, w_pass, w_ret, w_if, w_seqV, w_seqR, w_seq, w_asgV, w_asg, w_gNm, w_gTp, w_gNl, w_gCn, w_par2V, w_par2, w_set, w_body, w_endD, w_endN, w_for, w_forN, w_loopN, w_loopR, w_forC, o_add, o_addB, o_sub, o_ord, o_lt, o_le, o_gt, o_ge, o_eqI, o_neI, o_eqB, o_not, o_neg, o_len_t, o_len_l, o_len_f, datL_nil, datL_cons, startR, List.map_cons, List.map_nil, List.length_cons, List.length_nil, List.replicate_succ, List.replicate_zero, List.cons_append, List.nil_append, List.getElem?_cons_zero, List.getElem?_cons_succ, List.set_cons_zero, List.set_cons_succ, List.take_length, Option.map_some, Option.map_none, List.append_nil, Nat.sub_self, w_idxV, w_idx_t, w_idx_l, w_idx_f, at0, at1, at2, cut1, w_call, w_tup, w_lst, Nat.reduceSub, Nat.reduceAdd, Nat.reduceLeDiff, if_true, reduceIte, Bool.not_true, Bool.not_false, Bool.false_eq_true, reduceCtorEq, w_isT, w_comp, w_datV, w_compN, w_rhoV, w_compC, w_okT, w_any, w_any_t, w_any_l, w_any_f, w_enum, w_enum_t, w_enum_l, w_zip, w_zip_t, w_zip_l, zip_nil, zip_nil2, zip_cons, w_range, tg_nm, tg_tp2, wipe_nil, wipe_cons, Nat.reduceLT]
          | false =>
            simp only [wp_ok, wp_okD, wp_bind, w_var, w_varV, w_c, w_bin, w_un, w_nil, w_cons, w_args, w_boolV, w_tOf, w_fAnd, w_fOr, w_fNot, w_eAnd, w_eOr, w_eIf, w_chain, w_optV, w_oNone, w_oSome, w_cut, o_cutT, o_cutL, w_pass, w_ret, w_if, w_seqV, w_seqR, w_seq, w_asgV, w_asg, w_gNm, w_gTp, w_gNl, w_gCn, w_par2V, w_par2, w_set, w_body, w_endD, w_endN, w_for, w_forN, w_loopN, w_loopR, w_forC, o_add, o_addB, o_sub, o_ord, o_lt, o_le, o_gt, o_ge, o_eqI, o_neI, o_eqB, o_not, o_neg, o_len_t, o_len_l, o_len_f, datL_nil, datL_cons, startR, List.map_cons, List.map_nil, List.length_cons, List.length_nil, List.replicate_succ, List.replicate_zero, List.cons_append, List.nil_append, List.getElem?_cons_zero, List.getElem?_cons_succ, List.set_cons_zero, List.set_cons_succ, List.take_length, Option.map_some, Option.map_none, List.append_nil, Nat.sub_self, w_idxV, w_idx_t, w_idx_l, w_idx_f, at0, at1, at2, cut1, w_call, w_tup, w_lst, Nat.reduceSub, Nat.reduceAdd, Nat.reduceLeDiff, if_true, reduceIte, Bool.not_true, Bool.not_false, Bool.false_eq_true, reduceCtorEq, w_isT, w_comp, w_datV, w_compN, w_rhoV, w_compC, w_okT, w_any, w_any_t, w_any_l, w_any_f, w_enum, w_enum_t, w_enum_l, w_zip, w_zip_t, w_zip_l, zip_nil, zip_nil2, zip_cons, w_range, tg_nm, tg_tp2, wipe_nil, wipe_cons, Nat.reduceLT, is_int_w hb.nod]
            cases q2 : nm b 0 (k - 1) with
            | false => simp [wp_ok, wp_okD, wp_bind, w_var, w_varV, w_c, w_bin, w_un, w_nil, w_cons, w_args, w_boolV, w_tOf, w_fAnd, w_fOr, w_fNot, w_eAnd, w_eOr, w_eIf, w_chain, w_optV, w_oNone, w_oSome, w_cut, o_cutT, o_cutL, w_pass, w_ret, w_if, w_seqV, w_seqR, w_seq, w_asgV, w_asg, w_gNm, w_gTp, w_gNl, w_gCn, w_par2V, w_par2, w_set, w_body, w_endD, w_endN, w_for, w_forN, w_loopN, w_loopR, w_forC, o_add, o_addB, o_sub, o_ord, o_lt, o_le, o_gt, o_ge, o_eqI, o_neI, o_eqB, o_not, o_neg, o_len_t, o_len_l, o_len_f, datL_nil, datL_cons, startR, List.map_cons, List.map_nil, List.length_cons, List.length_nil, List.replicate_succ, List.replicate_zero, List.cons_append, List.nil_append, List.getElem?_cons_zero, List.getElem?_cons_succ, List.set_cons_zero, List.set_cons_succ, List.take_length, Option.map_some, Option.map_none, List.append_nil, Nat.sub_self, w_idxV, w_idx_t, w_idx_l, w_idx_f, at0, at1, at2, cut1, w_call, w_tup, w_lst, Nat.reduceSub, Nat.reduceAdd, Nat.reduceLeDiff, if_true, reduceIte, Bool.not_true, Bool.not_false, Bool.false_eq_true, reduceCtorEq, w_isT, w_comp, w_datV, w_compN, w_rhoV, w_compC, w_okT, w_any, w_any_t, w_any_l, w_any_f, w_enum, w_enum_t, w_enum_l, w_zip, w_zip_t, w_zip_l, zip_nil, zip_nil2, zip_cons, w_range, tg_nm, tg_tp2, wipe_nil, wipe_cons, Nat.reduceLT]
            | true =>
              simp only [wp_ok, wp_okD, wp_bind, w_var, w_varV, w_c, w_bin, w_un, w_nil, w_cons, w_args, w_boolV, w_tOf, w_fAnd, w_fOr, w_fNot, w_eAnd, w_eOr, w_eIf, w_chain, w_optV, w_oNone, w_oSome, w_cut, o_cutT, o_cutL, w_pass, w_ret, w_if, w_seqV, w_seqR, w_seq, w_asgV, w_asg, w_gNm, w_gTp, w_gNl, w_gCn, w_par2V, w_par2, w_set, w_body, w_endD, w_endN, w_for, w_forN, w_loopN, w_loopR, w_forC, o_add, o_addB, o_sub, o_ord, o_lt, o_le, o_gt, o_ge, o_eqI, o_neI, o_eqB, o_not, o_neg, o_len_t, o_len_l, o_len_f, datL_nil, datL_cons, startR, List.map_cons, List.map_nil, List.length_cons, List.length_nil, List.replicate_succ, List.replicate_zero, List.cons_append, List.nil_append, List.getElem?_cons_zero, List.getElem?_cons_succ, List.set_cons_zero, List.set_cons_succ, List.take_length, Option.map_some, Option.map_none, List.append_nil, Nat.sub_self, w_idxV, w_idx_t, w_idx_l, w_idx_f, at0, at1, at2, cut1, w_call, w_tup, w_lst, Nat.reduceSub, Nat.reduceAdd, Nat.reduceLeDiff, if_true, reduceIte, Bool.not_true, Bool.not_false, Bool.false_eq_true, reduceCtorEq, w_isT, w_comp, w_datV, w_compN, w_rhoV, w_compC, w_okT, w_any, w_any_t, w_any_l, w_any_f, w_enum, w_enum_t, w_enum_l, w_zip, w_zip_t, w_zip_l, zip_nil, zip_nil2, zip_cons, w_range, tg_nm, tg_tp2, wipe_nil, wipe_cons, Nat.reduceLT, w_eqS ha s2]
              cases q3 : PyData.eqv (.str w) (.str "back") with
              | true => simp [wp_ok, wp_okD, wp_bind, w_var, w_varV, w_c, w_bin, w_un, w_nil, w_cons, w_args, w_boolV, w_tOf, w_fAnd, w_fOr, w_fNot, w_eAnd, w_eOr, w_eIf, w_chain, w_optV, w_oNone, w_oSome, w_cut, o_cutT, o_cutL, w_pass, w_ret, w_if, w_seqV, w_seqR, w_seq, w_asgV, w_asg, w_gNm, w_gTp, w_gNl, w_gCn, w_par2V, w_par2, w_set, w_body, w_endD, w_endN, w_for, w_forN, w_loopN, w_loopR, w_forC, o_add, o_addB, o_sub, o_ord, o_lt, o_le, o_gt, o_ge, o_eqI, o_neI, o_eqB, o_not, o_neg, o_len_t, o_len_l, o_len_f, datL_nil, datL_cons, startR, List.map_cons, List.map_nil, List.length_cons, List.length_nil, List.replicate_succ, List.replicate_zero, List.cons_append, List.nil_append, List.getElem?_cons_zero, List.getElem?_cons_succ, List.set_cons_zero, List.set_cons_succ, List.take_length, Option.map_some, Option.map_none, List.append_nil, Nat.sub_self, w_idxV, w_idx_t, w_idx_l, w_idx_f, at0, at1, at2, cut1, w_call, w_tup, w_lst, Nat.reduceSub, Nat.reduceAdd, Nat.reduceLeDiff, if_true, reduceIte, Bool.not_true, Bool.not_false, Bool.false_eq_true, reduceCtorEq, w_isT, w_comp, w_datV, w_compN, w_rhoV, w_compC, w_okT, w_any, w_any_t, w_any_l, w_any_f, w_enum, w_enum_t, w_enum_l, w_zip, w_zip_t, w_zip_l, zip_nil, zip_nil2, zip_cons, w_range, tg_nm, tg_tp2, wipe_nil, wipe_cons, Nat.reduceLT, w_eqS ha s2, q3]
              | false =>
                have e0 : (decide (((3 : Nat) : Int) = 3)) = true := by decide
                simp only [wp_ok, wp_okD, wp_bind, w_var, w_varV, w_c, w_bin, w_un, w_nil, w_cons, w_args, w_boolV, w_tOf, w_fAnd, w_fOr, w_fNot, w_eAnd, w_eOr, w_eIf, w_chain, w_optV, w_oNone, w_oSome, w_cut, o_cutT, o_cutL, w_pass, w_ret, w_if, w_seqV, w_seqR, w_seq, w_asgV, w_asg, w_gNm, w_gTp, w_gNl, w_gCn, w_par2V, w_par2, w_set, w_body, w_endD, w_endN, w_for, w_forN, w_loopN, w_loopR, w_forC, o_add, o_addB, o_sub, o_ord, o_lt, o_le, o_gt, o_ge, o_eqI, o_neI, o_eqB, o_not, o_neg, o_len_t, o_len_l, o_len_f, datL_nil, datL_cons, startR, List.map_cons, List.map_nil, List.length_cons, List.length_nil, List.replicate_succ, List.replicate_zero, List.cons_append, List.nil_append, List.getElem?_cons_zero, List.getElem?_cons_succ, List.set_cons_zero, List.set_cons_succ, List.take_length, Option.map_some, Option.map_none, List.append_nil, Nat.sub_self, w_idxV, w_idx_t, w_idx_l, w_idx_f, at0, at1, at2, cut1, w_call, w_tup, w_lst, Nat.reduceSub, Nat.reduceAdd, Nat.reduceLeDiff, if_true, reduceIte, Bool.not_true, Bool.not_false, Bool.false_eq_true, reduceCtorEq, w_isT, w_comp, w_datV, w_compN, w_rhoV, w_compC, w_okT, w_any, w_any_t, w_any_l, w_any_f, w_enum, w_enum_t, w_enum_l, w_zip, w_zip_t, w_zip_l, zip_nil, zip_nil2, zip_cons, w_range, tg_nm, tg_tp2, wipe_nil, wipe_cons, Nat.reduceLT, w_mem3, e0]
                cases q4 : mem3 w with
                | true => simp [wp_ok, wp_okD, wp_bind, w_var, w_varV, w_c, w_bin, w_un, w_nil, w_cons, w_args, w_boolV, w_tOf, w_fAnd, w_fOr, w_fNot, w_eAnd, w_eOr, w_eIf, w_chain, w_optV, w_oNone, w_oSome, w_cut, o_cutT, o_cutL, w_pass, w_ret, w_if, w_seqV, w_seqR, w_seq, w_asgV, w_asg, w_gNm, w_gTp, w_gNl, w_gCn, w_par2V, w_par2, w_set, w_body, w_endD, w_endN, w_for, w_forN, w_loopN, w_loopR, w_forC, o_add, o_addB, o_sub, o_ord, o_lt, o_le, o_gt, o_ge, o_eqI, o_neI, o_eqB, o_not, o_neg, o_len_t, o_len_l, o_len_f, datL_nil, datL_cons, startR, List.map_cons, List.map_nil, List.length_cons, List.length_nil, List.replicate_succ, List.replicate_zero, List.cons_append, List.nil_append, List.getElem?_cons_zero, List.getElem?_cons_succ, List.set_cons_zero, List.set_cons_succ, List.take_length, Option.map_some, Option.map_none, List.append_nil, Nat.sub_self, w_idxV, w_idx_t, w_idx_l, w_idx_f, at0, at1, at2, cut1, w_call, w_tup, w_lst, Nat.reduceSub, Nat.reduceAdd, Nat.reduceLeDiff, if_true, reduceIte, Bool.not_true, Bool.not_false, Bool.false_eq_true, reduceCtorEq, w_isT, w_comp, w_datV, w_compN, w_rhoV, w_compC, w_okT, w_any, w_any_t, w_any_l, w_any_f, w_enum, w_enum_t, w_enum_l, w_zip, w_zip_t, w_zip_l, zip_nil, zip_nil2, zip_cons, w_range, tg_nm, tg_tp2, wipe_nil, wipe_cons, Nat.reduceLT, is_int_w hc.nod]
                | false =>
                  simp only [wp_ok, wp_okD, wp_bind, w_var, w_varV, w_c, w_bin, w_un, w_nil, w_cons, w_args, w_boolV, w_tOf, w_fAnd, w_fOr, w_fNot, w_eAnd, w_eOr, w_eIf, w_chain, w_optV, w_oNone, w_oSome, w_cut, o_cutT, o_cutL, w_pass, w_ret, w_if, w_seqV, w_seqR, w_seq, w_asgV, w_asg, w_gNm, w_gTp, w_gNl, w_gCn, w_par2V, w_par2, w_set, w_body, w_endD, w_endN, w_for, w_forN, w_loopN, w_loopR, w_forC, o_add, o_addB, o_sub, o_ord, o_lt, o_le, o_gt, o_ge, o_eqI, o_neI, o_eqB, o_not, o_neg, o_len_t, o_len_l, o_len_f, datL_nil, datL_cons, startR, List.map_cons, List.map_nil, List.length_cons, List.length_nil, List.replicate_succ, List.replicate_zero, List.cons_append, List.nil_append, List.getElem?_cons_zero, List.getElem?_cons_succ, List.set_cons_zero, List.set_cons_succ, List.take_length, Option.map_some, Option.map_none, List.append_nil, Nat.sub_self, w_idxV, w_idx_t, w_idx_l, w_idx_f, at0, at1, at2, cut1, w_call, w_tup, w_lst, Nat.reduceSub, Nat.reduceAdd, Nat.reduceLeDiff, if_true, reduceIte, Bool.not_true, Bool.not_false, Bool.false_eq_true, reduceCtorEq, w_isT, w_comp, w_datV, w_compN, w_rhoV, w_compC, w_okT, w_any, w_any_t, w_any_l, w_any_f, w_enum, w_enum_t, w_enum_l, w_zip, w_zip_t, w_zip_l, zip_nil, zip_nil2, zip_cons, w_range, tg_nm, tg_tp2, wipe_nil, wipe_cons, Nat.reduceLT, w_eqS ha s3]
                  cases q5 : PyData.eqv (.str w) (.str "times") with
                  | true => simp [wp_ok, wp_okD, wp_bind, w_var, w_varV, w_c, w_bin, w_un, w_nil, w_cons, w_args, w_boolV, w_tOf, w_fAnd, w_fOr, w_fNot, w_eAnd, w_eOr, w_eIf, w_chain, w_optV, w_oNone, w_oSome, w_cut, o_cutT, o_cutL, w_pass, w_ret, w_if, w_seqV, w_seqR, w_seq, w_asgV, w_asg, w_gNm, w_gTp, w_gNl, w_gCn, w_par2V, w_par2, w_set, w_body, w_endD, w_endN, w_for, w_forN, w_loopN, w_loopR, w_forC, o_add, o_addB, o_sub, o_ord, o_lt, o_le, o_gt, o_ge, o_eqI, o_neI, o_eqB, o_not, o_neg, o_len_t, o_len_l, o_len_f, datL_nil, datL_cons, startR, List.map_cons, List.map_nil, List.length_cons, List.length_nil, List.replicate_succ, List.replicate_zero, List.cons_append, List.nil_append, List.getElem?_cons_zero, List.getElem?_cons_succ, List.set_cons_zero, List.set_cons_succ, List.take_length, Option.map_some, Option.map_none, List.append_nil, Nat.sub_self, w_idxV, w_idx_t, w_idx_l, w_idx_f, at0, at1, at2, cut1, w_call, w_tup, w_lst, Nat.reduceSub, Nat.reduceAdd, Nat.reduceLeDiff, if_true, reduceIte, Bool.not_true, Bool.not_false, Bool.false_eq_true, reduceCtorEq, w_isT, w_comp, w_datV, w_compN, w_rhoV, w_compC, w_okT, w_any, w_any_t, w_any_l, w_any_f, w_enum, w_enum_t, w_enum_l, w_zip, w_zip_t, w_zip_l, zip_nil, zip_nil2, zip_cons, w_range, tg_nm, tg_tp2, wipe_nil, wipe_cons, Nat.reduceLT, is_int_w hc.nod]
                  | false =>
                    simp only [wp_ok, wp_okD, wp_bind, w_var, w_varV, w_c, w_bin, w_un, w_nil, w_cons, w_args, w_boolV, w_tOf, w_fAnd, w_fOr, w_fNot, w_eAnd, w_eOr, w_eIf, w_chain, w_optV, w_oNone, w_oSome, w_cut, o_cutT, o_cutL, w_pass, w_ret, w_if, w_seqV, w_seqR, w_seq, w_asgV, w_asg, w_gNm, w_gTp, w_gNl, w_gCn, w_par2V, w_par2, w_set, w_body, w_endD, w_endN, w_for, w_forN, w_loopN, w_loopR, w_forC, o_add, o_addB, o_sub, o_ord, o_lt, o_le, o_gt, o_ge, o_eqI, o_neI, o_eqB, o_not, o_neg, o_len_t, o_len_l, o_len_f, datL_nil, datL_cons, startR, List.map_cons, List.map_nil, List.length_cons, List.length_nil, List.replicate_succ, List.replicate_zero, List.cons_append, List.nil_append, List.getElem?_cons_zero, List.getElem?_cons_succ, List.set_cons_zero, List.set_cons_succ, List.take_length, Option.map_some, Option.map_none, List.append_nil, Nat.sub_self, w_idxV, w_idx_t, w_idx_l, w_idx_f, at0, at1, at2, cut1, w_call, w_tup, w_lst, Nat.reduceSub, Nat.reduceAdd, Nat.reduceLeDiff, if_true, reduceIte, Bool.not_true, Bool.not_false, Bool.false_eq_true, reduceCtorEq, w_isT, w_comp, w_datV, w_compN, w_rhoV, w_compC, w_okT, w_any, w_any_t, w_any_l, w_any_f, w_enum, w_enum_t, w_enum_l, w_zip, w_zip_t, w_zip_l, zip_nil, zip_nil2, zip_cons, w_range, tg_nm, tg_tp2, wipe_nil, wipe_cons, Nat.reduceLT, w_eqS ha s4]
                    cases q6 : PyData.eqv (.str w) (.str "drop") with
                    | true => simp [wp_ok, wp_okD, wp_bind, w_var, w_varV, w_c, w_bin, w_un, w_nil, w_cons, w_args, w_boolV, w_tOf, w_fAnd, w_fOr, w_fNot, w_eAnd, w_eOr, w_eIf, w_chain, w_optV, w_oNone, w_oSome, w_cut, o_cutT, o_cutL, w_pass, w_ret, w_if, w_seqV, w_seqR, w_seq, w_asgV, w_asg, w_gNm, w_gTp, w_gNl, w_gCn, w_par2V, w_par2, w_set, w_body, w_endD, w_endN, w_for, w_forN, w_loopN, w_loopR, w_forC, o_add, o_addB, o_sub, o_ord, o_lt, o_le, o_gt, o_ge, o_eqI, o_neI, o_eqB, o_not, o_neg, o_len_t, o_len_l, o_len_f, datL_nil, datL_cons, startR, List.map_cons, List.map_nil, List.length_cons, List.length_nil, List.replicate_succ, List.replicate_zero, List.cons_append, List.nil_append, List.getElem?_cons_zero, List.getElem?_cons_succ, List.set_cons_zero, List.set_cons_succ, List.take_length, Option.map_some, Option.map_none, List.append_nil, Nat.sub_self, w_idxV, w_idx_t, w_idx_l, w_idx_f, at0, at1, at2, cut1, w_call, w_tup, w_lst, Nat.reduceSub, Nat.reduceAdd, Nat.reduceLeDiff, if_true, reduceIte, Bool.not_true, Bool.not_false, Bool.false_eq_true, reduceCtorEq, w_isT, w_comp, w_datV, w_compN, w_rhoV, w_compC, w_okT, w_any, w_any_t, w_any_l, w_any_f, w_enum, w_enum_t, w_enum_l, w_zip, w_zip_t, w_zip_l, zip_nil, zip_nil2, zip_cons, w_range, tg_nm, tg_tp2, wipe_nil, wipe_cons, Nat.reduceLT, is_int_w hc.nod]
                    | false => simp [wp_ok, wp_okD, wp_bind, w_var, w_varV, w_c, w_bin, w_un, w_nil, w_cons, w_args, w_boolV, w_tOf, w_fAnd, w_fOr, w_fNot, w_eAnd, w_eOr, w_eIf, w_chain, w_optV, w_oNone, w_oSome, w_cut, o_cutT, o_cutL, w_pass, w_ret, w_if, w_seqV, w_seqR, w_seq, w_asgV, w_asg, w_gNm, w_gTp, w_gNl, w_gCn, w_par2V, w_par2, w_set, w_body, w_endD, w_endN, w_for, w_forN, w_loopN, w_loopR, w_forC, o_add, o_addB, o_sub, o_ord, o_lt, o_le, o_gt, o_ge, o_eqI, o_neI, o_eqB, o_not, o_neg, o_len_t, o_len_l, o_len_f, datL_nil, datL_cons, startR, List.map_cons, List.map_nil, List.length_cons, List.length_nil, List.replicate_succ, List.replicate_zero, List.cons_append, List.nil_append, List.getElem?_cons_zero, List.getElem?_cons_succ, List.set_cons_zero, List.set_cons_succ, List.take_length, Option.map_some, Option.map_none, List.append_nil, Nat.sub_self, w_idxV, w_idx_t, w_idx_l, w_idx_f, at0, at1, at2, cut1, w_call, w_tup, w_lst, Nat.reduceSub, Nat.reduceAdd, Nat.reduceLeDiff, if_true, reduceIte, Bool.not_true, Bool.not_false, Bool.false_eq_true, reduceCtorEq, w_isT, w_comp, w_datV, w_compN, w_rhoV, w_compC, w_okT, w_any, w_any_t, w_any_l, w_any_f, w_enum, w_enum_t, w_enum_l, w_zip, w_zip_t, w_zip_l, zip_nil, zip_nil2, zip_cons, w_range, tg_nm, tg_tp2, wipe_nil, wipe_cons, Nat.reduceLT]
        · have e5 : row (.tuple (.str w :: b :: c :: d :: r)) k = false := by
            unfold row
            split <;> first | rfl | simp_all
          have e6 : decide (((r.length + 1 + 1 + 1 + 1 : Nat) : Int) = 2) = false := by rw [decide_eq_false_iff_not]; omega
          have e7 : decide (((r.length + 1 + 1 + 1 + 1 : Nat) : Int) = 3) = false := by rw [decide_eq_false_iff_not]; omega
          rw [e5]
          cases q1 : PyData.eqv (.str w) (.str "write") with
          | true => simp only [wp_ok, wp_okD, wp_bind, w_var, w_varV, w_c, w_bin, w_un, w_nil, w_cons, w_args, w_boolV, w_tOf, w_fAnd, w_fOr, w_fNot, w_eAnd, w_eOr, w_eIf, w_chain, w_optV, w_oNone, w_oSome, w_cut, o_cutT, o_cutL, w_pass, w_ret, w_if, w_seqV, w_seqR, w_seq, w_asgV, w_asg, w_gNm, w_gTp, w_gNl, w_gCn, w_par2V, w_par2, w_set, w_body, w_endD, w_endN, w_for, w_forN, w_loopN, w_loopR, w_forC, o_add, o_addB, o_sub, o_ord, o_lt, o_le, o_gt, o_ge, o_eqI, o_neI, o_eqB, o_not, o_neg, o_len_t, o_len_l, o_len_f, datL_nil, datL_cons, startR, List.map_cons, List.map_nil, List.length_cons, List.length_nil, List.replicate_succ, List.replicate_zero, List.cons_append, List.nil_append, List.getElem?_cons_zero, List.getElem?_cons_succ, List.set_cons_zero, List.set_cons_succ, List.take_length, Option.map_some, Option.map_none, List.append_nil, Nat.sub_self, w_idxV, w_idx_t, w_idx_l, w_idx_f, at0, at1, at2, cut1, w_call, w_tup, w_lst, Nat.reduceSub, Nat.reduceAdd, Nat.reduceLeDiff, if_true, reduceIte, Bool.not_true, Bool.not_false, Bool.false_eq_true, reduceCtorEq, w_isT, w_comp, w_datV, w_compN, w_rhoV, w_compC, w_okT, w_any, w_any_t, w_any_l, w_any_f, w_enum, w_enum_t, w_enum_l, w_zip, w_zip_t, w_zip_l, zip_nil, zip_nil2, zip_cons, w_range, tg_nm, tg_tp2, wipe_nil, wipe_cons, Nat.reduceLT, e6]
          | false =>
            simp only [wp_ok, wp_okD, wp_bind, w_var, w_varV, w_c, w_bin, w_un, w_nil, w_cons, w_args, w_boolV, w_tOf, w_fAnd, w_fOr, w_fNot, w_eAnd, w_eOr, w_eIf, w_chain, w_optV, w_oNone, w_oSome, w_cut, o_cutT, o_cutL, w_pass, w_ret, w_if, w_seqV, w_seqR, w_seq, w_asgV, w_asg, w_gNm, w_gTp, w_gNl, w_gCn, w_par2V, w_par2, w_set, w_body, w_endD, w_endN, w_for, w_forN, w_loopN, w_loopR, w_forC, o_add, o_addB, o_sub, o_ord, o_lt, o_le, o_gt, o_ge, o_eqI, o_neI, o_eqB, o_not, o_neg, o_len_t, o_len_l, o_len_f, datL_nil, datL_cons, startR, List.map_cons, List.map_nil, List.length_cons, List.length_nil, List.replicate_succ, List.replicate_zero, List.cons_append, List.nil_append, List.getElem?_cons_zero, List.getElem?_cons_succ, List.set_cons_zero, List.set_cons_succ, List.take_length, Option.map_some, Option.map_none, List.append_nil, Nat.sub_self, w_idxV, w_idx_t, w_idx_l, w_idx_f, at0, at1, at2, cut1, w_call, w_tup, w_lst, Nat.reduceSub, Nat.reduceAdd, Nat.reduceLeDiff, if_true, reduceIte, Bool.not_true, Bool.not_false, Bool.false_eq_true, reduceCtorEq, w_isT, w_comp, w_datV, w_compN, w_rhoV, w_compC, w_okT, w_any, w_any_t, w_any_l, w_any_f, w_enum, w_enum_t, w_enum_l, w_zip, w_zip_t, w_zip_l, zip_nil, zip_nil2, zip_cons, w_range, tg_nm, tg_tp2, wipe_nil, wipe_cons, Nat.reduceLT, is_int_w hb.nod]
            cases q2 : nm b 0 (k - 1) with
            | false => simp only [wp_ok, wp_okD, wp_bind, w_var, w_varV, w_c, w_bin, w_un, w_nil, w_cons, w_args, w_boolV, w_tOf, w_fAnd, w_fOr, w_fNot, w_eAnd, w_eOr, w_eIf, w_chain, w_optV, w_oNone, w_oSome, w_cut, o_cutT, o_cutL, w_pass, w_ret, w_if, w_seqV, w_seqR, w_seq, w_asgV, w_asg, w_gNm, w_gTp, w_gNl, w_gCn, w_par2V, w_par2, w_set, w_body, w_endD, w_endN, w_for, w_forN, w_loopN, w_loopR, w_forC, o_add, o_addB, o_sub, o_ord, o_lt, o_le, o_gt, o_ge, o_eqI, o_neI, o_eqB, o_not, o_neg, o_len_t, o_len_l, o_len_f, datL_nil, datL_cons, startR, List.map_cons, List.map_nil, List.length_cons, List.length_nil, List.replicate_succ, List.replicate_zero, List.cons_append, List.nil_append, List.getElem?_cons_zero, List.getElem?_cons_succ, List.set_cons_zero, List.set_cons_succ, List.take_length, Option.map_some, Option.map_none, List.append_nil, Nat.sub_self, w_idxV, w_idx_t, w_idx_l, w_idx_f, at0, at1, at2, cut1, w_call, w_tup, w_lst, Nat.reduceSub, Nat.reduceAdd, Nat.reduceLeDiff, if_true, reduceIte, Bool.not_true, Bool.not_false, Bool.false_eq_true, reduceCtorEq, w_isT, w_comp, w_datV, w_compN, w_rhoV, w_compC, w_okT, w_any, w_any_t, w_any_l, w_any_f, w_enum, w_enum_t, w_enum_l, w_zip, w_zip_t, w_zip_l, zip_nil, zip_nil2, zip_cons, w_range, tg_nm, tg_tp2, wipe_nil, wipe_cons, Nat.reduceLT]
            | true =>
              simp only [wp_ok, wp_okD, wp_bind, w_var, w_varV, w_c, w_bin, w_un, w_nil, w_cons, w_args, w_boolV, w_tOf, w_fAnd, w_fOr, w_fNot, w_eAnd, w_eOr, w_eIf, w_chain, w_optV, w_oNone, w_oSome, w_cut, o_cutT, o_cutL, w_pass, w_ret, w_if, w_seqV, w_seqR, w_seq, w_asgV, w_asg, w_gNm, w_gTp, w_gNl, w_gCn, w_par2V, w_par2, w_set, w_body, w_endD, w_endN, w_for, w_forN, w_loopN, w_loopR, w_forC, o_add, o_addB, o_sub, o_ord, o_lt, o_le, o_gt, o_ge, o_eqI, o_neI, o_eqB, o_not, o_neg, o_len_t, o_len_l, o_len_f, datL_nil, datL_cons, startR, List.map_cons, List.map_nil, List.length_cons, List.length_nil, List.replicate_succ, List.replicate_zero, List.cons_append, List.nil_append, List.getElem?_cons_zero, List.getElem?_cons_succ, List.set_cons_zero, List.set_cons_succ, List.take_length, Option.map_some, Option.map_none, List.append_nil, Nat.sub_self, w_idxV, w_idx_t, w_idx_l, w_idx_f, at0, at1, at2, cut1, w_call, w_tup, w_lst, Nat.reduceSub, Nat.reduceAdd, Nat.reduceLeDiff, if_true, reduceIte, Bool.not_true, Bool.not_false, Bool.false_eq_true, reduceCtorEq, w_isT, w_comp, w_datV, w_compN, w_rhoV, w_compC, w_okT, w_any, w_any_t, w_any_l, w_any_f, w_enum, w_enum_t, w_enum_l, w_zip, w_zip_t, w_zip_l, zip_nil, zip_nil2, zip_cons, w_range, tg_nm, tg_tp2, wipe_nil, wipe_cons, Nat.reduceLT, w_eqS ha s2, e7]
              cases q3 : PyData.eqv (.str w) (.str "back") with
              | true => simp only [wp_ok, wp_okD, wp_bind, w_var, w_varV, w_c, w_bin, w_un, w_nil, w_cons, w_args, w_boolV, w_tOf, w_fAnd, w_fOr, w_fNot, w_eAnd, w_eOr, w_eIf, w_chain, w_optV, w_oNone, w_oSome, w_cut, o_cutT, o_cutL, w_pass, w_ret, w_if, w_seqV, w_seqR, w_seq, w_asgV, w_asg, w_gNm, w_gTp, w_gNl, w_gCn, w_par2V, w_par2, w_set, w_body, w_endD, w_endN, w_for, w_forN, w_loopN, w_loopR, w_forC, o_add, o_addB, o_sub, o_ord, o_lt, o_le, o_gt, o_ge, o_eqI, o_neI, o_eqB, o_not, o_neg, o_len_t, o_len_l, o_len_f, datL_nil, datL_cons, startR, List.map_cons, List.map_nil, List.length_cons, List.length_nil, List.replicate_succ, List.replicate_zero, List.cons_append, List.nil_append, List.getElem?_cons_zero, List.getElem?_cons_succ, List.set_cons_zero, List.set_cons_succ, List.take_length, Option.map_some, Option.map_none, List.append_nil, Nat.sub_self, w_idxV, w_idx_t, w_idx_l, w_idx_f, at0, at1, at2, cut1, w_call, w_tup, w_lst, Nat.reduceSub, Nat.reduceAdd, Nat.reduceLeDiff, if_true, reduceIte, Bool.not_true, Bool.not_false, Bool.false_eq_true, reduceCtorEq, w_isT, w_comp, w_datV, w_compN, w_rhoV, w_compC, w_okT, w_any, w_any_t, w_any_l, w_any_f, w_enum, w_enum_t, w_enum_l, w_zip, w_zip_t, w_zip_l, zip_nil, zip_nil2, zip_cons, w_range, tg_nm, tg_tp2, wipe_nil, wipe_cons, Nat.reduceLT, w_eqS ha s2, q3, e6]
              | false => simp only [wp_ok, wp_okD, wp_bind, w_var, w_varV, w_c, w_bin, w_un, w_nil, w_cons, w_args, w_boolV, w_tOf, w_fAnd, w_fOr, w_fNot, w_eAnd, w_eOr, w_eIf, w_chain, w_optV, w_oNone, w_oSome, w_cut, o_cutT, o_cutL, w_pass, w_ret, w_if, w_seqV, w_seqR, w_seq, w_asgV, w_asg, w_gNm, w_gTp, w_gNl, w_gCn, w_par2V, w_par2, w_set, w_body, w_endD, w_endN, w_for, w_forN, w_loopN, w_loopR, w_forC, o_add, o_addB, o_sub, o_ord, o_lt, o_le, o_gt, o_ge, o_eqI, o_neI, o_eqB, o_not, o_neg, o_len_t, o_len_l, o_len_f, datL_nil, datL_cons, startR, List.map_cons, List.map_nil, List.length_cons, List.length_nil, List.replicate_succ, List.replicate_zero, List.cons_append, List.nil_append, List.getElem?_cons_zero, List.getElem?_cons_succ, List.set_cons_zero, List.set_cons_succ, List.take_length, Option.map_some, Option.map_none, List.append_nil, Nat.sub_self, w_idxV, w_idx_t, w_idx_l, w_idx_f, at0, at1, at2, cut1, w_call, w_tup, w_lst, Nat.reduceSub, Nat.reduceAdd, Nat.reduceLeDiff, if_true, reduceIte, Bool.not_true, Bool.not_false, Bool.false_eq_true, reduceCtorEq, w_isT, w_comp, w_datV, w_compN, w_rhoV, w_compC, w_okT, w_any, w_any_t, w_any_l, w_any_f, w_enum, w_enum_t, w_enum_l, w_zip, w_zip_t, w_zip_l, zip_nil, zip_nil2, zip_cons, w_range, tg_nm, tg_tp2, wipe_nil, wipe_cons, Nat.reduceLT, w_eqS ha s2, q3, e6]
      | _ =>
        rcases r with _ | ⟨c, _ | ⟨d, r⟩⟩ <;> simp [wp_ok, wp_okD, wp_bind, w_var, w_varV, w_c, w_bin, w_un, w_nil, w_cons, w_args, w_boolV, w_tOf, w_fAnd, w_fOr, w_fNot, w_eAnd, w_eOr, w_eIf, w_chain, w_optV, w_oNone, w_oSome, w_cut, o_cutT, o_cutL, w_pass, w_ret, w_if, w_seqV, w_seqR, w_seq, w_asgV, w_asg, w_gNm, w_gTp, w_gNl, w_gCn, w_par2V, w_par2, w_set, w_body, w_endD, w_endN, w_for, w_forN, w_loopN, w_loopR, w_forC, o_add, o_addB, o_sub, o_ord, o_lt, o_le, o_gt, o_ge, o_eqI, o_neI, o_eqB, o_not, o_neg, o_len_t, o_len_l, o_len_f, datL_nil, datL_cons, startR, List.map_cons, List.map_nil, List.length_cons, List.length_nil, List.replicate_succ, List.replicate_zero, List.cons_append, List.nil_append, List.getElem?_cons_zero, List.getElem?_cons_succ, List.set_cons_zero, List.set_cons_succ, List.take_length, Option.map_some, Option.map_none, List.append_nil, Nat.sub_self, w_idxV, w_idx_t, w_idx_l, w_idx_f, at0, at1, at2, cut1, w_call, w_tup, w_lst, Nat.reduceSub, Nat.reduceAdd, Nat.reduceLeDiff, if_true, reduceIte, Bool.not_true, Bool.not_false, Bool.false_eq_true, reduceCtorEq, w_isT, w_comp, w_datV, w_compN, w_rhoV, w_compC, w_okT, w_any, w_any_t, w_any_l, w_any_f, w_enum, w_enum_t, w_enum_l, w_zip, w_zip_t, w_zip_l, zip_nil, zip_nil2, zip_cons, w_range, tg_nm, tg_tp2, wipe_nil, wipe_cons, Nat.reduceLT, isT, row]
  | _ => simp [wp_ok, wp_okD, wp_bind, w_var, w_varV, w_c, w_bin, w_un, w_nil, w_cons, w_args, w_boolV, w_tOf, w_fAnd, w_fOr, w_fNot, w_eAnd, w_eOr, w_eIf, w_chain, w_optV, w_oNone, w_oSome, w_cut, o_cutT, o_cutL, w_pass, w_ret, w_if, w_seqV, w_seqR, w_seq, w_asgV, w_asg, w_gNm, w_gTp, w_gNl, w_gCn, w_par2V, w_par2, w_set, w_body, w_endD, w_endN, w_for, w_forN, w_loopN, w_loopR, w_forC, o_add, o_addB, o_sub, o_ord, o_lt, o_le, o_gt, o_ge, o_eqI, o_neI, o_eqB, o_not, o_neg, o_len_t, o_len_l, o_len_f, datL_nil, datL_cons, startR, List.map_cons, List.map_nil, List.length_cons, List.length_nil, List.replicate_succ, List.replicate_zero, List.cons_append, List.nil_append, List.getElem?_cons_zero, List.getElem?_cons_succ, List.set_cons_zero, List.set_cons_succ, List.take_length, Option.map_some, Option.map_none, List.append_nil, Nat.sub_self, w_idxV, w_idx_t, w_idx_l, w_idx_f, at0, at1, at2, cut1, w_call, w_tup, w_lst, Nat.reduceSub, Nat.reduceAdd, Nat.reduceLeDiff, if_true, reduceIte, Bool.not_true, Bool.not_false, Bool.false_eq_true, reduceCtorEq, w_isT, w_comp, w_datV, w_compN, w_rhoV, w_compC, w_okT, w_any, w_any_t, w_any_l, w_any_f, w_enum, w_enum_t, w_enum_l, w_zip, w_zip_t, w_zip_l, zip_nil, zip_nil2, zip_cons, w_range, tg_nm, tg_tp2, wipe_nil, wipe_cons, Nat.reduceLT, isT, row]
end K01
set_option Elab.async false
set_option linter.all false
set_option maxRecDepth 100000
set_option maxHeartbeats 4000000
namespace K01
open PySem PySem.Spec PyProof.Rows L2 DN
def methQ (T : String) (v : Val) (μ : Mem) (P : Prop) : Prop := match deref μ v with
  | some d => if isTyp T d = true then P else False
  | none => False
theorem w_meth {T : String} {g : Val → List Val → Mem → Res Val} {fo : FE} {fl : FL} {ρ : Rho} {μ : Mem} {Q : Val → Mem → Prop} : wp (eMeth T g fo fl ρ μ) Q = wp (fo ρ μ) fun v μ1 => methQ T v μ1 (wp (fl ρ μ1) fun as μ2 => wp (g v as μ2) Q) := by
  unfold eMeth; rw [wp_bind]; congr; funext v μ1
  unfold methQ
  cases deref μ1 v with
  | none => rfl
  | some d =>
    dsimp only
    by_cases h : isTyp T d = true
    · simp only [h, if_true, wp_bind]
    · simp only [h, if_false]; rfl
theorem w_methL {ds : List PyData} {μ : Mem} {P : Prop} : methQ "list" (.dat (.list ds)) μ P = P := rfl
def rowsB : Nat → List PyData → Bool
  | _, [] => true
  | i, d :: ds => row d (i : Nat) && rowsB (i + 1) ds
def w0 (v : PyData) : PyData := match v with
  | .tuple (a :: _) => a
  | _ => .none
def joinB (v : PyData) : Bool := PyData.eqv (w0 v) (.str "join")
def scr (v : PyData) : Bool := match v with
  | .tuple ds => decide (1 ≤ ds.length) && (decide (ds.length ≤ 6) && (rowsB 0 ds && decide (((ds.filter joinB).length : Int) < 3)))
  | _ => false
theorem enum_mem : ∀ {ds : List PyData} {k : Nat} {e : PyData}, e ∈ enumD k ds → ∃ (i : Nat) (d : PyData), e = .tuple [.int (i : Nat), d] ∧ d ∈ ds
  | [], _, _, h => by cases h
  | d :: ds, k, e, h => by
    unfold enumD at h
    rcases List.mem_cons.mp h with h | h
    · exact ⟨k, d, h, List.mem_cons_self⟩
    · obtain ⟨i, d', e1, h1⟩ := enum_mem h
      exact ⟨i, d', e1, List.mem_cons_of_mem _ h1⟩
def hrow (v : PyData) : PyData := match v with
  | .tuple [.int i, d] => .bool (row d i)
  | v => v
def erho (a : Option Val) (v : PyData) : Rho := match v with
  | .tuple [i, d] => [a, some (.dat i), some (.dat d)]
  | _ => []
theorem rows_bools : ∀ (ds : List PyData) (k : Nat), ∃ bs, boolsD ((enumD k ds).map hrow) = some bs ∧ bs.all id = rowsB k ds
  | [], _ => ⟨[], rfl, rfl⟩
  | d :: ds, k => by
    obtain ⟨bs, h1, h2⟩ := rows_bools ds (k + 1)
    refine ⟨row d (k : Nat) :: bs, ?_, ?_⟩
    · unfold enumD
      rw [List.map_cons]
      show boolsD (.bool (row d (k : Nat)) :: _) = _
      unfold boolsD
      rw [h1]
    · rw [List.all_cons, h2]; rfl
theorem row_str {v : PyData} {k : Int} (h : row v k = true) : ∃ w r, v = .tuple (.str w :: r) := by
  unfold row at h
  split at h
  · exact ⟨_, _, rfl⟩
  · exact ⟨_, _, rfl⟩
  · cases h
theorem rows_str : ∀ {ds : List PyData} {k : Nat}, rowsB k ds = true → ∀ d ∈ ds, ∃ w r, d = .tuple (.str w :: r)
  | [], _, _, d, hd => by cases hd
  | d :: ds, k, h, e, he => by
    unfold rowsB at h
    rw [Bool.and_eq_true] at h
    rcases List.mem_cons.mp he with q | q
    · rw [q]; exact row_str h.1
    · exact rows_str h.2 e q
theorem good_scr_w {m n : Nat} {v : PyData} {μ : Mem} {Q : Val → Mem → Prop} (hn : n ≤ 40) (hm : m ≤ 1000) (h : wf m n v) : wp (F_is_good_script [.dat v] μ) Q = Q (.dat (.bool (scr v))) μ := by
  have key : ∀ Q : Val → Mem → Prop, Q (.dat (.bool (scr v))) μ → wp (F_is_good_script [.dat v] μ) Q := by
    intro Q hQ
    unfold F_is_good_script b_is_good_script
    simp only [wp_ok, wp_okD, wp_bind, w_var, w_varV, w_c, w_bin, w_un, w_nil, w_cons, w_args, w_boolV, w_tOf, w_fAnd, w_fOr, w_fNot, w_eAnd, w_eOr, w_eIf, w_chain, w_optV, w_oNone, w_oSome, w_cut, o_cutT, o_cutL, w_pass, w_ret, w_if, w_seqV, w_seqR, w_seq, w_asgV, w_asg, w_gNm, w_gTp, w_gNl, w_gCn, w_par2V, w_par2, w_set, w_body, w_endD, w_endN, w_for, w_forN, w_loopN, w_loopR, w_forC, o_add, o_addB, o_sub, o_ord, o_lt, o_le, o_gt, o_ge, o_eqI, o_neI, o_eqB, o_not, o_neg, o_len_t, o_len_l, o_len_f, datL_nil, datL_cons, startR, List.map_cons, List.map_nil, List.length_cons, List.length_nil, List.replicate_succ, List.replicate_zero, List.cons_append, List.nil_append, List.getElem?_cons_zero, List.getElem?_cons_succ, List.set_cons_zero, List.set_cons_succ, List.take_length, Option.map_some, Option.map_none, List.append_nil, Nat.sub_self, w_idxV, w_idx_t, w_idx_l, w_idx_f, at0, at1, at2, cut1, w_call, w_tup, w_lst, Nat.reduceSub, Nat.reduceAdd, Nat.reduceLeDiff, if_true, reduceIte, Bool.not_true, Bool.not_false, Bool.false_eq_true, reduceCtorEq, w_isT, w_comp, w_datV, w_compN, w_rhoV, w_compC, w_okT, w_any, w_any_t, w_any_l, w_any_f, w_enum, w_enum_t, w_enum_l, w_zip, w_zip_t, w_zip_l, zip_nil, zip_nil2, zip_cons, w_range, tg_nm, tg_tp2, wipe_nil, wipe_cons, Nat.reduceLT, tuple_w h.nod]
    cases q : tp v 1 6 with
    | false =>
      have e5 : scr v = false := by
        cases v with
        | tuple ds =>
          simp only [tp, Bool.and_eq_false_iff, decide_eq_false_iff_not] at q
          simp only [scr, Bool.and_eq_false_iff, decide_eq_false_iff_not]
          rcases q with q | q
          · left; omega
          · right; left; omega
        | _ => rfl
      rw [e5] at hQ
      simp only [wp_ok, wp_okD, wp_bind, w_var, w_varV, w_c, w_bin, w_un, w_nil, w_cons, w_args, w_boolV, w_tOf, w_fAnd, w_fOr, w_fNot, w_eAnd, w_eOr, w_eIf, w_chain, w_optV, w_oNone, w_oSome, w_cut, o_cutT, o_cutL, w_pass, w_ret, w_if, w_seqV, w_seqR, w_seq, w_asgV, w_asg, w_gNm, w_gTp, w_gNl, w_gCn, w_par2V, w_par2, w_set, w_body, w_endD, w_endN, w_for, w_forN, w_loopN, w_loopR, w_forC, o_add, o_addB, o_sub, o_ord, o_lt, o_le, o_gt, o_ge, o_eqI, o_neI, o_eqB, o_not, o_neg, o_len_t, o_len_l, o_len_f, datL_nil, datL_cons, startR, List.map_cons, List.map_nil, List.length_cons, List.length_nil, List.replicate_succ, List.replicate_zero, List.cons_append, List.nil_append, List.getElem?_cons_zero, List.getElem?_cons_succ, List.set_cons_zero, List.set_cons_succ, List.take_length, Option.map_some, Option.map_none, List.append_nil, Nat.sub_self, w_idxV, w_idx_t, w_idx_l, w_idx_f, at0, at1, at2, cut1, w_call, w_tup, w_lst, Nat.reduceSub, Nat.reduceAdd, Nat.reduceLeDiff, if_true, reduceIte, Bool.not_true, Bool.not_false, Bool.false_eq_true, reduceCtorEq, w_isT, w_comp, w_datV, w_compN, w_rhoV, w_compC, w_okT, w_any, w_any_t, w_any_l, w_any_f, w_enum, w_enum_t, w_enum_l, w_zip, w_zip_t, w_zip_l, zip_nil, zip_nil2, zip_cons, w_range, tg_nm, tg_tp2, wipe_nil, wipe_cons, Nat.reduceLT]
      exact hQ
    | true =>
      cases v with
      | tuple ds =>
        obtain ⟨k, rfl, hl, hw⟩ := wf_tup h
        have hk : k ≤ 40 := by omega
        simp only [tp, Bool.and_eq_true, decide_eq_true_eq] at q
        have l1 : (enumD 0 ds).length < 16777216 := by rw [enumD_len]; omega
        have l2 : ds.length < 16777216 := by omega
        simp only [wp_ok, wp_okD, wp_bind, w_var, w_varV, w_c, w_bin, w_un, w_nil, w_cons, w_args, w_boolV, w_tOf, w_fAnd, w_fOr, w_fNot, w_eAnd, w_eOr, w_eIf, w_chain, w_optV, w_oNone, w_oSome, w_cut, o_cutT, o_cutL, w_pass, w_ret, w_if, w_seqV, w_seqR, w_seq, w_asgV, w_asg, w_gNm, w_gTp, w_gNl, w_gCn, w_par2V, w_par2, w_set, w_body, w_endD, w_endN, w_for, w_forN, w_loopN, w_loopR, w_forC, o_add, o_addB, o_sub, o_ord, o_lt, o_le, o_gt, o_ge, o_eqI, o_neI, o_eqB, o_not, o_neg, o_len_t, o_len_l, o_len_f, datL_nil, datL_cons, startR, List.map_cons, List.map_nil, List.length_cons, List.length_nil, List.replicate_succ, List.replicate_zero, List.cons_append, List.nil_append, List.getElem?_cons_zero, List.getElem?_cons_succ, List.set_cons_zero, List.set_cons_succ, List.take_length, Option.map_some, Option.map_none, List.append_nil, Nat.sub_self, w_idxV, w_idx_t, w_idx_l, w_idx_f, at0, at1, at2, cut1, w_call, w_tup, w_lst, Nat.reduceSub, Nat.reduceAdd, Nat.reduceLeDiff, if_true, reduceIte, Bool.not_true, Bool.not_false, Bool.false_eq_true, reduceCtorEq, w_isT, w_comp, w_datV, w_compN, w_rhoV, w_compC, w_okT, w_any, w_any_t, w_any_l, w_any_f, w_enum, w_enum_t, w_enum_l, w_zip, w_zip_t, w_zip_l, zip_nil, zip_nil2, zip_cons, w_range, tg_nm, tg_tp2, wipe_nil, wipe_cons, Nat.reduceLT, l1, l2]
        rw [cmp_map (r := erho (some (.dat (.tuple ds)))) (h := hrow) (enumD 0 ds) (fun e he => by
            obtain ⟨i, d, rfl, hd⟩ := enum_mem he
            rfl) (fun e he Q hQ => by
            obtain ⟨i, d, rfl, hd⟩ := enum_mem he
            simp only [erho, wp_ok, wp_okD, wp_bind, w_var, w_varV, w_c, w_bin, w_un, w_nil, w_cons, w_args, w_boolV, w_tOf, w_fAnd, w_fOr, w_fNot, w_eAnd, w_eOr, w_eIf, w_chain, w_optV, w_oNone, w_oSome, w_cut, o_cutT, o_cutL, w_pass, w_ret, w_if, w_seqV, w_seqR, w_seq, w_asgV, w_asg, w_gNm, w_gTp, w_gNl, w_gCn, w_par2V, w_par2, w_set, w_body, w_endD, w_endN, w_for, w_forN, w_loopN, w_loopR, w_forC, o_add, o_addB, o_sub, o_ord, o_lt, o_le, o_gt, o_ge, o_eqI, o_neI, o_eqB, o_not, o_neg, o_len_t, o_len_l, o_len_f, datL_nil, datL_cons, startR, List.map_cons, List.map_nil, List.length_cons, List.length_nil, List.replicate_succ, List.replicate_zero, List.cons_append, List.nil_append, List.getElem?_cons_zero, List.getElem?_cons_succ, List.set_cons_zero, List.set_cons_succ, List.take_length, Option.map_some, Option.map_none, List.append_nil, Nat.sub_self, w_idxV, w_idx_t, w_idx_l, w_idx_f, at0, at1, at2, cut1, w_call, w_tup, w_lst, Nat.reduceSub, Nat.reduceAdd, Nat.reduceLeDiff, if_true, reduceIte, Bool.not_true, Bool.not_false, Bool.false_eq_true, reduceCtorEq, w_isT, w_comp, w_datV, w_compN, w_rhoV, w_compC, w_okT, w_any, w_any_t, w_any_l, w_any_f, w_enum, w_enum_t, w_enum_l, w_zip, w_zip_t, w_zip_l, zip_nil, zip_nil2, zip_cons, w_range, tg_nm, tg_tp2, wipe_nil, wipe_cons, Nat.reduceLT, row_w hk hm (hw d hd)]
            exact hQ)]
        obtain ⟨bs, hb1, hb2⟩ := rows_bools ds 0
        rw [w_all hb1, hb2]
        have e5 : scr (.tuple ds) = (rowsB 0 ds && decide (((ds.filter joinB).length : Int) < 3)) := by
          simp only [scr]
          rw [decide_eq_true (by omega : 1 ≤ ds.length), decide_eq_true (by omega : ds.length ≤ 6)]
          simp
        rw [e5] at hQ
        cases g : rowsB 0 ds with
        | false =>
          rw [g] at hQ
          simp only [wp_ok, wp_okD, wp_bind, w_var, w_varV, w_c, w_bin, w_un, w_nil, w_cons, w_args, w_boolV, w_tOf, w_fAnd, w_fOr, w_fNot, w_eAnd, w_eOr, w_eIf, w_chain, w_optV, w_oNone, w_oSome, w_cut, o_cutT, o_cutL, w_pass, w_ret, w_if, w_seqV, w_seqR, w_seq, w_asgV, w_asg, w_gNm, w_gTp, w_gNl, w_gCn, w_par2V, w_par2, w_set, w_body, w_endD, w_endN, w_for, w_forN, w_loopN, w_loopR, w_forC, o_add, o_addB, o_sub, o_ord, o_lt, o_le, o_gt, o_ge, o_eqI, o_neI, o_eqB, o_not, o_neg, o_len_t, o_len_l, o_len_f, datL_nil, datL_cons, startR, List.map_cons, List.map_nil, List.length_cons, List.length_nil, List.replicate_succ, List.replicate_zero, List.cons_append, List.nil_append, List.getElem?_cons_zero, List.getElem?_cons_succ, List.set_cons_zero, List.set_cons_succ, List.take_length, Option.map_some, Option.map_none, List.append_nil, Nat.sub_self, w_idxV, w_idx_t, w_idx_l, w_idx_f, at0, at1, at2, cut1, w_call, w_tup, w_lst, Nat.reduceSub, Nat.reduceAdd, Nat.reduceLeDiff, if_true, reduceIte, Bool.not_true, Bool.not_false, Bool.false_eq_true, reduceCtorEq, w_isT, w_comp, w_datV, w_compN, w_rhoV, w_compC, w_okT, w_any, w_any_t, w_any_l, w_any_f, w_enum, w_enum_t, w_enum_l, w_zip, w_zip_t, w_zip_l, zip_nil, zip_nil2, zip_cons, w_range, tg_nm, tg_tp2, wipe_nil, wipe_cons, Nat.reduceLT]
          exact hQ
        | true =>
          rw [g] at hQ
          simp only [wp_ok, wp_okD, wp_bind, w_var, w_varV, w_c, w_bin, w_un, w_nil, w_cons, w_args, w_boolV, w_tOf, w_fAnd, w_fOr, w_fNot, w_eAnd, w_eOr, w_eIf, w_chain, w_optV, w_oNone, w_oSome, w_cut, o_cutT, o_cutL, w_pass, w_ret, w_if, w_seqV, w_seqR, w_seq, w_asgV, w_asg, w_gNm, w_gTp, w_gNl, w_gCn, w_par2V, w_par2, w_set, w_body, w_endD, w_endN, w_for, w_forN, w_loopN, w_loopR, w_forC, o_add, o_addB, o_sub, o_ord, o_lt, o_le, o_gt, o_ge, o_eqI, o_neI, o_eqB, o_not, o_neg, o_len_t, o_len_l, o_len_f, datL_nil, datL_cons, startR, List.map_cons, List.map_nil, List.length_cons, List.length_nil, List.replicate_succ, List.replicate_zero, List.cons_append, List.nil_append, List.getElem?_cons_zero, List.getElem?_cons_succ, List.set_cons_zero, List.set_cons_succ, List.take_length, Option.map_some, Option.map_none, List.append_nil, Nat.sub_self, w_idxV, w_idx_t, w_idx_l, w_idx_f, at0, at1, at2, cut1, w_call, w_tup, w_lst, Nat.reduceSub, Nat.reduceAdd, Nat.reduceLeDiff, if_true, reduceIte, Bool.not_true, Bool.not_false, Bool.false_eq_true, reduceCtorEq, w_isT, w_comp, w_datV, w_compN, w_rhoV, w_compC, w_okT, w_any, w_any_t, w_any_l, w_any_f, w_enum, w_enum_t, w_enum_l, w_zip, w_zip_t, w_zip_l, zip_nil, zip_nil2, zip_cons, w_range, tg_nm, tg_tp2, wipe_nil, wipe_cons, Nat.reduceLT]
          rw [cmp_filter (r := fun d => [some (.dat (.tuple ds)), none, some (.dat d)]) (h := id) (c := joinB) ds (fun d hd => rfl) (fun d hd Q hQ => by
              obtain ⟨w, r, rfl⟩ := rows_str g d hd
              obtain ⟨k', rfl, _, hw2⟩ := wf_tup (hw _ hd)
              simp only [wp_ok, wp_okD, wp_bind, w_var, w_varV, w_c, w_bin, w_un, w_nil, w_cons, w_args, w_boolV, w_tOf, w_fAnd, w_fOr, w_fNot, w_eAnd, w_eOr, w_eIf, w_chain, w_optV, w_oNone, w_oSome, w_cut, o_cutT, o_cutL, w_pass, w_ret, w_if, w_seqV, w_seqR, w_seq, w_asgV, w_asg, w_gNm, w_gTp, w_gNl, w_gCn, w_par2V, w_par2, w_set, w_body, w_endD, w_endN, w_for, w_forN, w_loopN, w_loopR, w_forC, o_add, o_addB, o_sub, o_ord, o_lt, o_le, o_gt, o_ge, o_eqI, o_neI, o_eqB, o_not, o_neg, o_len_t, o_len_l, o_len_f, datL_nil, datL_cons, startR, List.map_cons, List.map_nil, List.length_cons, List.length_nil, List.replicate_succ, List.replicate_zero, List.cons_append, List.nil_append, List.getElem?_cons_zero, List.getElem?_cons_succ, List.set_cons_zero, List.set_cons_succ, List.take_length, Option.map_some, Option.map_none, List.append_nil, Nat.sub_self, w_idxV, w_idx_t, w_idx_l, w_idx_f, at0, at1, at2, cut1, w_call, w_tup, w_lst, Nat.reduceSub, Nat.reduceAdd, Nat.reduceLeDiff, if_true, reduceIte, Bool.not_true, Bool.not_false, Bool.false_eq_true, reduceCtorEq, w_isT, w_comp, w_datV, w_compN, w_rhoV, w_compC, w_okT, w_any, w_any_t, w_any_l, w_any_f, w_enum, w_enum_t, w_enum_l, w_zip, w_zip_t, w_zip_l, zip_nil, zip_nil2, zip_cons, w_range, tg_nm, tg_tp2, wipe_nil, wipe_cons, Nat.reduceLT, w_eqS (hw2 (.str w) List.mem_cons_self) s5]
              exact hQ) (fun d hd Q hQ => by
              simp only [wp_ok, wp_okD, wp_bind, w_var, w_varV, w_c, w_bin, w_un, w_nil, w_cons, w_args, w_boolV, w_tOf, w_fAnd, w_fOr, w_fNot, w_eAnd, w_eOr, w_eIf, w_chain, w_optV, w_oNone, w_oSome, w_cut, o_cutT, o_cutL, w_pass, w_ret, w_if, w_seqV, w_seqR, w_seq, w_asgV, w_asg, w_gNm, w_gTp, w_gNl, w_gCn, w_par2V, w_par2, w_set, w_body, w_endD, w_endN, w_for, w_forN, w_loopN, w_loopR, w_forC, o_add, o_addB, o_sub, o_ord, o_lt, o_le, o_gt, o_ge, o_eqI, o_neI, o_eqB, o_not, o_neg, o_len_t, o_len_l, o_len_f, datL_nil, datL_cons, startR, List.map_cons, List.map_nil, List.length_cons, List.length_nil, List.replicate_succ, List.replicate_zero, List.cons_append, List.nil_append, List.getElem?_cons_zero, List.getElem?_cons_succ, List.set_cons_zero, List.set_cons_succ, List.take_length, Option.map_some, Option.map_none, List.append_nil, Nat.sub_self, w_idxV, w_idx_t, w_idx_l, w_idx_f, at0, at1, at2, cut1, w_call, w_tup, w_lst, Nat.reduceSub, Nat.reduceAdd, Nat.reduceLeDiff, if_true, reduceIte, Bool.not_true, Bool.not_false, Bool.false_eq_true, reduceCtorEq, w_isT, w_comp, w_datV, w_compN, w_rhoV, w_compC, w_okT, w_any, w_any_t, w_any_l, w_any_f, w_enum, w_enum_t, w_enum_l, w_zip, w_zip_t, w_zip_l, zip_nil, zip_nil2, zip_cons, w_range, tg_nm, tg_tp2, wipe_nil, wipe_cons, Nat.reduceLT]
              exact hQ)]
          simp only [wp_ok, wp_okD, wp_bind, w_var, w_varV, w_c, w_bin, w_un, w_nil, w_cons, w_args, w_boolV, w_tOf, w_fAnd, w_fOr, w_fNot, w_eAnd, w_eOr, w_eIf, w_chain, w_optV, w_oNone, w_oSome, w_cut, o_cutT, o_cutL, w_pass, w_ret, w_if, w_seqV, w_seqR, w_seq, w_asgV, w_asg, w_gNm, w_gTp, w_gNl, w_gCn, w_par2V, w_par2, w_set, w_body, w_endD, w_endN, w_for, w_forN, w_loopN, w_loopR, w_forC, o_add, o_addB, o_sub, o_ord, o_lt, o_le, o_gt, o_ge, o_eqI, o_neI, o_eqB, o_not, o_neg, o_len_t, o_len_l, o_len_f, datL_nil, datL_cons, startR, List.map_cons, List.map_nil, List.length_cons, List.length_nil, List.replicate_succ, List.replicate_zero, List.cons_append, List.nil_append, List.getElem?_cons_zero, List.getElem?_cons_succ, List.set_cons_zero, List.set_cons_succ, List.take_length, Option.map_some, Option.map_none, List.append_nil, Nat.sub_self, w_idxV, w_idx_t, w_idx_l, w_idx_f, at0, at1, at2, cut1, w_call, w_tup, w_lst, Nat.reduceSub, Nat.reduceAdd, Nat.reduceLeDiff, if_true, reduceIte, Bool.not_true, Bool.not_false, Bool.false_eq_true, reduceCtorEq, w_isT, w_comp, w_datV, w_compN, w_rhoV, w_compC, w_okT, w_any, w_any_t, w_any_l, w_any_f, w_enum, w_enum_t, w_enum_l, w_zip, w_zip_t, w_zip_l, zip_nil, zip_nil2, zip_cons, w_range, tg_nm, tg_tp2, wipe_nil, wipe_cons, Nat.reduceLT, List.map_id]
          exact hQ
      | _ => simp [tp] at q
  obtain ⟨a, μ', e, h1, h2⟩ := wp_ex (key (fun a μ' => a = .dat (.bool (scr v)) ∧ μ' = μ) ⟨rfl, rfl⟩)
  rw [e, h1, h2]
  rfl
theorem scr_loop {m n : Nat} {v : Option Val} {μ : Mem} {QS : Flo × Rho → Mem → Prop} (hn : n ≤ 40) (hm : m ≤ 1000) : ∀ (ds : List PyData) (k : Nat) (x y : Option Val), (∀ d ∈ ds, wf m n d) →
    (rowsB k ds = true → ∀ x y, QS (.nx, [v, x, y]) μ) → (rowsB k ds = false → ∀ ρ, QS (.rt (.dat (.bool false)), ρ) μ) → wp (forD (gTp 2 (gCn (gNm 1) (gCn (gNm 2) gNl))) lb_l_is_script_0 (enumD k ds) [v, x, y] μ) QS
  | [], k, x, y, _, h1, _ => h1 rfl _ _
  | d :: ds, k, x, y, hw, h1, h2 => by
    unfold enumD
    rw [w_forG (ρ0 := [v, some (.dat (.int (k : Nat))), some (.dat d)]) rfl]
    unfold lb_l_is_script_0
    simp only [wp_ok, wp_okD, wp_bind, w_var, w_varV, w_c, w_bin, w_un, w_nil, w_cons, w_args, w_boolV, w_tOf, w_fAnd, w_fOr, w_fNot, w_eAnd, w_eOr, w_eIf, w_chain, w_optV, w_oNone, w_oSome, w_cut, o_cutT, o_cutL, w_pass, w_ret, w_if, w_seqV, w_seqR, w_seq, w_asgV, w_asg, w_gNm, w_gTp, w_gNl, w_gCn, w_par2V, w_par2, w_set, w_body, w_endD, w_endN, w_for, w_forN, w_loopN, w_loopR, w_forC, o_add, o_addB, o_sub, o_ord, o_lt, o_le, o_gt, o_ge, o_eqI, o_neI, o_eqB, o_not, o_neg, o_len_t, o_len_l, o_len_f, datL_nil, datL_cons, startR, List.map_cons, List.map_nil, List.length_cons, List.length_nil, List.replicate_succ, List.replicate_zero, List.cons_append, List.nil_append, List.getElem?_cons_zero, List.getElem?_cons_succ, List.set_cons_zero, List.set_cons_succ, List.take_length, Option.map_some, Option.map_none, List.append_nil, Nat.sub_self, w_idxV, w_idx_t, w_idx_l, w_idx_f, at0, at1, at2, cut1, w_call, w_tup, w_lst, Nat.reduceSub, Nat.reduceAdd, Nat.reduceLeDiff, if_true, reduceIte, Bool.not_true, Bool.not_false, Bool.false_eq_true, reduceCtorEq, w_isT, w_comp, w_datV, w_compN, w_rhoV, w_compC, w_okT, w_any, w_any_t, w_any_l, w_any_f, w_enum, w_enum_t, w_enum_l, w_zip, w_zip_t, w_zip_l, zip_nil, zip_nil2, zip_cons, w_range, tg_nm, tg_tp2, wipe_nil, wipe_cons, Nat.reduceLT, law_row_w hn hm (hw d List.mem_cons_self)]
    cases q : row d (k : Nat) with
    | false =>
      simp only [wp_ok, wp_okD, wp_bind, w_var, w_varV, w_c, w_bin, w_un, w_nil, w_cons, w_args, w_boolV, w_tOf, w_fAnd, w_fOr, w_fNot, w_eAnd, w_eOr, w_eIf, w_chain, w_optV, w_oNone, w_oSome, w_cut, o_cutT, o_cutL, w_pass, w_ret, w_if, w_seqV, w_seqR, w_seq, w_asgV, w_asg, w_gNm, w_gTp, w_gNl, w_gCn, w_par2V, w_par2, w_set, w_body, w_endD, w_endN, w_for, w_forN, w_loopN, w_loopR, w_forC, o_add, o_addB, o_sub, o_ord, o_lt, o_le, o_gt, o_ge, o_eqI, o_neI, o_eqB, o_not, o_neg, o_len_t, o_len_l, o_len_f, datL_nil, datL_cons, startR, List.map_cons, List.map_nil, List.length_cons, List.length_nil, List.replicate_succ, List.replicate_zero, List.cons_append, List.nil_append, List.getElem?_cons_zero, List.getElem?_cons_succ, List.set_cons_zero, List.set_cons_succ, List.take_length, Option.map_some, Option.map_none, List.append_nil, Nat.sub_self, w_idxV, w_idx_t, w_idx_l, w_idx_f, at0, at1, at2, cut1, w_call, w_tup, w_lst, Nat.reduceSub, Nat.reduceAdd, Nat.reduceLeDiff, if_true, reduceIte, Bool.not_true, Bool.not_false, Bool.false_eq_true, reduceCtorEq, w_isT, w_comp, w_datV, w_compN, w_rhoV, w_compC, w_okT, w_any, w_any_t, w_any_l, w_any_f, w_enum, w_enum_t, w_enum_l, w_zip, w_zip_t, w_zip_l, zip_nil, zip_nil2, zip_cons, w_range, tg_nm, tg_tp2, wipe_nil, wipe_cons, Nat.reduceLT]
      refine h2 ?_ _
      unfold rowsB
      rw [q]; rfl
    | true =>
      simp only [wp_ok, wp_okD, wp_bind, w_var, w_varV, w_c, w_bin, w_un, w_nil, w_cons, w_args, w_boolV, w_tOf, w_fAnd, w_fOr, w_fNot, w_eAnd, w_eOr, w_eIf, w_chain, w_optV, w_oNone, w_oSome, w_cut, o_cutT, o_cutL, w_pass, w_ret, w_if, w_seqV, w_seqR, w_seq, w_asgV, w_asg, w_gNm, w_gTp, w_gNl, w_gCn, w_par2V, w_par2, w_set, w_body, w_endD, w_endN, w_for, w_forN, w_loopN, w_loopR, w_forC, o_add, o_addB, o_sub, o_ord, o_lt, o_le, o_gt, o_ge, o_eqI, o_neI, o_eqB, o_not, o_neg, o_len_t, o_len_l, o_len_f, datL_nil, datL_cons, startR, List.map_cons, List.map_nil, List.length_cons, List.length_nil, List.replicate_succ, List.replicate_zero, List.cons_append, List.nil_append, List.getElem?_cons_zero, List.getElem?_cons_succ, List.set_cons_zero, List.set_cons_succ, List.take_length, Option.map_some, Option.map_none, List.append_nil, Nat.sub_self, w_idxV, w_idx_t, w_idx_l, w_idx_f, at0, at1, at2, cut1, w_call, w_tup, w_lst, Nat.reduceSub, Nat.reduceAdd, Nat.reduceLeDiff, if_true, reduceIte, Bool.not_true, Bool.not_false, Bool.false_eq_true, reduceCtorEq, w_isT, w_comp, w_datV, w_compN, w_rhoV, w_compC, w_okT, w_any, w_any_t, w_any_l, w_any_f, w_enum, w_enum_t, w_enum_l, w_zip, w_zip_t, w_zip_l, zip_nil, zip_nil2, zip_cons, w_range, tg_nm, tg_tp2, wipe_nil, wipe_cons, Nat.reduceLT]
      refine scr_loop hn hm ds (k + 1) _ _ (fun d hd => hw d (List.mem_cons_of_mem _ hd)) (fun q2 => h1 ?_) fun q2 => h2 ?_
      · unfold rowsB; rw [q]; exact q2
      · unfold rowsB; rw [q]; exact q2
theorem filt_map : ∀ ds : List PyData, ((ds.map w0).filter fun z => PyData.eqv z (.str "join")).length = (ds.filter joinB).length
  | [] => rfl
  | d :: ds => by
    rw [List.map_cons, List.filter_cons, List.filter_cons]
    have e : joinB d = PyData.eqv (w0 d) (.str "join") := rfl
    rw [e]
    cases PyData.eqv (w0 d) (.str "join") with
    | true => simp only [if_true, List.length_cons, filt_map ds]
    | false => simp only [Bool.false_eq_true, if_false]; exact filt_map ds
theorem w_count {ds : List PyData} {d : PyData} {μ : Mem} {Q : Val → Mem → Prop} (h : flatD d = true ∧ ds.all flatD = true) : wp (gCount (.dat (.list ds)) [.dat d] μ) Q = Q (.dat (.int ((ds.filter fun z => PyData.eqv z d).length : Nat))) μ := by
  show wp (if _ then _ else _) Q = _
  rw [if_pos h]; rfl
theorem law_scr_w {m n : Nat} {v : PyData} {μ : Mem} {Q : Val → Mem → Prop} (hn : n ≤ 40) (hm : m ≤ 1000) (h : wf m n v) : wp (F_l_is_script [.dat v] μ) Q = Q (.dat (.bool (scr v))) μ := by
  have key : ∀ Q : Val → Mem → Prop, Q (.dat (.bool (scr v))) μ → wp (F_l_is_script [.dat v] μ) Q := by
    intro Q hQ
    unfold F_l_is_script b_l_is_script
    simp only [wp_ok, wp_okD, wp_bind, w_var, w_varV, w_c, w_bin, w_un, w_nil, w_cons, w_args, w_boolV, w_tOf, w_fAnd, w_fOr, w_fNot, w_eAnd, w_eOr, w_eIf, w_chain, w_optV, w_oNone, w_oSome, w_cut, o_cutT, o_cutL, w_pass, w_ret, w_if, w_seqV, w_seqR, w_seq, w_asgV, w_asg, w_gNm, w_gTp, w_gNl, w_gCn, w_par2V, w_par2, w_set, w_body, w_endD, w_endN, w_for, w_forN, w_loopN, w_loopR, w_forC, o_add, o_addB, o_sub, o_ord, o_lt, o_le, o_gt, o_ge, o_eqI, o_neI, o_eqB, o_not, o_neg, o_len_t, o_len_l, o_len_f, datL_nil, datL_cons, startR, List.map_cons, List.map_nil, List.length_cons, List.length_nil, List.replicate_succ, List.replicate_zero, List.cons_append, List.nil_append, List.getElem?_cons_zero, List.getElem?_cons_succ, List.set_cons_zero, List.set_cons_succ, List.take_length, Option.map_some, Option.map_none, List.append_nil, Nat.sub_self, w_idxV, w_idx_t, w_idx_l, w_idx_f, at0, at1, at2, cut1, w_call, w_tup, w_lst, Nat.reduceSub, Nat.reduceAdd, Nat.reduceLeDiff, if_true, reduceIte, Bool.not_true, Bool.not_false, Bool.false_eq_true, reduceCtorEq, w_isT, w_comp, w_datV, w_compN, w_rhoV, w_compC, w_okT, w_any, w_any_t, w_any_l, w_any_f, w_enum, w_enum_t, w_enum_l, w_zip, w_zip_t, w_zip_l, zip_nil, zip_nil2, zip_cons, w_range, tg_nm, tg_tp2, wipe_nil, wipe_cons, Nat.reduceLT, w_isT h.nod]
    cases v with
    | tuple ds =>
      obtain ⟨k, rfl, hl, hw⟩ := wf_tup h
      have hk : k ≤ 40 := by omega
      have e1 : isT (.tuple ds) "tuple" = true := rfl
      simp only [wp_ok, wp_okD, wp_bind, w_var, w_varV, w_c, w_bin, w_un, w_nil, w_cons, w_args, w_boolV, w_tOf, w_fAnd, w_fOr, w_fNot, w_eAnd, w_eOr, w_eIf, w_chain, w_optV, w_oNone, w_oSome, w_cut, o_cutT, o_cutL, w_pass, w_ret, w_if, w_seqV, w_seqR, w_seq, w_asgV, w_asg, w_gNm, w_gTp, w_gNl, w_gCn, w_par2V, w_par2, w_set, w_body, w_endD, w_endN, w_for, w_forN, w_loopN, w_loopR, w_forC, o_add, o_addB, o_sub, o_ord, o_lt, o_le, o_gt, o_ge, o_eqI, o_neI, o_eqB, o_not, o_neg, o_len_t, o_len_l, o_len_f, datL_nil, datL_cons, startR, List.map_cons, List.map_nil, List.length_cons, List.length_nil, List.replicate_succ, List.replicate_zero, List.cons_append, List.nil_append, List.getElem?_cons_zero, List.getElem?_cons_succ, List.set_cons_zero, List.set_cons_succ, List.take_length, Option.map_some, Option.map_none, List.append_nil, Nat.sub_self, w_idxV, w_idx_t, w_idx_l, w_idx_f, at0, at1, at2, cut1, w_call, w_tup, w_lst, Nat.reduceSub, Nat.reduceAdd, Nat.reduceLeDiff, if_true, reduceIte, Bool.not_true, Bool.not_false, Bool.false_eq_true, reduceCtorEq, w_isT, w_comp, w_datV, w_compN, w_rhoV, w_compC, w_okT, w_any, w_any_t, w_any_l, w_any_f, w_enum, w_enum_t, w_enum_l, w_zip, w_zip_t, w_zip_l, zip_nil, zip_nil2, zip_cons, w_range, tg_nm, tg_tp2, wipe_nil, wipe_cons, Nat.reduceLT, e1]
      by_cases c1 : (1 : Int) ≤ ds.length
      · by_cases c2 : (ds.length : Int) ≤ 6
        · simp only [wp_ok, wp_okD, wp_bind, w_var, w_varV, w_c, w_bin, w_un, w_nil, w_cons, w_args, w_boolV, w_tOf, w_fAnd, w_fOr, w_fNot, w_eAnd, w_eOr, w_eIf, w_chain, w_optV, w_oNone, w_oSome, w_cut, o_cutT, o_cutL, w_pass, w_ret, w_if, w_seqV, w_seqR, w_seq, w_asgV, w_asg, w_gNm, w_gTp, w_gNl, w_gCn, w_par2V, w_par2, w_set, w_body, w_endD, w_endN, w_for, w_forN, w_loopN, w_loopR, w_forC, o_add, o_addB, o_sub, o_ord, o_lt, o_le, o_gt, o_ge, o_eqI, o_neI, o_eqB, o_not, o_neg, o_len_t, o_len_l, o_len_f, datL_nil, datL_cons, startR, List.map_cons, List.map_nil, List.length_cons, List.length_nil, List.replicate_succ, List.replicate_zero, List.cons_append, List.nil_append, List.getElem?_cons_zero, List.getElem?_cons_succ, List.set_cons_zero, List.set_cons_succ, List.take_length, Option.map_some, Option.map_none, List.append_nil, Nat.sub_self, w_idxV, w_idx_t, w_idx_l, w_idx_f, at0, at1, at2, cut1, w_call, w_tup, w_lst, Nat.reduceSub, Nat.reduceAdd, Nat.reduceLeDiff, if_true, reduceIte, Bool.not_true, Bool.not_false, Bool.false_eq_true, reduceCtorEq, w_isT, w_comp, w_datV, w_compN, w_rhoV, w_compC, w_okT, w_any, w_any_t, w_any_l, w_any_f, w_enum, w_enum_t, w_enum_l, w_zip, w_zip_t, w_zip_l, zip_nil, zip_nil2, zip_cons, w_range, tg_nm, tg_tp2, wipe_nil, wipe_cons, Nat.reduceLT, c1, c2, decide_true]
          have e5 : scr (.tuple ds) = (rowsB 0 ds && decide (((ds.filter joinB).length : Int) < 3)) := by
            simp only [scr]
            rw [decide_eq_true (by omega : 1 ≤ ds.length), decide_eq_true (by omega : ds.length ≤ 6)]
            simp
          rw [e5] at hQ
          refine scr_loop hk hm ds 0 _ _ hw (fun hr x y => ?_) fun hr ρ => ?_
          · rw [hr] at hQ
            have l2 : ds.length < 16777216 := by omega
            simp only [wp_ok, wp_okD, wp_bind, w_var, w_varV, w_c, w_bin, w_un, w_nil, w_cons, w_args, w_boolV, w_tOf, w_fAnd, w_fOr, w_fNot, w_eAnd, w_eOr, w_eIf, w_chain, w_optV, w_oNone, w_oSome, w_cut, o_cutT, o_cutL, w_pass, w_ret, w_if, w_seqV, w_seqR, w_seq, w_asgV, w_asg, w_gNm, w_gTp, w_gNl, w_gCn, w_par2V, w_par2, w_set, w_body, w_endD, w_endN, w_for, w_forN, w_loopN, w_loopR, w_forC, o_add, o_addB, o_sub, o_ord, o_lt, o_le, o_gt, o_ge, o_eqI, o_neI, o_eqB, o_not, o_neg, o_len_t, o_len_l, o_len_f, datL_nil, datL_cons, startR, List.map_cons, List.map_nil, List.length_cons, List.length_nil, List.replicate_succ, List.replicate_zero, List.cons_append, List.nil_append, List.getElem?_cons_zero, List.getElem?_cons_succ, List.set_cons_zero, List.set_cons_succ, List.take_length, Option.map_some, Option.map_none, List.append_nil, Nat.sub_self, w_idxV, w_idx_t, w_idx_l, w_idx_f, at0, at1, at2, cut1, w_call, w_tup, w_lst, Nat.reduceSub, Nat.reduceAdd, Nat.reduceLeDiff, if_true, reduceIte, Bool.not_true, Bool.not_false, Bool.false_eq_true, reduceCtorEq, w_isT, w_comp, w_datV, w_compN, w_rhoV, w_compC, w_okT, w_any, w_any_t, w_any_l, w_any_f, w_enum, w_enum_t, w_enum_l, w_zip, w_zip_t, w_zip_l, zip_nil, zip_nil2, zip_cons, w_range, tg_nm, tg_tp2, wipe_nil, wipe_cons, Nat.reduceLT, w_meth, l2]
            rw [cmp_map (r := fun d => [some (.dat (.tuple ds)), x, some (.dat d)]) (h := w0) ds (fun d hd => rfl) (fun d hd Q hQ => by
              obtain ⟨w, r, rfl⟩ := rows_str hr d hd
              simp only [wp_ok, wp_okD, wp_bind, w_var, w_varV, w_c, w_bin, w_un, w_nil, w_cons, w_args, w_boolV, w_tOf, w_fAnd, w_fOr, w_fNot, w_eAnd, w_eOr, w_eIf, w_chain, w_optV, w_oNone, w_oSome, w_cut, o_cutT, o_cutL, w_pass, w_ret, w_if, w_seqV, w_seqR, w_seq, w_asgV, w_asg, w_gNm, w_gTp, w_gNl, w_gCn, w_par2V, w_par2, w_set, w_body, w_endD, w_endN, w_for, w_forN, w_loopN, w_loopR, w_forC, o_add, o_addB, o_sub, o_ord, o_lt, o_le, o_gt, o_ge, o_eqI, o_neI, o_eqB, o_not, o_neg, o_len_t, o_len_l, o_len_f, datL_nil, datL_cons, startR, List.map_cons, List.map_nil, List.length_cons, List.length_nil, List.replicate_succ, List.replicate_zero, List.cons_append, List.nil_append, List.getElem?_cons_zero, List.getElem?_cons_succ, List.set_cons_zero, List.set_cons_succ, List.take_length, Option.map_some, Option.map_none, List.append_nil, Nat.sub_self, w_idxV, w_idx_t, w_idx_l, w_idx_f, at0, at1, at2, cut1, w_call, w_tup, w_lst, Nat.reduceSub, Nat.reduceAdd, Nat.reduceLeDiff, if_true, reduceIte, Bool.not_true, Bool.not_false, Bool.false_eq_true, reduceCtorEq, w_isT, w_comp, w_datV, w_compN, w_rhoV, w_compC, w_okT, w_any, w_any_t, w_any_l, w_any_f, w_enum, w_enum_t, w_enum_l, w_zip, w_zip_t, w_zip_l, zip_nil, zip_nil2, zip_cons, w_range, tg_nm, tg_tp2, wipe_nil, wipe_cons, Nat.reduceLT]
              exact hQ)]
            rw [w_methL]
            try simp only [wp_ok, wp_okD, wp_bind, w_var, w_varV, w_c, w_bin, w_un, w_nil, w_cons, w_args, w_boolV, w_tOf, w_fAnd, w_fOr, w_fNot, w_eAnd, w_eOr, w_eIf, w_chain, w_optV, w_oNone, w_oSome, w_cut, o_cutT, o_cutL, w_pass, w_ret, w_if, w_seqV, w_seqR, w_seq, w_asgV, w_asg, w_gNm, w_gTp, w_gNl, w_gCn, w_par2V, w_par2, w_set, w_body, w_endD, w_endN, w_for, w_forN, w_loopN, w_loopR, w_forC, o_add, o_addB, o_sub, o_ord, o_lt, o_le, o_gt, o_ge, o_eqI, o_neI, o_eqB, o_not, o_neg, o_len_t, o_len_l, o_len_f, datL_nil, datL_cons, startR, List.map_cons, List.map_nil, List.length_cons, List.length_nil, List.replicate_succ, List.replicate_zero, List.cons_append, List.nil_append, List.getElem?_cons_zero, List.getElem?_cons_succ, List.set_cons_zero, List.set_cons_succ, List.take_length, Option.map_some, Option.map_none, List.append_nil, Nat.sub_self, w_idxV, w_idx_t, w_idx_l, w_idx_f, at0, at1, at2, cut1, w_call, w_tup, w_lst, Nat.reduceSub, Nat.reduceAdd, Nat.reduceLeDiff, if_true, reduceIte, Bool.not_true, Bool.not_false, Bool.false_eq_true, reduceCtorEq, w_isT, w_comp, w_datV, w_compN, w_rhoV, w_compC, w_okT, w_any, w_any_t, w_any_l, w_any_f, w_enum, w_enum_t, w_enum_l, w_zip, w_zip_t, w_zip_l, zip_nil, zip_nil2, zip_cons, w_range, tg_nm, tg_tp2, wipe_nil, wipe_cons, Nat.reduceLT]
            rw [w_count ⟨rfl, by
              rw [List.all_eq_true]
              intro e he
              obtain ⟨d, hd, rfl⟩ := List.mem_map.mp he
              obtain ⟨w, r, rfl⟩ := rows_str hr d hd
              rfl⟩, filt_map]
            simp only [wp_ok, wp_okD, wp_bind, w_var, w_varV, w_c, w_bin, w_un, w_nil, w_cons, w_args, w_boolV, w_tOf, w_fAnd, w_fOr, w_fNot, w_eAnd, w_eOr, w_eIf, w_chain, w_optV, w_oNone, w_oSome, w_cut, o_cutT, o_cutL, w_pass, w_ret, w_if, w_seqV, w_seqR, w_seq, w_asgV, w_asg, w_gNm, w_gTp, w_gNl, w_gCn, w_par2V, w_par2, w_set, w_body, w_endD, w_endN, w_for, w_forN, w_loopN, w_loopR, w_forC, o_add, o_addB, o_sub, o_ord, o_lt, o_le, o_gt, o_ge, o_eqI, o_neI, o_eqB, o_not, o_neg, o_len_t, o_len_l, o_len_f, datL_nil, datL_cons, startR, List.map_cons, List.map_nil, List.length_cons, List.length_nil, List.replicate_succ, List.replicate_zero, List.cons_append, List.nil_append, List.getElem?_cons_zero, List.getElem?_cons_succ, List.set_cons_zero, List.set_cons_succ, List.take_length, Option.map_some, Option.map_none, List.append_nil, Nat.sub_self, w_idxV, w_idx_t, w_idx_l, w_idx_f, at0, at1, at2, cut1, w_call, w_tup, w_lst, Nat.reduceSub, Nat.reduceAdd, Nat.reduceLeDiff, if_true, reduceIte, Bool.not_true, Bool.not_false, Bool.false_eq_true, reduceCtorEq, w_isT, w_comp, w_datV, w_compN, w_rhoV, w_compC, w_okT, w_any, w_any_t, w_any_l, w_any_f, w_enum, w_enum_t, w_enum_l, w_zip, w_zip_t, w_zip_l, zip_nil, zip_nil2, zip_cons, w_range, tg_nm, tg_tp2, wipe_nil, wipe_cons, Nat.reduceLT]
            exact hQ
          · rw [hr] at hQ
            simp only [wp_ok, wp_okD, wp_bind, w_var, w_varV, w_c, w_bin, w_un, w_nil, w_cons, w_args, w_boolV, w_tOf, w_fAnd, w_fOr, w_fNot, w_eAnd, w_eOr, w_eIf, w_chain, w_optV, w_oNone, w_oSome, w_cut, o_cutT, o_cutL, w_pass, w_ret, w_if, w_seqV, w_seqR, w_seq, w_asgV, w_asg, w_gNm, w_gTp, w_gNl, w_gCn, w_par2V, w_par2, w_set, w_body, w_endD, w_endN, w_for, w_forN, w_loopN, w_loopR, w_forC, o_add, o_addB, o_sub, o_ord, o_lt, o_le, o_gt, o_ge, o_eqI, o_neI, o_eqB, o_not, o_neg, o_len_t, o_len_l, o_len_f, datL_nil, datL_cons, startR, List.map_cons, List.map_nil, List.length_cons, List.length_nil, List.replicate_succ, List.replicate_zero, List.cons_append, List.nil_append, List.getElem?_cons_zero, List.getElem?_cons_succ, List.set_cons_zero, List.set_cons_succ, List.take_length, Option.map_some, Option.map_none, List.append_nil, Nat.sub_self, w_idxV, w_idx_t, w_idx_l, w_idx_f, at0, at1, at2, cut1, w_call, w_tup, w_lst, Nat.reduceSub, Nat.reduceAdd, Nat.reduceLeDiff, if_true, reduceIte, Bool.not_true, Bool.not_false, Bool.false_eq_true, reduceCtorEq, w_isT, w_comp, w_datV, w_compN, w_rhoV, w_compC, w_okT, w_any, w_any_t, w_any_l, w_any_f, w_enum, w_enum_t, w_enum_l, w_zip, w_zip_t, w_zip_l, zip_nil, zip_nil2, zip_cons, w_range, tg_nm, tg_tp2, wipe_nil, wipe_cons, Nat.reduceLT]
            exact hQ
        · have e5 : scr (.tuple ds) = false := by
            simp only [scr]
            rw [decide_eq_false (by omega : ¬ ds.length ≤ 6)]
            simp
          rw [e5] at hQ
          simp only [wp_ok, wp_okD, wp_bind, w_var, w_varV, w_c, w_bin, w_un, w_nil, w_cons, w_args, w_boolV, w_tOf, w_fAnd, w_fOr, w_fNot, w_eAnd, w_eOr, w_eIf, w_chain, w_optV, w_oNone, w_oSome, w_cut, o_cutT, o_cutL, w_pass, w_ret, w_if, w_seqV, w_seqR, w_seq, w_asgV, w_asg, w_gNm, w_gTp, w_gNl, w_gCn, w_par2V, w_par2, w_set, w_body, w_endD, w_endN, w_for, w_forN, w_loopN, w_loopR, w_forC, o_add, o_addB, o_sub, o_ord, o_lt, o_le, o_gt, o_ge, o_eqI, o_neI, o_eqB, o_not, o_neg, o_len_t, o_len_l, o_len_f, datL_nil, datL_cons, startR, List.map_cons, List.map_nil, List.length_cons, List.length_nil, List.replicate_succ, List.replicate_zero, List.cons_append, List.nil_append, List.getElem?_cons_zero, List.getElem?_cons_succ, List.set_cons_zero, List.set_cons_succ, List.take_length, Option.map_some, Option.map_none, List.append_nil, Nat.sub_self, w_idxV, w_idx_t, w_idx_l, w_idx_f, at0, at1, at2, cut1, w_call, w_tup, w_lst, Nat.reduceSub, Nat.reduceAdd, Nat.reduceLeDiff, if_true, reduceIte, Bool.not_true, Bool.not_false, Bool.false_eq_true, reduceCtorEq, w_isT, w_comp, w_datV, w_compN, w_rhoV, w_compC, w_okT, w_any, w_any_t, w_any_l, w_any_f, w_enum, w_enum_t, w_enum_l, w_zip, w_zip_t, w_zip_l, zip_nil, zip_nil2, zip_cons, w_range, tg_nm, tg_tp2, wipe_nil, wipe_cons, Nat.reduceLT, c1, c2, decide_true, decide_false]
          exact hQ
      · have e5 : scr (.tuple ds) = false := by
          simp only [scr]
          rw [decide_eq_false (by omega : ¬ 1 ≤ ds.length)]
          simp
        rw [e5] at hQ
        simp only [wp_ok, wp_okD, wp_bind, w_var, w_varV, w_c, w_bin, w_un, w_nil, w_cons, w_args, w_boolV, w_tOf, w_fAnd, w_fOr, w_fNot, w_eAnd, w_eOr, w_eIf, w_chain, w_optV, w_oNone, w_oSome, w_cut, o_cutT, o_cutL, w_pass, w_ret, w_if, w_seqV, w_seqR, w_seq, w_asgV, w_asg, w_gNm, w_gTp, w_gNl, w_gCn, w_par2V, w_par2, w_set, w_body, w_endD, w_endN, w_for, w_forN, w_loopN, w_loopR, w_forC, o_add, o_addB, o_sub, o_ord, o_lt, o_le, o_gt, o_ge, o_eqI, o_neI, o_eqB, o_not, o_neg, o_len_t, o_len_l, o_len_f, datL_nil, datL_cons, startR, List.map_cons, List.map_nil, List.length_cons, List.length_nil, List.replicate_succ, List.replicate_zero, List.cons_append, List.nil_append, List.getElem?_cons_zero, List.getElem?_cons_succ, List.set_cons_zero, List.set_cons_succ, List.take_length, Option.map_some, Option.map_none, List.append_nil, Nat.sub_self, w_idxV, w_idx_t, w_idx_l, w_idx_f, at0, at1, at2, cut1, w_call, w_tup, w_lst, Nat.reduceSub, Nat.reduceAdd, Nat.reduceLeDiff, if_true, reduceIte, Bool.not_true, Bool.not_false, Bool.false_eq_true, reduceCtorEq, w_isT, w_comp, w_datV, w_compN, w_rhoV, w_compC, w_okT, w_any, w_any_t, w_any_l, w_any_f, w_enum, w_enum_t, w_enum_l, w_zip, w_zip_t, w_zip_l, zip_nil, zip_nil2, zip_cons, w_range, tg_nm, tg_tp2, wipe_nil, wipe_cons, Nat.reduceLT, c1, decide_false]
        exact hQ
    | _ => simpa [wp_ok, wp_okD, wp_bind, w_var, w_varV, w_c, w_bin, w_un, w_nil, w_cons, w_args, w_boolV, w_tOf, w_fAnd, w_fOr, w_fNot, w_eAnd, w_eOr, w_eIf, w_chain, w_optV, w_oNone, w_oSome, w_cut, o_cutT, o_cutL, w_pass, w_ret, w_if, w_seqV, w_seqR, w_seq, w_asgV, w_asg, w_gNm, w_gTp, w_gNl, w_gCn, w_par2V, w_par2, w_set, w_body, w_endD, w_endN, w_for, w_forN, w_loopN, w_loopR, w_forC, o_add, o_addB, o_sub, o_ord, o_lt, o_le, o_gt, o_ge, o_eqI, o_neI, o_eqB, o_not, o_neg, o_len_t, o_len_l, o_len_f, datL_nil, datL_cons, startR, List.map_cons, List.map_nil, List.length_cons, List.length_nil, List.replicate_succ, List.replicate_zero, List.cons_append, List.nil_append, List.getElem?_cons_zero, List.getElem?_cons_succ, List.set_cons_zero, List.set_cons_succ, List.take_length, Option.map_some, Option.map_none, List.append_nil, Nat.sub_self, w_idxV, w_idx_t, w_idx_l, w_idx_f, at0, at1, at2, cut1, w_call, w_tup, w_lst, Nat.reduceSub, Nat.reduceAdd, Nat.reduceLeDiff, if_true, reduceIte, Bool.not_true, Bool.not_false, Bool.false_eq_true, reduceCtorEq, w_isT, w_comp, w_datV, w_compN, w_rhoV, w_compC, w_okT, w_any, w_any_t, w_any_l, w_any_f, w_enum, w_enum_t, w_enum_l, w_zip, w_zip_t, w_zip_l, zip_nil, zip_nil2, zip_cons, w_range, tg_nm, tg_tp2, wipe_nil, wipe_cons, Nat.reduceLT, isT, scr] using hQ
  obtain ⟨a, μ', e, h1, h2⟩ := wp_ex (key (fun a μ' => a = .dat (.bool (scr v)) ∧ μ' = μ) ⟨rfl, rfl⟩)
  rw [e, h1, h2]
  rfl
end K01
set_option Elab.async false
set_option linter.all false
set_option maxRecDepth 100000
set_option maxHeartbeats 4000000
namespace K01
open PySem PySem.Spec PyProof.Rows L2 DN
/-- the source: a cell of two numbers -/
def Src (c : Nat) (μ : Mem) : Prop := ∃ x y : Int, μ[c]? = some (.lst [.int x, .int y]) ∧ 0 ≤ x ∧ 0 ≤ y ∧ y < 2147483647
theorem w_idx_c {μ : Mem} {c : Nat} {ds : List PyData} {i : Int} {Q : Val → Mem → Prop} (h : μ[c]? = some (.lst ds)) : wp (gIdx (.cel c) (.dat (.int i)) μ) Q = idxV (L2.atI ds i) μ Q := by
  have e : gIdx (.cel c) (.dat (.int i)) μ = idxD (.list ds) (.int i) μ := by
    show g2 deref idxD (.cel c) (.dat (.int i)) μ = _
    unfold g2
    have e1 : deref μ (.cel c) = some (.list ds) := by
      show (match μ[c]? with
        | some (.lst ds) => some (PyData.list ds)
        | none => none) = _
      rw [h]
    rw [e1]
    rfl
  rw [e]
  exact w_idx_l
theorem w_setC {μ : Mem} {c j : Nat} {ds : List PyData} {i : Int} {d : PyData} {Q : Unit → Mem → Prop} (h : μ[c]? = some (.lst ds)) (hj : L2.ixN ds.length i = some j) : wp (gSet (.cel c) (.dat (.int i)) (.dat d) μ) Q = Q () (μ.set c (.lst (ds.set j d))) := by
  unfold gSet
  dsimp only
  rw [h]
  dsimp only
  rw [hj]
  rfl
theorem o_int {i : Int} {μ : Mem} : c1 intD [.dat (.int i)] μ = okD (.int i) μ := rfl
theorem o_intB {b : Bool} {μ : Mem} : c1 intD [.dat (.bool b)] μ = okD (.int (if b then 1 else 0)) μ := rfl
theorem o_absI {i : Int} {μ : Mem} : c1 absD [.dat (.int i)] μ = okD (.int (if i < 0 then -i else i)) μ := rfl
theorem log_le {i : Int} (h0 : 0 ≤ i) (h : i < 18446744073709551616) : i.natAbs.log2 < 64 := by
  by_cases e : i.natAbs = 0
  · rw [e]; decide
  · rw [Nat.log2_lt e]; omega
theorem set_len {μ : Mem} {c : Nat} {x : Cell} : (μ.set c x).take μ.length = μ.set c x := List.take_of_length_le (by simp)
theorem take_len {μ μ' : Mem} (h : μ'.length = μ.length) : μ'.take μ.length = μ' := List.take_of_length_le (by omega)
theorem draw_w {c : Nat} {m : Int} {μ : Mem} {Q : Val → Mem → Prop} (hs : Src c μ) (h0 : 0 < m) (h1 : m < 100000) (k : ∀ (r : Int) (μ' : Mem), 0 ≤ r → r < m → Src c μ' → μ'.length = μ.length → Q (.dat (.int r)) μ') :
    wp (F_l_draw [.cel c, .dat (.int m)] μ) Q := by
  obtain ⟨x, y, e, hx, hy, hy2⟩ := hs
  have hc : c < μ.length := (List.getElem?_eq_some_iff.mp e).1
  have lm : m.natAbs.log2 < 9000 := by have := log_le (i := m) (by omega) (by omega); omega
  unfold F_l_draw b_l_draw
  simp only [wp_ok, wp_okD, wp_bind, w_var, w_varV, w_c, w_bin, w_un, w_nil, w_cons, w_args, w_boolV, w_tOf, w_fAnd, w_fOr, w_fNot, w_eAnd, w_eOr, w_eIf, w_chain, w_optV, w_oNone, w_oSome, w_cut, o_cutT, o_cutL, w_pass, w_ret, w_if, w_seqV, w_seqR, w_seq, w_asgV, w_asg, w_gNm, w_gTp, w_gNl, w_gCn, w_par2V, w_par2, w_set, w_body, w_endD, w_endN, w_for, w_forN, w_loopN, w_loopR, w_forC, o_add, o_addB, o_sub, o_ord, o_lt, o_le, o_gt, o_ge, o_eqI, o_neI, o_eqB, o_not, o_neg, o_len_t, o_len_l, o_len_f, datL_nil, datL_cons, startR, List.map_cons, List.map_nil, List.length_cons, List.length_nil, List.replicate_succ, List.replicate_zero, List.cons_append, List.nil_append, List.getElem?_cons_zero, List.getElem?_cons_succ, List.set_cons_zero, List.set_cons_succ, List.take_length, Option.map_some, Option.map_none, List.append_nil, Nat.sub_self, w_idxV, w_idx_t, w_idx_l, w_idx_f, at0, at1, at2, cut1, w_call, w_tup, w_lst, Nat.reduceSub, Nat.reduceAdd, Nat.reduceLeDiff, if_true, reduceIte, Bool.not_true, Bool.not_false, Bool.false_eq_true, reduceCtorEq, w_isT, w_comp, w_datV, w_compN, w_rhoV, w_compC, w_okT, w_any, w_any_t, w_any_l, w_any_f, w_enum, w_enum_t, w_enum_l, w_zip, w_zip_t, w_zip_l, zip_nil, zip_nil2, zip_cons, w_range, tg_nm, tg_tp2, wipe_nil, wipe_cons, Nat.reduceLT, w_idx_c e]
  by_cases p : 0 < x
  · have o1 : ∀ μ : Mem, gMod (.dat (.int x)) (.dat (.int m)) μ = okD (.int (x % m)) μ := fun μ => o_mod h0
    have o2 : ∀ μ : Mem, gFdiv (.dat (.int x)) (.dat (.int m)) μ = okD (.int (x / m)) μ := fun μ => o_fdiv ⟨h0, lm⟩
    simp only [p, decide_true, wp_ok, wp_okD, wp_bind, w_var, w_varV, w_c, w_bin, w_un, w_nil, w_cons, w_args, w_boolV, w_tOf, w_fAnd, w_fOr, w_fNot, w_eAnd, w_eOr, w_eIf, w_chain, w_optV, w_oNone, w_oSome, w_cut, o_cutT, o_cutL, w_pass, w_ret, w_if, w_seqV, w_seqR, w_seq, w_asgV, w_asg, w_gNm, w_gTp, w_gNl, w_gCn, w_par2V, w_par2, w_set, w_body, w_endD, w_endN, w_for, w_forN, w_loopN, w_loopR, w_forC, o_add, o_addB, o_sub, o_ord, o_lt, o_le, o_gt, o_ge, o_eqI, o_neI, o_eqB, o_not, o_neg, o_len_t, o_len_l, o_len_f, datL_nil, datL_cons, startR, List.map_cons, List.map_nil, List.length_cons, List.length_nil, List.replicate_succ, List.replicate_zero, List.cons_append, List.nil_append, List.getElem?_cons_zero, List.getElem?_cons_succ, List.set_cons_zero, List.set_cons_succ, List.take_length, Option.map_some, Option.map_none, List.append_nil, Nat.sub_self, w_idxV, w_idx_t, w_idx_l, w_idx_f, at0, at1, at2, cut1, w_call, w_tup, w_lst, Nat.reduceSub, Nat.reduceAdd, Nat.reduceLeDiff, if_true, reduceIte, Bool.not_true, Bool.not_false, Bool.false_eq_true, reduceCtorEq, w_isT, w_comp, w_datV, w_compN, w_rhoV, w_compC, w_okT, w_any, w_any_t, w_any_l, w_any_f, w_enum, w_enum_t, w_enum_l, w_zip, w_zip_t, w_zip_l, zip_nil, zip_nil2, zip_cons, w_range, tg_nm, tg_tp2, wipe_nil, wipe_cons, Nat.reduceLT, w_idx_c e, o_int, o1, o2]
    rw [w_setC (j := 0) e rfl]
    simp only [wp_ok, wp_okD, wp_bind, w_var, w_varV, w_c, w_bin, w_un, w_nil, w_cons, w_args, w_boolV, w_tOf, w_fAnd, w_fOr, w_fNot, w_eAnd, w_eOr, w_eIf, w_chain, w_optV, w_oNone, w_oSome, w_cut, o_cutT, o_cutL, w_pass, w_ret, w_if, w_seqV, w_seqR, w_seq, w_asgV, w_asg, w_gNm, w_gTp, w_gNl, w_gCn, w_par2V, w_par2, w_set, w_body, w_endD, w_endN, w_for, w_forN, w_loopN, w_loopR, w_forC, o_add, o_addB, o_sub, o_ord, o_lt, o_le, o_gt, o_ge, o_eqI, o_neI, o_eqB, o_not, o_neg, o_len_t, o_len_l, o_len_f, datL_nil, datL_cons, startR, List.map_cons, List.map_nil, List.length_cons, List.length_nil, List.replicate_succ, List.replicate_zero, List.cons_append, List.nil_append, List.getElem?_cons_zero, List.getElem?_cons_succ, List.set_cons_zero, List.set_cons_succ, List.take_length, Option.map_some, Option.map_none, List.append_nil, Nat.sub_self, w_idxV, w_idx_t, w_idx_l, w_idx_f, at0, at1, at2, cut1, w_call, w_tup, w_lst, Nat.reduceSub, Nat.reduceAdd, Nat.reduceLeDiff, if_true, reduceIte, Bool.not_true, Bool.not_false, Bool.false_eq_true, reduceCtorEq, w_isT, w_comp, w_datV, w_compN, w_rhoV, w_compC, w_okT, w_any, w_any_t, w_any_l, w_any_f, w_enum, w_enum_t, w_enum_l, w_zip, w_zip_t, w_zip_l, zip_nil, zip_nil2, zip_cons, w_range, tg_nm, tg_tp2, wipe_nil, wipe_cons, Nat.reduceLT, set_len]
    refine k _ _ (Int.emod_nonneg _ (by omega)) (Int.emod_lt_of_pos _ h0) ⟨x / m, y, ?_, Int.ediv_nonneg hx (by omega), hy, hy2⟩ (by simp)
    rw [List.getElem?_set_self hc]
  · have y1 : 0 ≤ y * 48271 := by omega
    have l1 := log_le (i := y) hy (by omega)
    have l2 : (48271 : Int).natAbs.log2 < 64 := by decide
    have o1 : ∀ μ : Mem, gMul (.dat (.int y)) (.dat (.int 48271)) μ = okD (.int (y * 48271)) μ := fun μ => o_mul (by omega)
    have o2 : ∀ (i : Int) (μ : Mem), gMod (.dat (.int i)) (.dat (.int 2147483647)) μ = okD (.int (i % 2147483647)) μ := fun i μ => o_mod (by omega)
    simp only [p, decide_false, wp_ok, wp_okD, wp_bind, w_var, w_varV, w_c, w_bin, w_un, w_nil, w_cons, w_args, w_boolV, w_tOf, w_fAnd, w_fOr, w_fNot, w_eAnd, w_eOr, w_eIf, w_chain, w_optV, w_oNone, w_oSome, w_cut, o_cutT, o_cutL, w_pass, w_ret, w_if, w_seqV, w_seqR, w_seq, w_asgV, w_asg, w_gNm, w_gTp, w_gNl, w_gCn, w_par2V, w_par2, w_set, w_body, w_endD, w_endN, w_for, w_forN, w_loopN, w_loopR, w_forC, o_add, o_addB, o_sub, o_ord, o_lt, o_le, o_gt, o_ge, o_eqI, o_neI, o_eqB, o_not, o_neg, o_len_t, o_len_l, o_len_f, datL_nil, datL_cons, startR, List.map_cons, List.map_nil, List.length_cons, List.length_nil, List.replicate_succ, List.replicate_zero, List.cons_append, List.nil_append, List.getElem?_cons_zero, List.getElem?_cons_succ, List.set_cons_zero, List.set_cons_succ, List.take_length, Option.map_some, Option.map_none, List.append_nil, Nat.sub_self, w_idxV, w_idx_t, w_idx_l, w_idx_f, at0, at1, at2, cut1, w_call, w_tup, w_lst, Nat.reduceSub, Nat.reduceAdd, Nat.reduceLeDiff, if_true, reduceIte, Bool.not_true, Bool.not_false, Bool.false_eq_true, reduceCtorEq, w_isT, w_comp, w_datV, w_compN, w_rhoV, w_compC, w_okT, w_any, w_any_t, w_any_l, w_any_f, w_enum, w_enum_t, w_enum_l, w_zip, w_zip_t, w_zip_l, zip_nil, zip_nil2, zip_cons, w_range, tg_nm, tg_tp2, wipe_nil, wipe_cons, Nat.reduceLT, w_idx_c e, o_int, o1, o2]
    rw [w_setC (j := 1) e rfl]
    have z0 : 0 ≤ y * 48271 % 2147483647 := Int.emod_nonneg _ (by omega)
    have z1 : y * 48271 % 2147483647 < 2147483647 := Int.emod_lt_of_pos _ (by omega)
    generalize y * 48271 % 2147483647 = z at z0 z1
    have e2 : (μ.set c (.lst ([PyData.int x, .int y].set 1 (.int z))))[c]? = some (.lst [.int x, .int z]) := by
      rw [List.getElem?_set_self hc]; rfl
    generalize hμ2 : μ.set c (.lst ([PyData.int x, .int y].set 1 (.int z))) = μ2 at e2
    have len2 : μ2.length = μ.length := by rw [← hμ2]; simp
    have l3 := log_le (i := z) z0 (by omega)
    have o3 : ∀ μ : Mem, gMul (.dat (.int z)) (.dat (.int z)) μ = okD (.int (z * z)) μ := fun μ => o_mul (by omega)
    have o4 : ∀ (i : Int) (μ : Mem), gMod (.dat (.int i)) (.dat (.int 2147483629)) μ = okD (.int (i % 2147483629)) μ := fun i μ => o_mod (by omega)
    have o5 : ∀ (i : Int) (μ : Mem), gFdiv (.dat (.int i)) (.dat (.int 64)) μ = okD (.int (i / 64)) μ := fun i μ => o_fdiv ⟨by omega, by decide⟩
    have o6 : ∀ (i : Int) (μ : Mem), gMod (.dat (.int i)) (.dat (.int m)) μ = okD (.int (i % m)) μ := fun i μ => o_mod h0
    simp only [wp_ok, wp_okD, wp_bind, w_var, w_varV, w_c, w_bin, w_un, w_nil, w_cons, w_args, w_boolV, w_tOf, w_fAnd, w_fOr, w_fNot, w_eAnd, w_eOr, w_eIf, w_chain, w_optV, w_oNone, w_oSome, w_cut, o_cutT, o_cutL, w_pass, w_ret, w_if, w_seqV, w_seqR, w_seq, w_asgV, w_asg, w_gNm, w_gTp, w_gNl, w_gCn, w_par2V, w_par2, w_set, w_body, w_endD, w_endN, w_for, w_forN, w_loopN, w_loopR, w_forC, o_add, o_addB, o_sub, o_ord, o_lt, o_le, o_gt, o_ge, o_eqI, o_neI, o_eqB, o_not, o_neg, o_len_t, o_len_l, o_len_f, datL_nil, datL_cons, startR, List.map_cons, List.map_nil, List.length_cons, List.length_nil, List.replicate_succ, List.replicate_zero, List.cons_append, List.nil_append, List.getElem?_cons_zero, List.getElem?_cons_succ, List.set_cons_zero, List.set_cons_succ, List.take_length, Option.map_some, Option.map_none, List.append_nil, Nat.sub_self, w_idxV, w_idx_t, w_idx_l, w_idx_f, at0, at1, at2, cut1, w_call, w_tup, w_lst, Nat.reduceSub, Nat.reduceAdd, Nat.reduceLeDiff, if_true, reduceIte, Bool.not_true, Bool.not_false, Bool.false_eq_true, reduceCtorEq, w_isT, w_comp, w_datV, w_compN, w_rhoV, w_compC, w_okT, w_any, w_any_t, w_any_l, w_any_f, w_enum, w_enum_t, w_enum_l, w_zip, w_zip_t, w_zip_l, zip_nil, zip_nil2, zip_cons, w_range, tg_nm, tg_tp2, wipe_nil, wipe_cons, Nat.reduceLT, w_idx_c e2, o_int, o3, o4, o5, o6, take_len len2]
    exact k _ _ (Int.emod_nonneg _ (by omega)) (Int.emod_lt_of_pos _ h0) ⟨x, z, e2, hx, z0, z1⟩ len2
theorem of_w {c : Nat} {ds : List PyData} {μ : Mem} {Q : Val → Mem → Prop} (hs : Src c μ) (h0 : 0 < ds.length) (h1 : ds.length < 1000) (k : ∀ (d : PyData) (μ' : Mem), d ∈ ds → Src c μ' → μ'.length = μ.length → Q (.dat d) μ') :
    wp (F_l_of [.cel c, .dat (.list ds)] μ) Q := by
  unfold F_l_of b_l_of
  simp only [wp_ok, wp_okD, wp_bind, w_var, w_varV, w_c, w_bin, w_un, w_nil, w_cons, w_args, w_boolV, w_tOf, w_fAnd, w_fOr, w_fNot, w_eAnd, w_eOr, w_eIf, w_chain, w_optV, w_oNone, w_oSome, w_cut, o_cutT, o_cutL, w_pass, w_ret, w_if, w_seqV, w_seqR, w_seq, w_asgV, w_asg, w_gNm, w_gTp, w_gNl, w_gCn, w_par2V, w_par2, w_set, w_body, w_endD, w_endN, w_for, w_forN, w_loopN, w_loopR, w_forC, o_add, o_addB, o_sub, o_ord, o_lt, o_le, o_gt, o_ge, o_eqI, o_neI, o_eqB, o_not, o_neg, o_len_t, o_len_l, o_len_f, datL_nil, datL_cons, startR, List.map_cons, List.map_nil, List.length_cons, List.length_nil, List.replicate_succ, List.replicate_zero, List.cons_append, List.nil_append, List.getElem?_cons_zero, List.getElem?_cons_succ, List.set_cons_zero, List.set_cons_succ, List.take_length, Option.map_some, Option.map_none, List.append_nil, Nat.sub_self, w_idxV, w_idx_t, w_idx_l, w_idx_f, at0, at1, at2, cut1, w_call, w_tup, w_lst, Nat.reduceSub, Nat.reduceAdd, Nat.reduceLeDiff, if_true, reduceIte, Bool.not_true, Bool.not_false, Bool.false_eq_true, reduceCtorEq, w_isT, w_comp, w_datV, w_compN, w_rhoV, w_compC, w_okT, w_any, w_any_t, w_any_l, w_any_f, w_enum, w_enum_t, w_enum_l, w_zip, w_zip_t, w_zip_l, zip_nil, zip_nil2, zip_cons, w_range, tg_nm, tg_tp2, wipe_nil, wipe_cons, Nat.reduceLT]
  refine draw_w hs (by omega) (by omega) fun r μ1 r0 r1 s1 n1 => ?_
  obtain ⟨d, hd, hm⟩ := at_in (ds := ds) r0 r1
  simp only [wp_ok, wp_okD, wp_bind, w_var, w_varV, w_c, w_bin, w_un, w_nil, w_cons, w_args, w_boolV, w_tOf, w_fAnd, w_fOr, w_fNot, w_eAnd, w_eOr, w_eIf, w_chain, w_optV, w_oNone, w_oSome, w_cut, o_cutT, o_cutL, w_pass, w_ret, w_if, w_seqV, w_seqR, w_seq, w_asgV, w_asg, w_gNm, w_gTp, w_gNl, w_gCn, w_par2V, w_par2, w_set, w_body, w_endD, w_endN, w_for, w_forN, w_loopN, w_loopR, w_forC, o_add, o_addB, o_sub, o_ord, o_lt, o_le, o_gt, o_ge, o_eqI, o_neI, o_eqB, o_not, o_neg, o_len_t, o_len_l, o_len_f, datL_nil, datL_cons, startR, List.map_cons, List.map_nil, List.length_cons, List.length_nil, List.replicate_succ, List.replicate_zero, List.cons_append, List.nil_append, List.getElem?_cons_zero, List.getElem?_cons_succ, List.set_cons_zero, List.set_cons_succ, List.take_length, Option.map_some, Option.map_none, List.append_nil, Nat.sub_self, w_idxV, w_idx_t, w_idx_l, w_idx_f, at0, at1, at2, cut1, w_call, w_tup, w_lst, Nat.reduceSub, Nat.reduceAdd, Nat.reduceLeDiff, if_true, reduceIte, Bool.not_true, Bool.not_false, Bool.false_eq_true, reduceCtorEq, w_isT, w_comp, w_datV, w_compN, w_rhoV, w_compC, w_okT, w_any, w_any_t, w_any_l, w_any_f, w_enum, w_enum_t, w_enum_l, w_zip, w_zip_t, w_zip_l, zip_nil, zip_nil2, zip_cons, w_range, tg_nm, tg_tp2, wipe_nil, wipe_cons, Nat.reduceLT, hd, take_len n1]
  exact k d μ1 hm s1 n1
def Trip (d : PyData) : Prop := ∃ a b c : Int, d = .tuple [.int a, .int b, .int c]
theorem trip_wf {d : PyData} (h : Trip d) : wf 6 1 d := by
  obtain ⟨a, b, c, rfl⟩ := h
  simp only [wf]
  refine ⟨by simp, fun d hd => ?_⟩
  simp at hd
  rcases hd with rfl | rfl | rfl <;> simp only [wf]
theorem pat_body {c : Nat} {ds : List PyData} {l : Int} {x y z : Option Val} {μ : Mem} {QS : Flo × Rho → Mem → Prop} (hs : Src c μ) (hd : ∀ d ∈ ds, Trip d) (hl : ds.length ≤ 100)
    (k : ∀ (d : PyData) (l : Int) (y z : Option Val) (μ' : Mem), Trip d → Src c μ' → μ'.length = μ.length → QS (.nx, [some (.cel c), some (.dat (.tuple (ds ++ [d]))), some (.dat (.int l)), x, y, z]) μ') :
    wp (lb_l_pattern_0 [some (.cel c), some (.dat (.tuple ds)), some (.dat (.int l)), x, y, z] μ) QS := by
  unfold lb_l_pattern_0
  refine w_seqI (fun ρ1 μ1 => ∃ f : Int, ρ1 = [some (.cel c), some (.dat (.tuple ds)), some (.dat (.int l)), x, some (.dat (.int f)), z] ∧ Src c μ1 ∧ μ1.length = μ.length) ?_ ?_
  · simp only [wp_ok, wp_okD, wp_bind, w_var, w_varV, w_c, w_bin, w_un, w_nil, w_cons, w_args, w_boolV, w_tOf, w_fAnd, w_fOr, w_fNot, w_eAnd, w_eOr, w_eIf, w_chain, w_optV, w_oNone, w_oSome, w_cut, o_cutT, o_cutL, w_pass, w_ret, w_if, w_seqV, w_seqR, w_seq, w_asgV, w_asg, w_gNm, w_gTp, w_gNl, w_gCn, w_par2V, w_par2, w_set, w_body, w_endD, w_endN, w_for, w_forN, w_loopN, w_loopR, w_forC, o_add, o_addB, o_sub, o_ord, o_lt, o_le, o_gt, o_ge, o_eqI, o_neI, o_eqB, o_not, o_neg, o_len_t, o_len_l, o_len_f, datL_nil, datL_cons, startR, List.map_cons, List.map_nil, List.length_cons, List.length_nil, List.replicate_succ, List.replicate_zero, List.cons_append, List.nil_append, List.getElem?_cons_zero, List.getElem?_cons_succ, List.set_cons_zero, List.set_cons_succ, List.take_length, Option.map_some, Option.map_none, List.append_nil, Nat.sub_self, w_idxV, w_idx_t, w_idx_l, w_idx_f, at0, at1, at2, cut1, w_call, w_tup, w_lst, Nat.reduceSub, Nat.reduceAdd, Nat.reduceLeDiff, if_true, reduceIte, Bool.not_true, Bool.not_false, Bool.false_eq_true, reduceCtorEq, w_isT, w_comp, w_datV, w_compN, w_rhoV, w_compC, w_okT, w_any, w_any_t, w_any_l, w_any_f, w_enum, w_enum_t, w_enum_l, w_zip, w_zip_t, w_zip_l, zip_nil, zip_nil2, zip_cons, w_range, tg_nm, tg_tp2, wipe_nil, wipe_cons, Nat.reduceLT]
    refine draw_w hs (by omega) (by omega) fun r1 μ1 _ _ s1 n1 => ?_
    simp only [wp_ok, wp_okD, wp_bind, w_var, w_varV, w_c, w_bin, w_un, w_nil, w_cons, w_args, w_boolV, w_tOf, w_fAnd, w_fOr, w_fNot, w_eAnd, w_eOr, w_eIf, w_chain, w_optV, w_oNone, w_oSome, w_cut, o_cutT, o_cutL, w_pass, w_ret, w_if, w_seqV, w_seqR, w_seq, w_asgV, w_asg, w_gNm, w_gTp, w_gNl, w_gCn, w_par2V, w_par2, w_set, w_body, w_endD, w_endN, w_for, w_forN, w_loopN, w_loopR, w_forC, o_add, o_addB, o_sub, o_ord, o_lt, o_le, o_gt, o_ge, o_eqI, o_neI, o_eqB, o_not, o_neg, o_len_t, o_len_l, o_len_f, datL_nil, datL_cons, startR, List.map_cons, List.map_nil, List.length_cons, List.length_nil, List.replicate_succ, List.replicate_zero, List.cons_append, List.nil_append, List.getElem?_cons_zero, List.getElem?_cons_succ, List.set_cons_zero, List.set_cons_succ, List.take_length, Option.map_some, Option.map_none, List.append_nil, Nat.sub_self, w_idxV, w_idx_t, w_idx_l, w_idx_f, at0, at1, at2, cut1, w_call, w_tup, w_lst, Nat.reduceSub, Nat.reduceAdd, Nat.reduceLeDiff, if_true, reduceIte, Bool.not_true, Bool.not_false, Bool.false_eq_true, reduceCtorEq, w_isT, w_comp, w_datV, w_compN, w_rhoV, w_compC, w_okT, w_any, w_any_t, w_any_l, w_any_f, w_enum, w_enum_t, w_enum_l, w_zip, w_zip_t, w_zip_l, zip_nil, zip_nil2, zip_cons, w_range, tg_nm, tg_tp2, wipe_nil, wipe_cons, Nat.reduceLT]
    refine of_w s1 (by simp) (by simp) fun f μ2 hf s2 n2 => ?_
    obtain ⟨f, rfl⟩ : ∃ i, f = .int i := by
      simp only [List.mem_cons, List.not_mem_nil, or_false] at hf
      rcases hf with rfl | rfl | rfl | rfl | rfl | rfl | rfl | rfl <;> exact ⟨_, rfl⟩
    exact ⟨f, rfl, s2, by omega⟩
  rintro ρ1 μ1 ⟨f, rfl, s1, n1⟩
  refine w_seqI (fun ρ1 μ2 => ∃ f : Int, ρ1 = [some (.cel c), some (.dat (.tuple ds)), some (.dat (.int l)), x, some (.dat (.int f)), z] ∧ Src c μ2 ∧ μ2.length = μ.length) ?_ ?_
  · simp only [wp_ok, wp_okD, wp_bind, w_var, w_varV, w_c, w_bin, w_un, w_nil, w_cons, w_args, w_boolV, w_tOf, w_fAnd, w_fOr, w_fNot, w_eAnd, w_eOr, w_eIf, w_chain, w_optV, w_oNone, w_oSome, w_cut, o_cutT, o_cutL, w_pass, w_ret, w_if, w_seqV, w_seqR, w_seq, w_asgV, w_asg, w_gNm, w_gTp, w_gNl, w_gCn, w_par2V, w_par2, w_set, w_body, w_endD, w_endN, w_for, w_forN, w_loopN, w_loopR, w_forC, o_add, o_addB, o_sub, o_ord, o_lt, o_le, o_gt, o_ge, o_eqI, o_neI, o_eqB, o_not, o_neg, o_len_t, o_len_l, o_len_f, datL_nil, datL_cons, startR, List.map_cons, List.map_nil, List.length_cons, List.length_nil, List.replicate_succ, List.replicate_zero, List.cons_append, List.nil_append, List.getElem?_cons_zero, List.getElem?_cons_succ, List.set_cons_zero, List.set_cons_succ, List.take_length, Option.map_some, Option.map_none, List.append_nil, Nat.sub_self, w_idxV, w_idx_t, w_idx_l, w_idx_f, at0, at1, at2, cut1, w_call, w_tup, w_lst, Nat.reduceSub, Nat.reduceAdd, Nat.reduceLeDiff, if_true, reduceIte, Bool.not_true, Bool.not_false, Bool.false_eq_true, reduceCtorEq, w_isT, w_comp, w_datV, w_compN, w_rhoV, w_compC, w_okT, w_any, w_any_t, w_any_l, w_any_f, w_enum, w_enum_t, w_enum_l, w_zip, w_zip_t, w_zip_l, zip_nil, zip_nil2, zip_cons, w_range, tg_nm, tg_tp2, wipe_nil, wipe_cons, Nat.reduceLT]
    by_cases q : f = l
    · simp only [q, decide_true, wp_ok, wp_okD, wp_bind, w_var, w_varV, w_c, w_bin, w_un, w_nil, w_cons, w_args, w_boolV, w_tOf, w_fAnd, w_fOr, w_fNot, w_eAnd, w_eOr, w_eIf, w_chain, w_optV, w_oNone, w_oSome, w_cut, o_cutT, o_cutL, w_pass, w_ret, w_if, w_seqV, w_seqR, w_seq, w_asgV, w_asg, w_gNm, w_gTp, w_gNl, w_gCn, w_par2V, w_par2, w_set, w_body, w_endD, w_endN, w_for, w_forN, w_loopN, w_loopR, w_forC, o_add, o_addB, o_sub, o_ord, o_lt, o_le, o_gt, o_ge, o_eqI, o_neI, o_eqB, o_not, o_neg, o_len_t, o_len_l, o_len_f, datL_nil, datL_cons, startR, List.map_cons, List.map_nil, List.length_cons, List.length_nil, List.replicate_succ, List.replicate_zero, List.cons_append, List.nil_append, List.getElem?_cons_zero, List.getElem?_cons_succ, List.set_cons_zero, List.set_cons_succ, List.take_length, Option.map_some, Option.map_none, List.append_nil, Nat.sub_self, w_idxV, w_idx_t, w_idx_l, w_idx_f, at0, at1, at2, cut1, w_call, w_tup, w_lst, Nat.reduceSub, Nat.reduceAdd, Nat.reduceLeDiff, if_true, reduceIte, Bool.not_true, Bool.not_false, Bool.false_eq_true, reduceCtorEq, w_isT, w_comp, w_datV, w_compN, w_rhoV, w_compC, w_okT, w_any, w_any_t, w_any_l, w_any_f, w_enum, w_enum_t, w_enum_l, w_zip, w_zip_t, w_zip_l, zip_nil, zip_nil2, zip_cons, w_range, tg_nm, tg_tp2, wipe_nil, wipe_cons, Nat.reduceLT]
      refine draw_w s1 (by omega) (by omega) fun r2 μ3 _ _ s3 n3 => ?_
      have o1 : ∀ (i : Int) (μ : Mem), gMod (.dat (.int i)) (.dat (.int 10)) μ = okD (.int (i % 10)) μ := fun i μ => o_mod (by omega)
      simp only [wp_ok, wp_okD, wp_bind, w_var, w_varV, w_c, w_bin, w_un, w_nil, w_cons, w_args, w_boolV, w_tOf, w_fAnd, w_fOr, w_fNot, w_eAnd, w_eOr, w_eIf, w_chain, w_optV, w_oNone, w_oSome, w_cut, o_cutT, o_cutL, w_pass, w_ret, w_if, w_seqV, w_seqR, w_seq, w_asgV, w_asg, w_gNm, w_gTp, w_gNl, w_gCn, w_par2V, w_par2, w_set, w_body, w_endD, w_endN, w_for, w_forN, w_loopN, w_loopR, w_forC, o_add, o_addB, o_sub, o_ord, o_lt, o_le, o_gt, o_ge, o_eqI, o_neI, o_eqB, o_not, o_neg, o_len_t, o_len_l, o_len_f, datL_nil, datL_cons, startR, List.map_cons, List.map_nil, List.length_cons, List.length_nil, List.replicate_succ, List.replicate_zero, List.cons_append, List.nil_append, List.getElem?_cons_zero, List.getElem?_cons_succ, List.set_cons_zero, List.set_cons_succ, List.take_length, Option.map_some, Option.map_none, List.append_nil, Nat.sub_self, w_idxV, w_idx_t, w_idx_l, w_idx_f, at0, at1, at2, cut1, w_call, w_tup, w_lst, Nat.reduceSub, Nat.reduceAdd, Nat.reduceLeDiff, if_true, reduceIte, Bool.not_true, Bool.not_false, Bool.false_eq_true, reduceCtorEq, w_isT, w_comp, w_datV, w_compN, w_rhoV, w_compC, w_okT, w_any, w_any_t, w_any_l, w_any_f, w_enum, w_enum_t, w_enum_l, w_zip, w_zip_t, w_zip_l, zip_nil, zip_nil2, zip_cons, w_range, tg_nm, tg_tp2, wipe_nil, wipe_cons, Nat.reduceLT, o1]
      exact ⟨_, rfl, s3, by omega⟩
    · simp only [q, decide_false, wp_ok, wp_okD, wp_bind, w_var, w_varV, w_c, w_bin, w_un, w_nil, w_cons, w_args, w_boolV, w_tOf, w_fAnd, w_fOr, w_fNot, w_eAnd, w_eOr, w_eIf, w_chain, w_optV, w_oNone, w_oSome, w_cut, o_cutT, o_cutL, w_pass, w_ret, w_if, w_seqV, w_seqR, w_seq, w_asgV, w_asg, w_gNm, w_gTp, w_gNl, w_gCn, w_par2V, w_par2, w_set, w_body, w_endD, w_endN, w_for, w_forN, w_loopN, w_loopR, w_forC, o_add, o_addB, o_sub, o_ord, o_lt, o_le, o_gt, o_ge, o_eqI, o_neI, o_eqB, o_not, o_neg, o_len_t, o_len_l, o_len_f, datL_nil, datL_cons, startR, List.map_cons, List.map_nil, List.length_cons, List.length_nil, List.replicate_succ, List.replicate_zero, List.cons_append, List.nil_append, List.getElem?_cons_zero, List.getElem?_cons_succ, List.set_cons_zero, List.set_cons_succ, List.take_length, Option.map_some, Option.map_none, List.append_nil, Nat.sub_self, w_idxV, w_idx_t, w_idx_l, w_idx_f, at0, at1, at2, cut1, w_call, w_tup, w_lst, Nat.reduceSub, Nat.reduceAdd, Nat.reduceLeDiff, if_true, reduceIte, Bool.not_true, Bool.not_false, Bool.false_eq_true, reduceCtorEq, w_isT, w_comp, w_datV, w_compN, w_rhoV, w_compC, w_okT, w_any, w_any_t, w_any_l, w_any_f, w_enum, w_enum_t, w_enum_l, w_zip, w_zip_t, w_zip_l, zip_nil, zip_nil2, zip_cons, w_range, tg_nm, tg_tp2, wipe_nil, wipe_cons, Nat.reduceLT]
      exact ⟨f, rfl, s1, n1⟩
  rintro ρ1 μ2 ⟨f, rfl, s2, n2⟩
  have P5 : ∀ {μ1 : Mem} {i j : Int}, Src c μ1 → μ1.length = μ.length → ∃ i' j' : Int, [some (Val.cel c), some (.dat (.tuple ds)), some (.dat (.int l)), x, some (.dat (.int f)), some (.dat (.tuple [.int i, .int j]))] = [some (Val.cel c), some (.dat (.tuple ds)), some (.dat (.int l)), x, some (.dat (.int f)), some (.dat (.tuple [.int i', .int j']))] ∧ Src c μ1 ∧ μ1.length = μ.length := fun s n => ⟨_, _, rfl, s, n⟩
  refine w_seqI (fun ρ1 μ2 => ∃ i j : Int, ρ1 = [some (.cel c), some (.dat (.tuple ds)), some (.dat (.int l)), x, some (.dat (.int f)), some (.dat (.tuple [.int i, .int j]))] ∧ Src c μ2 ∧ μ2.length = μ.length) ?_ ?_
  · simp only [wp_ok, wp_okD, wp_bind, w_var, w_varV, w_c, w_bin, w_un, w_nil, w_cons, w_args, w_boolV, w_tOf, w_fAnd, w_fOr, w_fNot, w_eAnd, w_eOr, w_eIf, w_chain, w_optV, w_oNone, w_oSome, w_cut, o_cutT, o_cutL, w_pass, w_ret, w_if, w_seqV, w_seqR, w_seq, w_asgV, w_asg, w_gNm, w_gTp, w_gNl, w_gCn, w_par2V, w_par2, w_set, w_body, w_endD, w_endN, w_for, w_forN, w_loopN, w_loopR, w_forC, o_add, o_addB, o_sub, o_ord, o_lt, o_le, o_gt, o_ge, o_eqI, o_neI, o_eqB, o_not, o_neg, o_len_t, o_len_l, o_len_f, datL_nil, datL_cons, startR, List.map_cons, List.map_nil, List.length_cons, List.length_nil, List.replicate_succ, List.replicate_zero, List.cons_append, List.nil_append, List.getElem?_cons_zero, List.getElem?_cons_succ, List.set_cons_zero, List.set_cons_succ, List.take_length, Option.map_some, Option.map_none, List.append_nil, Nat.sub_self, w_idxV, w_idx_t, w_idx_l, w_idx_f, at0, at1, at2, cut1, w_call, w_tup, w_lst, Nat.reduceSub, Nat.reduceAdd, Nat.reduceLeDiff, if_true, reduceIte, Bool.not_true, Bool.not_false, Bool.false_eq_true, reduceCtorEq, w_isT, w_comp, w_datV, w_compN, w_rhoV, w_compC, w_okT, w_any, w_any_t, w_any_l, w_any_f, w_enum, w_enum_t, w_enum_l, w_zip, w_zip_t, w_zip_l, zip_nil, zip_nil2, zip_cons, w_range, tg_nm, tg_tp2, wipe_nil, wipe_cons, Nat.reduceLT]
    refine of_w s2 (by simp) (by simp) fun p μ4 hp s4 n4 => ?_
    obtain ⟨p1, p2, rfl⟩ : ∃ i j, p = .tuple [.int i, .int j] := by
      simp only [List.mem_cons, List.not_mem_nil, or_false] at hp
      rcases hp with rfl | rfl | rfl | rfl | rfl | rfl <;> exact ⟨_, _, rfl⟩
    exact P5 s4 (by omega)
  rintro ρ1 μ3 ⟨i, j, rfl, s3, n3⟩
  refine w_seqI (fun ρ1 μ2 => ∃ i j : Int, ρ1 = [some (.cel c), some (.dat (.tuple ds)), some (.dat (.int l)), x, some (.dat (.int f)), some (.dat (.tuple [.int i, .int j]))] ∧ Src c μ2 ∧ μ2.length = μ.length) ?_ ?_
  · simp only [wp_ok, wp_okD, wp_bind, w_var, w_varV, w_c, w_bin, w_un, w_nil, w_cons, w_args, w_boolV, w_tOf, w_fAnd, w_fOr, w_fNot, w_eAnd, w_eOr, w_eIf, w_chain, w_optV, w_oNone, w_oSome, w_cut, o_cutT, o_cutL, w_pass, w_ret, w_if, w_seqV, w_seqR, w_seq, w_asgV, w_asg, w_gNm, w_gTp, w_gNl, w_gCn, w_par2V, w_par2, w_set, w_body, w_endD, w_endN, w_for, w_forN, w_loopN, w_loopR, w_forC, o_add, o_addB, o_sub, o_ord, o_lt, o_le, o_gt, o_ge, o_eqI, o_neI, o_eqB, o_not, o_neg, o_len_t, o_len_l, o_len_f, datL_nil, datL_cons, startR, List.map_cons, List.map_nil, List.length_cons, List.length_nil, List.replicate_succ, List.replicate_zero, List.cons_append, List.nil_append, List.getElem?_cons_zero, List.getElem?_cons_succ, List.set_cons_zero, List.set_cons_succ, List.take_length, Option.map_some, Option.map_none, List.append_nil, Nat.sub_self, w_idxV, w_idx_t, w_idx_l, w_idx_f, at0, at1, at2, cut1, w_call, w_tup, w_lst, Nat.reduceSub, Nat.reduceAdd, Nat.reduceLeDiff, if_true, reduceIte, Bool.not_true, Bool.not_false, Bool.false_eq_true, reduceCtorEq, w_isT, w_comp, w_datV, w_compN, w_rhoV, w_compC, w_okT, w_any, w_any_t, w_any_l, w_any_f, w_enum, w_enum_t, w_enum_l, w_zip, w_zip_t, w_zip_l, zip_nil, zip_nil2, zip_cons, w_range, tg_nm, tg_tp2, wipe_nil, wipe_cons, Nat.reduceLT]
    refine draw_w s3 (by omega) (by omega) fun r2 μ5 _ _ s5 n5 => ?_
    simp only [wp_ok, wp_okD, wp_bind, w_var, w_varV, w_c, w_bin, w_un, w_nil, w_cons, w_args, w_boolV, w_tOf, w_fAnd, w_fOr, w_fNot, w_eAnd, w_eOr, w_eIf, w_chain, w_optV, w_oNone, w_oSome, w_cut, o_cutT, o_cutL, w_pass, w_ret, w_if, w_seqV, w_seqR, w_seq, w_asgV, w_asg, w_gNm, w_gTp, w_gNl, w_gCn, w_par2V, w_par2, w_set, w_body, w_endD, w_endN, w_for, w_forN, w_loopN, w_loopR, w_forC, o_add, o_addB, o_sub, o_ord, o_lt, o_le, o_gt, o_ge, o_eqI, o_neI, o_eqB, o_not, o_neg, o_len_t, o_len_l, o_len_f, datL_nil, datL_cons, startR, List.map_cons, List.map_nil, List.length_cons, List.length_nil, List.replicate_succ, List.replicate_zero, List.cons_append, List.nil_append, List.getElem?_cons_zero, List.getElem?_cons_succ, List.set_cons_zero, List.set_cons_succ, List.take_length, Option.map_some, Option.map_none, List.append_nil, Nat.sub_self, w_idxV, w_idx_t, w_idx_l, w_idx_f, at0, at1, at2, cut1, w_call, w_tup, w_lst, Nat.reduceSub, Nat.reduceAdd, Nat.reduceLeDiff, if_true, reduceIte, Bool.not_true, Bool.not_false, Bool.false_eq_true, reduceCtorEq, w_isT, w_comp, w_datV, w_compN, w_rhoV, w_compC, w_okT, w_any, w_any_t, w_any_l, w_any_f, w_enum, w_enum_t, w_enum_l, w_zip, w_zip_t, w_zip_l, zip_nil, zip_nil2, zip_cons, w_range, tg_nm, tg_tp2, wipe_nil, wipe_cons, Nat.reduceLT]
    by_cases q : r2 = 0
    · simp only [q, decide_true, wp_ok, wp_okD, wp_bind, w_var, w_varV, w_c, w_bin, w_un, w_nil, w_cons, w_args, w_boolV, w_tOf, w_fAnd, w_fOr, w_fNot, w_eAnd, w_eOr, w_eIf, w_chain, w_optV, w_oNone, w_oSome, w_cut, o_cutT, o_cutL, w_pass, w_ret, w_if, w_seqV, w_seqR, w_seq, w_asgV, w_asg, w_gNm, w_gTp, w_gNl, w_gCn, w_par2V, w_par2, w_set, w_body, w_endD, w_endN, w_for, w_forN, w_loopN, w_loopR, w_forC, o_add, o_addB, o_sub, o_ord, o_lt, o_le, o_gt, o_ge, o_eqI, o_neI, o_eqB, o_not, o_neg, o_len_t, o_len_l, o_len_f, datL_nil, datL_cons, startR, List.map_cons, List.map_nil, List.length_cons, List.length_nil, List.replicate_succ, List.replicate_zero, List.cons_append, List.nil_append, List.getElem?_cons_zero, List.getElem?_cons_succ, List.set_cons_zero, List.set_cons_succ, List.take_length, Option.map_some, Option.map_none, List.append_nil, Nat.sub_self, w_idxV, w_idx_t, w_idx_l, w_idx_f, at0, at1, at2, cut1, w_call, w_tup, w_lst, Nat.reduceSub, Nat.reduceAdd, Nat.reduceLeDiff, if_true, reduceIte, Bool.not_true, Bool.not_false, Bool.false_eq_true, reduceCtorEq, w_isT, w_comp, w_datV, w_compN, w_rhoV, w_compC, w_okT, w_any, w_any_t, w_any_l, w_any_f, w_enum, w_enum_t, w_enum_l, w_zip, w_zip_t, w_zip_l, zip_nil, zip_nil2, zip_cons, w_range, tg_nm, tg_tp2, wipe_nil, wipe_cons, Nat.reduceLT]
      refine draw_w s5 (by omega) (by omega) fun r3 μ6 _ _ s6 n6 => ?_
      simp only [wp_ok, wp_okD, wp_bind, w_var, w_varV, w_c, w_bin, w_un, w_nil, w_cons, w_args, w_boolV, w_tOf, w_fAnd, w_fOr, w_fNot, w_eAnd, w_eOr, w_eIf, w_chain, w_optV, w_oNone, w_oSome, w_cut, o_cutT, o_cutL, w_pass, w_ret, w_if, w_seqV, w_seqR, w_seq, w_asgV, w_asg, w_gNm, w_gTp, w_gNl, w_gCn, w_par2V, w_par2, w_set, w_body, w_endD, w_endN, w_for, w_forN, w_loopN, w_loopR, w_forC, o_add, o_addB, o_sub, o_ord, o_lt, o_le, o_gt, o_ge, o_eqI, o_neI, o_eqB, o_not, o_neg, o_len_t, o_len_l, o_len_f, datL_nil, datL_cons, startR, List.map_cons, List.map_nil, List.length_cons, List.length_nil, List.replicate_succ, List.replicate_zero, List.cons_append, List.nil_append, List.getElem?_cons_zero, List.getElem?_cons_succ, List.set_cons_zero, List.set_cons_succ, List.take_length, Option.map_some, Option.map_none, List.append_nil, Nat.sub_self, w_idxV, w_idx_t, w_idx_l, w_idx_f, at0, at1, at2, cut1, w_call, w_tup, w_lst, Nat.reduceSub, Nat.reduceAdd, Nat.reduceLeDiff, if_true, reduceIte, Bool.not_true, Bool.not_false, Bool.false_eq_true, reduceCtorEq, w_isT, w_comp, w_datV, w_compN, w_rhoV, w_compC, w_okT, w_any, w_any_t, w_any_l, w_any_f, w_enum, w_enum_t, w_enum_l, w_zip, w_zip_t, w_zip_l, zip_nil, zip_nil2, zip_cons, w_range, tg_nm, tg_tp2, wipe_nil, wipe_cons, Nat.reduceLT]
      refine draw_w s6 (by omega) (by omega) fun r4 μ7 _ _ s7 n7 => ?_
      simp only [wp_ok, wp_okD, wp_bind, w_var, w_varV, w_c, w_bin, w_un, w_nil, w_cons, w_args, w_boolV, w_tOf, w_fAnd, w_fOr, w_fNot, w_eAnd, w_eOr, w_eIf, w_chain, w_optV, w_oNone, w_oSome, w_cut, o_cutT, o_cutL, w_pass, w_ret, w_if, w_seqV, w_seqR, w_seq, w_asgV, w_asg, w_gNm, w_gTp, w_gNl, w_gCn, w_par2V, w_par2, w_set, w_body, w_endD, w_endN, w_for, w_forN, w_loopN, w_loopR, w_forC, o_add, o_addB, o_sub, o_ord, o_lt, o_le, o_gt, o_ge, o_eqI, o_neI, o_eqB, o_not, o_neg, o_len_t, o_len_l, o_len_f, datL_nil, datL_cons, startR, List.map_cons, List.map_nil, List.length_cons, List.length_nil, List.replicate_succ, List.replicate_zero, List.cons_append, List.nil_append, List.getElem?_cons_zero, List.getElem?_cons_succ, List.set_cons_zero, List.set_cons_succ, List.take_length, Option.map_some, Option.map_none, List.append_nil, Nat.sub_self, w_idxV, w_idx_t, w_idx_l, w_idx_f, at0, at1, at2, cut1, w_call, w_tup, w_lst, Nat.reduceSub, Nat.reduceAdd, Nat.reduceLeDiff, if_true, reduceIte, Bool.not_true, Bool.not_false, Bool.false_eq_true, reduceCtorEq, w_isT, w_comp, w_datV, w_compN, w_rhoV, w_compC, w_okT, w_any, w_any_t, w_any_l, w_any_f, w_enum, w_enum_t, w_enum_l, w_zip, w_zip_t, w_zip_l, zip_nil, zip_nil2, zip_cons, w_range, tg_nm, tg_tp2, wipe_nil, wipe_cons, Nat.reduceLT]
      exact P5 s7 (by omega)
    · simp only [q, decide_false, wp_ok, wp_okD, wp_bind, w_var, w_varV, w_c, w_bin, w_un, w_nil, w_cons, w_args, w_boolV, w_tOf, w_fAnd, w_fOr, w_fNot, w_eAnd, w_eOr, w_eIf, w_chain, w_optV, w_oNone, w_oSome, w_cut, o_cutT, o_cutL, w_pass, w_ret, w_if, w_seqV, w_seqR, w_seq, w_asgV, w_asg, w_gNm, w_gTp, w_gNl, w_gCn, w_par2V, w_par2, w_set, w_body, w_endD, w_endN, w_for, w_forN, w_loopN, w_loopR, w_forC, o_add, o_addB, o_sub, o_ord, o_lt, o_le, o_gt, o_ge, o_eqI, o_neI, o_eqB, o_not, o_neg, o_len_t, o_len_l, o_len_f, datL_nil, datL_cons, startR, List.map_cons, List.map_nil, List.length_cons, List.length_nil, List.replicate_succ, List.replicate_zero, List.cons_append, List.nil_append, List.getElem?_cons_zero, List.getElem?_cons_succ, List.set_cons_zero, List.set_cons_succ, List.take_length, Option.map_some, Option.map_none, List.append_nil, Nat.sub_self, w_idxV, w_idx_t, w_idx_l, w_idx_f, at0, at1, at2, cut1, w_call, w_tup, w_lst, Nat.reduceSub, Nat.reduceAdd, Nat.reduceLeDiff, if_true, reduceIte, Bool.not_true, Bool.not_false, Bool.false_eq_true, reduceCtorEq, w_isT, w_comp, w_datV, w_compN, w_rhoV, w_compC, w_okT, w_any, w_any_t, w_any_l, w_any_f, w_enum, w_enum_t, w_enum_l, w_zip, w_zip_t, w_zip_l, zip_nil, zip_nil2, zip_cons, w_range, tg_nm, tg_tp2, wipe_nil, wipe_cons, Nat.reduceLT]
      exact P5 s5 (by omega)
  rintro ρ1 μ4 ⟨i, j, rfl, s4, n4⟩
  have o1 : ∀ μ6 : Mem, gAdd (.dat (.tuple [.int f])) (.dat (.tuple [.int i, .int j])) μ6 = okD (.tuple [.int f, .int i, .int j]) μ6 := fun μ6 => o_addT (by simp)
  have o2 : ∀ μ6 : Mem, gAdd (.dat (.tuple ds)) (.dat (.tuple [.tuple [.int f, .int i, .int j]])) μ6 = okD (.tuple (ds ++ [.tuple [.int f, .int i, .int j]])) μ6 := fun μ6 => o_addT (by simp; omega)
  simp only [wp_ok, wp_okD, wp_bind, w_var, w_varV, w_c, w_bin, w_un, w_nil, w_cons, w_args, w_boolV, w_tOf, w_fAnd, w_fOr, w_fNot, w_eAnd, w_eOr, w_eIf, w_chain, w_optV, w_oNone, w_oSome, w_cut, o_cutT, o_cutL, w_pass, w_ret, w_if, w_seqV, w_seqR, w_seq, w_asgV, w_asg, w_gNm, w_gTp, w_gNl, w_gCn, w_par2V, w_par2, w_set, w_body, w_endD, w_endN, w_for, w_forN, w_loopN, w_loopR, w_forC, o_add, o_addB, o_sub, o_ord, o_lt, o_le, o_gt, o_ge, o_eqI, o_neI, o_eqB, o_not, o_neg, o_len_t, o_len_l, o_len_f, datL_nil, datL_cons, startR, List.map_cons, List.map_nil, List.length_cons, List.length_nil, List.replicate_succ, List.replicate_zero, List.cons_append, List.nil_append, List.getElem?_cons_zero, List.getElem?_cons_succ, List.set_cons_zero, List.set_cons_succ, List.take_length, Option.map_some, Option.map_none, List.append_nil, Nat.sub_self, w_idxV, w_idx_t, w_idx_l, w_idx_f, at0, at1, at2, cut1, w_call, w_tup, w_lst, Nat.reduceSub, Nat.reduceAdd, Nat.reduceLeDiff, if_true, reduceIte, Bool.not_true, Bool.not_false, Bool.false_eq_true, reduceCtorEq, w_isT, w_comp, w_datV, w_compN, w_rhoV, w_compC, w_okT, w_any, w_any_t, w_any_l, w_any_f, w_enum, w_enum_t, w_enum_l, w_zip, w_zip_t, w_zip_l, zip_nil, zip_nil2, zip_cons, w_range, tg_nm, tg_tp2, wipe_nil, wipe_cons, Nat.reduceLT, o1, o2]
  exact k _ _ _ _ μ4 ⟨f, i, j, rfl⟩ s4 n4
end K01
set_option Elab.async false
set_option linter.all false
set_option maxRecDepth 100000
set_option maxHeartbeats 4000000
namespace K01
open PySem PySem.Spec PyProof.Rows L2 DN
theorem pat_draw_loop {c : Nat} {QS : Flo × Rho → Mem → Prop} : ∀ (n : Nat) (lo : Int) (ds : List PyData) (l : Int) (x y z : Option Val) (μ : Mem), Src c μ → (∀ d ∈ ds, Trip d) → ds.length + n ≤ 100 →
    (∀ (ds' : List PyData) (l : Int) (x y z : Option Val) (μ' : Mem), (∀ d ∈ ds', Trip d) → ds'.length = ds.length + n → Src c μ' → μ'.length = μ.length → QS (.nx, [some (.cel c), some (.dat (.tuple ds')), some (.dat (.int l)), x, y, z]) μ') →
    wp (forD (gNm 3) lb_l_pattern_0 (rangeD lo n) [some (.cel c), some (.dat (.tuple ds)), some (.dat (.int l)), x, y, z] μ) QS
  | 0, lo, ds, l, x, y, z, μ, hs, hd, _, k => k ds l x y z μ hd rfl hs rfl
  | n + 1, lo, ds, l, x, y, z, μ, hs, hd, hl, k => by
    unfold rangeD
    simp only [wp_ok, wp_okD, wp_bind, w_var, w_varV, w_c, w_bin, w_un, w_nil, w_cons, w_args, w_boolV, w_tOf, w_fAnd, w_fOr, w_fNot, w_eAnd, w_eOr, w_eIf, w_chain, w_optV, w_oNone, w_oSome, w_cut, o_cutT, o_cutL, w_pass, w_ret, w_if, w_seqV, w_seqR, w_seq, w_asgV, w_asg, w_gNm, w_gTp, w_gNl, w_gCn, w_par2V, w_par2, w_set, w_body, w_endD, w_endN, w_for, w_forN, w_loopN, w_loopR, w_forC, o_add, o_addB, o_sub, o_ord, o_lt, o_le, o_gt, o_ge, o_eqI, o_neI, o_eqB, o_not, o_neg, o_len_t, o_len_l, o_len_f, datL_nil, datL_cons, startR, List.map_cons, List.map_nil, List.length_cons, List.length_nil, List.replicate_succ, List.replicate_zero, List.cons_append, List.nil_append, List.getElem?_cons_zero, List.getElem?_cons_succ, List.set_cons_zero, List.set_cons_succ, List.take_length, Option.map_some, Option.map_none, List.append_nil, Nat.sub_self, w_idxV, w_idx_t, w_idx_l, w_idx_f, at0, at1, at2, cut1, w_call, w_tup, w_lst, Nat.reduceSub, Nat.reduceAdd, Nat.reduceLeDiff, if_true, reduceIte, Bool.not_true, Bool.not_false, Bool.false_eq_true, reduceCtorEq, w_isT, w_comp, w_datV, w_compN, w_rhoV, w_compC, w_okT, w_any, w_any_t, w_any_l, w_any_f, w_enum, w_enum_t, w_enum_l, w_zip, w_zip_t, w_zip_l, zip_nil, zip_nil2, zip_cons, w_range, tg_nm, tg_tp2, wipe_nil, wipe_cons, Nat.reduceLT]
    refine pat_body hs hd (by omega) fun d l1 y1 z1 μ1 ht s1 n1 => ?_
    simp only [wp_ok, wp_okD, wp_bind, w_var, w_varV, w_c, w_bin, w_un, w_nil, w_cons, w_args, w_boolV, w_tOf, w_fAnd, w_fOr, w_fNot, w_eAnd, w_eOr, w_eIf, w_chain, w_optV, w_oNone, w_oSome, w_cut, o_cutT, o_cutL, w_pass, w_ret, w_if, w_seqV, w_seqR, w_seq, w_asgV, w_asg, w_gNm, w_gTp, w_gNl, w_gCn, w_par2V, w_par2, w_set, w_body, w_endD, w_endN, w_for, w_forN, w_loopN, w_loopR, w_forC, o_add, o_addB, o_sub, o_ord, o_lt, o_le, o_gt, o_ge, o_eqI, o_neI, o_eqB, o_not, o_neg, o_len_t, o_len_l, o_len_f, datL_nil, datL_cons, startR, List.map_cons, List.map_nil, List.length_cons, List.length_nil, List.replicate_succ, List.replicate_zero, List.cons_append, List.nil_append, List.getElem?_cons_zero, List.getElem?_cons_succ, List.set_cons_zero, List.set_cons_succ, List.take_length, Option.map_some, Option.map_none, List.append_nil, Nat.sub_self, w_idxV, w_idx_t, w_idx_l, w_idx_f, at0, at1, at2, cut1, w_call, w_tup, w_lst, Nat.reduceSub, Nat.reduceAdd, Nat.reduceLeDiff, if_true, reduceIte, Bool.not_true, Bool.not_false, Bool.false_eq_true, reduceCtorEq, w_isT, w_comp, w_datV, w_compN, w_rhoV, w_compC, w_okT, w_any, w_any_t, w_any_l, w_any_f, w_enum, w_enum_t, w_enum_l, w_zip, w_zip_t, w_zip_l, zip_nil, zip_nil2, zip_cons, w_range, tg_nm, tg_tp2, wipe_nil, wipe_cons, Nat.reduceLT]
    refine pat_draw_loop n (lo + 1) (ds ++ [d]) l1 _ y1 z1 μ1 s1 (fun e he => ?_) (by simp; omega) fun ds' l2 x2 y2 z2 μ2 h1 h2 s2 n2 => k ds' l2 x2 y2 z2 μ2 h1 (by rw [h2]; simp; omega) s2 (by omega)
    rcases List.mem_append.mp he with q | q
    · exact hd e q
    · rw [List.mem_singleton.mp q]; exact ht
theorem trips_wf {ds : List PyData} (h : ∀ d ∈ ds, Trip d) (hl : ds.length ≤ 6) : wf 6 2 (.tuple ds) := by
  simp only [wf]
  exact ⟨hl, fun d hd => by
    have := trip_wf (h d hd)
    simpa only [wf] using this⟩
theorem pattern_w {c : Nat} {μ : Mem} {Q : Val → Mem → Prop} (hs : Src c μ) (k : ∀ (v : PyData) (μ' : Mem), wf 6 2 v → Src c μ' → μ'.length = μ.length → Q (.dat v) μ') : wp (F_l_pattern [.cel c] μ) Q := by
  unfold F_l_pattern b_l_pattern
  simp only [wp_ok, wp_okD, wp_bind, w_var, w_varV, w_c, w_bin, w_un, w_nil, w_cons, w_args, w_boolV, w_tOf, w_fAnd, w_fOr, w_fNot, w_eAnd, w_eOr, w_eIf, w_chain, w_optV, w_oNone, w_oSome, w_cut, o_cutT, o_cutL, w_pass, w_ret, w_if, w_seqV, w_seqR, w_seq, w_asgV, w_asg, w_gNm, w_gTp, w_gNl, w_gCn, w_par2V, w_par2, w_set, w_body, w_endD, w_endN, w_for, w_forN, w_loopN, w_loopR, w_forC, o_add, o_addB, o_sub, o_ord, o_lt, o_le, o_gt, o_ge, o_eqI, o_neI, o_eqB, o_not, o_neg, o_len_t, o_len_l, o_len_f, datL_nil, datL_cons, startR, List.map_cons, List.map_nil, List.length_cons, List.length_nil, List.replicate_succ, List.replicate_zero, List.cons_append, List.nil_append, List.getElem?_cons_zero, List.getElem?_cons_succ, List.set_cons_zero, List.set_cons_succ, List.take_length, Option.map_some, Option.map_none, List.append_nil, Nat.sub_self, w_idxV, w_idx_t, w_idx_l, w_idx_f, at0, at1, at2, cut1, w_call, w_tup, w_lst, Nat.reduceSub, Nat.reduceAdd, Nat.reduceLeDiff, if_true, reduceIte, Bool.not_true, Bool.not_false, Bool.false_eq_true, reduceCtorEq, w_isT, w_comp, w_datV, w_compN, w_rhoV, w_compC, w_okT, w_any, w_any_t, w_any_l, w_any_f, w_enum, w_enum_t, w_enum_l, w_zip, w_zip_t, w_zip_l, zip_nil, zip_nil2, zip_cons, w_range, tg_nm, tg_tp2, wipe_nil, wipe_cons, Nat.reduceLT]
  refine draw_w hs (by omega) (by omega) fun r μ1 r0 r1 s1 n1 => ?_
  simp only [wp_ok, wp_okD, wp_bind, w_var, w_varV, w_c, w_bin, w_un, w_nil, w_cons, w_args, w_boolV, w_tOf, w_fAnd, w_fOr, w_fNot, w_eAnd, w_eOr, w_eIf, w_chain, w_optV, w_oNone, w_oSome, w_cut, o_cutT, o_cutL, w_pass, w_ret, w_if, w_seqV, w_seqR, w_seq, w_asgV, w_asg, w_gNm, w_gTp, w_gNl, w_gCn, w_par2V, w_par2, w_set, w_body, w_endD, w_endN, w_for, w_forN, w_loopN, w_loopR, w_forC, o_add, o_addB, o_sub, o_ord, o_lt, o_le, o_gt, o_ge, o_eqI, o_neI, o_eqB, o_not, o_neg, o_len_t, o_len_l, o_len_f, datL_nil, datL_cons, startR, List.map_cons, List.map_nil, List.length_cons, List.length_nil, List.replicate_succ, List.replicate_zero, List.cons_append, List.nil_append, List.getElem?_cons_zero, List.getElem?_cons_succ, List.set_cons_zero, List.set_cons_succ, List.take_length, Option.map_some, Option.map_none, List.append_nil, Nat.sub_self, w_idxV, w_idx_t, w_idx_l, w_idx_f, at0, at1, at2, cut1, w_call, w_tup, w_lst, Nat.reduceSub, Nat.reduceAdd, Nat.reduceLeDiff, if_true, reduceIte, Bool.not_true, Bool.not_false, Bool.false_eq_true, reduceCtorEq, w_isT, w_comp, w_datV, w_compN, w_rhoV, w_compC, w_okT, w_any, w_any_t, w_any_l, w_any_f, w_enum, w_enum_t, w_enum_l, w_zip, w_zip_t, w_zip_l, zip_nil, zip_nil2, zip_cons, w_range, tg_nm, tg_tp2, wipe_nil, wipe_cons, Nat.reduceLT]
  rw [w_range1 (by omega)]
  obtain ⟨n, hn⟩ : ∃ n : Nat, (1 + r).toNat = n + 1 := ⟨r.toNat, by omega⟩
  rw [hn]
  refine pat_draw_loop (n + 1) 0 [] 0 _ _ _ μ1 s1 (fun d hd => by cases hd) (by simp; omega) fun ds l x y z μ2 ht hl s2 n2 => ?_
  simp only [wp_ok, wp_okD, wp_bind, w_var, w_varV, w_c, w_bin, w_un, w_nil, w_cons, w_args, w_boolV, w_tOf, w_fAnd, w_fOr, w_fNot, w_eAnd, w_eOr, w_eIf, w_chain, w_optV, w_oNone, w_oSome, w_cut, o_cutT, o_cutL, w_pass, w_ret, w_if, w_seqV, w_seqR, w_seq, w_asgV, w_asg, w_gNm, w_gTp, w_gNl, w_gCn, w_par2V, w_par2, w_set, w_body, w_endD, w_endN, w_for, w_forN, w_loopN, w_loopR, w_forC, o_add, o_addB, o_sub, o_ord, o_lt, o_le, o_gt, o_ge, o_eqI, o_neI, o_eqB, o_not, o_neg, o_len_t, o_len_l, o_len_f, datL_nil, datL_cons, startR, List.map_cons, List.map_nil, List.length_cons, List.length_nil, List.replicate_succ, List.replicate_zero, List.cons_append, List.nil_append, List.getElem?_cons_zero, List.getElem?_cons_succ, List.set_cons_zero, List.set_cons_succ, List.take_length, Option.map_some, Option.map_none, List.append_nil, Nat.sub_self, w_idxV, w_idx_t, w_idx_l, w_idx_f, at0, at1, at2, cut1, w_call, w_tup, w_lst, Nat.reduceSub, Nat.reduceAdd, Nat.reduceLeDiff, if_true, reduceIte, Bool.not_true, Bool.not_false, Bool.false_eq_true, reduceCtorEq, w_isT, w_comp, w_datV, w_compN, w_rhoV, w_compC, w_okT, w_any, w_any_t, w_any_l, w_any_f, w_enum, w_enum_t, w_enum_l, w_zip, w_zip_t, w_zip_l, zip_nil, zip_nil2, zip_cons, w_range, tg_nm, tg_tp2, wipe_nil, wipe_cons, Nat.reduceLT]
  rcases ds with _ | ⟨d, r'⟩
  · simp at hl
  · obtain ⟨a, b, e, rfl⟩ := ht d List.mem_cons_self
    have n3 : μ2.length = μ.length := by omega
    simp only [wp_ok, wp_okD, wp_bind, w_var, w_varV, w_c, w_bin, w_un, w_nil, w_cons, w_args, w_boolV, w_tOf, w_fAnd, w_fOr, w_fNot, w_eAnd, w_eOr, w_eIf, w_chain, w_optV, w_oNone, w_oSome, w_cut, o_cutT, o_cutL, w_pass, w_ret, w_if, w_seqV, w_seqR, w_seq, w_asgV, w_asg, w_gNm, w_gTp, w_gNl, w_gCn, w_par2V, w_par2, w_set, w_body, w_endD, w_endN, w_for, w_forN, w_loopN, w_loopR, w_forC, o_add, o_addB, o_sub, o_ord, o_lt, o_le, o_gt, o_ge, o_eqI, o_neI, o_eqB, o_not, o_neg, o_len_t, o_len_l, o_len_f, datL_nil, datL_cons, startR, List.map_cons, List.map_nil, List.length_cons, List.length_nil, List.replicate_succ, List.replicate_zero, List.cons_append, List.nil_append, List.getElem?_cons_zero, List.getElem?_cons_succ, List.set_cons_zero, List.set_cons_succ, List.take_length, Option.map_some, Option.map_none, List.append_nil, Nat.sub_self, w_idxV, w_idx_t, w_idx_l, w_idx_f, at0, at1, at2, cut1, w_call, w_tup, w_lst, Nat.reduceSub, Nat.reduceAdd, Nat.reduceLeDiff, if_true, reduceIte, Bool.not_true, Bool.not_false, Bool.false_eq_true, reduceCtorEq, w_isT, w_comp, w_datV, w_compN, w_rhoV, w_compC, w_okT, w_any, w_any_t, w_any_l, w_any_f, w_enum, w_enum_t, w_enum_l, w_zip, w_zip_t, w_zip_l, zip_nil, zip_nil2, zip_cons, w_range, tg_nm, tg_tp2, wipe_nil, wipe_cons, Nat.reduceLT]
    by_cases q : a = 0
    · simp only [q, decide_true, wp_ok, wp_okD, wp_bind, w_var, w_varV, w_c, w_bin, w_un, w_nil, w_cons, w_args, w_boolV, w_tOf, w_fAnd, w_fOr, w_fNot, w_eAnd, w_eOr, w_eIf, w_chain, w_optV, w_oNone, w_oSome, w_cut, o_cutT, o_cutL, w_pass, w_ret, w_if, w_seqV, w_seqR, w_seq, w_asgV, w_asg, w_gNm, w_gTp, w_gNl, w_gCn, w_par2V, w_par2, w_set, w_body, w_endD, w_endN, w_for, w_forN, w_loopN, w_loopR, w_forC, o_add, o_addB, o_sub, o_ord, o_lt, o_le, o_gt, o_ge, o_eqI, o_neI, o_eqB, o_not, o_neg, o_len_t, o_len_l, o_len_f, datL_nil, datL_cons, startR, List.map_cons, List.map_nil, List.length_cons, List.length_nil, List.replicate_succ, List.replicate_zero, List.cons_append, List.nil_append, List.getElem?_cons_zero, List.getElem?_cons_succ, List.set_cons_zero, List.set_cons_succ, List.take_length, Option.map_some, Option.map_none, List.append_nil, Nat.sub_self, w_idxV, w_idx_t, w_idx_l, w_idx_f, at0, at1, at2, cut1, w_call, w_tup, w_lst, Nat.reduceSub, Nat.reduceAdd, Nat.reduceLeDiff, if_true, reduceIte, Bool.not_true, Bool.not_false, Bool.false_eq_true, reduceCtorEq, w_isT, w_comp, w_datV, w_compN, w_rhoV, w_compC, w_okT, w_any, w_any_t, w_any_l, w_any_f, w_enum, w_enum_t, w_enum_l, w_zip, w_zip_t, w_zip_l, zip_nil, zip_nil2, zip_cons, w_range, tg_nm, tg_tp2, wipe_nil, wipe_cons, Nat.reduceLT, take_len n3]
      refine k _ μ2 ?_ s2 n3
      simp [wf]
    · simp only [q, decide_false, wp_ok, wp_okD, wp_bind, w_var, w_varV, w_c, w_bin, w_un, w_nil, w_cons, w_args, w_boolV, w_tOf, w_fAnd, w_fOr, w_fNot, w_eAnd, w_eOr, w_eIf, w_chain, w_optV, w_oNone, w_oSome, w_cut, o_cutT, o_cutL, w_pass, w_ret, w_if, w_seqV, w_seqR, w_seq, w_asgV, w_asg, w_gNm, w_gTp, w_gNl, w_gCn, w_par2V, w_par2, w_set, w_body, w_endD, w_endN, w_for, w_forN, w_loopN, w_loopR, w_forC, o_add, o_addB, o_sub, o_ord, o_lt, o_le, o_gt, o_ge, o_eqI, o_neI, o_eqB, o_not, o_neg, o_len_t, o_len_l, o_len_f, datL_nil, datL_cons, startR, List.map_cons, List.map_nil, List.length_cons, List.length_nil, List.replicate_succ, List.replicate_zero, List.cons_append, List.nil_append, List.getElem?_cons_zero, List.getElem?_cons_succ, List.set_cons_zero, List.set_cons_succ, List.take_length, Option.map_some, Option.map_none, List.append_nil, Nat.sub_self, w_idxV, w_idx_t, w_idx_l, w_idx_f, at0, at1, at2, cut1, w_call, w_tup, w_lst, Nat.reduceSub, Nat.reduceAdd, Nat.reduceLeDiff, if_true, reduceIte, Bool.not_true, Bool.not_false, Bool.false_eq_true, reduceCtorEq, w_isT, w_comp, w_datV, w_compN, w_rhoV, w_compC, w_okT, w_any, w_any_t, w_any_l, w_any_f, w_enum, w_enum_t, w_enum_l, w_zip, w_zip_t, w_zip_l, zip_nil, zip_nil2, zip_cons, w_range, tg_nm, tg_tp2, wipe_nil, wipe_cons, Nat.reduceLT, take_len n3]
      refine k _ μ2 (trips_wf ht ?_) s2 n3
      simp only [List.length_cons, List.length_nil] at hl ⊢
      omega
theorem strs_ok : ∀ s ∈ (["write", "write", "add", "add", "apart", "apart", "times", "back", "drop", "join", ""] : List Str), PySem.PyData.strOk s = true := by decide +kernel
theorem odd_w {c : Nat} {μ : Mem} {Q : Val → Mem → Prop} (hs : Src c μ) (k : ∀ (v : PyData) (μ' : Mem), wf 6 1 v → Src c μ' → μ'.length = μ.length → Q (.dat v) μ') : wp (F_l_odd [.cel c] μ) Q := by
  unfold F_l_odd b_l_odd
  have o1 : ∀ μ : Mem, gPow (.dat (.int 10)) (.dat (.int 30)) μ = okD (.int 1000000000000000000000000000000) μ := fun μ => rfl
  simp only [wp_ok, wp_okD, wp_bind, w_var, w_varV, w_c, w_bin, w_un, w_nil, w_cons, w_args, w_boolV, w_tOf, w_fAnd, w_fOr, w_fNot, w_eAnd, w_eOr, w_eIf, w_chain, w_optV, w_oNone, w_oSome, w_cut, o_cutT, o_cutL, w_pass, w_ret, w_if, w_seqV, w_seqR, w_seq, w_asgV, w_asg, w_gNm, w_gTp, w_gNl, w_gCn, w_par2V, w_par2, w_set, w_body, w_endD, w_endN, w_for, w_forN, w_loopN, w_loopR, w_forC, o_add, o_addB, o_sub, o_ord, o_lt, o_le, o_gt, o_ge, o_eqI, o_neI, o_eqB, o_not, o_neg, o_len_t, o_len_l, o_len_f, datL_nil, datL_cons, startR, List.map_cons, List.map_nil, List.length_cons, List.length_nil, List.replicate_succ, List.replicate_zero, List.cons_append, List.nil_append, List.getElem?_cons_zero, List.getElem?_cons_succ, List.set_cons_zero, List.set_cons_succ, List.take_length, Option.map_some, Option.map_none, List.append_nil, Nat.sub_self, w_idxV, w_idx_t, w_idx_l, w_idx_f, at0, at1, at2, cut1, w_call, w_tup, w_lst, Nat.reduceSub, Nat.reduceAdd, Nat.reduceLeDiff, if_true, reduceIte, Bool.not_true, Bool.not_false, Bool.false_eq_true, reduceCtorEq, w_isT, w_comp, w_datV, w_compN, w_rhoV, w_compC, w_okT, w_any, w_any_t, w_any_l, w_any_f, w_enum, w_enum_t, w_enum_l, w_zip, w_zip_t, w_zip_l, zip_nil, zip_nil2, zip_cons, w_range, tg_nm, tg_tp2, wipe_nil, wipe_cons, Nat.reduceLT, o1]
  rw [o_addL (by simp)]
  simp only [wp_ok, wp_okD, wp_bind, w_var, w_varV, w_c, w_bin, w_un, w_nil, w_cons, w_args, w_boolV, w_tOf, w_fAnd, w_fOr, w_fNot, w_eAnd, w_eOr, w_eIf, w_chain, w_optV, w_oNone, w_oSome, w_cut, o_cutT, o_cutL, w_pass, w_ret, w_if, w_seqV, w_seqR, w_seq, w_asgV, w_asg, w_gNm, w_gTp, w_gNl, w_gCn, w_par2V, w_par2, w_set, w_body, w_endD, w_endN, w_for, w_forN, w_loopN, w_loopR, w_forC, o_add, o_addB, o_sub, o_ord, o_lt, o_le, o_gt, o_ge, o_eqI, o_neI, o_eqB, o_not, o_neg, o_len_t, o_len_l, o_len_f, datL_nil, datL_cons, startR, List.map_cons, List.map_nil, List.length_cons, List.length_nil, List.replicate_succ, List.replicate_zero, List.cons_append, List.nil_append, List.getElem?_cons_zero, List.getElem?_cons_succ, List.set_cons_zero, List.set_cons_succ, List.take_length, Option.map_some, Option.map_none, List.append_nil, Nat.sub_self, w_idxV, w_idx_t, w_idx_l, w_idx_f, at0, at1, at2, cut1, w_call, w_tup, w_lst, Nat.reduceSub, Nat.reduceAdd, Nat.reduceLeDiff, if_true, reduceIte, Bool.not_true, Bool.not_false, Bool.false_eq_true, reduceCtorEq, w_isT, w_comp, w_datV, w_compN, w_rhoV, w_compC, w_okT, w_any, w_any_t, w_any_l, w_any_f, w_enum, w_enum_t, w_enum_l, w_zip, w_zip_t, w_zip_l, zip_nil, zip_nil2, zip_cons, w_range, tg_nm, tg_tp2, wipe_nil, wipe_cons, Nat.reduceLT]
  rw [o_addL (by simp)]
  simp only [wp_ok, wp_okD, wp_bind, w_var, w_varV, w_c, w_bin, w_un, w_nil, w_cons, w_args, w_boolV, w_tOf, w_fAnd, w_fOr, w_fNot, w_eAnd, w_eOr, w_eIf, w_chain, w_optV, w_oNone, w_oSome, w_cut, o_cutT, o_cutL, w_pass, w_ret, w_if, w_seqV, w_seqR, w_seq, w_asgV, w_asg, w_gNm, w_gTp, w_gNl, w_gCn, w_par2V, w_par2, w_set, w_body, w_endD, w_endN, w_for, w_forN, w_loopN, w_loopR, w_forC, o_add, o_addB, o_sub, o_ord, o_lt, o_le, o_gt, o_ge, o_eqI, o_neI, o_eqB, o_not, o_neg, o_len_t, o_len_l, o_len_f, datL_nil, datL_cons, startR, List.map_cons, List.map_nil, List.length_cons, List.length_nil, List.replicate_succ, List.replicate_zero, List.cons_append, List.nil_append, List.getElem?_cons_zero, List.getElem?_cons_succ, List.set_cons_zero, List.set_cons_succ, List.take_length, Option.map_some, Option.map_none, List.append_nil, Nat.sub_self, w_idxV, w_idx_t, w_idx_l, w_idx_f, at0, at1, at2, cut1, w_call, w_tup, w_lst, Nat.reduceSub, Nat.reduceAdd, Nat.reduceLeDiff, if_true, reduceIte, Bool.not_true, Bool.not_false, Bool.false_eq_true, reduceCtorEq, w_isT, w_comp, w_datV, w_compN, w_rhoV, w_compC, w_okT, w_any, w_any_t, w_any_l, w_any_f, w_enum, w_enum_t, w_enum_l, w_zip, w_zip_t, w_zip_l, zip_nil, zip_nil2, zip_cons, w_range, tg_nm, tg_tp2, wipe_nil, wipe_cons, Nat.reduceLT]
  refine of_w hs (by simp) (by simp) fun d μ1 hd s1 n1 => ?_
  try simp only [take_len n1]
  refine (?_ : _)
  show endV _ _ _ _ _
  rw [w_endD, take_len n1]
  refine k d μ1 ?_ s1 n1
  have t : ∀ s : Str, s ∈ (["write", "write", "add", "add", "apart", "apart", "times", "back", "drop", "join", ""] : List Str) → wf 6 0 (.str s) := fun s h => by
    simp only [wf]
    exact strs_ok s h
  have t1 : ∀ s : Str, s ∈ (["write", "write", "add", "add", "apart", "apart", "times", "back", "drop", "join", ""] : List Str) → wf 6 1 (.str s) := fun s h => by
    simp only [wf]
    exact strs_ok s h
  simp only [List.cons_append, List.nil_append, List.mem_cons, List.not_mem_nil, or_false] at hd
  rcases hd with rfl | rfl | rfl | rfl | rfl | rfl | rfl | rfl | rfl | rfl | rfl | rfl | rfl | rfl | rfl | rfl | rfl | rfl | rfl | rfl | rfl | rfl | rfl | rfl | rfl | rfl | rfl | rfl <;> first
    | exact t1 _ (by simp)
    | (simp only [wf]; done)
    | (simp only [wf]
       refine ⟨by simp, fun d hd => ?_⟩
       simp only [List.mem_cons, List.not_mem_nil, or_false] at hd
       first
         | done
         | exact hd.elim
         | (rcases hd with rfl | rfl
            · exact t _ (by simp)
            · simp only [wf])
         | (rcases hd with rfl | rfl | rfl
            · first | exact t _ (by simp) | simp only [wf]
            · simp only [wf]
            · simp only [wf]))
end K01
set_option Elab.async false
set_option linter.all false
set_option maxRecDepth 100000
set_option maxHeartbeats 4000000
namespace K01
open PySem PySem.Spec PyProof.Rows L2 DN
theorem cutW {a b c d e f g h i j : PyData} : cutL [a, b, c, d, e, f, g, h, i, j] none (some (-1)) = [a, b, c, d, e, f, g, h, i] := rfl
theorem wf_str {m n k : Nat} {s : Str} (h : wf m n (.str s)) : wf 6 k (.str s) := by
  simp only [wf] at h ⊢
  exact h
theorem wf_int {m n : Nat} {i : Int} : wf m n (.int i) := by simp only [wf]
theorem script_body {c : Nat} {most j : Int} {ds : List PyData} {o4 o5 o6 o7 o8 o9 : Option Val} {μ : Mem} {QS : Flo × Rho → Mem → Prop} (hs : Src c μ) (h1 : 1 ≤ ds.length) (h2 : ds.length ≤ 100)
    (k : ∀ (d : PyData) (j : Int) (o4 o5 o6 o7 o8 o9 : Option Val) (μ' : Mem), wf 6 3 d → Src c μ' → μ'.length = μ.length → QS (.nx, [some (.cel c), some (.dat (.int most)), some (.dat (.tuple (ds ++ [d]))), some (.dat (.int j)), o4, o5, o6, o7, o8, o9]) μ') :
    wp (lb_l_script_0 [some (.cel c), some (.dat (.int most)), some (.dat (.tuple ds)), some (.dat (.int j)), o4, o5, o6, o7, o8, o9] μ) QS := by
  unfold lb_l_script_0
  refine w_seqI (fun ρ1 μ1 => ∃ a b : Int, ρ1 = [some (.cel c), some (.dat (.int most)), some (.dat (.tuple ds)), some (.dat (.int j)), some (.dat (.int a)), some (.dat (.int b)), o6, o7, o8, o9] ∧ Src c μ1 ∧ μ1.length = μ.length) ?_ ?_
  · try simp only [wp_ok, wp_okD, wp_bind, w_var, w_varV, w_c, w_bin, w_un, w_nil, w_cons, w_args, w_boolV, w_tOf, w_fAnd, w_fOr, w_fNot, w_eAnd, w_eOr, w_eIf, w_chain, w_optV, w_oNone, w_oSome, w_cut, o_cutT, o_cutL, w_pass, w_ret, w_if, w_seqV, w_seqR, w_seq, w_asgV, w_asg, w_gNm, w_gTp, w_gNl, w_gCn, w_par2V, w_par2, w_set, w_body, w_endD, w_endN, w_for, w_forN, w_loopN, w_loopR, w_forC, o_add, o_addB, o_sub, o_ord, o_lt, o_le, o_gt, o_ge, o_eqI, o_neI, o_eqB, o_not, o_neg, o_len_t, o_len_l, o_len_f, datL_nil, datL_cons, startR, List.map_cons, List.map_nil, List.length_cons, List.length_nil, List.replicate_succ, List.replicate_zero, List.cons_append, List.nil_append, List.getElem?_cons_zero, List.getElem?_cons_succ, List.set_cons_zero, List.set_cons_succ, List.take_length, Option.map_some, Option.map_none, List.append_nil, Nat.sub_self, w_idxV, w_idx_t, w_idx_l, w_idx_f, at0, at1, at2, cut1, w_call, w_tup, w_lst, Nat.reduceSub, Nat.reduceAdd, Nat.reduceLeDiff, if_true, reduceIte, Bool.not_true, Bool.not_false, Bool.false_eq_true, reduceCtorEq, w_isT, w_comp, w_datV, w_compN, w_rhoV, w_compC, w_okT, w_any, w_any_t, w_any_l, w_any_f, w_enum, w_enum_t, w_enum_l, w_zip, w_zip_t, w_zip_l, zip_nil, zip_nil2, zip_cons, w_range, tg_nm, tg_tp2, wipe_nil, wipe_cons, Nat.reduceLT]
    refine draw_w hs (by omega) (by omega) fun r1 μ1 _ _ s1 n1 => ?_
    try simp only [wp_ok, wp_okD, wp_bind, w_var, w_varV, w_c, w_bin, w_un, w_nil, w_cons, w_args, w_boolV, w_tOf, w_fAnd, w_fOr, w_fNot, w_eAnd, w_eOr, w_eIf, w_chain, w_optV, w_oNone, w_oSome, w_cut, o_cutT, o_cutL, w_pass, w_ret, w_if, w_seqV, w_seqR, w_seq, w_asgV, w_asg, w_gNm, w_gTp, w_gNl, w_gCn, w_par2V, w_par2, w_set, w_body, w_endD, w_endN, w_for, w_forN, w_loopN, w_loopR, w_forC, o_add, o_addB, o_sub, o_ord, o_lt, o_le, o_gt, o_ge, o_eqI, o_neI, o_eqB, o_not, o_neg, o_len_t, o_len_l, o_len_f, datL_nil, datL_cons, startR, List.map_cons, List.map_nil, List.length_cons, List.length_nil, List.replicate_succ, List.replicate_zero, List.cons_append, List.nil_append, List.getElem?_cons_zero, List.getElem?_cons_succ, List.set_cons_zero, List.set_cons_succ, List.take_length, Option.map_some, Option.map_none, List.append_nil, Nat.sub_self, w_idxV, w_idx_t, w_idx_l, w_idx_f, at0, at1, at2, cut1, w_call, w_tup, w_lst, Nat.reduceSub, Nat.reduceAdd, Nat.reduceLeDiff, if_true, reduceIte, Bool.not_true, Bool.not_false, Bool.false_eq_true, reduceCtorEq, w_isT, w_comp, w_datV, w_compN, w_rhoV, w_compC, w_okT, w_any, w_any_t, w_any_l, w_any_f, w_enum, w_enum_t, w_enum_l, w_zip, w_zip_t, w_zip_l, zip_nil, zip_nil2, zip_cons, w_range, tg_nm, tg_tp2, wipe_nil, wipe_cons, Nat.reduceLT]
    refine draw_w s1 (by omega) (by omega) fun r2 μ2 _ _ s2 n2 => ?_
    try simp only [wp_ok, wp_okD, wp_bind, w_var, w_varV, w_c, w_bin, w_un, w_nil, w_cons, w_args, w_boolV, w_tOf, w_fAnd, w_fOr, w_fNot, w_eAnd, w_eOr, w_eIf, w_chain, w_optV, w_oNone, w_oSome, w_cut, o_cutT, o_cutL, w_pass, w_ret, w_if, w_seqV, w_seqR, w_seq, w_asgV, w_asg, w_gNm, w_gTp, w_gNl, w_gCn, w_par2V, w_par2, w_set, w_body, w_endD, w_endN, w_for, w_forN, w_loopN, w_loopR, w_forC, o_add, o_addB, o_sub, o_ord, o_lt, o_le, o_gt, o_ge, o_eqI, o_neI, o_eqB, o_not, o_neg, o_len_t, o_len_l, o_len_f, datL_nil, datL_cons, startR, List.map_cons, List.map_nil, List.length_cons, List.length_nil, List.replicate_succ, List.replicate_zero, List.cons_append, List.nil_append, List.getElem?_cons_zero, List.getElem?_cons_succ, List.set_cons_zero, List.set_cons_succ, List.take_length, Option.map_some, Option.map_none, List.append_nil, Nat.sub_self, w_idxV, w_idx_t, w_idx_l, w_idx_f, at0, at1, at2, cut1, w_call, w_tup, w_lst, Nat.reduceSub, Nat.reduceAdd, Nat.reduceLeDiff, if_true, reduceIte, Bool.not_true, Bool.not_false, Bool.false_eq_true, reduceCtorEq, w_isT, w_comp, w_datV, w_compN, w_rhoV, w_compC, w_okT, w_any, w_any_t, w_any_l, w_any_f, w_enum, w_enum_t, w_enum_l, w_zip, w_zip_t, w_zip_l, zip_nil, zip_nil2, zip_cons, w_range, tg_nm, tg_tp2, wipe_nil, wipe_cons, Nat.reduceLT]
    exact ⟨r1, r2, rfl, s2, by omega⟩
  rintro ρ1 μ1 ⟨a, b, rfl, s1, n1⟩
  refine w_seqI (fun ρ1 μ2 => μ2 = μ1 ∧ ρ1 = [some (.cel c), some (.dat (.int most)), some (.dat (.tuple ds)), some (.dat (.int j)), some (.dat (.int a)), some (.dat (.int b)), some (.dat (.list [.str "write", .str "write", .str "add", .str "add", .str "apart", .str "apart", .str "times", .str "back", .str "drop", .str "join"])), o7, o8, o9]) ?_ ?_
  · try simp only [wp_ok, wp_okD, wp_bind, w_var, w_varV, w_c, w_bin, w_un, w_nil, w_cons, w_args, w_boolV, w_tOf, w_fAnd, w_fOr, w_fNot, w_eAnd, w_eOr, w_eIf, w_chain, w_optV, w_oNone, w_oSome, w_cut, o_cutT, o_cutL, w_pass, w_ret, w_if, w_seqV, w_seqR, w_seq, w_asgV, w_asg, w_gNm, w_gTp, w_gNl, w_gCn, w_par2V, w_par2, w_set, w_body, w_endD, w_endN, w_for, w_forN, w_loopN, w_loopR, w_forC, o_add, o_addB, o_sub, o_ord, o_lt, o_le, o_gt, o_ge, o_eqI, o_neI, o_eqB, o_not, o_neg, o_len_t, o_len_l, o_len_f, datL_nil, datL_cons, startR, List.map_cons, List.map_nil, List.length_cons, List.length_nil, List.replicate_succ, List.replicate_zero, List.cons_append, List.nil_append, List.getElem?_cons_zero, List.getElem?_cons_succ, List.set_cons_zero, List.set_cons_succ, List.take_length, Option.map_some, Option.map_none, List.append_nil, Nat.sub_self, w_idxV, w_idx_t, w_idx_l, w_idx_f, at0, at1, at2, cut1, w_call, w_tup, w_lst, Nat.reduceSub, Nat.reduceAdd, Nat.reduceLeDiff, if_true, reduceIte, Bool.not_true, Bool.not_false, Bool.false_eq_true, reduceCtorEq, w_isT, w_comp, w_datV, w_compN, w_rhoV, w_compC, w_okT, w_any, w_any_t, w_any_l, w_any_f, w_enum, w_enum_t, w_enum_l, w_zip, w_zip_t, w_zip_l, zip_nil, zip_nil2, zip_cons, w_range, tg_nm, tg_tp2, wipe_nil, wipe_cons, Nat.reduceLT]
    exact ⟨by first | rfl | trivial, by first | rfl | trivial⟩
  rintro ρ1 μ2 ⟨rfl, rfl⟩
  refine w_seqI (fun ρ1 μ1 => ∃ w : Str, wf 6 0 (.str w) ∧ ρ1 = [some (.cel c), some (.dat (.int most)), some (.dat (.tuple ds)), some (.dat (.int j)), some (.dat (.int a)), some (.dat (.int b)), some (.dat (.list [.str "write", .str "write", .str "add", .str "add", .str "apart", .str "apart", .str "times", .str "back", .str "drop", .str "join"])), some (.dat (.str w)), o8, o9] ∧ Src c μ1 ∧ μ1.length = μ.length) ?_ ?_
  · have fin : ∀ (l : List PyData), (∀ d ∈ l, ∃ w, d = .str w ∧ wf 6 0 (.str w)) → 0 < l.length → l.length < 1000 → ∀ QQ : Val → Mem → Prop, (∀ (w : Str) (μ' : Mem), wf 6 0 (.str w) → Src c μ' → μ'.length = μ.length → QQ (.dat (.str w)) μ') → wp (F_l_of [.cel c, .dat (.list l)] μ2) QQ := by
      intro l hl h0 h1 QQ kk
      refine of_w s1 h0 h1 fun d μ3 hd s3 n3 => ?_
      obtain ⟨w, rfl, hw⟩ := hl d hd
      exact kk w μ3 hw s3 (by omega)
    have t : ∀ s : Str, s ∈ (["write", "write", "add", "add", "apart", "apart", "times", "back", "drop", "join", ""] : List Str) → wf 6 0 (.str s) := fun s h => by
      simp only [wf]
      exact strs_ok s h
    try simp only [wp_ok, wp_okD, wp_bind, w_var, w_varV, w_c, w_bin, w_un, w_nil, w_cons, w_args, w_boolV, w_tOf, w_fAnd, w_fOr, w_fNot, w_eAnd, w_eOr, w_eIf, w_chain, w_optV, w_oNone, w_oSome, w_cut, o_cutT, o_cutL, w_pass, w_ret, w_if, w_seqV, w_seqR, w_seq, w_asgV, w_asg, w_gNm, w_gTp, w_gNl, w_gCn, w_par2V, w_par2, w_set, w_body, w_endD, w_endN, w_for, w_forN, w_loopN, w_loopR, w_forC, o_add, o_addB, o_sub, o_ord, o_lt, o_le, o_gt, o_ge, o_eqI, o_neI, o_eqB, o_not, o_neg, o_len_t, o_len_l, o_len_f, datL_nil, datL_cons, startR, List.map_cons, List.map_nil, List.length_cons, List.length_nil, List.replicate_succ, List.replicate_zero, List.cons_append, List.nil_append, List.getElem?_cons_zero, List.getElem?_cons_succ, List.set_cons_zero, List.set_cons_succ, List.take_length, Option.map_some, Option.map_none, List.append_nil, Nat.sub_self, w_idxV, w_idx_t, w_idx_l, w_idx_f, at0, at1, at2, cut1, w_call, w_tup, w_lst, Nat.reduceSub, Nat.reduceAdd, Nat.reduceLeDiff, if_true, reduceIte, Bool.not_true, Bool.not_false, Bool.false_eq_true, reduceCtorEq, w_isT, w_comp, w_datV, w_compN, w_rhoV, w_compC, w_okT, w_any, w_any_t, w_any_l, w_any_f, w_enum, w_enum_t, w_enum_l, w_zip, w_zip_t, w_zip_l, zip_nil, zip_nil2, zip_cons, w_range, tg_nm, tg_tp2, wipe_nil, wipe_cons, Nat.reduceLT]
    by_cases q : 1 < j
    · simp only [q, decide_true, wp_ok, wp_okD, wp_bind, w_var, w_varV, w_c, w_bin, w_un, w_nil, w_cons, w_args, w_boolV, w_tOf, w_fAnd, w_fOr, w_fNot, w_eAnd, w_eOr, w_eIf, w_chain, w_optV, w_oNone, w_oSome, w_cut, o_cutT, o_cutL, w_pass, w_ret, w_if, w_seqV, w_seqR, w_seq, w_asgV, w_asg, w_gNm, w_gTp, w_gNl, w_gCn, w_par2V, w_par2, w_set, w_body, w_endD, w_endN, w_for, w_forN, w_loopN, w_loopR, w_forC, o_add, o_addB, o_sub, o_ord, o_lt, o_le, o_gt, o_ge, o_eqI, o_neI, o_eqB, o_not, o_neg, o_len_t, o_len_l, o_len_f, datL_nil, datL_cons, startR, List.map_cons, List.map_nil, List.length_cons, List.length_nil, List.replicate_succ, List.replicate_zero, List.cons_append, List.nil_append, List.getElem?_cons_zero, List.getElem?_cons_succ, List.set_cons_zero, List.set_cons_succ, List.take_length, Option.map_some, Option.map_none, List.append_nil, Nat.sub_self, w_idxV, w_idx_t, w_idx_l, w_idx_f, at0, at1, at2, cut1, w_call, w_tup, w_lst, Nat.reduceSub, Nat.reduceAdd, Nat.reduceLeDiff, if_true, reduceIte, Bool.not_true, Bool.not_false, Bool.false_eq_true, reduceCtorEq, w_isT, w_comp, w_datV, w_compN, w_rhoV, w_compC, w_okT, w_any, w_any_t, w_any_l, w_any_f, w_enum, w_enum_t, w_enum_l, w_zip, w_zip_t, w_zip_l, zip_nil, zip_nil2, zip_cons, w_range, tg_nm, tg_tp2, wipe_nil, wipe_cons, Nat.reduceLT, cutW]
      refine fin _ (fun d hd => ?_) (by simp) (by simp) _ fun w μ' hw s3 n3 => ⟨w, hw, rfl, s3, n3⟩
      simp only [List.mem_cons, List.not_mem_nil, or_false] at hd
      rcases hd with rfl | rfl | rfl | rfl | rfl | rfl | rfl | rfl | rfl <;> exact ⟨_, rfl, t _ (by simp)⟩
    · simp only [q, decide_false, wp_ok, wp_okD, wp_bind, w_var, w_varV, w_c, w_bin, w_un, w_nil, w_cons, w_args, w_boolV, w_tOf, w_fAnd, w_fOr, w_fNot, w_eAnd, w_eOr, w_eIf, w_chain, w_optV, w_oNone, w_oSome, w_cut, o_cutT, o_cutL, w_pass, w_ret, w_if, w_seqV, w_seqR, w_seq, w_asgV, w_asg, w_gNm, w_gTp, w_gNl, w_gCn, w_par2V, w_par2, w_set, w_body, w_endD, w_endN, w_for, w_forN, w_loopN, w_loopR, w_forC, o_add, o_addB, o_sub, o_ord, o_lt, o_le, o_gt, o_ge, o_eqI, o_neI, o_eqB, o_not, o_neg, o_len_t, o_len_l, o_len_f, datL_nil, datL_cons, startR, List.map_cons, List.map_nil, List.length_cons, List.length_nil, List.replicate_succ, List.replicate_zero, List.cons_append, List.nil_append, List.getElem?_cons_zero, List.getElem?_cons_succ, List.set_cons_zero, List.set_cons_succ, List.take_length, Option.map_some, Option.map_none, List.append_nil, Nat.sub_self, w_idxV, w_idx_t, w_idx_l, w_idx_f, at0, at1, at2, cut1, w_call, w_tup, w_lst, Nat.reduceSub, Nat.reduceAdd, Nat.reduceLeDiff, if_true, reduceIte, Bool.not_true, Bool.not_false, Bool.false_eq_true, reduceCtorEq, w_isT, w_comp, w_datV, w_compN, w_rhoV, w_compC, w_okT, w_any, w_any_t, w_any_l, w_any_f, w_enum, w_enum_t, w_enum_l, w_zip, w_zip_t, w_zip_l, zip_nil, zip_nil2, zip_cons, w_range, tg_nm, tg_tp2, wipe_nil, wipe_cons, Nat.reduceLT]
      refine fin _ (fun d hd => ?_) (by simp) (by simp) _ fun w μ' hw s3 n3 => ⟨w, hw, rfl, s3, n3⟩
      simp only [List.mem_cons, List.not_mem_nil, or_false] at hd
      rcases hd with rfl | rfl | rfl | rfl | rfl | rfl | rfl | rfl | rfl | rfl <;> exact ⟨_, rfl, t _ (by simp)⟩
  rintro ρ1 μ3 ⟨w, hw, rfl, s3, n3⟩
  generalize (some (Val.dat (.list [.str "write", .str "write", .str "add", .str "add", .str "apart", .str "apart", .str "times", .str "back", .str "drop", .str "join"]))) = o6
  refine w_seqI (fun ρ1 μ1 => ∃ j : Int, ρ1 = [some (.cel c), some (.dat (.int most)), some (.dat (.tuple ds)), some (.dat (.int j)), some (.dat (.int a)), some (.dat (.int b)), o6, some (.dat (.str w)), o8, o9] ∧ μ1 = μ3) ?_ ?_
  · try simp only [wp_ok, wp_okD, wp_bind, w_var, w_varV, w_c, w_bin, w_un, w_nil, w_cons, w_args, w_boolV, w_tOf, w_fAnd, w_fOr, w_fNot, w_eAnd, w_eOr, w_eIf, w_chain, w_optV, w_oNone, w_oSome, w_cut, o_cutT, o_cutL, w_pass, w_ret, w_if, w_seqV, w_seqR, w_seq, w_asgV, w_asg, w_gNm, w_gTp, w_gNl, w_gCn, w_par2V, w_par2, w_set, w_body, w_endD, w_endN, w_for, w_forN, w_loopN, w_loopR, w_forC, o_add, o_addB, o_sub, o_ord, o_lt, o_le, o_gt, o_ge, o_eqI, o_neI, o_eqB, o_not, o_neg, o_len_t, o_len_l, o_len_f, datL_nil, datL_cons, startR, List.map_cons, List.map_nil, List.length_cons, List.length_nil, List.replicate_succ, List.replicate_zero, List.cons_append, List.nil_append, List.getElem?_cons_zero, List.getElem?_cons_succ, List.set_cons_zero, List.set_cons_succ, List.take_length, Option.map_some, Option.map_none, List.append_nil, Nat.sub_self, w_idxV, w_idx_t, w_idx_l, w_idx_f, at0, at1, at2, cut1, w_call, w_tup, w_lst, Nat.reduceSub, Nat.reduceAdd, Nat.reduceLeDiff, if_true, reduceIte, Bool.not_true, Bool.not_false, Bool.false_eq_true, reduceCtorEq, w_isT, w_comp, w_datV, w_compN, w_rhoV, w_compC, w_okT, w_any, w_any_t, w_any_l, w_any_f, w_enum, w_enum_t, w_enum_l, w_zip, w_zip_t, w_zip_l, zip_nil, zip_nil2, zip_cons, w_range, tg_nm, tg_tp2, wipe_nil, wipe_cons, Nat.reduceLT, w_eqS hw K01.s5, o_intB]
    exact ⟨_, by first | rfl | trivial, by first | rfl | trivial⟩
  rintro ρ1 μ1 ⟨j, rfl, rfl⟩
  refine w_seqI (fun ρ1 μ2 => ρ1 = [some (.cel c), some (.dat (.int most)), some (.dat (.tuple ds)), some (.dat (.int j)), some (.dat (.int a)), some (.dat (.int b)), o6, some (.dat (.str w)), some (.dat (.tuple [.str w, .int a, .int b])), o9] ∧ μ2 = μ1) ?_ ?_
  · try simp only [wp_ok, wp_okD, wp_bind, w_var, w_varV, w_c, w_bin, w_un, w_nil, w_cons, w_args, w_boolV, w_tOf, w_fAnd, w_fOr, w_fNot, w_eAnd, w_eOr, w_eIf, w_chain, w_optV, w_oNone, w_oSome, w_cut, o_cutT, o_cutL, w_pass, w_ret, w_if, w_seqV, w_seqR, w_seq, w_asgV, w_asg, w_gNm, w_gTp, w_gNl, w_gCn, w_par2V, w_par2, w_set, w_body, w_endD, w_endN, w_for, w_forN, w_loopN, w_loopR, w_forC, o_add, o_addB, o_sub, o_ord, o_lt, o_le, o_gt, o_ge, o_eqI, o_neI, o_eqB, o_not, o_neg, o_len_t, o_len_l, o_len_f, datL_nil, datL_cons, startR, List.map_cons, List.map_nil, List.length_cons, List.length_nil, List.replicate_succ, List.replicate_zero, List.cons_append, List.nil_append, List.getElem?_cons_zero, List.getElem?_cons_succ, List.set_cons_zero, List.set_cons_succ, List.take_length, Option.map_some, Option.map_none, List.append_nil, Nat.sub_self, w_idxV, w_idx_t, w_idx_l, w_idx_f, at0, at1, at2, cut1, w_call, w_tup, w_lst, Nat.reduceSub, Nat.reduceAdd, Nat.reduceLeDiff, if_true, reduceIte, Bool.not_true, Bool.not_false, Bool.false_eq_true, reduceCtorEq, w_isT, w_comp, w_datV, w_compN, w_rhoV, w_compC, w_okT, w_any, w_any_t, w_any_l, w_any_f, w_enum, w_enum_t, w_enum_l, w_zip, w_zip_t, w_zip_l, zip_nil, zip_nil2, zip_cons, w_range, tg_nm, tg_tp2, wipe_nil, wipe_cons, Nat.reduceLT]
    exact ⟨by first | rfl | trivial, by first | rfl | trivial⟩
  rintro ρ1 μ2 ⟨rfl, rfl⟩
  refine w_seqI (fun ρ1 μ1 => ∃ (es : List PyData) (o9 : Option Val), es.length ≤ 3 ∧ (∀ d ∈ es, wf 6 2 d) ∧ ρ1 = [some (.cel c), some (.dat (.int most)), some (.dat (.tuple ds)), some (.dat (.int j)), some (.dat (.int a)), some (.dat (.int b)), o6, some (.dat (.str w)), some (.dat (.tuple es)), o9] ∧ Src c μ1 ∧ μ1.length = μ.length) ?_ ?_
  · have w3 : ∀ i j : Int, ∀ d ∈ [PyData.str w, .int i, .int j], wf 6 2 d := fun i j d hd => by
      simp only [List.mem_cons, List.not_mem_nil, or_false] at hd
      rcases hd with rfl | rfl | rfl
      · exact wf_str hw
      · exact wf_int
      · exact wf_int
    try simp only [wp_ok, wp_okD, wp_bind, w_var, w_varV, w_c, w_bin, w_un, w_nil, w_cons, w_args, w_boolV, w_tOf, w_fAnd, w_fOr, w_fNot, w_eAnd, w_eOr, w_eIf, w_chain, w_optV, w_oNone, w_oSome, w_cut, o_cutT, o_cutL, w_pass, w_ret, w_if, w_seqV, w_seqR, w_seq, w_asgV, w_asg, w_gNm, w_gTp, w_gNl, w_gCn, w_par2V, w_par2, w_set, w_body, w_endD, w_endN, w_for, w_forN, w_loopN, w_loopR, w_forC, o_add, o_addB, o_sub, o_ord, o_lt, o_le, o_gt, o_ge, o_eqI, o_neI, o_eqB, o_not, o_neg, o_len_t, o_len_l, o_len_f, datL_nil, datL_cons, startR, List.map_cons, List.map_nil, List.length_cons, List.length_nil, List.replicate_succ, List.replicate_zero, List.cons_append, List.nil_append, List.getElem?_cons_zero, List.getElem?_cons_succ, List.set_cons_zero, List.set_cons_succ, List.take_length, Option.map_some, Option.map_none, List.append_nil, Nat.sub_self, w_idxV, w_idx_t, w_idx_l, w_idx_f, at0, at1, at2, cut1, w_call, w_tup, w_lst, Nat.reduceSub, Nat.reduceAdd, Nat.reduceLeDiff, if_true, reduceIte, Bool.not_true, Bool.not_false, Bool.false_eq_true, reduceCtorEq, w_isT, w_comp, w_datV, w_compN, w_rhoV, w_compC, w_okT, w_any, w_any_t, w_any_l, w_any_f, w_enum, w_enum_t, w_enum_l, w_zip, w_zip_t, w_zip_l, zip_nil, zip_nil2, zip_cons, w_range, tg_nm, tg_tp2, wipe_nil, wipe_cons, Nat.reduceLT, w_eqS hw K01.s1]
    cases q1 : PyData.eqv (.str w) (.str "write") with
    | true =>
      try simp only [wp_ok, wp_okD, wp_bind, w_var, w_varV, w_c, w_bin, w_un, w_nil, w_cons, w_args, w_boolV, w_tOf, w_fAnd, w_fOr, w_fNot, w_eAnd, w_eOr, w_eIf, w_chain, w_optV, w_oNone, w_oSome, w_cut, o_cutT, o_cutL, w_pass, w_ret, w_if, w_seqV, w_seqR, w_seq, w_asgV, w_asg, w_gNm, w_gTp, w_gNl, w_gCn, w_par2V, w_par2, w_set, w_body, w_endD, w_endN, w_for, w_forN, w_loopN, w_loopR, w_forC, o_add, o_addB, o_sub, o_ord, o_lt, o_le, o_gt, o_ge, o_eqI, o_neI, o_eqB, o_not, o_neg, o_len_t, o_len_l, o_len_f, datL_nil, datL_cons, startR, List.map_cons, List.map_nil, List.length_cons, List.length_nil, List.replicate_succ, List.replicate_zero, List.cons_append, List.nil_append, List.getElem?_cons_zero, List.getElem?_cons_succ, List.set_cons_zero, List.set_cons_succ, List.take_length, Option.map_some, Option.map_none, List.append_nil, Nat.sub_self, w_idxV, w_idx_t, w_idx_l, w_idx_f, at0, at1, at2, cut1, w_call, w_tup, w_lst, Nat.reduceSub, Nat.reduceAdd, Nat.reduceLeDiff, if_true, reduceIte, Bool.not_true, Bool.not_false, Bool.false_eq_true, reduceCtorEq, w_isT, w_comp, w_datV, w_compN, w_rhoV, w_compC, w_okT, w_any, w_any_t, w_any_l, w_any_f, w_enum, w_enum_t, w_enum_l, w_zip, w_zip_t, w_zip_l, zip_nil, zip_nil2, zip_cons, w_range, tg_nm, tg_tp2, wipe_nil, wipe_cons, Nat.reduceLT]
      refine pattern_w s3 fun v μ4 hv s4 n4 => ?_
      try simp only [wp_ok, wp_okD, wp_bind, w_var, w_varV, w_c, w_bin, w_un, w_nil, w_cons, w_args, w_boolV, w_tOf, w_fAnd, w_fOr, w_fNot, w_eAnd, w_eOr, w_eIf, w_chain, w_optV, w_oNone, w_oSome, w_cut, o_cutT, o_cutL, w_pass, w_ret, w_if, w_seqV, w_seqR, w_seq, w_asgV, w_asg, w_gNm, w_gTp, w_gNl, w_gCn, w_par2V, w_par2, w_set, w_body, w_endD, w_endN, w_for, w_forN, w_loopN, w_loopR, w_forC, o_add, o_addB, o_sub, o_ord, o_lt, o_le, o_gt, o_ge, o_eqI, o_neI, o_eqB, o_not, o_neg, o_len_t, o_len_l, o_len_f, datL_nil, datL_cons, startR, List.map_cons, List.map_nil, List.length_cons, List.length_nil, List.replicate_succ, List.replicate_zero, List.cons_append, List.nil_append, List.getElem?_cons_zero, List.getElem?_cons_succ, List.set_cons_zero, List.set_cons_succ, List.take_length, Option.map_some, Option.map_none, List.append_nil, Nat.sub_self, w_idxV, w_idx_t, w_idx_l, w_idx_f, at0, at1, at2, cut1, w_call, w_tup, w_lst, Nat.reduceSub, Nat.reduceAdd, Nat.reduceLeDiff, if_true, reduceIte, Bool.not_true, Bool.not_false, Bool.false_eq_true, reduceCtorEq, w_isT, w_comp, w_datV, w_compN, w_rhoV, w_compC, w_okT, w_any, w_any_t, w_any_l, w_any_f, w_enum, w_enum_t, w_enum_l, w_zip, w_zip_t, w_zip_l, zip_nil, zip_nil2, zip_cons, w_range, tg_nm, tg_tp2, wipe_nil, wipe_cons, Nat.reduceLT]
      refine ⟨_, _, ?_, fun d hd => ?_, rfl, s4, by omega⟩
      · simp
      · simp only [List.mem_cons, List.not_mem_nil, or_false] at hd
        rcases hd with rfl | rfl
        · exact wf_str hw
        · exact hv
    | false =>
      try simp only [wp_ok, wp_okD, wp_bind, w_var, w_varV, w_c, w_bin, w_un, w_nil, w_cons, w_args, w_boolV, w_tOf, w_fAnd, w_fOr, w_fNot, w_eAnd, w_eOr, w_eIf, w_chain, w_optV, w_oNone, w_oSome, w_cut, o_cutT, o_cutL, w_pass, w_ret, w_if, w_seqV, w_seqR, w_seq, w_asgV, w_asg, w_gNm, w_gTp, w_gNl, w_gCn, w_par2V, w_par2, w_set, w_body, w_endD, w_endN, w_for, w_forN, w_loopN, w_loopR, w_forC, o_add, o_addB, o_sub, o_ord, o_lt, o_le, o_gt, o_ge, o_eqI, o_neI, o_eqB, o_not, o_neg, o_len_t, o_len_l, o_len_f, datL_nil, datL_cons, startR, List.map_cons, List.map_nil, List.length_cons, List.length_nil, List.replicate_succ, List.replicate_zero, List.cons_append, List.nil_append, List.getElem?_cons_zero, List.getElem?_cons_succ, List.set_cons_zero, List.set_cons_succ, List.take_length, Option.map_some, Option.map_none, List.append_nil, Nat.sub_self, w_idxV, w_idx_t, w_idx_l, w_idx_f, at0, at1, at2, cut1, w_call, w_tup, w_lst, Nat.reduceSub, Nat.reduceAdd, Nat.reduceLeDiff, if_true, reduceIte, Bool.not_true, Bool.not_false, Bool.false_eq_true, reduceCtorEq, w_isT, w_comp, w_datV, w_compN, w_rhoV, w_compC, w_okT, w_any, w_any_t, w_any_l, w_any_f, w_enum, w_enum_t, w_enum_l, w_zip, w_zip_t, w_zip_l, zip_nil, zip_nil2, zip_cons, w_range, tg_nm, tg_tp2, wipe_nil, wipe_cons, Nat.reduceLT, w_eqS hw K01.s3]
      cases q2 : PyData.eqv (.str w) (.str "times") with
      | true =>
        try simp only [wp_ok, wp_okD, wp_bind, w_var, w_varV, w_c, w_bin, w_un, w_nil, w_cons, w_args, w_boolV, w_tOf, w_fAnd, w_fOr, w_fNot, w_eAnd, w_eOr, w_eIf, w_chain, w_optV, w_oNone, w_oSome, w_cut, o_cutT, o_cutL, w_pass, w_ret, w_if, w_seqV, w_seqR, w_seq, w_asgV, w_asg, w_gNm, w_gTp, w_gNl, w_gCn, w_par2V, w_par2, w_set, w_body, w_endD, w_endN, w_for, w_forN, w_loopN, w_loopR, w_forC, o_add, o_addB, o_sub, o_ord, o_lt, o_le, o_gt, o_ge, o_eqI, o_neI, o_eqB, o_not, o_neg, o_len_t, o_len_l, o_len_f, datL_nil, datL_cons, startR, List.map_cons, List.map_nil, List.length_cons, List.length_nil, List.replicate_succ, List.replicate_zero, List.cons_append, List.nil_append, List.getElem?_cons_zero, List.getElem?_cons_succ, List.set_cons_zero, List.set_cons_succ, List.take_length, Option.map_some, Option.map_none, List.append_nil, Nat.sub_self, w_idxV, w_idx_t, w_idx_l, w_idx_f, at0, at1, at2, cut1, w_call, w_tup, w_lst, Nat.reduceSub, Nat.reduceAdd, Nat.reduceLeDiff, if_true, reduceIte, Bool.not_true, Bool.not_false, Bool.false_eq_true, reduceCtorEq, w_isT, w_comp, w_datV, w_compN, w_rhoV, w_compC, w_okT, w_any, w_any_t, w_any_l, w_any_f, w_enum, w_enum_t, w_enum_l, w_zip, w_zip_t, w_zip_l, zip_nil, zip_nil2, zip_cons, w_range, tg_nm, tg_tp2, wipe_nil, wipe_cons, Nat.reduceLT]
        refine draw_w s3 (by omega) (by omega) fun r1 μ4 _ _ s4 n4 => ?_
        try simp only [wp_ok, wp_okD, wp_bind, w_var, w_varV, w_c, w_bin, w_un, w_nil, w_cons, w_args, w_boolV, w_tOf, w_fAnd, w_fOr, w_fNot, w_eAnd, w_eOr, w_eIf, w_chain, w_optV, w_oNone, w_oSome, w_cut, o_cutT, o_cutL, w_pass, w_ret, w_if, w_seqV, w_seqR, w_seq, w_asgV, w_asg, w_gNm, w_gTp, w_gNl, w_gCn, w_par2V, w_par2, w_set, w_body, w_endD, w_endN, w_for, w_forN, w_loopN, w_loopR, w_forC, o_add, o_addB, o_sub, o_ord, o_lt, o_le, o_gt, o_ge, o_eqI, o_neI, o_eqB, o_not, o_neg, o_len_t, o_len_l, o_len_f, datL_nil, datL_cons, startR, List.map_cons, List.map_nil, List.length_cons, List.length_nil, List.replicate_succ, List.replicate_zero, List.cons_append, List.nil_append, List.getElem?_cons_zero, List.getElem?_cons_succ, List.set_cons_zero, List.set_cons_succ, List.take_length, Option.map_some, Option.map_none, List.append_nil, Nat.sub_self, w_idxV, w_idx_t, w_idx_l, w_idx_f, at0, at1, at2, cut1, w_call, w_tup, w_lst, Nat.reduceSub, Nat.reduceAdd, Nat.reduceLeDiff, if_true, reduceIte, Bool.not_true, Bool.not_false, Bool.false_eq_true, reduceCtorEq, w_isT, w_comp, w_datV, w_compN, w_rhoV, w_compC, w_okT, w_any, w_any_t, w_any_l, w_any_f, w_enum, w_enum_t, w_enum_l, w_zip, w_zip_t, w_zip_l, zip_nil, zip_nil2, zip_cons, w_range, tg_nm, tg_tp2, wipe_nil, wipe_cons, Nat.reduceLT]
        refine of_w s4 (by simp) (by simp) fun d μ5 hd s5 n5 => ?_
        obtain ⟨d, rfl⟩ : ∃ i, d = .int i := by
          simp only [List.mem_cons, List.not_mem_nil, or_false] at hd
          rcases hd with rfl | rfl | rfl | rfl | rfl | rfl | rfl | rfl <;> exact ⟨_, rfl⟩
        try simp only [wp_ok, wp_okD, wp_bind, w_var, w_varV, w_c, w_bin, w_un, w_nil, w_cons, w_args, w_boolV, w_tOf, w_fAnd, w_fOr, w_fNot, w_eAnd, w_eOr, w_eIf, w_chain, w_optV, w_oNone, w_oSome, w_cut, o_cutT, o_cutL, w_pass, w_ret, w_if, w_seqV, w_seqR, w_seq, w_asgV, w_asg, w_gNm, w_gTp, w_gNl, w_gCn, w_par2V, w_par2, w_set, w_body, w_endD, w_endN, w_for, w_forN, w_loopN, w_loopR, w_forC, o_add, o_addB, o_sub, o_ord, o_lt, o_le, o_gt, o_ge, o_eqI, o_neI, o_eqB, o_not, o_neg, o_len_t, o_len_l, o_len_f, datL_nil, datL_cons, startR, List.map_cons, List.map_nil, List.length_cons, List.length_nil, List.replicate_succ, List.replicate_zero, List.cons_append, List.nil_append, List.getElem?_cons_zero, List.getElem?_cons_succ, List.set_cons_zero, List.set_cons_succ, List.take_length, Option.map_some, Option.map_none, List.append_nil, Nat.sub_self, w_idxV, w_idx_t, w_idx_l, w_idx_f, at0, at1, at2, cut1, w_call, w_tup, w_lst, Nat.reduceSub, Nat.reduceAdd, Nat.reduceLeDiff, if_true, reduceIte, Bool.not_true, Bool.not_false, Bool.false_eq_true, reduceCtorEq, w_isT, w_comp, w_datV, w_compN, w_rhoV, w_compC, w_okT, w_any, w_any_t, w_any_l, w_any_f, w_enum, w_enum_t, w_enum_l, w_zip, w_zip_t, w_zip_l, zip_nil, zip_nil2, zip_cons, w_range, tg_nm, tg_tp2, wipe_nil, wipe_cons, Nat.reduceLT]
        exact ⟨_, _, by simp, w3 a d, rfl, s5, by omega⟩
      | false =>
        try simp only [wp_ok, wp_okD, wp_bind, w_var, w_varV, w_c, w_bin, w_un, w_nil, w_cons, w_args, w_boolV, w_tOf, w_fAnd, w_fOr, w_fNot, w_eAnd, w_eOr, w_eIf, w_chain, w_optV, w_oNone, w_oSome, w_cut, o_cutT, o_cutL, w_pass, w_ret, w_if, w_seqV, w_seqR, w_seq, w_asgV, w_asg, w_gNm, w_gTp, w_gNl, w_gCn, w_par2V, w_par2, w_set, w_body, w_endD, w_endN, w_for, w_forN, w_loopN, w_loopR, w_forC, o_add, o_addB, o_sub, o_ord, o_lt, o_le, o_gt, o_ge, o_eqI, o_neI, o_eqB, o_not, o_neg, o_len_t, o_len_l, o_len_f, datL_nil, datL_cons, startR, List.map_cons, List.map_nil, List.length_cons, List.length_nil, List.replicate_succ, List.replicate_zero, List.cons_append, List.nil_append, List.getElem?_cons_zero, List.getElem?_cons_succ, List.set_cons_zero, List.set_cons_succ, List.take_length, Option.map_some, Option.map_none, List.append_nil, Nat.sub_self, w_idxV, w_idx_t, w_idx_l, w_idx_f, at0, at1, at2, cut1, w_call, w_tup, w_lst, Nat.reduceSub, Nat.reduceAdd, Nat.reduceLeDiff, if_true, reduceIte, Bool.not_true, Bool.not_false, Bool.false_eq_true, reduceCtorEq, w_isT, w_comp, w_datV, w_compN, w_rhoV, w_compC, w_okT, w_any, w_any_t, w_any_l, w_any_f, w_enum, w_enum_t, w_enum_l, w_zip, w_zip_t, w_zip_l, zip_nil, zip_nil2, zip_cons, w_range, tg_nm, tg_tp2, wipe_nil, wipe_cons, Nat.reduceLT, w_eqS hw K01.s4]
        cases q3 : PyData.eqv (.str w) (.str "drop") with
        | true =>
          try simp only [wp_ok, wp_okD, wp_bind, w_var, w_varV, w_c, w_bin, w_un, w_nil, w_cons, w_args, w_boolV, w_tOf, w_fAnd, w_fOr, w_fNot, w_eAnd, w_eOr, w_eIf, w_chain, w_optV, w_oNone, w_oSome, w_cut, o_cutT, o_cutL, w_pass, w_ret, w_if, w_seqV, w_seqR, w_seq, w_asgV, w_asg, w_gNm, w_gTp, w_gNl, w_gCn, w_par2V, w_par2, w_set, w_body, w_endD, w_endN, w_for, w_forN, w_loopN, w_loopR, w_forC, o_add, o_addB, o_sub, o_ord, o_lt, o_le, o_gt, o_ge, o_eqI, o_neI, o_eqB, o_not, o_neg, o_len_t, o_len_l, o_len_f, datL_nil, datL_cons, startR, List.map_cons, List.map_nil, List.length_cons, List.length_nil, List.replicate_succ, List.replicate_zero, List.cons_append, List.nil_append, List.getElem?_cons_zero, List.getElem?_cons_succ, List.set_cons_zero, List.set_cons_succ, List.take_length, Option.map_some, Option.map_none, List.append_nil, Nat.sub_self, w_idxV, w_idx_t, w_idx_l, w_idx_f, at0, at1, at2, cut1, w_call, w_tup, w_lst, Nat.reduceSub, Nat.reduceAdd, Nat.reduceLeDiff, if_true, reduceIte, Bool.not_true, Bool.not_false, Bool.false_eq_true, reduceCtorEq, w_isT, w_comp, w_datV, w_compN, w_rhoV, w_compC, w_okT, w_any, w_any_t, w_any_l, w_any_f, w_enum, w_enum_t, w_enum_l, w_zip, w_zip_t, w_zip_l, zip_nil, zip_nil2, zip_cons, w_range, tg_nm, tg_tp2, wipe_nil, wipe_cons, Nat.reduceLT]
          refine draw_w s3 (by omega) (by omega) fun r1 μ4 _ _ s4 n4 => ?_
          try simp only [wp_ok, wp_okD, wp_bind, w_var, w_varV, w_c, w_bin, w_un, w_nil, w_cons, w_args, w_boolV, w_tOf, w_fAnd, w_fOr, w_fNot, w_eAnd, w_eOr, w_eIf, w_chain, w_optV, w_oNone, w_oSome, w_cut, o_cutT, o_cutL, w_pass, w_ret, w_if, w_seqV, w_seqR, w_seq, w_asgV, w_asg, w_gNm, w_gTp, w_gNl, w_gCn, w_par2V, w_par2, w_set, w_body, w_endD, w_endN, w_for, w_forN, w_loopN, w_loopR, w_forC, o_add, o_addB, o_sub, o_ord, o_lt, o_le, o_gt, o_ge, o_eqI, o_neI, o_eqB, o_not, o_neg, o_len_t, o_len_l, o_len_f, datL_nil, datL_cons, startR, List.map_cons, List.map_nil, List.length_cons, List.length_nil, List.replicate_succ, List.replicate_zero, List.cons_append, List.nil_append, List.getElem?_cons_zero, List.getElem?_cons_succ, List.set_cons_zero, List.set_cons_succ, List.take_length, Option.map_some, Option.map_none, List.append_nil, Nat.sub_self, w_idxV, w_idx_t, w_idx_l, w_idx_f, at0, at1, at2, cut1, w_call, w_tup, w_lst, Nat.reduceSub, Nat.reduceAdd, Nat.reduceLeDiff, if_true, reduceIte, Bool.not_true, Bool.not_false, Bool.false_eq_true, reduceCtorEq, w_isT, w_comp, w_datV, w_compN, w_rhoV, w_compC, w_okT, w_any, w_any_t, w_any_l, w_any_f, w_enum, w_enum_t, w_enum_l, w_zip, w_zip_t, w_zip_l, zip_nil, zip_nil2, zip_cons, w_range, tg_nm, tg_tp2, wipe_nil, wipe_cons, Nat.reduceLT]
          refine of_w s4 (by simp) (by simp) fun d μ5 hd s5 n5 => ?_
          obtain ⟨d, rfl⟩ : ∃ i, d = .int i := by
            simp only [List.mem_cons, List.not_mem_nil, or_false] at hd
            rcases hd with rfl | rfl | rfl | rfl | rfl <;> exact ⟨_, rfl⟩
          try simp only [wp_ok, wp_okD, wp_bind, w_var, w_varV, w_c, w_bin, w_un, w_nil, w_cons, w_args, w_boolV, w_tOf, w_fAnd, w_fOr, w_fNot, w_eAnd, w_eOr, w_eIf, w_chain, w_optV, w_oNone, w_oSome, w_cut, o_cutT, o_cutL, w_pass, w_ret, w_if, w_seqV, w_seqR, w_seq, w_asgV, w_asg, w_gNm, w_gTp, w_gNl, w_gCn, w_par2V, w_par2, w_set, w_body, w_endD, w_endN, w_for, w_forN, w_loopN, w_loopR, w_forC, o_add, o_addB, o_sub, o_ord, o_lt, o_le, o_gt, o_ge, o_eqI, o_neI, o_eqB, o_not, o_neg, o_len_t, o_len_l, o_len_f, datL_nil, datL_cons, startR, List.map_cons, List.map_nil, List.length_cons, List.length_nil, List.replicate_succ, List.replicate_zero, List.cons_append, List.nil_append, List.getElem?_cons_zero, List.getElem?_cons_succ, List.set_cons_zero, List.set_cons_succ, List.take_length, Option.map_some, Option.map_none, List.append_nil, Nat.sub_self, w_idxV, w_idx_t, w_idx_l, w_idx_f, at0, at1, at2, cut1, w_call, w_tup, w_lst, Nat.reduceSub, Nat.reduceAdd, Nat.reduceLeDiff, if_true, reduceIte, Bool.not_true, Bool.not_false, Bool.false_eq_true, reduceCtorEq, w_isT, w_comp, w_datV, w_compN, w_rhoV, w_compC, w_okT, w_any, w_any_t, w_any_l, w_any_f, w_enum, w_enum_t, w_enum_l, w_zip, w_zip_t, w_zip_l, zip_nil, zip_nil2, zip_cons, w_range, tg_nm, tg_tp2, wipe_nil, wipe_cons, Nat.reduceLT]
          exact ⟨_, _, by simp, w3 a d, rfl, s5, by omega⟩
        | false =>
          try simp only [wp_ok, wp_okD, wp_bind, w_var, w_varV, w_c, w_bin, w_un, w_nil, w_cons, w_args, w_boolV, w_tOf, w_fAnd, w_fOr, w_fNot, w_eAnd, w_eOr, w_eIf, w_chain, w_optV, w_oNone, w_oSome, w_cut, o_cutT, o_cutL, w_pass, w_ret, w_if, w_seqV, w_seqR, w_seq, w_asgV, w_asg, w_gNm, w_gTp, w_gNl, w_gCn, w_par2V, w_par2, w_set, w_body, w_endD, w_endN, w_for, w_forN, w_loopN, w_loopR, w_forC, o_add, o_addB, o_sub, o_ord, o_lt, o_le, o_gt, o_ge, o_eqI, o_neI, o_eqB, o_not, o_neg, o_len_t, o_len_l, o_len_f, datL_nil, datL_cons, startR, List.map_cons, List.map_nil, List.length_cons, List.length_nil, List.replicate_succ, List.replicate_zero, List.cons_append, List.nil_append, List.getElem?_cons_zero, List.getElem?_cons_succ, List.set_cons_zero, List.set_cons_succ, List.take_length, Option.map_some, Option.map_none, List.append_nil, Nat.sub_self, w_idxV, w_idx_t, w_idx_l, w_idx_f, at0, at1, at2, cut1, w_call, w_tup, w_lst, Nat.reduceSub, Nat.reduceAdd, Nat.reduceLeDiff, if_true, reduceIte, Bool.not_true, Bool.not_false, Bool.false_eq_true, reduceCtorEq, w_isT, w_comp, w_datV, w_compN, w_rhoV, w_compC, w_okT, w_any, w_any_t, w_any_l, w_any_f, w_enum, w_enum_t, w_enum_l, w_zip, w_zip_t, w_zip_l, zip_nil, zip_nil2, zip_cons, w_range, tg_nm, tg_tp2, wipe_nil, wipe_cons, Nat.reduceLT]
          exact ⟨_, _, by simp, w3 a b, rfl, s3, n3⟩
  rintro ρ1 μ4 ⟨es, o9, he, hw4, rfl, s4, n4⟩
  have o2 : ∀ (d : PyData) (μ6 : Mem), gAdd (.dat (.tuple ds)) (.dat (.tuple [d])) μ6 = okD (.tuple (ds ++ [d])) μ6 := fun d μ6 => o_addT (by simp; omega)
  try simp only [wp_ok, wp_okD, wp_bind, w_var, w_varV, w_c, w_bin, w_un, w_nil, w_cons, w_args, w_boolV, w_tOf, w_fAnd, w_fOr, w_fNot, w_eAnd, w_eOr, w_eIf, w_chain, w_optV, w_oNone, w_oSome, w_cut, o_cutT, o_cutL, w_pass, w_ret, w_if, w_seqV, w_seqR, w_seq, w_asgV, w_asg, w_gNm, w_gTp, w_gNl, w_gCn, w_par2V, w_par2, w_set, w_body, w_endD, w_endN, w_for, w_forN, w_loopN, w_loopR, w_forC, o_add, o_addB, o_sub, o_ord, o_lt, o_le, o_gt, o_ge, o_eqI, o_neI, o_eqB, o_not, o_neg, o_len_t, o_len_l, o_len_f, datL_nil, datL_cons, startR, List.map_cons, List.map_nil, List.length_cons, List.length_nil, List.replicate_succ, List.replicate_zero, List.cons_append, List.nil_append, List.getElem?_cons_zero, List.getElem?_cons_succ, List.set_cons_zero, List.set_cons_succ, List.take_length, Option.map_some, Option.map_none, List.append_nil, Nat.sub_self, w_idxV, w_idx_t, w_idx_l, w_idx_f, at0, at1, at2, cut1, w_call, w_tup, w_lst, Nat.reduceSub, Nat.reduceAdd, Nat.reduceLeDiff, if_true, reduceIte, Bool.not_true, Bool.not_false, Bool.false_eq_true, reduceCtorEq, w_isT, w_comp, w_datV, w_compN, w_rhoV, w_compC, w_okT, w_any, w_any_t, w_any_l, w_any_f, w_enum, w_enum_t, w_enum_l, w_zip, w_zip_t, w_zip_l, zip_nil, zip_nil2, zip_cons, w_range, tg_nm, tg_tp2, wipe_nil, wipe_cons, Nat.reduceLT, w_eqS hw K01.s2]
  cases q1 : PyData.eqv (.str w) (.str "back") with
  | true =>
    try simp only [wp_ok, wp_okD, wp_bind, w_var, w_varV, w_c, w_bin, w_un, w_nil, w_cons, w_args, w_boolV, w_tOf, w_fAnd, w_fOr, w_fNot, w_eAnd, w_eOr, w_eIf, w_chain, w_optV, w_oNone, w_oSome, w_cut, o_cutT, o_cutL, w_pass, w_ret, w_if, w_seqV, w_seqR, w_seq, w_asgV, w_asg, w_gNm, w_gTp, w_gNl, w_gCn, w_par2V, w_par2, w_set, w_body, w_endD, w_endN, w_for, w_forN, w_loopN, w_loopR, w_forC, o_add, o_addB, o_sub, o_ord, o_lt, o_le, o_gt, o_ge, o_eqI, o_neI, o_eqB, o_not, o_neg, o_len_t, o_len_l, o_len_f, datL_nil, datL_cons, startR, List.map_cons, List.map_nil, List.length_cons, List.length_nil, List.replicate_succ, List.replicate_zero, List.cons_append, List.nil_append, List.getElem?_cons_zero, List.getElem?_cons_succ, List.set_cons_zero, List.set_cons_succ, List.take_length, Option.map_some, Option.map_none, List.append_nil, Nat.sub_self, w_idxV, w_idx_t, w_idx_l, w_idx_f, at0, at1, at2, cut1, w_call, w_tup, w_lst, Nat.reduceSub, Nat.reduceAdd, Nat.reduceLeDiff, if_true, reduceIte, Bool.not_true, Bool.not_false, Bool.false_eq_true, reduceCtorEq, w_isT, w_comp, w_datV, w_compN, w_rhoV, w_compC, w_okT, w_any, w_any_t, w_any_l, w_any_f, w_enum, w_enum_t, w_enum_l, w_zip, w_zip_t, w_zip_l, zip_nil, zip_nil2, zip_cons, w_range, tg_nm, tg_tp2, wipe_nil, wipe_cons, Nat.reduceLT, o2]
    refine k _ _ _ _ _ _ _ _ μ4 ?_ s4 n4
    rw [cut_to (by omega)]
    simp only [wf]
    exact ⟨by rw [List.length_take]; omega, fun d hd => hw4 d (List.mem_of_mem_take hd)⟩
  | false =>
    try simp only [wp_ok, wp_okD, wp_bind, w_var, w_varV, w_c, w_bin, w_un, w_nil, w_cons, w_args, w_boolV, w_tOf, w_fAnd, w_fOr, w_fNot, w_eAnd, w_eOr, w_eIf, w_chain, w_optV, w_oNone, w_oSome, w_cut, o_cutT, o_cutL, w_pass, w_ret, w_if, w_seqV, w_seqR, w_seq, w_asgV, w_asg, w_gNm, w_gTp, w_gNl, w_gCn, w_par2V, w_par2, w_set, w_body, w_endD, w_endN, w_for, w_forN, w_loopN, w_loopR, w_forC, o_add, o_addB, o_sub, o_ord, o_lt, o_le, o_gt, o_ge, o_eqI, o_neI, o_eqB, o_not, o_neg, o_len_t, o_len_l, o_len_f, datL_nil, datL_cons, startR, List.map_cons, List.map_nil, List.length_cons, List.length_nil, List.replicate_succ, List.replicate_zero, List.cons_append, List.nil_append, List.getElem?_cons_zero, List.getElem?_cons_succ, List.set_cons_zero, List.set_cons_succ, List.take_length, Option.map_some, Option.map_none, List.append_nil, Nat.sub_self, w_idxV, w_idx_t, w_idx_l, w_idx_f, at0, at1, at2, cut1, w_call, w_tup, w_lst, Nat.reduceSub, Nat.reduceAdd, Nat.reduceLeDiff, if_true, reduceIte, Bool.not_true, Bool.not_false, Bool.false_eq_true, reduceCtorEq, w_isT, w_comp, w_datV, w_compN, w_rhoV, w_compC, w_okT, w_any, w_any_t, w_any_l, w_any_f, w_enum, w_enum_t, w_enum_l, w_zip, w_zip_t, w_zip_l, zip_nil, zip_nil2, zip_cons, w_range, tg_nm, tg_tp2, wipe_nil, wipe_cons, Nat.reduceLT, o2]
    refine k _ _ _ _ _ _ _ _ μ4 ?_ s4 n4
    simp only [wf]
    exact ⟨by omega, hw4⟩
theorem script_loop {c : Nat} {most : Int} {QS : Flo × Rho → Mem → Prop} (t : FT) (ht : t = (fAnd (tOf (eBin (gOrd .lt) (eArgs (c1 lenD) (lCons (eVar 2) lNil)) (eVar 1))) (tOf (eBin (gOrd .gt) (eArgs (gCall 2 F_l_draw) (lCons (eVar 0) (lCons (eC (.int 6)) lNil))) (eC (.int 0)))))) (hm : most ≤ 6) : ∀ (n : Nat) (ds : List PyData) (j : Int) (o4 o5 o6 o7 o8 o9 : Option Val) (μ : Mem), Src c μ → (∀ d ∈ ds, wf 6 3 d) → 1 ≤ ds.length → ds.length ≤ 6 → 7 ≤ ds.length + n →
    (∀ (ds' : List PyData) (j : Int) (o4 o5 o6 o7 o8 o9 : Option Val) (μ' : Mem), (∀ d ∈ ds', wf 6 3 d) → ds'.length ≤ 6 → Src c μ' → μ'.length = μ.length → QS (.nx, [some (.cel c), some (.dat (.int most)), some (.dat (.tuple ds')), some (.dat (.int j)), o4, o5, o6, o7, o8, o9]) μ') →
    wp (whileD t lb_l_script_0 n [some (.cel c), some (.dat (.int most)), some (.dat (.tuple ds)), some (.dat (.int j)), o4, o5, o6, o7, o8, o9] μ) QS
  | 0, ds, j, o4, o5, o6, o7, o8, o9, μ, hs, hd, h1, h2, h3, k => by omega
  | n + 1, ds, j, o4, o5, o6, o7, o8, o9, μ, hs, hd, h1, h2, h3, k => by
    rw [w_while]
    have step : ∀ μ1 : Mem, Src c μ1 → μ1.length = μ.length → (ds.length : Int) < most → wp (lb_l_script_0 [some (.cel c), some (.dat (.int most)), some (.dat (.tuple ds)), some (.dat (.int j)), o4, o5, o6, o7, o8, o9] μ1) fun q μ2 => loopV q μ2 (fun ρ1 μ3 => wp (whileD t lb_l_script_0 n ρ1 μ3) QS) QS := by
      intro μ1 s1 n1 hl
      refine script_body s1 h1 (by omega) fun d j o4 o5 o6 o7 o8 o9 μ2 hw s2 n2 => ?_
      rw [w_loopN]
      refine script_loop t ht hm n (ds ++ [d]) j o4 o5 o6 o7 o8 o9 μ2 s2 (fun e he => ?_) (by simp) (by simp; omega) (by simp; omega) fun ds' j o4 o5 o6 o7 o8 o9 μ3 hw3 h3 s3 n3 => k ds' j o4 o5 o6 o7 o8 o9 μ3 hw3 h3 s3 (by omega)
      rcases List.mem_append.mp he with q | q
      · exact hd e q
      · rw [List.mem_singleton.mp q]; exact hw
    conv => arg 1; rw [ht]
    try simp only [wp_ok, wp_okD, wp_bind, w_var, w_varV, w_c, w_bin, w_un, w_nil, w_cons, w_args, w_boolV, w_tOf, w_fAnd, w_fOr, w_fNot, w_eAnd, w_eOr, w_eIf, w_chain, w_optV, w_oNone, w_oSome, w_cut, o_cutT, o_cutL, w_pass, w_ret, w_if, w_seqV, w_seqR, w_seq, w_asgV, w_asg, w_gNm, w_gTp, w_gNl, w_gCn, w_par2V, w_par2, w_set, w_body, w_endD, w_endN, w_for, w_forN, w_loopN, w_loopR, w_forC, o_add, o_addB, o_sub, o_ord, o_lt, o_le, o_gt, o_ge, o_eqI, o_neI, o_eqB, o_not, o_neg, o_len_t, o_len_l, o_len_f, datL_nil, datL_cons, startR, List.map_cons, List.map_nil, List.length_cons, List.length_nil, List.replicate_succ, List.replicate_zero, List.cons_append, List.nil_append, List.getElem?_cons_zero, List.getElem?_cons_succ, List.set_cons_zero, List.set_cons_succ, List.take_length, Option.map_some, Option.map_none, List.append_nil, Nat.sub_self, w_idxV, w_idx_t, w_idx_l, w_idx_f, at0, at1, at2, cut1, w_call, w_tup, w_lst, Nat.reduceSub, Nat.reduceAdd, Nat.reduceLeDiff, if_true, reduceIte, Bool.not_true, Bool.not_false, Bool.false_eq_true, reduceCtorEq, w_isT, w_comp, w_datV, w_compN, w_rhoV, w_compC, w_okT, w_any, w_any_t, w_any_l, w_any_f, w_enum, w_enum_t, w_enum_l, w_zip, w_zip_t, w_zip_l, zip_nil, zip_nil2, zip_cons, w_range, tg_nm, tg_tp2, wipe_nil, wipe_cons, Nat.reduceLT]
    by_cases q : (ds.length : Int) < most
    · simp only [q, decide_true, wp_ok, wp_okD, wp_bind, w_var, w_varV, w_c, w_bin, w_un, w_nil, w_cons, w_args, w_boolV, w_tOf, w_fAnd, w_fOr, w_fNot, w_eAnd, w_eOr, w_eIf, w_chain, w_optV, w_oNone, w_oSome, w_cut, o_cutT, o_cutL, w_pass, w_ret, w_if, w_seqV, w_seqR, w_seq, w_asgV, w_asg, w_gNm, w_gTp, w_gNl, w_gCn, w_par2V, w_par2, w_set, w_body, w_endD, w_endN, w_for, w_forN, w_loopN, w_loopR, w_forC, o_add, o_addB, o_sub, o_ord, o_lt, o_le, o_gt, o_ge, o_eqI, o_neI, o_eqB, o_not, o_neg, o_len_t, o_len_l, o_len_f, datL_nil, datL_cons, startR, List.map_cons, List.map_nil, List.length_cons, List.length_nil, List.replicate_succ, List.replicate_zero, List.cons_append, List.nil_append, List.getElem?_cons_zero, List.getElem?_cons_succ, List.set_cons_zero, List.set_cons_succ, List.take_length, Option.map_some, Option.map_none, List.append_nil, Nat.sub_self, w_idxV, w_idx_t, w_idx_l, w_idx_f, at0, at1, at2, cut1, w_call, w_tup, w_lst, Nat.reduceSub, Nat.reduceAdd, Nat.reduceLeDiff, if_true, reduceIte, Bool.not_true, Bool.not_false, Bool.false_eq_true, reduceCtorEq, w_isT, w_comp, w_datV, w_compN, w_rhoV, w_compC, w_okT, w_any, w_any_t, w_any_l, w_any_f, w_enum, w_enum_t, w_enum_l, w_zip, w_zip_t, w_zip_l, zip_nil, zip_nil2, zip_cons, w_range, tg_nm, tg_tp2, wipe_nil, wipe_cons, Nat.reduceLT]
      refine draw_w hs (by omega) (by omega) fun r μ1 _ _ s1 n1 => ?_
      try simp only [wp_ok, wp_okD, wp_bind, w_var, w_varV, w_c, w_bin, w_un, w_nil, w_cons, w_args, w_boolV, w_tOf, w_fAnd, w_fOr, w_fNot, w_eAnd, w_eOr, w_eIf, w_chain, w_optV, w_oNone, w_oSome, w_cut, o_cutT, o_cutL, w_pass, w_ret, w_if, w_seqV, w_seqR, w_seq, w_asgV, w_asg, w_gNm, w_gTp, w_gNl, w_gCn, w_par2V, w_par2, w_set, w_body, w_endD, w_endN, w_for, w_forN, w_loopN, w_loopR, w_forC, o_add, o_addB, o_sub, o_ord, o_lt, o_le, o_gt, o_ge, o_eqI, o_neI, o_eqB, o_not, o_neg, o_len_t, o_len_l, o_len_f, datL_nil, datL_cons, startR, List.map_cons, List.map_nil, List.length_cons, List.length_nil, List.replicate_succ, List.replicate_zero, List.cons_append, List.nil_append, List.getElem?_cons_zero, List.getElem?_cons_succ, List.set_cons_zero, List.set_cons_succ, List.take_length, Option.map_some, Option.map_none, List.append_nil, Nat.sub_self, w_idxV, w_idx_t, w_idx_l, w_idx_f, at0, at1, at2, cut1, w_call, w_tup, w_lst, Nat.reduceSub, Nat.reduceAdd, Nat.reduceLeDiff, if_true, reduceIte, Bool.not_true, Bool.not_false, Bool.false_eq_true, reduceCtorEq, w_isT, w_comp, w_datV, w_compN, w_rhoV, w_compC, w_okT, w_any, w_any_t, w_any_l, w_any_f, w_enum, w_enum_t, w_enum_l, w_zip, w_zip_t, w_zip_l, zip_nil, zip_nil2, zip_cons, w_range, tg_nm, tg_tp2, wipe_nil, wipe_cons, Nat.reduceLT]
      by_cases q2 : 0 < r
      · simp only [q2, decide_true, if_true]
        exact step μ1 s1 n1 q
      · simp only [q2, decide_false, wp_ok, wp_okD, wp_bind, w_var, w_varV, w_c, w_bin, w_un, w_nil, w_cons, w_args, w_boolV, w_tOf, w_fAnd, w_fOr, w_fNot, w_eAnd, w_eOr, w_eIf, w_chain, w_optV, w_oNone, w_oSome, w_cut, o_cutT, o_cutL, w_pass, w_ret, w_if, w_seqV, w_seqR, w_seq, w_asgV, w_asg, w_gNm, w_gTp, w_gNl, w_gCn, w_par2V, w_par2, w_set, w_body, w_endD, w_endN, w_for, w_forN, w_loopN, w_loopR, w_forC, o_add, o_addB, o_sub, o_ord, o_lt, o_le, o_gt, o_ge, o_eqI, o_neI, o_eqB, o_not, o_neg, o_len_t, o_len_l, o_len_f, datL_nil, datL_cons, startR, List.map_cons, List.map_nil, List.length_cons, List.length_nil, List.replicate_succ, List.replicate_zero, List.cons_append, List.nil_append, List.getElem?_cons_zero, List.getElem?_cons_succ, List.set_cons_zero, List.set_cons_succ, List.take_length, Option.map_some, Option.map_none, List.append_nil, Nat.sub_self, w_idxV, w_idx_t, w_idx_l, w_idx_f, at0, at1, at2, cut1, w_call, w_tup, w_lst, Nat.reduceSub, Nat.reduceAdd, Nat.reduceLeDiff, if_true, reduceIte, Bool.not_true, Bool.not_false, Bool.false_eq_true, reduceCtorEq, w_isT, w_comp, w_datV, w_compN, w_rhoV, w_compC, w_okT, w_any, w_any_t, w_any_l, w_any_f, w_enum, w_enum_t, w_enum_l, w_zip, w_zip_t, w_zip_l, zip_nil, zip_nil2, zip_cons, w_range, tg_nm, tg_tp2, wipe_nil, wipe_cons, Nat.reduceLT]
        exact k ds j o4 o5 o6 o7 o8 o9 μ1 hd h2 s1 n1
    · simp only [q, decide_false, wp_ok, wp_okD, wp_bind, w_var, w_varV, w_c, w_bin, w_un, w_nil, w_cons, w_args, w_boolV, w_tOf, w_fAnd, w_fOr, w_fNot, w_eAnd, w_eOr, w_eIf, w_chain, w_optV, w_oNone, w_oSome, w_cut, o_cutT, o_cutL, w_pass, w_ret, w_if, w_seqV, w_seqR, w_seq, w_asgV, w_asg, w_gNm, w_gTp, w_gNl, w_gCn, w_par2V, w_par2, w_set, w_body, w_endD, w_endN, w_for, w_forN, w_loopN, w_loopR, w_forC, o_add, o_addB, o_sub, o_ord, o_lt, o_le, o_gt, o_ge, o_eqI, o_neI, o_eqB, o_not, o_neg, o_len_t, o_len_l, o_len_f, datL_nil, datL_cons, startR, List.map_cons, List.map_nil, List.length_cons, List.length_nil, List.replicate_succ, List.replicate_zero, List.cons_append, List.nil_append, List.getElem?_cons_zero, List.getElem?_cons_succ, List.set_cons_zero, List.set_cons_succ, List.take_length, Option.map_some, Option.map_none, List.append_nil, Nat.sub_self, w_idxV, w_idx_t, w_idx_l, w_idx_f, at0, at1, at2, cut1, w_call, w_tup, w_lst, Nat.reduceSub, Nat.reduceAdd, Nat.reduceLeDiff, if_true, reduceIte, Bool.not_true, Bool.not_false, Bool.false_eq_true, reduceCtorEq, w_isT, w_comp, w_datV, w_compN, w_rhoV, w_compC, w_okT, w_any, w_any_t, w_any_l, w_any_f, w_enum, w_enum_t, w_enum_l, w_zip, w_zip_t, w_zip_l, zip_nil, zip_nil2, zip_cons, w_range, tg_nm, tg_tp2, wipe_nil, wipe_cons, Nat.reduceLT]
      exact k ds j o4 o5 o6 o7 o8 o9 μ hd h2 hs rfl
theorem script_w {c : Nat} {most : Int} {μ : Mem} {Q : Val → Mem → Prop} (hs : Src c μ) (hm : most ≤ 6) (k : ∀ (v : PyData) (μ' : Mem), wf 6 4 v → Src c μ' → μ'.length = μ.length → Q (.dat v) μ') : wp (F_l_script [.cel c, .dat (.int most)] μ) Q := by
  unfold F_l_script b_l_script
  try simp only [wp_ok, wp_okD, wp_bind, w_var, w_varV, w_c, w_bin, w_un, w_nil, w_cons, w_args, w_boolV, w_tOf, w_fAnd, w_fOr, w_fNot, w_eAnd, w_eOr, w_eIf, w_chain, w_optV, w_oNone, w_oSome, w_cut, o_cutT, o_cutL, w_pass, w_ret, w_if, w_seqV, w_seqR, w_seq, w_asgV, w_asg, w_gNm, w_gTp, w_gNl, w_gCn, w_par2V, w_par2, w_set, w_body, w_endD, w_endN, w_for, w_forN, w_loopN, w_loopR, w_forC, o_add, o_addB, o_sub, o_ord, o_lt, o_le, o_gt, o_ge, o_eqI, o_neI, o_eqB, o_not, o_neg, o_len_t, o_len_l, o_len_f, datL_nil, datL_cons, startR, List.map_cons, List.map_nil, List.length_cons, List.length_nil, List.replicate_succ, List.replicate_zero, List.cons_append, List.nil_append, List.getElem?_cons_zero, List.getElem?_cons_succ, List.set_cons_zero, List.set_cons_succ, List.take_length, Option.map_some, Option.map_none, List.append_nil, Nat.sub_self, w_idxV, w_idx_t, w_idx_l, w_idx_f, at0, at1, at2, cut1, w_call, w_tup, w_lst, Nat.reduceSub, Nat.reduceAdd, Nat.reduceLeDiff, if_true, reduceIte, Bool.not_true, Bool.not_false, Bool.false_eq_true, reduceCtorEq, w_isT, w_comp, w_datV, w_compN, w_rhoV, w_compC, w_okT, w_any, w_any_t, w_any_l, w_any_f, w_enum, w_enum_t, w_enum_l, w_zip, w_zip_t, w_zip_l, zip_nil, zip_nil2, zip_cons, w_range, tg_nm, tg_tp2, wipe_nil, wipe_cons, Nat.reduceLT]
  refine pattern_w hs fun v μ1 hv s1 n1 => ?_
  try simp only [wp_ok, wp_okD, wp_bind, w_var, w_varV, w_c, w_bin, w_un, w_nil, w_cons, w_args, w_boolV, w_tOf, w_fAnd, w_fOr, w_fNot, w_eAnd, w_eOr, w_eIf, w_chain, w_optV, w_oNone, w_oSome, w_cut, o_cutT, o_cutL, w_pass, w_ret, w_if, w_seqV, w_seqR, w_seq, w_asgV, w_asg, w_gNm, w_gTp, w_gNl, w_gCn, w_par2V, w_par2, w_set, w_body, w_endD, w_endN, w_for, w_forN, w_loopN, w_loopR, w_forC, o_add, o_addB, o_sub, o_ord, o_lt, o_le, o_gt, o_ge, o_eqI, o_neI, o_eqB, o_not, o_neg, o_len_t, o_len_l, o_len_f, datL_nil, datL_cons, startR, List.map_cons, List.map_nil, List.length_cons, List.length_nil, List.replicate_succ, List.replicate_zero, List.cons_append, List.nil_append, List.getElem?_cons_zero, List.getElem?_cons_succ, List.set_cons_zero, List.set_cons_succ, List.take_length, Option.map_some, Option.map_none, List.append_nil, Nat.sub_self, w_idxV, w_idx_t, w_idx_l, w_idx_f, at0, at1, at2, cut1, w_call, w_tup, w_lst, Nat.reduceSub, Nat.reduceAdd, Nat.reduceLeDiff, if_true, reduceIte, Bool.not_true, Bool.not_false, Bool.false_eq_true, reduceCtorEq, w_isT, w_comp, w_datV, w_compN, w_rhoV, w_compC, w_okT, w_any, w_any_t, w_any_l, w_any_f, w_enum, w_enum_t, w_enum_l, w_zip, w_zip_t, w_zip_l, zip_nil, zip_nil2, zip_cons, w_range, tg_nm, tg_tp2, wipe_nil, wipe_cons, Nat.reduceLT]
  show wp (whileD _ lb_l_script_0 1000000 _ _) _
  have hw : wf 6 0 (.str "write") := by simp only [wf]; exact strs_ok _ (by simp)
  refine script_loop _ rfl hm 1000000 [.tuple [.str "write", v]] 0 _ _ _ _ _ _ μ1 s1 (fun d hd => ?_) (by simp) (by simp) (by simp) fun ds j o4 o5 o6 o7 o8 o9 μ2 hd hl s2 n2 => ?_
  · rw [List.mem_singleton.mp hd]
    simp only [wf]
    refine ⟨by simp, fun e he => ?_⟩
    simp only [List.mem_cons, List.not_mem_nil, or_false] at he
    rcases he with rfl | rfl
    · exact wf_str hw
    · exact hv
  · have n3 : μ2.length = μ.length := by omega
    try simp only [wp_ok, wp_okD, wp_bind, w_var, w_varV, w_c, w_bin, w_un, w_nil, w_cons, w_args, w_boolV, w_tOf, w_fAnd, w_fOr, w_fNot, w_eAnd, w_eOr, w_eIf, w_chain, w_optV, w_oNone, w_oSome, w_cut, o_cutT, o_cutL, w_pass, w_ret, w_if, w_seqV, w_seqR, w_seq, w_asgV, w_asg, w_gNm, w_gTp, w_gNl, w_gCn, w_par2V, w_par2, w_set, w_body, w_endD, w_endN, w_for, w_forN, w_loopN, w_loopR, w_forC, o_add, o_addB, o_sub, o_ord, o_lt, o_le, o_gt, o_ge, o_eqI, o_neI, o_eqB, o_not, o_neg, o_len_t, o_len_l, o_len_f, datL_nil, datL_cons, startR, List.map_cons, List.map_nil, List.length_cons, List.length_nil, List.replicate_succ, List.replicate_zero, List.cons_append, List.nil_append, List.getElem?_cons_zero, List.getElem?_cons_succ, List.set_cons_zero, List.set_cons_succ, List.take_length, Option.map_some, Option.map_none, List.append_nil, Nat.sub_self, w_idxV, w_idx_t, w_idx_l, w_idx_f, at0, at1, at2, cut1, w_call, w_tup, w_lst, Nat.reduceSub, Nat.reduceAdd, Nat.reduceLeDiff, if_true, reduceIte, Bool.not_true, Bool.not_false, Bool.false_eq_true, reduceCtorEq, w_isT, w_comp, w_datV, w_compN, w_rhoV, w_compC, w_okT, w_any, w_any_t, w_any_l, w_any_f, w_enum, w_enum_t, w_enum_l, w_zip, w_zip_t, w_zip_l, zip_nil, zip_nil2, zip_cons, w_range, tg_nm, tg_tp2, wipe_nil, wipe_cons, Nat.reduceLT, take_len n3]
    refine k _ μ2 ?_ s2 n3
    simp only [wf]
    exact ⟨hl, hd⟩
end K01
set_option Elab.async false
set_option linter.all false
set_option maxRecDepth 100000
set_option maxHeartbeats 4000000
namespace K01
open PySem PySem.Spec PyProof.Rows L2 DN
theorem eqv_nil {ds : List PyData} : PyData.eqv (.tuple ds) (.tuple []) = ds.isEmpty := by
  cases ds <;> try simp only [PyData.eqv, PyData.eqvAll] <;> rfl
theorem sh_nil : SeqAt.shaped (.tuple []) = true := rfl
theorem o_list {ds : List PyData} {μ : Mem} : c1 listD [.dat (.tuple ds)] μ = okD (.list ds) μ := rfl
theorem spoilt_w {c : Nat} : ∀ (d n m : Nat) (v : PyData) (μ : Mem) (Q : Val → Mem → Prop), n < d → n ≤ 40 → 6 ≤ m → m ≤ 1000 → wf m n v → Src c μ →
    (∀ (v' : PyData) (μ' : Mem), wf (m + 1) (n + 1) v' → Src c μ' → μ'.length = μ.length → Q (.dat v') μ') → wp (F_l_spoilt d [.cel c, .dat v] μ) Q
  | 0, n, m, v, μ, Q, hd, _, _, _, _, _, _ => by omega
  | d + 1, n, m, v, μ, Q, hd, hn, hm, hm2, hw, hs, k => by
    unfold F_l_spoilt b_l_spoilt
    have hodd : ∀ μ1 : Mem, Src c μ1 → μ1.length = μ.length → ∀ QQ : Val → Mem → Prop, (∀ (v' : PyData) (μ' : Mem), wf (m + 1) (n + 1) v' → Src c μ' → μ'.length = μ.length → QQ (.dat v') μ') → wp (F_l_odd [.cel c] μ1) QQ := fun μ1 s1 n1 QQ kk =>
      odd_w s1 fun v' μ' hw' s' n' => kk v' μ' (hw'.mono (by omega) (by omega)) s' (by omega)
    try simp only [wp_ok, wp_okD, wp_bind, w_var, w_varV, w_c, w_bin, w_un, w_nil, w_cons, w_args, w_boolV, w_tOf, w_fAnd, w_fOr, w_fNot, w_eAnd, w_eOr, w_eIf, w_chain, w_optV, w_oNone, w_oSome, w_cut, o_cutT, o_cutL, w_pass, w_ret, w_if, w_seqV, w_seqR, w_seq, w_asgV, w_asg, w_gNm, w_gTp, w_gNl, w_gCn, w_par2V, w_par2, w_set, w_body, w_endD, w_endN, w_for, w_forN, w_loopN, w_loopR, w_forC, o_add, o_addB, o_sub, o_ord, o_lt, o_le, o_gt, o_ge, o_eqI, o_neI, o_eqB, o_not, o_neg, o_len_t, o_len_l, o_len_f, datL_nil, datL_cons, startR, List.map_cons, List.map_nil, List.length_cons, List.length_nil, List.replicate_succ, List.replicate_zero, List.cons_append, List.nil_append, List.getElem?_cons_zero, List.getElem?_cons_succ, List.set_cons_zero, List.set_cons_succ, List.take_length, Option.map_some, Option.map_none, List.append_nil, Nat.sub_self, w_idxV, w_idx_t, w_idx_l, w_idx_f, at0, at1, at2, cut1, w_call, w_tup, w_lst, Nat.reduceSub, Nat.reduceAdd, Nat.reduceLeDiff, if_true, reduceIte, Bool.not_true, Bool.not_false, Bool.false_eq_true, reduceCtorEq, w_isT, w_comp, w_datV, w_compN, w_rhoV, w_compC, w_okT, w_any, w_any_t, w_any_l, w_any_f, w_enum, w_enum_t, w_enum_l, w_zip, w_zip_t, w_zip_l, zip_nil, zip_nil2, zip_cons, w_range, tg_nm, tg_tp2, wipe_nil, wipe_cons, Nat.reduceLT, w_isT hw.nod]
    cases v with
    | tuple ds =>
      have hsh := hw.shaped (by omega)
      obtain ⟨j, rfl, hl, hwd⟩ := wf_tup hw
      have e1 : isT (.tuple ds) "tuple" = true := rfl
      try simp only [e1, wp_ok, wp_okD, wp_bind, w_var, w_varV, w_c, w_bin, w_un, w_nil, w_cons, w_args, w_boolV, w_tOf, w_fAnd, w_fOr, w_fNot, w_eAnd, w_eOr, w_eIf, w_chain, w_optV, w_oNone, w_oSome, w_cut, o_cutT, o_cutL, w_pass, w_ret, w_if, w_seqV, w_seqR, w_seq, w_asgV, w_asg, w_gNm, w_gTp, w_gNl, w_gCn, w_par2V, w_par2, w_set, w_body, w_endD, w_endN, w_for, w_forN, w_loopN, w_loopR, w_forC, o_add, o_addB, o_sub, o_ord, o_lt, o_le, o_gt, o_ge, o_eqI, o_neI, o_eqB, o_not, o_neg, o_len_t, o_len_l, o_len_f, datL_nil, datL_cons, startR, List.map_cons, List.map_nil, List.length_cons, List.length_nil, List.replicate_succ, List.replicate_zero, List.cons_append, List.nil_append, List.getElem?_cons_zero, List.getElem?_cons_succ, List.set_cons_zero, List.set_cons_succ, List.take_length, Option.map_some, Option.map_none, List.append_nil, Nat.sub_self, w_idxV, w_idx_t, w_idx_l, w_idx_f, at0, at1, at2, cut1, w_call, w_tup, w_lst, Nat.reduceSub, Nat.reduceAdd, Nat.reduceLeDiff, if_true, reduceIte, Bool.not_true, Bool.not_false, Bool.false_eq_true, reduceCtorEq, w_isT, w_comp, w_datV, w_compN, w_rhoV, w_compC, w_okT, w_any, w_any_t, w_any_l, w_any_f, w_enum, w_enum_t, w_enum_l, w_zip, w_zip_t, w_zip_l, zip_nil, zip_nil2, zip_cons, w_range, tg_nm, tg_tp2, wipe_nil, wipe_cons, Nat.reduceLT, w_eq (neg := false) hsh sh_nil, eqv_nil]
      cases q0 : ds.isEmpty with
      | true =>
        try simp only [wp_ok, wp_okD, wp_bind, w_var, w_varV, w_c, w_bin, w_un, w_nil, w_cons, w_args, w_boolV, w_tOf, w_fAnd, w_fOr, w_fNot, w_eAnd, w_eOr, w_eIf, w_chain, w_optV, w_oNone, w_oSome, w_cut, o_cutT, o_cutL, w_pass, w_ret, w_if, w_seqV, w_seqR, w_seq, w_asgV, w_asg, w_gNm, w_gTp, w_gNl, w_gCn, w_par2V, w_par2, w_set, w_body, w_endD, w_endN, w_for, w_forN, w_loopN, w_loopR, w_forC, o_add, o_addB, o_sub, o_ord, o_lt, o_le, o_gt, o_ge, o_eqI, o_neI, o_eqB, o_not, o_neg, o_len_t, o_len_l, o_len_f, datL_nil, datL_cons, startR, List.map_cons, List.map_nil, List.length_cons, List.length_nil, List.replicate_succ, List.replicate_zero, List.cons_append, List.nil_append, List.getElem?_cons_zero, List.getElem?_cons_succ, List.set_cons_zero, List.set_cons_succ, List.take_length, Option.map_some, Option.map_none, List.append_nil, Nat.sub_self, w_idxV, w_idx_t, w_idx_l, w_idx_f, at0, at1, at2, cut1, w_call, w_tup, w_lst, Nat.reduceSub, Nat.reduceAdd, Nat.reduceLeDiff, if_true, reduceIte, Bool.not_true, Bool.not_false, Bool.false_eq_true, reduceCtorEq, w_isT, w_comp, w_datV, w_compN, w_rhoV, w_compC, w_okT, w_any, w_any_t, w_any_l, w_any_f, w_enum, w_enum_t, w_enum_l, w_zip, w_zip_t, w_zip_l, zip_nil, zip_nil2, zip_cons, w_range, tg_nm, tg_tp2, wipe_nil, wipe_cons, Nat.reduceLT]
        refine hodd μ hs rfl _ fun v' μ' h1 s1 n1 => ?_
        try simp only [wp_ok, wp_okD, wp_bind, w_var, w_varV, w_c, w_bin, w_un, w_nil, w_cons, w_args, w_boolV, w_tOf, w_fAnd, w_fOr, w_fNot, w_eAnd, w_eOr, w_eIf, w_chain, w_optV, w_oNone, w_oSome, w_cut, o_cutT, o_cutL, w_pass, w_ret, w_if, w_seqV, w_seqR, w_seq, w_asgV, w_asg, w_gNm, w_gTp, w_gNl, w_gCn, w_par2V, w_par2, w_set, w_body, w_endD, w_endN, w_for, w_forN, w_loopN, w_loopR, w_forC, o_add, o_addB, o_sub, o_ord, o_lt, o_le, o_gt, o_ge, o_eqI, o_neI, o_eqB, o_not, o_neg, o_len_t, o_len_l, o_len_f, datL_nil, datL_cons, startR, List.map_cons, List.map_nil, List.length_cons, List.length_nil, List.replicate_succ, List.replicate_zero, List.cons_append, List.nil_append, List.getElem?_cons_zero, List.getElem?_cons_succ, List.set_cons_zero, List.set_cons_succ, List.take_length, Option.map_some, Option.map_none, List.append_nil, Nat.sub_self, w_idxV, w_idx_t, w_idx_l, w_idx_f, at0, at1, at2, cut1, w_call, w_tup, w_lst, Nat.reduceSub, Nat.reduceAdd, Nat.reduceLeDiff, if_true, reduceIte, Bool.not_true, Bool.not_false, Bool.false_eq_true, reduceCtorEq, w_isT, w_comp, w_datV, w_compN, w_rhoV, w_compC, w_okT, w_any, w_any_t, w_any_l, w_any_f, w_enum, w_enum_t, w_enum_l, w_zip, w_zip_t, w_zip_l, zip_nil, zip_nil2, zip_cons, w_range, tg_nm, tg_tp2, wipe_nil, wipe_cons, Nat.reduceLT, take_len n1]
        exact k v' μ' h1 s1 n1
      | false =>
        have hpos : 0 < ds.length := by
          cases ds with
          | nil => simp at q0
          | cons a r => simp
        try simp only [wp_ok, wp_okD, wp_bind, w_var, w_varV, w_c, w_bin, w_un, w_nil, w_cons, w_args, w_boolV, w_tOf, w_fAnd, w_fOr, w_fNot, w_eAnd, w_eOr, w_eIf, w_chain, w_optV, w_oNone, w_oSome, w_cut, o_cutT, o_cutL, w_pass, w_ret, w_if, w_seqV, w_seqR, w_seq, w_asgV, w_asg, w_gNm, w_gTp, w_gNl, w_gCn, w_par2V, w_par2, w_set, w_body, w_endD, w_endN, w_for, w_forN, w_loopN, w_loopR, w_forC, o_add, o_addB, o_sub, o_ord, o_lt, o_le, o_gt, o_ge, o_eqI, o_neI, o_eqB, o_not, o_neg, o_len_t, o_len_l, o_len_f, datL_nil, datL_cons, startR, List.map_cons, List.map_nil, List.length_cons, List.length_nil, List.replicate_succ, List.replicate_zero, List.cons_append, List.nil_append, List.getElem?_cons_zero, List.getElem?_cons_succ, List.set_cons_zero, List.set_cons_succ, List.take_length, Option.map_some, Option.map_none, List.append_nil, Nat.sub_self, w_idxV, w_idx_t, w_idx_l, w_idx_f, at0, at1, at2, cut1, w_call, w_tup, w_lst, Nat.reduceSub, Nat.reduceAdd, Nat.reduceLeDiff, if_true, reduceIte, Bool.not_true, Bool.not_false, Bool.false_eq_true, reduceCtorEq, w_isT, w_comp, w_datV, w_compN, w_rhoV, w_compC, w_okT, w_any, w_any_t, w_any_l, w_any_f, w_enum, w_enum_t, w_enum_l, w_zip, w_zip_t, w_zip_l, zip_nil, zip_nil2, zip_cons, w_range, tg_nm, tg_tp2, wipe_nil, wipe_cons, Nat.reduceLT]
        refine draw_w hs (by omega) (by omega) fun r1 μ1 _ _ s1 n1 => ?_
        try simp only [wp_ok, wp_okD, wp_bind, w_var, w_varV, w_c, w_bin, w_un, w_nil, w_cons, w_args, w_boolV, w_tOf, w_fAnd, w_fOr, w_fNot, w_eAnd, w_eOr, w_eIf, w_chain, w_optV, w_oNone, w_oSome, w_cut, o_cutT, o_cutL, w_pass, w_ret, w_if, w_seqV, w_seqR, w_seq, w_asgV, w_asg, w_gNm, w_gTp, w_gNl, w_gCn, w_par2V, w_par2, w_set, w_body, w_endD, w_endN, w_for, w_forN, w_loopN, w_loopR, w_forC, o_add, o_addB, o_sub, o_ord, o_lt, o_le, o_gt, o_ge, o_eqI, o_neI, o_eqB, o_not, o_neg, o_len_t, o_len_l, o_len_f, datL_nil, datL_cons, startR, List.map_cons, List.map_nil, List.length_cons, List.length_nil, List.replicate_succ, List.replicate_zero, List.cons_append, List.nil_append, List.getElem?_cons_zero, List.getElem?_cons_succ, List.set_cons_zero, List.set_cons_succ, List.take_length, Option.map_some, Option.map_none, List.append_nil, Nat.sub_self, w_idxV, w_idx_t, w_idx_l, w_idx_f, at0, at1, at2, cut1, w_call, w_tup, w_lst, Nat.reduceSub, Nat.reduceAdd, Nat.reduceLeDiff, if_true, reduceIte, Bool.not_true, Bool.not_false, Bool.false_eq_true, reduceCtorEq, w_isT, w_comp, w_datV, w_compN, w_rhoV, w_compC, w_okT, w_any, w_any_t, w_any_l, w_any_f, w_enum, w_enum_t, w_enum_l, w_zip, w_zip_t, w_zip_l, zip_nil, zip_nil2, zip_cons, w_range, tg_nm, tg_tp2, wipe_nil, wipe_cons, Nat.reduceLT]
        by_cases q1 : r1 = 0
        · try simp only [q1, decide_true, wp_ok, wp_okD, wp_bind, w_var, w_varV, w_c, w_bin, w_un, w_nil, w_cons, w_args, w_boolV, w_tOf, w_fAnd, w_fOr, w_fNot, w_eAnd, w_eOr, w_eIf, w_chain, w_optV, w_oNone, w_oSome, w_cut, o_cutT, o_cutL, w_pass, w_ret, w_if, w_seqV, w_seqR, w_seq, w_asgV, w_asg, w_gNm, w_gTp, w_gNl, w_gCn, w_par2V, w_par2, w_set, w_body, w_endD, w_endN, w_for, w_forN, w_loopN, w_loopR, w_forC, o_add, o_addB, o_sub, o_ord, o_lt, o_le, o_gt, o_ge, o_eqI, o_neI, o_eqB, o_not, o_neg, o_len_t, o_len_l, o_len_f, datL_nil, datL_cons, startR, List.map_cons, List.map_nil, List.length_cons, List.length_nil, List.replicate_succ, List.replicate_zero, List.cons_append, List.nil_append, List.getElem?_cons_zero, List.getElem?_cons_succ, List.set_cons_zero, List.set_cons_succ, List.take_length, Option.map_some, Option.map_none, List.append_nil, Nat.sub_self, w_idxV, w_idx_t, w_idx_l, w_idx_f, at0, at1, at2, cut1, w_call, w_tup, w_lst, Nat.reduceSub, Nat.reduceAdd, Nat.reduceLeDiff, if_true, reduceIte, Bool.not_true, Bool.not_false, Bool.false_eq_true, reduceCtorEq, w_isT, w_comp, w_datV, w_compN, w_rhoV, w_compC, w_okT, w_any, w_any_t, w_any_l, w_any_f, w_enum, w_enum_t, w_enum_l, w_zip, w_zip_t, w_zip_l, zip_nil, zip_nil2, zip_cons, w_range, tg_nm, tg_tp2, wipe_nil, wipe_cons, Nat.reduceLT]
          refine hodd μ1 s1 n1 _ fun v' μ' h1 s1 n1 => ?_
          try simp only [wp_ok, wp_okD, wp_bind, w_var, w_varV, w_c, w_bin, w_un, w_nil, w_cons, w_args, w_boolV, w_tOf, w_fAnd, w_fOr, w_fNot, w_eAnd, w_eOr, w_eIf, w_chain, w_optV, w_oNone, w_oSome, w_cut, o_cutT, o_cutL, w_pass, w_ret, w_if, w_seqV, w_seqR, w_seq, w_asgV, w_asg, w_gNm, w_gTp, w_gNl, w_gCn, w_par2V, w_par2, w_set, w_body, w_endD, w_endN, w_for, w_forN, w_loopN, w_loopR, w_forC, o_add, o_addB, o_sub, o_ord, o_lt, o_le, o_gt, o_ge, o_eqI, o_neI, o_eqB, o_not, o_neg, o_len_t, o_len_l, o_len_f, datL_nil, datL_cons, startR, List.map_cons, List.map_nil, List.length_cons, List.length_nil, List.replicate_succ, List.replicate_zero, List.cons_append, List.nil_append, List.getElem?_cons_zero, List.getElem?_cons_succ, List.set_cons_zero, List.set_cons_succ, List.take_length, Option.map_some, Option.map_none, List.append_nil, Nat.sub_self, w_idxV, w_idx_t, w_idx_l, w_idx_f, at0, at1, at2, cut1, w_call, w_tup, w_lst, Nat.reduceSub, Nat.reduceAdd, Nat.reduceLeDiff, if_true, reduceIte, Bool.not_true, Bool.not_false, Bool.false_eq_true, reduceCtorEq, w_isT, w_comp, w_datV, w_compN, w_rhoV, w_compC, w_okT, w_any, w_any_t, w_any_l, w_any_f, w_enum, w_enum_t, w_enum_l, w_zip, w_zip_t, w_zip_l, zip_nil, zip_nil2, zip_cons, w_range, tg_nm, tg_tp2, wipe_nil, wipe_cons, Nat.reduceLT, take_len n1]
          exact k v' μ' h1 s1 n1
        · try simp only [q1, decide_false, wp_ok, wp_okD, wp_bind, w_var, w_varV, w_c, w_bin, w_un, w_nil, w_cons, w_args, w_boolV, w_tOf, w_fAnd, w_fOr, w_fNot, w_eAnd, w_eOr, w_eIf, w_chain, w_optV, w_oNone, w_oSome, w_cut, o_cutT, o_cutL, w_pass, w_ret, w_if, w_seqV, w_seqR, w_seq, w_asgV, w_asg, w_gNm, w_gTp, w_gNl, w_gCn, w_par2V, w_par2, w_set, w_body, w_endD, w_endN, w_for, w_forN, w_loopN, w_loopR, w_forC, o_add, o_addB, o_sub, o_ord, o_lt, o_le, o_gt, o_ge, o_eqI, o_neI, o_eqB, o_not, o_neg, o_len_t, o_len_l, o_len_f, datL_nil, datL_cons, startR, List.map_cons, List.map_nil, List.length_cons, List.length_nil, List.replicate_succ, List.replicate_zero, List.cons_append, List.nil_append, List.getElem?_cons_zero, List.getElem?_cons_succ, List.set_cons_zero, List.set_cons_succ, List.take_length, Option.map_some, Option.map_none, List.append_nil, Nat.sub_self, w_idxV, w_idx_t, w_idx_l, w_idx_f, at0, at1, at2, cut1, w_call, w_tup, w_lst, Nat.reduceSub, Nat.reduceAdd, Nat.reduceLeDiff, if_true, reduceIte, Bool.not_true, Bool.not_false, Bool.false_eq_true, reduceCtorEq, w_isT, w_comp, w_datV, w_compN, w_rhoV, w_compC, w_okT, w_any, w_any_t, w_any_l, w_any_f, w_enum, w_enum_t, w_enum_l, w_zip, w_zip_t, w_zip_l, zip_nil, zip_nil2, zip_cons, w_range, tg_nm, tg_tp2, wipe_nil, wipe_cons, Nat.reduceLT]
          refine draw_w s1 (by omega) (by omega) fun a μ2 a0 a1 s2 n2 => ?_
          try simp only [wp_ok, wp_okD, wp_bind, w_var, w_varV, w_c, w_bin, w_un, w_nil, w_cons, w_args, w_boolV, w_tOf, w_fAnd, w_fOr, w_fNot, w_eAnd, w_eOr, w_eIf, w_chain, w_optV, w_oNone, w_oSome, w_cut, o_cutT, o_cutL, w_pass, w_ret, w_if, w_seqV, w_seqR, w_seq, w_asgV, w_asg, w_gNm, w_gTp, w_gNl, w_gCn, w_par2V, w_par2, w_set, w_body, w_endD, w_endN, w_for, w_forN, w_loopN, w_loopR, w_forC, o_add, o_addB, o_sub, o_ord, o_lt, o_le, o_gt, o_ge, o_eqI, o_neI, o_eqB, o_not, o_neg, o_len_t, o_len_l, o_len_f, datL_nil, datL_cons, startR, List.map_cons, List.map_nil, List.length_cons, List.length_nil, List.replicate_succ, List.replicate_zero, List.cons_append, List.nil_append, List.getElem?_cons_zero, List.getElem?_cons_succ, List.set_cons_zero, List.set_cons_succ, List.take_length, Option.map_some, Option.map_none, List.append_nil, Nat.sub_self, w_idxV, w_idx_t, w_idx_l, w_idx_f, at0, at1, at2, cut1, w_call, w_tup, w_lst, Nat.reduceSub, Nat.reduceAdd, Nat.reduceLeDiff, if_true, reduceIte, Bool.not_true, Bool.not_false, Bool.false_eq_true, reduceCtorEq, w_isT, w_comp, w_datV, w_compN, w_rhoV, w_compC, w_okT, w_any, w_any_t, w_any_l, w_any_f, w_enum, w_enum_t, w_enum_l, w_zip, w_zip_t, w_zip_l, zip_nil, zip_nil2, zip_cons, w_range, tg_nm, tg_tp2, wipe_nil, wipe_cons, Nat.reduceLT]
          refine draw_w s2 (by omega) (by omega) fun mode μ3 _ _ s3 n3 => ?_
          have n3' : μ3.length = μ.length := by omega
          obtain ⟨e, he, hem⟩ := at_in (ds := ds) a0 a1
          have c1' : cutL ds none (some a) = ds.take a.toNat := cut_to a0
          have c2' : cutL ds (some (a + 1)) none = ds.drop (a + 1).toNat := cut_from (by omega)
          have c3' : cutL ds none (some (a + 1)) = ds.take (a + 1).toNat := cut_to (by omega)
          have c4' : cutL ds (some a) none = ds.drop a.toNat := cut_from a0
          have cat : ∀ (xs ys : List PyData) (μ : Mem), xs.length + ys.length ≤ 16777216 → gAdd (.dat (.tuple xs)) (.dat (.tuple ys)) μ = okD (.tuple (xs ++ ys)) μ := fun xs ys μ h => o_addT h
          have ia : (a + 1).toNat = a.toNat + 1 := by omega
          have ln : a.toNat < ds.length := by omega
          have mk : ∀ xs : List PyData, xs.length ≤ m + 1 → (∀ d ∈ xs, wf (m + 1) (j + 1) d) → wf (m + 1) (j + 1 + 1) (.tuple xs) := fun xs h1 h2 => by
            try simp only [wf]
            exact ⟨h1, h2⟩
          have up : ∀ d ∈ ds, wf (m + 1) (j + 1) d := fun d hd => (hwd d hd).mono (by omega) (by omega)
          have mid : ∀ x : PyData, wf (m + 1) (j + 1) x → wf (m + 1) (j + 1 + 1) (.tuple ((ds.take a.toNat ++ [x]) ++ ds.drop (a.toNat + 1))) := fun x hx => mk _ (by simp [List.length_take, List.length_drop]; omega) fun d hd => by
            rcases List.mem_append.mp hd with q | q
            · rcases List.mem_append.mp q with q | q
              · exact up d (List.mem_of_mem_take q)
              · rw [List.mem_singleton.mp q]; exact hx
            · exact up d (List.mem_of_mem_drop q)
          try simp only [wp_ok, wp_okD, wp_bind, w_var, w_varV, w_c, w_bin, w_un, w_nil, w_cons, w_args, w_boolV, w_tOf, w_fAnd, w_fOr, w_fNot, w_eAnd, w_eOr, w_eIf, w_chain, w_optV, w_oNone, w_oSome, w_cut, o_cutT, o_cutL, w_pass, w_ret, w_if, w_seqV, w_seqR, w_seq, w_asgV, w_asg, w_gNm, w_gTp, w_gNl, w_gCn, w_par2V, w_par2, w_set, w_body, w_endD, w_endN, w_for, w_forN, w_loopN, w_loopR, w_forC, o_add, o_addB, o_sub, o_ord, o_lt, o_le, o_gt, o_ge, o_eqI, o_neI, o_eqB, o_not, o_neg, o_len_t, o_len_l, o_len_f, datL_nil, datL_cons, startR, List.map_cons, List.map_nil, List.length_cons, List.length_nil, List.replicate_succ, List.replicate_zero, List.cons_append, List.nil_append, List.getElem?_cons_zero, List.getElem?_cons_succ, List.set_cons_zero, List.set_cons_succ, List.take_length, Option.map_some, Option.map_none, List.append_nil, Nat.sub_self, w_idxV, w_idx_t, w_idx_l, w_idx_f, at0, at1, at2, cut1, w_call, w_tup, w_lst, Nat.reduceSub, Nat.reduceAdd, Nat.reduceLeDiff, if_true, reduceIte, Bool.not_true, Bool.not_false, Bool.false_eq_true, reduceCtorEq, w_isT, w_comp, w_datV, w_compN, w_rhoV, w_compC, w_okT, w_any, w_any_t, w_any_l, w_any_f, w_enum, w_enum_t, w_enum_l, w_zip, w_zip_t, w_zip_l, zip_nil, zip_nil2, zip_cons, w_range, tg_nm, tg_tp2, wipe_nil, wipe_cons, Nat.reduceLT]
          by_cases m0 : mode = 0
          · try simp only [m0, decide_true, wp_ok, wp_okD, wp_bind, w_var, w_varV, w_c, w_bin, w_un, w_nil, w_cons, w_args, w_boolV, w_tOf, w_fAnd, w_fOr, w_fNot, w_eAnd, w_eOr, w_eIf, w_chain, w_optV, w_oNone, w_oSome, w_cut, o_cutT, o_cutL, w_pass, w_ret, w_if, w_seqV, w_seqR, w_seq, w_asgV, w_asg, w_gNm, w_gTp, w_gNl, w_gCn, w_par2V, w_par2, w_set, w_body, w_endD, w_endN, w_for, w_forN, w_loopN, w_loopR, w_forC, o_add, o_addB, o_sub, o_ord, o_lt, o_le, o_gt, o_ge, o_eqI, o_neI, o_eqB, o_not, o_neg, o_len_t, o_len_l, o_len_f, datL_nil, datL_cons, startR, List.map_cons, List.map_nil, List.length_cons, List.length_nil, List.replicate_succ, List.replicate_zero, List.cons_append, List.nil_append, List.getElem?_cons_zero, List.getElem?_cons_succ, List.set_cons_zero, List.set_cons_succ, List.take_length, Option.map_some, Option.map_none, List.append_nil, Nat.sub_self, w_idxV, w_idx_t, w_idx_l, w_idx_f, at0, at1, at2, cut1, w_call, w_tup, w_lst, Nat.reduceSub, Nat.reduceAdd, Nat.reduceLeDiff, if_true, reduceIte, Bool.not_true, Bool.not_false, Bool.false_eq_true, reduceCtorEq, w_isT, w_comp, w_datV, w_compN, w_rhoV, w_compC, w_okT, w_any, w_any_t, w_any_l, w_any_f, w_enum, w_enum_t, w_enum_l, w_zip, w_zip_t, w_zip_l, zip_nil, zip_nil2, zip_cons, w_range, tg_nm, tg_tp2, wipe_nil, wipe_cons, Nat.reduceLT, c1', c2', cat (ds.take a.toNat) (ds.drop (a + 1).toNat) μ3 (by simp [List.length_take, List.length_drop]; omega), take_len n3']
            exact k _ μ3 (mk _ (by simp [List.length_take, List.length_drop]; omega) fun d hd => by
              rcases List.mem_append.mp hd with q | q
              · exact up d (List.mem_of_mem_take q)
              · exact up d (List.mem_of_mem_drop q)) s3 n3'
          try simp only [m0, decide_false, wp_ok, wp_okD, wp_bind, w_var, w_varV, w_c, w_bin, w_un, w_nil, w_cons, w_args, w_boolV, w_tOf, w_fAnd, w_fOr, w_fNot, w_eAnd, w_eOr, w_eIf, w_chain, w_optV, w_oNone, w_oSome, w_cut, o_cutT, o_cutL, w_pass, w_ret, w_if, w_seqV, w_seqR, w_seq, w_asgV, w_asg, w_gNm, w_gTp, w_gNl, w_gCn, w_par2V, w_par2, w_set, w_body, w_endD, w_endN, w_for, w_forN, w_loopN, w_loopR, w_forC, o_add, o_addB, o_sub, o_ord, o_lt, o_le, o_gt, o_ge, o_eqI, o_neI, o_eqB, o_not, o_neg, o_len_t, o_len_l, o_len_f, datL_nil, datL_cons, startR, List.map_cons, List.map_nil, List.length_cons, List.length_nil, List.replicate_succ, List.replicate_zero, List.cons_append, List.nil_append, List.getElem?_cons_zero, List.getElem?_cons_succ, List.set_cons_zero, List.set_cons_succ, List.take_length, Option.map_some, Option.map_none, List.append_nil, Nat.sub_self, w_idxV, w_idx_t, w_idx_l, w_idx_f, at0, at1, at2, cut1, w_call, w_tup, w_lst, Nat.reduceSub, Nat.reduceAdd, Nat.reduceLeDiff, if_true, reduceIte, Bool.not_true, Bool.not_false, Bool.false_eq_true, reduceCtorEq, w_isT, w_comp, w_datV, w_compN, w_rhoV, w_compC, w_okT, w_any, w_any_t, w_any_l, w_any_f, w_enum, w_enum_t, w_enum_l, w_zip, w_zip_t, w_zip_l, zip_nil, zip_nil2, zip_cons, w_range, tg_nm, tg_tp2, wipe_nil, wipe_cons, Nat.reduceLT]
          by_cases m1 : mode = 1
          · try simp only [m1, decide_true, wp_ok, wp_okD, wp_bind, w_var, w_varV, w_c, w_bin, w_un, w_nil, w_cons, w_args, w_boolV, w_tOf, w_fAnd, w_fOr, w_fNot, w_eAnd, w_eOr, w_eIf, w_chain, w_optV, w_oNone, w_oSome, w_cut, o_cutT, o_cutL, w_pass, w_ret, w_if, w_seqV, w_seqR, w_seq, w_asgV, w_asg, w_gNm, w_gTp, w_gNl, w_gCn, w_par2V, w_par2, w_set, w_body, w_endD, w_endN, w_for, w_forN, w_loopN, w_loopR, w_forC, o_add, o_addB, o_sub, o_ord, o_lt, o_le, o_gt, o_ge, o_eqI, o_neI, o_eqB, o_not, o_neg, o_len_t, o_len_l, o_len_f, datL_nil, datL_cons, startR, List.map_cons, List.map_nil, List.length_cons, List.length_nil, List.replicate_succ, List.replicate_zero, List.cons_append, List.nil_append, List.getElem?_cons_zero, List.getElem?_cons_succ, List.set_cons_zero, List.set_cons_succ, List.take_length, Option.map_some, Option.map_none, List.append_nil, Nat.sub_self, w_idxV, w_idx_t, w_idx_l, w_idx_f, at0, at1, at2, cut1, w_call, w_tup, w_lst, Nat.reduceSub, Nat.reduceAdd, Nat.reduceLeDiff, if_true, reduceIte, Bool.not_true, Bool.not_false, Bool.false_eq_true, reduceCtorEq, w_isT, w_comp, w_datV, w_compN, w_rhoV, w_compC, w_okT, w_any, w_any_t, w_any_l, w_any_f, w_enum, w_enum_t, w_enum_l, w_zip, w_zip_t, w_zip_l, zip_nil, zip_nil2, zip_cons, w_range, tg_nm, tg_tp2, wipe_nil, wipe_cons, Nat.reduceLT, c3', c4', cat (ds.take (a + 1).toNat) (ds.drop a.toNat) μ3 (by simp [List.length_take, List.length_drop]; omega), take_len n3']
            exact k _ μ3 (mk _ (by simp [List.length_take, List.length_drop]; omega) fun d hd => by
              rcases List.mem_append.mp hd with q | q
              · exact up d (List.mem_of_mem_take q)
              · exact up d (List.mem_of_mem_drop q)) s3 n3'
          try simp only [m1, decide_false, wp_ok, wp_okD, wp_bind, w_var, w_varV, w_c, w_bin, w_un, w_nil, w_cons, w_args, w_boolV, w_tOf, w_fAnd, w_fOr, w_fNot, w_eAnd, w_eOr, w_eIf, w_chain, w_optV, w_oNone, w_oSome, w_cut, o_cutT, o_cutL, w_pass, w_ret, w_if, w_seqV, w_seqR, w_seq, w_asgV, w_asg, w_gNm, w_gTp, w_gNl, w_gCn, w_par2V, w_par2, w_set, w_body, w_endD, w_endN, w_for, w_forN, w_loopN, w_loopR, w_forC, o_add, o_addB, o_sub, o_ord, o_lt, o_le, o_gt, o_ge, o_eqI, o_neI, o_eqB, o_not, o_neg, o_len_t, o_len_l, o_len_f, datL_nil, datL_cons, startR, List.map_cons, List.map_nil, List.length_cons, List.length_nil, List.replicate_succ, List.replicate_zero, List.cons_append, List.nil_append, List.getElem?_cons_zero, List.getElem?_cons_succ, List.set_cons_zero, List.set_cons_succ, List.take_length, Option.map_some, Option.map_none, List.append_nil, Nat.sub_self, w_idxV, w_idx_t, w_idx_l, w_idx_f, at0, at1, at2, cut1, w_call, w_tup, w_lst, Nat.reduceSub, Nat.reduceAdd, Nat.reduceLeDiff, if_true, reduceIte, Bool.not_true, Bool.not_false, Bool.false_eq_true, reduceCtorEq, w_isT, w_comp, w_datV, w_compN, w_rhoV, w_compC, w_okT, w_any, w_any_t, w_any_l, w_any_f, w_enum, w_enum_t, w_enum_l, w_zip, w_zip_t, w_zip_l, zip_nil, zip_nil2, zip_cons, w_range, tg_nm, tg_tp2, wipe_nil, wipe_cons, Nat.reduceLT]
          by_cases m2 : mode = 2
          · try simp only [m2, decide_true, wp_ok, wp_okD, wp_bind, w_var, w_varV, w_c, w_bin, w_un, w_nil, w_cons, w_args, w_boolV, w_tOf, w_fAnd, w_fOr, w_fNot, w_eAnd, w_eOr, w_eIf, w_chain, w_optV, w_oNone, w_oSome, w_cut, o_cutT, o_cutL, w_pass, w_ret, w_if, w_seqV, w_seqR, w_seq, w_asgV, w_asg, w_gNm, w_gTp, w_gNl, w_gCn, w_par2V, w_par2, w_set, w_body, w_endD, w_endN, w_for, w_forN, w_loopN, w_loopR, w_forC, o_add, o_addB, o_sub, o_ord, o_lt, o_le, o_gt, o_ge, o_eqI, o_neI, o_eqB, o_not, o_neg, o_len_t, o_len_l, o_len_f, datL_nil, datL_cons, startR, List.map_cons, List.map_nil, List.length_cons, List.length_nil, List.replicate_succ, List.replicate_zero, List.cons_append, List.nil_append, List.getElem?_cons_zero, List.getElem?_cons_succ, List.set_cons_zero, List.set_cons_succ, List.take_length, Option.map_some, Option.map_none, List.append_nil, Nat.sub_self, w_idxV, w_idx_t, w_idx_l, w_idx_f, at0, at1, at2, cut1, w_call, w_tup, w_lst, Nat.reduceSub, Nat.reduceAdd, Nat.reduceLeDiff, if_true, reduceIte, Bool.not_true, Bool.not_false, Bool.false_eq_true, reduceCtorEq, w_isT, w_comp, w_datV, w_compN, w_rhoV, w_compC, w_okT, w_any, w_any_t, w_any_l, w_any_f, w_enum, w_enum_t, w_enum_l, w_zip, w_zip_t, w_zip_l, zip_nil, zip_nil2, zip_cons, w_range, tg_nm, tg_tp2, wipe_nil, wipe_cons, Nat.reduceLT, c1', c4']
            refine odd_w s3 fun x μ4 hx s4 n4 => ?_
            have n4' : μ4.length = μ.length := by omega
            try simp only [wp_ok, wp_okD, wp_bind, w_var, w_varV, w_c, w_bin, w_un, w_nil, w_cons, w_args, w_boolV, w_tOf, w_fAnd, w_fOr, w_fNot, w_eAnd, w_eOr, w_eIf, w_chain, w_optV, w_oNone, w_oSome, w_cut, o_cutT, o_cutL, w_pass, w_ret, w_if, w_seqV, w_seqR, w_seq, w_asgV, w_asg, w_gNm, w_gTp, w_gNl, w_gCn, w_par2V, w_par2, w_set, w_body, w_endD, w_endN, w_for, w_forN, w_loopN, w_loopR, w_forC, o_add, o_addB, o_sub, o_ord, o_lt, o_le, o_gt, o_ge, o_eqI, o_neI, o_eqB, o_not, o_neg, o_len_t, o_len_l, o_len_f, datL_nil, datL_cons, startR, List.map_cons, List.map_nil, List.length_cons, List.length_nil, List.replicate_succ, List.replicate_zero, List.cons_append, List.nil_append, List.getElem?_cons_zero, List.getElem?_cons_succ, List.set_cons_zero, List.set_cons_succ, List.take_length, Option.map_some, Option.map_none, List.append_nil, Nat.sub_self, w_idxV, w_idx_t, w_idx_l, w_idx_f, at0, at1, at2, cut1, w_call, w_tup, w_lst, Nat.reduceSub, Nat.reduceAdd, Nat.reduceLeDiff, if_true, reduceIte, Bool.not_true, Bool.not_false, Bool.false_eq_true, reduceCtorEq, w_isT, w_comp, w_datV, w_compN, w_rhoV, w_compC, w_okT, w_any, w_any_t, w_any_l, w_any_f, w_enum, w_enum_t, w_enum_l, w_zip, w_zip_t, w_zip_l, zip_nil, zip_nil2, zip_cons, w_range, tg_nm, tg_tp2, wipe_nil, wipe_cons, Nat.reduceLT, cat (ds.take a.toNat) [x] μ4 (by simp [List.length_take]; omega), cat (ds.take a.toNat ++ [x]) (ds.drop a.toNat) μ4 (by simp [List.length_take, List.length_drop]; omega), take_len n4']
            refine k _ μ4 (mk _ (by simp [List.length_take, List.length_drop]; omega) fun d hd => ?_) s4 n4'
            rcases List.mem_append.mp hd with q | q
            · rcases List.mem_append.mp q with q | q
              · exact up d (List.mem_of_mem_take q)
              · rw [List.mem_singleton.mp q]; exact hx.mono (by omega) (by omega)
            · exact up d (List.mem_of_mem_drop q)
          try simp only [m2, decide_false, wp_ok, wp_okD, wp_bind, w_var, w_varV, w_c, w_bin, w_un, w_nil, w_cons, w_args, w_boolV, w_tOf, w_fAnd, w_fOr, w_fNot, w_eAnd, w_eOr, w_eIf, w_chain, w_optV, w_oNone, w_oSome, w_cut, o_cutT, o_cutL, w_pass, w_ret, w_if, w_seqV, w_seqR, w_seq, w_asgV, w_asg, w_gNm, w_gTp, w_gNl, w_gCn, w_par2V, w_par2, w_set, w_body, w_endD, w_endN, w_for, w_forN, w_loopN, w_loopR, w_forC, o_add, o_addB, o_sub, o_ord, o_lt, o_le, o_gt, o_ge, o_eqI, o_neI, o_eqB, o_not, o_neg, o_len_t, o_len_l, o_len_f, datL_nil, datL_cons, startR, List.map_cons, List.map_nil, List.length_cons, List.length_nil, List.replicate_succ, List.replicate_zero, List.cons_append, List.nil_append, List.getElem?_cons_zero, List.getElem?_cons_succ, List.set_cons_zero, List.set_cons_succ, List.take_length, Option.map_some, Option.map_none, List.append_nil, Nat.sub_self, w_idxV, w_idx_t, w_idx_l, w_idx_f, at0, at1, at2, cut1, w_call, w_tup, w_lst, Nat.reduceSub, Nat.reduceAdd, Nat.reduceLeDiff, if_true, reduceIte, Bool.not_true, Bool.not_false, Bool.false_eq_true, reduceCtorEq, w_isT, w_comp, w_datV, w_compN, w_rhoV, w_compC, w_okT, w_any, w_any_t, w_any_l, w_any_f, w_enum, w_enum_t, w_enum_l, w_zip, w_zip_t, w_zip_l, zip_nil, zip_nil2, zip_cons, w_range, tg_nm, tg_tp2, wipe_nil, wipe_cons, Nat.reduceLT]
          by_cases m3 : mode = 3
          · try simp only [m3, decide_true, wp_ok, wp_okD, wp_bind, w_var, w_varV, w_c, w_bin, w_un, w_nil, w_cons, w_args, w_boolV, w_tOf, w_fAnd, w_fOr, w_fNot, w_eAnd, w_eOr, w_eIf, w_chain, w_optV, w_oNone, w_oSome, w_cut, o_cutT, o_cutL, w_pass, w_ret, w_if, w_seqV, w_seqR, w_seq, w_asgV, w_asg, w_gNm, w_gTp, w_gNl, w_gCn, w_par2V, w_par2, w_set, w_body, w_endD, w_endN, w_for, w_forN, w_loopN, w_loopR, w_forC, o_add, o_addB, o_sub, o_ord, o_lt, o_le, o_gt, o_ge, o_eqI, o_neI, o_eqB, o_not, o_neg, o_len_t, o_len_l, o_len_f, datL_nil, datL_cons, startR, List.map_cons, List.map_nil, List.length_cons, List.length_nil, List.replicate_succ, List.replicate_zero, List.cons_append, List.nil_append, List.getElem?_cons_zero, List.getElem?_cons_succ, List.set_cons_zero, List.set_cons_succ, List.take_length, Option.map_some, Option.map_none, List.append_nil, Nat.sub_self, w_idxV, w_idx_t, w_idx_l, w_idx_f, at0, at1, at2, cut1, w_call, w_tup, w_lst, Nat.reduceSub, Nat.reduceAdd, Nat.reduceLeDiff, if_true, reduceIte, Bool.not_true, Bool.not_false, Bool.false_eq_true, reduceCtorEq, w_isT, w_comp, w_datV, w_compN, w_rhoV, w_compC, w_okT, w_any, w_any_t, w_any_l, w_any_f, w_enum, w_enum_t, w_enum_l, w_zip, w_zip_t, w_zip_l, zip_nil, zip_nil2, zip_cons, w_range, tg_nm, tg_tp2, wipe_nil, wipe_cons, Nat.reduceLT, o_list, take_len n3']
            refine k _ μ3 ?_ s3 n3'
            try simp only [wf]
            exact ⟨by omega, up⟩
          try simp only [m3, decide_false, wp_ok, wp_okD, wp_bind, w_var, w_varV, w_c, w_bin, w_un, w_nil, w_cons, w_args, w_boolV, w_tOf, w_fAnd, w_fOr, w_fNot, w_eAnd, w_eOr, w_eIf, w_chain, w_optV, w_oNone, w_oSome, w_cut, o_cutT, o_cutL, w_pass, w_ret, w_if, w_seqV, w_seqR, w_seq, w_asgV, w_asg, w_gNm, w_gTp, w_gNl, w_gCn, w_par2V, w_par2, w_set, w_body, w_endD, w_endN, w_for, w_forN, w_loopN, w_loopR, w_forC, o_add, o_addB, o_sub, o_ord, o_lt, o_le, o_gt, o_ge, o_eqI, o_neI, o_eqB, o_not, o_neg, o_len_t, o_len_l, o_len_f, datL_nil, datL_cons, startR, List.map_cons, List.map_nil, List.length_cons, List.length_nil, List.replicate_succ, List.replicate_zero, List.cons_append, List.nil_append, List.getElem?_cons_zero, List.getElem?_cons_succ, List.set_cons_zero, List.set_cons_succ, List.take_length, Option.map_some, Option.map_none, List.append_nil, Nat.sub_self, w_idxV, w_idx_t, w_idx_l, w_idx_f, at0, at1, at2, cut1, w_call, w_tup, w_lst, Nat.reduceSub, Nat.reduceAdd, Nat.reduceLeDiff, if_true, reduceIte, Bool.not_true, Bool.not_false, Bool.false_eq_true, reduceCtorEq, w_isT, w_comp, w_datV, w_compN, w_rhoV, w_compC, w_okT, w_any, w_any_t, w_any_l, w_any_f, w_enum, w_enum_t, w_enum_l, w_zip, w_zip_t, w_zip_l, zip_nil, zip_nil2, zip_cons, w_range, tg_nm, tg_tp2, wipe_nil, wipe_cons, Nat.reduceLT, he, w_isT (hwd e hem).nod]
          have last : ∀ (x : PyData) (μ4 : Mem), wf (m + 1) (j + 1) x → Src c μ4 → μ4.length = μ.length → Q (.dat (.tuple ((ds.take a.toNat ++ [x]) ++ ds.drop (a.toNat + 1)))) μ4 := fun x μ4 hx s4 n4 => k _ μ4 (mid x hx) s4 n4
          have spo : wp (F_l_spoilt d [.cel c, .dat e] μ3) fun v μ4 => ∃ x, v = .dat x ∧ wf (m + 1) (j + 1) x ∧ Src c μ4 ∧ μ4.length = μ.length :=
            spoilt_w d j m e μ3 _ (by omega) (by omega) hm hm2 (hwd e hem) s3 fun x μ4 hx s4 n4 => ⟨x, rfl, hx, s4, by omega⟩
          have spo2 : ∀ QQ : Val → Mem → Prop, (∀ (x : PyData) (μ4 : Mem), wf (m + 1) (j + 1) x → Src c μ4 → μ4.length = μ.length → QQ (.dat x) μ4) → wp (F_l_spoilt d [.cel c, .dat e] μ3) QQ := fun QQ kk => wp_mono spo fun v μ4 ⟨x, e1, h1, h2, h3⟩ => by rw [e1]; exact kk x μ4 h1 h2 h3
          have fin : ∀ (x : PyData) (μ4 : Mem), wf (m + 1) (j + 1) x → Src c μ4 → μ4.length = μ.length → ∀ QQ : Val → Mem → Prop, QQ (.dat (.tuple ((ds.take a.toNat ++ [x]) ++ ds.drop (a.toNat + 1)))) μ4 → wp (gAdd (.dat (.tuple (ds.take a.toNat ++ [x]))) (.dat (.tuple (ds.drop (a + 1).toNat))) μ4) QQ := fun x μ4 hx s4 n4 QQ hQ => by
            rw [cat _ _ μ4 (by simp [List.length_take, List.length_drop]; omega), ia]
            exact hQ
          have c5' : ∀ (x : PyData) (μ4 : Mem), gAdd (.dat (.tuple (ds.take a.toNat))) (.dat (.tuple [x])) μ4 = okD (.tuple (ds.take a.toNat ++ [x])) μ4 := fun x μ4 => cat _ _ μ4 (by simp [List.length_take]; omega)
          cases qi : isT e "int" with
          | false =>
            try simp only [wp_ok, wp_okD, wp_bind, w_var, w_varV, w_c, w_bin, w_un, w_nil, w_cons, w_args, w_boolV, w_tOf, w_fAnd, w_fOr, w_fNot, w_eAnd, w_eOr, w_eIf, w_chain, w_optV, w_oNone, w_oSome, w_cut, o_cutT, o_cutL, w_pass, w_ret, w_if, w_seqV, w_seqR, w_seq, w_asgV, w_asg, w_gNm, w_gTp, w_gNl, w_gCn, w_par2V, w_par2, w_set, w_body, w_endD, w_endN, w_for, w_forN, w_loopN, w_loopR, w_forC, o_add, o_addB, o_sub, o_ord, o_lt, o_le, o_gt, o_ge, o_eqI, o_neI, o_eqB, o_not, o_neg, o_len_t, o_len_l, o_len_f, datL_nil, datL_cons, startR, List.map_cons, List.map_nil, List.length_cons, List.length_nil, List.replicate_succ, List.replicate_zero, List.cons_append, List.nil_append, List.getElem?_cons_zero, List.getElem?_cons_succ, List.set_cons_zero, List.set_cons_succ, List.take_length, Option.map_some, Option.map_none, List.append_nil, Nat.sub_self, w_idxV, w_idx_t, w_idx_l, w_idx_f, at0, at1, at2, cut1, w_call, w_tup, w_lst, Nat.reduceSub, Nat.reduceAdd, Nat.reduceLeDiff, if_true, reduceIte, Bool.not_true, Bool.not_false, Bool.false_eq_true, reduceCtorEq, w_isT, w_comp, w_datV, w_compN, w_rhoV, w_compC, w_okT, w_any, w_any_t, w_any_l, w_any_f, w_enum, w_enum_t, w_enum_l, w_zip, w_zip_t, w_zip_l, zip_nil, zip_nil2, zip_cons, w_range, tg_nm, tg_tp2, wipe_nil, wipe_cons, Nat.reduceLT, c1', c2', he]
            refine spo2 _ fun x μ4 hx s4 n4 => ?_
            try simp only [wp_ok, wp_okD, wp_bind, w_var, w_varV, w_c, w_bin, w_un, w_nil, w_cons, w_args, w_boolV, w_tOf, w_fAnd, w_fOr, w_fNot, w_eAnd, w_eOr, w_eIf, w_chain, w_optV, w_oNone, w_oSome, w_cut, o_cutT, o_cutL, w_pass, w_ret, w_if, w_seqV, w_seqR, w_seq, w_asgV, w_asg, w_gNm, w_gTp, w_gNl, w_gCn, w_par2V, w_par2, w_set, w_body, w_endD, w_endN, w_for, w_forN, w_loopN, w_loopR, w_forC, o_add, o_addB, o_sub, o_ord, o_lt, o_le, o_gt, o_ge, o_eqI, o_neI, o_eqB, o_not, o_neg, o_len_t, o_len_l, o_len_f, datL_nil, datL_cons, startR, List.map_cons, List.map_nil, List.length_cons, List.length_nil, List.replicate_succ, List.replicate_zero, List.cons_append, List.nil_append, List.getElem?_cons_zero, List.getElem?_cons_succ, List.set_cons_zero, List.set_cons_succ, List.take_length, Option.map_some, Option.map_none, List.append_nil, Nat.sub_self, w_idxV, w_idx_t, w_idx_l, w_idx_f, at0, at1, at2, cut1, w_call, w_tup, w_lst, Nat.reduceSub, Nat.reduceAdd, Nat.reduceLeDiff, if_true, reduceIte, Bool.not_true, Bool.not_false, Bool.false_eq_true, reduceCtorEq, w_isT, w_comp, w_datV, w_compN, w_rhoV, w_compC, w_okT, w_any, w_any_t, w_any_l, w_any_f, w_enum, w_enum_t, w_enum_l, w_zip, w_zip_t, w_zip_l, zip_nil, zip_nil2, zip_cons, w_range, tg_nm, tg_tp2, wipe_nil, wipe_cons, Nat.reduceLT, c5']
            refine fin x μ4 hx s4 n4 _ ?_
            try simp only [wp_ok, wp_okD, wp_bind, w_var, w_varV, w_c, w_bin, w_un, w_nil, w_cons, w_args, w_boolV, w_tOf, w_fAnd, w_fOr, w_fNot, w_eAnd, w_eOr, w_eIf, w_chain, w_optV, w_oNone, w_oSome, w_cut, o_cutT, o_cutL, w_pass, w_ret, w_if, w_seqV, w_seqR, w_seq, w_asgV, w_asg, w_gNm, w_gTp, w_gNl, w_gCn, w_par2V, w_par2, w_set, w_body, w_endD, w_endN, w_for, w_forN, w_loopN, w_loopR, w_forC, o_add, o_addB, o_sub, o_ord, o_lt, o_le, o_gt, o_ge, o_eqI, o_neI, o_eqB, o_not, o_neg, o_len_t, o_len_l, o_len_f, datL_nil, datL_cons, startR, List.map_cons, List.map_nil, List.length_cons, List.length_nil, List.replicate_succ, List.replicate_zero, List.cons_append, List.nil_append, List.getElem?_cons_zero, List.getElem?_cons_succ, List.set_cons_zero, List.set_cons_succ, List.take_length, Option.map_some, Option.map_none, List.append_nil, Nat.sub_self, w_idxV, w_idx_t, w_idx_l, w_idx_f, at0, at1, at2, cut1, w_call, w_tup, w_lst, Nat.reduceSub, Nat.reduceAdd, Nat.reduceLeDiff, if_true, reduceIte, Bool.not_true, Bool.not_false, Bool.false_eq_true, reduceCtorEq, w_isT, w_comp, w_datV, w_compN, w_rhoV, w_compC, w_okT, w_any, w_any_t, w_any_l, w_any_f, w_enum, w_enum_t, w_enum_l, w_zip, w_zip_t, w_zip_l, zip_nil, zip_nil2, zip_cons, w_range, tg_nm, tg_tp2, wipe_nil, wipe_cons, Nat.reduceLT, take_len n4]
            exact last x μ4 hx s4 n4
          | true =>
            by_cases m4 : mode < 6
            · try simp only [wp_ok, wp_okD, wp_bind, w_var, w_varV, w_c, w_bin, w_un, w_nil, w_cons, w_args, w_boolV, w_tOf, w_fAnd, w_fOr, w_fNot, w_eAnd, w_eOr, w_eIf, w_chain, w_optV, w_oNone, w_oSome, w_cut, o_cutT, o_cutL, w_pass, w_ret, w_if, w_seqV, w_seqR, w_seq, w_asgV, w_asg, w_gNm, w_gTp, w_gNl, w_gCn, w_par2V, w_par2, w_set, w_body, w_endD, w_endN, w_for, w_forN, w_loopN, w_loopR, w_forC, o_add, o_addB, o_sub, o_ord, o_lt, o_le, o_gt, o_ge, o_eqI, o_neI, o_eqB, o_not, o_neg, o_len_t, o_len_l, o_len_f, datL_nil, datL_cons, startR, List.map_cons, List.map_nil, List.length_cons, List.length_nil, List.replicate_succ, List.replicate_zero, List.cons_append, List.nil_append, List.getElem?_cons_zero, List.getElem?_cons_succ, List.set_cons_zero, List.set_cons_succ, List.take_length, Option.map_some, Option.map_none, List.append_nil, Nat.sub_self, w_idxV, w_idx_t, w_idx_l, w_idx_f, at0, at1, at2, cut1, w_call, w_tup, w_lst, Nat.reduceSub, Nat.reduceAdd, Nat.reduceLeDiff, if_true, reduceIte, Bool.not_true, Bool.not_false, Bool.false_eq_true, reduceCtorEq, w_isT, w_comp, w_datV, w_compN, w_rhoV, w_compC, w_okT, w_any, w_any_t, w_any_l, w_any_f, w_enum, w_enum_t, w_enum_l, w_zip, w_zip_t, w_zip_l, zip_nil, zip_nil2, zip_cons, w_range, tg_nm, tg_tp2, wipe_nil, wipe_cons, Nat.reduceLT, m4, decide_true, c1', c2', he]
              refine draw_w s3 (by omega) (by omega) fun r μ4 _ _ s4 n4 => ?_
              have n4' : μ4.length = μ.length := by omega
              obtain ⟨i, hi⟩ : ∃ i : Int, gAdd (.dat e) (.dat (.int r)) μ4 = okD (.int i) μ4 := by
                cases e with
                | int i => exact ⟨i + r, rfl⟩
                | bool b => exact ⟨_, rfl⟩
                | _ => simp [isT] at qi
              try simp only [wp_ok, wp_okD, wp_bind, w_var, w_varV, w_c, w_bin, w_un, w_nil, w_cons, w_args, w_boolV, w_tOf, w_fAnd, w_fOr, w_fNot, w_eAnd, w_eOr, w_eIf, w_chain, w_optV, w_oNone, w_oSome, w_cut, o_cutT, o_cutL, w_pass, w_ret, w_if, w_seqV, w_seqR, w_seq, w_asgV, w_asg, w_gNm, w_gTp, w_gNl, w_gCn, w_par2V, w_par2, w_set, w_body, w_endD, w_endN, w_for, w_forN, w_loopN, w_loopR, w_forC, o_add, o_addB, o_sub, o_ord, o_lt, o_le, o_gt, o_ge, o_eqI, o_neI, o_eqB, o_not, o_neg, o_len_t, o_len_l, o_len_f, datL_nil, datL_cons, startR, List.map_cons, List.map_nil, List.length_cons, List.length_nil, List.replicate_succ, List.replicate_zero, List.cons_append, List.nil_append, List.getElem?_cons_zero, List.getElem?_cons_succ, List.set_cons_zero, List.set_cons_succ, List.take_length, Option.map_some, Option.map_none, List.append_nil, Nat.sub_self, w_idxV, w_idx_t, w_idx_l, w_idx_f, at0, at1, at2, cut1, w_call, w_tup, w_lst, Nat.reduceSub, Nat.reduceAdd, Nat.reduceLeDiff, if_true, reduceIte, Bool.not_true, Bool.not_false, Bool.false_eq_true, reduceCtorEq, w_isT, w_comp, w_datV, w_compN, w_rhoV, w_compC, w_okT, w_any, w_any_t, w_any_l, w_any_f, w_enum, w_enum_t, w_enum_l, w_zip, w_zip_t, w_zip_l, zip_nil, zip_nil2, zip_cons, w_range, tg_nm, tg_tp2, wipe_nil, wipe_cons, Nat.reduceLT, hi, c5']
              refine fin (.int (i - 1)) μ4 wf_int s4 n4' _ ?_
              try simp only [wp_ok, wp_okD, wp_bind, w_var, w_varV, w_c, w_bin, w_un, w_nil, w_cons, w_args, w_boolV, w_tOf, w_fAnd, w_fOr, w_fNot, w_eAnd, w_eOr, w_eIf, w_chain, w_optV, w_oNone, w_oSome, w_cut, o_cutT, o_cutL, w_pass, w_ret, w_if, w_seqV, w_seqR, w_seq, w_asgV, w_asg, w_gNm, w_gTp, w_gNl, w_gCn, w_par2V, w_par2, w_set, w_body, w_endD, w_endN, w_for, w_forN, w_loopN, w_loopR, w_forC, o_add, o_addB, o_sub, o_ord, o_lt, o_le, o_gt, o_ge, o_eqI, o_neI, o_eqB, o_not, o_neg, o_len_t, o_len_l, o_len_f, datL_nil, datL_cons, startR, List.map_cons, List.map_nil, List.length_cons, List.length_nil, List.replicate_succ, List.replicate_zero, List.cons_append, List.nil_append, List.getElem?_cons_zero, List.getElem?_cons_succ, List.set_cons_zero, List.set_cons_succ, List.take_length, Option.map_some, Option.map_none, List.append_nil, Nat.sub_self, w_idxV, w_idx_t, w_idx_l, w_idx_f, at0, at1, at2, cut1, w_call, w_tup, w_lst, Nat.reduceSub, Nat.reduceAdd, Nat.reduceLeDiff, if_true, reduceIte, Bool.not_true, Bool.not_false, Bool.false_eq_true, reduceCtorEq, w_isT, w_comp, w_datV, w_compN, w_rhoV, w_compC, w_okT, w_any, w_any_t, w_any_l, w_any_f, w_enum, w_enum_t, w_enum_l, w_zip, w_zip_t, w_zip_l, zip_nil, zip_nil2, zip_cons, w_range, tg_nm, tg_tp2, wipe_nil, wipe_cons, Nat.reduceLT, take_len n4']
              exact last _ μ4 wf_int s4 n4'
            · try simp only [wp_ok, wp_okD, wp_bind, w_var, w_varV, w_c, w_bin, w_un, w_nil, w_cons, w_args, w_boolV, w_tOf, w_fAnd, w_fOr, w_fNot, w_eAnd, w_eOr, w_eIf, w_chain, w_optV, w_oNone, w_oSome, w_cut, o_cutT, o_cutL, w_pass, w_ret, w_if, w_seqV, w_seqR, w_seq, w_asgV, w_asg, w_gNm, w_gTp, w_gNl, w_gCn, w_par2V, w_par2, w_set, w_body, w_endD, w_endN, w_for, w_forN, w_loopN, w_loopR, w_forC, o_add, o_addB, o_sub, o_ord, o_lt, o_le, o_gt, o_ge, o_eqI, o_neI, o_eqB, o_not, o_neg, o_len_t, o_len_l, o_len_f, datL_nil, datL_cons, startR, List.map_cons, List.map_nil, List.length_cons, List.length_nil, List.replicate_succ, List.replicate_zero, List.cons_append, List.nil_append, List.getElem?_cons_zero, List.getElem?_cons_succ, List.set_cons_zero, List.set_cons_succ, List.take_length, Option.map_some, Option.map_none, List.append_nil, Nat.sub_self, w_idxV, w_idx_t, w_idx_l, w_idx_f, at0, at1, at2, cut1, w_call, w_tup, w_lst, Nat.reduceSub, Nat.reduceAdd, Nat.reduceLeDiff, if_true, reduceIte, Bool.not_true, Bool.not_false, Bool.false_eq_true, reduceCtorEq, w_isT, w_comp, w_datV, w_compN, w_rhoV, w_compC, w_okT, w_any, w_any_t, w_any_l, w_any_f, w_enum, w_enum_t, w_enum_l, w_zip, w_zip_t, w_zip_l, zip_nil, zip_nil2, zip_cons, w_range, tg_nm, tg_tp2, wipe_nil, wipe_cons, Nat.reduceLT, m4, decide_false, c1', c2', he]
              refine spo2 _ fun x μ4 hx s4 n4 => ?_
              try simp only [wp_ok, wp_okD, wp_bind, w_var, w_varV, w_c, w_bin, w_un, w_nil, w_cons, w_args, w_boolV, w_tOf, w_fAnd, w_fOr, w_fNot, w_eAnd, w_eOr, w_eIf, w_chain, w_optV, w_oNone, w_oSome, w_cut, o_cutT, o_cutL, w_pass, w_ret, w_if, w_seqV, w_seqR, w_seq, w_asgV, w_asg, w_gNm, w_gTp, w_gNl, w_gCn, w_par2V, w_par2, w_set, w_body, w_endD, w_endN, w_for, w_forN, w_loopN, w_loopR, w_forC, o_add, o_addB, o_sub, o_ord, o_lt, o_le, o_gt, o_ge, o_eqI, o_neI, o_eqB, o_not, o_neg, o_len_t, o_len_l, o_len_f, datL_nil, datL_cons, startR, List.map_cons, List.map_nil, List.length_cons, List.length_nil, List.replicate_succ, List.replicate_zero, List.cons_append, List.nil_append, List.getElem?_cons_zero, List.getElem?_cons_succ, List.set_cons_zero, List.set_cons_succ, List.take_length, Option.map_some, Option.map_none, List.append_nil, Nat.sub_self, w_idxV, w_idx_t, w_idx_l, w_idx_f, at0, at1, at2, cut1, w_call, w_tup, w_lst, Nat.reduceSub, Nat.reduceAdd, Nat.reduceLeDiff, if_true, reduceIte, Bool.not_true, Bool.not_false, Bool.false_eq_true, reduceCtorEq, w_isT, w_comp, w_datV, w_compN, w_rhoV, w_compC, w_okT, w_any, w_any_t, w_any_l, w_any_f, w_enum, w_enum_t, w_enum_l, w_zip, w_zip_t, w_zip_l, zip_nil, zip_nil2, zip_cons, w_range, tg_nm, tg_tp2, wipe_nil, wipe_cons, Nat.reduceLT, c5']
              refine fin x μ4 hx s4 n4 _ ?_
              try simp only [wp_ok, wp_okD, wp_bind, w_var, w_varV, w_c, w_bin, w_un, w_nil, w_cons, w_args, w_boolV, w_tOf, w_fAnd, w_fOr, w_fNot, w_eAnd, w_eOr, w_eIf, w_chain, w_optV, w_oNone, w_oSome, w_cut, o_cutT, o_cutL, w_pass, w_ret, w_if, w_seqV, w_seqR, w_seq, w_asgV, w_asg, w_gNm, w_gTp, w_gNl, w_gCn, w_par2V, w_par2, w_set, w_body, w_endD, w_endN, w_for, w_forN, w_loopN, w_loopR, w_forC, o_add, o_addB, o_sub, o_ord, o_lt, o_le, o_gt, o_ge, o_eqI, o_neI, o_eqB, o_not, o_neg, o_len_t, o_len_l, o_len_f, datL_nil, datL_cons, startR, List.map_cons, List.map_nil, List.length_cons, List.length_nil, List.replicate_succ, List.replicate_zero, List.cons_append, List.nil_append, List.getElem?_cons_zero, List.getElem?_cons_succ, List.set_cons_zero, List.set_cons_succ, List.take_length, Option.map_some, Option.map_none, List.append_nil, Nat.sub_self, w_idxV, w_idx_t, w_idx_l, w_idx_f, at0, at1, at2, cut1, w_call, w_tup, w_lst, Nat.reduceSub, Nat.reduceAdd, Nat.reduceLeDiff, if_true, reduceIte, Bool.not_true, Bool.not_false, Bool.false_eq_true, reduceCtorEq, w_isT, w_comp, w_datV, w_compN, w_rhoV, w_compC, w_okT, w_any, w_any_t, w_any_l, w_any_f, w_enum, w_enum_t, w_enum_l, w_zip, w_zip_t, w_zip_l, zip_nil, zip_nil2, zip_cons, w_range, tg_nm, tg_tp2, wipe_nil, wipe_cons, Nat.reduceLT, take_len n4]
              exact last x μ4 hx s4 n4
    | _ =>
      try simp only [wp_ok, wp_okD, wp_bind, w_var, w_varV, w_c, w_bin, w_un, w_nil, w_cons, w_args, w_boolV, w_tOf, w_fAnd, w_fOr, w_fNot, w_eAnd, w_eOr, w_eIf, w_chain, w_optV, w_oNone, w_oSome, w_cut, o_cutT, o_cutL, w_pass, w_ret, w_if, w_seqV, w_seqR, w_seq, w_asgV, w_asg, w_gNm, w_gTp, w_gNl, w_gCn, w_par2V, w_par2, w_set, w_body, w_endD, w_endN, w_for, w_forN, w_loopN, w_loopR, w_forC, o_add, o_addB, o_sub, o_ord, o_lt, o_le, o_gt, o_ge, o_eqI, o_neI, o_eqB, o_not, o_neg, o_len_t, o_len_l, o_len_f, datL_nil, datL_cons, startR, List.map_cons, List.map_nil, List.length_cons, List.length_nil, List.replicate_succ, List.replicate_zero, List.cons_append, List.nil_append, List.getElem?_cons_zero, List.getElem?_cons_succ, List.set_cons_zero, List.set_cons_succ, List.take_length, Option.map_some, Option.map_none, List.append_nil, Nat.sub_self, w_idxV, w_idx_t, w_idx_l, w_idx_f, at0, at1, at2, cut1, w_call, w_tup, w_lst, Nat.reduceSub, Nat.reduceAdd, Nat.reduceLeDiff, if_true, reduceIte, Bool.not_true, Bool.not_false, Bool.false_eq_true, reduceCtorEq, w_isT, w_comp, w_datV, w_compN, w_rhoV, w_compC, w_okT, w_any, w_any_t, w_any_l, w_any_f, w_enum, w_enum_t, w_enum_l, w_zip, w_zip_t, w_zip_l, zip_nil, zip_nil2, zip_cons, w_range, tg_nm, tg_tp2, wipe_nil, wipe_cons, Nat.reduceLT, isT]
      refine hodd μ hs rfl _ fun v' μ' h1 s1 n1 => ?_
      try simp only [wp_ok, wp_okD, wp_bind, w_var, w_varV, w_c, w_bin, w_un, w_nil, w_cons, w_args, w_boolV, w_tOf, w_fAnd, w_fOr, w_fNot, w_eAnd, w_eOr, w_eIf, w_chain, w_optV, w_oNone, w_oSome, w_cut, o_cutT, o_cutL, w_pass, w_ret, w_if, w_seqV, w_seqR, w_seq, w_asgV, w_asg, w_gNm, w_gTp, w_gNl, w_gCn, w_par2V, w_par2, w_set, w_body, w_endD, w_endN, w_for, w_forN, w_loopN, w_loopR, w_forC, o_add, o_addB, o_sub, o_ord, o_lt, o_le, o_gt, o_ge, o_eqI, o_neI, o_eqB, o_not, o_neg, o_len_t, o_len_l, o_len_f, datL_nil, datL_cons, startR, List.map_cons, List.map_nil, List.length_cons, List.length_nil, List.replicate_succ, List.replicate_zero, List.cons_append, List.nil_append, List.getElem?_cons_zero, List.getElem?_cons_succ, List.set_cons_zero, List.set_cons_succ, List.take_length, Option.map_some, Option.map_none, List.append_nil, Nat.sub_self, w_idxV, w_idx_t, w_idx_l, w_idx_f, at0, at1, at2, cut1, w_call, w_tup, w_lst, Nat.reduceSub, Nat.reduceAdd, Nat.reduceLeDiff, if_true, reduceIte, Bool.not_true, Bool.not_false, Bool.false_eq_true, reduceCtorEq, w_isT, w_comp, w_datV, w_compN, w_rhoV, w_compC, w_okT, w_any, w_any_t, w_any_l, w_any_f, w_enum, w_enum_t, w_enum_l, w_zip, w_zip_t, w_zip_l, zip_nil, zip_nil2, zip_cons, w_range, tg_nm, tg_tp2, wipe_nil, wipe_cons, Nat.reduceLT, take_len n1]
      exact k v' μ' h1 s1 n1
end K01
set_option Elab.async false
set_option linter.all false
set_option maxRecDepth 100000
set_option maxHeartbeats 4000000
namespace K01
open PySem PySem.Spec PyProof.Rows L2 DN
theorem w_lstC {a b : PyData} {μ : Mem} {Q : Val → Mem → Prop} : wp (gLstC [.dat a, .dat b] μ) Q = Q (.cel μ.length) (μ ++ [.lst [a, b]]) := rfl
theorem w_endC {a b : PyData} {ρ : Rho} {μ : Mem} {Q : Val → Mem → Prop} : endV true μ.length (.rt (.cel μ.length), ρ) (μ ++ [.lst [a, b]]) Q = Q (.cel μ.length) (μ ++ [.lst [a, b]]) := by
  show wp (DN.finish true μ.length (.cel μ.length) (μ ++ [.lst [a, b]])) Q = _
  have e : DN.finish true μ.length (.cel μ.length) (μ ++ [.lst [a, b]]) = .ok (.cel μ.length) (μ ++ [.lst [a, b]]) := by
    have e1 : (μ ++ [Cell.lst [a, b]])[μ.length]? = some (.lst [a, b]) := by simp
    unfold DN.finish
    dsimp only
    rw [if_neg (Nat.lt_irrefl _), e1]
    simp
  rw [e]; rfl
theorem source_w {ns : List Int} {k : Nat} {μ : Mem} {Q : Val → Mem → Prop} (hk : k ≤ 1000) (h : ∀ x y : Int, 0 ≤ x → 0 ≤ y → y < 2147483647 → Q (.cel μ.length) (μ ++ [.lst [.int x, .int y]])) : wp (F_l_source [.fz (ns.map PyData.int), .dat (.int (k : Int))] μ) Q := by
  have o1 : ∀ μ : Mem, gPow (.dat (.int 10)) (.dat (.int 18)) μ = okD (.int 1000000000000000000) μ := fun μ => rfl
  have o2 : ∀ (i : Int) (μ : Mem), gMod (.dat (.int i)) (.dat (.int 2147483646)) μ = okD (.int (i % 2147483646)) μ := fun i μ => o_mod (by omega)
  have bnd : ∀ i : Int, 0 ≤ 1 + i % 2147483646 ∧ 1 + i % 2147483646 < 2147483647 := fun i => by
    have h1 := Int.emod_nonneg i (show (2147483646 : Int) ≠ 0 by omega)
    have h2 := Int.emod_lt_of_pos i (show (0 : Int) < 2147483646 by omega)
    omega
  unfold F_l_source b_l_source
  refine Eq.mpr (w_body (Q := Q)) ?_
  refine w_seqI (fun ρ1 μ1 => ρ1 = [some (.fz (ns.map PyData.int)), some (.dat (.int (k : Int))), some (.dat (.int 0))] ∧ μ1 = μ) ?_ ?_
  · try simp only [wp_ok, wp_okD, wp_bind, w_var, w_varV, w_c, w_bin, w_un, w_nil, w_cons, w_args, w_boolV, w_tOf, w_fAnd, w_fOr, w_fNot, w_eAnd, w_eOr, w_eIf, w_chain, w_optV, w_oNone, w_oSome, w_cut, o_cutT, o_cutL, w_pass, w_ret, w_if, w_seqV, w_seqR, w_seq, w_asgV, w_asg, w_gNm, w_gTp, w_gNl, w_gCn, w_par2V, w_par2, w_set, w_body, w_endD, w_endN, w_for, w_forN, w_loopN, w_loopR, w_forC, o_add, o_addB, o_sub, o_ord, o_lt, o_le, o_gt, o_ge, o_eqI, o_neI, o_eqB, o_not, o_neg, o_len_t, o_len_l, o_len_f, datL_nil, datL_cons, startR, List.map_cons, List.map_nil, List.length_cons, List.length_nil, List.replicate_succ, List.replicate_zero, List.cons_append, List.nil_append, List.getElem?_cons_zero, List.getElem?_cons_succ, List.set_cons_zero, List.set_cons_succ, List.take_length, Option.map_some, Option.map_none, List.append_nil, Nat.sub_self, w_idxV, w_idx_t, w_idx_l, w_idx_f, at0, at1, at2, cut1, w_call, w_tup, w_lst, Nat.reduceSub, Nat.reduceAdd, Nat.reduceLeDiff, if_true, reduceIte, Bool.not_true, Bool.not_false, Bool.false_eq_true, reduceCtorEq, w_isT, w_comp, w_datV, w_compN, w_rhoV, w_compC, w_okT, w_any, w_any_t, w_any_l, w_any_f, w_enum, w_enum_t, w_enum_l, w_zip, w_zip_t, w_zip_l, zip_nil, zip_nil2, zip_cons, w_range, tg_nm, tg_tp2, wipe_nil, wipe_cons, Nat.reduceLT]
    exact ⟨by first | rfl | trivial, by first | rfl | trivial⟩
  rintro ρ1 μ1 ⟨rfl, rfl⟩
  refine w_seqI (fun ρ1 μ2 => ∃ x : Int, 0 ≤ x ∧ ρ1 = [some (.fz (ns.map PyData.int)), some (.dat (.int (k : Int))), some (.dat (.int x))] ∧ μ2 = μ1) ?_ ?_
  · simp only [wp_ok, wp_okD, wp_bind, w_var, w_varV, w_c, w_bin, w_un, w_nil, w_cons, w_args, w_boolV, w_tOf, w_fAnd, w_fOr, w_fNot, w_eAnd, w_eOr, w_eIf, w_chain, w_optV, w_oNone, w_oSome, w_cut, o_cutT, o_cutL, w_pass, w_ret, w_if, w_seqV, w_seqR, w_seq, w_asgV, w_asg, w_gNm, w_gTp, w_gNl, w_gCn, w_par2V, w_par2, w_set, w_body, w_endD, w_endN, w_for, w_forN, w_loopN, w_loopR, w_forC, o_add, o_addB, o_sub, o_ord, o_lt, o_le, o_gt, o_ge, o_eqI, o_neI, o_eqB, o_not, o_neg, o_len_t, o_len_l, o_len_f, datL_nil, datL_cons, startR, List.map_cons, List.map_nil, List.length_cons, List.length_nil, List.replicate_succ, List.replicate_zero, List.cons_append, List.nil_append, List.getElem?_cons_zero, List.getElem?_cons_succ, List.set_cons_zero, List.set_cons_succ, List.take_length, Option.map_some, Option.map_none, List.append_nil, Nat.sub_self, w_idxV, w_idx_t, w_idx_l, w_idx_f, at0, at1, at2, cut1, w_call, w_tup, w_lst, Nat.reduceSub, Nat.reduceAdd, Nat.reduceLeDiff, if_true, reduceIte, Bool.not_true, Bool.not_false, Bool.false_eq_true, reduceCtorEq, w_isT, w_comp, w_datV, w_compN, w_rhoV, w_compC, w_okT, w_any, w_any_t, w_any_l, w_any_f, w_enum, w_enum_t, w_enum_l, w_zip, w_zip_t, w_zip_l, zip_nil, zip_nil2, zip_cons, w_range, tg_nm, tg_tp2, wipe_nil, wipe_cons, Nat.reduceLT, List.length_map]
    by_cases q : (k : Int) < ns.length
    · have hk : k < ns.length := by omega
      have e : L2.atI (ns.map PyData.int) (k : Int) = some (.int ns[k]) := by
        rw [DN.atI_nat, List.getElem?_map, List.getElem?_eq_getElem hk]; rfl
      simp only [q, decide_true, wp_ok, wp_okD, wp_bind, w_var, w_varV, w_c, w_bin, w_un, w_nil, w_cons, w_args, w_boolV, w_tOf, w_fAnd, w_fOr, w_fNot, w_eAnd, w_eOr, w_eIf, w_chain, w_optV, w_oNone, w_oSome, w_cut, o_cutT, o_cutL, w_pass, w_ret, w_if, w_seqV, w_seqR, w_seq, w_asgV, w_asg, w_gNm, w_gTp, w_gNl, w_gCn, w_par2V, w_par2, w_set, w_body, w_endD, w_endN, w_for, w_forN, w_loopN, w_loopR, w_forC, o_add, o_addB, o_sub, o_ord, o_lt, o_le, o_gt, o_ge, o_eqI, o_neI, o_eqB, o_not, o_neg, o_len_t, o_len_l, o_len_f, datL_nil, datL_cons, startR, List.map_cons, List.map_nil, List.length_cons, List.length_nil, List.replicate_succ, List.replicate_zero, List.cons_append, List.nil_append, List.getElem?_cons_zero, List.getElem?_cons_succ, List.set_cons_zero, List.set_cons_succ, List.take_length, Option.map_some, Option.map_none, List.append_nil, Nat.sub_self, w_idxV, w_idx_t, w_idx_l, w_idx_f, at0, at1, at2, cut1, w_call, w_tup, w_lst, Nat.reduceSub, Nat.reduceAdd, Nat.reduceLeDiff, if_true, reduceIte, Bool.not_true, Bool.not_false, Bool.false_eq_true, reduceCtorEq, w_isT, w_comp, w_datV, w_compN, w_rhoV, w_compC, w_okT, w_any, w_any_t, w_any_l, w_any_f, w_enum, w_enum_t, w_enum_l, w_zip, w_zip_t, w_zip_l, zip_nil, zip_nil2, zip_cons, w_range, tg_nm, tg_tp2, wipe_nil, wipe_cons, Nat.reduceLT, e, o_int, o_absI]
      exact ⟨if ns[k] < 0 then -ns[k] else ns[k], by split <;> omega, by first | rfl | trivial, by first | rfl | trivial⟩
    · simp only [q, decide_false, wp_ok, wp_okD, wp_bind, w_var, w_varV, w_c, w_bin, w_un, w_nil, w_cons, w_args, w_boolV, w_tOf, w_fAnd, w_fOr, w_fNot, w_eAnd, w_eOr, w_eIf, w_chain, w_optV, w_oNone, w_oSome, w_cut, o_cutT, o_cutL, w_pass, w_ret, w_if, w_seqV, w_seqR, w_seq, w_asgV, w_asg, w_gNm, w_gTp, w_gNl, w_gCn, w_par2V, w_par2, w_set, w_body, w_endD, w_endN, w_for, w_forN, w_loopN, w_loopR, w_forC, o_add, o_addB, o_sub, o_ord, o_lt, o_le, o_gt, o_ge, o_eqI, o_neI, o_eqB, o_not, o_neg, o_len_t, o_len_l, o_len_f, datL_nil, datL_cons, startR, List.map_cons, List.map_nil, List.length_cons, List.length_nil, List.replicate_succ, List.replicate_zero, List.cons_append, List.nil_append, List.getElem?_cons_zero, List.getElem?_cons_succ, List.set_cons_zero, List.set_cons_succ, List.take_length, Option.map_some, Option.map_none, List.append_nil, Nat.sub_self, w_idxV, w_idx_t, w_idx_l, w_idx_f, at0, at1, at2, cut1, w_call, w_tup, w_lst, Nat.reduceSub, Nat.reduceAdd, Nat.reduceLeDiff, if_true, reduceIte, Bool.not_true, Bool.not_false, Bool.false_eq_true, reduceCtorEq, w_isT, w_comp, w_datV, w_compN, w_rhoV, w_compC, w_okT, w_any, w_any_t, w_any_l, w_any_f, w_enum, w_enum_t, w_enum_l, w_zip, w_zip_t, w_zip_l, zip_nil, zip_nil2, zip_cons, w_range, tg_nm, tg_tp2, wipe_nil, wipe_cons, Nat.reduceLT]
      exact ⟨0, by omega, by first | rfl | trivial, by first | rfl | trivial⟩
  rintro ρ1 μ2 ⟨x, hx, rfl, rfl⟩
  simp only [wp_ok, wp_okD, wp_bind, w_var, w_varV, w_c, w_bin, w_un, w_nil, w_cons, w_args, w_boolV, w_tOf, w_fAnd, w_fOr, w_fNot, w_eAnd, w_eOr, w_eIf, w_chain, w_optV, w_oNone, w_oSome, w_cut, o_cutT, o_cutL, w_pass, w_ret, w_if, w_seqV, w_seqR, w_seq, w_asgV, w_asg, w_gNm, w_gTp, w_gNl, w_gCn, w_par2V, w_par2, w_set, w_body, w_endD, w_endN, w_for, w_forN, w_loopN, w_loopR, w_forC, o_add, o_addB, o_sub, o_ord, o_lt, o_le, o_gt, o_ge, o_eqI, o_neI, o_eqB, o_not, o_neg, o_len_t, o_len_l, o_len_f, datL_nil, datL_cons, startR, List.map_cons, List.map_nil, List.length_cons, List.length_nil, List.replicate_succ, List.replicate_zero, List.cons_append, List.nil_append, List.getElem?_cons_zero, List.getElem?_cons_succ, List.set_cons_zero, List.set_cons_succ, List.take_length, Option.map_some, Option.map_none, List.append_nil, Nat.sub_self, w_idxV, w_idx_t, w_idx_l, w_idx_f, at0, at1, at2, cut1, w_call, w_tup, w_lst, Nat.reduceSub, Nat.reduceAdd, Nat.reduceLeDiff, if_true, reduceIte, Bool.not_true, Bool.not_false, Bool.false_eq_true, reduceCtorEq, w_isT, w_comp, w_datV, w_compN, w_rhoV, w_compC, w_okT, w_any, w_any_t, w_any_l, w_any_f, w_enum, w_enum_t, w_enum_l, w_zip, w_zip_t, w_zip_l, zip_nil, zip_nil2, zip_cons, w_range, tg_nm, tg_tp2, wipe_nil, wipe_cons, Nat.reduceLT, o1]
  by_cases q : x < 1000000000000000000
  · have l1 := log_le (i := x) hx (by omega)
    have l2 := log_le (i := (k : Int)) (by omega) (by omega)
    have l3 : (7919 : Int).natAbs.log2 < 64 := by decide
    have l4 : (104729 : Int).natAbs.log2 < 64 := by decide
    have o3 : ∀ μ : Mem, gMul (.dat (.int x)) (.dat (.int 7919)) μ = okD (.int (x * 7919)) μ := fun μ => o_mul (by omega)
    have o4 : ∀ μ : Mem, gMul (.dat (.int 104729)) (.dat (.int (k : Int))) μ = okD (.int (104729 * (k : Int))) μ := fun μ => o_mul (by omega)
    simp only [q, decide_true, wp_ok, wp_okD, wp_bind, w_var, w_varV, w_c, w_bin, w_un, w_nil, w_cons, w_args, w_boolV, w_tOf, w_fAnd, w_fOr, w_fNot, w_eAnd, w_eOr, w_eIf, w_chain, w_optV, w_oNone, w_oSome, w_cut, o_cutT, o_cutL, w_pass, w_ret, w_if, w_seqV, w_seqR, w_seq, w_asgV, w_asg, w_gNm, w_gTp, w_gNl, w_gCn, w_par2V, w_par2, w_set, w_body, w_endD, w_endN, w_for, w_forN, w_loopN, w_loopR, w_forC, o_add, o_addB, o_sub, o_ord, o_lt, o_le, o_gt, o_ge, o_eqI, o_neI, o_eqB, o_not, o_neg, o_len_t, o_len_l, o_len_f, datL_nil, datL_cons, startR, List.map_cons, List.map_nil, List.length_cons, List.length_nil, List.replicate_succ, List.replicate_zero, List.cons_append, List.nil_append, List.getElem?_cons_zero, List.getElem?_cons_succ, List.set_cons_zero, List.set_cons_succ, List.take_length, Option.map_some, Option.map_none, List.append_nil, Nat.sub_self, w_idxV, w_idx_t, w_idx_l, w_idx_f, at0, at1, at2, cut1, w_call, w_tup, w_lst, Nat.reduceSub, Nat.reduceAdd, Nat.reduceLeDiff, if_true, reduceIte, Bool.not_true, Bool.not_false, Bool.false_eq_true, reduceCtorEq, w_isT, w_comp, w_datV, w_compN, w_rhoV, w_compC, w_okT, w_any, w_any_t, w_any_l, w_any_f, w_enum, w_enum_t, w_enum_l, w_zip, w_zip_t, w_zip_l, zip_nil, zip_nil2, zip_cons, w_range, tg_nm, tg_tp2, wipe_nil, wipe_cons, Nat.reduceLT, o3, o4, o_int, o2, w_lstC, w_endC]
    exact h _ _ (by omega) (bnd _).1 (bnd _).2
  · simp only [q, decide_false, wp_ok, wp_okD, wp_bind, w_var, w_varV, w_c, w_bin, w_un, w_nil, w_cons, w_args, w_boolV, w_tOf, w_fAnd, w_fOr, w_fNot, w_eAnd, w_eOr, w_eIf, w_chain, w_optV, w_oNone, w_oSome, w_cut, o_cutT, o_cutL, w_pass, w_ret, w_if, w_seqV, w_seqR, w_seq, w_asgV, w_asg, w_gNm, w_gTp, w_gNl, w_gCn, w_par2V, w_par2, w_set, w_body, w_endD, w_endN, w_for, w_forN, w_loopN, w_loopR, w_forC, o_add, o_addB, o_sub, o_ord, o_lt, o_le, o_gt, o_ge, o_eqI, o_neI, o_eqB, o_not, o_neg, o_len_t, o_len_l, o_len_f, datL_nil, datL_cons, startR, List.map_cons, List.map_nil, List.length_cons, List.length_nil, List.replicate_succ, List.replicate_zero, List.cons_append, List.nil_append, List.getElem?_cons_zero, List.getElem?_cons_succ, List.set_cons_zero, List.set_cons_succ, List.take_length, Option.map_some, Option.map_none, List.append_nil, Nat.sub_self, w_idxV, w_idx_t, w_idx_l, w_idx_f, at0, at1, at2, cut1, w_call, w_tup, w_lst, Nat.reduceSub, Nat.reduceAdd, Nat.reduceLeDiff, if_true, reduceIte, Bool.not_true, Bool.not_false, Bool.false_eq_true, reduceCtorEq, w_isT, w_comp, w_datV, w_compN, w_rhoV, w_compC, w_okT, w_any, w_any_t, w_any_l, w_any_f, w_enum, w_enum_t, w_enum_l, w_zip, w_zip_t, w_zip_l, zip_nil, zip_nil2, zip_cons, w_range, tg_nm, tg_tp2, wipe_nil, wipe_cons, Nat.reduceLT, o_int, o2, w_lstC, w_endC]
    exact h _ _ hx (bnd _).1 (bnd _).2
theorem isp_w {m n : Nat} {v : PyData} {μ : Mem} {Q : Val → Mem → Prop} (hn : n ≤ 40) (hm : m ≤ 1000) (h : wf m n v) : wp (F_is_pattern [.dat v] μ) Q = Q (.dat (.bool (pat v))) μ := by
  unfold F_is_pattern b_is_pattern
  simp only [wp_ok, wp_okD, wp_bind, w_var, w_varV, w_c, w_bin, w_un, w_nil, w_cons, w_args, w_boolV, w_tOf, w_fAnd, w_fOr, w_fNot, w_eAnd, w_eOr, w_eIf, w_chain, w_optV, w_oNone, w_oSome, w_cut, o_cutT, o_cutL, w_pass, w_ret, w_if, w_seqV, w_seqR, w_seq, w_asgV, w_asg, w_gNm, w_gTp, w_gNl, w_gCn, w_par2V, w_par2, w_set, w_body, w_endD, w_endN, w_for, w_forN, w_loopN, w_loopR, w_forC, o_add, o_addB, o_sub, o_ord, o_lt, o_le, o_gt, o_ge, o_eqI, o_neI, o_eqB, o_not, o_neg, o_len_t, o_len_l, o_len_f, datL_nil, datL_cons, startR, List.map_cons, List.map_nil, List.length_cons, List.length_nil, List.replicate_succ, List.replicate_zero, List.cons_append, List.nil_append, List.getElem?_cons_zero, List.getElem?_cons_succ, List.set_cons_zero, List.set_cons_succ, List.take_length, Option.map_some, Option.map_none, List.append_nil, Nat.sub_self, w_idxV, w_idx_t, w_idx_l, w_idx_f, at0, at1, at2, cut1, w_call, w_tup, w_lst, Nat.reduceSub, Nat.reduceAdd, Nat.reduceLeDiff, if_true, reduceIte, Bool.not_true, Bool.not_false, Bool.false_eq_true, reduceCtorEq, w_isT, w_comp, w_datV, w_compN, w_rhoV, w_compC, w_okT, w_any, w_any_t, w_any_l, w_any_f, w_enum, w_enum_t, w_enum_l, w_zip, w_zip_t, w_zip_l, zip_nil, zip_nil2, zip_cons, w_range, tg_nm, tg_tp2, wipe_nil, wipe_cons, Nat.reduceLT, good_pat_w hn hm h]
theorem iss_w {m n : Nat} {v : PyData} {μ : Mem} {Q : Val → Mem → Prop} (hn : n ≤ 40) (hm : m ≤ 1000) (h : wf m n v) : wp (F_is_script [.dat v] μ) Q = Q (.dat (.bool (scr v))) μ := by
  unfold F_is_script b_is_script
  simp only [wp_ok, wp_okD, wp_bind, w_var, w_varV, w_c, w_bin, w_un, w_nil, w_cons, w_args, w_boolV, w_tOf, w_fAnd, w_fOr, w_fNot, w_eAnd, w_eOr, w_eIf, w_chain, w_optV, w_oNone, w_oSome, w_cut, o_cutT, o_cutL, w_pass, w_ret, w_if, w_seqV, w_seqR, w_seq, w_asgV, w_asg, w_gNm, w_gTp, w_gNl, w_gCn, w_par2V, w_par2, w_set, w_body, w_endD, w_endN, w_for, w_forN, w_loopN, w_loopR, w_forC, o_add, o_addB, o_sub, o_ord, o_lt, o_le, o_gt, o_ge, o_eqI, o_neI, o_eqB, o_not, o_neg, o_len_t, o_len_l, o_len_f, datL_nil, datL_cons, startR, List.map_cons, List.map_nil, List.length_cons, List.length_nil, List.replicate_succ, List.replicate_zero, List.cons_append, List.nil_append, List.getElem?_cons_zero, List.getElem?_cons_succ, List.set_cons_zero, List.set_cons_succ, List.take_length, Option.map_some, Option.map_none, List.append_nil, Nat.sub_self, w_idxV, w_idx_t, w_idx_l, w_idx_f, at0, at1, at2, cut1, w_call, w_tup, w_lst, Nat.reduceSub, Nat.reduceAdd, Nat.reduceLeDiff, if_true, reduceIte, Bool.not_true, Bool.not_false, Bool.false_eq_true, reduceCtorEq, w_isT, w_comp, w_datV, w_compN, w_rhoV, w_compC, w_okT, w_any, w_any_t, w_any_l, w_any_f, w_enum, w_enum_t, w_enum_l, w_zip, w_zip_t, w_zip_l, zip_nil, zip_nil2, zip_cons, w_range, tg_nm, tg_tp2, wipe_nil, wipe_cons, Nat.reduceLT, good_scr_w hn hm h]
theorem turn_loop {c : Nat} {o0 o1 o3 o6 o7 : Option Val} {QS : Flo × Rho → Mem → Prop} : ∀ (ts : List PyData) (m n : Nat) (v : PyData) (o5 : Option Val) (μ : Mem), Src c μ → wf m n v → n + ts.length ≤ 14 → 6 ≤ m → m + ts.length ≤ 900 →
    (∀ (v' : PyData) (o5 : Option Val) (μ' : Mem), Src c μ' → QS (.nx, [o0, o1, some (.cel c), o3, some (.dat v'), o5, o6, o7]) μ') →
    wp (forD (gNm 5) lb_law_0 ts [o0, o1, some (.cel c), o3, some (.dat v), o5, o6, o7] μ) QS
  | [], m, n, v, o5, μ, hs, hw, _, _, _, k => k v o5 μ hs
  | t :: ts, m, n, v, o5, μ, hs, hw, hn, hm, hm2, k => by
    simp only [List.length_cons] at hn hm2
    try simp only [wp_ok, wp_okD, wp_bind, w_var, w_varV, w_c, w_bin, w_un, w_nil, w_cons, w_args, w_boolV, w_tOf, w_fAnd, w_fOr, w_fNot, w_eAnd, w_eOr, w_eIf, w_chain, w_optV, w_oNone, w_oSome, w_cut, o_cutT, o_cutL, w_pass, w_ret, w_if, w_seqV, w_seqR, w_seq, w_asgV, w_asg, w_gNm, w_gTp, w_gNl, w_gCn, w_par2V, w_par2, w_set, w_body, w_endD, w_endN, w_for, w_forN, w_loopN, w_loopR, w_forC, o_add, o_addB, o_sub, o_ord, o_lt, o_le, o_gt, o_ge, o_eqI, o_neI, o_eqB, o_not, o_neg, o_len_t, o_len_l, o_len_f, datL_nil, datL_cons, startR, List.map_cons, List.map_nil, List.length_cons, List.length_nil, List.replicate_succ, List.replicate_zero, List.cons_append, List.nil_append, List.getElem?_cons_zero, List.getElem?_cons_succ, List.set_cons_zero, List.set_cons_succ, List.take_length, Option.map_some, Option.map_none, List.append_nil, Nat.sub_self, w_idxV, w_idx_t, w_idx_l, w_idx_f, at0, at1, at2, cut1, w_call, w_tup, w_lst, Nat.reduceSub, Nat.reduceAdd, Nat.reduceLeDiff, if_true, reduceIte, Bool.not_true, Bool.not_false, Bool.false_eq_true, reduceCtorEq, w_isT, w_comp, w_datV, w_compN, w_rhoV, w_compC, w_okT, w_any, w_any_t, w_any_l, w_any_f, w_enum, w_enum_t, w_enum_l, w_zip, w_zip_t, w_zip_l, zip_nil, zip_nil2, zip_cons, w_range, tg_nm, tg_tp2, wipe_nil, wipe_cons, Nat.reduceLT]
    unfold lb_law_0
    simp only [wp_ok, wp_okD, wp_bind, w_var, w_varV, w_c, w_bin, w_un, w_nil, w_cons, w_args, w_boolV, w_tOf, w_fAnd, w_fOr, w_fNot, w_eAnd, w_eOr, w_eIf, w_chain, w_optV, w_oNone, w_oSome, w_cut, o_cutT, o_cutL, w_pass, w_ret, w_if, w_seqV, w_seqR, w_seq, w_asgV, w_asg, w_gNm, w_gTp, w_gNl, w_gCn, w_par2V, w_par2, w_set, w_body, w_endD, w_endN, w_for, w_forN, w_loopN, w_loopR, w_forC, o_add, o_addB, o_sub, o_ord, o_lt, o_le, o_gt, o_ge, o_eqI, o_neI, o_eqB, o_not, o_neg, o_len_t, o_len_l, o_len_f, datL_nil, datL_cons, startR, List.map_cons, List.map_nil, List.length_cons, List.length_nil, List.replicate_succ, List.replicate_zero, List.cons_append, List.nil_append, List.getElem?_cons_zero, List.getElem?_cons_succ, List.set_cons_zero, List.set_cons_succ, List.take_length, Option.map_some, Option.map_none, List.append_nil, Nat.sub_self, w_idxV, w_idx_t, w_idx_l, w_idx_f, at0, at1, at2, cut1, w_call, w_tup, w_lst, Nat.reduceSub, Nat.reduceAdd, Nat.reduceLeDiff, if_true, reduceIte, Bool.not_true, Bool.not_false, Bool.false_eq_true, reduceCtorEq, w_isT, w_comp, w_datV, w_compN, w_rhoV, w_compC, w_okT, w_any, w_any_t, w_any_l, w_any_f, w_enum, w_enum_t, w_enum_l, w_zip, w_zip_t, w_zip_l, zip_nil, zip_nil2, zip_cons, w_range, tg_nm, tg_tp2, wipe_nil, wipe_cons, Nat.reduceLT, isp_w (by omega : n ≤ 40) (by omega : m ≤ 1000) hw, iss_w (by omega : n ≤ 40) (by omega : m ≤ 1000) hw, law_pat_w (by omega : n ≤ 40) (by omega : m ≤ 1000) hw, law_scr_w (by omega : n ≤ 40) (by omega : m ≤ 1000) hw, beq_self_eq_true]
    refine spoilt_w 16 n m v μ _ (by omega) (by omega) hm (by omega) hw hs fun v' μ' hw' s' n' => ?_
    try simp only [wp_ok, wp_okD, wp_bind, w_var, w_varV, w_c, w_bin, w_un, w_nil, w_cons, w_args, w_boolV, w_tOf, w_fAnd, w_fOr, w_fNot, w_eAnd, w_eOr, w_eIf, w_chain, w_optV, w_oNone, w_oSome, w_cut, o_cutT, o_cutL, w_pass, w_ret, w_if, w_seqV, w_seqR, w_seq, w_asgV, w_asg, w_gNm, w_gTp, w_gNl, w_gCn, w_par2V, w_par2, w_set, w_body, w_endD, w_endN, w_for, w_forN, w_loopN, w_loopR, w_forC, o_add, o_addB, o_sub, o_ord, o_lt, o_le, o_gt, o_ge, o_eqI, o_neI, o_eqB, o_not, o_neg, o_len_t, o_len_l, o_len_f, datL_nil, datL_cons, startR, List.map_cons, List.map_nil, List.length_cons, List.length_nil, List.replicate_succ, List.replicate_zero, List.cons_append, List.nil_append, List.getElem?_cons_zero, List.getElem?_cons_succ, List.set_cons_zero, List.set_cons_succ, List.take_length, Option.map_some, Option.map_none, List.append_nil, Nat.sub_self, w_idxV, w_idx_t, w_idx_l, w_idx_f, at0, at1, at2, cut1, w_call, w_tup, w_lst, Nat.reduceSub, Nat.reduceAdd, Nat.reduceLeDiff, if_true, reduceIte, Bool.not_true, Bool.not_false, Bool.false_eq_true, reduceCtorEq, w_isT, w_comp, w_datV, w_compN, w_rhoV, w_compC, w_okT, w_any, w_any_t, w_any_l, w_any_f, w_enum, w_enum_t, w_enum_l, w_zip, w_zip_t, w_zip_l, zip_nil, zip_nil2, zip_cons, w_range, tg_nm, tg_tp2, wipe_nil, wipe_cons, Nat.reduceLT]
    exact turn_loop ts (m + 1) (n + 1) v' _ μ' s' hw' (by omega) (by omega) (by omega) k
theorem value_loop {c : Nat} {o0 o1 o3 o6 o7 : Option Val} {QS : Flo × Rho → Mem → Prop} : ∀ (vs : List PyData) (o4 o5 : Option Val) (μ : Mem), Src c μ → (∀ v ∈ vs, wf 6 4 v) →
    (∀ (o4 o5 : Option Val) (μ' : Mem), Src c μ' → QS (.nx, [o0, o1, some (.cel c), o3, o4, o5, o6, o7]) μ') →
    wp (forD (gNm 4) lb_law_1 vs [o0, o1, some (.cel c), o3, o4, o5, o6, o7] μ) QS
  | [], o4, o5, μ, hs, hw, k => k o4 o5 μ hs
  | v :: vs, o4, o5, μ, hs, hw, k => by
    try simp only [wp_ok, wp_okD, wp_bind, w_var, w_varV, w_c, w_bin, w_un, w_nil, w_cons, w_args, w_boolV, w_tOf, w_fAnd, w_fOr, w_fNot, w_eAnd, w_eOr, w_eIf, w_chain, w_optV, w_oNone, w_oSome, w_cut, o_cutT, o_cutL, w_pass, w_ret, w_if, w_seqV, w_seqR, w_seq, w_asgV, w_asg, w_gNm, w_gTp, w_gNl, w_gCn, w_par2V, w_par2, w_set, w_body, w_endD, w_endN, w_for, w_forN, w_loopN, w_loopR, w_forC, o_add, o_addB, o_sub, o_ord, o_lt, o_le, o_gt, o_ge, o_eqI, o_neI, o_eqB, o_not, o_neg, o_len_t, o_len_l, o_len_f, datL_nil, datL_cons, startR, List.map_cons, List.map_nil, List.length_cons, List.length_nil, List.replicate_succ, List.replicate_zero, List.cons_append, List.nil_append, List.getElem?_cons_zero, List.getElem?_cons_succ, List.set_cons_zero, List.set_cons_succ, List.take_length, Option.map_some, Option.map_none, List.append_nil, Nat.sub_self, w_idxV, w_idx_t, w_idx_l, w_idx_f, at0, at1, at2, cut1, w_call, w_tup, w_lst, Nat.reduceSub, Nat.reduceAdd, Nat.reduceLeDiff, if_true, reduceIte, Bool.not_true, Bool.not_false, Bool.false_eq_true, reduceCtorEq, w_isT, w_comp, w_datV, w_compN, w_rhoV, w_compC, w_okT, w_any, w_any_t, w_any_l, w_any_f, w_enum, w_enum_t, w_enum_l, w_zip, w_zip_t, w_zip_l, zip_nil, zip_nil2, zip_cons, w_range, tg_nm, tg_tp2, wipe_nil, wipe_cons, Nat.reduceLT]
    unfold lb_law_1
    try simp only [wp_ok, wp_okD, wp_bind, w_var, w_varV, w_c, w_bin, w_un, w_nil, w_cons, w_args, w_boolV, w_tOf, w_fAnd, w_fOr, w_fNot, w_eAnd, w_eOr, w_eIf, w_chain, w_optV, w_oNone, w_oSome, w_cut, o_cutT, o_cutL, w_pass, w_ret, w_if, w_seqV, w_seqR, w_seq, w_asgV, w_asg, w_gNm, w_gTp, w_gNl, w_gCn, w_par2V, w_par2, w_set, w_body, w_endD, w_endN, w_for, w_forN, w_loopN, w_loopR, w_forC, o_add, o_addB, o_sub, o_ord, o_lt, o_le, o_gt, o_ge, o_eqI, o_neI, o_eqB, o_not, o_neg, o_len_t, o_len_l, o_len_f, datL_nil, datL_cons, startR, List.map_cons, List.map_nil, List.length_cons, List.length_nil, List.replicate_succ, List.replicate_zero, List.cons_append, List.nil_append, List.getElem?_cons_zero, List.getElem?_cons_succ, List.set_cons_zero, List.set_cons_succ, List.take_length, Option.map_some, Option.map_none, List.append_nil, Nat.sub_self, w_idxV, w_idx_t, w_idx_l, w_idx_f, at0, at1, at2, cut1, w_call, w_tup, w_lst, Nat.reduceSub, Nat.reduceAdd, Nat.reduceLeDiff, if_true, reduceIte, Bool.not_true, Bool.not_false, Bool.false_eq_true, reduceCtorEq, w_isT, w_comp, w_datV, w_compN, w_rhoV, w_compC, w_okT, w_any, w_any_t, w_any_l, w_any_f, w_enum, w_enum_t, w_enum_l, w_zip, w_zip_t, w_zip_l, zip_nil, zip_nil2, zip_cons, w_range, tg_nm, tg_tp2, wipe_nil, wipe_cons, Nat.reduceLT]
    rw [w_range1 (by omega)]
    refine turn_loop _ 6 4 v o5 μ hs (hw v List.mem_cons_self) (by decide) (by omega) (by decide) fun v' o5 μ' s' => ?_
    try simp only [wp_ok, wp_okD, wp_bind, w_var, w_varV, w_c, w_bin, w_un, w_nil, w_cons, w_args, w_boolV, w_tOf, w_fAnd, w_fOr, w_fNot, w_eAnd, w_eOr, w_eIf, w_chain, w_optV, w_oNone, w_oSome, w_cut, o_cutT, o_cutL, w_pass, w_ret, w_if, w_seqV, w_seqR, w_seq, w_asgV, w_asg, w_gNm, w_gTp, w_gNl, w_gCn, w_par2V, w_par2, w_set, w_body, w_endD, w_endN, w_for, w_forN, w_loopN, w_loopR, w_forC, o_add, o_addB, o_sub, o_ord, o_lt, o_le, o_gt, o_ge, o_eqI, o_neI, o_eqB, o_not, o_neg, o_len_t, o_len_l, o_len_f, datL_nil, datL_cons, startR, List.map_cons, List.map_nil, List.length_cons, List.length_nil, List.replicate_succ, List.replicate_zero, List.cons_append, List.nil_append, List.getElem?_cons_zero, List.getElem?_cons_succ, List.set_cons_zero, List.set_cons_succ, List.take_length, Option.map_some, Option.map_none, List.append_nil, Nat.sub_self, w_idxV, w_idx_t, w_idx_l, w_idx_f, at0, at1, at2, cut1, w_call, w_tup, w_lst, Nat.reduceSub, Nat.reduceAdd, Nat.reduceLeDiff, if_true, reduceIte, Bool.not_true, Bool.not_false, Bool.false_eq_true, reduceCtorEq, w_isT, w_comp, w_datV, w_compN, w_rhoV, w_compC, w_okT, w_any, w_any_t, w_any_l, w_any_f, w_enum, w_enum_t, w_enum_l, w_zip, w_zip_t, w_zip_l, zip_nil, zip_nil2, zip_cons, w_range, tg_nm, tg_tp2, wipe_nil, wipe_cons, Nat.reduceLT]
    exact value_loop vs _ _ μ' s' (fun v hv => hw v (List.mem_cons_of_mem _ hv)) k
theorem wf_one : wf 6 4 one0 := by
  unfold one0
  simp [wf]
theorem draw_loop {ns : List Int} {QS : Flo × Rho → Mem → Prop} : ∀ (n : Nat) (lo : Nat) (o1 o2 o3 o4 o5 o6 o7 : Option Val) (μ : Mem), lo + n ≤ 100 →
    (∀ (o1 o2 o3 o4 o5 o6 o7 : Option Val) (μ' : Mem), QS (.nx, [some (.fz (ns.map PyData.int)), o1, o2, o3, o4, o5, o6, o7]) μ') →
    wp (forD (gNm 1) lb_law_2 (rangeD (lo : Int) n) [some (.fz (ns.map PyData.int)), o1, o2, o3, o4, o5, o6, o7] μ) QS
  | 0, lo, o1, o2, o3, o4, o5, o6, o7, μ, hl, k => k _ _ _ _ _ _ _ μ
  | n + 1, lo, o1, o2, o3, o4, o5, o6, o7, μ, hl, k => by
    unfold rangeD
    try simp only [wp_ok, wp_okD, wp_bind, w_var, w_varV, w_c, w_bin, w_un, w_nil, w_cons, w_args, w_boolV, w_tOf, w_fAnd, w_fOr, w_fNot, w_eAnd, w_eOr, w_eIf, w_chain, w_optV, w_oNone, w_oSome, w_cut, o_cutT, o_cutL, w_pass, w_ret, w_if, w_seqV, w_seqR, w_seq, w_asgV, w_asg, w_gNm, w_gTp, w_gNl, w_gCn, w_par2V, w_par2, w_set, w_body, w_endD, w_endN, w_for, w_forN, w_loopN, w_loopR, w_forC, o_add, o_addB, o_sub, o_ord, o_lt, o_le, o_gt, o_ge, o_eqI, o_neI, o_eqB, o_not, o_neg, o_len_t, o_len_l, o_len_f, datL_nil, datL_cons, startR, List.map_cons, List.map_nil, List.length_cons, List.length_nil, List.replicate_succ, List.replicate_zero, List.cons_append, List.nil_append, List.getElem?_cons_zero, List.getElem?_cons_succ, List.set_cons_zero, List.set_cons_succ, List.take_length, Option.map_some, Option.map_none, List.append_nil, Nat.sub_self, w_idxV, w_idx_t, w_idx_l, w_idx_f, at0, at1, at2, cut1, w_call, w_tup, w_lst, Nat.reduceSub, Nat.reduceAdd, Nat.reduceLeDiff, if_true, reduceIte, Bool.not_true, Bool.not_false, Bool.false_eq_true, reduceCtorEq, w_isT, w_comp, w_datV, w_compN, w_rhoV, w_compC, w_okT, w_any, w_any_t, w_any_l, w_any_f, w_enum, w_enum_t, w_enum_l, w_zip, w_zip_t, w_zip_l, zip_nil, zip_nil2, zip_cons, w_range, tg_nm, tg_tp2, wipe_nil, wipe_cons, Nat.reduceLT]
    unfold lb_law_2
    try simp only [wp_ok, wp_okD, wp_bind, w_var, w_varV, w_c, w_bin, w_un, w_nil, w_cons, w_args, w_boolV, w_tOf, w_fAnd, w_fOr, w_fNot, w_eAnd, w_eOr, w_eIf, w_chain, w_optV, w_oNone, w_oSome, w_cut, o_cutT, o_cutL, w_pass, w_ret, w_if, w_seqV, w_seqR, w_seq, w_asgV, w_asg, w_gNm, w_gTp, w_gNl, w_gCn, w_par2V, w_par2, w_set, w_body, w_endD, w_endN, w_for, w_forN, w_loopN, w_loopR, w_forC, o_add, o_addB, o_sub, o_ord, o_lt, o_le, o_gt, o_ge, o_eqI, o_neI, o_eqB, o_not, o_neg, o_len_t, o_len_l, o_len_f, datL_nil, datL_cons, startR, List.map_cons, List.map_nil, List.length_cons, List.length_nil, List.replicate_succ, List.replicate_zero, List.cons_append, List.nil_append, List.getElem?_cons_zero, List.getElem?_cons_succ, List.set_cons_zero, List.set_cons_succ, List.take_length, Option.map_some, Option.map_none, List.append_nil, Nat.sub_self, w_idxV, w_idx_t, w_idx_l, w_idx_f, at0, at1, at2, cut1, w_call, w_tup, w_lst, Nat.reduceSub, Nat.reduceAdd, Nat.reduceLeDiff, if_true, reduceIte, Bool.not_true, Bool.not_false, Bool.false_eq_true, reduceCtorEq, w_isT, w_comp, w_datV, w_compN, w_rhoV, w_compC, w_okT, w_any, w_any_t, w_any_l, w_any_f, w_enum, w_enum_t, w_enum_l, w_zip, w_zip_t, w_zip_l, zip_nil, zip_nil2, zip_cons, w_range, tg_nm, tg_tp2, wipe_nil, wipe_cons, Nat.reduceLT]
    refine source_w (by omega) fun x y hx hy hy2 => ?_
    have s0 : Src μ.length (μ ++ [.lst [.int x, .int y]]) := ⟨x, y, by simp, hx, hy, hy2⟩
    try simp only [wp_ok, wp_okD, wp_bind, w_var, w_varV, w_c, w_bin, w_un, w_nil, w_cons, w_args, w_boolV, w_tOf, w_fAnd, w_fOr, w_fNot, w_eAnd, w_eOr, w_eIf, w_chain, w_optV, w_oNone, w_oSome, w_cut, o_cutT, o_cutL, w_pass, w_ret, w_if, w_seqV, w_seqR, w_seq, w_asgV, w_asg, w_gNm, w_gTp, w_gNl, w_gCn, w_par2V, w_par2, w_set, w_body, w_endD, w_endN, w_for, w_forN, w_loopN, w_loopR, w_forC, o_add, o_addB, o_sub, o_ord, o_lt, o_le, o_gt, o_ge, o_eqI, o_neI, o_eqB, o_not, o_neg, o_len_t, o_len_l, o_len_f, datL_nil, datL_cons, startR, List.map_cons, List.map_nil, List.length_cons, List.length_nil, List.replicate_succ, List.replicate_zero, List.cons_append, List.nil_append, List.getElem?_cons_zero, List.getElem?_cons_succ, List.set_cons_zero, List.set_cons_succ, List.take_length, Option.map_some, Option.map_none, List.append_nil, Nat.sub_self, w_idxV, w_idx_t, w_idx_l, w_idx_f, at0, at1, at2, cut1, w_call, w_tup, w_lst, Nat.reduceSub, Nat.reduceAdd, Nat.reduceLeDiff, if_true, reduceIte, Bool.not_true, Bool.not_false, Bool.false_eq_true, reduceCtorEq, w_isT, w_comp, w_datV, w_compN, w_rhoV, w_compC, w_okT, w_any, w_any_t, w_any_l, w_any_f, w_enum, w_enum_t, w_enum_l, w_zip, w_zip_t, w_zip_l, zip_nil, zip_nil2, zip_cons, w_range, tg_nm, tg_tp2, wipe_nil, wipe_cons, Nat.reduceLT]
    refine script_w s0 (by omega) fun v1 μ1 h1 s1 n1 => ?_
    try simp only [wp_ok, wp_okD, wp_bind, w_var, w_varV, w_c, w_bin, w_un, w_nil, w_cons, w_args, w_boolV, w_tOf, w_fAnd, w_fOr, w_fNot, w_eAnd, w_eOr, w_eIf, w_chain, w_optV, w_oNone, w_oSome, w_cut, o_cutT, o_cutL, w_pass, w_ret, w_if, w_seqV, w_seqR, w_seq, w_asgV, w_asg, w_gNm, w_gTp, w_gNl, w_gCn, w_par2V, w_par2, w_set, w_body, w_endD, w_endN, w_for, w_forN, w_loopN, w_loopR, w_forC, o_add, o_addB, o_sub, o_ord, o_lt, o_le, o_gt, o_ge, o_eqI, o_neI, o_eqB, o_not, o_neg, o_len_t, o_len_l, o_len_f, datL_nil, datL_cons, startR, List.map_cons, List.map_nil, List.length_cons, List.length_nil, List.replicate_succ, List.replicate_zero, List.cons_append, List.nil_append, List.getElem?_cons_zero, List.getElem?_cons_succ, List.set_cons_zero, List.set_cons_succ, List.take_length, Option.map_some, Option.map_none, List.append_nil, Nat.sub_self, w_idxV, w_idx_t, w_idx_l, w_idx_f, at0, at1, at2, cut1, w_call, w_tup, w_lst, Nat.reduceSub, Nat.reduceAdd, Nat.reduceLeDiff, if_true, reduceIte, Bool.not_true, Bool.not_false, Bool.false_eq_true, reduceCtorEq, w_isT, w_comp, w_datV, w_compN, w_rhoV, w_compC, w_okT, w_any, w_any_t, w_any_l, w_any_f, w_enum, w_enum_t, w_enum_l, w_zip, w_zip_t, w_zip_l, zip_nil, zip_nil2, zip_cons, w_range, tg_nm, tg_tp2, wipe_nil, wipe_cons, Nat.reduceLT]
    refine script_w s1 (by omega) fun v2 μ2 h2 s2 n2 => ?_
    try simp only [wp_ok, wp_okD, wp_bind, w_var, w_varV, w_c, w_bin, w_un, w_nil, w_cons, w_args, w_boolV, w_tOf, w_fAnd, w_fOr, w_fNot, w_eAnd, w_eOr, w_eIf, w_chain, w_optV, w_oNone, w_oSome, w_cut, o_cutT, o_cutL, w_pass, w_ret, w_if, w_seqV, w_seqR, w_seq, w_asgV, w_asg, w_gNm, w_gTp, w_gNl, w_gCn, w_par2V, w_par2, w_set, w_body, w_endD, w_endN, w_for, w_forN, w_loopN, w_loopR, w_forC, o_add, o_addB, o_sub, o_ord, o_lt, o_le, o_gt, o_ge, o_eqI, o_neI, o_eqB, o_not, o_neg, o_len_t, o_len_l, o_len_f, datL_nil, datL_cons, startR, List.map_cons, List.map_nil, List.length_cons, List.length_nil, List.replicate_succ, List.replicate_zero, List.cons_append, List.nil_append, List.getElem?_cons_zero, List.getElem?_cons_succ, List.set_cons_zero, List.set_cons_succ, List.take_length, Option.map_some, Option.map_none, List.append_nil, Nat.sub_self, w_idxV, w_idx_t, w_idx_l, w_idx_f, at0, at1, at2, cut1, w_call, w_tup, w_lst, Nat.reduceSub, Nat.reduceAdd, Nat.reduceLeDiff, if_true, reduceIte, Bool.not_true, Bool.not_false, Bool.false_eq_true, reduceCtorEq, w_isT, w_comp, w_datV, w_compN, w_rhoV, w_compC, w_okT, w_any, w_any_t, w_any_l, w_any_f, w_enum, w_enum_t, w_enum_l, w_zip, w_zip_t, w_zip_l, zip_nil, zip_nil2, zip_cons, w_range, tg_nm, tg_tp2, wipe_nil, wipe_cons, Nat.reduceLT]
    refine pattern_w s2 fun v3 μ3 h3 s3 n3 => ?_
    try simp only [wp_ok, wp_okD, wp_bind, w_var, w_varV, w_c, w_bin, w_un, w_nil, w_cons, w_args, w_boolV, w_tOf, w_fAnd, w_fOr, w_fNot, w_eAnd, w_eOr, w_eIf, w_chain, w_optV, w_oNone, w_oSome, w_cut, o_cutT, o_cutL, w_pass, w_ret, w_if, w_seqV, w_seqR, w_seq, w_asgV, w_asg, w_gNm, w_gTp, w_gNl, w_gCn, w_par2V, w_par2, w_set, w_body, w_endD, w_endN, w_for, w_forN, w_loopN, w_loopR, w_forC, o_add, o_addB, o_sub, o_ord, o_lt, o_le, o_gt, o_ge, o_eqI, o_neI, o_eqB, o_not, o_neg, o_len_t, o_len_l, o_len_f, datL_nil, datL_cons, startR, List.map_cons, List.map_nil, List.length_cons, List.length_nil, List.replicate_succ, List.replicate_zero, List.cons_append, List.nil_append, List.getElem?_cons_zero, List.getElem?_cons_succ, List.set_cons_zero, List.set_cons_succ, List.take_length, Option.map_some, Option.map_none, List.append_nil, Nat.sub_self, w_idxV, w_idx_t, w_idx_l, w_idx_f, at0, at1, at2, cut1, w_call, w_tup, w_lst, Nat.reduceSub, Nat.reduceAdd, Nat.reduceLeDiff, if_true, reduceIte, Bool.not_true, Bool.not_false, Bool.false_eq_true, reduceCtorEq, w_isT, w_comp, w_datV, w_compN, w_rhoV, w_compC, w_okT, w_any, w_any_t, w_any_l, w_any_f, w_enum, w_enum_t, w_enum_l, w_zip, w_zip_t, w_zip_l, zip_nil, zip_nil2, zip_cons, w_range, tg_nm, tg_tp2, wipe_nil, wipe_cons, Nat.reduceLT]
    rw [o_addL (by simp)]
    try simp only [wp_ok, wp_okD, wp_bind, w_var, w_varV, w_c, w_bin, w_un, w_nil, w_cons, w_args, w_boolV, w_tOf, w_fAnd, w_fOr, w_fNot, w_eAnd, w_eOr, w_eIf, w_chain, w_optV, w_oNone, w_oSome, w_cut, o_cutT, o_cutL, w_pass, w_ret, w_if, w_seqV, w_seqR, w_seq, w_asgV, w_asg, w_gNm, w_gTp, w_gNl, w_gCn, w_par2V, w_par2, w_set, w_body, w_endD, w_endN, w_for, w_forN, w_loopN, w_loopR, o_add, o_addB, o_sub, o_ord, o_lt, o_le, o_gt, o_ge, o_eqI, o_neI, o_eqB, o_not, o_neg, o_len_t, o_len_l, o_len_f, datL_nil, datL_cons, startR, List.map_cons, List.map_nil, List.length_cons, List.length_nil, List.replicate_succ, List.replicate_zero, List.cons_append, List.nil_append, List.getElem?_cons_zero, List.getElem?_cons_succ, List.set_cons_zero, List.set_cons_succ, List.take_length, Option.map_some, Option.map_none, List.append_nil, Nat.sub_self, w_idxV, w_idx_t, w_idx_l, w_idx_f, at0, at1, at2, cut1, w_call, w_tup, w_lst, Nat.reduceSub, Nat.reduceAdd, Nat.reduceLeDiff, if_true, reduceIte, Bool.not_true, Bool.not_false, Bool.false_eq_true, reduceCtorEq, w_isT, w_comp, w_datV, w_compN, w_rhoV, w_compC, w_okT, w_any, w_any_t, w_any_l, w_any_f, w_enum, w_enum_t, w_enum_l, w_zip, w_zip_t, w_zip_l, zip_nil, zip_nil2, zip_cons, w_range, tg_nm, tg_tp2, wipe_nil, wipe_cons, Nat.reduceLT]
    refine value_loop _ _ _ μ3 s3 (fun v hv => ?_) fun o4 o5 μ4 s4 => ?_
    · simp only [List.cons_append, List.nil_append, List.mem_cons, List.not_mem_nil, or_false] at hv
      rcases hv with rfl | rfl | rfl | rfl
      · exact h1
      · exact h2
      · exact h3.mono (by omega) (by omega)
      · exact wf_one
    · try simp only [wp_ok, wp_okD, wp_bind, w_var, w_varV, w_c, w_bin, w_un, w_nil, w_cons, w_args, w_boolV, w_tOf, w_fAnd, w_fOr, w_fNot, w_eAnd, w_eOr, w_eIf, w_chain, w_optV, w_oNone, w_oSome, w_cut, o_cutT, o_cutL, w_pass, w_ret, w_if, w_seqV, w_seqR, w_seq, w_asgV, w_asg, w_gNm, w_gTp, w_gNl, w_gCn, w_par2V, w_par2, w_set, w_body, w_endD, w_endN, w_for, w_forN, w_loopN, w_loopR, w_forC, o_add, o_addB, o_sub, o_ord, o_lt, o_le, o_gt, o_ge, o_eqI, o_neI, o_eqB, o_not, o_neg, o_len_t, o_len_l, o_len_f, datL_nil, datL_cons, startR, List.map_cons, List.map_nil, List.length_cons, List.length_nil, List.replicate_succ, List.replicate_zero, List.cons_append, List.nil_append, List.getElem?_cons_zero, List.getElem?_cons_succ, List.set_cons_zero, List.set_cons_succ, List.take_length, Option.map_some, Option.map_none, List.append_nil, Nat.sub_self, w_idxV, w_idx_t, w_idx_l, w_idx_f, at0, at1, at2, cut1, w_call, w_tup, w_lst, Nat.reduceSub, Nat.reduceAdd, Nat.reduceLeDiff, if_true, reduceIte, Bool.not_true, Bool.not_false, Bool.false_eq_true, reduceCtorEq, w_isT, w_comp, w_datV, w_compN, w_rhoV, w_compC, w_okT, w_any, w_any_t, w_any_l, w_any_f, w_enum, w_enum_t, w_enum_l, w_zip, w_zip_t, w_zip_l, zip_nil, zip_nil2, zip_cons, w_range, tg_nm, tg_tp2, wipe_nil, wipe_cons, Nat.reduceLT]
      have e : ((lo : Int) + 1) = ((lo + 1 : Nat) : Int) := by omega
      rw [e]
      exact draw_loop n (lo + 1) _ _ _ _ _ _ _ μ4 (by omega) k
theorem wW : wf 6 3 (.tuple [.str "write", .tuple [.tuple [.int 9, .int 1, .int 0]]]) := by
  have : PySem.PyData.strOk "write" = true := strs_ok _ (by simp)
  simp [wf, this]
theorem wJ : wf 6 3 (.tuple [.str "join", .int 0, .int 0]) := by
  have : PySem.PyData.strOk "join" = true := strs_ok _ (by simp)
  simp [wf, this]
theorem plain (ns : List Int) (h : ns.length ≤ 63) : ∃ μ, F_law [.fz (ns.map PyData.int)] [] = .ok (.dat (.bool true)) μ := by
  have main : wp (F_law [.fz (ns.map PyData.int)] []) fun v μ => v = .dat (.bool true) := by
    unfold F_law b_law
    have om : ∀ (i : Int) (μ : Mem), c2 min2D [.dat (.int i), .dat (.int 10)] μ = okD (.int (if 10 < i then 10 else i)) μ := fun i μ => rfl
    simp only [wp_ok, wp_okD, wp_bind, w_var, w_varV, w_c, w_bin, w_un, w_nil, w_cons, w_args, w_boolV, w_tOf, w_fAnd, w_fOr, w_fNot, w_eAnd, w_eOr, w_eIf, w_chain, w_optV, w_oNone, w_oSome, w_cut, o_cutT, o_cutL, w_pass, w_ret, w_if, w_seqV, w_seqR, w_seq, w_asgV, w_asg, w_gNm, w_gTp, w_gNl, w_gCn, w_par2V, w_par2, w_set, w_body, w_endD, w_endN, w_for, w_forN, w_loopN, w_loopR, w_forC, o_add, o_addB, o_sub, o_ord, o_lt, o_le, o_gt, o_ge, o_eqI, o_neI, o_eqB, o_not, o_neg, o_len_t, o_len_l, o_len_f, datL_nil, datL_cons, startR, List.map_cons, List.map_nil, List.length_cons, List.length_nil, List.replicate_succ, List.replicate_zero, List.cons_append, List.nil_append, List.getElem?_cons_zero, List.getElem?_cons_succ, List.set_cons_zero, List.set_cons_succ, List.take_length, Option.map_some, Option.map_none, List.append_nil, Nat.sub_self, w_idxV, w_idx_t, w_idx_l, w_idx_f, at0, at1, at2, cut1, w_call, w_tup, w_lst, Nat.reduceSub, Nat.reduceAdd, Nat.reduceLeDiff, if_true, reduceIte, Bool.not_true, Bool.not_false, Bool.false_eq_true, reduceCtorEq, w_isT, w_comp, w_datV, w_compN, w_rhoV, w_compC, w_okT, w_any, w_any_t, w_any_l, w_any_f, w_enum, w_enum_t, w_enum_l, w_zip, w_zip_t, w_zip_l, zip_nil, zip_nil2, zip_cons, w_range, tg_nm, tg_tp2, wipe_nil, wipe_cons, Nat.reduceLT, om, List.length_map]
    rw [w_range1 (by split <;> omega)]
    refine draw_loop _ 0 _ _ _ _ _ _ _ [] (by split <;> omega) fun o1 o2 o3 o4 o5 o6 o7 μ => ?_
    have w3 : wf 6 4 (.tuple [.tuple [.str "write", .tuple [.tuple [.int 9, .int 1, .int 0]]], .tuple [.str "join", .int 0, .int 0], .tuple [.str "join", .int 0, .int 0]]) := by
      simp only [wf]
      refine ⟨by simp, fun d hd => ?_⟩
      simp only [List.mem_cons, List.not_mem_nil, or_false] at hd
      rcases hd with rfl | rfl | rfl
      · exact wW
      · exact wJ
      · exact wJ
    have w4 : wf 6 4 (.tuple [.tuple [.str "write", .tuple [.tuple [.int 9, .int 1, .int 0]]], .tuple [.str "join", .int 0, .int 0], .tuple [.str "join", .int 0, .int 0], .tuple [.str "join", .int 0, .int 0]]) := by
      simp only [wf]
      refine ⟨by simp, fun d hd => ?_⟩
      simp only [List.mem_cons, List.not_mem_nil, or_false] at hd
      rcases hd with rfl | rfl | rfl | rfl
      · exact wW
      · exact wJ
      · exact wJ
      · exact wJ
    have p1 : wf 6 4 (.tuple [.tuple [.int 0, .int 1, .int 0]]) := by simp [wf]
    have p2 : wf 6 4 (.tuple [.tuple [.int 9, .int 0, .int 0]]) := by simp [wf]
    have p3 : wf 6 4 (.tuple [.tuple [.int 9, .int 1, .int 0], .tuple [.int 9, .int 0, .int 1]]) := by simp [wf]
    have p4 : wf 6 4 (.tuple [.tuple [.int 9, .int 0, .int 1], .tuple [.int 0, .int 2, .int 9], .tuple [.int 9, .int 1, .int 0]]) := by simp [wf]
    have e1 : scr (.tuple [.tuple [.str "write", .tuple [.tuple [.int 9, .int 1, .int 0]]], .tuple [.str "join", .int 0, .int 0], .tuple [.str "join", .int 0, .int 0]]) = true := by decide +kernel
    have e2 : scr (.tuple [.tuple [.str "write", .tuple [.tuple [.int 9, .int 1, .int 0]]], .tuple [.str "join", .int 0, .int 0], .tuple [.str "join", .int 0, .int 0], .tuple [.str "join", .int 0, .int 0]]) = false := by decide +kernel
    have g1 : pat (.tuple [.tuple [.int 0, .int 1, .int 0]]) = false := by decide +kernel
    have g2 : pat (.tuple [.tuple [.int 9, .int 0, .int 0]]) = false := by decide +kernel
    have g3 : pat (.tuple [.tuple [.int 9, .int 1, .int 0], .tuple [.int 9, .int 0, .int 1]]) = false := by decide +kernel
    have g4 : pat (.tuple [.tuple [.int 9, .int 0, .int 1], .tuple [.int 0, .int 2, .int 9], .tuple [.int 9, .int 1, .int 0]]) = true := by decide +kernel
    simp only [wp_ok, wp_okD, wp_bind, w_var, w_varV, w_c, w_bin, w_un, w_nil, w_cons, w_args, w_boolV, w_tOf, w_fAnd, w_fOr, w_fNot, w_eAnd, w_eOr, w_eIf, w_chain, w_optV, w_oNone, w_oSome, w_cut, o_cutT, o_cutL, w_pass, w_ret, w_if, w_seqV, w_seqR, w_seq, w_asgV, w_asg, w_gNm, w_gTp, w_gNl, w_gCn, w_par2V, w_par2, w_set, w_body, w_endD, w_endN, w_for, w_forN, w_loopN, w_loopR, w_forC, o_add, o_addB, o_sub, o_ord, o_lt, o_le, o_gt, o_ge, o_eqI, o_neI, o_eqB, o_not, o_neg, o_len_t, o_len_l, o_len_f, datL_nil, datL_cons, startR, List.map_cons, List.map_nil, List.length_cons, List.length_nil, List.replicate_succ, List.replicate_zero, List.cons_append, List.nil_append, List.getElem?_cons_zero, List.getElem?_cons_succ, List.set_cons_zero, List.set_cons_succ, List.take_length, Option.map_some, Option.map_none, List.append_nil, Nat.sub_self, w_idxV, w_idx_t, w_idx_l, w_idx_f, at0, at1, at2, cut1, w_call, w_tup, w_lst, Nat.reduceSub, Nat.reduceAdd, Nat.reduceLeDiff, if_true, reduceIte, Bool.not_true, Bool.not_false, Bool.false_eq_true, reduceCtorEq, w_isT, w_comp, w_datV, w_compN, w_rhoV, w_compC, w_okT, w_any, w_any_t, w_any_l, w_any_f, w_enum, w_enum_t, w_enum_l, w_zip, w_zip_t, w_zip_l, zip_nil, zip_nil2, zip_cons, w_range, tg_nm, tg_tp2, wipe_nil, wipe_cons, Nat.reduceLT, iss_w (by omega) (by omega) w3, iss_w (by omega) (by omega) w4, isp_w (by omega) (by omega) p1, isp_w (by omega) (by omega) p2, isp_w (by omega) (by omega) p3, isp_w (by omega) (by omega) p4, e1, e2, g1, g2, g3, g4]
  obtain ⟨a, μ, e, h1⟩ := wp_ex main
  exact ⟨μ, by rw [e, h1]⟩
end K01
set_option Elab.async false
set_option linter.all false
set_option maxRecDepth 100000
set_option maxHeartbeats 8000000
namespace K01
open PySem PySem.Spec PyProof.Rows L2 DN
abbrev row_ := PySem.Challenge.rw_longfigures_k01_values_recognized
def top (i : Nat) : Stmt := PySem.Challenge.pw_longfigures_k01_values_recognized.main.body.getD i (.Pass ⟨0, 0, 0, 0⟩)
theorem d_is_number : denSs (c_is_number) 60 (defScope (top 1)) (defBody (top 1)) = some (b_is_number) := by kernel_rfl
theorem s_is_number : FnScope ["value", "least", "most"] ["value", "least", "most"] (defScope (top 1)) := C8.fnScope_by (by decide +kernel)
theorem d_is_tuple : denSs (c_is_tuple) 60 (defScope (top 2)) (defBody (top 2)) = some (b_is_tuple) := by kernel_rfl
theorem s_is_tuple : FnScope ["value", "least", "most"] ["value", "least", "most"] (defScope (top 2)) := C8.fnScope_by (by decide +kernel)
theorem d_is_part : denSs (c_is_part) 60 (defScope (top 3)) (defBody (top 3)) = some (b_is_part) := by kernel_rfl
theorem s_is_part : FnScope ["value"] ["value"] (defScope (top 3)) := C8.fnScope_by (by decide +kernel)
theorem d_is_good_pattern : denSs (c_is_good_pattern) 60 (defScope (top 4)) (defBody (top 4)) = some (b_is_good_pattern) := by kernel_rfl
theorem s_is_good_pattern : FnScope ["value", "part", "one", "other"] ["value"] (defScope (top 4)) := C8.fnScope_by (by decide +kernel)
theorem d_is_row : denSs (c_is_row) 60 (defScope (top 5)) (defBody (top 5)) = some (b_is_row) := by kernel_rfl
theorem s_is_row : FnScope ["value", "ahead", "word", "rest"] ["value", "ahead"] (defScope (top 5)) := C8.fnScope_by (by decide +kernel)
theorem d_is_good_script : denSs (c_is_good_script) 60 (defScope (top 6)) (defBody (top 6)) = some (b_is_good_script) := by kernel_rfl
theorem s_is_good_script : FnScope ["value", "ahead", "row"] ["value"] (defScope (top 6)) := C8.fnScope_by (by decide +kernel)
theorem d_is_pattern : denSs (c_is_pattern) 60 (defScope (top 7)) (defBody (top 7)) = some (b_is_pattern) := by kernel_rfl
theorem s_is_pattern : FnScope ["value"] ["value"] (defScope (top 7)) := C8.fnScope_by (by decide +kernel)
theorem d_is_script : denSs (c_is_script) 60 (defScope (top 8)) (defBody (top 8)) = some (b_is_script) := by kernel_rfl
theorem s_is_script : FnScope ["value"] ["value"] (defScope (top 8)) := C8.fnScope_by (by decide +kernel)
theorem d_l_source : denSs (c_l_source) 60 (defScope (top 10)) (defBody (top 10)) = some (b_l_source) := by kernel_rfl
theorem s_l_source : FnScope ["_law_script_here", "_law_k", "_law_cell"] ["_law_script_here", "_law_k"] (defScope (top 10)) := C8.fnScope_by (by decide +kernel)
theorem d_l_draw : denSs (c_l_draw) 60 (defScope (top 11)) (defBody (top 11)) = some (b_l_draw) := by kernel_rfl
theorem s_l_draw : FnScope ["_law_source_here", "_law_many", "_law_found"] ["_law_source_here", "_law_many"] (defScope (top 11)) := C8.fnScope_by (by decide +kernel)
theorem d_l_of : denSs (c_l_of) 60 (defScope (top 12)) (defBody (top 12)) = some (b_l_of) := by kernel_rfl
theorem s_l_of : FnScope ["_law_source_here", "_law_items"] ["_law_source_here", "_law_items"] (defScope (top 12)) := C8.fnScope_by (by decide +kernel)
theorem d_l_pattern : denSs (c_l_pattern) 60 (defScope (top 13)) (defBody (top 13)) = some (b_l_pattern) := by kernel_rfl
theorem s_l_pattern : FnScope ["_law_source_here", "_law_found", "_law_last", "_law_turn", "_law_figure", "_law_pair"] ["_law_source_here"] (defScope (top 13)) := C8.fnScope_by (by decide +kernel)
theorem d_l_script : denSs (c_l_script) 60 (defScope (top 14)) (defBody (top 14)) = some (b_l_script) := by kernel_rfl
theorem s_l_script : FnScope ["_law_source_here", "_law_most", "_law_rows", "_law_joins", "_law_one", "_law_other", "_law_words", "_law_word", "_law_row", "_law_many"] ["_law_source_here", "_law_most"] (defScope (top 14)) := C8.fnScope_by (by decide +kernel)
theorem d_l_is_int : denSs (c_l_is_int) 60 (defScope (top 15)) (defBody (top 15)) = some (b_l_is_int) := by kernel_rfl
theorem s_l_is_int : FnScope ["_law_value", "_law_least", "_law_top"] ["_law_value", "_law_least", "_law_top"] (defScope (top 15)) := C8.fnScope_by (by decide +kernel)
theorem d_l_is_pattern : denSs (c_l_is_pattern) 60 (defScope (top 16)) (defBody (top 16)) = some (b_l_is_pattern) := by kernel_rfl
theorem s_l_is_pattern : FnScope ["_law_value", "_law_last", "_law_part"] ["_law_value"] (defScope (top 16)) := C8.fnScope_by (by decide +kernel)
theorem d_l_is_row : denSs (c_l_is_row) 60 (defScope (top 17)) (defBody (top 17)) = some (b_l_is_row) := by kernel_rfl
theorem s_l_is_row : FnScope ["_law_value", "_law_ahead"] ["_law_value", "_law_ahead"] (defScope (top 17)) := C8.fnScope_by (by decide +kernel)
theorem d_l_is_script : denSs (c_l_is_script) 60 (defScope (top 18)) (defBody (top 18)) = some (b_l_is_script) := by kernel_rfl
theorem s_l_is_script : FnScope ["_law_value", "_law_ahead", "_law_row"] ["_law_value"] (defScope (top 18)) := C8.fnScope_by (by decide +kernel)
theorem d_l_odd : denSs (c_l_odd) 60 (defScope (top 19)) (defBody (top 19)) = some (b_l_odd) := by kernel_rfl
theorem s_l_odd : FnScope ["_law_source_here", "_law_items"] ["_law_source_here"] (defScope (top 19)) := C8.fnScope_by (by decide +kernel)
theorem d_l_spoilt (g : DF) : denSs (c_l_spoilt g) 60 (defScope (top 20)) (defBody (top 20)) = some (b_l_spoilt g) := by kernel_rfl
theorem s_l_spoilt : FnScope ["_law_source_here", "_law_value", "_law_at", "_law_mode"] ["_law_source_here", "_law_value"] (defScope (top 20)) := C8.fnScope_by (by decide +kernel)
theorem d_law : denSs (c_law) 60 (defScope (top 21)) (defBody (top 21)) = some (b_law) := by kernel_rfl
theorem s_law : FnScope ["_law_script_here", "_law_k", "_law_source_here", "_law_some", "_law_value", "_law_turn", "_law_row", "_law_join"] ["_law_script_here"] (defScope (top 21)) := C8.fnScope_by (by decide +kernel)
end K01
set_option Elab.async false
set_option linter.all false
set_option maxRecDepth 100000
set_option maxHeartbeats 8000000
namespace K01
open PySem PySem.Spec PyProof.Rows L2 DN
abbrev R : PySem.W.OpenRow := PySem.W.OpenLaw.row row_
def dd_is_number : He.DefD := ⟨("is_number", none), "is_number", "is_number", defArgs (top 1), defBody (top 1), defScope (top 1), [], []⟩
def dd_is_tuple : He.DefD := ⟨("is_tuple", none), "is_tuple", "is_tuple", defArgs (top 2), defBody (top 2), defScope (top 2), [], []⟩
def dd_is_part : He.DefD := ⟨("is_part", none), "is_part", "is_part", defArgs (top 3), defBody (top 3), defScope (top 3), [], []⟩
def dd_is_good_pattern : He.DefD := ⟨("is_good_pattern", none), "is_good_pattern", "is_good_pattern", defArgs (top 4), defBody (top 4), defScope (top 4), [], []⟩
def dd_is_row : He.DefD := ⟨("is_row", none), "is_row", "is_row", defArgs (top 5), defBody (top 5), defScope (top 5), [], []⟩
def dd_is_good_script : He.DefD := ⟨("is_good_script", none), "is_good_script", "is_good_script", defArgs (top 6), defBody (top 6), defScope (top 6), [], []⟩
def dd_is_pattern : He.DefD := ⟨("is_pattern", none), "is_pattern", "is_pattern", defArgs (top 7), defBody (top 7), defScope (top 7), [], []⟩
def dd_is_script : He.DefD := ⟨("is_script", none), "is_script", "is_script", defArgs (top 8), defBody (top 8), defScope (top 8), [], []⟩
def dd_l_source : He.DefD := ⟨("_law_source", none), "_law_source", "_law_source", defArgs (top 10), defBody (top 10), defScope (top 10), [], []⟩
def dd_l_draw : He.DefD := ⟨("_law_draw", none), "_law_draw", "_law_draw", defArgs (top 11), defBody (top 11), defScope (top 11), [], []⟩
def dd_l_of : He.DefD := ⟨("_law_of", none), "_law_of", "_law_of", defArgs (top 12), defBody (top 12), defScope (top 12), [], []⟩
def dd_l_pattern : He.DefD := ⟨("_law_pattern", none), "_law_pattern", "_law_pattern", defArgs (top 13), defBody (top 13), defScope (top 13), [], []⟩
def dd_l_script : He.DefD := ⟨("_law_script", none), "_law_script", "_law_script", defArgs (top 14), defBody (top 14), defScope (top 14), [], []⟩
def dd_l_is_int : He.DefD := ⟨("_law_is_int", none), "_law_is_int", "_law_is_int", defArgs (top 15), defBody (top 15), defScope (top 15), [], []⟩
def dd_l_is_pattern : He.DefD := ⟨("_law_is_pattern", none), "_law_is_pattern", "_law_is_pattern", defArgs (top 16), defBody (top 16), defScope (top 16), [], []⟩
def dd_l_is_row : He.DefD := ⟨("_law_is_row", none), "_law_is_row", "_law_is_row", defArgs (top 17), defBody (top 17), defScope (top 17), [], []⟩
def dd_l_is_script : He.DefD := ⟨("_law_is_script", none), "_law_is_script", "_law_is_script", defArgs (top 18), defBody (top 18), defScope (top 18), [], []⟩
def dd_l_odd : He.DefD := ⟨("_law_odd", none), "_law_odd", "_law_odd", defArgs (top 19), defBody (top 19), defScope (top 19), [], []⟩
def dd_l_spoilt : He.DefD := ⟨("_law_spoilt", none), "_law_spoilt", "_law_spoilt", defArgs (top 20), defBody (top 20), defScope (top 20), [], []⟩
def dd_law : He.DefD := ⟨("law", none), "law", "law", defArgs (top 21), defBody (top 21), defScope (top 21), [], []⟩
def fn : List He.DefD := [dd_is_number, dd_is_tuple, dd_is_part, dd_is_good_pattern, dd_is_row, dd_is_good_script, dd_is_pattern, dd_is_script, dd_l_source, dd_l_draw, dd_l_of, dd_l_pattern, dd_l_script, dd_l_is_int, dd_l_is_pattern, dd_l_is_row, dd_l_is_script, dd_l_odd, dd_l_spoilt, dd_law]
def fa : List He.Fa := [.glo "is_number", .glo "is_tuple", .glo "is_part", .glo "is_good_pattern", .glo "is_row", .glo "is_good_script", .glo "is_pattern", .glo "is_script", .glo "_law_source", .glo "_law_draw", .glo "_law_of", .glo "_law_pattern", .glo "_law_script", .glo "_law_is_int", .glo "_law_is_pattern", .glo "_law_is_row", .glo "_law_is_script", .glo "_law_odd", .glo "_law_spoilt", .glo "law", .free "len", .free "all", .free "any", .free "int", .free "str", .free "abs", .free "max", .free "min", .free "sum", .free "list", .free "tuple", .free "isinstance", .free "range", .free "enumerate", .free "zip", .free "bool"]
abbrev hk : PySem.W.Hook := He.hookD 4 fa fn
def ob (s : PySem.W.SharedT) : He.AlD := He.obsDG 4 fa fn (HandSHeadRun.getT s)
theorem ob_eq (s : PySem.W.SharedT) : ob s = hk.obs s.abs := He.obsDG_eq (HandSHeadRun.getT_eq s)
theorem runHead (w : World) : HandSHeadRun.RunEq R (PySem.W.view R.prog [21]) hk ob 4000 ["is_number", "is_tuple", "is_part", "is_good_pattern", "is_row", "is_good_script", "is_pattern", "is_script", "_law_source", "_law_draw", "_law_of", "_law_pattern", "_law_script", "_law_is_int", "_law_is_pattern", "_law_is_row", "_law_is_script", "_law_odd", "_law_spoilt"] w := by
  intro os
  kernel_rfl
theorem facts {P : Program} {w : World} {K : PySem.W.Frag} {h : Heap} {mg : Str → Option Value} {f : Addr} (X : K.In h) (G : h.Ns mainGlobals mg) (hfa : mg ("law" : Str) = some (.ref f)) (c : He.SaysD fa fn K) :
    ∃ fd : FuncData, (∀ (s : Shared) (v : Value), BindsTo s fd ⟨[v], []⟩ [("_law_script_here", v)]) ∧ ∀ base : Heap, FnOk P w K mg base CX0 36 f fd ["_law_script_here"] (spD K 1 F_law) := by
  have fr : ∀ y, y ∈ blts → mg y = none := by
    intro y hy
    simp only [blts, List.mem_cons, List.not_mem_nil, or_false] at hy
    rcases hy with rfl | rfl | rfl | rfl | rfl | rfl | rfl | rfl | rfl | rfl | rfl | rfl | rfl | rfl | rfl | rfl
    · exact He.free_ok X G (c.fact 20 (f := .free "len") rfl)
    · exact He.free_ok X G (c.fact 21 (f := .free "all") rfl)
    · exact He.free_ok X G (c.fact 22 (f := .free "any") rfl)
    · exact He.free_ok X G (c.fact 23 (f := .free "int") rfl)
    · exact He.free_ok X G (c.fact 24 (f := .free "str") rfl)
    · exact He.free_ok X G (c.fact 25 (f := .free "abs") rfl)
    · exact He.free_ok X G (c.fact 26 (f := .free "max") rfl)
    · exact He.free_ok X G (c.fact 27 (f := .free "min") rfl)
    · exact He.free_ok X G (c.fact 28 (f := .free "sum") rfl)
    · exact He.free_ok X G (c.fact 29 (f := .free "list") rfl)
    · exact He.free_ok X G (c.fact 30 (f := .free "tuple") rfl)
    · exact He.free_ok X G (c.fact 31 (f := .free "isinstance") rfl)
    · exact He.free_ok X G (c.fact 32 (f := .free "range") rfl)
    · exact He.free_ok X G (c.fact 33 (f := .free "enumerate") rfl)
    · exact He.free_ok X G (c.fact 34 (f := .free "zip") rfl)
    · exact He.free_ok X G (c.fact 35 (f := .free "bool") rfl)
  obtain ⟨fd0, F0⟩ := c.def_ 0 (d := dd_is_number) rfl
  have F0 : FnP K "is_number" (top 1) _ fd0 := F0
  have g0 := He.glo_ok X G (c.fact 0 (f := .glo "is_number") rfl)
  have B0 : Binds K fd0 ["value", "least", "most"] [] := F0.bindsN fun _ _ _ _ _ _ us hl => match us, hl with | [_, _, _], _ => rfl
  obtain ⟨fd1, F1⟩ := c.def_ 1 (d := dd_is_tuple) rfl
  have F1 : FnP K "is_tuple" (top 2) _ fd1 := F1
  have g1 := He.glo_ok X G (c.fact 1 (f := .glo "is_tuple") rfl)
  have B1 : Binds K fd1 ["value", "least", "most"] [] := F1.bindsN fun _ _ _ _ _ _ us hl => match us, hl with | [_, _, _], _ => rfl
  obtain ⟨fd2, F2⟩ := c.def_ 2 (d := dd_is_part) rfl
  have F2 : FnP K "is_part" (top 3) _ fd2 := F2
  have g2 := He.glo_ok X G (c.fact 2 (f := .glo "is_part") rfl)
  have B2 : Binds K fd2 ["value"] [] := F2.bindsN fun _ _ _ _ _ _ us hl => match us, hl with | [_], _ => rfl
  obtain ⟨fd3, F3⟩ := c.def_ 3 (d := dd_is_good_pattern) rfl
  have F3 : FnP K "is_good_pattern" (top 4) _ fd3 := F3
  have g3 := He.glo_ok X G (c.fact 3 (f := .glo "is_good_pattern") rfl)
  have B3 : Binds K fd3 ["value"] [] := F3.bindsN fun _ _ _ _ _ _ us hl => match us, hl with | [_], _ => rfl
  obtain ⟨fd4, F4⟩ := c.def_ 4 (d := dd_is_row) rfl
  have F4 : FnP K "is_row" (top 5) _ fd4 := F4
  have g4 := He.glo_ok X G (c.fact 4 (f := .glo "is_row") rfl)
  have B4 : Binds K fd4 ["value", "ahead"] [] := F4.bindsN fun _ _ _ _ _ _ us hl => match us, hl with | [_, _], _ => rfl
  obtain ⟨fd5, F5⟩ := c.def_ 5 (d := dd_is_good_script) rfl
  have F5 : FnP K "is_good_script" (top 6) _ fd5 := F5
  have g5 := He.glo_ok X G (c.fact 5 (f := .glo "is_good_script") rfl)
  have B5 : Binds K fd5 ["value"] [] := F5.bindsN fun _ _ _ _ _ _ us hl => match us, hl with | [_], _ => rfl
  obtain ⟨fd6, F6⟩ := c.def_ 6 (d := dd_is_pattern) rfl
  have F6 : FnP K "is_pattern" (top 7) _ fd6 := F6
  have g6 := He.glo_ok X G (c.fact 6 (f := .glo "is_pattern") rfl)
  have B6 : Binds K fd6 ["value"] [] := F6.bindsN fun _ _ _ _ _ _ us hl => match us, hl with | [_], _ => rfl
  obtain ⟨fd7, F7⟩ := c.def_ 7 (d := dd_is_script) rfl
  have F7 : FnP K "is_script" (top 8) _ fd7 := F7
  have g7 := He.glo_ok X G (c.fact 7 (f := .glo "is_script") rfl)
  have B7 : Binds K fd7 ["value"] [] := F7.bindsN fun _ _ _ _ _ _ us hl => match us, hl with | [_], _ => rfl
  obtain ⟨fd8, F8⟩ := c.def_ 8 (d := dd_l_source) rfl
  have F8 : FnP K "_law_source" (top 10) _ fd8 := F8
  have g8 := He.glo_ok X G (c.fact 8 (f := .glo "_law_source") rfl)
  have B8 : Binds K fd8 ["_law_script_here", "_law_k"] [] := F8.bindsN fun _ _ _ _ _ _ us hl => match us, hl with | [_, _], _ => rfl
  obtain ⟨fd9, F9⟩ := c.def_ 9 (d := dd_l_draw) rfl
  have F9 : FnP K "_law_draw" (top 11) _ fd9 := F9
  have g9 := He.glo_ok X G (c.fact 9 (f := .glo "_law_draw") rfl)
  have B9 : Binds K fd9 ["_law_source_here", "_law_many"] [] := F9.bindsN fun _ _ _ _ _ _ us hl => match us, hl with | [_, _], _ => rfl
  obtain ⟨fd10, F10⟩ := c.def_ 10 (d := dd_l_of) rfl
  have F10 : FnP K "_law_of" (top 12) _ fd10 := F10
  have g10 := He.glo_ok X G (c.fact 10 (f := .glo "_law_of") rfl)
  have B10 : Binds K fd10 ["_law_source_here", "_law_items"] [] := F10.bindsN fun _ _ _ _ _ _ us hl => match us, hl with | [_, _], _ => rfl
  obtain ⟨fd11, F11⟩ := c.def_ 11 (d := dd_l_pattern) rfl
  have F11 : FnP K "_law_pattern" (top 13) _ fd11 := F11
  have g11 := He.glo_ok X G (c.fact 11 (f := .glo "_law_pattern") rfl)
  have B11 : Binds K fd11 ["_law_source_here"] [] := F11.bindsN fun _ _ _ _ _ _ us hl => match us, hl with | [_], _ => rfl
  obtain ⟨fd12, F12⟩ := c.def_ 12 (d := dd_l_script) rfl
  have F12 : FnP K "_law_script" (top 14) _ fd12 := F12
  have g12 := He.glo_ok X G (c.fact 12 (f := .glo "_law_script") rfl)
  have B12 : Binds K fd12 ["_law_source_here", "_law_most"] [] := F12.bindsN fun _ _ _ _ _ _ us hl => match us, hl with | [_, _], _ => rfl
  obtain ⟨fd13, F13⟩ := c.def_ 13 (d := dd_l_is_int) rfl
  have F13 : FnP K "_law_is_int" (top 15) _ fd13 := F13
  have g13 := He.glo_ok X G (c.fact 13 (f := .glo "_law_is_int") rfl)
  have B13 : Binds K fd13 ["_law_value", "_law_least", "_law_top"] [] := F13.bindsN fun _ _ _ _ _ _ us hl => match us, hl with | [_, _, _], _ => rfl
  obtain ⟨fd14, F14⟩ := c.def_ 14 (d := dd_l_is_pattern) rfl
  have F14 : FnP K "_law_is_pattern" (top 16) _ fd14 := F14
  have g14 := He.glo_ok X G (c.fact 14 (f := .glo "_law_is_pattern") rfl)
  have B14 : Binds K fd14 ["_law_value"] [] := F14.bindsN fun _ _ _ _ _ _ us hl => match us, hl with | [_], _ => rfl
  obtain ⟨fd15, F15⟩ := c.def_ 15 (d := dd_l_is_row) rfl
  have F15 : FnP K "_law_is_row" (top 17) _ fd15 := F15
  have g15 := He.glo_ok X G (c.fact 15 (f := .glo "_law_is_row") rfl)
  have B15 : Binds K fd15 ["_law_value", "_law_ahead"] [] := F15.bindsN fun _ _ _ _ _ _ us hl => match us, hl with | [_, _], _ => rfl
  obtain ⟨fd16, F16⟩ := c.def_ 16 (d := dd_l_is_script) rfl
  have F16 : FnP K "_law_is_script" (top 18) _ fd16 := F16
  have g16 := He.glo_ok X G (c.fact 16 (f := .glo "_law_is_script") rfl)
  have B16 : Binds K fd16 ["_law_value"] [] := F16.bindsN fun _ _ _ _ _ _ us hl => match us, hl with | [_], _ => rfl
  obtain ⟨fd17, F17⟩ := c.def_ 17 (d := dd_l_odd) rfl
  have F17 : FnP K "_law_odd" (top 19) _ fd17 := F17
  have g17 := He.glo_ok X G (c.fact 17 (f := .glo "_law_odd") rfl)
  have B17 : Binds K fd17 ["_law_source_here"] [] := F17.bindsN fun _ _ _ _ _ _ us hl => match us, hl with | [_], _ => rfl
  obtain ⟨fd18, F18⟩ := c.def_ 18 (d := dd_l_spoilt) rfl
  have F18 : FnP K "_law_spoilt" (top 20) _ fd18 := F18
  have g18 := He.glo_ok X G (c.fact 18 (f := .glo "_law_spoilt") rfl)
  have B18 : Binds K fd18 ["_law_source_here", "_law_value"] [] := F18.bindsN fun _ _ _ _ _ _ us hl => match us, hl with | [_, _], _ => rfl
  obtain ⟨fd19, F19⟩ := c.def_ 19 (d := dd_law) rfl
  have F19 : FnP K "law" (top 21) _ fd19 := F19
  have g19 := He.glo_ok X G (c.fact 19 (f := .glo "law") rfl)
  have B19 : Binds K fd19 ["_law_script_here"] [] := F19.bindsN fun _ _ _ _ _ _ us hl => match us, hl with | [_], _ => rfl
  have e := hfa.symm.trans g19
  cases e
  refine ⟨fd19, fun s v => (FunD.bindsA (ps := ["_law_script_here"]) F19 fun _ _ _ _ _ _ us hl => match us, hl with | [_], _ => rfl) s [v] rfl, fun base => ?_⟩
  have k0 : Kept P w K mg base (0 + 1) "is_number" 3 F_is_number := kept_def (k := 0) false F0 s_is_number g0 B0 rfl kept_nil .nil fr d_is_number
  have k1 : Kept P w K mg base (1 + 1) "is_tuple" 3 F_is_tuple := kept_def (k := 1) false F1 s_is_tuple g1 B1 rfl kept_nil .nil fr d_is_tuple
  have k2 : Kept P w K mg base (2 + 1) "is_part" 1 F_is_part := kept_def (k := 2) false F2 s_is_part g2 B2 rfl (kept_cons (k0.mono (by omega)) (kept_cons (k1.mono (by omega)) kept_nil)) .nil fr d_is_part
  have k3 : Kept P w K mg base (3 + 1) "is_good_pattern" 1 F_is_good_pattern := kept_def (k := 3) false F3 s_is_good_pattern g3 B3 rfl (kept_cons (k2.mono (by omega)) (kept_cons (k1.mono (by omega)) kept_nil)) .nil fr d_is_good_pattern
  have k4 : Kept P w K mg base (4 + 1) "is_row" 2 F_is_row := kept_def (k := 4) false F4 s_is_row g4 B4 rfl (kept_cons (k0.mono (by omega)) (kept_cons (k3.mono (by omega)) (kept_cons (k1.mono (by omega)) kept_nil))) .nil fr d_is_row
  have k5 : Kept P w K mg base (5 + 1) "is_good_script" 1 F_is_good_script := kept_def (k := 5) false F5 s_is_good_script g5 B5 rfl (kept_cons (k4.mono (by omega)) (kept_cons (k1.mono (by omega)) kept_nil)) .nil fr d_is_good_script
  have k6 : Kept P w K mg base (6 + 1) "is_pattern" 1 F_is_pattern := kept_def (k := 6) false F6 s_is_pattern g6 B6 rfl (kept_cons (k3.mono (by omega)) kept_nil) .nil fr d_is_pattern
  have k7 : Kept P w K mg base (7 + 1) "is_script" 1 F_is_script := kept_def (k := 7) false F7 s_is_script g7 B7 rfl (kept_cons (k5.mono (by omega)) kept_nil) .nil fr d_is_script
  have k8 : Kept P w K mg base (8 + 1) "_law_source" 2 F_l_source := kept_def (k := 8) true F8 s_l_source g8 B8 rfl kept_nil .nil fr d_l_source
  have k9 : Kept P w K mg base (9 + 1) "_law_draw" 2 F_l_draw := kept_def (k := 9) false F9 s_l_draw g9 B9 rfl kept_nil .nil fr d_l_draw
  have k10 : Kept P w K mg base (10 + 1) "_law_of" 2 F_l_of := kept_def (k := 10) false F10 s_l_of g10 B10 rfl (kept_cons (k9.mono (by omega)) kept_nil) .nil fr d_l_of
  have k11 : Kept P w K mg base (11 + 1) "_law_pattern" 1 F_l_pattern := kept_def (k := 11) false F11 s_l_pattern g11 B11 rfl (kept_cons (k9.mono (by omega)) (kept_cons (k10.mono (by omega)) kept_nil)) .nil fr d_l_pattern
  have k12 : Kept P w K mg base (12 + 1) "_law_script" 2 F_l_script := kept_def (k := 12) false F12 s_l_script g12 B12 rfl (kept_cons (k9.mono (by omega)) (kept_cons (k11.mono (by omega)) (kept_cons (k10.mono (by omega)) kept_nil))) .nil fr d_l_script
  have k13 : Kept P w K mg base (13 + 1) "_law_is_int" 3 F_l_is_int := kept_def (k := 13) false F13 s_l_is_int g13 B13 rfl kept_nil .nil fr d_l_is_int
  have k14 : Kept P w K mg base (14 + 1) "_law_is_pattern" 1 F_l_is_pattern := kept_def (k := 14) false F14 s_l_is_pattern g14 B14 rfl (kept_cons (k13.mono (by omega)) kept_nil) .nil fr d_l_is_pattern
  have k15 : Kept P w K mg base (15 + 1) "_law_is_row" 2 F_l_is_row := kept_def (k := 15) false F15 s_l_is_row g15 B15 rfl (kept_cons (k13.mono (by omega)) (kept_cons (k14.mono (by omega)) kept_nil)) .nil fr d_l_is_row
  have k16 : Kept P w K mg base (16 + 1) "_law_is_script" 1 F_l_is_script := kept_def (k := 16) false F16 s_l_is_script g16 B16 rfl (kept_cons (k15.mono (by omega)) kept_nil) .nil fr d_l_is_script
  have k17 : Kept P w K mg base (17 + 1) "_law_odd" 1 F_l_odd := kept_def (k := 17) false F17 s_l_odd g17 B17 rfl (kept_cons (k10.mono (by omega)) kept_nil) .nil fr d_l_odd
  have k18 : ∀ n : Nat, Kept P w K mg base (18 + n + 1) "_law_spoilt" 2 (F_l_spoilt n) := by
    intro n
    induction n with
    | zero => exact kept_no F18 s_l_spoilt g18 B18
    | succ n ih => exact kept_def (k := 18 + n + 1) false F18 s_l_spoilt g18 B18 rfl (kept_cons ih (kept_cons (k9.mono (by omega)) (kept_cons (k17.mono (by omega)) kept_nil))) .nil fr (d_l_spoilt (F_l_spoilt n))
  have k18 := k18 16
  exact fn_ok (k := 35) false F19 s_law rfl (kept_cons (k6.mono (by omega)) (kept_cons (k7.mono (by omega)) (kept_cons (k18.mono (by omega)) (kept_cons (k16.mono (by omega)) (kept_cons (k14.mono (by omega)) (kept_cons (k11.mono (by omega)) (kept_cons (k12.mono (by omega)) (kept_cons (k8.mono (by omega)) kept_nil)))))))) .nil fr d_law
end K01
set_option Elab.async false
set_option linter.all false
set_option maxRecDepth 100000
set_option maxHeartbeats 8000000
open PySem PySem.W PySem.Calls PyProof.Rows
theorem PySem.Challenge.cw_longfigures_k01_values_recognized_holds : PySem.Challenge.rw_longfigures_k01_values_recognized.Holds := by
  w_on; o_law
  refine HandSHeadRun.head_any (r := OpenLaw.row PySem.Challenge.rw_longfigures_k01_values_recognized) (q := view (OpenLaw.row PySem.Challenge.rw_longfigures_k01_values_recognized).prog [21]) (H := K01.hk) (ob := K01.ob) (M := 4000) (loose := ["is_number", "is_tuple", "is_part", "is_good_pattern", "is_row", "is_good_script", "is_pattern", "is_script", "_law_source", "_law_draw", "_law_of", "_law_pattern", "_law_script", "_law_is_int", "_law_is_pattern", "_law_is_row", "_law_is_script", "_law_odd", "_law_spoilt"]) (d := HandSHeadRun.topDef (OpenLaw.row PySem.Challenge.rw_longfigures_k01_values_recognized).prog 21) (kwd := []) K01.ob_eq
    (by kernel_rfl) (fun s => by kernel_rfl) K01.runHead (by kernel_rfl) (by kernel_rfl) (by kernel_rfl) (by rfl) (by first | assumption | decide +kernel) (by decide +kernel) ⟨rfl, rfl, rfl, rfl, rfl, by decide +kernel⟩ ?hw ?hc
  case hw => w_witness2
  case hc =>
    refine L2.walk_ofE (l := PySem.Challenge.rw_longfigures_k01_values_recognized) (n := 63) (k := 36) (x := "_law_script_here") (CX := L2.CX0) rfl (by decide) (by kernel_rfl) ⟨rfl, by decide, by decide⟩ ?F (fun _ _ _ _ z => z)
    intro w mg fa h Y G hmg0
    obtain ⟨K, KX, c⟩ := Y
    have hmg : mg ("law" : PySem.Str) = some (.ref fa) := by
      have e : (HandSHeadRun.topDef (OpenLaw.row PySem.Challenge.rw_longfigures_k01_values_recognized).prog 21).name = ("law" : PySem.Str) := by kernel_rfl
      rw [← e]
      exact hmg0
    obtain ⟨fd, hb, hF⟩ := K01.facts (P := (PySem.Challenge.rw_longfigures_k01_values_recognized).prog) (w := w) KX G hmg c
    exact ⟨K, fd, DN.spD K 1 K01.F_law, KX, hb, fun H a ns hl hO hS => DN.law_sp hO hS (K01.plain ns hl), fun base _ _ => hF base⟩
