import PyProof.Rows.All
import Wide.All
import OpenK.AllK
import Wide.FinOn
import KE.KDictKeyed
import HandS.Walk
import HandS.WordsExc
import HandS.WordsDict
import HandS.Wide
import HandS.TupAny
import HandS.Deep
import HandS.IsInst
import HandS.TupMul
import HandS.Style
import KE.DataCmp
import KE.SortData
import PyProof.P3In
import HandS.Conv
import HandS.Text
import HandS.Zip
import KE.GoesMore
import KE.GoesEnum
import HandS.Defaults
import HandS.TupSets
import KE.KStateDown
import Lean
import HandS.More
import HandS.Words
import HandS.Head0
import HandS.Head1
import HandS.Head2
import HandS.HeadEnd
import HandS.HeadHook1
import HandS.HeadHook2
import PySem.Challenge.RW_whileatit_k10_lines_that_turn_it
set_option Elab.async false
set_option linter.all false
set_option maxRecDepth 100000
set_option maxHeartbeats 4000000
/-! W1: values, the store, what they are in the heap; readings of expressions and statements by functions of plain data. -/
namespace Wy
open PySem PySem.Spec PyProof.Rows L2

/-! ### plain values -/
/-- a value of a slot: data, a place of the store, a tuple with such places -/
inductive W where
  | d (x : PyData)
  | loc (n : Nat)
  | wt (xs : List W)
/-- what stands at a place of the store -/
inductive Ob where
  | lst (xs : List PyData)
  | dct (kvs : List (PyData × PyData))
abbrev Mu := List Ob
/-- an error: its class, its field -/
structure Xn where
  cls : Str
  fld : Option (Str × PyData)
inductive R (α : Type) where
  | ok (a : α) (m : Mu)
  | exn (x : Xn) (m : Mu)
  | bad
def R.bind {α β : Type} : R α → (α → Mu → R β) → R β
  | .ok a m, f => f a m
  | .exn x m, _ => .exn x m
  | .bad, _ => .bad
inductive SR where
  | next (r : List (Option W)) (m : Mu)
  | ret (keep : Bool) (w : W) (m : Mu)
  | brk (r : List (Option W)) (m : Mu)
  | cnt (r : List (Option W)) (m : Mu)
  | exn (x : Xn) (m : Mu)
  | bad
abbrev Rh := List (Option W)
abbrev FE := Rh → Mu → R W
abbrev FT := Rh → Mu → R Bool
abbrev FA := Rh → Mu → R (List W)
abbrev FS := Rh → Mu → SR
/-- a def as a function -/
abbrev Fn := List W → Mu → R W

/-! ### keys -/
mutual
def keyOf : PyData → NestedKey
  | .none => .none
  | .bool b => .num (if b = true then 1 else 0)
  | .int i => .num i
  | .str x => .text x
  | .tuple xs => .tup (keysOf xs)
  | .list _ => .none
  | .dict _ => .none
def keysOf : List PyData → List NestedKey
  | [] => []
  | x :: xs => keyOf x :: keysOf xs
end
mutual
/-- data that may be a key -/
def keyable : PyData → Bool
  | .none | .bool _ | .int _ | .str _ => true
  | .tuple xs => keyables xs
  | .list _ | .dict _ => false
def keyables : List PyData → Bool
  | [] => true
  | x :: xs => keyable x && keyables xs
end

/-! ### the heap -/
/-- where the heap's facts come from; Z: things that are being made, and not seen -/
structure Pl where
  P : Program
  w : World
  K : PySem.W.Frag
  mg : Str → Option Value
  Z : List Addr
/-- a dict with tuple keys: the keys, where their tuples stand, the values -/
def dcT (P : Program) (w : World) (a : Addr) (kvs : List (NestedKey × Addr × V)) : HO := .ext fun h => ∃ o es ep, h.get? a = some o ∧ o.ExactDict ∧ o.data = .dict es ep ∧
  Paired (fun (p : NestedKey × Addr × V) (e : DictEntry) => e.hash = (nestedKind P w).hash p.1 ∧ e.key = .ref p.2.1 ∧ RelV p.2.2 e.val) kvs es.toList
/-- a list, a tuple that is read and not changed -/
def Off (p : Pl) (B : List Addr) (a : Addr) : Prop := a ∉ B ∧ a ∉ p.Z
def SqLS (p : Pl) (H : Hp) (B : List Addr) (a : Addr) (xs : List V) : Prop := Off p B a ∧ Rd H a (.lst xs)
def SqTS (p : Pl) (H : Hp) (B : List Addr) (a : Addr) (xs : List V) : Prop := (Off p B a ∧ Rd H a (.tup xs)) ∨
  ∃ (o : Obj) (its : Array Value) (n : Nat), p.K.lookup a = some o ∧ o.cls = .type "tuple" ∧ o.data = .seq its n ∧ its.size ≤ sizeLine ∧ Vals xs its.toList
theorem SqLS.sq {p : Pl} {H : Hp} {B : List Addr} {a : Addr} {xs : List V} (h : SqLS p H B a xs) : SqL p.K H a xs := .inl h.2
theorem SqTS.sq {p : Pl} {H : Hp} {B : List Addr} {a : Addr} {xs : List V} (h : SqTS p H B a xs) : SqT p.K H a xs := by
  rcases h with ⟨_, h⟩ | h
  · exact .inl h
  · exact .inr h

mutual
/-- v is the data in the heap H; nothing of it at a place of B -/
inductive DV (p : Pl) (H : Hp) (B : List Addr) : V → PyData → Prop
  | non : DV p H B .non .none
  | bl (b : Bool) : DV p H B (.bl b) (.bool b)
  | int (i : Int) : DV p H B (.int i) (.int i)
  | str (x : Str) : DV p H B (.str x) (.str x)
  | lst {a : Addr} {xs : List V} {ds : List PyData} : SqLS p H B a xs → DVs p H B xs ds → DV p H B (.ref a) (.list ds)
  | tup {a : Addr} {xs : List V} {ds : List PyData} : SqTS p H B a xs → DVs p H B xs ds → DV p H B (.ref a) (.tuple ds)
  | dct {a : Addr} {kvs : List (NestedKey × Addr × V)} {es : List (PyData × PyData)} : Off p B a → Rd H a (dcT p.P p.w a kvs) → DVk p H B kvs es → (a == sysModules) = false → kvs.length ≤ sizeLine → (kvs.map (·.1)).Nodup →
      DV p H B (.ref a) (.dict es)
inductive DVs (p : Pl) (H : Hp) (B : List Addr) : List V → List PyData → Prop
  | nil : DVs p H B [] []
  | cons {v : V} {vs : List V} {d : PyData} {ds : List PyData} : DV p H B v d → DVs p H B vs ds → DVs p H B (v :: vs) (d :: ds)
inductive DVk (p : Pl) (H : Hp) (B : List Addr) : List (NestedKey × Addr × V) → List (PyData × PyData) → Prop
  | nil : DVk p H B [] []
  | cons {k : NestedKey} {a : Addr} {v : V} {kvs : List (NestedKey × Addr × V)} {kd vd : PyData} {es : List (PyData × PyData)} : k = keyOf kd → keyable kd = true → k.depth ≤ 8 → DV p H B (.ref a) kd → DV p H B v vd → DVk p H B kvs es →
      DVk p H B ((k, a, v) :: kvs) ((kd, vd) :: es)
end
mutual
inductive WV (p : Pl) (H : Hp) (B : List Addr) : V → W → Prop
  | d {v : V} {x : PyData} : DV p H B v x → WV p H B v (.d x)
  | loc {n : Nat} {a : Addr} : B[n]? = some a → WV p H B (.ref a) (.loc n)
  | wt {a : Addr} {xs : List V} {ws : List W} : SqTS p H B a xs → WVs p H B xs ws → WV p H B (.ref a) (.wt ws)
inductive WVs (p : Pl) (H : Hp) (B : List Addr) : List V → List W → Prop
  | nil : WVs p H B [] []
  | cons {v : V} {vs : List V} {x : W} {ws : List W} : WV p H B v x → WVs p H B vs ws → WVs p H B (v :: vs) (x :: ws)
end
/-- the heap goes on -/
structure Le (B : List Addr) (H : Hp) (B' : List Addr) (H' : Hp) : Prop where
  keep : ∀ a o, a ∉ B → (∀ ps, o ≠ .tbl ps) → H a = some o → H' a = some o
  trk : ∀ a, H a ≠ none → H' a ≠ none
  ext : ∃ C, B' = B ++ C ∧ ∀ a ∈ C, H a = none
theorem Rd_some {H : Hp} {a : Addr} {u : HO} (h : Rd H a u) : H a ≠ none := by
  rcases h with h | ⟨_, h⟩ <;> rw [h] <;> exact fun z => nomatch z
section
variable {p p' : Pl} {H H1 H2 : Hp} {B B1 B2 : List Addr}
theorem Le.refl : Le B H B H := ⟨fun _ _ _ _ h => h, fun _ h => h, [], by simp, fun _ h => nomatch h⟩
theorem Le.out (l : Le B H B1 H1) {a : Addr} (h : a ∉ B) (s : H a ≠ none) : a ∉ B1 := by
  obtain ⟨C, rfl, hC⟩ := l.ext
  intro z
  rcases List.mem_append.mp z with z | z
  · exact h z
  · exact s (hC a z)
theorem Le.rd (l : Le B H B1 H1) {a : Addr} {u : HO} (h : a ∉ B) (n : ∀ ps, u ≠ .tbl ps) (r : Rd H a u) : Rd H1 a u := by
  rcases r with r | ⟨o, r⟩
  · exact .inl (l.keep a u h n r)
  · exact .inr ⟨o, l.keep a _ h (fun _ z => nomatch z) r⟩
theorem Le.trans (l : Le B H B1 H1) (m : Le B1 H1 B2 H2) : Le B H B2 H2 := by
  refine ⟨fun a u h k r => m.keep a u (l.out h (by rw [r]; exact fun z => nomatch z)) k (l.keep a u h k r), fun a h => m.trk a (l.trk a h), ?_⟩
  obtain ⟨C, rfl, hC⟩ := l.ext
  obtain ⟨C2, rfl, hC2⟩ := m.ext
  refine ⟨C ++ C2, by simp, fun a z => ?_⟩
  rcases List.mem_append.mp z with z | z
  · exact hC a z
  · exact Classical.byContradiction fun e => l.trk a e (hC2 a z)
theorem Le.off (l : Le B H B1 H1) {a : Addr} (h : Off p B a) (s : H a ≠ none) : Off p B1 a := ⟨l.out h.1 s, h.2⟩
theorem dcT_tbl {P : Program} {w : World} {a : Addr} {kvs : List (NestedKey × Addr × V)} (ps : Array Value) : dcT P w a kvs ≠ .tbl ps := fun z => by
  unfold dcT at z
  cases z
theorem SqLS.mono {a : Addr} {xs : List V} (l : Le B H B1 H1) (h : SqLS p H B a xs) : SqLS p H1 B1 a xs := ⟨l.off h.1 (Rd_some h.2), l.rd h.1.1 (fun _ z => nomatch z) h.2⟩
theorem SqTS.mono {a : Addr} {xs : List V} (l : Le B H B1 H1) (h : SqTS p H B a xs) : SqTS p H1 B1 a xs := by
  rcases h with ⟨h, r⟩ | h
  · exact .inl ⟨l.off h (Rd_some r), l.rd h.1 (fun _ z => nomatch z) r⟩
  · exact .inr h
mutual
theorem DV.mono (l : Le B H B1 H1) : ∀ {v : V} {x : PyData}, DV p H B v x → DV p H1 B1 v x
  | _, _, .non => .non
  | _, _, .bl b => .bl b
  | _, _, .int i => .int i
  | _, _, .str x => .str x
  | _, _, .lst h r => .lst (h.mono l) (DVs.mono l r)
  | _, _, .tup h r => .tup (h.mono l) (DVs.mono l r)
  | _, _, .dct h r k s z n => .dct (l.off h (Rd_some r)) (l.rd h.1 dcT_tbl r) (DVk.mono l k) s z n
theorem DVs.mono (l : Le B H B1 H1) : ∀ {v : List V} {x : List PyData}, DVs p H B v x → DVs p H1 B1 v x
  | _, _, .nil => .nil
  | _, _, .cons h r => .cons (DV.mono l h) (DVs.mono l r)
theorem DVk.mono (l : Le B H B1 H1) : ∀ {v : List (NestedKey × Addr × V)} {x : List (PyData × PyData)}, DVk p H B v x → DVk p H1 B1 v x
  | _, _, .nil => .nil
  | _, _, .cons e k z a v r => .cons e k z (DV.mono l a) (DV.mono l v) (DVk.mono l r)
end
mutual
theorem WV.mono (l : Le B H B1 H1) : ∀ {v : V} {x : W}, WV p H B v x → WV p H1 B1 v x
  | _, _, .d h => .d (h.mono l)
  | _, _, .loc (n := n) h => .loc (by
      obtain ⟨C, rfl, _⟩ := l.ext
      rw [List.getElem?_append_left (List.getElem?_eq_some_iff.mp h).1]; exact h)
  | _, _, .wt h r => .wt (h.mono l) (WVs.mono l r)
theorem WVs.mono (l : Le B H B1 H1) : ∀ {v : List V} {x : List W}, WVs p H B v x → WVs p H1 B1 v x
  | _, _, .nil => .nil
  | _, _, .cons h r => .cons (WV.mono l h) (WVs.mono l r)
end
/-- other places: what is off there is off here -/
structure Sub (p : Pl) (B : List Addr) (p' : Pl) (B' : List Addr) : Prop where
  off : ∀ a, Off p' B' a → Off p B a
  P : p.P = p'.P
  w : p.w = p'.w
  K : p.K = p'.K
theorem Sub.b (l : ∀ b ∈ B, b ∈ B1) : Sub p B p B1 := ⟨fun _ h => ⟨fun z => h.1 (l _ z), h.2⟩, rfl, rfl, rfl⟩
theorem SqLS.sub {a : Addr} {xs : List V} (s : Sub p B p' B1) (h : SqLS p' H B1 a xs) : SqLS p H B a xs := ⟨s.off a h.1, h.2⟩
theorem SqTS.sub {a : Addr} {xs : List V} (s : Sub p B p' B1) (h : SqTS p' H B1 a xs) : SqTS p H B a xs := by
  rcases h with ⟨h, r⟩ | h
  · exact .inl ⟨s.off a h, r⟩
  · exact .inr (by rw [s.K]; exact h)
mutual
theorem DV.sub (l : Sub p B p' B1) : ∀ {v : V} {x : PyData}, DV p' H B1 v x → DV p H B v x
  | _, _, .non => .non
  | _, _, .bl b => .bl b
  | _, _, .int i => .int i
  | _, _, .str x => .str x
  | _, _, .lst h r => .lst (h.sub l) (DVs.sub l r)
  | _, _, .tup h r => .tup (h.sub l) (DVs.sub l r)
  | _, _, .dct h r k s z n => .dct (l.off _ h) (by rw [l.P, l.w]; exact r) (DVk.sub l k) s z n
theorem DVs.sub (l : Sub p B p' B1) : ∀ {v : List V} {x : List PyData}, DVs p' H B1 v x → DVs p H B v x
  | _, _, .nil => .nil
  | _, _, .cons h r => .cons (DV.sub l h) (DVs.sub l r)
theorem DVk.sub (l : Sub p B p' B1) : ∀ {v : List (NestedKey × Addr × V)} {x : List (PyData × PyData)}, DVk p' H B1 v x → DVk p H B v x
  | _, _, .nil => .nil
  | _, _, .cons e k z a v r => .cons e k z (DV.sub l a) (DV.sub l v) (DVk.sub l r)
end
end

/-! ### the store -/
def ObR (p : Pl) (H : Hp) (B : List Addr) (a : Addr) : Ob → Prop
  | .lst ds => ∃ xs, H a = some (.lst xs) ∧ DVs p H B xs ds
  | .dct es => ∃ kvs, H a = some (dcT p.P p.w a kvs) ∧ DVk p H B kvs es ∧ (a == sysModules) = false ∧ kvs.length ≤ sizeLine ∧ (kvs.map (·.1)).Nodup
structure So (p : Pl) (H : Hp) (B : List Addr) (m : Mu) : Prop where
  len : B.length = m.length
  nd : B.Nodup
  hid : ∀ a ∈ p.Z, H a ≠ none ∧ a ∉ B
  ob : ∀ (n : Nat) (a : Addr) (o : Ob), B[n]? = some a → m[n]? = some o → ObR p H B a o
/-- the slots -/
structure Sl (p : Pl) (H : Hp) (B : List Addr) (σ : L2.St) (r : Rh) : Prop where
  len : σ.length = r.length
  at_ : ∀ (i : Nat) (x : W), r[i]? = some (some x) → ∃ v, σ[i]? = some (some v) ∧ WV p H B v x
section
variable {p : Pl} {H H1 H2 : Hp} {B B1 B2 : List Addr} {σ : L2.St} {r : Rh} {m : Mu}
theorem Sl.mono (l : Le B H B1 H1) (s : Sl p H B σ r) : Sl p H1 B1 σ r := ⟨s.len, fun i x e => let ⟨v, a, b⟩ := s.at_ i x e; ⟨v, a, b.mono l⟩⟩
theorem Sl.set (s : Sl p H B σ r) {i : Nat} {v : V} {x : W} (h : WV p H B v x) : Sl p H B (σ.set i (some v)) (r.set i (some x)) := by
  refine ⟨by rw [List.length_set, List.length_set, s.len], fun j y e => ?_⟩
  by_cases q : i = j
  · subst q
    by_cases z : i < r.length
    · rw [List.getElem?_set_self z] at e
      cases e
      exact ⟨v, by rw [List.getElem?_set_self (by rw [s.len]; exact z)], h⟩
    · rw [List.getElem?_eq_none (by simpa using z)] at e
      cases e
  · rw [List.getElem?_set_ne q] at e
    obtain ⟨u, a, b⟩ := s.at_ j y e
    exact ⟨u, by rw [List.getElem?_set_ne q]; exact a, b⟩
theorem ObR.some {a : Addr} {o : Ob} (h : ObR p H B a o) : H a ≠ none := by
  cases o with
  | lst ds => obtain ⟨_, h, _⟩ := h; rw [h]; exact fun z => nomatch z
  | dct ds => obtain ⟨_, h, _⟩ := h; rw [h]; exact fun z => nomatch z
theorem So.trk (s : So p H B m) {a : Addr} (h : a ∈ B) : H a ≠ none := by
  obtain ⟨n, hn⟩ := List.mem_iff_getElem?.mp h
  have hl : n < m.length := by rw [← s.len]; exact (List.getElem?_eq_some_iff.mp hn).1
  exact (s.ob n a m[n] hn (by simp [hl])).some
theorem So.out (s : So p H B m) {q : Addr} (hq : H q = none) : Off p B q := ⟨fun h => s.trk h hq, fun h => (s.hid q h).1 hq⟩
/-- a new thing beside the store -/
theorem le_laid {q : Addr} {o : HO} (hq : H q = none) : Le B H B (upd H q o) :=
  ⟨fun a u _ _ r => by
    have ne : a ≠ q := fun z => by subst z; rw [hq] at r; cases r
    rw [upd_ne ne]; exact r,
   fun a h => by
    by_cases z : a = q
    · subst z; rw [upd_same]; exact fun z => nomatch z
    · rw [upd_ne z]; exact h,
   [], by simp, fun _ h => nomatch h⟩
theorem ObR.mono {a : Addr} {o : Ob} (l : Le B H B1 H1) (e : H1 a = H a) (h : ObR p H B a o) : ObR p H1 B1 a o := by
  cases o with
  | lst ds => obtain ⟨xs, h, d⟩ := h; exact ⟨xs, by rw [e]; exact h, d.mono l⟩
  | dct ds => obtain ⟨xs, h, d, z⟩ := h; exact ⟨xs, by rw [e]; exact h, d.mono l, z⟩
theorem So.laid (s : So p H B m) {q : Addr} {o : HO} (hq : H q = none) : So p (upd H q o) B m :=
  ⟨s.len, s.nd, fun a h => ⟨(le_laid (B := B) hq).trk a (s.hid a h).1, (s.hid a h).2⟩, fun n a x h1 h2 => (s.ob n a x h1 h2).mono (le_laid hq) (upd_ne fun z => by subst z; exact s.trk (List.mem_of_getElem? h1) hq)⟩
/-- a new thing in the store -/
theorem le_new {q : Addr} {o : HO} (hq : H q = none) : Le B H (B ++ [q]) (upd H q o) :=
  ⟨(le_laid (B := B) hq).keep, (le_laid (B := B) hq).trk, [q], rfl, fun a h => by
    have e : a = q := by simpa using h
    rw [e]; exact hq⟩
theorem So.new (s : So p H B m) {q : Addr} {o : HO} {x : Ob} (hq : H q = none) (h : ObR p (upd H q o) (B ++ [q]) q x) : So p (upd H q o) (B ++ [q]) (m ++ [x]) := by
  refine ⟨by simp [s.len], ?_, fun a h => ⟨(le_new (B := B) hq).trk a (s.hid a h).1, fun z => ?_⟩, fun n a y h1 h2 => ?_⟩
  rotate_left
  · rcases List.mem_append.mp z with z | z
    · exact (s.hid a h).2 z
    · have e : a = q := by simpa using z
      rw [e] at h
      exact (s.hid q h).1 hq
  rotate_left
  · rw [List.nodup_append]
    refine ⟨s.nd, by simp, fun a ha b hb e => ?_⟩
    have eb : b = q := by simpa using hb
    rw [e, eb] at ha
    exact s.trk ha hq
  · by_cases z : n < B.length
    · rw [List.getElem?_append_left z] at h1
      rw [List.getElem?_append_left (by rw [← s.len]; exact z)] at h2
      exact (s.ob n a y h1 h2).mono (le_new hq) (upd_ne fun z => by subst z; exact s.trk (List.mem_of_getElem? h1) hq)
    · rw [List.getElem?_append_right (by omega)] at h1
      rw [List.getElem?_append_right (by rw [← s.len]; omega)] at h2
      have hz : n - B.length = 0 := by
        have := (List.getElem?_eq_some_iff.mp h1).1
        simp at this; omega
      rw [← s.len, hz] at h2
      rw [hz] at h1
      simp at h1 h2
      subst h1; subst h2
      exact h
/-- a thing of the store is changed -/
theorem le_set {a : Addr} {o : HO} (ha : a ∈ B) : Le B H B (upd H a o) :=
  ⟨fun b u hb _ r => by
    have ne : b ≠ a := fun z => by subst z; exact hb ha
    rw [upd_ne ne]; exact r,
   fun b h => by
    by_cases z : b = a
    · subst z; rw [upd_same]; exact fun z => nomatch z
    · rw [upd_ne z]; exact h,
   [], by simp, fun _ h => nomatch h⟩
theorem So.set (s : So p H B m) {n : Nat} {a : Addr} {o : HO} {x : Ob} (hn : B[n]? = some a) (h : ObR p (upd H a o) B a x) : So p (upd H a o) B (m.set n x) := by
  refine ⟨by simp [s.len], s.nd, fun b h => ⟨(le_set (List.mem_of_getElem? hn)).trk b (s.hid b h).1, (s.hid b h).2⟩, fun j b y h1 h2 => ?_⟩
  by_cases z : n = j
  · subst z
    rw [hn] at h1
    cases h1
    have hl : n < m.length := by rw [← s.len]; exact (List.getElem?_eq_some_iff.mp hn).1
    rw [List.getElem?_set_self hl] at h2
    cases h2
    exact h
  · rw [List.getElem?_set_ne z] at h2
    refine (s.ob j b y h1 h2).mono (le_set (List.mem_of_getElem? hn)) (upd_ne fun e => z ?_)
    subst e
    have hj := (List.getElem?_eq_some_iff.mp h1)
    have hi := (List.getElem?_eq_some_iff.mp hn)
    obtain ⟨j1, j2⟩ := hj
    obtain ⟨i1, i2⟩ := hi
    exact (List.getElem_inj s.nd).mp (i2.trans j2.symm)
theorem So.obj (s : So p H B m) {n : Nat} {a : Addr} (h : B[n]? = some a) : ∃ o, m[n]? = some o ∧ ObR p H B a o := by
  have hl : n < m.length := by rw [← s.len]; exact (List.getElem?_eq_some_iff.mp h).1
  exact ⟨m[n], by simp [hl], s.ob n a _ h (by simp [hl])⟩
end
end Wy

set_option Elab.async false
set_option linter.all false
set_option maxRecDepth 100000
set_option maxHeartbeats 4000000
/-! W2: the readings; names, constants, displays, operators, tests. -/
namespace Wy
open PySem PySem.Spec PyProof.Rows L2
abbrev Xs := L2.St

/-- the error x, as its class and its own dict lie -/
def XnR (p : Pl) (x : Xn) (cls : Value) (d : Option Addr) (H : Hp) : Prop :=
  (∃ C, p.mg x.cls = some (.ref C) ∧ cls = .ref C) ∧ match x.fld with
    | none => d = none
    | some (n, f) => ∃ dd v, d = some dd ∧ H dd = some (.xd [(n, v)]) ∧ DV p H [] v f
/-- what is wanted of b behind a run that comes to r -/
def Post {α β : Type} (Rel : Hp → List Addr → β → α → Prop) (p : Pl) (E : XK) (B : List Addr) (H : Hp) (r : R α) (Q : β → Hp → Prop) : Prop :=
  match r with
  | .ok a m => ∀ b H' B', Le B H B' H' → So p H' B' m → Rel H' B' b a → Q b H'
  | .exn x m => ∀ cls d H' B', Le B H B' H' → So p H' B' m → XnR p x cls d H' → E cls d H'
  | .bad => False
abbrev plX (X : Cx) (Z : List Addr) : Pl := ⟨X.prog, X.w, X.K, X.mg, Z⟩
def rd {α β : Type} (Rel : Pl → Hp → List Addr → β → α → Prop) (X : Cx) (E : XK) (f : Rh → Mu → R α) : Xs → Hp → (β → Hp → Prop) → Prop :=
  fun σ H Q => ∃ Z B r m, Sl (plX X Z) H B σ r ∧ So (plX X Z) H B m ∧ Post (Rel (plX X Z)) (plX X Z) E B H (f r m) Q
section
variable {α β γ δ : Type} {RelA : Hp → List Addr → β → α → Prop} {RelG : Hp → List Addr → δ → γ → Prop} {p : Pl} {E : XK} {B B1 : List Addr} {H H1 : Hp} {Q : δ → Hp → Prop} {Q1 : β → Hp → Prop}
theorem Post.mono {r : R γ} (l : Le B H B1 H1) (h : Post RelG p E B H r Q) : Post RelG p E B1 H1 r Q := by
  cases r with
  | ok a m => exact fun b H' B' l2 s q => h b H' B' (l.trans l2) s q
  | exn x m => exact fun c d H' B' l2 s q => h c d H' B' (l.trans l2) s q
  | bad => exact h
theorem Post.step {r : R α} {g : α → Mu → R γ} (h : Post RelG p E B H (r.bind g) Q) (k : ∀ a m1 b H1 B1, Le B H B1 H1 → So p H1 B1 m1 → RelA H1 B1 b a → Post RelG p E B1 H1 (g a m1) Q → Q1 b H1) : Post RelA p E B H r Q1 := by
  cases r with
  | ok a m => exact fun b H' B' l s q => k a m b H' B' l s q (h.mono l)
  | exn x m => exact h
  | bad => exact h
theorem Post.done {a : γ} {m : Mu} {b : δ} (h : Post RelG p E B H (.ok a m) Q) (s : So p H B m) (r : RelG H B b a) : Q b H := h b H B Le.refl s r
theorem Post.fresh {a : γ} {m : Mu} {b : δ} {q : Addr} {o : HO} (h : Post RelG p E B H (.ok a m) Q) (s : So p H B m) (hq : H q = none) (r : RelG (upd H q o) B b a) : Q b (upd H q o) :=
  h b _ B (le_laid hq) (s.laid hq) r
end
abbrev RE (p : Pl) : Hp → List Addr → V → W → Prop := fun H B => WV p H B
abbrev RT : Pl → Hp → List Addr → Bool → Bool → Prop := fun _ _ _ b c => b = c
abbrev RA (p : Pl) : Hp → List Addr → List V → List W → Prop := fun H B => WVs p H B
def WE (X : Cx) (E : XK) (e : Expr) (f : FE) : Prop := PE X e (rd RE X E f)
def WT (X : Cx) (E : XK) (e : Expr) (f : FT) : Prop := PT X e (rd RT X E f)
def WA (X : Cx) (E : XK) (es : List Expr) (f : FA) : Prop := PA X es (rd RA X E f)
/-- an operation by values -/
abbrev PostE (p : Pl) (E : XK) (B : List Addr) (H : Hp) (r : R W) (Q : VK) : Prop := Post (RE p) p E B H r Q
def OpW (X : Cx) (E : XK) (f : Value → Value → Sem Value) (g : W → W → Mu → R W) : Prop :=
  OpR X f (fun x y H Q => ∃ Z B m a b, So (plX X Z) H B m ∧ WV (plX X Z) H B x a ∧ WV (plX X Z) H B y b ∧ PostE (plX X Z) E B H (g a b m) Q)
theorem OpW.of {X : Cx} {E : XK} {f : Value → Value → Sem Value} {g : W → W → Mu → R W} {r : R2} (h : OpR X f r)
    (c : ∀ Z B m a b H x y Q, So (plX X Z) H B m → WV (plX X Z) H B x a → WV (plX X Z) H B y b → PostE (plX X Z) E B H (g a b m) Q → r x y H Q) : OpW X E f g := by
  rintro pins s σ H x y v u Q I rx ry ⟨Z, B, m, a, b, so, ha, hb, q⟩
  exact h pins s σ H x y v u Q I rx ry (c Z B m a b H x y Q so ha hb q)

/-! ### reading through the store -/
def dr (m : Mu) : W → Option PyData
  | .d x => some x
  | .loc n => match m[n]? with
    | some (.lst ds) => some (.list ds)
    | some (.dct es) => some (.dict es)
    | none => none
  | .wt _ => none
section
variable {p : Pl} {H : Hp} {B : List Addr} {m : Mu}
abbrev Pl.z (p : Pl) : Pl := { p with Z := [] }
theorem Sub.z : Sub p.z [] p B := ⟨fun _ _ => ⟨by simp, by simp⟩, rfl, rfl, rfl⟩
theorem DV.nil {v : V} {x : PyData} (h : DV p H B v x) : DV p.z H [] v x := DV.sub Sub.z h
theorem DVs.nil' {v : List V} {x : List PyData} (h : DVs p H B v x) : DVs p.z H [] v x := DVs.sub Sub.z h
theorem DVk.nil' {v : List (NestedKey × Addr × V)} {x : List (PyData × PyData)} (h : DVk p H B v x) : DVk p.z H [] v x := DVk.sub Sub.z h
theorem WV.dr {v : V} {w : W} {x : PyData} (h : WV p H B v w) (s : So p H B m) (e : dr m w = some x) : DV p.z H [] v x := by
  cases h with
  | d h =>
    have e' := Option.some.inj e
    subst e'
    exact h.nil
  | @loc n a h =>
    obtain ⟨o, ho, r⟩ := s.obj h
    have e1 : (match m[n]? with | some (.lst ds) => some (PyData.list ds) | some (.dct es) => some (.dict es) | none => none) = some x := e
    rw [ho] at e1
    cases o with
    | lst ds =>
      cases e1
      obtain ⟨xs, h1, h2⟩ := r
      exact .lst ⟨⟨by simp, by simp⟩, .inl h1⟩ h2.nil'
    | dct es =>
      cases e1
      obtain ⟨kvs, h1, h2, h3, h4⟩ := r
      exact .dct ⟨by simp, by simp⟩ (.inl h1) h2.nil' h3 h4.1 h4.2
  | wt _ _ => cases e
mutual
theorem DV.dp : ∀ {v : V} {x : PyData}, DV p H B v x → x.canLay0 = true → Dp p.K H v x
  | _, _, .non, _ => .non
  | _, _, .bl b, _ => .bl b
  | _, _, .int i, _ => .int i
  | _, _, .str x, _ => .str x
  | _, _, .lst h r, c => .lst h.sq (DVs.dp r (by simpa [PyData.canLay0] using c))
  | _, _, .tup h r, c => .tup h.sq (DVs.dp r (by simpa [PyData.canLay0] using c))
  | _, _, .dct _ _ _ _ _ _, c => by simp [PyData.canLay0] at c
theorem DVs.dp : ∀ {v : List V} {x : List PyData}, DVs p H B v x → PyData.canLayAll0 x = true → DpAll p.K H v x
  | _, _, .nil, _ => .nil
  | _, _, .cons h r, c => by
    have c' := Bool.and_eq_true_iff.mp (by simpa [PyData.canLayAll0] using c)
    exact .cons (DV.dp h c'.1) (DVs.dp r c'.2)
end
theorem DVs.length : ∀ {v : List V} {x : List PyData}, DVs p H B v x → v.length = x.length
  | _, _, .nil => rfl
  | _, _, .cons _ r => congrArg (· + 1) (DVs.length r)
theorem WVs.length : ∀ {v : List V} {x : List W}, WVs p H B v x → v.length = x.length
  | _, _, .nil => rfl
  | _, _, .cons _ r => congrArg (· + 1) (WVs.length r)
theorem DVs.get : ∀ {vs : List V} {xs : List PyData} {i : Nat} {x : PyData}, DVs p H B vs xs → xs[i]? = some x → ∃ v, vs[i]? = some v ∧ DV p H B v x
  | _, _, _, _, .nil, e => by simp at e
  | _, _, 0, _, .cons r _, e => by simp at e; subst e; exact ⟨_, rfl, r⟩
  | _, _, i + 1, x, .cons _ t, e => by
    obtain ⟨u, h1, h2⟩ := DVs.get (i := i) (x := x) t (by simpa using e)
    exact ⟨u, by simpa using h1, h2⟩
theorem DVs.append : ∀ {xs ys : List V} {us ws : List PyData}, DVs p H B xs us → DVs p H B ys ws → DVs p H B (xs ++ ys) (us ++ ws)
  | _, _, _, _, .nil, s => s
  | _, _, _, _, .cons r t, s => .cons r (DVs.append t s)
theorem DVs.take : ∀ {xs : List V} {us : List PyData} (n : Nat), DVs p H B xs us → DVs p H B (xs.take n) (us.take n)
  | _, _, 0, _ => .nil
  | _, _, _ + 1, .nil => .nil
  | _, _, n + 1, .cons r t => .cons r (DVs.take n t)
theorem DVs.drop : ∀ {xs : List V} {us : List PyData} (n : Nat), DVs p H B xs us → DVs p H B (xs.drop n) (us.drop n)
  | _, _, 0, r => r
  | _, _, _ + 1, .nil => .nil
  | _, _, n + 1, .cons _ t => DVs.drop n t
theorem DVs.set {x : V} {u : PyData} (r : DV p H B x u) : ∀ {xs : List V} {us : List PyData} (i : Nat), DVs p H B xs us → DVs p H B (xs.set i x) (us.set i u)
  | _, _, _, .nil => .nil
  | _, _, 0, .cons _ t => .cons r t
  | _, _, i + 1, .cons q t => .cons q (DVs.set r i t)
/-- a tuple of data is data -/
theorem WVs.data : ∀ {vs : List V} {ws : List W} {ds : List PyData}, WVs p H B vs ws → ws = ds.map W.d → DVs p H B vs ds
  | _, _, [], .nil, _ => .nil
  | _, _, [], .cons _ _, e => by cases e
  | _, _, _ :: _, .nil, e => by cases e
  | _, _, d :: ds, .cons h r, e => by
    rw [List.map_cons] at e
    obtain ⟨e1, e2⟩ := List.cons.inj e
    subst e1
    cases h with
    | d h => exact .cons h (WVs.data r e2)
/-- .. and where each is data -/
def allD : List W → Option (List PyData)
  | [] => some []
  | .d x :: r => (allD r).map (x :: ·)
  | _ :: _ => none
theorem allD_map : ∀ {ws : List W} {ds : List PyData}, allD ws = some ds → ws = ds.map W.d
  | [], ds, h => by cases h; rfl
  | .d x :: r, ds, h => by
    obtain ⟨es, h1, h2⟩ := Option.map_eq_some_iff.mp (show (allD r).map (x :: ·) = some ds from h)
    subst h2
    rw [List.map_cons, ← allD_map h1]
  | .loc _ :: _, _, h => by cases h
  | .wt _ :: _, _, h => by cases h
/-- a tuple of values -/
def mkT (ws : List W) : W := match allD ws with
  | some ds => .d (.tuple ds)
  | none => .wt ws
theorem WV.mkT {a : Addr} {xs : List V} {ws : List W} (h : SqTS p H B a xs) (r : WVs p H B xs ws) : WV p H B (.ref a) (mkT ws) := by
  unfold Wy.mkT
  cases e : allD ws with
  | none => exact .wt h r
  | some ds => exact .d (.tup h (r.data (allD_map e)))
end

/-! ### names, constants -/
section
variable {X : Cx} {E : XK} {e a b c : Expr} {es : List Expr} {fa fb fc : FE} {pos : Pos}
def fVar (i : Nat) : FE := fun r m => match r[i]? with
  | some (some w) => .ok w m
  | _ => .bad
theorem we_var {i : Nat} (h : PE X e (tVar i)) : WE X E e (fVar i) := ⟨fun pins s σ H Q I ⟨Z, B, r, m, sl, so, q⟩ => h.run pins s σ H Q I (by
    unfold fVar at q
    cases hr : r[i]? with
    | none => rw [hr] at q; exact q.elim
    | some o =>
      cases o with
      | none => rw [hr] at q; exact q.elim
      | some w =>
        rw [hr] at q
        obtain ⟨v, hv, hw⟩ := sl.at_ i w hr
        exact ⟨v, hv, Post.done q so hw⟩)⟩
def fC (x : PyData) : FE := fun _ m => .ok (.d x) m
theorem we_cst {v : V} {x : PyData} (h : PE X e (tC v)) (r : ∀ Z H B, DV (plX X Z) H B v x) : WE X E e (fC x) := ⟨fun pins s σ H Q I ⟨Z, B, _, m, sl, so, q⟩ => h.run pins s σ H Q I (Post.done q so (.d (r Z H B)))⟩
theorem we_int {i j pos} : WE X E (.Constant (.int i) j pos) (fC (.int i)) := we_cst pe_int fun _ _ _ => .int _
theorem we_bl {b j pos} : WE X E (.Constant (.bool b) j pos) (fC (.bool b)) := we_cst pe_bl fun _ _ _ => .bl _
theorem we_non {j pos} : WE X E (.Constant .none j pos) (fC .none) := we_cst pe_non fun _ _ _ => .non
theorem we_str {x j pos} : WE X E (.Constant (.str x) j pos) (fC (.str x)) := we_cst pe_str fun _ _ _ => .str _
theorem we_neg {i j p1 p2} : WE X E (.UnaryOp .USub (.Constant (.int i) j p1) p2) (fC (.int (-i))) := ⟨fun pins s σ H Q I ⟨Z, B, _, m, sl, so, q⟩ =>
  (pe_un un_neg pe_int).run pins s σ H Q I ⟨_, rfl, Post.done q so (.d (.int _))⟩⟩

/-! ### arguments, displays -/
def fNil : FA := fun _ m => .ok [] m
def fCons (f : FE) (g : FA) : FA := fun r m => (f r m).bind fun w m1 => (g r m1).bind fun ws m2 => .ok (w :: ws) m2
theorem wa_nil : WA X E [] fNil := ⟨fun pos pins s σ H Q I ⟨Z, B, r, m, sl, so, q⟩ => pa_nil.run pos pins s σ H Q I (Post.done q so .nil)⟩
theorem wa_cons {f : FE} {g : FA} (ha : WE X E e f) (hr : WA X E es g) (hs : starEach (e :: es) X.env = (false, eval e X.env) :: starEach es X.env := by rfl) : WA X E (e :: es) (fCons f g) :=
  ⟨fun pos pins s σ H Q I ⟨Z, B, r, m, sl, so, q⟩ => (pa_cons ha hr hs).run pos pins s σ H Q I
    ⟨Z, B, r, m, sl, so, q.step fun w m1 x H1 B1 l1 s1 r1 q1 => ⟨Z, B1, r, m1, sl.mono l1, s1, q1.step fun ws m2 xs H2 B2 l2 s2 r2 q2 => Post.done q2 s2 (.cons (r1.mono l2) r2)⟩⟩⟩
def fTup (g : FA) : FE := fun r m => (g r m).bind fun ws m1 => if ws.length ≤ 1000 then .ok (mkT ws) m1 else .bad
theorem le1000 {n : Nat} (h : n ≤ 1000) : n ≤ sizeLine := Nat.le_of_lt (small1000 h)
theorem we_tup {g : FA} {x1} (h : WA X E es g) : WE X E (.Tuple es x1 pos) (fTup g) := ⟨fun pins s σ H Q I ⟨Z, B, r, m, sl, so, q⟩ => (pe_tup h).run pins s σ H Q I
    ⟨Z, B, r, m, sl, so, q.step fun ws m1 xs H1 B1 l1 s1 r1 q1 => by
      by_cases z : ws.length ≤ 1000
      · rw [if_pos z] at q1
        refine ⟨le1000 (by rw [r1.length]; exact z), fun t ht => Post.fresh q1 s1 ht (.mkT (.inl ⟨s1.out ht, .inl upd_same⟩) (r1.mono (le_laid ht)))⟩
      · rw [if_neg z] at q1
        exact q1.elim⟩⟩
/-- a list that is read alone -/
def fLst (g : FA) : FE := fun r m => (g r m).bind fun ws m1 => match allD ws with
  | some ds => if ds.length ≤ 1000 then .ok (.d (.list ds)) m1 else .bad
  | none => .bad
theorem we_lst {g : FA} (h : WA X E es g) : WE X E (.List es pos) (fLst g) := ⟨fun pins s σ H Q I ⟨Z, B, r, m, sl, so, q⟩ => (pe_lst h).run pins s σ H Q I
    ⟨Z, B, r, m, sl, so, q.step fun ws m1 xs H1 B1 l1 s1 r1 q1 => by
      cases ea : allD ws with
      | none => rw [ea] at q1; exact q1.elim
      | some ds =>
        rw [ea] at q1
        have rd := r1.data (allD_map ea)
        by_cases z : ds.length ≤ 1000
        · replace q1 : PostE (plX X Z) E B1 H1 (if ds.length ≤ 1000 then .ok (.d (.list ds)) m1 else .bad) Q := q1
          rw [if_pos z] at q1
          refine ⟨le1000 (by rw [rd.length]; exact z), fun t ht => Post.fresh q1 s1 ht (.d (.lst ⟨s1.out ht, .inl upd_same⟩ (rd.mono (le_laid ht))))⟩
        · replace q1 : PostE (plX X Z) E B1 H1 (if ds.length ≤ 1000 then .ok (.d (.list ds)) m1 else .bad) Q := q1
          rw [if_neg z] at q1
          exact q1.elim⟩⟩
/-- a list that will be changed -/
def fLstN (g : FA) : FE := fun r m => (g r m).bind fun ws m1 => match allD ws with
  | some ds => if ds.length ≤ 1000 then .ok (.loc m1.length) (m1 ++ [.lst ds]) else .bad
  | none => .bad
theorem Post.new {p : Pl} {E : XK} {B : List Addr} {H : Hp} {m : Mu} {ob : Ob} {q : Addr} {o : HO} {Q : VK} (h : PostE p E B H (.ok (.loc m.length) (m ++ [ob])) Q) (s : So p H B m) (hq : H q = none) (r : ObR p (upd H q o) (B ++ [q]) q ob) : Q (.ref q) (upd H q o) :=
  h _ _ (B ++ [q]) (le_new hq) (s.new hq r) (.loc (by rw [← s.len]; simp))
theorem we_lstN {g : FA} (h : WA X E es g) : WE X E (.List es pos) (fLstN g) := ⟨fun pins s σ H Q I ⟨Z, B, r, m, sl, so, q⟩ => (pe_lst h).run pins s σ H Q I
    ⟨Z, B, r, m, sl, so, q.step fun ws m1 xs H1 B1 l1 s1 r1 q1 => by
      cases ea : allD ws with
      | none => rw [ea] at q1; exact q1.elim
      | some ds =>
        rw [ea] at q1
        have rd := r1.data (allD_map ea)
        replace q1 : PostE (plX X Z) E B1 H1 (if ds.length ≤ 1000 then .ok (.loc m1.length) (m1 ++ [.lst ds]) else .bad) Q := q1
        by_cases z : ds.length ≤ 1000
        · rw [if_pos z] at q1
          refine ⟨le1000 (by rw [rd.length]; exact z), fun t ht => Post.new q1 s1 ht ⟨xs, upd_same, rd.mono (le_new ht)⟩⟩
        · rw [if_neg z] at q1
          exact q1.elim⟩⟩

/-! ### operators -/
def fBin (g : W → W → Mu → R W) (fa fb : FE) : FE := fun r m => (fa r m).bind fun a m1 => (fb r m1).bind fun b m2 => g a b m2
theorem we_bin {op : Operator} {g : W → W → Mu → R W} (ho : OpW X E (binaryOp op) g) (ha : WE X E a fa) (hb : WE X E b fb) : WE X E (.BinOp a op b pos) (fBin g fa fb) :=
  ⟨fun pins s σ H Q I ⟨Z, B, r, m, sl, so, q⟩ => (pe_op ho ha hb).run pins s σ H Q I
    ⟨Z, B, r, m, sl, so, q.step fun wa m1 x H1 B1 l1 s1 r1 q1 => ⟨Z, B1, r, m1, sl.mono l1, s1, q1.step fun wb m2 y H2 B2 l2 s2 r2 q2 => ⟨Z, B2, m2, wa, wb, s2, r1.mono l2, r2, q2⟩⟩⟩⟩
theorem we_cmp {op : CmpOp} {g : W → W → Mu → R W} (ho : OpW X E (compareOp op) g) (ha : WE X E a fa) (hb : WE X E b fb) (hm : behindInMarks op b = false) : WE X E (.Compare a [op] [b] pos) (fBin g fa fb) :=
  ⟨fun pins s σ H Q I ⟨Z, B, r, m, sl, so, q⟩ => (pe_cmpR ho ha hb hm).run pins s σ H Q I
    ⟨Z, B, r, m, sl, so, q.step fun wa m1 x H1 B1 l1 s1 r1 q1 => ⟨Z, B1, r, m1, sl.mono l1, s1, q1.step fun wb m2 y H2 B2 l2 s2 r2 q2 => ⟨Z, B2, m2, wa, wb, s2, r1.mono l2, r2, q2⟩⟩⟩⟩
/-- a comparison of three -/
def fChain (g g' : W → W → Mu → R W) (fa fb fc : FE) : FE := fun r m => (fa r m).bind fun a m1 => (fb r m1).bind fun b m2 => (g a b m2).bind fun k m3 => match k with
  | .d (.bool true) => (fc r m3).bind fun c m4 => g' b c m4
  | .d (.bool false) => .ok (.d (.bool false)) m3
  | _ => .bad
theorem bl_inv {p : Pl} {H : Hp} {B : List Addr} {v : V} {k : Bool} (h : WV p H B v (.d (.bool k))) : v = .bl k := by
  cases h with
  | d h => cases h; rfl
theorem int_inv {p : Pl} {H : Hp} {B : List Addr} {v : V} {k : Int} (h : DV p H B v (.int k)) : v = .int k := by cases h; rfl
theorem str_inv {p : Pl} {H : Hp} {B : List Addr} {v : V} {k : Str} (h : DV p H B v (.str k)) : v = .str k := by cases h; rfl
theorem we_chain {op op' : CmpOp} {g g' : W → W → Mu → R W} (ho : OpW X E (compareOp op) g) (ho' : OpW X E (compareOp op') g') (ha : WE X E a fa) (hb : WE X E b fb) (hc : WE X E c fc)
    (hm : lastMarks [op, op'] [b, c] = false := by with_unfolding_all rfl) : WE X E (.Compare a [op, op'] [b, c] pos) (fChain g g' fa fb fc) :=
  ⟨fun pins s σ H Q I ⟨Z, B, r, m, sl, so, q⟩ => (pe_chain ho ho' ha hb hc hm).run pins s σ H Q I
    ⟨Z, B, r, m, sl, so, q.step fun wa m1 x H1 B1 l1 s1 r1 q1 => ⟨Z, B1, r, m1, sl.mono l1, s1, q1.step fun wb m2 y H2 B2 l2 s2 r2 q2 => ⟨Z, B2, m2, wa, wb, s2, r1.mono l2, r2, q2.step fun k m3 z H3 B3 l3 s3 r3 q3 => by
      split at q3
      · have e := bl_inv r3
        refine ⟨true, e, ?_⟩
        rw [if_pos rfl]
        exact ⟨Z, B3, r, m3, sl.mono (l1.trans (l2.trans l3)), s3, q3.step fun wc m4 y4 H4 B4 l4 s4 r4 q4 => ⟨Z, B4, m4, wb, wc, s4, r2.mono (l3.trans l4), r4, q4⟩⟩
      · have e := bl_inv r3
        refine ⟨false, e, ?_⟩
        rw [if_neg Bool.false_ne_true]
        exact Post.done q3 s3 (.d (.bl _))
      · exact q3.elim⟩⟩⟩⟩
/-- a value that is True or False, as a test -/
def fTb (f : FE) : FT := fun r m => (f r m).bind fun w m1 => match w with
  | .d (.bool k) => .ok k m1
  | _ => .bad
theorem wt_val {f : FE} (h : WE X E e f) (he : ∀ whole, isTrue e X.env whole = (do let v ← whole; standAt e.pos; holding [v] (truthy v)) := by intro _; rfl) : WT X E e (fTb f) :=
  ⟨fun pins s σ H Q I ⟨Z, B, r, m, sl, so, q⟩ => (pt_val h he).run pins s σ H Q I
    ⟨Z, B, r, m, sl, so, q.step fun w m1 x H1 B1 l1 s1 r1 q1 => by
      split at q1
      · exact ⟨_, bl_inv r1, Post.done q1 s1 rfl⟩
      · exact q1.elim⟩⟩
theorem wt_cmp {op : CmpOp} {g : W → W → Mu → R W} (ho : OpW X E (compareOp op) g) (ha : WE X E a fa) (hb : WE X E b fb) (hm : behindInMarks op b = false) : WT X E (.Compare a [op] [b] pos) (fTb (fBin g fa fb)) :=
  ⟨fun pins s σ H Q I ⟨Z, B, r, m, sl, so, q⟩ => (pt_cmpR ho ha hb hm).run pins s σ H Q I (by
    have q' : Post (RT (plX X Z)) (plX X Z) E B H ((fBin g fa fb r m).bind fun w m1 => match w with | .d (.bool k) => .ok k m1 | _ => .bad) Q := q
    unfold fBin at q'
    refine ⟨Z, B, r, m, sl, so, ?_⟩
    have asc : ∀ {α β γ : Type} (x : R α) (f : α → Mu → R β) (g : β → Mu → R γ), (x.bind f).bind g = x.bind fun a m => (f a m).bind g := fun x f g => by cases x <;> rfl
    rw [asc] at q'
    refine q'.step fun wa m1 x H1 B1 l1 s1 r1 q1 => ⟨Z, B1, r, m1, sl.mono l1, s1, ?_⟩
    rw [asc] at q1
    refine q1.step fun wb m2 y H2 B2 l2 s2 r2 q2 => ⟨Z, B2, m2, wa, wb, s2, r1.mono l2, r2, ?_⟩
    refine q2.step fun w m3 z H3 B3 l3 s3 r3 q3 => ?_
    split at q3
    · exact ⟨_, bl_inv r3, Post.done q3 s3 rfl⟩
    · exact q3.elim)⟩
end
end Wy

set_option Elab.async false
set_option linter.all false
set_option maxRecDepth 100000
set_option maxHeartbeats 4000000
/-! W3: operations on values. -/
namespace Wy
open PySem PySem.Spec PyProof.Rows L2

def on2 (m : Mu) (a b : W) (k : PyData → PyData → R W) : R W := match dr m a, dr m b with
  | some x, some y => k x y
  | _, _ => .bad
theorem OpW.data {X : Cx} {E : XK} {f : Value → Value → Sem Value} {g : Mu → PyData → PyData → R W}
    (h : ∀ (pins : List (Addr × Obj)) (s : Shared) (σ : Xs) (H : Hp) (x y : V) (v u : Value) (Q : VK) (Z B : List Addr) (m : Mu) (dx dy : PyData), Inv X pins σ H s → RelV x v → RelV y u → So (plX X Z) H B m →
      DV (plX X []) H [] x dx → DV (plX X []) H [] y dy → PostE (plX X Z) E B H (g m dx dy) Q → wpAny (model X.prog X.w) X.A (f v u) (EP X pins σ Q) X.xe s) : OpW X E f (fun a b m => on2 m a b (g m)) := by
  rintro pins s σ H x y v u Q I rx ry ⟨Z, B, m, a, b, so, ha, hb, q⟩
  replace q : PostE (plX X Z) E B H (match dr m a, dr m b with | some x, some y => g m x y | _, _ => .bad) Q := q
  split at q
  · rename_i dx dy e1 e2
    exact h pins s σ H x y v u Q Z B m dx dy I rx ry so (ha.dr so e1) (hb.dr so e2) q
  · exact q.elim
abbrev kInt (i : Int) (m : Mu) : R W := .ok (.d (.int i)) m
abbrev kBl (b : Bool) (m : Mu) : R W := .ok (.d (.bool b)) m
/-- what is new and will not be changed -/
theorem DV.top {p : Pl} {H : Hp} {B : List Addr} {q : Addr} {m : Mu} (so : So p H B m) (hq : H q = none) {xs : List V} {ds : List PyData} (h : DVs p H B xs ds) : DV p (upd H q (.tup xs)) B (.ref q) (.tuple ds) :=
  .tup (.inl ⟨so.out hq, .inl upd_same⟩) (h.mono (le_laid hq))
theorem DV.topL {p : Pl} {H : Hp} {B : List Addr} {q : Addr} {m : Mu} (so : So p H B m) (hq : H q = none) {xs : List V} {ds : List PyData} (h : DVs p H B xs ds) : DV p (upd H q (.lst xs)) B (.ref q) (.list ds) :=
  .lst ⟨so.out hq, .inl upd_same⟩ (h.mono (le_laid hq))

/-! ### + - * ** // % -/
/-- data: as it may stand beside the store -/
def fix (m : Mu) : W → Option PyData
  | .d x => some x
  | .loc n => match m[n]? with
    | some (.lst ds) => some (.list ds)
    | _ => none
  | .wt _ => none
/-- the items of a value that is read, as data that stays -/
theorem WV.items {p : Pl} {H : Hp} {B : List Addr} {m : Mu} {v : V} {w : W} {ds : List PyData} (h : WV p H B v w) (so : So p H B m) (e : fix m w = some (.list ds)) : ∃ a xs, v = .ref a ∧ Rd H a (.lst xs) ∧ DVs p H B xs ds := by
  cases h with
  | d h =>
    cases e
    cases h with
    | lst h r => exact ⟨_, _, rfl, h.2, r⟩
  | @loc n a h =>
    obtain ⟨o, ho, r⟩ := so.obj h
    have e1 : (match m[n]? with | some (.lst ds) => some (PyData.list ds) | _ => none) = some (.list ds) := e
    rw [ho] at e1
    cases o with
    | lst es =>
      cases e1
      obtain ⟨xs, h1, h2⟩ := r
      exact ⟨_, _, rfl, .inl h1, h2⟩
    | dct es => cases e1
  | wt _ _ => cases e
theorem WV.itemsT {p : Pl} {H : Hp} {B : List Addr} {m : Mu} {v : V} {w : W} {ds : List PyData} (h : WV p H B v w) (e : fix m w = some (.tuple ds)) : ∃ a xs, v = .ref a ∧ SqTS p H B a xs ∧ DVs p H B xs ds := by
  cases h with
  | d h =>
    cases e
    cases h with
    | tup h r => exact ⟨_, _, rfl, h, r⟩
  | @loc n a h =>
    have e1 : (match m[n]? with | some (.lst ds) => some (PyData.list ds) | _ => none) = some (.tuple ds) := e
    split at e1 <;> cases e1
  | wt _ _ => cases e
theorem WV.flat {p : Pl} {H : Hp} {B : List Addr} {m : Mu} {v : V} {w : W} {x : PyData} (h : WV p H B v w) (e : fix m w = some x) (n1 : ∀ ds, x ≠ .list ds) : DV p H B v x := by
  cases h with
  | d h => cases e; exact h
  | @loc n a h =>
    have e1 : (match m[n]? with | some (.lst ds) => some (PyData.list ds) | _ => none) = some x := e
    split at e1
    · cases e1; exact absurd rfl (n1 _)
    · cases e1
  | wt _ _ => cases e
def gAdd (a b : W) (m : Mu) : R W := match fix m a, fix m b with
  | some (.int i), some (.int j) => kInt (i + j) m
  | some (.str x), some (.str y) => if x.length + y.length ≤ 1000000 then .ok (.d (.str (x ++ y))) m else .bad
  | some (.tuple xs), some (.tuple ys) => if xs.length + ys.length ≤ 1000000 then .ok (.d (.tuple (xs ++ ys))) m else .bad
  | some (.list xs), some (.list ys) => if xs.length + ys.length ≤ 1000000 then .ok (.d (.list (xs ++ ys))) m else .bad
  | _, _ => .bad
theorem mil : (1000000 : Nat) ≤ sizeLine := by rw [sizeLine_eq]; decide
theorem Rd_raw {P : Program} {w : World} {H : Hp} {h : Heap} {a : Addr} {xs : List V} (r : Rd H a (.lst xs)) (x : HOk P w H h) : ∃ (its : List Value) (n : Nat), Vals xs its ∧ h.get? a = some { cls := .type "list", data := .seq its.toArray n } := by
  obtain ⟨_, its, n, v, e⟩ := r.ok x
  exact ⟨its, n, v, e⟩
section
variable {X : Cx} {E : XK}
theorem ow_add : OpW X E (binaryOp .Add) gAdd := by
  rintro pins s σ H x y v u Q I rx ry ⟨Z, B, m, a, b, so, ha, hb, q⟩
  unfold gAdd at q
  split at q
  · rename_i i j e1 e2
    have h1 := int_inv (ha.flat e1 fun _ z => nomatch z)
    have h2 := int_inv (hb.flat e2 fun _ z => nomatch z)
    exact op_add pins s σ H x y v u Q I rx ry ⟨i, j, h1, h2, Post.done q so (.d (.int _))⟩
  · rename_i i j e1 e2
    have h1 := str_inv (ha.flat e1 fun _ z => nomatch z)
    have h2 := str_inv (hb.flat e2 fun _ z => nomatch z)
    split at q
    · rename_i z
      exact op_add_str pins s σ H x y v u Q I rx ry ⟨i, j, h1, h2, Nat.le_trans z mil, Post.done q so (.d (.str _))⟩
    · exact q.elim
  · rename_i i j e1 e2
    obtain ⟨p1, xs, rfl, s1, d1⟩ := ha.itemsT e1
    obtain ⟨p2, ys, rfl, s2, d2⟩ := hb.itemsT e2
    split at q
    · rename_i z
      refine op_catA pins s σ H _ _ v u Q I rx ry ⟨p1, p2, xs, ys, rfl, rfl, s1.sq, s2.sq, by rw [d1.length, d2.length]; exact Nat.le_trans z mil, fun e => ?_, fun _ e => ?_, fun _ _ t ht => Post.fresh q so ht (.d (DV.top so ht (d1.append d2)))⟩
      · subst e
        cases d1
        exact Post.done q so (.d (.tup s2 d2))
      · subst e
        cases d2
        rw [List.append_nil] at q
        exact Post.done q so (.d (.tup s1 d1))
    · exact q.elim
  · rename_i i j e1 e2
    obtain ⟨p1, xs, rfl, s1, d1⟩ := ha.items so e1
    obtain ⟨p2, ys, rfl, s2, d2⟩ := hb.items so e2
    split at q
    · rename_i z
      cases rx
      cases ry
      obtain ⟨its, n, r1, g1⟩ := Rd_raw s1 I.hok
      obtain ⟨its2, n2, r2, g2⟩ := Rd_raw s2 I.hok
      have z1 := r1.length
      have z2 := r2.length
      have z3 := d1.length
      have z4 := d2.length
      have zz := mil
      refine PySem.P.add_list g1 g2 ?_ (by rw [List.size_toArray, List.size_toArray]; omega)
      have ea : its.toArray ++ its2.toArray = (its ++ its2).toArray := by simp
      rw [ea]
      exact ⟨.ref _, _, I.lnew (t' := s.toks) (r1.append r2) (by rw [List.length_append]; omega), rfl, Post.fresh q so I.fresh (.d (DV.topL so I.fresh (d1.append d2)))⟩
    · exact q.elim
  · exact q.elim
/-- an operation on two ints -/
def gI (C : Int → Int → Bool) (g : Int → Int → PyData) (a b : W) (m : Mu) : R W := match a, b with
  | .d (.int i), .d (.int j) => if C i j = true then .ok (.d (g i j)) m else .bad
  | _, _ => .bad
theorem ow_I {f : Value → Value → Sem Value} {C : Int → Int → Bool} {g : Int → Int → Int} {C' : Int → Int → Prop} (h : OpR X f (rI C' fun i j => .int (g i j))) (c : ∀ i j, C i j = true → C' i j) : OpW X E f (gI C fun i j => .int (g i j)) := by
  refine OpW.of h fun Z B m a b H x y Q so ha hb q => ?_
  unfold gI at q
  split at q
  · rename_i i j
    split at q
    · rename_i z
      cases ha with
      | d ha => cases hb with
        | d hb => exact ⟨i, j, int_inv ha, int_inv hb, c i j z, Post.done q so (.d (.int _))⟩
    · exact q.elim
  · exact q.elim
def cT : Int → Int → Bool := fun _ _ => true
def gSub : W → W → Mu → R W := gI cT fun i j => .int (i - j)
theorem ow_sub : OpW X E (binaryOp .Sub) gSub := ow_I (C' := fun _ _ => True) (fun pins s σ H x y v u Q I rx ry ⟨i, j, a, b, _, q⟩ => op_sub pins s σ H x y v u Q I rx ry ⟨i, j, a, b, q⟩) fun _ _ _ => trivial
def cMul (i j : Int) : Bool := decide (-(2 ^ 64) < i ∧ i < 2 ^ 64) || decide (-(2 ^ 64) < j ∧ j < 2 ^ 64)
def gMulI : W → W → Mu → R W := gI cMul fun i j => .int (i * j)
theorem ow_mulI : OpW X E (binaryOp .Mult) gMulI := ow_I op_mul fun i j h => by
  unfold cMul at h
  rw [Bool.or_eq_true] at h
  rcases h with h | h
  · exact .inl (of_decide_eq_true h)
  · exact .inr (of_decide_eq_true h)
def cPow (i j : Int) : Bool := decide (0 ≤ j ∧ j ≤ 1000000 ∧ i.natAbs < 2 ^ 64)
def gPow : W → W → Mu → R W := gI cPow fun i j => .int (i ^ j.toNat)
theorem ow_pow : OpW X E (binaryOp .Pow) gPow := ow_I op_pow fun i j h => (of_decide_eq_true h : 0 ≤ j ∧ j ≤ 1000000 ∧ i.natAbs < 2 ^ 64)
def cDiv (_ j : Int) : Bool := decide (0 < j ∧ j < 1073741824)
def gFdiv : W → W → Mu → R W := gI cDiv fun i j => .int (i / j)
theorem ow_fdiv : OpW X E (binaryOp .FloorDiv) gFdiv := ow_I op_fdiv fun i j h => (of_decide_eq_true h : 0 < j ∧ j < 1073741824)
def cMod (_ j : Int) : Bool := decide (0 < j)
def gMod : W → W → Mu → R W := gI cMod fun i j => .int (i % j)
theorem ow_mod : OpW X E (binaryOp .Mod) gMod := ow_I op_mod fun i j h => of_decide_eq_true h

/-! ### < <= > >= == != -/
open PySem.W (alike dataLt)
def ltOk (x y : PyData) : Bool := alike x y && (match x with | .none => false | _ => true) && x.canLay0 && y.canLay0 && decide (x.depth ≤ 64)
theorem ltOk_of {x y : PyData} (h : ltOk x y = true) : alike x y = true ∧ x ≠ .none ∧ x.canLay0 = true ∧ y.canLay0 = true ∧ x.depth ≤ 64 := by
  unfold ltOk at h
  simp only [Bool.and_eq_true, decide_eq_true_eq] at h
  obtain ⟨⟨⟨⟨h1, h2⟩, h3⟩, h4⟩, h5⟩ := h
  exact ⟨h1, (by intro e; subst e; simp at h2), h3, h4, h5⟩
def pLt (x y : PyData) : Bool := match x, y with
  | .int i, .int j => decide (i < j)
  | x, y => dataLt x y
def okLt (x y : PyData) : Bool := match x, y with
  | .int _, .int _ => true
  | x, y => ltOk x y
/-- an order by a comparison c of data -/
def gO (c : PyData → PyData → Bool) (a b : W) (m : Mu) : R W := on2 m a b fun x y => if okLt x y = true then kBl (c x y) m else .bad
def cLt : PyData → PyData → Bool := pLt
def cGt : PyData → PyData → Bool := fun x y => pLt y x
def cLe : PyData → PyData → Bool := fun x y => !pLt y x
def cGe : PyData → PyData → Bool := fun x y => !pLt x y
theorem ow_O {op : CmpOp} {c : PyData → PyData → Bool} {ci : Int → Int → Bool} (hi : OpR X (compareOp op) (rI0 fun i j => .bl (ci i j))) (ei : ∀ i j, c (.int i) (.int j) = ci i j)
    (hd : ∀ {s : Shared} {a b : Value} {da db : PyData} {as bs : List Addr} {Q : Value → Shared → Prop}, Reads s.heap a da as → Reads s.heap b db bs → alike da db = true → da ≠ .none → X.A.units + min da.depth db.depth < cLine → (∀ i j, ¬ (da = .int i ∧ db = .int j)) → Q (.bool (c da db)) s →
      wpAny (model X.prog X.w) X.A (compareOp op a b) Q X.xe s) (hu : X.A.units + 64 < cLine) : OpW X E (compareOp op) (gO c) := by
  refine OpW.data fun pins s σ H x y v u Q Z B m dx dy I rx ry so hx hy q => ?_
  split at q
  · rename_i z
    by_cases ii : ∃ i j, dx = .int i ∧ dy = .int j
    · obtain ⟨i, j, rfl, rfl⟩ := ii
      exact hi pins s σ H x y v u Q I rx ry ⟨i, j, int_inv hx, int_inv hy, by show Q (V.bl (ci i j)) H; rw [← ei]; exact Post.done q so (.d (.bl _))⟩
    · have z' : ltOk dx dy = true := by
        unfold okLt at z
        split at z
        · exact absurd ⟨_, _, rfl, rfl⟩ ii
        · exact z
      obtain ⟨z1, z2, z3, z4, z5⟩ := ltOk_of z'
      obtain ⟨as, r1⟩ := Dp.reads I dx x v (hx.dp z3) rx
      obtain ⟨bs, r2⟩ := Dp.reads I dy y u (hy.dp z4) ry
      refine hd r1 r2 z1 z2 (by omega) (fun i j e => ii ⟨i, j, e⟩) ⟨.bl _, H, I, rfl, Post.done q so (.d (.bl _))⟩
  · exact q.elim
theorem pLt_data {x y : PyData} (h : ∀ i j, ¬ (x = .int i ∧ y = .int j)) : pLt x y = dataLt x y := by
  unfold pLt
  split
  · exact absurd ⟨rfl, rfl⟩ (h _ _)
  · rfl
theorem not_lt_dec (i j : Int) : (!decide (j < i)) = decide (i ≤ j) := by
  by_cases h : j < i
  · rw [decide_eq_true h, decide_eq_false (by omega)]; rfl
  · rw [decide_eq_false h, decide_eq_true (by omega)]; rfl
theorem ow_lt (hu : X.A.units + 64 < cLine) : OpW X E (compareOp .Lt) (gO cLt) := ow_O op_lt (fun _ _ => rfl) (fun r1 r2 h n u ni q => PySem.W.lt_data r1 r2 h n u (by rw [← pLt_data ni]; exact q)) hu
theorem ow_gt (hu : X.A.units + 64 < cLine) : OpW X E (compareOp .Gt) (gO cGt) := ow_O op_gt (fun _ _ => rfl) (fun r1 r2 h n u ni q => PySem.W.gt_data r1 r2 h n u (by rw [← pLt_data fun i j e => ni j i ⟨e.2, e.1⟩]; exact q)) hu
theorem ow_le (hu : X.A.units + 64 < cLine) : OpW X E (compareOp .LtE) (gO cLe) := ow_O op_le (fun i j => not_lt_dec i j) (fun r1 r2 h n u ni q => PySem.W.le_data r1 r2 h n u (by rw [← pLt_data fun i j e => ni j i ⟨e.2, e.1⟩]; exact q)) hu
theorem ow_ge (hu : X.A.units + 64 < cLine) : OpW X E (compareOp .GtE) (gO cGe) := ow_O op_ge (fun i j => not_lt_dec j i) (fun r1 r2 h n u ni q => PySem.W.ge_data r1 r2 h n u (by rw [← pLt_data ni]; exact q)) hu
def okEq (x y : PyData) : Bool := SeqAt.shaped x && SeqAt.shaped y
def gEq (a b : W) (m : Mu) : R W := on2 m a b fun x y => if okEq x y = true then kBl (PyData.eqv x y) m else .bad
def gNe (a b : W) (m : Mu) : R W := on2 m a b fun x y => if okEq x y = true then kBl (!PyData.eqv x y) m else .bad
theorem okEq_of {x y : PyData} (h : okEq x y = true) : SeqAt.shaped x = true ∧ SeqAt.shaped y = true := Bool.and_eq_true_iff.mp h
theorem ow_eq (hu : X.A.units + 64 < cLine) : OpW X E (compareOp .Eq) gEq := by
  refine OpW.data fun pins s σ H x y v u Q Z B m dx dy I rx ry so hx hy q => ?_
  split at q
  · rename_i z
    obtain ⟨z1, z2⟩ := okEq_of z
    exact op_eqD hu pins s σ H x y v u Q I rx ry ⟨dx, dy, hx.dp (SeqAt.canLay_of_shaped z1), hy.dp (SeqAt.canLay_of_shaped z2), z1, z2, Post.done q so (.d (.bl _))⟩
  · exact q.elim
theorem ow_ne (hu : X.A.units + 64 < cLine) : OpW X E (compareOp .NotEq) gNe := by
  refine OpW.data fun pins s σ H x y v u Q Z B m dx dy I rx ry so hx hy q => ?_
  split at q
  · rename_i z
    obtain ⟨z1, z2⟩ := okEq_of z
    exact op_neD hu pins s σ H x y v u Q I rx ry ⟨dx, dy, hx.dp (SeqAt.canLay_of_shaped z1), hy.dp (SeqAt.canLay_of_shaped z2), z1, z2, Post.done q so (.d (.bl _))⟩
  · exact q.elim
/-- is None -/
def isNon : W → Bool
  | .d .none => true
  | _ => false
theorem isNon_of {p : Pl} {H : Hp} {B : List Addr} {v : V} {w : W} (h : WV p H B v w) : decide (v = .non) = isNon w := by
  cases h with
  | d h => cases h <;> rfl
  | loc h => rfl
  | wt h r => rfl
def fIsN (f : FE) : FE := fun r m => (f r m).bind fun w m1 => kBl (isNon w) m1
def fNotN (f : FE) : FE := fun r m => (f r m).bind fun w m1 => kBl (!isNon w) m1
theorem we_isN {e : Expr} {f : FE} {j p pos} (h : WE X E e f) : WE X E (.Compare e [.Is] [.Constant .none j p] pos) (fIsN f) := ⟨fun pins s σ H Q I ⟨Z, B, r, m, sl, so, q⟩ => (pe_cmp (pc_isN h) rfl).run pins s σ H Q I
  ⟨Z, B, r, m, sl, so, q.step fun w m1 x H1 B1 l1 s1 r1 q1 => by rw [isNon_of r1]; exact Post.done q1 s1 (.d (.bl _))⟩⟩
theorem we_notN {e : Expr} {f : FE} {j p pos} (h : WE X E e f) : WE X E (.Compare e [.IsNot] [.Constant .none j p] pos) (fNotN f) := ⟨fun pins s σ H Q I ⟨Z, B, r, m, sl, so, q⟩ => (pe_cmp (pc_notN h) rfl).run pins s σ H Q I
  ⟨Z, B, r, m, sl, so, q.step fun w m1 x H1 B1 l1 s1 r1 q1 => by rw [isNon_of r1]; exact Post.done q1 s1 (.d (.bl _))⟩⟩
end
end Wy

set_option Elab.async false
set_option linter.all false
set_option maxRecDepth 100000
set_option maxHeartbeats 4000000
/-! W4: tests, truth, in, dicts with tuple keys, items, slices. -/
namespace Wy
open PySem PySem.Spec PyProof.Rows L2

/-! ### and, or, not, if -/
section
variable {X : Cx} {E : XK} {e a b c : Expr} {es rest : List Expr} {fa fb fc : FE} {ta tb tc : FT} {pos : Pos}
def fAndT (ta tb : FT) : FT := fun r m => (ta r m).bind fun k m1 => if k = true then tb r m1 else .ok false m1
def fOrT (ta tb : FT) : FT := fun r m => (ta r m).bind fun k m1 => if k = true then .ok true m1 else tb r m1
def fNotT (ta : FT) : FT := fun r m => (ta r m).bind fun k m1 => .ok (!k) m1
/-- a test by and, or: whatever the whole is -/
def WW (X : Cx) (E : XK) (e : Expr) (f : FT) : Prop := PW X e (rd RT X E f)
theorem WW.t {f : FT} (h : WW X E e f) : WT X E e f := PW.pt h
theorem ww_and1 (h : WT X E a ta) : WW X E (.BoolOp .And [a] pos) ta := pw_and1 h
theorem ww_or1 (h : WT X E a ta) : WW X E (.BoolOp .Or [a] pos) ta := pw_or1 h
theorem ww_and (ha : WT X E a ta) (hb : WW X E (.BoolOp .And (b :: rest) pos) tb) : WW X E (.BoolOp .And (a :: b :: rest) pos) (fAndT ta tb) :=
  ⟨fun wh pins s σ H Q I ⟨Z, B, r, m, sl, so, q⟩ => (pw_and ha hb).run wh pins s σ H Q I
    ⟨Z, B, r, m, sl, so, q.step fun k m1 x H1 B1 l1 s1 r1 q1 => by
      cases r1
      cases k with
      | true => exact iteT ⟨Z, B1, r, m1, sl.mono l1, s1, q1⟩
      | false => exact iteF (Post.done (RelG := RT (plX X Z)) q1 s1 rfl)⟩⟩
theorem ww_or (ha : WT X E a ta) (hb : WW X E (.BoolOp .Or (b :: rest) pos) tb) : WW X E (.BoolOp .Or (a :: b :: rest) pos) (fOrT ta tb) :=
  ⟨fun wh pins s σ H Q I ⟨Z, B, r, m, sl, so, q⟩ => (pw_or ha hb).run wh pins s σ H Q I
    ⟨Z, B, r, m, sl, so, q.step fun k m1 x H1 B1 l1 s1 r1 q1 => by
      cases r1
      cases k with
      | true => exact iteT (Post.done (RelG := RT (plX X Z)) q1 s1 rfl)
      | false => exact iteF ⟨Z, B1, r, m1, sl.mono l1, s1, q1⟩⟩⟩
theorem wt_not (ha : WT X E a ta) : WT X E (.UnaryOp .Not a pos) (fNotT ta) :=
  ⟨fun pins s σ H Q I ⟨Z, B, r, m, sl, so, q⟩ => (pt_not ha).run pins s σ H Q I
    ⟨Z, B, r, m, sl, so, q.step fun k m1 x H1 B1 l1 s1 r1 q1 => by cases r1; exact Post.done (RelG := RT (plX X Z)) q1 s1 rfl⟩⟩
/-- .. as values -/
def fAndV (fa fb : FE) : FE := fun r m => (fa r m).bind fun w m1 => match w with
  | .d (.bool true) => fb r m1
  | .d (.bool false) => .ok (.d (.bool false)) m1
  | _ => .bad
def fOrV (fa fb : FE) : FE := fun r m => (fa r m).bind fun w m1 => match w with
  | .d (.bool true) => .ok (.d (.bool true)) m1
  | .d (.bool false) => fb r m1
  | _ => .bad
def fNotV (fa : FE) : FE := fun r m => (fa r m).bind fun w m1 => match w with
  | .d (.bool k) => .ok (.d (.bool (!k))) m1
  | _ => .bad
theorem we_one {op} (h : WE X E a fa) : WE X E (.BoolOp op [a] pos) fa := pe_one h
theorem we_and (ha : WE X E a fa) (hb : WE X E (.BoolOp .And (b :: rest) pos) fb) : WE X E (.BoolOp .And (a :: b :: rest) pos) (fAndV fa fb) :=
  ⟨fun pins s σ H Q I ⟨Z, B, r, m, sl, so, q⟩ => (pe_and ha hb).run pins s σ H Q I
    ⟨Z, B, r, m, sl, so, q.step fun k m1 x H1 B1 l1 s1 r1 q1 => by
      split at q1
      · exact ⟨true, bl_inv r1, iteT ⟨Z, B1, r, m1, sl.mono l1, s1, q1⟩⟩
      · exact ⟨false, bl_inv r1, iteF (Post.done (RelG := RE (plX X Z)) q1 s1 (.d (.bl _)))⟩
      · exact q1.elim⟩⟩
theorem we_or (ha : WE X E a fa) (hb : WE X E (.BoolOp .Or (b :: rest) pos) fb) : WE X E (.BoolOp .Or (a :: b :: rest) pos) (fOrV fa fb) :=
  ⟨fun pins s σ H Q I ⟨Z, B, r, m, sl, so, q⟩ => (pe_or ha hb).run pins s σ H Q I
    ⟨Z, B, r, m, sl, so, q.step fun k m1 x H1 B1 l1 s1 r1 q1 => by
      split at q1
      · exact ⟨true, bl_inv r1, iteT (Post.done (RelG := RE (plX X Z)) q1 s1 (.d (.bl _)))⟩
      · exact ⟨false, bl_inv r1, iteF ⟨Z, B1, r, m1, sl.mono l1, s1, q1⟩⟩
      · exact q1.elim⟩⟩
theorem we_not (ha : WE X E a fa) : WE X E (.UnaryOp .Not a pos) (fNotV fa) :=
  ⟨fun pins s σ H Q I ⟨Z, B, r, m, sl, so, q⟩ => (pe_not ha).run pins s σ H Q I
    ⟨Z, B, r, m, sl, so, q.step fun k m1 x H1 B1 l1 s1 r1 q1 => by
      split at q1
      · exact ⟨_, bl_inv r1, Post.done (RelG := RE (plX X Z)) q1 s1 (.d (.bl _))⟩
      · exact q1.elim⟩⟩
def fIf (tc : FT) (fa fb : FE) : FE := fun r m => (tc r m).bind fun k m1 => if k = true then fa r m1 else fb r m1
theorem we_if (hc : WT X E c tc) (ha : WE X E a fa) (hb : WE X E b fb) : WE X E (.IfExp c a b pos) (fIf tc fa fb) :=
  ⟨fun pins s σ H Q I ⟨Z, B, r, m, sl, so, q⟩ => (pe_ifExp hc ha hb).run pins s σ H Q I
    ⟨Z, B, r, m, sl, so, q.step fun k m1 x H1 B1 l1 s1 r1 q1 => by
      cases r1
      cases k with
      | true => exact iteT ⟨Z, B1, r, m1, sl.mono l1, s1, q1⟩
      | false => exact iteF ⟨Z, B1, r, m1, sl.mono l1, s1, q1⟩⟩⟩
end

/-! ### keys -/
section
variable {X : Cx} {pins : List (Addr × Obj)} {σ : Xs} {H : Hp} {s : Shared} {B Z : List Addr}
mutual
theorem key_rel (I : Inv X pins σ H s) : ∀ {v : V} {x : PyData} {u : Value}, DV (plX X Z) H B v x → keyable x = true → RelV v u → NestedIs s.heap (keyOf x) u
  | _, _, _, .non, _, r => by cases r; exact .none
  | _, _, _, .bl b, _, r => by cases r; exact .bool rfl
  | _, _, _, .int i, _, r => by obtain ⟨t, rfl⟩ := r; exact .int i t
  | _, _, _, .str x, _, r => by obtain ⟨t, rfl⟩ := r; exact .text x t
  | _, _, _, .lst _ _, k, _ => by simp [keyable] at k
  | _, _, _, .tup h d, k, r => by
    cases r
    obtain ⟨its, rv, ⟨o, e1, e2, n, e3⟩, _⟩ := I.tuple h.sq
    exact .tup e1 e2 e3 (keys_rel I d (by simpa [keyable] using k) (by simpa using rv))
  | _, _, _, .dct _ _ _ _ _ _, k, _ => by simp [keyable] at k
theorem keys_rel (I : Inv X pins σ H s) : ∀ {v : List V} {x : List PyData} {u : List Value}, DVs (plX X Z) H B v x → keyables x = true → Vals v u → NestedAll s.heap (keysOf x) u
  | _, _, _, .nil, _, .nil => .nil
  | _, _, _, .cons h d, k, .cons r t => by
    have k' := Bool.and_eq_true_iff.mp (by simpa [keyables] using k)
    exact .cons (key_rel I h k'.1 r) (keys_rel I d k'.2 t)
end
abbrev knX (X : Cx) : HeapKind X.prog X.w NestedKey := nestedKind X.prog X.w
/-- a tuple that may be a key -/
def okKey (k : PyData) : Bool := keyable k && decide ((keyOf k).depth ≤ 8) && (match k with | .tuple _ => true | _ => false)
theorem key_is (I : Inv X pins σ H s) {v : V} {k : PyData} {u : Value} (h : DV (plX X Z) H B v k) (o : okKey k = true) (r : RelV v u) : ∃ a, u = .ref a ∧ v = .ref a ∧ (knX X).is s.heap (keyOf k) a := by
  unfold okKey at o
  simp only [Bool.and_eq_true, decide_eq_true_eq] at o
  obtain ⟨⟨o1, o2⟩, o3⟩ := o
  cases h with
  | tup h d =>
    rename_i a xs ds
    have n := key_rel I (.tup h d) o1 r
    cases r
    exact ⟨a, rfl, rfl, n, o2⟩
  | _ => cases o3
def dhas (es : List (PyData × PyData)) (k : PyData) : Bool := es.any fun p => decide (keyOf p.1 = keyOf k)
def dget (es : List (PyData × PyData)) (k : PyData) : Option PyData := (es.find? fun p => decide (keyOf p.1 = keyOf k)).map (·.2)
def dput (es : List (PyData × PyData)) (k v : PyData) : List (PyData × PyData) := if dhas es k = true then es.map fun p => if keyOf p.1 = keyOf k then (p.1, v) else p else es ++ [(k, v)]
abbrev R3 : NestedKey × Addr × V → NestedKey × Addr × Value → Prop := fun p q => p.1 = q.1 ∧ p.2.1 = q.2.1 ∧ RelV p.2.2 q.2.2
theorem ents_of {P : Program} {w : World} : ∀ {kvs : List (NestedKey × Addr × V)} {es : List DictEntry}, Paired (fun (p : NestedKey × Addr × V) (e : DictEntry) => e.hash = (nestedKind P w).hash p.1 ∧ e.key = .ref p.2.1 ∧ RelV p.2.2 e.val) kvs es →
    ∃ xs : List (NestedKey × Addr × Value), es = xs.map (entryOfKey (nestedKind P w)) ∧ Paired R3 kvs xs
  | _, _, .nil => ⟨[], rfl, .nil⟩
  | (k, a, v) :: _, e :: _, .cons h t => by
    obtain ⟨xs, e1, p⟩ := ents_of t
    refine ⟨(k, a, e.val) :: xs, ?_, .cons ⟨rfl, rfl, h.2.2⟩ p⟩
    rw [List.map_cons, ← e1]
    obtain ⟨h1, h2, _⟩ := h
    cases e
    simp only at h1 h2
    subst h1 h2
    rfl
theorem ents_to {P : Program} {w : World} : ∀ {kvs : List (NestedKey × Addr × V)} {xs : List (NestedKey × Addr × Value)}, Paired R3 kvs xs → Paired (fun (p : NestedKey × Addr × V) (e : DictEntry) => e.hash = (nestedKind P w).hash p.1 ∧ e.key = .ref p.2.1 ∧ RelV p.2.2 e.val) kvs (xs.map (entryOfKey (nestedKind P w)))
  | _, _, .nil => .nil
  | (k, a, v) :: _, (k', a', v') :: _, .cons h t => by
    obtain ⟨h1, h2, h3⟩ := h
    simp only at h1 h2 h3
    subst h1 h2
    exact .cons ⟨rfl, rfl, h3⟩ (ents_to t)
theorem r3_keys : ∀ {kvs : List (NestedKey × Addr × V)} {xs : List (NestedKey × Addr × Value)}, Paired R3 kvs xs → kvs.map (·.1) = xs.map (·.1)
  | _, _, .nil => rfl
  | _, _, .cons h t => by rw [List.map_cons, List.map_cons, h.1, r3_keys t]
theorem dk_is (I : Inv X pins σ H s) : ∀ {kvs : List (NestedKey × Addr × V)} {es : List (PyData × PyData)} {xs : List (NestedKey × Addr × Value)}, DVk (plX X Z) H B kvs es → Paired R3 kvs xs → ∀ x ∈ xs, (knX X).is s.heap x.1 x.2.1
  | _, _, _, .nil, .nil => fun _ h => by cases h
  | _, _, _, .cons e k z a v t, .cons h p => fun x hx => by
    rcases List.mem_cons.mp hx with q | q
    · subst q
      obtain ⟨h1, h2, _⟩ := h
      simp only at h1 h2
      rw [← h1, ← h2]
      rw [e] at z ⊢
      exact ⟨key_rel I a k rfl, z⟩
    · exact dk_is I t p x q
/-- the dict that is tracked, as the library has it -/
theorem dict_at (I : Inv X pins σ H s) {a : Addr} {kvs : List (NestedKey × Addr × V)} {es : List (PyData × PyData)} (h : Rd H a (dcT X.prog X.w a kvs)) (d : DVk (plX X Z) H B kvs es) (nd : (kvs.map (·.1)).Nodup) :
    ∃ xs, s.heap.DictOfH (knX X) a xs ∧ Paired R3 kvs xs := by
  obtain ⟨⟨o, en, ep, e1, e2, e3, pr⟩, _⟩ := (show ObjOk X.prog X.w H s.heap a (dcT X.prog X.w a kvs) from h.ok I.hok)
  obtain ⟨xs, x1, x2⟩ := ents_of pr
  exact ⟨xs, ⟨o, en, ep, e1, e2, e3, x1, dk_is I d x2, by rw [← r3_keys x2]; exact nd⟩, x2⟩
theorem dk_has : ∀ {p : Pl} {kvs : List (NestedKey × Addr × V)} {es : List (PyData × PyData)} {xs : List (NestedKey × Addr × Value)} {k : PyData}, DVk p H B kvs es → Paired R3 kvs xs → (atKey xs (keyOf k)).isSome = dhas es k
  | _, _, _, _, _, .nil, .nil => rfl
  | _, _, _, (k', a', v') :: _, k, .cons (kd := kd) e _ _ _ _ t, .cons h p => by
    have ih := dk_has (k := k) t p
    obtain ⟨h1, _⟩ := h
    simp only at h1
    subst h1 e
    unfold atKey dhas at *
    rw [List.find?_cons, List.any_cons]
    by_cases q : keyOf kd = keyOf k
    · simp [q]
    · simp only [q, decide_false, Bool.false_or]
      exact ih
theorem dk_get : ∀ {p : Pl} {kvs : List (NestedKey × Addr × V)} {es : List (PyData × PyData)} {xs : List (NestedKey × Addr × Value)} {k vd : PyData}, DVk p H B kvs es → Paired R3 kvs xs → dget es k = some vd → ∃ a u v, atKey xs (keyOf k) = some (a, u) ∧ RelV v u ∧ DV p H B v vd
  | _, _, _, _, _, _, .nil, .nil => fun h => by cases h
  | _, _, _, (k', a', v') :: _, k, vd, .cons (kd := kd) (v := v) e _ _ _ dv t, .cons h p => fun g => by
    obtain ⟨h1, _, h3⟩ := h
    simp only at h1 h3
    subst h1 e
    unfold atKey dget at *
    rw [List.find?_cons] at g ⊢
    by_cases q : keyOf kd = keyOf k
    · simp only [q, decide_true, Option.map_some, Option.some.injEq] at g ⊢
      subst g
      exact ⟨a', v', v, rfl, h3, dv⟩
    · simp only [q, decide_false] at g ⊢
      exact dk_get (xs := _) t p g
end

/-! ### in, not in -/
def isT : PyData → Bool
  | .tuple _ => true
  | _ => false
/-- where x is looked for in c -/
def pIn (x c : PyData) : Option Bool := match c with
  | .list ds => if (SeqAt.shaped x && SeqAt.shaped (.list ds)) = true then some (ds.any fun z => PyData.eqv z x) else none
  | .tuple ds => if (SeqAt.shaped x && SeqAt.shaped (.tuple ds)) = true then some (ds.any fun z => PyData.eqv z x) else none
  | .dict es => if okKey x = true then some (dhas es x) else none
  | .str z => match x with
    | .str y => some (!(Builtin.Str.occurrences z y 0 z.length 1).isEmpty)
    | _ => none
  | _ => none
def gIn (a b : W) (m : Mu) : R W := on2 m a b fun x c => match pIn x c with
  | some k => kBl k m
  | none => .bad
def gNotIn (a b : W) (m : Mu) : R W := on2 m a b fun x c => match pIn x c with
  | some k => kBl (!k) m
  | none => .bad
theorem room65 {A : Around} {x : PyData} (h : SeqAt.shaped x = true) (hu : A.units + 65 < cLine) : A.in1.units + x.depth < cLine := by
  have h1 := SeqAt.depth_of_shaped h
  show A.units + 1 + x.depth < cLine
  omega
theorem rmin {A : Around} {n k : Nat} (h : A.in1.units + k < cLine) : A.units + 1 + min n k < cLine := by
  have h' : A.units + 1 + k < cLine := h
  omega
section
variable {X : Cx} {E : XK}
theorem ow_inG {op : CmpOp} {f : Bool → Bool} (hl : ∀ {s : Shared} {c x : Value} {xs : List PyData} {d : PyData} {as bs : List Addr} {Q : Value → Shared → Prop}, Reads s.heap c (.list xs) as → Reads s.heap x d bs → PyData.canLayAll0 xs = true → d.canLay0 = true → X.A.in1.units + d.depth < cLine → Q (.bool (f (xs.any fun z => PyData.eqv z d))) s → wpAny (model X.prog X.w) X.A (compareOp op x c) Q X.xe s)
    (ht : ∀ {s : Shared} {c x : Value} {xs : List PyData} {d : PyData} {as bs : List Addr} {Q : Value → Shared → Prop}, Reads s.heap c (.tuple xs) as → Reads s.heap x d bs → PyData.canLayAll0 xs = true → d.canLay0 = true → X.A.in1.units + d.depth < cLine → Q (.bool (f (xs.any fun z => PyData.eqv z d))) s → wpAny (model X.prog X.w) X.A (compareOp op x c) Q X.xe s)
    (hd : ∀ {s : Shared} {d a : Addr} {k : NestedKey} {xs : List (NestedKey × Addr × Value)} {Q : Value → Shared → Prop}, (knX X).is s.heap k a → (d == sysModules) = false → s.heap.DictOfH (knX X) d xs → Q (.bool (f (atKey xs k).isSome)) { s with toks := s.toks + (knX X).draws k } → wpAny (model X.prog X.w) X.A (compareOp op (.ref a) (.ref d)) Q X.xe s)
    (hs : OpR X (compareOp op) (fun x y H Q => ∃ i j, x = .str i ∧ y = .str j ∧ Q (.bl (f (!(Builtin.Str.occurrences j i 0 j.length 1).isEmpty))) H)) (hu : X.A.units + 65 < cLine) :
    OpW X E (compareOp op) (fun a b m => on2 m a b fun x c => match pIn x c with | some k => kBl (f k) m | none => .bad) := by
  refine OpW.data fun pins s σ H x y v u Q Z B m dx dy I rx ry so hx hy q => ?_
  cases e : pIn dx dy with
  | none => rw [e] at q; exact q.elim
  | some k =>
    rw [e] at q
    unfold pIn at e
    split at e
    · rename_i ds
      split at e
      · rename_i z
        cases e
        obtain ⟨z1, z2⟩ := Bool.and_eq_true_iff.mp z
        obtain ⟨as, r1⟩ := Dp.reads I dx x v (hx.dp (SeqAt.canLay_of_shaped z1)) rx
        obtain ⟨bs, r2⟩ := Dp.reads I (.list ds) y u (hy.dp (SeqAt.canLay_of_shaped z2)) ry
        exact hl r2 r1 (SeqAt.canLay_of_shaped z2) (SeqAt.canLay_of_shaped z1) (room65 z1 hu) ⟨.bl _, H, I, rfl, Post.done q so (.d (.bl _))⟩
      · cases e
    · rename_i ds
      split at e
      · rename_i z
        cases e
        obtain ⟨z1, z2⟩ := Bool.and_eq_true_iff.mp z
        obtain ⟨as, r1⟩ := Dp.reads I dx x v (hx.dp (SeqAt.canLay_of_shaped z1)) rx
        obtain ⟨bs, r2⟩ := Dp.reads I (.tuple ds) y u (hy.dp (SeqAt.canLay_of_shaped z2)) ry
        exact ht r2 r1 (SeqAt.canLay_of_shaped z2) (SeqAt.canLay_of_shaped z1) (room65 z1 hu) ⟨.bl _, H, I, rfl, Post.done q so (.d (.bl _))⟩
      · cases e
    · rename_i es
      split at e
      · rename_i z
        cases e
        obtain ⟨a, rfl, rfl, ki⟩ := key_is I hx z rx
        cases hy with
        | dct h1 h2 h3 h4 h5 h6 =>
          cases ry
          obtain ⟨xs, d1, d2⟩ := dict_at I h2 h3 h6
          refine hd ki h4 d1 ⟨.bl _, H, I.tok _, rfl, ?_⟩
          rw [dk_has h3 d2]
          exact Post.done q so (.d (.bl _))
      · cases e
    · rename_i z
      split at e
      · rename_i y'
        cases e
        exact hs pins s σ H x y v u Q I rx ry ⟨_, _, str_inv hx, str_inv hy, Post.done q so (.d (.bl _))⟩
      · cases e
    · cases e
theorem ow_in (hu : X.A.units + 65 < cLine) : OpW X E (compareOp .In) gIn := ow_inG (f := fun k => k) (fun a b c d e q => SeqAt.in_list_reads a b c d (rmin e) q) (fun a b c d e q => SeqAt.in_tuple_reads a b c d (rmin e) q)
  (fun a b c q => wpAny_in_heap (knd := knX X) (by show X.A.units + 1 + 8 < cLine; omega) a b c q) op_in_str hu
theorem ow_notIn (hu : X.A.units + 65 < cLine) : OpW X E (compareOp .NotIn) gNotIn := ow_inG (f := fun k => !k) (fun a b c d e q => SeqAt.notIn_list_reads a b c d (rmin e) q) (fun a b c d e q => SeqAt.notIn_tuple_reads a b c d (rmin e) q)
  (fun {s d a k xs Q} h1 h2 h3 q => by
    show wpAny _ _ (do return .bool (!(← contains (.ref d) (.ref a)))) Q _ s
    exact wpAny_bind (wpAny_contains_heap (knd := knX X) (by show X.A.units + 1 + 8 < cLine; omega) h1 h2 h3 (wpAny_pure q))) op_notin_str hu
end
end Wy

set_option Elab.async false
set_option linter.all false
set_option maxRecDepth 100000
set_option maxHeartbeats 4000000
/-! W5: items, slices, calls of built-ins, calls of defs. -/
namespace Wy
open PySem PySem.Spec PyProof.Rows L2

/-! ### items -/
section
variable {p : Pl} {H : Hp} {B : List Addr} {m : Mu}
/-- a sequence or a dict that is read: its items stay -/
inductive Seen (p : Pl) (H : Hp) (B : List Addr) : V → PyData → Prop
  | lst {a xs ds} : Rd H a (.lst xs) → DVs p H B xs ds → Seen p H B (.ref a) (.list ds)
  | tup {a xs ds} : SqT p.K H a xs → DVs p H B xs ds → Seen p H B (.ref a) (.tuple ds)
  | dct {a kvs es} : Rd H a (dcT p.P p.w a kvs) → DVk p H B kvs es → (a == sysModules) = false → (kvs.map (·.1)).Nodup → kvs.length ≤ sizeLine → Seen p H B (.ref a) (.dict es)
  | str (z : Str) : Seen p H B (.str z) (.str z)
theorem WV.seen {v : V} {w : W} {x : PyData} (h : WV p H B v w) (so : So p H B m) (e : Wy.dr m w = some x) (k : (match x with | .list _ => true | .tuple _ => true | .dict _ => true | .str _ => true | _ => false) = true) : Seen p H B v x := by
  cases h with
  | d h =>
    cases e
    cases h with
    | lst h r => exact .lst h.2 r
    | tup h r => exact .tup h.sq r
    | dct a b c d e f => exact .dct b c d f e
    | str z => exact .str z
    | _ => cases k
  | @loc n a h =>
    obtain ⟨o, ho, r⟩ := so.obj h
    have e1 : (match m[n]? with | some (.lst ds) => some (PyData.list ds) | some (.dct es) => some (.dict es) | none => none) = some x := e
    rw [ho] at e1
    cases o with
    | lst es =>
      cases e1
      obtain ⟨xs, h1, h2⟩ := r
      exact .lst (.inl h1) h2
    | dct es =>
      cases e1
      obtain ⟨kvs, h1, h2, h3, h4, h5⟩ := r
      exact .dct (.inl h1) h2 h3 h5 h4
  | wt _ _ => cases e
theorem WVs.get : ∀ {vs : List V} {xs : List W} {i : Nat} {x : W}, WVs p H B vs xs → xs[i]? = some x → ∃ v, vs[i]? = some v ∧ WV p H B v x
  | _, _, _, _, .nil, e => by simp at e
  | _, _, 0, _, .cons r _, e => by simp at e; subst e; exact ⟨_, rfl, r⟩
  | _, _, i + 1, x, .cons _ t, e => by
    obtain ⟨u, h1, h2⟩ := WVs.get (i := i) (x := x) t (by simpa using e)
    exact ⟨u, by simpa using h1, h2⟩
theorem atI_map {α β : Type} {xs : List α} {ys : List β} (hl : xs.length = ys.length) {i : Int} {y : β} (h : atI ys i = some y) : ∃ j : Nat, ys[j]? = some y ∧ ∀ x, xs[j]? = some x → atI xs i = some x := by
  unfold atI at *
  rw [hl]
  cases e : ixN ys.length i with
  | none => rw [e] at h; cases h
  | some j => rw [e] at h; exact ⟨j, h, fun x hx => hx⟩
end
/-- c[i] -/
def pIx (c i : PyData) : Option PyData := match c, i with
  | .list ds, .int k => atI ds k
  | .tuple ds, .int k => atI ds k
  | .str z, .int k => if z.length ≤ 1000000 then (atI z.cps.toList k).map fun c => .str ⟨#[c]⟩ else none
  | .dict es, k => if okKey k = true then dget es k else none
  | _, _ => none
def gIx (a b : W) (m : Mu) : R W := match a with
  | .wt ws => match b with
    | .d (.int k) => match atI ws k with
      | some w => .ok w m
      | none => .bad
    | _ => .bad
  | a => on2 m a b fun c i => match pIx c i with
    | some x => .ok (.d x) m
    | none => .bad
section
variable {X : Cx} {E : XK} {a b c e : Expr} {es : List Expr} {fa fb : FE} {pos : Pos}
theorem ix_W (hu : X.A.units + 65 < cLine) : IxR X (fun x y H Q => ∃ Z B m a b, So (plX X Z) H B m ∧ WV (plX X Z) H B x a ∧ WV (plX X Z) H B y b ∧ PostE (plX X Z) E B H (gIx a b m) Q) := by
  rintro value slice pins s σ H x y v u Q I rx ry ⟨Z, B, m, a, b, so, ha, hb, q⟩ hs
  unfold gIx at q
  split at q
  · rename_i ws
    split at q
    · rename_i k
      cases e : atI ws k with
      | none => rw [e] at q; exact q.elim
      | some w =>
        rw [e] at q
        cases ha with
        | wt h r =>
          cases hb with
          | d hb =>
            obtain ⟨j, h1, h2⟩ := atI_map r.length e
            obtain ⟨z, h3, h4⟩ := r.get h1
            exact ix_tup value slice pins s σ H _ y v u Q I rx ry ⟨_, _, k, z, rfl, int_inv hb, h.sq, h2 z h3, Post.done q so h4⟩ hs
    · exact q.elim
  · unfold on2 at q
    split at q
    · rename_i dc di e1 e2
      have hi := hb.dr so e2
      cases e : pIx dc di with
      | none => simp only [e] at q; exact q.elim
      | some x' =>
        simp only [e] at q
        unfold pIx at e
        split at e
        · cases ha.seen so e1 rfl with
          | lst h1 h2 =>
            obtain ⟨j, g1, g2⟩ := atI_map h2.length e
            obtain ⟨z, g3, g4⟩ := h2.get g1
            exact ix_list value slice pins s σ H _ y v u Q I rx ry ⟨_, _, _, z, rfl, int_inv hi, .inl h1, g2 z g3, Post.done q so (.d g4)⟩ hs
        · cases ha.seen so e1 rfl with
          | tup h1 h2 =>
            obtain ⟨j, g1, g2⟩ := atI_map h2.length e
            obtain ⟨z, g3, g4⟩ := h2.get g1
            exact ix_tup value slice pins s σ H _ y v u Q I rx ry ⟨_, _, _, z, rfl, int_inv hi, h1, g2 z g3, Post.done q so (.d g4)⟩ hs
        · split at e
          · rename_i z
            obtain ⟨c, g1, g2⟩ := Option.map_eq_some_iff.mp e
            subst g2
            cases ha.seen so e1 rfl with
            | str z' => exact ix_str value slice pins s σ H _ y v u Q I rx ry ⟨_, _, c, rfl, int_inv hi, Nat.le_trans z mil, g1, Post.done q so (.d (.str _))⟩ hs
          · cases e
        · split at e
          · rename_i z
            obtain ⟨ka, rfl, rfl, ki⟩ := key_is I hi z ry
            cases ha.seen so e1 rfl with
            | dct h1 h2 h3 h4 =>
              cases rx
              obtain ⟨xs, d1, d2⟩ := dict_at I h1 h2 h4
              obtain ⟨a', u', v', g1, g2, g3⟩ := dk_get h2 d2 e
              exact tail_any d1.typeIs PySem.F.slot_dict_getitem.lookup (wpAny_getItem_heap (knd := knX X) (by show X.A.units + 1 + 8 < cLine; omega) ki d1 g1 ⟨v', H, I.tok _, g2, Post.done q so (.d g3)⟩) hs
          · cases e
        · cases e
    · exact q.elim
theorem we_ix (hu : X.A.units + 65 < cLine) (ha : WE X E a fa) (hb : WE X E b fb) (hs : PlainIx b) : WE X E (.Subscript a b pos) (fBin gIx fa fb) :=
  ⟨fun pins s σ H Q I ⟨Z, B, r, m, sl, so, q⟩ => (pe_ix (ix_W (E := E) hu) ha hb hs).run pins s σ H Q I
    ⟨Z, B, r, m, sl, so, q.step fun wa m1 x H1 B1 l1 s1 r1 q1 => ⟨Z, B1, r, m1, sl.mono l1, s1, q1.step fun wb m2 y H2 B2 l2 s2 r2 q2 => ⟨Z, B2, m2, wa, wb, s2, r1.mono l2, r2, q2⟩⟩⟩⟩

/-! ### slices -/
abbrev FO := Rh → Mu → R (Option Int)
abbrev RO : Pl → Hp → List Addr → Option Int → Option Int → Prop := fun _ _ _ b c => b = c
def WO (X : Cx) (E : XK) (e : Option Expr) (f : FO) : Prop := PO X e (rd RO X E f)
def fNoP : FO := fun _ m => .ok none m
def fPart (f : FE) : FO := fun r m => (f r m).bind fun w m1 => match w with
  | .d (.int i) => .ok (some i) m1
  | _ => .bad
theorem wo_none : WO X E none fNoP := ⟨fun pins s σ H Q I ⟨Z, B, r, m, sl, so, q⟩ => po_none.run pins s σ H Q I (Post.done (RelG := RO (plX X Z)) q so rfl)⟩
theorem wo_some {f : FE} (h : WE X E e f) : WO X E (some e) (fPart f) := ⟨fun pins s σ H Q I ⟨Z, B, r, m, sl, so, q⟩ => (po_some h).run pins s σ H Q I
  ⟨Z, B, r, m, sl, so, q.step fun w m1 x H1 B1 l1 s1 r1 q1 => by
    split at q1
    · cases r1 with
      | d r1 => exact ⟨_, int_inv r1, Post.done (RelG := RO (plX X Z)) q1 s1 rfl⟩
    · exact q1.elim⟩⟩
def cutA {α : Type} (xs : List α) (lo hi : Option Int) : List α := (xs.drop (HT.sIx xs.length 0 lo)).take (HT.sIx xs.length xs.length hi - HT.sIx xs.length 0 lo)
def gSl (a : W) (lo hi : Option Int) (m : Mu) : R W := match dr m a with
  | some (.list ds) => .ok (.d (.list (cutA ds lo hi))) m
  | some (.tuple ds) => .ok (.d (.tuple (cutA ds lo hi))) m
  | some (.str z) => if z.length ≤ 1000000 then .ok (.d (.str (cutS z lo hi))) m else .bad
  | _ => .bad
theorem cut_len {α β : Type} {xs : List α} {ys : List β} (h : xs.length = ys.length) (lo hi : Option Int) : HT.sIx xs.length 0 lo = HT.sIx ys.length 0 lo ∧ HT.sIx xs.length xs.length hi = HT.sIx ys.length ys.length hi := by rw [h]; exact ⟨rfl, rfl⟩
theorem DVs.cut {p : Pl} {H : Hp} {B : List Addr} {xs : List V} {ds : List PyData} (h : DVs p H B xs ds) (lo hi : Option Int) : DVs p H B (cutV xs lo hi) (cutA ds lo hi) := by
  unfold cutV cutA
  rw [h.length]
  exact (h.drop _).take _
theorem cut_all {α : Type} {xs : List α} {lo hi : Option Int} (h : HT.sIx xs.length 0 lo = 0 ∧ HT.sIx xs.length xs.length hi = xs.length) : cutA xs lo hi = xs := by
  unfold cutA
  rw [h.1, h.2]
  simp
theorem sl_W : SlR X (fun x lo hi H Q => ∃ Z B m a, So (plX X Z) H B m ∧ WV (plX X Z) H B x a ∧ PostE (plX X Z) E B H (gSl a lo hi m) Q) := by
  rintro pins s σ H x v vl vu lo hi sl Q I rx hsl pl pu ⟨Z, B, m, a, so, ha, q⟩
  unfold gSl at q
  split at q
  · rename_i ds e
    cases ha.seen so e rfl with
    | lst h1 h2 => exact sl_list pins s σ H _ v vl vu lo hi sl Q I rx hsl pl pu ⟨_, _, rfl, .inl h1, fun p hp => Post.fresh q so hp (.d (DV.topL so hp (h2.cut lo hi)))⟩
  · rename_i ds e
    have st : ∃ a' xs, x = .ref a' ∧ SqTS (plX X Z) H B a' xs ∧ DVs (plX X Z) H B xs ds := by
      cases ha with
      | d h =>
        cases e
        cases h with
        | tup h r => exact ⟨_, _, rfl, h, r⟩
      | @loc n a0 h =>
        obtain ⟨o, ho, r⟩ := so.obj h
        have e1 : (match m[n]? with | some (.lst ds) => some (PyData.list ds) | some (.dct es) => some (.dict es) | none => none) = some (.tuple ds) := e
        rw [ho] at e1
        cases o <;> cases e1
      | wt _ _ => cases e
    obtain ⟨a', xs, rfl, h1, h2⟩ := st
    refine sl_tupA pins s σ H _ v vl vu lo hi sl Q I rx hsl pl pu ⟨_, _, rfl, h1.sq, fun w => ?_, fun _ p hp => Post.fresh q so hp (.d (DV.top so hp (h2.cut lo hi)))⟩
    rw [cut_all (by rw [h2.length] at w; exact w)] at q
    exact Post.done q so (.d (.tup h1 h2))
  · rename_i z e
    cases ha.seen so e rfl with
    | str z' =>
      split at q
      · rename_i zz
        exact sl_str pins s σ H _ v vl vu lo hi sl Q I rx hsl pl pu ⟨_, rfl, Nat.le_trans zz mil, Post.done q so (.d (.str _))⟩
      · exact q.elim
  · exact q.elim
def fSl (fa : FE) (fl fh : FO) : FE := fun r m => (fa r m).bind fun a m1 => (fl r m1).bind fun lo m2 => (fh r m2).bind fun hi m3 => gSl a lo hi m3
theorem we_slice {lo hi : Option Expr} {fl fh : FO} {p2 : Pos} (ha : WE X E a fa) (hl : WO X E lo fl) (hh : WO X E hi fh) : WE X E (.Subscript a (.Slice lo hi none p2) pos) (fSl fa fl fh) :=
  ⟨fun pins s σ H Q I ⟨Z, B, r, m, sl, so, q⟩ => (pe_slice (sl_W (E := E)) ha hl hh).run pins s σ H Q I
    ⟨Z, B, r, m, sl, so, q.step fun wa m1 x H1 B1 l1 s1 r1 q1 => ⟨Z, B1, r, m1, sl.mono l1, s1, q1.step fun o m2 o' H2 B2 l2 s2 r2 q2 => by
      cases r2
      exact ⟨Z, B2, r, m2, sl.mono (l1.trans l2), s2, q2.step fun o3 m3 o3' H3 B3 l3 s3 r3 q3 => by
        cases r3
        exact ⟨Z, B3, m3, wa, s3, r1.mono (l2.trans l3), q3⟩⟩⟩⟩⟩

/-! ### calls of built-ins -/
def CallW (X : Cx) (E : XK) (f : Value) (g : List W → Mu → R W) : Prop :=
  CallR X f (fun xs H Q => ∃ Z B m ws, So (plX X Z) H B m ∧ WVs (plX X Z) H B xs ws ∧ PostE (plX X Z) E B H (g ws m) Q)
def fBi (g : List W → Mu → R W) (fs : FA) : FE := fun r m => (fs r m).bind fun ws m1 => g ws m1
theorem we_bi {x : Str} {id : String} {g : List W → Mu → R W} {fs : FA} {p : Pos} (hc : CallW X E (.builtin id) g) (hg : Gl X x) (hm : X.mg x = none) (hv : bootBuiltins x = some (.builtin id)) (ha : WA X E (e :: es) fs) (hn : x ≠ "__name__" := by decide) (hdb : (x == ("__debug__" : Str)) = false := by decide)
    (he : starEach (e :: es) X.env = (false, eval e X.env) :: starEach es X.env := by rfl) (hpl : (backTo pos (starEach es X.env)).any (·.1) = false := by rfl) : WE X E (.Call (.Name x p) (e :: es) [] pos) (fBi g fs) :=
  ⟨fun pins s σ H Q I ⟨Z, B, r, m, sl, so, q⟩ => (pe_callB hc hg hm hv ha hn hdb he hpl).run pins s σ H Q I
    ⟨Z, B, r, m, sl, so, q.step fun ws m1 xs H1 B1 l1 s1 r1 q1 => ⟨Z, B1, m1, ws, s1, r1, q1⟩⟩⟩
theorem we_ty {x : Str} {T : String} {g : List W → Mu → R W} {fs : FA} {p : Pos} (hc : CallW X E (.type T) g) (hg : Gl X x) (hm : X.mg x = none) (hv : bootBuiltins x = some (.type T)) (ha : WA X E (e :: es) fs) (hn : x ≠ "__name__" := by decide) (hdb : (x == ("__debug__" : Str)) = false := by decide)
    (he : starEach (e :: es) X.env = (false, eval e X.env) :: starEach es X.env := by rfl) (hpl : (backTo pos (starEach es X.env)).any (·.1) = false := by rfl) : WE X E (.Call (.Name x p) (e :: es) [] pos) (fBi g fs) :=
  ⟨fun pins s σ H Q I ⟨Z, B, r, m, sl, so, q⟩ => (pe_callTy hc hg hm hv ha hn hdb he hpl).run pins s σ H Q I
    ⟨Z, B, r, m, sl, so, q.step fun ws m1 xs H1 B1 l1 s1 r1 q1 => ⟨Z, B1, m1, ws, s1, r1, q1⟩⟩⟩
/-- one argument, read -/
def on1 (m : Mu) (ws : List W) (k : W → PyData → R W) : R W := match ws with
  | [a] => match dr m a with
    | some x => k a x
    | none => .bad
  | _ => .bad
def gLen (ws : List W) (m : Mu) : R W := on1 m ws fun _ x => match x with
  | .list ds => kInt ds.length m
  | .tuple ds => kInt ds.length m
  | .str z => if z.length ≤ 1000000 then kInt z.length m else .bad
  | .dict es => kInt es.length m
  | _ => .bad
theorem line_lt : sizeLine < 2 ^ 63 := by rw [sizeLine_eq]; decide
theorem DVk.length {p : Pl} {H : Hp} {B : List Addr} : ∀ {kvs : List (NestedKey × Addr × V)} {es : List (PyData × PyData)}, DVk p H B kvs es → kvs.length = es.length
  | _, _, .nil => rfl
  | _, _, .cons _ _ _ _ _ t => congrArg (· + 1) t.length
theorem r3_len : ∀ {kvs : List (NestedKey × Addr × V)} {xs : List (NestedKey × Addr × Value)}, Paired R3 kvs xs → kvs.length = xs.length := fun h => Paired.length h
theorem wvs1 {p : Pl} {H : Hp} {B : List Addr} {xs : List V} {a : W} (h : WVs p H B xs [a]) : ∃ x, xs = [x] ∧ WV p H B x a := by
  cases h with
  | cons h t => cases t; exact ⟨_, rfl, h⟩
theorem cw_len : CallW X E (.builtin "len") gLen := by
  rintro pins s σ H xs us Q I r ⟨Z, B, m, ws, so, hw, q⟩
  unfold gLen on1 at q
  split at q
  · rename_i a
    obtain ⟨x, rfl, ha⟩ := wvs1 hw
    split at q
    · rename_i c e
      dsimp only at q
      split at q
      · cases ha.seen so e rfl with
        | lst h1 h2 => exact call_len_seq pins s σ H _ us Q I r ⟨_, _, rfl, .inl (.inl h1), by rw [h2.length]; exact Post.done q so (.d (.int _))⟩
      · cases ha.seen so e rfl with
        | tup h1 h2 => exact call_len_seq pins s σ H _ us Q I r ⟨_, _, rfl, .inr h1, by rw [h2.length]; exact Post.done q so (.d (.int _))⟩
      · split at q
        · rename_i z
          cases ha.seen so e rfl with
          | str _ => exact call_len_str pins s σ H _ us Q I r ⟨_, rfl, Nat.le_trans z mil, Post.done q so (.d (.int _))⟩
        · exact q.elim
      · cases ha.seen so e rfl with
        | dct h1 h2 h3 h4 h5 =>
          cases r with
          | cons r0 rt =>
            cases rt
            cases r0
            obtain ⟨xs, d1, d2⟩ := dict_at I h1 h2 h4
            have hl := r3_len d2
            have hl2 := h2.length
            have hm : s.heap.DictKeyed (knX X) _ (pairsH xs) := ⟨xs, d1, rfl⟩
            have hz := line_lt
            have hp : (pairsH xs).length = xs.length := pairsH_length xs
            refine PyProof.Rows.call_len_slot (n := (pairsH xs).length) hm.typeIs PySem.F.slot_dict_len (fun Q' hq => len_keyed h3 hm hq) (by omega) (by omega) ⟨.int _, H, I.tok _, ⟨_, rfl⟩, ?_⟩
            rw [hp, ← hl, hl2]
            exact Post.done q so (.d (.int _))
      · exact q.elim
    · exact q.elim
  · exact q.elim
def gAll (ws : List W) (m : Mu) : R W := on1 m ws fun _ x => match x with
  | .list ds => if ds.all (fun d => match d with | .bool _ => true | _ => false) = true then kBl (ds.all fun d => match d with | .bool b => b | _ => false) m else .bad
  | _ => .bad
def gAny (ws : List W) (m : Mu) : R W := on1 m ws fun _ x => match x with
  | .list ds => if ds.all (fun d => match d with | .bool _ => true | _ => false) = true then kBl (ds.any fun d => match d with | .bool b => b | _ => false) m else .bad
  | _ => .bad
theorem DVs.bools {p : Pl} {H : Hp} {B : List Addr} : ∀ {xs : List V} {ds : List PyData}, DVs p H B xs ds → ds.all (fun d => match d with | .bool _ => true | _ => false) = true → ∃ bs : List Bool, xs = bs.map V.bl ∧ ds = bs.map PyData.bool
  | _, _, .nil, _ => ⟨[], rfl, rfl⟩
  | _, _, .cons h t, e => by
    rw [List.all_cons, Bool.and_eq_true] at e
    obtain ⟨bs, e1, e2⟩ := DVs.bools t e.2
    cases h with
    | bl b => exact ⟨b :: bs, by rw [e1]; rfl, by rw [e2]; rfl⟩
    | _ => exact absurd e.1 (by simp)
theorem all_bools : ∀ bs : List Bool, ((bs.map PyData.bool).all fun d => match d with | .bool b => b | _ => false) = bs.all id
  | [] => rfl
  | b :: bs => by rw [List.map_cons, List.all_cons, List.all_cons, all_bools bs]; rfl
theorem any_bools : ∀ bs : List Bool, ((bs.map PyData.bool).any fun d => match d with | .bool b => b | _ => false) = bs.any id
  | [] => rfl
  | b :: bs => by rw [List.map_cons, List.any_cons, List.any_cons, any_bools bs]; rfl
theorem cw_all (hc : X.calm = true) : CallW X E (.builtin "all") gAll := by
  rintro pins s σ H xs us Q I r ⟨Z, B, m, ws, so, hw, q⟩
  unfold gAll on1 at q
  split at q
  · rename_i a
    obtain ⟨x, rfl, ha⟩ := wvs1 hw
    split at q
    · rename_i c e
      dsimp only at q
      split at q
      · cases ha.seen so e rfl with
        | lst h1 h2 =>
          split at q
          · rename_i z
            obtain ⟨bs, rfl, rfl⟩ := h2.bools z
            rw [all_bools] at q
            exact cr_all hc pins s σ H _ us Q I r ⟨_, bs, rfl, .inl h1, Post.done q so (.d (.bl _))⟩
          · exact q.elim
      · exact q.elim
    · exact q.elim
  · exact q.elim
theorem cw_any (hc : X.calm = true) : CallW X E (.builtin "any") gAny := by
  rintro pins s σ H xs us Q I r ⟨Z, B, m, ws, so, hw, q⟩
  unfold gAny on1 at q
  split at q
  · rename_i a
    obtain ⟨x, rfl, ha⟩ := wvs1 hw
    split at q
    · rename_i c e
      dsimp only at q
      split at q
      · cases ha.seen so e rfl with
        | lst h1 h2 =>
          split at q
          · rename_i z
            obtain ⟨bs, rfl, rfl⟩ := h2.bools z
            rw [any_bools] at q
            exact cr_any hc pins s σ H _ us Q I r ⟨_, bs, rfl, .inl h1, Post.done q so (.d (.bl _))⟩
          · exact q.elim
      · exact q.elim
    · exact q.elim
  · exact q.elim
def gInt (ws : List W) (m : Mu) : R W := on1 m ws fun _ x => match x with
  | .int i => kInt i m
  | .bool b => kInt (if b then 1 else 0) m
  | _ => .bad
theorem cw_int : CallW X E (.type "int") gInt := by
  rintro pins s σ H xs us Q I r ⟨Z, B, m, ws, so, hw, q⟩
  unfold gInt on1 at q
  split at q
  · rename_i a
    obtain ⟨x, rfl, ha⟩ := wvs1 hw
    split at q
    · rename_i c e
      have h := ha.dr so e
      dsimp only at q
      split at q
      · exact call_int1 pins s σ H _ us Q I r (.inl ⟨_, by rw [int_inv h], Post.done q so (.d (.int _))⟩)
      · cases h
        exact call_int1 pins s σ H _ us Q I r (.inr ⟨_, rfl, Post.done q so (.d (.int _))⟩)
      · exact q.elim
    · exact q.elim
  · exact q.elim
def gTuple (ws : List W) (m : Mu) : R W := on1 m ws fun a x => match x with
  | .list ds => .ok (.d (.tuple ds)) m
  | .tuple _ => .ok a m
  | _ => .bad
theorem cw_tuple : CallW X E (.type "tuple") gTuple := by
  rintro pins s σ H xs us Q I r ⟨Z, B, m, ws, so, hw, q⟩
  unfold gTuple on1 at q
  split at q
  · rename_i a
    obtain ⟨x, rfl, ha⟩ := wvs1 hw
    split at q
    · rename_i c e
      dsimp only at q
      split at q
      · cases ha.seen so e rfl with
        | lst h1 h2 => exact call_tuple_of pins s σ H _ us Q I r ⟨_, _, rfl, .inl ⟨.inl h1, fun p hp => Post.fresh q so hp (.d (DV.top so hp h2))⟩⟩
      · cases ha.seen so e rfl with
        | tup h1 h2 => exact call_tuple_of pins s σ H _ us Q I r ⟨_, _, rfl, .inr ⟨h1, Post.done q so ha⟩⟩
      · exact q.elim
    · exact q.elim
  · exact q.elim
/-- list(x), not changed -/
def gList (ws : List W) (m : Mu) : R W := on1 m ws fun _ x => match x with
  | .list ds => .ok (.d (.list ds)) m
  | .tuple ds => .ok (.d (.list ds)) m
  | _ => .bad
theorem cw_list : CallW X E (.type "list") gList := by
  rintro pins s σ H xs us Q I r ⟨Z, B, m, ws, so, hw, q⟩
  unfold gList on1 at q
  split at q
  · rename_i a
    obtain ⟨x, rfl, ha⟩ := wvs1 hw
    split at q
    · rename_i c e
      dsimp only at q
      split at q
      · cases ha.seen so e rfl with
        | lst h1 h2 => exact call_list_of pins s σ H _ us Q I r ⟨_, _, rfl, .inl (.inl h1), fun p hp => Post.fresh q so hp (.d (DV.topL so hp h2))⟩
      · cases ha.seen so e rfl with
        | tup h1 h2 => exact call_list_of pins s σ H _ us Q I r ⟨_, _, rfl, .inr h1, fun p hp => Post.fresh q so hp (.d (DV.topL so hp h2))⟩
      · exact q.elim
    · exact q.elim
  · exact q.elim
end
end Wy

set_option Elab.async false
set_option linter.all false
set_option maxRecDepth 100000
set_option maxHeartbeats 4000000
/-! W6: enumerate of a tuple; isinstance; tuple(range(n)); calls of defs. -/
namespace Wy
open PySem PySem.Spec PyProof.Rows L2

/-! ### enumerate(v), v told by its iterator -/
theorem meets_enum1 {v : Value} {o : Obj} {G : Heap → Prop} (B : Begins v o G) :
    Meets (Builtin.«enumerate.__new__» ⟨[.type "enumerate", v], []⟩) (fun _ R s => G s.heap ∧
      R (.ok (.ret (.ref (s.heap.push o).objs.size))) { s with heap := (s.heap.push o).push { cls := .type "enumerate", data := .fields #[.none, .bool false, .ref s.heap.objs.size, rawInt 0, .none, .none] } }) :=
  .of_wp fun prog w A R s h => by
    obtain ⟨hp, g, d, tk, os⟩ := s
    obtain ⟨h1, h⟩ := h
    have hsub := sub_enumerate
    have q1 : ∀ {A' : Around} {E : Value → Shared → Prop} {Q : Value → Shared → Prop}, Q (.ref hp.objs.size) ⟨hp.push o, g, d, tk, os⟩ → wpAny (model prog w) A' (pyIter v) Q E ⟨hp, g, d, tk, os⟩ :=
      fun q => B.iter prog w _ _ ⟨hp, g, d, tk, os⟩ _ h1 q
    wp_walk using q1
    refine wpAny_stack_any fun st => wpAny_pure ?_
    split
    · rename_i c _ _ _ _ _
      cases (c == Value.type "enumerate") <;> (wp_walk using q1; exact ⟨_, rfl, h⟩)
    · wp_walk using q1
      exact ⟨_, rfl, h⟩
theorem enum1 {prog : Program} {w : World} {A : Around} {E : Value → Shared → Prop} {s : Shared} {v : Value} {o : Obj} {G : Heap → Prop} {Q : Value → Shared → Prop} (B : Begins v o G) (h1 : G s.heap)
    (h : ∀ h', IsEnum h' (s.heap.objs.size + 1) s.heap.objs.size 0 .none → h'.get? s.heap.objs.size = some o → (∀ b o, s.heap.get? b = some o → h'.get? b = some o) → Q (.ref (s.heap.objs.size + 1)) { s with heap := h' }) :
    wpAny (model prog w) A (call (.type "enumerate") [v]) Q E s := by
  refine callType_new F.called_enumerate (by decide) (F.typeCall_enumerate_1 _) (F.newCall_enumerate_1 _) (fun obj => F.args_object_init_2 obj _) F.entry_enumerate_new (meets_enum1 B) ⟨h1, ?_⟩
  have hz : (s.heap.push o).objs.size = s.heap.objs.size + 1 := Heap.size_push ..
  show _ ∧ _
  rw [hz]
  have he : IsEnum ((s.heap.push o).push { cls := .type "enumerate", data := .fields #[.none, .bool false, .ref s.heap.objs.size, rawInt 0, .none, .none] }) (s.heap.objs.size + 1) s.heap.objs.size 0 .none := by
    have z := Heap.get?_push_size (s.heap.push o) (o := { cls := .type "enumerate", data := .fields #[.none, .bool false, .ref s.heap.objs.size, rawInt 0, .none, .none] }) rfl
    rw [hz] at z
    exact z
  exact ⟨⟨_, he, rfl⟩, h _ he (Heap.get?_push_of_some _ (Heap.get?_push_size _ B.free)) fun b o x => Heap.get?_push_of_some _ (Heap.get?_push_of_some _ x)⟩
/-- the tuple at a, each item in a new pair -/
def ItE (K : PySem.W.Frag) (a : Addr) : It :=
  ⟨fun i H => ∃ (xs : List V) (x : V), SqT K H a xs ∧ xs[i]? = some x, fun i H v H' => ∃ T x, v = .ref T ∧ H T = none ∧ H' = upd H T (.tup [.int (i : Nat), x]) ∧ ∀ xs, SqT K H a xs → xs[i]? = some x, fun i H => ∃ xs : List V, SqT K H a xs ∧ xs.length ≤ i⟩
theorem turn_enumT {P : Program} {w : World} {K : PySem.W.Frag} {elts : List Expr} {kk : Nat} {tpos : Pos} (a e it : Addr) :
    Turn P w K (.Tuple elts kk tpos) (ItE K a) [e, it] e (fun i h => (∃ old, IsEnum h e it ((i : Nat) : Int) old) ∧ h.IsTupleIter it a i ∧ e ≠ it ∧ a ≠ it ∧ a ≠ e) where
  mem := by simp
  obj := fun i h st b hb => by
    obtain ⟨⟨old, he⟩, ⟨o, ho, hc, hd⟩, _⟩ := st
    rcases List.mem_cons.mp hb with z | z
    · rw [z]; exact ⟨_, he, fun v q => nomatch q⟩
    · have z' : b = it := by simpa using z
      rw [z']; exact ⟨o, ho, fun v q => by rw [hd] at q; cases q⟩
  keep := fun i h h' st k => ⟨let ⟨old, he⟩ := st.1; ⟨old, k e (by simp) _ he⟩, st.2.1.at fun o q => k it (by simp) o q, st.2.2⟩
  item := by
    intro X hP hw hK hc i pins s σ H E I hf st hg
    subst hP hw hK
    obtain ⟨⟨old, he⟩, hit, hne, n1, n2⟩ := st
    obtain ⟨xs, x, hq, hx⟩ := hg
    obtain ⟨its, rv, tp, hz⟩ := I.tuple hq
    obtain ⟨u, hu, ru⟩ := rv.get hx
    have hel : e < s.heap.objs.size := Heap.lt_size he
    have hil : it < s.heap.objs.size := let ⟨_, q, _⟩ := hit; Heap.lt_size q
    have hT : s.heap.IsTuple a its.toArray := tp
    have hlt : i < its.toArray.size := by
      have := (List.getElem?_eq_some_iff.mp hu).1
      simpa using this
    refine wpAny_pyNext_enum_itemD (Draws.tuple (A := X.A.in1) (show X.A.in1.handled = none from I.ok.hd hc) it a n1 its.toArray) he ⟨hit, hT⟩ hlt hne (by simp [hne, n2.symm]) fun x' h' tk hp ho hst htup hsz hk => ?_
    have ex : x' = u := by
      have q1 : its.toArray[i]? = some u := by simpa using hu
      rw [q1] at hp
      exact (Option.some.inj hp).symm
    subst ex
    refine ⟨_, rfl, wpAny_letOwnedTupleGo_enum (s := { s with heap := h', toks := tk + 1 }) ho fun h'' he' sb => ?_⟩
    have hT2 : h''.get? s.heap.objs.size = some { cls := .type "tuple", data := .seq #[.int i tk, x'] } := (sb.2 _ (Nat.ne_of_gt hel)).trans htup
    have new : ObjOk X.prog X.w (upd H s.heap.objs.size (.tup [.int (i : Nat), x])) h'' s.heap.objs.size (.tup [.int (i : Nat), x]) :=
      ⟨by show 2 ≤ sizeLine; decide, [.int i tk, x'], .cons ⟨_, rfl⟩ (.cons ru .nil), ⟨_, hT2, rfl, _, rfl⟩⟩
    have I1 : Inv X pins σ (upd H s.heap.objs.size (.tup [.int (i : Nat), x])) { s with heap := h'', toks := tk + 1 } :=
      I.turnedNew (ch := [e, it]) (fun b ob hb q => (sb.2 b (fun z => hb (by simp [z]))).trans (hk b ob (fun z => hb (by simp [z])) (fun z => hb (by simp [z])) q)) hf (Nat.le_refl _) new
    refine ⟨.ref s.heap.objs.size, _, I1, rfl, ⟨_, x, rfl, I.hok.fresh (Nat.le_refl _), rfl, fun ys hy => by rw [I.tuple_inj hy hq]; exact hx⟩, ⟨⟨x', ?_⟩, hst.1.at fun o q => (sb.2 it (Ne.symm hne)).trans q, hne, n1, n2⟩, fun b hb => ?_⟩
    · rw [show ((i + 1 : Nat) : Int) = (i : Int) + 1 by omega]
      exact he'
    · have hb' : b < s.heap.objs.size := by
        rcases List.mem_cons.mp hb with z | z
        · rw [z]; exact hel
        · rw [show b = it by simpa using z]; exact hil
      rw [upd_ne (Nat.ne_of_lt hb')]
      exact (hf b hb).1
  done := by
    intro X hP hw hK hc i pins s σ H E I hf st hg
    subst hP hw hK
    obtain ⟨⟨old, he⟩, hit, hne, n1, n2⟩ := st
    obtain ⟨xs, hq, hx⟩ := hg
    obtain ⟨its, rv, tp, hz⟩ := I.tuple hq
    obtain ⟨f0, f1, f2, f3, f4, f5⟩ := hf it (by simp)
    have hl := rv.length
    have hT : s.heap.IsTuple a its.toArray := tp
    have hT2 : s.TypeIs (.ref e) "enumerate" := ⟨_, he, rfl⟩
    unfold pyNext
    refine wpAny_bind (wpAny_attempt (wpAny_callSpecial?_slot (name := Str.ofString "__next__") hT2 F.slot_enumerate_next (wpAny_call_entry F.slot_enumerate_next hT2 F.entry_enumerate_next ?_ (F.args_enumerate_next_1 _))))
    show wpAny _ _ (field (.ref e) 2 >>= _) _ _ _
    refine wpAny_bind (wpAny_field he rfl (x := .ref it) rfl ?_)
    refine wpAny_bind (wpAny_nextOf_tuple_end (I.ok.hd hc) hit hT (by simp; omega) fun h' x eb hx' => ?_)
    obtain ⟨o, ho, hcl⟩ := hx'
    refine wpAny_bind (wpAny_isInstance (T := "StopIteration") (b := true) ⟨o, ho, hcl⟩ isSubtype_stop ?_)
    exact wpAny_pure ⟨rfl, I.turned (t' := s.toks) (fun b o hb q => eb b o hb q) f0 f1 f3 f4 f5⟩
  self := fun A i s Q E st h => let ⟨⟨_, he⟩, _⟩ := st; wpAny_pyIter_enum he h
def iEnA (K : PySem.W.Frag) (ta : TA) : TI := fun σ H R => ta σ H fun vs H1 => ∃ a xs, vs = [.ref a] ∧ ((SqL K H1 a xs ∧ R (Ite K a) H1) ∨ (SqT K H1 a xs ∧ R (ItE K a) H1))
theorem pi_enA {X : Cx} {e : Expr} {ta : TA} {p pos tpos : Pos} {elts : List Expr} {kk : Nat} (hg : Gl X "enumerate") (hm : X.mg "enumerate" = none) (ha : PA X [e] ta) (hs : starEach [e] X.env = [(false, eval e X.env)] := by rfl) :
    PI X (.Tuple elts kk tpos) (.Call (.Name "enumerate" p) [e] [] pos) (iEnA X.K ta) := by
  constructor
  intro pins s σ H R I h
  refine Call_ (ld_blt I hg hm boot_enumerate (PyProof.Rows.callWith_type1 (thn (ha.run pos pins s σ H _ I h) fun us s1 hh => ?_) hs rfl))
  obtain ⟨vs, H1, I1, r1, a, xs, ex, q1⟩ := hh
  subst ex
  have fr : ∀ b ∈ [s1.heap.objs.size + 1, s1.heap.objs.size], FpOk X pins H1 b := fun b hb => by
    have hle : s1.heap.objs.size ≤ b := by
      rcases List.mem_cons.mp hb with z | z
      · omega
      · have z' : b = s1.heap.objs.size := by simpa using z
        omega
    exact I1.fpOk hle (I1.hok.fresh hle)
  cases r1 with
  | cons r rr =>
    cases rr
    cases r
    rcases q1 with ⟨hq, q⟩ | ⟨hq, q⟩
    · obtain ⟨its, rv, pl, hz⟩ := I1.list hq
      refine call_enumerate_list pl.isList fun h' he hit hsz hk => wpAny_pyIter_enum he ?_
      exact ⟨s1.heap.objs.size + 1, [s1.heap.objs.size + 1, s1.heap.objs.size], _, _, H1, rfl, I1.kept (t' := s1.toks) hk, turn_enum a (s1.heap.objs.size + 1) s1.heap.objs.size, ⟨⟨.none, he⟩, hit, Nat.succ_ne_self _⟩, fr, q⟩
    · obtain ⟨its, rv, tp, hz⟩ := I1.tuple hq
      have hT : s1.heap.IsTuple a its.toArray := tp
      have hal : a < s1.heap.objs.size := let ⟨_, z, _⟩ := tp; Heap.lt_size z
      refine enum1 (begins_tuple a its.toArray) hT fun h' he ho hk => wpAny_pyIter_enum he ?_
      exact ⟨s1.heap.objs.size + 1, [s1.heap.objs.size + 1, s1.heap.objs.size], _, _, H1, rfl, I1.kept (t' := s1.toks) hk, turn_enumT a (s1.heap.objs.size + 1) s1.heap.objs.size, ⟨⟨.none, he⟩, ⟨_, ho, rfl, rfl⟩, Nat.succ_ne_self _, Nat.ne_of_lt hal, Nat.ne_of_lt (Nat.lt_succ_of_lt hal)⟩, fr, q⟩

/-! ### isinstance -/
def tyOf (m : Mu) (w : W) : Option String := match w with
  | .wt _ => some "tuple"
  | w => match dr m w with
    | some .none => some "NoneType"
    | some (.bool _) => some "bool"
    | some (.int _) => some "int"
    | some (.str _) => some "str"
    | some (.list _) => some "list"
    | some (.tuple _) => some "tuple"
    | _ => none
def subTy (t T : String) : Bool := t == T || (t == "bool" && T == "int")
def allTy : List String := ["NoneType", "bool", "int", "str", "list", "tuple"]
theorem kit_all : (allTy.all fun t => ["int", "bool", "str", "list", "tuple"].all fun T => kitB t T == some (subTy t T)) = true := by decide +kernel
theorem kit_some {t T : String} (h1 : t ∈ allTy) (h2 : T ∈ ["int", "bool", "str", "list", "tuple"]) : kitB t T = some (subTy t T) := by
  have h := kit_all
  rw [List.all_eq_true] at h
  have h' := h t h1
  rw [List.all_eq_true] at h'
  exact eq_of_beq (h' T h2)
theorem tyOf_in {m : Mu} {w : W} {t : String} (h : tyOf m w = some t) : t ∈ allTy := by
  unfold tyOf at h
  split at h
  · cases h; decide
  · split at h <;> first | (cases h; decide) | cases h
theorem tyx_tup {p : Pl} {H : Hp} {B : List Addr} {a : Addr} {xs : List V} (h : SqTS p H B a xs) : TyX p.K H (.ref a) (.type "tuple") := by
  rcases h with ⟨_, h | ⟨o, h⟩⟩ | ⟨o, _, _, h, c, _⟩
  · exact .base (.tup h)
  · exact .fTuple h
  · exact .kTuple h c
theorem tyx_of {p : Pl} {H : Hp} {B : List Addr} {m : Mu} {v : V} {w : W} {t : String} (hv : WV p H B v w) (so : So p H B m) (h : tyOf m w = some t) : TyX p.K H v (.type t) := by
  unfold tyOf at h
  split at h
  · cases h
    cases hv with
    | wt h r => exact tyx_tup h
  · split at h
    · rename_i e; cases h; cases hv.dr so e; exact .base .non
    · rename_i e; cases h; cases hv.dr so e; exact .base (.bl _)
    · rename_i e; cases h; cases hv.dr so e; exact .base (.int _)
    · rename_i e; cases h; cases hv.dr so e; exact .base (.str _)
    · rename_i e
      cases h
      cases hv.dr so e with
      | lst h _ =>
        rcases h.2 with h | ⟨o, h⟩
        · exact .base (.lst h)
        · exact .base (.frz h)
    · rename_i e
      cases h
      cases hv.dr so e with
      | tup h _ =>
        have z := tyx_tup h
        exact z
    · cases h
def fIsi (T : String) (f : FE) : FE := fun r m => (f r m).bind fun w m1 => match tyOf m1 w with
  | some t => kBl (subTy t T) m1
  | none => .bad
section
variable {X : Cx} {E : XK} {a b c e : Expr} {es : List Expr} {fa fb : FE} {pos : Pos}
theorem we_isi {T : String} {x : Str} {p p2 : Pos} (ha : WE X E a fa) (hg : Gl X "isinstance") (hm : X.mg "isinstance" = none) (hgT : Gl X x) (hmT : X.mg x = none) (hT : bootBuiltins x = some (.type T)) (hT2 : T ∈ ["int", "bool", "str", "list", "tuple"] := by decide)
    (hn : x ≠ "__name__" := by decide) (hdb : (x == ("__debug__" : Str)) = false := by decide) (hs : starEach (a :: [.Name x p2]) X.env = (false, eval a X.env) :: starEach [.Name x p2] X.env := by rfl) (hs2 : starEach [.Name x p2] X.env = (false, eval (.Name x p2) X.env) :: starEach [] X.env := by rfl)
    (hpl : (backTo pos (starEach [.Name x p2] X.env)).any (·.1) = false := by rfl) :
    WE X E (.Call (.Name "isinstance" p) [a, .Name x p2] [] pos) (fIsi T fa) :=
  ⟨fun pins s σ H Q I ⟨Z, B, r, m, sl, so, q⟩ => (pe_callB call_isi hg hm PyProof.Rows.boot_isinstance (pa_cons ha (pa_cons (pe_bltn (v := .ty T) hgT hmT hT rfl hn hdb) pa_nil hs2) hs) (by decide) (by decide) hs hpl).run pins s σ H Q I
    ⟨Z, B, r, m, sl, so, q.step fun w m1 v H1 B1 l1 s1 r1 q1 => by
      cases ty : tyOf m1 w with
      | none => rw [ty] at q1; exact q1.elim
      | some t =>
        rw [ty] at q1
        exact ⟨_, _, _, _, _, rfl, .ty T, tyx_of r1 s1 ty, kit_ty (kit_some (tyOf_in ty) hT2), Post.done q1 s1 (.d (.bl _))⟩⟩⟩

/-! ### tuple(range(n)) -/
def dInts (n : Nat) : List PyData := (List.range n).map fun i : Nat => PyData.int (i : Int)
def fTupR (f : FE) : FE := fun r m => (f r m).bind fun w m1 => match w with
  | .d (.int n) => if 0 ≤ n ∧ n ≤ 1000 then .ok (.d (.tuple (dInts n.toNat))) m1 else .bad
  | _ => .bad
theorem dvs_nats (p : Pl) (H : Hp) (B : List Addr) : ∀ l : List Nat, DVs p H B (l.map fun i : Nat => V.int (i : Int)) (l.map fun i : Nat => PyData.int (i : Int))
  | [] => .nil
  | _ :: l => .cons (.int _) (dvs_nats p H B l)
theorem vals_items {n : Nat} {acc : Array Value} (h : ItemsOf (fun i v => ∃ t, v = Value.int (0 + (i : Nat) * 1) t) acc n) : Vals ((List.range n).map fun i : Nat => V.int (i : Int)) acc.toList := by
  have go : ∀ (k : Nat) (l : List Value) (j : Nat), l.length = k → (∀ i v, l[i]? = some v → ∃ t, v = Value.int ((j + i : Nat) : Int) t) → Vals ((List.range' j k).map fun i : Nat => V.int (i : Int)) l := by
    intro k
    induction k with
    | zero =>
      intro l j hl _
      have e : l = [] := List.eq_nil_of_length_eq_zero hl
      rw [e]
      exact .nil
    | succ k ih =>
      intro l j hl hv
      cases l with
      | nil => cases hl
      | cons v l =>
        rw [List.range'_succ, List.map_cons]
        obtain ⟨t, e⟩ := hv 0 v rfl
        refine .cons ⟨t, by rw [e]; rfl⟩ (ih l (j + 1) (by simpa using hl) fun i u hu => ?_)
        obtain ⟨t, e⟩ := hv (i + 1) u (by simpa using hu)
        exact ⟨t, by rw [e]; congr 1; omega⟩
  rw [List.range_eq_range']
  refine go n acc.toList 0 (by rw [Array.length_toList]; exact h.1) fun i v hv => ?_
  obtain ⟨t, e⟩ := h.2 i v (by rw [← Array.getElem?_toList]; exact hv)
  exact ⟨t, by rw [e]; congr 1; omega⟩
theorem we_tupR {p p2 pos2 : Pos} (hc : X.calm = true) (ha : WE X E a fa) (hg : Gl X "tuple") (hm : X.mg "tuple" = none) (hg2 : Gl X "range") (hm2 : X.mg "range" = none) (hs : starEach [a] X.env = [(false, eval a X.env)] := by rfl)
    (hs2 : starEach [.Call (.Name "range" p2) [a] [] pos2] X.env = [(false, eval (.Call (.Name "range" p2) [a] [] pos2) X.env)] := by rfl) :
    WE X E (.Call (.Name "tuple" p) [.Call (.Name "range" p2) [a] [] pos2] [] pos) (fTupR fa) := by
  constructor
  rintro pins s σ H Q I ⟨Z, B, r, m, sl, so, q⟩
  refine Call_ (ld_blt I hg hm boot_tuple (PyProof.Rows.callWith_type1 ?_ hs2 rfl))
  have inner : PE X (.Call (.Name "range" p2) [a] [] pos2) (fun σ H Q' => rd RE X E fa σ H fun x H1 => ∃ j : Int, x = .int j ∧ ∀ q, H1 q = none → Q' (.ref q) (upd H1 q (.rng 0 j))) := by
    constructor
    intro pins s σ H Q' I h
    refine Call_ (ld_blt I hg2 hm2 boot_range (PyProof.Rows.callWith_type1 (thn ((pa_cons ha pa_nil hs).run pos2 pins s σ H (fun vs H1 => ∃ j : Int, vs = [V.int j] ∧ ∀ q, H1 q = none → Q' (.ref q) (upd H1 q (.rng 0 j))) I ?_) fun us s1 hh => ?_) hs rfl))
    · obtain ⟨Z, B, r, m, sl, so, q⟩ := h
      refine ⟨Z, B, r, m, sl, so, ?_⟩
      cases e : fa r m with
      | ok w m1 =>
        rw [e] at q
        intro b H' B' l s' rr
        obtain ⟨j, e1, k⟩ := q b H' B' l s' rr
        exact ⟨j, by rw [e1], k⟩
      | exn x m1 => rw [e] at q; exact q
      | bad => rw [e] at q; exact q
    · obtain ⟨vs, H1, I1, r1, j, ev, k⟩ := hh
      subst ev
      cases r1 with
      | cons r rr =>
        cases rr
        obtain ⟨t, rfl⟩ := r
        refine call_range_1 ⟨.ref s1.heap.objs.size, upd H1 s1.heap.objs.size (.rng 0 j), I1.laid (t' := s1.toks + 1 + 1) (fun b o e => Heap.get?_push_of_some _ e) (Nat.le_refl _) ⟨_, _, _, Heap.get?_push_size _ rfl⟩, rfl, k _ (I1.hok.fresh (Nat.le_refl _))⟩
  refine thn ((pa_cons inner pa_nil hs2).run pos pins s σ H (fun vs H2 => ∃ (rg : Addr) (n : Int), vs = [V.ref rg] ∧ H2 rg = some (.rng 0 n) ∧ 0 ≤ n ∧ n ≤ 1000 ∧ ∀ t, H2 t = none → Q (.ref t) (upd H2 t (.tup ((List.range n.toNat).map fun i : Nat => V.int (i : Int))))) I ?_) fun us s1 hh => ?_
  · refine ⟨Z, B, r, m, sl, so, q.step fun w m1 x H1 B1 l1 s1 r1 q1 => ?_⟩
    split at q1
    · rename_i n
      split at q1
      · rename_i z
        cases r1 with
        | d r1 =>
          refine ⟨n, int_inv r1, fun rg hrg => ⟨rg, n, rfl, upd_same, z.1, z.2, fun t ht => ?_⟩⟩
          have q2 := q1.mono (le_laid (B := B1) (o := .rng 0 n) hrg)
          exact Post.fresh q2 (s1.laid hrg) ht (.d (DV.top (s1.laid hrg) ht (dvs_nats _ _ _ _)))
      · exact q1.elim
    · exact q1.elim
  · obtain ⟨vs, H2, I2, r2, rg, n, ev, hrg, z1, z2, k⟩ := hh
    subst ev
    cases r2 with
    | cons r rr =>
      cases rr
      cases r
      obtain ⟨t, u, v, hr⟩ := (show ObjOk X.prog X.w H2 s1.heap rg (.rng 0 n) from I2.hok rg _ hrg)
      have en : Builtin.Range.rangeSize 0 n 1 = ((n.toNat : Nat) : Int) := by
        rw [rangeSize_one]
        split <;> omega
      refine call_tuple_range (n := n.toNat) (I2.ok.hd hc) hr (small_one (by omega) (by omega) (by omega) (by omega)) en (by omega) fun h' tk acc hk hacc => ?_
      have I3 : Inv X pins σ H2 { s1 with heap := h', toks := tk } := I2.kept (t' := tk) hk
      have hv := vals_items hacc
      have hf : H2 h'.objs.size = none := I3.hok.fresh (Nat.le_refl _)
      refine ⟨.ref h'.objs.size, _, I3.laid (t' := tk) (o := .tup ((List.range n.toNat).map fun i : Nat => V.int (i : Int))) (fun b o e => Heap.get?_push_of_some _ e) (Nat.le_refl _) ⟨?_, acc.toList, hv, IsTup.new _ _⟩, rfl, k _ hf⟩
      rw [List.length_map, List.length_range]
      exact le1000 (by omega)

/-! ### calls of defs -/
/-- what a def promises: the function's answer -/
def spW (P : Program) (w : World) (K : PySem.W.Frag) (mg : Str → Option Value) (n : Nat) (F : Fn) : Sp := fun vs H Q E => vs.length = n ∧ ∃ Z B m ws, So ⟨P, w, K, mg, Z⟩ H B m ∧ WVs ⟨P, w, K, mg, Z⟩ H B vs ws ∧ PostE ⟨P, w, K, mg, Z⟩ E B H (F ws m) Q
def fCall (n : Nat) (F : Fn) (fs : FA) : FE := fun r m => (fs r m).bind fun ws m1 => if ws.length = n then F ws m1 else .bad
theorem we_call {CX : CXT} {k n : Nat} {f : Addr} {fd : FuncData} {ps : List Str} {F : Fn} {x : Str} {p : Pos} {fs : FA} (FO : FnOk X.prog X.w X.K X.mg X.base CX k f fd ps (spW X.prog X.w X.K X.mg n F)) (hr : Room k X.A) (hg : Gl X x) (hm : X.mg x = some (.ref f)) (hk : PySem.W.keepIn X.K (.ref f) = true) (hb : Binds X.K fd ps [])
    (hx : Passes CX X E) (ha : WA X E (e :: es) fs) (hdb : (x == ("__debug__" : Str)) = false := by decide) (he : starEach (e :: es) X.env = (false, eval e X.env) :: starEach es X.env := by rfl) (hpl : (backTo pos (starEach es X.env)).any (·.1) = false := by rfl) :
    WE X E (.Call (.Name x p) (e :: es) [] pos) (fCall n F fs) :=
  ⟨fun pins s σ H Q I ⟨Z, B, r, m, sl, so, q⟩ => (pe_call FO hr hg hm hk hb .nil hx ha hdb he hpl).run pins s σ H Q I
    ⟨Z, B, r, m, sl, so, q.step fun ws m1 xs H1 B1 l1 s1 r1 q1 => by
      split at q1
      · rename_i z
        show spW _ _ _ _ n F (xs ++ []) H1 Q E
        rw [List.append_nil]
        exact ⟨by rw [r1.length]; exact z, Z, B1, m1, ws, s1, r1, q1⟩
      · exact q1.elim⟩⟩
theorem we_call0 {CX : CXT} {k : Nat} {f : Addr} {fd : FuncData} {ps : List Str} {F : Fn} {x : Str} {p : Pos} (FO : FnOk X.prog X.w X.K X.mg X.base CX k f fd ps (spW X.prog X.w X.K X.mg 0 F)) (hr : Room k X.A) (hg : Gl X x) (hm : X.mg x = some (.ref f)) (hk : PySem.W.keepIn X.K (.ref f) = true) (hb : Binds X.K fd ps [])
    (hx : Passes CX X E) (hdb : (x == ("__debug__" : Str)) = false := by decide) : WE X E (.Call (.Name x p) [] [] pos) (fCall 0 F fNil) :=
  ⟨fun pins s σ H Q I ⟨Z, B, r, m, sl, so, q⟩ => (pe_call0 FO hr hg hm hk hb .nil hx hdb).run pins s σ H Q I ⟨rfl, Z, B, m, [], so, .nil, q⟩⟩
end
end Wy

set_option Elab.async false
set_option linter.all false
set_option maxRecDepth 100000
set_option maxHeartbeats 4000000
/-! W7: what is walked; targets; comprehensions. -/
namespace Wy
open PySem PySem.Spec PyProof.Rows L2

/-! ### equal data, equal things -/
mutual
def pdb : PyData → PyData → Bool
  | .none, .none => true
  | .bool a, .bool b => a == b
  | .int a, .int b => a == b
  | .str a, .str b => decide (a = b)
  | .list a, .list b => pdbs a b
  | .tuple a, .tuple b => pdbs a b
  | .dict a, .dict b => pdbk a b
  | _, _ => false
def pdbs : List PyData → List PyData → Bool
  | [], [] => true
  | a :: as, b :: bs => pdb a b && pdbs as bs
  | _, _ => false
def pdbk : List (PyData × PyData) → List (PyData × PyData) → Bool
  | [], [] => true
  | (a, c) :: as, (b, d) :: bs => pdb a b && pdb c d && pdbk as bs
  | _, _ => false
end
mutual
theorem pdb_eq : ∀ (a b : PyData), pdb a b = true → a = b
  | .none, b, h => by cases b <;> first | rfl | simp [pdb] at h
  | .bool a, b, h => by cases b <;> simp_all [pdb]
  | .int a, b, h => by cases b <;> simp_all [pdb]
  | .str a, b, h => by cases b <;> simp_all [pdb]
  | .list a, b, h => by
    cases b with
    | list b => rw [pdbs_eq a b (by simpa [pdb] using h)]
    | _ => simp [pdb] at h
  | .tuple a, b, h => by
    cases b with
    | tuple b => rw [pdbs_eq a b (by simpa [pdb] using h)]
    | _ => simp [pdb] at h
  | .dict a, b, h => by
    cases b with
    | dict b => rw [pdbk_eq a b (by simpa [pdb] using h)]
    | _ => simp [pdb] at h
theorem pdbs_eq : ∀ (a b : List PyData), pdbs a b = true → a = b
  | [], b, h => by cases b <;> first | rfl | simp [pdbs] at h
  | a :: as, b, h => by
    cases b with
    | nil => simp [pdbs] at h
    | cons b bs =>
      have h' : pdb a b = true ∧ pdbs as bs = true := by simpa [pdbs] using h
      rw [pdb_eq a b h'.1, pdbs_eq as bs h'.2]
theorem pdbk_eq : ∀ (a b : List (PyData × PyData)), pdbk a b = true → a = b
  | [], b, h => by cases b <;> first | rfl | simp [pdbk] at h
  | (a, c) :: as, b, h => by
    cases b with
    | nil => simp [pdbk] at h
    | cons b bs =>
      obtain ⟨b, d⟩ := b
      have h' : (pdb a b = true ∧ pdb c d = true) ∧ pdbk as bs = true := by simpa [pdbk] using h
      rw [pdb_eq a b h'.1.1, pdb_eq c d h'.1.2, pdbk_eq as bs h'.2]
end
mutual
theorem pdb_refl : ∀ a : PyData, pdb a a = true
  | .none => rfl
  | .bool a => by simp [pdb]
  | .int a => by simp [pdb]
  | .str a => by simp [pdb]
  | .list a => by rw [pdb]; exact pdbs_refl a
  | .tuple a => by rw [pdb]; exact pdbs_refl a
  | .dict a => by rw [pdb]; exact pdbk_refl a
theorem pdbs_refl : ∀ a : List PyData, pdbs a a = true
  | [] => rfl
  | a :: as => by rw [pdbs, pdb_refl a, pdbs_refl as]; rfl
theorem pdbk_refl : ∀ a : List (PyData × PyData), pdbk a a = true
  | [] => rfl
  | (a, c) :: as => by rw [pdbk, pdb_refl a, pdb_refl c, pdbk_refl as]; rfl
end
def obb : Ob → Ob → Bool
  | .lst a, .lst b => pdbs a b
  | .dct a, .dct b => pdbk a b
  | _, _ => false
theorem obb_eq {a b : Ob} (h : obb a b = true) : a = b := by
  cases a <;> cases b <;> first | (rw [pdbs_eq _ _ h]) | (rw [pdbk_eq _ _ h]) | cases h
theorem obb_refl (a : Ob) : obb a a = true := by
  cases a
  · exact pdbs_refl _
  · exact pdbk_refl _

/-! ### what is walked -/
/-- the items; a thing of the store that must stand meanwhile -/
structure ItS where
  items : List W
  src : Option (Nat × Ob)
def stands (src : Option (Nat × Ob)) (m : Mu) : Bool := match src with
  | none => true
  | some (n, o) => match m[n]? with
    | some o' => obb o' o
    | none => false
/-- the world goes on, but for the things of Z -/
structure LeZ (Z : List Addr) (B : List Addr) (H : Hp) (B' : List Addr) (H' : Hp) : Prop where
  keep : ∀ a o, a ∉ B → a ∉ Z → (∀ ps, o ≠ .tbl ps) → H a = some o → H' a = some o
  trk : ∀ a, H a ≠ none → H' a ≠ none
  ext : ∃ C, B' = B ++ C ∧ ∀ a ∈ C, H a = none
theorem Le.z {Z B B' : List Addr} {H H' : Hp} (l : Le B H B' H') : LeZ Z B H B' H' := ⟨fun a o h _ n e => l.keep a o h n e, l.trk, l.ext⟩
theorem LeZ.out {Z B B1 : List Addr} {H H1 : Hp} (l : LeZ Z B H B1 H1) {a : Addr} (h : a ∉ B) (s : H a ≠ none) : a ∉ B1 := by
  obtain ⟨C, rfl, hC⟩ := l.ext
  intro z
  rcases List.mem_append.mp z with z | z
  · exact h z
  · exact s (hC a z)
theorem LeZ.rd {Z B B1 : List Addr} {H H1 : Hp} (l : LeZ Z B H B1 H1) {a : Addr} {u : HO} (h : a ∉ B) (hz : a ∉ Z) (n : ∀ ps, u ≠ .tbl ps) (r : Rd H a u) : Rd H1 a u := by
  rcases r with r | ⟨o, r⟩
  · exact .inl (l.keep a u h hz n r)
  · exact .inr ⟨o, l.keep a _ h hz (fun _ z => nomatch z) r⟩
theorem LeZ.trans {Z B B1 B2 : List Addr} {H H1 H2 : Hp} (l : LeZ Z B H B1 H1) (m : LeZ Z B1 H1 B2 H2) : LeZ Z B H B2 H2 := by
  refine ⟨fun a u h hz k r => m.keep a u (l.out h (by rw [r]; exact fun z => nomatch z)) hz k (l.keep a u h hz k r), fun a h => m.trk a (l.trk a h), ?_⟩
  obtain ⟨C, rfl, hC⟩ := l.ext
  obtain ⟨C2, rfl, hC2⟩ := m.ext
  refine ⟨C ++ C2, by simp, fun a z => ?_⟩
  rcases List.mem_append.mp z with z | z
  · exact hC a z
  · exact Classical.byContradiction fun e => l.trk a e (hC2 a z)
/-- the hidden things may be more, if they are new -/
def Hid (p : Pl) (H : Hp) (Z : List Addr) : Prop := ∀ a ∈ Z, a ∈ p.Z ∨ H a = none
abbrev Pl.at (p : Pl) (Z : List Addr) : Pl := { p with Z := Z }
structure ItOk (p : Pl) (J : It) (H0 : Hp) (B0 : List Addr) (its : ItS) : Prop where
  ex : ∃ (G : Hp → Prop) (Y : Nat → Hp → V → Hp → Prop), Walk J its.items.length G Y ∧
    (∀ H B m Z, LeZ p.Z B0 H0 B H → Hid p H0 Z → So (p.at Z) H B m → stands its.src m = true → G H) ∧
    ∀ i H x H' B m Z, LeZ p.Z B0 H0 B H → Hid p H0 Z → So (p.at Z) H B m → stands its.src m = true → i < its.items.length → G H → Y i H x H' → Le B H B H' ∧ So (p.at Z) H' B m ∧ ∃ w, its.items[i]? = some w ∧ WV (p.at Z) H' B x w
abbrev FI := Rh → Mu → R ItS
abbrev RI : Pl → Hp → List Addr → It → ItS → Prop := fun p H B J its => ItOk p J H B its
def WI (X : Cx) (E : XK) (tg e : Expr) (f : FI) : Prop := PI X tg e (rd RI X E f)
section
variable {p : Pl} {H H1 : Hp} {B B1 : List Addr} {Z : List Addr}
theorem Off.mz (l : LeZ p.Z B H B1 H1) (z : Hid p H Z) {a : Addr} (h : Off p B a) (s : H a ≠ none) : Off (p.at Z) B1 a := ⟨l.out h.1 s, fun q => by
  rcases z a q with e | e
  · exact h.2 e
  · exact s e⟩
theorem SqLS.mz {a : Addr} {xs : List V} (l : LeZ p.Z B H B1 H1) (z : Hid p H Z) (h : SqLS p H B a xs) : SqLS (p.at Z) H1 B1 a xs := ⟨Off.mz l z h.1 (Rd_some h.2), l.rd h.1.1 h.1.2 (fun _ z => nomatch z) h.2⟩
theorem SqTS.mz {a : Addr} {xs : List V} (l : LeZ p.Z B H B1 H1) (z : Hid p H Z) (h : SqTS p H B a xs) : SqTS (p.at Z) H1 B1 a xs := by
  rcases h with ⟨h, r⟩ | h
  · exact .inl ⟨Off.mz l z h (Rd_some r), l.rd h.1 h.2 (fun _ z => nomatch z) r⟩
  · exact .inr h
mutual
theorem DV.mz (l : LeZ p.Z B H B1 H1) (z : Hid p H Z) : ∀ {v : V} {x : PyData}, DV p H B v x → DV (p.at Z) H1 B1 v x
  | _, _, .non => .non
  | _, _, .bl b => .bl b
  | _, _, .int i => .int i
  | _, _, .str x => .str x
  | _, _, .lst h r => .lst (SqLS.mz l z h) (DVs.mz l z r)
  | _, _, .tup h r => .tup (SqTS.mz l z h) (DVs.mz l z r)
  | _, _, .dct h r k s c n => .dct (Off.mz l z h (Rd_some r)) (l.rd h.1 h.2 dcT_tbl r) (DVk.mz l z k) s c n
theorem DVs.mz (l : LeZ p.Z B H B1 H1) (z : Hid p H Z) : ∀ {v : List V} {x : List PyData}, DVs p H B v x → DVs (p.at Z) H1 B1 v x
  | _, _, .nil => .nil
  | _, _, .cons h r => .cons (DV.mz l z h) (DVs.mz l z r)
theorem DVk.mz (l : LeZ p.Z B H B1 H1) (z : Hid p H Z) : ∀ {v : List (NestedKey × Addr × V)} {x : List (PyData × PyData)}, DVk p H B v x → DVk (p.at Z) H1 B1 v x
  | _, _, .nil => .nil
  | _, _, .cons e k c a v r => .cons e k c (DV.mz l z a) (DV.mz l z v) (DVk.mz l z r)
end
mutual
theorem WV.mz (l : LeZ p.Z B H B1 H1) (z : Hid p H Z) : ∀ {v : V} {x : W}, WV p H B v x → WV (p.at Z) H1 B1 v x
  | _, _, .d h => .d (DV.mz l z h)
  | _, _, .loc (n := n) h => .loc (by
      obtain ⟨C, rfl, _⟩ := l.ext
      rw [List.getElem?_append_left (List.getElem?_eq_some_iff.mp h).1]; exact h)
  | _, _, .wt h r => .wt (SqTS.mz l z h) (WVs.mz l z r)
theorem WVs.mz (l : LeZ p.Z B H B1 H1) (z : Hid p H Z) : ∀ {v : List V} {x : List W}, WVs p H B v x → WVs (p.at Z) H1 B1 v x
  | _, _, .nil => .nil
  | _, _, .cons h r => .cons (WV.mz l z h) (WVs.mz l z r)
end
theorem DVs.ws : ∀ {v : List V} {x : List PyData}, DVs p H B v x → WVs p H B v (x.map W.d)
  | _, _, .nil => .nil
  | _, _, .cons h r => .cons (.d h) (DVs.ws r)
/-- the thing at a place of the store, as it stands -/
theorem stands_at {m : Mu} {n : Nat} {o : Ob} {a : Addr} (so : So p H B m) (h : B[n]? = some a) (s : stands (some (n, o)) m = true) : ObR p H B a o := by
  obtain ⟨o', ho, r⟩ := so.obj h
  have s' : (match m[n]? with | some o' => obb o' o | none => false) = true := s
  rw [ho] at s'
  rw [← obb_eq s']
  exact r
theorem LeZ.get {Z : List Addr} (l : LeZ Z B H B1 H1) {n : Nat} {a : Addr} (h : B[n]? = some a) : B1[n]? = some a := by
  obtain ⟨C, rfl, _⟩ := l.ext
  rw [List.getElem?_append_left (List.getElem?_eq_some_iff.mp h).1]
  exact h
/-- a list of the store, walked -/
theorem it_loc {n : Nat} {a : Addr} {ds : List PyData} (h : B[n]? = some a) : ItOk p (Itl p.K a) H B ⟨ds.map W.d, some (n, .lst ds)⟩ := by
  refine ⟨fun H' => ∃ xs, SqL p.K H' a xs ∧ xs.length = ds.length, fun i H' x H'' => H'' = H' ∧ ∀ xs, SqL p.K H' a xs → xs[i]? = some x, ⟨?_, ?_, ?_⟩, ?_, ?_⟩
  · rintro i H' hi ⟨xs, q, e⟩
    have hi' : i < xs.length := by rw [e]; simpa using hi
    exact ⟨xs, xs[i], q, by simp [hi']⟩
  · rintro H' ⟨xs, q, e⟩
    exact ⟨xs, q, by rw [e]; simp⟩
  · rintro i H' x H'' _ _ y
    exact y
  · intro H' B' m Z l z so st
    obtain ⟨xs, h1, h2⟩ := stands_at so (l.get h) st
    exact ⟨xs, .inl (.inl h1), h2.length⟩
  · rintro i H' x H'' B' m Z l z so st hi g ⟨rfl, y⟩
    obtain ⟨xs, h1, h2⟩ := stands_at so (l.get h) st
    have hi' : i < ds.length := by simpa using hi
    obtain ⟨v, e1, e2⟩ := h2.get (i := i) (x := ds[i]) (by simp [hi'])
    have e3 := y xs (.inl (.inl h1))
    rw [e1] at e3
    cases e3
    exact ⟨Le.refl, so, .d ds[i], by simp [hi'], .d e2⟩
/-- a list that stays -/
theorem it_lst {a : Addr} {xs : List V} {ws : List W} (h : SqLS p H B a xs) (r : WVs p H B xs ws) : ItOk p (Itl p.K a) H B ⟨ws, none⟩ := by
  have hl : xs.length = ws.length := r.length
  refine ⟨_, _, by rw [← hl]; exact walk_list, fun H' B' m Z l z so st => (SqLS.mz l z h).sq, ?_⟩
  rintro i H' x H'' B' m Z l z so st hi g ⟨rfl, y⟩
  obtain ⟨v, e1, e2⟩ := r.get (i := i) (x := ws[i]) (by simp [hi])
  rw [e1] at y
  cases y
  exact ⟨Le.refl, so, ws[i], by simp [hi], WV.mz l z e2⟩
theorem it_tup {a : Addr} {xs : List V} {ws : List W} (h : SqTS p H B a xs) (r : WVs p H B xs ws) : ItOk p (Itt p.K a) H B ⟨ws, none⟩ := by
  have hl : xs.length = ws.length := r.length
  refine ⟨_, _, by rw [← hl]; exact walk_tup, fun H' B' m Z l z so st => (SqTS.mz l z h).sq, ?_⟩
  rintro i H' x H'' B' m Z l z so st hi g ⟨rfl, y⟩
  obtain ⟨v, e1, e2⟩ := r.get (i := i) (x := ws[i]) (by simp [hi])
  rw [e1] at y
  cases y
  exact ⟨Le.refl, so, ws[i], by simp [hi], WV.mz l z e2⟩
def rangeW (lo : Int) (n : Nat) : List W := (List.range n).map fun i : Nat => W.d (.int (lo + i))
theorem it_rng {lo : Int} {n : Nat} : ItOk p (Itr lo n) H B ⟨rangeW lo n, none⟩ := by
  have hl : (rangeW lo n).length = n := by simp [rangeW]
  refine ⟨_, _, by rw [hl]; exact walk_range, fun _ _ _ _ _ _ _ _ => trivial, ?_⟩
  rintro i H' x H'' B' m Z l z so st hi g ⟨rfl, rfl⟩
  have hi' : i < n := by rw [← hl]; exact hi
  exact ⟨Le.refl, so, .d (.int (lo + i)), by simp [rangeW, hi'], .d (.int _)⟩
/-- a new pair -/
theorem pair_new {m : Mu} {T : Addr} {x y : V} {u w : W} {Z : List Addr} (so : So (p.at Z) H B m) (hT : H T = none) (h1 : WV (p.at Z) H B x u) (h2 : WV (p.at Z) H B y w) :
    Le B H B (upd H T (.tup [x, y])) ∧ So (p.at Z) (upd H T (.tup [x, y])) B m ∧ WV (p.at Z) (upd H T (.tup [x, y])) B (.ref T) (mkT [u, w]) :=
  ⟨le_laid hT, so.laid hT, .mkT (.inl ⟨so.out hT, .inl upd_same⟩) (.cons (h1.mono (le_laid hT)) (.cons (h2.mono (le_laid hT)) .nil))⟩
def enumW (ws : List W) : List W := (List.range ws.length).filterMap fun i : Nat => (ws[i]?).map fun w => mkT [.d (.int i), w]
theorem enumW_go : ∀ (n : Nat) (ws : List W), n ≤ ws.length → ((List.range n).filterMap fun i : Nat => (ws[i]?).map fun w => mkT [.d (.int i), w]).length = n ∧ ∀ i w, i < n → ws[i]? = some w → ((List.range n).filterMap fun i : Nat => (ws[i]?).map fun w => mkT [.d (.int i), w])[i]? = some (mkT [.d (.int i), w]) := by
  intro n ws
  induction n with
  | zero => exact fun _ => ⟨rfl, fun i w h => absurd h (by omega)⟩
  | succ n ih =>
    intro hn
    obtain ⟨h1, h2⟩ := ih (by omega)
    have hg : ws[n]? = some ws[n] := by simp [show n < ws.length by omega]
    rw [List.range_succ, List.filterMap_append]
    have e : (List.filterMap (fun i : Nat => (ws[i]?).map fun w => mkT [.d (.int i), w]) [n]) = [mkT [.d (.int n), ws[n]]] := by simp [hg]
    rw [e]
    refine ⟨by rw [List.length_append, h1]; rfl, fun i w hi hw => ?_⟩
    by_cases q : i < n
    · rw [List.getElem?_append_left (by omega)]
      exact h2 i w q hw
    · have e2 : i = n := by omega
      subst e2
      rw [List.getElem?_append_right (by omega), h1, Nat.sub_self]
      rw [hg] at hw
      cases hw
      rfl
theorem enumW_len (ws : List W) : (enumW ws).length = ws.length := (enumW_go ws.length ws (Nat.le_refl _)).1
theorem enumW_at {ws : List W} {i : Nat} {w : W} (h : ws[i]? = some w) : (enumW ws)[i]? = some (mkT [.d (.int i), w]) := (enumW_go ws.length ws (Nat.le_refl _)).2 i w (List.getElem?_eq_some_iff.mp h).1 h
theorem it_enL {a : Addr} {xs : List V} {ws : List W} (h : SqLS p H B a xs) (r : WVs p H B xs ws) : ItOk p (Ite p.K a) H B ⟨enumW ws, none⟩ := by
  have hl : xs.length = ws.length := r.length
  refine ⟨_, _, by rw [enumW_len, ← hl]; exact walk_enum, fun H' B' m Z l z so st => (SqLS.mz l z h).sq, ?_⟩
  rintro i H' v H'' B' m Z l z so st hi g ⟨T, x, y, rfl, hT, rfl, hx, hy⟩
  have hi' : i < ws.length := by rw [← enumW_len]; exact hi
  obtain ⟨v, e1, e2⟩ := r.get (i := i) (x := ws[i]) (by simp [hi'])
  dsimp only at hx hy
  rw [e1] at hy
  cases hx
  cases hy
  obtain ⟨n1, n2, n3⟩ := pair_new so hT (.d (.int (i : Int))) (WV.mz l z e2)
  exact ⟨n1, n2, _, enumW_at (by simp [hi']), n3⟩
theorem it_enT {a : Addr} {xs : List V} {ws : List W} (h : SqTS p H B a xs) (r : WVs p H B xs ws) : ItOk p (ItE p.K a) H B ⟨enumW ws, none⟩ := by
  have hl : xs.length = ws.length := r.length
  refine ⟨fun H' => SqT p.K H' a xs, YPair (fun i => some (.int (i : Nat))) (fun i => xs[i]?), ⟨fun i H' hi q => ?_, fun H' q => ⟨xs, q, ?_⟩, fun i H' v H'' _ q y => ?_⟩, fun H' B' m Z l z so st => (SqTS.mz l z h).sq, ?_⟩
  · have hi' : i < xs.length := by rw [hl, ← enumW_len]; exact hi
    exact ⟨xs, xs[i], q, by simp [hi']⟩
  · show xs.length ≤ (enumW ws).length
    rw [enumW_len, hl]
    exact Nat.le_refl _
  · obtain ⟨T, x, h1, h2, h3, h4⟩ := y
    exact ⟨T, .int (i : Nat), x, h1, h2, h3, rfl, h4 xs q⟩
  · rintro i H' v H'' B' m Z l z so st hi g ⟨T, x, y, rfl, hT, rfl, hx, hy⟩
    have hi' : i < ws.length := by rw [← enumW_len]; exact hi
    obtain ⟨v, e1, e2⟩ := r.get (i := i) (x := ws[i]) (by simp [hi'])
    dsimp only at hx hy
    rw [e1] at hy
    cases hx
    cases hy
    obtain ⟨n1, n2, n3⟩ := pair_new so hT (.d (.int (i : Int))) (WV.mz l z e2)
    exact ⟨n1, n2, _, enumW_at (by simp [hi']), n3⟩
def zipW (us ws : List W) : List W := List.zipWith (fun u w => mkT [u, w]) us ws
theorem it_zpL {a b : Addr} {xs ys : List V} {us ws : List W} (h : SqLS p H B a xs) (r : WVs p H B xs us) (h2 : SqLS p H B b ys) (r2 : WVs p H B ys ws) : ItOk p (Itz p.K a b) H B ⟨zipW us ws, none⟩ := by
  have hl : (zipW us ws).length = min xs.length ys.length := by rw [r.length, r2.length]; simp [zipW]
  refine ⟨fun H' => SqL p.K H' a xs ∧ SqL p.K H' b ys, _, by rw [hl]; exact walk_zip rfl, fun H' B' m Z l z so st => ⟨(SqLS.mz l z h).sq, (SqLS.mz l z h2).sq⟩, ?_⟩
  rintro i H' v H'' B' m Z l z so st hi g ⟨T, x, y, rfl, hT, rfl, hx, hy⟩
  have hi' : i < us.length ∧ i < ws.length := by simpa [zipW, Nat.lt_min] using hi
  obtain ⟨v1, e1, e2⟩ := r.get (i := i) (x := us[i]) (by simp [hi'.1])
  obtain ⟨v2, e3, e4⟩ := r2.get (i := i) (x := ws[i]) (by simp [hi'.2])
  dsimp only at hx hy
  rw [e1] at hx
  rw [e3] at hy
  cases hx
  cases hy
  obtain ⟨n1, n2, n3⟩ := pair_new so hT (WV.mz l z e2) (WV.mz l z e4)
  exact ⟨n1, n2, _, by simp [zipW, List.getElem?_zipWith, hi'.1, hi'.2], n3⟩
theorem it_zpT {a b : Addr} {xs ys : List V} {us ws : List W} (h : SqTS p H B a xs) (r : WVs p H B xs us) (h2 : SqTS p H B b ys) (r2 : WVs p H B ys ws) : ItOk p (RZ.ItzT p.K a b) H B ⟨zipW us ws, none⟩ := by
  have hl : (zipW us ws).length = min xs.length ys.length := by rw [r.length, r2.length]; simp [zipW]
  refine ⟨fun H' => SqT p.K H' a xs ∧ SqT p.K H' b ys, YPair (fun i => xs[i]?) (fun i => ys[i]?), ⟨fun i H' hi q => ?_, fun H' q => ⟨xs, ys, q.1, q.2, ?_⟩, fun i H' v H'' _ q y => ?_⟩, fun H' B' m Z l z so st => ⟨(SqTS.mz l z h).sq, (SqTS.mz l z h2).sq⟩, ?_⟩
  · rw [hl] at hi
    have h1 : i < xs.length := by omega
    have h2 : i < ys.length := by omega
    exact ⟨xs, ys, xs[i], ys[i], q.1, q.2, by simp [h1], by simp [h2]⟩
  · show xs.length ≤ (zipW us ws).length ∨ ys.length ≤ (zipW us ws).length
    rw [hl]
    omega
  · obtain ⟨T, x, c, h1, h2, h3, h4, h5⟩ := y
    exact ⟨T, x, c, h1, h2, h3, h4 xs q.1, h5 ys q.2⟩
  · rintro i H' v H'' B' m Z l z so st hi g ⟨T, x, y, rfl, hT, rfl, hx, hy⟩
    have hi' : i < us.length ∧ i < ws.length := by simpa [zipW, Nat.lt_min] using hi
    obtain ⟨v1, e1, e2⟩ := r.get (i := i) (x := us[i]) (by simp [hi'.1])
    obtain ⟨v2, e3, e4⟩ := r2.get (i := i) (x := ws[i]) (by simp [hi'.2])
    dsimp only at hx hy
    rw [e1] at hx
    rw [e3] at hy
    cases hx
    cases hy
    obtain ⟨n1, n2, n3⟩ := pair_new so hT (WV.mz l z e2) (WV.mz l z e4)
    exact ⟨n1, n2, _, by simp [zipW, List.getElem?_zipWith, hi'.1, hi'.2], n3⟩
end
end Wy

set_option Elab.async false
set_option linter.all false
set_option maxRecDepth 100000
set_option maxHeartbeats 4000000
/-! W8: sources of walks; targets; list comprehensions. -/
namespace Wy
open PySem PySem.Spec PyProof.Rows L2

/-! ### sources -/
section
variable {X : Cx} {E : XK} {tg a b e : Expr} {fa fb : FE} {pos : Pos}
def seqIt (w : W) (m1 : Mu) : R ItS := match w with
  | .d (.list ds) => .ok ⟨ds.map .d, none⟩ m1
  | .d (.tuple ds) => .ok ⟨ds.map .d, none⟩ m1
  | .wt ws => .ok ⟨ws, none⟩ m1
  | .loc n => match m1[n]? with
    | some (.lst ds) => .ok ⟨ds.map .d, some (n, .lst ds)⟩ m1
    | _ => .bad
  | _ => .bad
def fSeq (f : FE) : FI := fun r m => (f r m).bind seqIt
theorem wi_seq (h : WE X E e fa) : WI X E tg e (fSeq fa) := by
  constructor
  rintro pins s σ H Q I ⟨Z, B, r, m, sl, so, q⟩
  unfold fSeq at q
  cases ef : fa r m with
  | bad => rw [ef] at q; exact q.elim
  | exn x m1 =>
    rw [ef] at q
    exact (pi_list (tg := tg) h).run pins s σ H Q I ⟨Z, B, r, m, sl, so, by rw [ef]; exact q⟩
  | ok w m1 =>
    rw [ef] at q
    replace q : Post (RI (plX X Z)) (plX X Z) E B H (seqIt w m1) Q := q
    unfold seqIt at q
    split at q
    · rename_i ds
      refine (pi_list (tg := tg) h).run pins s σ H Q I ⟨Z, B, r, m, sl, so, ?_⟩
      rw [ef]
      intro v H' B' l s' wv
      cases wv with
      | d dv => cases dv with
        | lst h1 h2 => exact ⟨_, rfl, ⟨_, h1.sq⟩, q _ H' B' l s' (it_lst h1 h2.ws)⟩
    · rename_i ds
      refine (pi_tup (tg := tg) h).run pins s σ H Q I ⟨Z, B, r, m, sl, so, ?_⟩
      rw [ef]
      intro v H' B' l s' wv
      cases wv with
      | d dv => cases dv with
        | tup h1 h2 => exact ⟨_, rfl, ⟨_, h1.sq⟩, q _ H' B' l s' (it_tup h1 h2.ws)⟩
    · rename_i ws
      refine (pi_tup (tg := tg) h).run pins s σ H Q I ⟨Z, B, r, m, sl, so, ?_⟩
      rw [ef]
      intro v H' B' l s' wv
      cases wv with
      | wt h1 h2 => exact ⟨_, rfl, ⟨_, h1.sq⟩, q _ H' B' l s' (it_tup h1 h2)⟩
    · rename_i n
      split at q
      · rename_i ds e1
        refine (pi_list (tg := tg) h).run pins s σ H Q I ⟨Z, B, r, m, sl, so, ?_⟩
        rw [ef]
        intro v H' B' l s' wv
        cases wv with
        | loc hb =>
          obtain ⟨o, ho, rr⟩ := s'.obj hb
          rw [e1] at ho
          cases ho
          obtain ⟨xs, h1, h2⟩ := rr
          exact ⟨_, rfl, ⟨xs, .inl (.inl h1)⟩, q _ H' B' l s' (it_loc hb)⟩
      · exact q.elim
    · exact q.elim
def fRng1 (f : FE) : FI := fun r m => (f r m).bind fun w m1 => match w with
  | .d (.int n) => if -(2 ^ 62) ≤ n ∧ n < 2 ^ 62 then .ok ⟨rangeW 0 n.toNat, none⟩ m1 else .bad
  | _ => .bad
theorem wi_rng1 {p : Pos} (ha : WE X E a fa) (hg : Gl X "range") (hm : X.mg "range" = none) (hs : starEach [a] X.env = [(false, eval a X.env)] := by rfl) : WI X E tg (.Call (.Name "range" p) [a] [] pos) (fRng1 fa) :=
  ⟨fun pins s σ H Q I ⟨Z, B, r, m, sl, so, q⟩ => (pi_range1 hg hm (pa_cons ha pa_nil hs) hs).run pins s σ H Q I
    ⟨Z, B, r, m, sl, so, q.step fun w m1 x H1 B1 l1 s1 r1 q1 => by
      split at q1
      · rename_i n
        split at q1
        · rename_i z
          cases r1 with
          | d r1 => exact ⟨n, by rw [int_inv r1], z.1, z.2, Post.done (RelG := RI (plX X Z)) q1 s1 it_rng⟩
        · exact q1.elim
      · exact q1.elim⟩⟩
def fRng2 (f g : FE) : FI := fun r m => (f r m).bind fun w m1 => (g r m1).bind fun u m2 => match w, u with
  | .d (.int i), .d (.int j) => if -(2 ^ 62) ≤ i ∧ i < 2 ^ 62 ∧ -(2 ^ 62) ≤ j ∧ j < 2 ^ 62 then .ok ⟨rangeW i (j - i).toNat, none⟩ m2 else .bad
  | _, _ => .bad
theorem wi_rng2 {p : Pos} (ha : WE X E a fa) (hb : WE X E b fb) (hg : Gl X "range") (hm : X.mg "range" = none) (hs : starEach [a, b] X.env = [(false, eval a X.env), (false, eval b X.env)] := by rfl) (hs2 : starEach [b] X.env = [(false, eval b X.env)] := by rfl) : WI X E tg (.Call (.Name "range" p) [a, b] [] pos) (fRng2 fa fb) :=
  ⟨fun pins s σ H Q I ⟨Z, B, r, m, sl, so, q⟩ => (pi_range2 hg hm (pa_cons ha (pa_cons hb pa_nil hs2) (by rw [hs, hs2])) hs hs2).run pins s σ H Q I
    ⟨Z, B, r, m, sl, so, q.step fun w m1 x H1 B1 l1 s1 r1 q1 => ⟨Z, B1, r, m1, sl.mono l1, s1, q1.step fun u m2 y H2 B2 l2 s2 r2 q2 => by
      split at q2
      · split at q2
        · rename_i z
          cases r1 with
          | d r1 => cases r2 with
            | d r2 => exact ⟨_, _, by rw [int_inv r1, int_inv r2], z, Post.done (RelG := RI (plX X Z)) q2 s2 it_rng⟩
        · exact q2.elim
      · exact q2.elim⟩⟩⟩
/-- the items of a sequence that stays -/
def seqW : W → Option (List W)
  | .d (.list ds) => some (ds.map .d)
  | .d (.tuple ds) => some (ds.map .d)
  | .wt ws => some ws
  | _ => none
def isL : W → Bool
  | .d (.list _) => true
  | _ => false
theorem seq_of {p : Pl} {H : Hp} {B : List Addr} {v : V} {w : W} {ws : List W} (h : WV p H B v w) (e : seqW w = some ws) : ∃ a xs, v = .ref a ∧ ((isL w = true ∧ SqLS p H B a xs) ∨ (isL w = false ∧ SqTS p H B a xs)) ∧ WVs p H B xs ws := by
  unfold seqW at e
  split at e
  · cases e
    cases h with
    | d h => cases h with
      | lst h1 h2 => exact ⟨_, _, rfl, .inl ⟨rfl, h1⟩, h2.ws⟩
  · cases e
    cases h with
    | d h => cases h with
      | tup h1 h2 => exact ⟨_, _, rfl, .inr ⟨rfl, h1⟩, h2.ws⟩
  · cases e
    cases h with
    | wt h1 h2 => exact ⟨_, _, rfl, .inr ⟨rfl, h1⟩, h2⟩
  · cases e
def fEnum (f : FE) : FI := fun r m => (f r m).bind fun w m1 => match seqW w with
  | some ws => .ok ⟨enumW ws, none⟩ m1
  | none => .bad
theorem wi_enum {p tpos : Pos} {elts : List Expr} {kk : Nat} (ha : WE X E a fa) (hg : Gl X "enumerate") (hm : X.mg "enumerate" = none) (hs : starEach [a] X.env = [(false, eval a X.env)] := by rfl) : WI X E (.Tuple elts kk tpos) (.Call (.Name "enumerate" p) [a] [] pos) (fEnum fa) :=
  ⟨fun pins s σ H Q I ⟨Z, B, r, m, sl, so, q⟩ => (pi_enA hg hm (pa_cons ha pa_nil hs) hs).run pins s σ H Q I
    ⟨Z, B, r, m, sl, so, q.step fun w m1 x H1 B1 l1 s1 r1 q1 => by
      cases e : seqW w with
      | none => rw [e] at q1; exact q1.elim
      | some ws =>
        rw [e] at q1
        obtain ⟨a', xs, rfl, h, h2⟩ := seq_of r1 e
        rcases h with ⟨_, h⟩ | ⟨_, h⟩
        · exact ⟨a', xs, rfl, .inl ⟨h.sq, Post.done (RelG := RI (plX X Z)) q1 s1 (it_enL h h2)⟩⟩
        · exact ⟨a', xs, rfl, .inr ⟨h.sq, Post.done (RelG := RI (plX X Z)) q1 s1 (it_enT h h2)⟩⟩⟩⟩
def fZip (f g : FE) : FI := fun r m => (f r m).bind fun w m1 => (g r m1).bind fun u m2 => match seqW w, seqW u with
  | some ws, some us => if isL w = isL u then .ok ⟨zipW ws us, none⟩ m2 else .bad
  | _, _ => .bad
theorem wi_zip {p tpos : Pos} {elts : List Expr} {kk : Nat} (ha : WE X E a fa) (hb : WE X E b fb) (hg : Gl X "zip") (hm : X.mg "zip" = none) (hs : starEach [a, b] X.env = (false, eval a X.env) :: starEach [b] X.env := by rfl) (hs2 : starEach [b] X.env = (false, eval b X.env) :: starEach [] X.env := by rfl) (hpl : (backTo pos (starEach [b] X.env)).any (·.1) = false := by rfl) :
    WI X E (.Tuple elts kk tpos) (.Call (.Name "zip" p) [a, b] [] pos) (fZip fa fb) :=
  ⟨fun pins s σ H Q I ⟨Z, B, r, m, sl, so, q⟩ => (RZ.pi_zipA hg hm (pa_cons ha (pa_cons hb pa_nil hs2) hs) hs hpl).run pins s σ H Q I
    ⟨Z, B, r, m, sl, so, q.step fun w m1 x H1 B1 l1 s1 r1 q1 => ⟨Z, B1, r, m1, sl.mono l1, s1, q1.step fun u m2 y H2 B2 l2 s2 r2 q2 => by
      split at q2
      · rename_i ws us e1 e2
        split at q2
        · rename_i z
          obtain ⟨a1, xs, rfl, h, h2⟩ := seq_of (r1.mono l2) e1
          obtain ⟨a2, ys, rfl, k, k2⟩ := seq_of r2 e2
          rcases h with ⟨i1, h⟩ | ⟨i1, h⟩ <;> rcases k with ⟨i2, k⟩ | ⟨i2, k⟩
          · exact ⟨a1, a2, xs, ys, rfl, .inl ⟨h.sq, k.sq, Post.done (RelG := RI (plX X Z)) q2 s2 (it_zpL h h2 k k2)⟩⟩
          · rw [i1, i2] at z; cases z
          · rw [i1, i2] at z; cases z
          · exact ⟨a1, a2, xs, ys, rfl, .inr ⟨h.sq, k.sq, Post.done (RelG := RI (plX X Z)) q2 s2 (it_zpT h h2 k k2)⟩⟩
        · exact q2.elim
      · exact q2.elim⟩⟩⟩
end

/-! ### targets -/
inductive Pat where
  | nm (i : Nat)
  | tp (ps : List Pat)
mutual
def patG (K : PySem.W.Frag) : Pat → TG
  | .nm i => gName i
  | .tp ps => gTup K ps.length (patGs K ps)
def patGs (K : PySem.W.Frag) : List Pat → TGs
  | [] => gNil
  | t :: ts => gCons (patG K t) (patGs K ts)
end
def tupW : W → Option (List W)
  | .d (.tuple ds) => some (ds.map .d)
  | .wt ws => some ws
  | _ => none
mutual
def patF : Pat → W → Rh → Option Rh
  | .nm i, w, r => some (r.set i (some w))
  | .tp ps, w, r => match tupW w with
    | some ws => patFs ps ws r
    | none => none
def patFs : List Pat → List W → Rh → Option Rh
  | [], [], r => some r
  | t :: ts, w :: ws, r => (patF t w r).bind fun r' => patFs ts ws r'
  | _, _, _ => none
end
mutual
def patIn (vs : List Nat) : Pat → Bool
  | .nm i => vs.contains i
  | .tp ps => patsIn vs ps
def patsIn (vs : List Nat) : List Pat → Bool
  | [] => true
  | t :: ts => patIn vs t && patsIn vs ts
end
def wipeR (r : Rh) : List Nat → Rh
  | [] => r
  | v :: vs => (wipeR r vs).set v none
theorem wipe_set {σ : Xs} {i : Nat} {v : Option V} : ∀ {vs : List Nat}, i ∈ vs → wipe (σ.set i v) vs = wipe σ vs
  | [], h => by cases h
  | j :: vs, h => by
    unfold wipe
    by_cases e : j = i
    · subst e
      have go : ∀ us : List Nat, (wipe (σ.set j v) us).set j none = (wipe σ us).set j none := by
        intro us
        induction us with
        | nil => exact List.set_set ..
        | cons u us ih =>
          unfold wipe
          by_cases e : u = j
          · subst e
            rw [ih]
          · rw [List.set_comm _ _ e, ih, List.set_comm _ _ e]
      exact go vs
    · rcases List.mem_cons.mp h with q | q
      · exact absurd q.symm e
      · rw [wipe_set q]
theorem wipe_wipe {σ : Xs} {vs : List Nat} : wipe (wipe σ vs) vs = wipe σ vs := by
  have go : ∀ us : List Nat, (∀ u ∈ us, u ∈ vs) → wipe (wipe σ us) vs = wipe σ vs := by
    intro us
    induction us with
    | nil => exact fun _ => rfl
    | cons u us ih =>
      intro h
      show wipe ((wipe σ us).set u none) vs = _
      rw [wipe_set (h u List.mem_cons_self)]
      exact ih fun x hx => h x (List.mem_cons_of_mem _ hx)
  exact go vs fun _ h => h
theorem Sl.wipe {p : Pl} {H : Hp} {B : List Addr} {σ : Xs} {r : Rh} (s : Sl p H B σ r) : ∀ vs : List Nat, Sl p H B (L2.wipe σ vs) (wipeR r vs)
  | [] => s
  | v :: vs => by
    have ih := Sl.wipe s vs
    refine ⟨by show ((L2.wipe σ vs).set v none).length = ((wipeR r vs).set v none).length; rw [List.length_set, List.length_set, ih.len], fun j y e => ?_⟩
    have e' : ((wipeR r vs).set v none)[j]? = some (some y) := e
    show ∃ u, ((L2.wipe σ vs).set v none)[j]? = some (some u) ∧ _
    by_cases q : v = j
    · subst q
      by_cases z : v < (wipeR r vs).length
      · rw [List.getElem?_set_self z] at e'; cases e'
      · rw [List.getElem?_eq_none (by simpa using z)] at e'; cases e'
    · rw [List.getElem?_set_ne q] at e' ⊢
      exact ih.at_ j y e'
theorem tup_of {p : Pl} {H : Hp} {B : List Addr} {v : V} {w : W} {ws : List W} (h : WV p H B v w) (e : tupW w = some ws) : ∃ a xs, v = .ref a ∧ SqTS p H B a xs ∧ WVs p H B xs ws := by
  unfold tupW at e
  split at e
  · cases e
    cases h with
    | d h => cases h with
      | tup h1 h2 => exact ⟨_, _, rfl, h1, h2.ws⟩
  · cases e
    cases h with
    | wt h1 h2 => exact ⟨_, _, rfl, h1, h2⟩
  · cases e
theorem patFs_len : ∀ {ps : List Pat} {ws : List W} {r r' : Rh}, patFs ps ws r = some r' → ws.length = ps.length
  | [], [], _, _, _ => rfl
  | [], _ :: _, _, _, h => by simp [patFs] at h
  | _ :: _, [], _, _, h => by simp [patFs] at h
  | t :: ts, w :: ws, r, r', h => by
    rw [patFs] at h
    obtain ⟨r1, _, h2⟩ := Option.bind_eq_some_iff.mp h
    rw [List.length_cons, List.length_cons, patFs_len h2]
mutual
theorem pat_ok {p : Pl} {H : Hp} {B : List Addr} {vs : List Nat} : ∀ (pt : Pat) {v : V} {w : W} {σ : Xs} {r r' : Rh} {Q : Xs → Hp → Prop}, patIn vs pt = true → Sl p H B σ r → WV p H B v w → patF pt w r = some r' →
    (∀ σ', Sl p H B σ' r' → wipe σ' vs = wipe σ vs → Q σ' H) → patG p.K pt v σ H Q
  | .nm i, v, w, σ, r, r', Q, hi, sl, wv, e, k => by
    rw [patF] at e
    cases e
    have hi' : i ∈ vs := by rw [patIn] at hi; simpa using hi
    rw [patG]
    exact k _ (sl.set wv) (wipe_set hi')
  | .tp ps, v, w, σ, r, r', Q, hi, sl, wv, e, k => by
    rw [patF] at e
    cases et : tupW w with
    | none => rw [et] at e; cases e
    | some ws =>
      rw [et] at e
      obtain ⟨a, xs, rfl, h1, h2⟩ := tup_of wv et
      rw [patG]
      exact ⟨a, xs, rfl, h1.sq, by rw [h2.length]; exact patFs_len e, pats_ok ps (by rw [patIn] at hi; exact hi) sl h2 e k⟩
theorem pats_ok {p : Pl} {H : Hp} {B : List Addr} {vs : List Nat} : ∀ (ps : List Pat) {xs : List V} {ws : List W} {σ : Xs} {r r' : Rh} {Q : Xs → Hp → Prop}, patsIn vs ps = true → Sl p H B σ r → WVs p H B xs ws → patFs ps ws r = some r' →
    (∀ σ', Sl p H B σ' r' → wipe σ' vs = wipe σ vs → Q σ' H) → patGs p.K ps xs σ H Q
  | [], xs, ws, σ, r, r', Q, hi, sl, wv, e, k => by
    cases wv with
    | nil => rw [patFs] at e; cases e; rw [patGs]; exact ⟨rfl, k _ sl rfl⟩
    | cons _ _ => simp [patFs] at e
  | t :: ts, xs, ws, σ, r, r', Q, hi, sl, wv, e, k => by
    cases wv with
    | nil => simp [patFs] at e
    | cons h1 h2 =>
      rw [patFs] at e
      obtain ⟨r1, e1, e2⟩ := Option.bind_eq_some_iff.mp e
      rw [patsIn, Bool.and_eq_true] at hi
      rw [patGs]
      exact ⟨_, _, rfl, pat_ok t hi.1 sl h1 e1 fun σ1 s1 z1 => pats_ok ts hi.2 s1 h2 e2 fun σ2 s2 z2 => k σ2 s2 (z2.trans z1)⟩
end

/-! ### comprehensions -/
def R.nx {α : Type} : R α → R α
  | .ok a m => .ok a m
  | _ => .bad
def compF (src : Option (Nat × Ob)) (asg : W → Option Rh) (body : Rh → List PyData → Mu → R (List PyData)) : List W → List PyData → Mu → R (List PyData)
  | [], acc, m => if stands src m = true then .ok acc m else .bad
  | w :: ws, acc, m => if stands src m = true then (match asg w with
    | some r2 => (body r2 acc m).bind fun acc' m' => compF src asg body ws acc' m'
    | none => .bad) else .bad
def elemF (ft : FT) (fe : FE) (r : Rh) (acc : List PyData) (m : Mu) : R (List PyData) := (ft r m).nx.bind fun k m1 => if k = true then (fe r m1).nx.bind fun x m2 => (match x with
    | .d y => if acc.length < 1000000 then .ok (acc ++ [y]) m2 else .bad
    | _ => .bad) else .ok acc m1
def fComp (fi : FI) (pt : Pat) (vs : List Nat) (ft : FT) (fe : FE) : FE := fun r m => (fi r m).bind fun its m1 =>
  (compF its.src (fun w => patF pt w (wipeR r vs)) (elemF ft fe) its.items [] m1).nx.bind fun acc m2 => .ok (.d (.list acc)) m2
/-- .. as a list that will be changed -/
def fCompN (fi : FI) (pt : Pat) (vs : List Nat) (ft : FT) (fe : FE) : FE := fun r m => (fi r m).bind fun its m1 =>
  (compF its.src (fun w => patF pt w (wipeR r vs)) (elemF ft fe) its.items [] m1).nx.bind fun acc m2 => .ok (.loc m2.length) (m2 ++ [.lst acc])
def bodyF2 (ft : FT) (fi1 : FI) (pt1 : Pat) (vs1 : List Nat) (ft1 : FT) (fe : FE) (r2 : Rh) (acc : List PyData) (m : Mu) : R (List PyData) := (ft r2 m).nx.bind fun k m1 => if k = true then (fi1 r2 m1).nx.bind fun its1 m2 =>
    compF its1.src (fun w => patF pt1 w (wipeR r2 vs1)) (elemF ft1 fe) its1.items acc m2 else .ok acc m1
def fComp2 (fi : FI) (pt : Pat) (vs : List Nat) (ft : FT) (fi1 : FI) (pt1 : Pat) (vs1 : List Nat) (ft1 : FT) (fe : FE) : FE := fun r m => (fi r m).bind fun its m1 =>
  (compF its.src (fun w => patF pt w (wipeR r vs)) (bodyF2 ft fi1 pt1 vs1 ft1 fe) its.items [] m1).nx.bind fun acc m2 => .ok (.d (.list acc)) m2
/-- a walk, by what each turn is to do -/
theorem walk_W {J : It} {n : Nat} {G : Hp → Prop} {Y : Nat → Hp → V → Hp → Prop} (w : Walk J n G Y) {Fin : Hp → Prop} (step : V → Hp → (Hp → Prop) → Prop) (Pv : Nat → Hp → Prop) (H0 : Hp) (h0 : Pv 0 H0) (hG : ∀ i H, i ≤ n → Pv i H → G H)
    (hs : ∀ i x H H', i < n → Pv i H → Y i H x H' → step x H' (Pv (i + 1))) (hd : ∀ H, Pv n H → Fin H) :
    ∃ W : Nat → Nat → Hp → Prop, (∃ m, W 0 m H0) ∧ ∀ i m H, W i m H → (J.stop i H ∧ Fin H) ∨ (J.go i H ∧ ∃ Nx : Hp → Prop, (∀ H', Nx H' → ∃ m', m' < m ∧ W (i + 1) m' H') ∧ ∀ x H', J.yld i H x H' → step x H' Nx) := by
  refine ⟨fun i m H => m = n - i ∧ i ≤ n ∧ Pv i H, ⟨n, by simp, Nat.zero_le _, h0⟩, ?_⟩
  rintro i m H ⟨rfl, hi, p⟩
  have g := hG i H hi p
  by_cases hlt : i < n
  · exact .inr ⟨w.goes i H hlt g, Pv (i + 1), fun H' p' => ⟨n - (i + 1), by omega, rfl, hlt, p'⟩, fun x H' y => hs i x H H' hlt p (w.yields i H x H' hlt g y)⟩
  · obtain rfl : i = n := by omega
    exact .inl ⟨w.stops H g, hd H p⟩
/-- the list that is made stands at D -/
structure CW (p : Pl) (B1 : List Addr) (H1 : Hp) (D : Addr) (acc : List PyData) (m : Mu) (B : List Addr) (H : Hp) : Prop where
  le : Le B1 H1 B H
  out : D ∉ B
  at_ : ∃ xs, H D = some (.lst xs) ∧ DVs (p.at (D :: p.Z)) H B xs acc
  so : So (p.at (D :: p.Z)) H B m
section
variable {p : Pl} {B1 B : List Addr} {H1 H : Hp} {D : Addr} {acc : List PyData} {m : Mu}
theorem hid_new (hD : H1 D = none) : Hid p H1 (D :: p.Z) := fun a h => by
  rcases List.mem_cons.mp h with e | e
  · exact .inr (by rw [e]; exact hD)
  · exact .inl e
theorem CW.new (so : So p H1 B1 m) (hD : H1 D = none) : CW p B1 H1 D [] m B1 (upd H1 D (.lst [])) := by
  have o := so.out hD
  refine ⟨le_laid hD, o.1, ⟨[], upd_same, .nil⟩, so.len, so.nd, fun a h => ?_, fun n a x h1 h2 => ?_⟩
  · rcases List.mem_cons.mp h with e | e
    · rw [e]
      exact ⟨by rw [upd_same]; exact (fun z => nomatch z), o.1⟩
    · exact ⟨(le_laid (B := B1) hD).trk a (so.hid a e).1, (so.hid a e).2⟩
  · have ne : a ≠ D := fun z => by subst z; exact so.trk (List.mem_of_getElem? h1) hD
    have r := so.ob n a x h1 h2
    cases x with
    | lst ds =>
      obtain ⟨xs, h3, h4⟩ := r
      exact ⟨xs, by rw [upd_ne ne]; exact h3, DVs.mz (le_laid hD).z (hid_new hD) h4⟩
    | dct ds =>
      obtain ⟨xs, h3, h4, h5⟩ := r
      exact ⟨xs, by rw [upd_ne ne]; exact h3, DVk.mz (le_laid hD).z (hid_new hD) h4, h5⟩
theorem sub_at {Z : List Addr} (h : ∀ a ∈ p.Z, a ∈ Z) : Sub p B (p.at Z) B := ⟨fun _ q => ⟨q.1, fun z => q.2 (h _ z)⟩, rfl, rfl, rfl⟩
theorem So.less {Z : List Addr} (h : ∀ a ∈ p.Z, a ∈ Z) (so : So (p.at Z) H B m) : So p H B m := by
  refine ⟨so.len, so.nd, fun a q => so.hid a (h a q), fun n a x h1 h2 => ?_⟩
  have r := so.ob n a x h1 h2
  cases x with
  | lst ds => obtain ⟨xs, h3, h4⟩ := r; exact ⟨xs, h3, h4.sub (sub_at h)⟩
  | dct ds => obtain ⟨xs, h3, h4, h5⟩ := r; exact ⟨xs, h3, h4.sub (sub_at h), h5⟩
theorem CW.done (so : So p H1 B1 m') (hD : H1 D = none) (c : CW p B1 H1 D acc m B H) : So p H B m ∧ WV p H B (.ref D) (.d (.list acc)) := by
  obtain ⟨xs, h1, h2⟩ := c.at_
  refine ⟨c.so.less fun a h => List.mem_cons_of_mem _ h, .d (.lst ⟨⟨c.out, ?_⟩, .inl h1⟩ (h2.sub (sub_at fun a h => List.mem_cons_of_mem _ h)))⟩
  exact (so.out hD).2
/-- the world goes on beside D -/
theorem CW.go {B' : List Addr} {H' : Hp} {m' : Mu} (hD : H1 D = none) (c : CW p B1 H1 D acc m B H) (l : Le B H B' H') (so : So (p.at (D :: p.Z)) H' B' m') : CW p B1 H1 D acc m' B' H' := by
  obtain ⟨xs, h1, h2⟩ := c.at_
  exact ⟨c.le.trans l, (so.hid D List.mem_cons_self).2, ⟨xs, l.keep D _ c.out (fun _ z => nomatch z) h1, h2.mono l⟩, so⟩
/-- one item more -/
theorem CW.add {y : V} {d : PyData} (hD : H1 D = none) (c : CW p B1 H1 D acc m B H) (hy : DV (p.at (D :: p.Z)) H B y d) : ∃ xs, H D = some (.lst xs) ∧ xs.length = acc.length ∧ CW p B1 H1 D (acc ++ [d]) m B (upd H D (.lst (xs ++ [y]))) := by
  obtain ⟨xs, h1, h2⟩ := c.at_
  have hoff : ∀ a, Off (p.at (D :: p.Z)) B a → a ≠ D := fun a o e => o.2 (by rw [e]; exact List.mem_cons_self)
  have up : ∀ (a : Addr) (u : HO), Off (p.at (D :: p.Z)) B a → Rd H a u → Rd (upd H D (.lst (xs ++ [y]))) a u := fun a u o r => by
    have ne := hoff a o
    rcases r with r | ⟨o', r⟩
    · exact .inl (by rw [upd_ne ne]; exact r)
    · exact .inr ⟨o', by rw [upd_ne ne]; exact r⟩
  have lst : ∀ {a : Addr} {zs : List V}, SqLS (p.at (D :: p.Z)) H B a zs → SqLS (p.at (D :: p.Z)) (upd H D (.lst (xs ++ [y]))) B a zs := fun h => ⟨h.1, up _ _ h.1 h.2⟩
  have tup : ∀ {a : Addr} {zs : List V}, SqTS (p.at (D :: p.Z)) H B a zs → SqTS (p.at (D :: p.Z)) (upd H D (.lst (xs ++ [y]))) B a zs := fun h => by
    rcases h with h | h
    · exact .inl ⟨h.1, up _ _ h.1 h.2⟩
    · exact .inr h
  have dv : (∀ v x, DV (p.at (D :: p.Z)) H B v x → DV (p.at (D :: p.Z)) (upd H D (.lst (xs ++ [y]))) B v x) := by
    intro v x h
    exact DV.rec (motive_1 := fun v x _ => DV (p.at (D :: p.Z)) (upd H D (.lst (xs ++ [y]))) B v x) (motive_2 := fun v x _ => DVs (p.at (D :: p.Z)) (upd H D (.lst (xs ++ [y]))) B v x) (motive_3 := fun v x _ => DVk (p.at (D :: p.Z)) (upd H D (.lst (xs ++ [y]))) B v x)
      .non (fun b => .bl b) (fun i => .int i) (fun x => .str x) (fun h _ r => .lst (lst h) r) (fun h _ r => .tup (tup h) r) (fun h r _ s z n k => .dct h (up _ _ h r) k s z n) .nil (fun _ _ h r => .cons h r) .nil (fun e k z _ _ _ a v r => .cons e k z a v r) h
  have dvs : ∀ {v : List V} {x : List PyData}, DVs (p.at (D :: p.Z)) H B v x → DVs (p.at (D :: p.Z)) (upd H D (.lst (xs ++ [y]))) B v x := by
    intro v x h
    induction v generalizing x with
    | nil => cases h; exact .nil
    | cons v vs ih => cases h with
      | cons h r => exact .cons (dv _ _ h) (ih r)
  have dvk : ∀ {v : List (NestedKey × Addr × V)} {x : List (PyData × PyData)}, DVk (p.at (D :: p.Z)) H B v x → DVk (p.at (D :: p.Z)) (upd H D (.lst (xs ++ [y]))) B v x := by
    intro v x h
    induction v generalizing x with
    | nil => cases h; exact .nil
    | cons v vs ih => cases h with
      | cons e k z a v r => exact .cons e k z (dv _ _ a) (dv _ _ v) (ih r)
  refine ⟨xs, h1, h2.length, ⟨⟨fun a o ha hk r => ?_, fun a h => ?_, c.le.ext⟩, c.out, ⟨_, upd_same, (dvs h2).append (.cons (dv _ _ hy) .nil)⟩, c.so.len, c.so.nd, fun a h => ⟨?_, (c.so.hid a h).2⟩, fun n a x e1 e2 => ?_⟩⟩
  · have ne : a ≠ D := fun e => by subst e; rw [hD] at r; cases r
    rw [upd_ne ne]
    exact c.le.keep a o ha hk r
  · by_cases e : a = D
    · subst e; rw [upd_same]; exact fun z => nomatch z
    · rw [upd_ne e]; exact c.le.trk a h
  · by_cases e : a = D
    · subst e; rw [upd_same]; exact fun z => nomatch z
    · rw [upd_ne e]; exact (c.so.hid a h).1
  · have ne : a ≠ D := fun e => by subst e; exact c.out (List.mem_of_getElem? e1)
    have r := c.so.ob n a x e1 e2
    cases x with
    | lst ds => obtain ⟨zs, h3, h4⟩ := r; exact ⟨zs, by rw [upd_ne ne]; exact h3, dvs h4⟩
    | dct ds => obtain ⟨zs, h3, h4, h5⟩ := r; exact ⟨zs, by rw [upd_ne ne]; exact h3, dvk h4, h5⟩
end
end Wy

set_option Elab.async false
set_option linter.all false
set_option maxRecDepth 100000
set_option maxHeartbeats 4000000
/-! W9: list comprehensions; statements; loops; a def. -/
namespace Wy
open PySem PySem.Spec PyProof.Rows L2

section
variable {X : Cx} {E : XK} {p : Pl} {B1 B : List Addr} {H1 H : Hp} {D : Addr} {acc : List PyData} {m : Mu}
/-- the element, and what is kept of it -/
theorem elem_step {X : Cx} {Z : List Addr} (hD : H1 D = none) {ft : FT} {fe : FE} {σ : Xs} {r : Rh} {k : List PyData → Mu → R (List PyData)} {P : R (List PyData) → Prop} {Nx : Hp → Prop} (hb : ¬ P .bad) (hx : ∀ x m, ¬ P (.exn x m)) (c : CW (plX X Z) B1 H1 D acc m B H) (sl : Sl (plX X (D :: Z)) H B σ r)
    (q : P ((elemF ft fe r acc m).bind k)) (nx : ∀ acc' m' B' H', CW (plX X Z) B1 H1 D acc' m' B' H' → LeZ (D :: Z) B H B' H' → P (k acc' m') → Nx H') :
    rd RT X E0 ft σ H fun b H3 => if b = true then rd RE X E0 fe σ H3 fun y H4 => ∃ ac, H4 D = some (.lst ac) ∧ ac.length < sizeLine ∧ Nx (upd H4 D (.lst (ac ++ [y]))) else Nx H3 := by
  refine ⟨D :: Z, B, r, m, sl, c.so, ?_⟩
  unfold elemF at q
  cases e1 : ft r m with
  | bad => rw [e1] at q; exact (hb q).elim
  | exn x m1 => rw [e1] at q; exact (hb q).elim
  | ok b m1 =>
    rw [e1] at q
    rintro b' H3 B3 l3 s3 rfl
    have c3 := c.go hD l3 s3
    cases b' with
    | false => exact iteF (nx acc m1 B3 H3 c3 l3.z q)
    | true =>
      refine iteT ⟨D :: Z, B3, r, m1, sl.mono l3, s3, ?_⟩
      replace q : P (((fe r m1).nx.bind fun x m2 => (match x with
        | .d y => if acc.length < 1000000 then .ok (acc ++ [y]) m2 else .bad
        | _ => .bad : R (List PyData))).bind k) := q
      cases e2 : fe r m1 with
      | bad => rw [e2] at q; exact (hb q).elim
      | exn x m2 => rw [e2] at q; exact (hb q).elim
      | ok w m2 =>
        rw [e2] at q
        intro y H4 B4 l4 s4 wv
        have c4 := c3.go hD l4 s4
        cases wv with
        | d dv =>
          rename_i d
          replace q : P ((if acc.length < 1000000 then R.ok (acc ++ [d]) m2 else .bad).bind k) := q
          by_cases z : acc.length < 1000000
          · rw [if_pos z] at q
            obtain ⟨xs, h1, h2, c5⟩ := c4.add hD dv
            exact ⟨xs, h1, by rw [h2]; exact Nat.lt_of_lt_of_le z mil, nx _ _ _ _ c5 (LeZ.trans (l3.trans l4).z ⟨fun a u _ hz _ rr => by rw [upd_ne fun e => hz (by rw [e]; exact List.mem_cons_self)]; exact rr, fun a ha => by
              by_cases e : a = D
              · subst e; rw [upd_same]; exact fun z => nomatch z
              · rw [upd_ne e]; exact ha, [], by simp, fun _ h => nomatch h⟩) q⟩
          · rw [if_neg z] at q
            exact (hb q).elim
        | loc _ => exact (hb q).elim
        | wt _ _ => exact (hb q).elim
/-- a walk that makes the list at D -/
theorem comp_walk {X : Cx} {Z : List Addr} {K : Type} {J : It} {its : ItS} {H0 : Hp} {B0 : List Addr} {Z0 : List Addr} (it : ItOk (plX X Z0) J H0 B0 its) (hD : H1 D = none) (hl0 : ∀ H B, Le B1 H1 B H → True)
    {asg : W → Option Rh} {body : Rh → List PyData → Mu → R (List PyData)} {k : List PyData → Mu → R (List PyData)} {P : R (List PyData) → Prop} {Fin : Hp → Prop} (step : V → Hp → (Hp → Prop) → Prop)
    (hb : ¬ P .bad) (Ok : List Addr → Hp → Prop) (hok : ∀ B H B' H', Ok B H → Le B H B' H' → D ∉ B → Ok B' H') (hokD : ∀ B H xs, Ok B H → H D ≠ none → Ok B (upd H D xs))
    (hle : ∀ B H, Ok B H → LeZ Z0 B0 H0 B H ∧ Hid (plX X Z0) H0 (D :: Z))
    (acc0 : List PyData) (m0 : Mu) (Bs : List Addr) (Hs : Hp) (c0 : CW (plX X Z) B1 H1 D acc0 m0 Bs Hs) (ok0 : Ok Bs Hs) (q0 : P ((compF its.src asg body its.items acc0 m0).bind k))
    (hstep : ∀ (i : Nat) (w : W) (x : V) (acc : List PyData) (m : Mu) (B : List Addr) (H : Hp) (r2 : Rh) (k' : List PyData → Mu → R (List PyData)) (Nx : Hp → Prop), CW (plX X Z) B1 H1 D acc m B H → Ok B H → WV ((plX X Z).at (D :: Z)) H B x w → asg w = some r2 → P ((body r2 acc m).bind k') →
      (∀ acc' m' B' H', CW (plX X Z) B1 H1 D acc' m' B' H' → Ok B' H' → P (k' acc' m') → Nx H') → step x H Nx)
    (hfin : ∀ acc m B H, CW (plX X Z) B1 H1 D acc m B H → Ok B H → P (k acc m) → Fin H) :
    ∃ W : Nat → Nat → Hp → Prop, (∃ m, W 0 m Hs) ∧ ∀ i m H, W i m H → (J.stop i H ∧ Fin H) ∨ (J.go i H ∧ ∃ Nx : Hp → Prop, (∀ H', Nx H' → ∃ m', m' < m ∧ W (i + 1) m' H') ∧ ∀ x H', J.yld i H x H' → step x H' Nx) := by
  obtain ⟨G, Y, wk, hG, hY⟩ := it.ex
  refine walk_W wk step (fun i H => ∃ acc m B, CW (plX X Z) B1 H1 D acc m B H ∧ Ok B H ∧ P ((compF its.src asg body (its.items.drop i) acc m).bind k)) Hs ⟨acc0, m0, Bs, c0, ok0, by rw [List.drop_zero]; exact q0⟩ ?_ ?_ ?_
  · rintro i H hi ⟨acc, m, B, c, o, q⟩
    have st : stands its.src m = true := by
      cases e : stands its.src m with
      | true => rfl
      | false =>
        cases ed : its.items.drop i with
        | nil => rw [ed] at q; simp only [compF, e] at q; exact (hb q).elim
        | cons w ws => rw [ed] at q; simp only [compF, e] at q; exact (hb q).elim
    exact hG H B m (D :: Z) (hle B H o).1 (hle B H o).2 c.so st
  · rintro i x H H' hi ⟨acc, m, B, c, o, q⟩ y
    have ed : its.items.drop i = its.items[i] :: its.items.drop (i + 1) := List.drop_eq_getElem_cons hi
    rw [ed] at q
    have st : stands its.src m = true := by
      cases e : stands its.src m with
      | true => rfl
      | false => simp only [compF, e] at q; exact (hb q).elim
    rw [compF, if_pos st] at q
    obtain ⟨l', s', w, e1, wv⟩ := hY i H x H' B m (D :: Z) (hle B H o).1 (hle B H o).2 c.so st hi (hG H B m (D :: Z) (hle B H o).1 (hle B H o).2 c.so st) y
    have e2 : its.items[i] = w := by
      rw [List.getElem?_eq_getElem hi] at e1
      exact Option.some.inj e1
    rw [e2] at q
    cases ea : asg w with
    | none => rw [ea] at q; exact (hb q).elim
    | some r2 =>
      rw [ea] at q
      refine hstep i w x acc m B H' r2 (fun acc' m' => (compF its.src asg body (its.items.drop (i + 1)) acc' m').bind k) _ (c.go hD l' s') (hok B H B H' o l' c.out) wv ea ?_ fun acc' m' B' H'' c' o' q' => ⟨acc', m', B', c', o', q'⟩
      have asc : ∀ {α β γ : Type} (x : R α) (f : α → Mu → R β) (g : β → Mu → R γ), (x.bind f).bind g = x.bind fun a m => (f a m).bind g := fun x f g => by cases x <;> rfl
      rw [← asc]
      exact q
  · rintro H ⟨acc, m, B, c, o, q⟩
    rw [List.drop_length] at q
    rw [compF] at q
    cases e : stands its.src m with
    | true => rw [if_pos e] at q; exact hfin acc m B H c o q
    | false => simp only [e] at q; exact (hb q).elim
end
section
variable {X : Cx} {E : XK} {elt tg iter tg1 iter1 : Expr} {ifs ifs1 : List Expr} {scope : Scope} {own : List (Str × Nat)} {pos : Pos} {fi fi1 : FI} {pt pt1 : Pat} {ft ft1 : FT} {fe : FE} {vs1 : List Nat}
def WTs (X : Cx) (E : XK) (ifs : List Expr) (f : FT) : Prop := PTs X ifs (rd RT X E f)
def fYes : FT := fun _ m => .ok true m
theorem wts_nil : WTs X E [] fYes := ⟨fun pins s σ H Q I ⟨Z, B, r, m, sl, so, q⟩ => pts_nil.run pins s σ H Q I (Post.done (RelG := RT (plX X Z)) q so rfl)⟩
theorem wts_one {c : Expr} (h : WT X E c ft) : WTs X E [c] ft := pts_one h
abbrev Blk (X : Cx) (scope : Scope) (s : Shared) (H : Hp) (C : Addr) (cl : List (Str × Addr)) (fp : List Addr) : Cx := X.blk s H scope (compEnvC scope cl C X.env) fp
def WP (X : Cx) (tg : Expr) (pt : Pat) : Prop := PG X tg (patG X.K pt)
/-- a comprehension's reading, from what it is wanted for -/
theorem comp_read {σ : Xs} {H : Hp} {Qd : V → Hp → Prop} {Fin : List PyData → Mu → Addr → List Addr → Hp → Prop} {vs : List Nat} {g : R (List PyData) → R W} (hpt : patIn vs pt = true)
    (h : ∃ Z B r m, Sl (plX X Z) H B σ r ∧ So (plX X Z) H B m ∧ PostE (plX X Z) E B H ((fi r m).bind fun its m1 => g (compF its.src (fun w => patF pt w (wipeR r vs)) (elemF ft fe) its.items [] m1)) Qd)
    (hg1 : g .bad = .bad) (hg2 : ∀ x m, g (.exn x m) = .bad)
    (hg3 : ∀ Z B1 H1 D acc m B H0 m1, So (plX X Z) H1 B1 m1 → H1 D = none → CW (plX X Z) B1 H1 D acc m B H0 → PostE (plX X Z) E B1 H1 (g (.ok acc m)) Qd → Qd (.ref D) H0) :
    tLc (rd RI X E fi) (patG X.K pt) (rd RT X E0 ft) (rd RE X E0 fe) vs σ H Qd := by
  obtain ⟨Z, B, r, m, sl, so, q⟩ := h
  refine ⟨Z, B, r, m, sl, so, q.step fun its m1 J H1 B1 l1 s1 itok q1 => fun D hD => ?_⟩
  have hb : ¬ PostE (plX X Z) E B1 H1 (g .bad) Qd := by rw [hg1]; exact fun z => z
  have hx : ∀ x m, ¬ PostE (plX X Z) E B1 H1 (g (.exn x m)) Qd := fun x m => by rw [hg2]; exact fun z => z
  have kid : ∀ x : R (List PyData), x.bind (fun a m => .ok a m) = x := fun x => by cases x <;> rfl
  have hDH : H D = none := Classical.byContradiction fun e => l1.trk D e hD
  refine comp_walk (K := Unit) (P := fun x => PostE (plX X Z) E B1 H1 (g x) Qd) (k := fun a m => .ok a m) (asg := fun w => patF pt w (wipeR r vs)) (body := elemF ft fe) itok hD (fun _ _ _ => trivial) (fun x H' Nx => patG X.K pt x (wipe σ vs) H' fun σ2 H2 => wipe σ2 vs = wipe σ vs ∧ rd RT X E0 ft σ2 H2 fun b H3 =>
    if b = true then rd RE X E0 fe σ2 H3 fun y H4 => ∃ acc, H4 D = some (.lst acc) ∧ acc.length < sizeLine ∧ Nx (upd H4 D (.lst (acc ++ [y]))) else Nx H3) hb (fun B' H' => Le B1 H1 B' H') (fun B H B' H' o l _ => o.trans l) ?_ (fun B' H' o => ⟨o.z, hid_new hD⟩) [] m1 B1 _ (CW.new s1 hD) (le_laid hD) (by rw [kid]; exact q1) ?_ ?_
  · intro B' H' xs o hn
    refine ⟨fun a o' ha hk rr => ?_, fun a ha => ?_, o.ext⟩
    · have ne : a ≠ D := fun e => by subst e; rw [hD] at rr; cases rr
      rw [upd_ne ne]
      exact o.keep a o' ha hk rr
    · by_cases e : a = D
      · subst e; rw [upd_same]; exact fun z => nomatch z
      · rw [upd_ne e]; exact o.trk a ha
  · intro i w x acc m2 B2 H2 r2 k' Nx c o wv ea q2 nx
    have sl2 : Sl (plX X (D :: Z)) H2 B2 (wipe σ vs) (wipeR r vs) := by
      refine Sl.wipe ⟨sl.len, fun j y e => ?_⟩ vs
      obtain ⟨v, e1, e2⟩ := sl.at_ j y e
      exact ⟨v, e1, WV.mz (l1.trans o).z (hid_new hDH) e2⟩
    refine pat_ok (p := plX X (D :: Z)) (vs := vs) pt hpt sl2 wv ea fun σ' sl' hw => ⟨by rw [hw, wipe_wipe], ?_⟩
    exact elem_step (P := fun x => PostE (plX X Z) E B1 H1 (g x) Qd) (k := k') hD hb hx c sl' q2 fun acc' m' B' H' c' _ q' => nx acc' m' B' H' c' c'.le q'
  · intro acc m2 B2 H2 c o q2
    exact hg3 Z B1 H1 D acc m2 B2 H2 m1 s1 hD c q2
theorem we_comp (hc : X.calm = true) (hN : X.N.Nodup) (hi : WI X E tg iter fi) (ok : BlkOk X.N X.env.scope scope own) (hpt : patIn (own.map (·.2)) pt = true)
    (hg : ∀ s H C cl fp, WP (Blk X scope s H C cl fp) tg pt) (ht : ∀ s H C cl fp, WTs (Blk X scope s H C cl fp) E0 ifs ft) (he : ∀ s H C cl fp, WE (Blk X scope s H C cl fp) E0 elt fe) (hs : ∀ x, foldedSetIterable iter X.env x = pure x := by intro _; rfl) :
    WE X E (.ListComp elt [⟨tg, iter, ifs, 0⟩] scope pos) (fComp fi pt (own.map (·.2)) ft fe) :=
  ⟨fun pins s σ H Q I h => (pe_lc (g := patG X.K pt) (tt := rd RT X E0 ft) (te := rd RE X E0 fe) hc hN hi ok hg ht he hs).run pins s σ H Q I (comp_read (fi := fi) (pt := pt) (ft := ft) (fe := fe) (g := fun x => x.nx.bind fun acc m2 => R.ok (W.d (PyData.list acc)) m2) (Fin := fun _ _ _ _ _ => True) hpt h rfl (fun _ _ => rfl) fun Z B1 H1 D acc m B H0 m1 so hD c q => by
    obtain ⟨s2, wv⟩ := c.done so hD
    exact q _ H0 B c.le s2 wv)⟩
/-- y = [..] on one line -/
theorem comp_new {Z : List Addr} {B1 B : List Addr} {H1 H0 : Hp} {D : Addr} {acc : List PyData} {m m1 : Mu} {Q : VK} (so : So (plX X Z) H1 B1 m1) (hD : H1 D = none) (c : CW (plX X Z) B1 H1 D acc m B H0) (q : PostE (plX X Z) E B1 H1 (.ok (.loc m.length) (m ++ [.lst acc])) Q) : Q (.ref D) H0 := by
  obtain ⟨xs, h1, h2⟩ := c.at_
  have dz : D ∉ Z := (so.out hD).2
  have sb : Sub (plX X Z) (B ++ [D]) ((plX X Z).at (D :: Z)) B := ⟨fun a o => ⟨fun h => by
    rcases List.mem_append.mp h with h | h
    · exact o.1 h
    · exact o.2 (by rw [show a = D by simpa using h]; exact List.mem_cons_self), fun h => o.2 (List.mem_cons_of_mem _ h)⟩, rfl, rfl, rfl⟩
  refine q _ H0 (B ++ [D]) ⟨c.le.keep, c.le.trk, ?_⟩ ⟨by simp [c.so.len], ?_, fun a h => ⟨(c.so.hid a (List.mem_cons_of_mem _ h)).1, fun z => ?_⟩, fun n a x e1 e2 => ?_⟩ (.loc (by rw [← c.so.len]; simp))
  · obtain ⟨C, e, hC⟩ := c.le.ext
    refine ⟨C ++ [D], by rw [e]; simp, fun a h => ?_⟩
    rcases List.mem_append.mp h with h | h
    · exact hC a h
    · rw [show a = D by simpa using h]; exact hD
  · rw [List.nodup_append]
    refine ⟨c.so.nd, by simp, fun a ha b hb e => ?_⟩
    have eb : b = D := by simpa using hb
    rw [e, eb] at ha
    exact c.out ha
  · rcases List.mem_append.mp z with z | z
    · exact (c.so.hid a (List.mem_cons_of_mem _ h)).2 z
    · rw [show a = D by simpa using z] at h
      exact dz h
  · by_cases z : n < B.length
    · rw [List.getElem?_append_left z] at e1
      rw [List.getElem?_append_left (by rw [← c.so.len]; exact z)] at e2
      have r := c.so.ob n a x e1 e2
      cases x with
      | lst ds => obtain ⟨zs, h3, h4⟩ := r; exact ⟨zs, h3, h4.sub sb⟩
      | dct ds => obtain ⟨zs, h3, h4, h5⟩ := r; exact ⟨zs, h3, h4.sub sb, h5⟩
    · rw [List.getElem?_append_right (by omega)] at e1
      rw [List.getElem?_append_right (by rw [← c.so.len]; omega)] at e2
      have hz : n - B.length = 0 := by
        have := (List.getElem?_eq_some_iff.mp e1).1
        simp at this; omega
      rw [← c.so.len, hz] at e2
      rw [hz] at e1
      simp at e1 e2
      subst e1; subst e2
      exact ⟨xs, h1, h2.sub sb⟩
theorem we_compN (hc : X.calm = true) (hN : X.N.Nodup) (hi : WI X E tg iter fi) (ok : BlkOk X.N X.env.scope scope own) (hpt : patIn (own.map (·.2)) pt = true)
    (hg : ∀ s H C cl fp, WP (Blk X scope s H C cl fp) tg pt) (ht : ∀ s H C cl fp, WTs (Blk X scope s H C cl fp) E0 ifs ft) (he : ∀ s H C cl fp, WE (Blk X scope s H C cl fp) E0 elt fe) (hs : ∀ x, foldedSetIterable iter X.env x = pure x := by intro _; rfl) :
    WE X E (.ListComp elt [⟨tg, iter, ifs, 0⟩] scope pos) (fCompN fi pt (own.map (·.2)) ft fe) :=
  ⟨fun pins s σ H Q I h => (pe_lc (g := patG X.K pt) (tt := rd RT X E0 ft) (te := rd RE X E0 fe) hc hN hi ok hg ht he hs).run pins s σ H Q I (comp_read (fi := fi) (pt := pt) (ft := ft) (fe := fe) (g := fun x => x.nx.bind fun acc m2 => R.ok (W.loc m2.length) (m2 ++ [Ob.lst acc])) (Fin := fun _ _ _ _ _ => True) hpt h rfl (fun _ _ => rfl) fun Z B1 H1 D acc m B H0 m1 so hD c q => comp_new so hD c q)⟩
end
end Wy

set_option Elab.async false
set_option linter.all false
set_option maxRecDepth 100000
set_option maxHeartbeats 4000000
/-! W10: statements. -/
namespace Wy
open PySem PySem.Spec PyProof.Rows L2

def R.toS {α : Type} : R α → (α → Mu → SR) → SR
  | .ok a m, k => k a m
  | .exn x m, _ => .exn x m
  | .bad, _ => .bad
def SR.andThen : SR → FS → SR
  | .next r m, f => f r m
  | .ret k w m, _ => .ret k w m
  | .brk r m, _ => .brk r m
  | .cnt r m, _ => .cnt r m
  | .exn x m, _ => .exn x m
  | .bad, _ => .bad
def PostS (p : Pl) (E : XK) (B : List Addr) (H : Hp) (x : SR) (D : Ends) : Prop :=
  match x with
  | .next r m => ∀ σ' H' B', Le B H B' H' → So p H' B' m → Sl p H' B' σ' r → D.nx σ' H'
  | .ret _ w m => ∀ v H' B', Le B H B' H' → So p H' B' m → WV p H' B' v w → D.rt v H'
  | .brk r m => ∀ σ' H' B', Le B H B' H' → So p H' B' m → Sl p H' B' σ' r → D.bk σ' H'
  | .cnt r m => ∀ σ' H' B', Le B H B' H' → So p H' B' m → Sl p H' B' σ' r → D.ct σ' H'
  | .exn x m => ∀ cls d H' B', Le B H B' H' → So p H' B' m → XnR p x cls d H' → E cls d H'
  | .bad => False
def rdS (X : Cx) (E : XK) (f : FS) : TS := fun D σ H => ∃ Z B r m, Sl (plX X Z) H B σ r ∧ So (plX X Z) H B m ∧ PostS (plX X Z) E B H (f r m) D
def WS (X : Cx) (E : XK) (st : Stmt) (f : FS) : Prop := PS X st (rdS X E f)
def WSs (X : Cx) (E : XK) (sts : List Stmt) (f : FS) : Prop := PSs X sts (rdS X E f)
section
variable {α β : Type} {RelA : Hp → List Addr → β → α → Prop} {p : Pl} {E : XK} {B B1 : List Addr} {H H1 : Hp} {Q1 : β → Hp → Prop} {D : Ends}
theorem PostS.mono {x : SR} (l : Le B H B1 H1) (h : PostS p E B H x D) : PostS p E B1 H1 x D := by
  cases x with
  | next r m => exact fun σ' H' B' l2 s q => h σ' H' B' (l.trans l2) s q
  | ret k r m => exact fun σ' H' B' l2 s q => h σ' H' B' (l.trans l2) s q
  | brk r m => exact fun σ' H' B' l2 s q => h σ' H' B' (l.trans l2) s q
  | cnt r m => exact fun σ' H' B' l2 s q => h σ' H' B' (l.trans l2) s q
  | exn x m => exact fun c d H' B' l2 s q => h c d H' B' (l.trans l2) s q
  | bad => exact h
theorem PostS.step {x : R α} {g : α → Mu → SR} (h : PostS p E B H (x.toS g) D) (k : ∀ a m1 b H1 B1, Le B H B1 H1 → So p H1 B1 m1 → RelA H1 B1 b a → PostS p E B1 H1 (g a m1) D → Q1 b H1) : Post RelA p E B H x Q1 := by
  cases x with
  | ok a m => exact fun b H' B' l s q => k a m b H' B' l s q (h.mono l)
  | exn x m => exact h
  | bad => exact h
theorem PostS.next {r : Rh} {m : Mu} {σ : Xs} (h : PostS p E B H (.next r m) D) (s : So p H B m) (sl : Sl p H B σ r) : D.nx σ H := h σ H B Le.refl s sl
/-- the end behind the first part -/
theorem PostS.seq {x : SR} {f : FS} {nx : Xs → Hp → Prop} (h : PostS p E B H (x.andThen f) D) (k : ∀ r m σ' H' B', Le B H B' H' → So p H' B' m → Sl p H' B' σ' r → PostS p E B' H' (f r m) D → nx σ' H') : PostS p E B H x { D with nx := nx } := by
  cases x with
  | next r m => exact fun σ' H' B' l s sl => k r m σ' H' B' l s sl (PostS.mono l h)
  | ret k r m => exact h
  | brk r m => exact h
  | cnt r m => exact h
  | exn x m => exact h
  | bad => exact h
end
section
variable {X : Cx} {E : XK} {st : Stmt} {rest : List Stmt} {f g : FS} {e : Expr} {fe : FE} {pos : Pos}
def fNext : FS := fun r m => .next r m
def fThen (f g : FS) : FS := fun r m => (f r m).andThen g
def fBadS : FS := fun _ _ => .bad
theorem wss_nil : WSs X E [] fNext := ⟨fun pins s σ H D I ⟨Z, B, r, m, sl, so, q⟩ => pss_nil.run pins s σ H D I (PostS.next q so sl)⟩
theorem wss_cons (h1 : WS X E st f) (h2 : WSs X E rest g) : WSs X E (st :: rest) (fThen f g) :=
  ⟨fun pins s σ H D I ⟨Z, B, r, m, sl, so, q⟩ => (pss_cons h1 h2).run pins s σ H D I ⟨Z, B, r, m, sl, so, q.seq fun r' m' σ' H' B' l s' sl' q' => ⟨Z, B', r', m', sl', s', q'⟩⟩⟩
theorem wss_one (h1 : WS X E st f) : WSs X E [st] f := pss_one h1
theorem ws_never : WS X E st fBadS := ⟨fun pins s σ H D I ⟨Z, B, r, m, sl, so, q⟩ => q.elim⟩
theorem wss_never {sts : List Stmt} : WSs X E sts fBadS := ⟨fun pins s σ H D I ⟨Z, B, r, m, sl, so, q⟩ => q.elim⟩
theorem ws_pass : WS X E (.Pass pos) fNext := ⟨fun pins s σ H D I ⟨Z, B, r, m, sl, so, q⟩ => ps_pass.run pins s σ H D I (PostS.next q so sl)⟩
theorem ws_break : WS X E (.Break pos) (fun r m => .brk r m) := ⟨fun pins s σ H D I ⟨Z, B, r, m, sl, so, q⟩ => ps_break.run pins s σ H D I (q σ H B Le.refl so sl)⟩
theorem ws_continue : WS X E (.Continue pos) (fun r m => .cnt r m) := ⟨fun pins s σ H D I ⟨Z, B, r, m, sl, so, q⟩ => ps_continue.run pins s σ H D I (q σ H B Le.refl so sl)⟩
def fDrop (fe : FE) : FS := fun r m => (fe r m).toS fun _ m1 => .next r m1
theorem ws_expr (he : WE X E e fe) (hs : swapsWith e none pos.line X.env = pure false := by rfl) : WS X E (.Expr e pos) (fDrop fe) :=
  ⟨fun pins s σ H D I ⟨Z, B, r, m, sl, so, q⟩ => (ps_expr he hs).run pins s σ H D I ⟨Z, B, r, m, sl, so, PostS.step q fun a m1 b H1 B1 l1 s1 r1 q1 => PostS.next q1 s1 (sl.mono l1)⟩⟩
def fRet (k : Bool) (fe : FE) : FS := fun r m => (fe r m).toS fun w m1 => .ret k w m1
theorem ws_ret (k : Bool) (he : WE X E e fe) : WS X E (.Return (some e) pos) (fRet k fe) :=
  ⟨fun pins s σ H D I ⟨Z, B, r, m, sl, so, q⟩ => (ps_ret he).run pins s σ H D I ⟨Z, B, r, m, sl, so, PostS.step q fun a m1 b H1 B1 l1 s1 r1 q1 => q1 b H1 B1 Le.refl s1 r1⟩⟩
theorem ws_retN : WS X E (.Return none pos) (fun _ m => .ret false (.d .none) m) := ⟨fun pins s σ H D I ⟨Z, B, r, m, sl, so, q⟩ => ps_retN.run pins s σ H D I (q .non H B Le.refl so (.d .non))⟩
def fIfS (ft : FT) (f g : FS) : FS := fun r m => (ft r m).toS fun k m1 => match k with
  | true => f r m1
  | false => g r m1
theorem ws_if {c : Expr} {a b : List Stmt} {ft : FT} (hc : WT X E c ft) (ha : WSs X E a f) (hb : WSs X E b g) : WS X E (.If c a b pos) (fIfS ft f g) :=
  ⟨fun pins s σ H D I ⟨Z, B, r, m, sl, so, q⟩ => (ps_if hc ha hb).run pins s σ H D I ⟨Z, B, r, m, sl, so, PostS.step q fun k m1 b H1 B1 l1 s1 r1 q1 => by
    have e : b = k := r1
    subst e
    cases b with
    | true => exact ⟨Z, B1, r, m1, sl.mono l1, s1, q1⟩
    | false => exact ⟨Z, B1, r, m1, sl.mono l1, s1, q1⟩⟩⟩
/-! ### targets -/
mutual
theorem pat_to {p : Pl} {H : Hp} {B : List Addr} : ∀ (pt : Pat) {v : V} {w : W} {σ : Xs} {r r' : Rh} {Q : Xs → Hp → Prop}, Sl p H B σ r → WV p H B v w → patF pt w r = some r' →
    (∀ σ', Sl p H B σ' r' → Q σ' H) → patG p.K pt v σ H Q
  | .nm i, v, w, σ, r, r', Q, sl, wv, e, k => by
    rw [patF] at e
    cases e
    rw [patG]
    exact k _ (sl.set wv)
  | .tp ps, v, w, σ, r, r', Q, sl, wv, e, k => by
    rw [patF] at e
    cases et : tupW w with
    | none => rw [et] at e; cases e
    | some ws =>
      rw [et] at e
      obtain ⟨a, xs, rfl, h1, h2⟩ := tup_of wv et
      rw [patG]
      exact ⟨a, xs, rfl, h1.sq, by rw [h2.length]; exact patFs_len e, pats_to ps sl h2 e k⟩
theorem pats_to {p : Pl} {H : Hp} {B : List Addr} : ∀ (ps : List Pat) {xs : List V} {ws : List W} {σ : Xs} {r r' : Rh} {Q : Xs → Hp → Prop}, Sl p H B σ r → WVs p H B xs ws → patFs ps ws r = some r' →
    (∀ σ', Sl p H B σ' r' → Q σ' H) → patGs p.K ps xs σ H Q
  | [], xs, ws, σ, r, r', Q, sl, wv, e, k => by
    cases wv with
    | nil => rw [patFs] at e; cases e; rw [patGs]; exact ⟨rfl, k _ sl⟩
    | cons _ _ => simp [patFs] at e
  | t :: ts, xs, ws, σ, r, r', Q, sl, wv, e, k => by
    cases wv with
    | nil => simp [patFs] at e
    | cons h1 h2 =>
      rw [patFs] at e
      obtain ⟨r1, e1, e2⟩ := Option.bind_eq_some_iff.mp e
      rw [patGs]
      exact ⟨_, _, rfl, pat_to t sl h1 e1 fun σ1 s1 => pats_to ts s1 h2 e2 k⟩
end
def fSet (i : Nat) (fe : FE) : FS := fun r m => (fe r m).toS fun w m1 => .next (r.set i (some w)) m1
theorem ws_set {i : Nat} {x : Str} {pos' : Pos} (hN : X.N.Nodup) (hi : X.N[i]? = some x) (hx : Loc X.env.scope x) (he : WE X E e fe) (hs : swapsWith e (some (.Name x pos')) pos.line X.env = pure false := by rfl) (hf : X.fn x = true ∨ X.env.scope.names.lookup x = some .local := by first | exact .inl rfl | exact .inr rfl | assumption) :
    WS X E (.Assign [.Name x pos'] e pos) (fSet i fe) :=
  ⟨fun pins s σ H D I ⟨Z, B, r, m, sl, so, q⟩ => (ps_set hN hi hx he hs hf).run pins s σ H D I ⟨Z, B, r, m, sl, so, PostS.step q fun w m1 b H1 B1 l1 s1 r1 q1 => PostS.next q1 s1 ((sl.mono l1).set r1)⟩⟩
def fAsg (pt : Pat) (fe : FE) : FS := fun r m => (fe r m).toS fun w m1 => match patF pt w r with
  | some r2 => .next r2 m1
  | none => .bad
theorem ws_asg {tg : Expr} {pt : Pat} (he : WE X E e fe) (hg : WP X tg pt) (hs : swapsWithSole [tg] e pos.line X.env = pure false := by rfl) (hw : swappedStores [tg] e X.env = pure none := by rfl)
    (h1 : (assignEach [tg] X.env).map (·.2) = [assign tg X.env] := by rfl) : WS X E (.Assign [tg] e pos) (fAsg pt fe) :=
  ⟨fun pins s σ H D I ⟨Z, B, r, m, sl, so, q⟩ => (ps_asg he hg hs hw h1).run pins s σ H D I ⟨Z, B, r, m, sl, so, PostS.step q fun w m1 b H1 B1 l1 s1 r1 q1 => by
    cases e : patF pt w r with
    | none => rw [e] at q1; exact q1.elim
    | some r2 =>
      rw [e] at q1
      exact pat_to (p := plX X Z) pt (sl.mono l1) r1 e fun σ' sl' => PostS.next q1 s1 sl'⟩⟩
def fPar (i j : Nat) (fa : FA) : FS := fun r m => (fa r m).toS fun ws m1 => match ws with
  | [u, w] => .next ((r.set i (some u)).set j (some w)) m1
  | _ => .bad
theorem ws_par {i j : Nat} {x y : Str} {a b : Expr} {fa : FA} {px py pt : Pos} {kt k2 pt2} (hc : X.calm = true) (hN : X.N.Nodup) (hi : X.N[i]? = some x) (hj : X.N[j]? = some y) (hij : i ≠ j)
    (hx : X.env.scope.names.lookup x = some .local) (hy : X.env.scope.names.lookup y = some .local) (ha : WA X E [a, b] fa)
    (hw : swappedStores [.Tuple [.Name x px, .Name y py] kt pt] (.Tuple [a, b] k2 pt2) X.env = pure (some [x, y]))
    (hs : swapsWithSole [.Tuple [.Name x px, .Name y py] kt pt] (.Tuple [a, b] k2 pt2) pos.line X.env = pure false := by rfl) :
    WS X E (.Assign [.Tuple [.Name x px, .Name y py] kt pt] (.Tuple [a, b] k2 pt2) pos) (fPar i j fa) :=
  ⟨fun pins s σ H D I ⟨Z, B, r, m, sl, so, q⟩ => (ps_par hc hN hi hj hij hx hy ha hw hs).run pins s σ H D I ⟨Z, B, r, m, sl, so, PostS.step q fun ws m1 b H1 B1 l1 s1 r1 q1 => by
    try dsimp only at q1
    split at q1
    · rename_i u w
      cases r1 with
      | cons h1 t1 => cases t1 with
        | cons h2 t2 => cases t2 with
          | nil => exact ⟨_, _, rfl, PostS.next q1 s1 (((sl.mono l1).set h1).set h2)⟩
    · exact q1.elim⟩⟩
def fPar3 (i j k : Nat) (fa : FA) : FS := fun r m => (fa r m).toS fun ws m1 => match ws with
  | [u, w, z] => .next (((r.set i (some u)).set j (some w)).set k (some z)) m1
  | _ => .bad
theorem ws_par3 {i j l : Nat} {x y z : Str} {a b c : Expr} {fa : FA} {px py pz pt : Pos} {kt k2 pt2} (hc : X.calm = true) (hN : X.N.Nodup) (hi : X.N[i]? = some x) (hj : X.N[j]? = some y) (hl : X.N[l]? = some z) (hij : i ≠ j) (hil : i ≠ l) (hjl : j ≠ l)
    (hx : X.env.scope.names.lookup x = some .local) (hy : X.env.scope.names.lookup y = some .local) (hz : X.env.scope.names.lookup z = some .local) (ha : WA X E [a, b, c] fa)
    (hw : swappedStores [.Tuple [.Name x px, .Name y py, .Name z pz] kt pt] (.Tuple [a, b, c] k2 pt2) X.env = pure (some [x, y, z]))
    (hs : swapsWithSole [.Tuple [.Name x px, .Name y py, .Name z pz] kt pt] (.Tuple [a, b, c] k2 pt2) pos.line X.env = pure false := by rfl) :
    WS X E (.Assign [.Tuple [.Name x px, .Name y py, .Name z pz] kt pt] (.Tuple [a, b, c] k2 pt2) pos) (fPar3 i j l fa) :=
  ⟨fun pins s σ H D I ⟨Z, B, r, m, sl, so, q⟩ => (ps_par3 hc hN hi hj hl hij hil hjl hx hy hz ha hw hs).run pins s σ H D I ⟨Z, B, r, m, sl, so, PostS.step q fun ws m1 b H1 B1 l1 s1 r1 q1 => by
    try dsimp only at q1
    split at q1
    · rename_i u w z'
      cases r1 with
      | cons h1 t1 => cases t1 with
        | cons h2 t2 => cases t2 with
          | cons h3 t3 => cases t3 with
            | nil => exact ⟨_, _, _, rfl, PostS.next q1 s1 ((((sl.mono l1).set h1).set h2).set h3)⟩
    · exact q1.elim⟩⟩
theorem wp_nm {i : Nat} {x : Str} (hN : X.N.Nodup) (hi : X.N[i]? = some x) (hx : Loc X.env.scope x) (hf : X.fn x = true ∨ X.env.scope.names.lookup x = some .local := by first | exact .inl rfl | exact .inr rfl | assumption) : WP X (.Name x pos) (.nm i) := by
  unfold WP
  rw [patG]
  exact pg_name hN hi hx hf
def WPs (X : Cx) (es : List Expr) (ps : List Pat) : Prop := PGs X es (patGs X.K ps)
theorem wps_nil : WPs X [] [] := by
  unfold WPs
  rw [patGs]
  exact pgs_nil
theorem wps_cons {es : List Expr} {pt : Pat} {ps : List Pat} (h1 : WP X e pt) (h2 : WPs X es ps) (hs : (assignEach (e :: es) X.env).map (·.2) = assign e X.env :: (assignEach es X.env).map (·.2) := by rfl) : WPs X (e :: es) (pt :: ps) := by
  unfold WPs
  rw [patGs]
  exact pgs_cons h1 h2 hs
theorem wp_tp {es : List Expr} {k : Nat} {ps : List Pat} (hc : X.calm = true) (h : WPs X es ps)
    (hn : (assignEach es X.env).length = ps.length := by rfl) (hst : (assignEach es X.env).findIdx? (·.1) = none := by rfl) : WP X (.Tuple es k pos) (.tp ps) := by
  unfold WP
  rw [patG]
  exact pg_tup hc h hn hst

/-! ### while -/
def whileF (ft : FT) (fb : FS) : Nat → Rh → Mu → SR
  | 0, _, _ => .bad
  | n + 1, r, m => (ft r m).toS fun k m1 => match k with
    | true => match fb r m1 with
      | .next r2 m2 => whileF ft fb n r2 m2
      | .cnt r2 m2 => whileF ft fb n r2 m2
      | .brk r2 m2 => .next r2 m2
      | .ret k w m2 => .ret k w m2
      | .exn x m2 => .exn x m2
      | .bad => .bad
    | false => .next r m1
theorem ws_while {c : Expr} {body : List Stmt} {ft : FT} (n : Nat) (hp : PassesOwn (model X.prog X.w) X.A X.env X.xe) (hc : WT X E c ft) (hb : WSs X E body f) : WS X E (.While c body [] pos) (whileF ft f n) := by
  refine ⟨fun pins s σ H D I ⟨Z, B, r, m, sl, so, q⟩ => (ps_while hp hc hb).run pins s σ H D I ?_⟩
  refine ⟨fun n σ H => ∃ r μ B, Sl (plX X Z) H B σ r ∧ So (plX X Z) H B μ ∧ PostS (plX X Z) E B H (whileF ft f n r μ) D, ⟨n, r, m, B, sl, so, q⟩, ?_⟩
  rintro n σ H ⟨r, μ, B, sl, so, q⟩
  cases n with
  | zero => exact q.elim
  | succ n =>
    rw [whileF] at q
    refine ⟨Z, B, r, μ, sl, so, PostS.step q fun k m1 b H1 B1 l1 s1 r1 q1 => ?_⟩
    have e : b = k := r1
    subst e
    cases b with
    | false =>
      rw [if_neg Bool.false_ne_true]
      exact PostS.next q1 s1 (sl.mono l1)
    | true =>
      rw [if_pos rfl]
      refine ⟨fun σ' H' => ∃ r μ B, Sl (plX X Z) H' B σ' r ∧ So (plX X Z) H' B μ ∧ PostS (plX X Z) E B H' (whileF ft f n r μ) D, fun σ' H' h => ⟨n, Nat.lt_succ_self n, h⟩, Z, B1, r, m1, sl.mono l1, s1, ?_⟩
      dsimp only at q1
      cases ef : f r m1 with
      | next r2 m2 => rw [ef] at q1; exact fun σ' H' B' l s sl => ⟨r2, m2, B', sl, s, PostS.mono l q1⟩
      | cnt r2 m2 => rw [ef] at q1; exact fun σ' H' B' l s sl => ⟨r2, m2, B', sl, s, PostS.mono l q1⟩
      | brk r2 m2 => rw [ef] at q1; exact q1
      | ret k w m2 => rw [ef] at q1; exact q1
      | exn x m2 => rw [ef] at q1; exact q1
      | bad => rw [ef] at q1; exact q1.elim

/-! ### for -/
def forF (src : Option (Nat × Ob)) (pt : Pat) (fb : FS) : List W → Rh → Mu → SR
  | [], r, m => if stands src m = true then .next r m else .bad
  | w :: ws, r, m => if stands src m = true then (match patF pt w r with
    | some r2 => match fb r2 m with
      | .next r3 m3 => forF src pt fb ws r3 m3
      | .cnt r3 m3 => forF src pt fb ws r3 m3
      | .brk r3 m3 => .next r3 m3
      | .ret k w m3 => .ret k w m3
      | .exn x m3 => .exn x m3
      | .bad => .bad
    | none => .bad) else .bad
def fFor (fi : FI) (pt : Pat) (fb : FS) : FS := fun r m => (fi r m).toS fun its m1 => forF its.src pt fb its.items r m1
theorem ws_for {tg iter : Expr} {body : List Stmt} {fi : FI} {pt : Pat} (hp : PassesOwn (model X.prog X.w) X.A X.env X.xe) (hc : X.calm = true) (hi : WI X E tg iter fi) (hg : WP X tg pt) (hb : WSs X E body f)
    (hs : ∀ x, foldedSetIterable iter X.env x = pure x := by intro _; rfl) : WS X E (.For tg iter body [] pos) (fFor fi pt f) := by
  refine ⟨fun pins s σ H D I ⟨Z, B, r, m, sl, so, q⟩ => (ps_for hp hc hi hg hb hs).run pins s σ H D I ?_⟩
  refine ⟨Z, B, r, m, sl, so, PostS.step q fun its m1 J H1 B1 l1 s1 itok q1 => ?_⟩
  obtain ⟨G, Y, wk, hG, hY⟩ := itok.ex
  have hid : ∀ (H : Hp), Hid (plX X Z) H Z := fun H a h => .inl h
  have stn : ∀ {ws : List W} {r : Rh} {μ : Mu} {B : List Addr} {H : Hp}, PostS (plX X Z) E B H (forF its.src pt f ws r μ) D → stands its.src μ = true := by
    intro ws r μ B H q
    cases e : stands its.src μ with
    | true => rfl
    | false => cases ws <;> (simp only [forF, e] at q; exact q.elim)
  refine ⟨fun i k σ H => k = its.items.length - i ∧ i ≤ its.items.length ∧ ∃ r μ B, Le B1 H1 B H ∧ Sl (plX X Z) H B σ r ∧ So (plX X Z) H B μ ∧ PostS (plX X Z) E B H (forF its.src pt f (its.items.drop i) r μ) D, ⟨its.items.length, by simp, Nat.zero_le _, r, m1, B1, Le.refl, sl.mono l1, s1, by rw [List.drop_zero]; exact q1⟩, ?_⟩
  rintro i k σ H ⟨rfl, hi, r, μ, B, le, sl, so, q⟩
  have st := stn q
  have g := hG H B μ Z le.z (hid _) so st
  by_cases hlt : i < its.items.length
  · refine .inr ⟨wk.goes i H hlt g, fun σ' H' => ∃ r μ B, Le B1 H1 B H' ∧ Sl (plX X Z) H' B σ' r ∧ So (plX X Z) H' B μ ∧ PostS (plX X Z) E B H' (forF its.src pt f (its.items.drop (i + 1)) r μ) D, fun σ' H' h => ⟨_, by omega, rfl, hlt, h⟩, fun x H' y => ?_⟩
    obtain ⟨l', s', w, e1, wv⟩ := hY i H x H' B μ Z le.z (hid _) so st hlt g (wk.yields i H x H' hlt g y)
    have e2 : its.items[i] = w := by
      rw [List.getElem?_eq_getElem hlt] at e1
      exact Option.some.inj e1
    rw [List.drop_eq_getElem_cons hlt, e2, forF, if_pos st] at q
    cases ep : patF pt w r with
    | none => rw [ep] at q; exact q.elim
    | some r2 =>
      rw [ep] at q
      refine pat_to (p := plX X Z) pt (sl.mono l') wv ep fun σ' sl' => ⟨Z, B, r2, μ, sl', s', ?_⟩
      have q' := q.mono l'
      dsimp only at q'
      cases ef : f r2 μ with
      | next r2 m2 => rw [ef] at q'; exact fun σ' H' B' l s sl => ⟨r2, m2, B', le.trans (l'.trans l), sl, s, PostS.mono l q'⟩
      | cnt r2 m2 => rw [ef] at q'; exact fun σ' H' B' l s sl => ⟨r2, m2, B', le.trans (l'.trans l), sl, s, PostS.mono l q'⟩
      | brk r2 m2 => rw [ef] at q'; exact q'
      | ret k w m2 => rw [ef] at q'; exact q'
      | exn x m2 => rw [ef] at q'; exact q'
      | bad => rw [ef] at q'; exact q'.elim
  · obtain rfl : i = its.items.length := by omega
    rw [List.drop_length, forF, if_pos st] at q
    exact .inl ⟨wk.stops H g, PostS.next q so sl⟩
/-! ### name = [..] on one line -/
def fSetS (i : Nat) (fe : FE) : FS := fSet i fe
theorem ws_setLc {i : Nat} {y : Str} {py : Pos} {elt tg iter : Expr} {ifs : List Expr} {scope : Scope} {own : List (Str × Nat)} {spos : Pos} {fi : FI} {pt : Pat} {ft : FT} (hc : X.calm = true) (hN : X.N.Nodup) (hy : X.N[i]? = some y) (hyl : X.env.scope.names.lookup y = some .local)
    (hsw : swapsWith (.ListComp elt [⟨tg, iter, ifs, 0⟩] scope pos) (some (.Name y py)) spos.line X.env = pure true) (hi : WI X E tg iter fi) (ok : BlkOk X.N X.env.scope scope own) (hpt : patIn (own.map (·.2)) pt = true)
    (hg : ∀ s H C cl fp, WP (Blk X scope s H C cl fp) tg pt) (ht : ∀ s H C cl fp, WTs (Blk X scope s H C cl fp) E0 ifs ft) (he : ∀ s H C cl fp, WE (Blk X scope s H C cl fp) E0 elt fe) (hs : ∀ x, foldedSetIterable iter X.env x = pure x := by intro _; rfl) :
    WS X E (.Assign [.Name y py] (.ListComp elt [⟨tg, iter, ifs, 0⟩] scope pos) spos) (fSet i (fComp fi pt (own.map (·.2)) ft fe)) :=
  ⟨fun pins s σ H D I ⟨Z, B, r, m, sl, so, q⟩ => (ps_setLc (g := patG X.K pt) (tt := rd RT X E0 ft) (te := rd RE X E0 fe) hc hN hy hyl hsw hi ok hg ht he hs).run pins s σ H D I (comp_read (fi := fi) (pt := pt) (ft := ft) (fe := fe) (g := fun x => x.nx.bind fun acc m2 => R.ok (W.d (PyData.list acc)) m2) (Fin := fun _ _ _ _ _ => True) hpt
    ⟨Z, B, r, m, sl, so, PostS.step q fun w m1 b H1 B1 l1 s1 r1 q1 => (show gName i b σ H1 D.nx from PostS.next q1 s1 ((sl.mono l1).set r1))⟩ rfl (fun _ _ => rfl) fun Z B1 H1 D' acc m B H0 m1 so hD c q => by
    obtain ⟨s2, wv⟩ := c.done so hD
    exact q _ H0 B c.le s2 wv)⟩
theorem ws_setLcN {i : Nat} {y : Str} {py : Pos} {elt tg iter : Expr} {ifs : List Expr} {scope : Scope} {own : List (Str × Nat)} {spos : Pos} {fi : FI} {pt : Pat} {ft : FT} (hc : X.calm = true) (hN : X.N.Nodup) (hy : X.N[i]? = some y) (hyl : X.env.scope.names.lookup y = some .local)
    (hsw : swapsWith (.ListComp elt [⟨tg, iter, ifs, 0⟩] scope pos) (some (.Name y py)) spos.line X.env = pure true) (hi : WI X E tg iter fi) (ok : BlkOk X.N X.env.scope scope own) (hpt : patIn (own.map (·.2)) pt = true)
    (hg : ∀ s H C cl fp, WP (Blk X scope s H C cl fp) tg pt) (ht : ∀ s H C cl fp, WTs (Blk X scope s H C cl fp) E0 ifs ft) (he : ∀ s H C cl fp, WE (Blk X scope s H C cl fp) E0 elt fe) (hs : ∀ x, foldedSetIterable iter X.env x = pure x := by intro _; rfl) :
    WS X E (.Assign [.Name y py] (.ListComp elt [⟨tg, iter, ifs, 0⟩] scope pos) spos) (fSet i (fCompN fi pt (own.map (·.2)) ft fe)) :=
  ⟨fun pins s σ H D I ⟨Z, B, r, m, sl, so, q⟩ => (ps_setLc (g := patG X.K pt) (tt := rd RT X E0 ft) (te := rd RE X E0 fe) hc hN hy hyl hsw hi ok hg ht he hs).run pins s σ H D I (comp_read (fi := fi) (pt := pt) (ft := ft) (fe := fe) (g := fun x => x.nx.bind fun acc m2 => R.ok (W.loc m2.length) (m2 ++ [Ob.lst acc])) (Fin := fun _ _ _ _ _ => True) hpt
    ⟨Z, B, r, m, sl, so, PostS.step q fun w m1 b H1 B1 l1 s1 r1 q1 => (show gName i b σ H1 D.nx from PostS.next q1 s1 ((sl.mono l1).set r1))⟩ rfl (fun _ _ => rfl) fun Z B1 H1 D' acc m B H0 m1 so hD c q => comp_new so hD c q)⟩
end
end Wy

set_option Elab.async false
set_option linter.all false
set_option maxRecDepth 100000
set_option maxHeartbeats 4000000
/-! W11: what changes the store. -/
namespace Wy
open PySem PySem.Spec PyProof.Rows L2

/-! ### dicts -/
theorem dcT_ok {P : Program} {w : World} {H : Hp} {h : Heap} {a : Addr} {kvs : List (NestedKey × Addr × V)} {xs : List (NestedKey × Addr × Value)} (d : h.DictOfH (nestedKind P w) a xs) (p : Paired R3 kvs xs) : ObjOk P w H h a (dcT P w a kvs) := by
  obtain ⟨o, es, ep, e1, e2, e3, e4, _, _⟩ := d
  refine ⟨⟨o, es, ep, e1, e2, e3, by rw [e4]; exact ents_to p⟩, ⟨o, e1⟩, fun h1 h2 ⟨o, es, ep, e1, e2, e3, e4⟩ k => ⟨o, es, ep, k o e1, e2, e3, e4⟩⟩
def putV (kvs : List (NestedKey × Addr × V)) (k : NestedKey) (a : Addr) (v : V) : List (NestedKey × Addr × V) := if (kvs.any fun p => decide (p.1 = k)) = true then kvs.map fun p => if p.1 = k then (p.1, p.2.1, v) else p else kvs ++ [(k, a, v)]
theorem putV_len (kvs : List (NestedKey × Addr × V)) (k : NestedKey) (a : Addr) (v : V) : (putV kvs k a v).length ≤ kvs.length + 1 := by
  unfold putV
  split <;> simp
theorem putV_nd {kvs : List (NestedKey × Addr × V)} {k : NestedKey} {a : Addr} {v : V} (h : (kvs.map (·.1)).Nodup) : ((putV kvs k a v).map (·.1)).Nodup := by
  unfold putV
  split
  · rw [List.map_map]
    have e : (fun p : NestedKey × Addr × V => p.1) ∘ (fun p => if p.1 = k then (p.1, p.2.1, v) else p) = (·.1) := by
      funext p
      simp only [Function.comp]
      split <;> rfl
    rw [e]
    exact h
  · rename_i z
    rw [List.map_append, List.nodup_append]
    refine ⟨h, by simp, fun x hx y hy e => z ?_⟩
    have ey : y = k := by simpa using hy
    obtain ⟨q, hq, e2⟩ := List.mem_map.mp hx
    exact List.any_eq_true.mpr ⟨q, hq, by simp [e2, e, ey]⟩
theorem r3_any {k : NestedKey} : ∀ {kvs : List (NestedKey × Addr × V)} {xs : List (NestedKey × Addr × Value)}, Paired R3 kvs xs → (kvs.any fun p => decide (p.1 = k)) = (atKey xs k).isSome
  | _, _, .nil => rfl
  | _ :: _, (k', a', v') :: _, .cons h t => by
    have ih := r3_any (k := k) t
    rw [List.any_cons, ih, h.1]
    unfold atKey
    rw [List.find?_cons]
    by_cases q : k' = k <;> simp [q]
theorem r3_put {k : NestedKey} {a : Addr} {v : V} {u : Value} (r : RelV v u) {kvs : List (NestedKey × Addr × V)} {xs : List (NestedKey × Addr × Value)} (p : Paired R3 kvs xs) : Paired R3 (putV kvs k a v) (storedH xs k a u) := by
  unfold putV storedH
  rw [r3_any p]
  split <;> rename_i h_if
  · clear h_if
    induction p with
    | nil => exact .nil
    | @cons x y _ _ h t ih =>
      refine .cons ?_ ih
      obtain ⟨h1, h2, h3⟩ := h
      unfold putAt
      dsimp only
      rw [h1]
      by_cases q : y.1 = k
      · rw [if_pos q, if_pos q]
        exact ⟨rfl, h2, r⟩
      · rw [if_neg q, if_neg q]
        exact ⟨h1, h2, h3⟩
  · clear h_if
    induction p with
    | nil => exact .cons ⟨rfl, rfl, r⟩ .nil
    | cons h t ih => exact .cons h ih
theorem dk_any {p : Pl} {H : Hp} {B : List Addr} {k : PyData} : ∀ {kvs : List (NestedKey × Addr × V)} {es : List (PyData × PyData)}, DVk p H B kvs es → (kvs.any fun q => decide (q.1 = keyOf k)) = dhas es k
  | _, _, .nil => rfl
  | _, _, .cons e _ _ _ _ t => by
    have ih := dk_any (k := k) t
    unfold dhas at ih ⊢
    rw [List.any_cons, List.any_cons, ih, e]
theorem dk_put {p : Pl} {H : Hp} {B : List Addr} {k x : PyData} {a : Addr} {v : V} (hk : keyable k = true) (hd : (keyOf k).depth ≤ 8) (ha : DV p H B (.ref a) k) (hv : DV p H B v x) {kvs : List (NestedKey × Addr × V)} {es : List (PyData × PyData)} (h : DVk p H B kvs es) : DVk p H B (putV kvs (keyOf k) a v) (dput es k x) := by
  unfold putV dput
  rw [dk_any h]
  split
  · have go : ∀ {kvs : List (NestedKey × Addr × V)} {es : List (PyData × PyData)}, DVk p H B kvs es → DVk p H B (kvs.map fun p => if p.1 = keyOf k then (p.1, p.2.1, v) else p) (es.map fun p => if keyOf p.1 = keyOf k then (p.1, x) else p) := by
      intro kvs
      induction kvs with
      | nil => intro es h; cases h; exact .nil
      | cons q kvs ih =>
        intro es h
        cases h with
        | @cons k' a' v' _ kd vd es' e1 e2 e3 e4 e5 t =>
          rw [List.map_cons, List.map_cons]
          dsimp only
          by_cases z : k' = keyOf k
          · rw [if_pos z, if_pos (by rw [← e1]; exact z)]
            exact .cons e1 e2 e3 e4 hv (ih t)
          · rw [if_neg z, if_neg (by rw [← e1]; exact z)]
            exact .cons e1 e2 e3 e4 e5 (ih t)
    exact go h
  · have go : ∀ {kvs : List (NestedKey × Addr × V)} {es : List (PyData × PyData)}, DVk p H B kvs es → DVk p H B (kvs ++ [(keyOf k, a, v)]) (es ++ [(k, x)]) := by
      intro kvs
      induction kvs with
      | nil => intro es h; cases h; exact .cons rfl hk hd ha hv .nil
      | cons q kvs ih =>
        intro es h
        cases h with
        | cons e1 e2 e3 e4 e5 t => exact .cons e1 e2 e3 e4 e5 (ih t)
    exact go h
section
variable {X : Cx} {E : XK} {e : Expr} {fe : FE} {pos : Pos}
def fDct : FE := fun _ m => .ok (.loc m.length) (m ++ [.dct []])
theorem we_dct : WE X E (.Dict [] [] pos) fDct := ⟨fun pins s σ H Q I ⟨Z, B, r, m, sl, so, q⟩ =>
  wpAny_Dict_empty ⟨.ref s.heap.objs.size, _, I.laid (a := s.heap.objs.size) (o := dcT X.prog X.w s.heap.objs.size []) (t' := s.toks) (fun _ _ q => Heap.get?_push_of_some _ q) (Nat.le_refl _) (dcT_ok (Heap.DictOfH.new s.heap) .nil), rfl,
    Post.new q so (I.hok.fresh (Nat.le_refl _)) ⟨[], upd_same, .nil, beq_eq_false_iff_ne.mpr (Ne.symm (Nat.ne_of_lt I.big)), Nat.zero_le _, List.nodup_nil⟩⟩⟩
/-- a frozen empty dict -/
def fDctF : FE := fun _ m => .ok (.d (.dict [])) m
theorem we_dctF : WE X E (.Dict [] [] pos) fDctF := ⟨fun pins s σ H Q I ⟨Z, B, r, m, sl, so, q⟩ =>
  wpAny_Dict_empty ⟨.ref s.heap.objs.size, _, I.laid (a := s.heap.objs.size) (o := dcT X.prog X.w s.heap.objs.size []) (t' := s.toks) (fun _ _ q => Heap.get?_push_of_some _ q) (Nat.le_refl _) (dcT_ok (Heap.DictOfH.new s.heap) .nil), rfl,
    Post.fresh q so (I.hok.fresh (Nat.le_refl _)) (.d (.dct (so.out (I.hok.fresh (Nat.le_refl _))) (.inl upd_same) .nil (beq_eq_false_iff_ne.mpr (Ne.symm (Nat.ne_of_lt I.big))) (Nat.zero_le _) List.nodup_nil))⟩⟩
end

/-! ### o[i] = x -/
def stW (o i x : W) (m : Mu) : Option Mu := match o, i, x with
  | .loc n, .d k, .d y => match m[n]? with
    | some (.lst ds) => match k with
      | .int j => (ixN ds.length j).map fun t => m.set n (.lst (ds.set t y))
      | _ => none
    | some (.dct es) => if okKey k = true ∧ es.length < 1000000 then some (m.set n (.dct (dput es k y))) else none
    | none => none
  | _, _, _ => none
/-- the store's own writing -/
def tSt (X : Cx) : TSet := fun o i v H Q => ∃ Z B m wo wi wx m', So (plX X Z) H B m ∧ WV (plX X Z) H B o wo ∧ WV (plX X Z) H B i wi ∧ WV (plX X Z) H B v wx ∧ stW wo wi wx m = some m' ∧ ∀ H', Le B H B H' → So (plX X Z) H' B m' → Q H'
theorem set_st {X : Cx} (hu : X.A.units + 65 < cLine) : PSet X (tSt X) := by
  rintro pins s σ H o i v ov iv u Q I ro ri rv ⟨Z, B, m, wo, wi, wx, m', so, ho, hi, hx, e, q⟩
  unfold stW at e
  split at e
  · rename_i n k y
    cases ho with
    | @loc _ a hb =>
      cases hx with
      | d hx =>
        cases hi with
        | d hi =>
          obtain ⟨ob, e1, rr⟩ := so.obj hb
          rw [e1] at e
          cases ob with
          | lst ds =>
            dsimp only at e
            split at e
            · rename_i j
              obtain ⟨t, e2, e3⟩ := Option.map_eq_some_iff.mp e
              obtain ⟨xs, h1, h2⟩ := rr
              subst e3
              refine set_list pins s σ H _ _ v ov iv u Q I ro ri rv ⟨a, xs, j, t, rfl, int_inv hi, h1, by rw [h2.length]; exact e2, q _ (le_set (List.mem_of_getElem? hb)) (so.set hb ⟨_, upd_same, ?_⟩)⟩
              exact DVs.mono (le_set (List.mem_of_getElem? hb)) (h2.set hx t)
            · cases e
          | dct es =>
            dsimp only at e
            split at e
            · rename_i z
              cases e
              obtain ⟨kvs, h1, h2, h3, h4, h5⟩ := rr
              have okk := z.1
              obtain ⟨ka, rfl, rfl, ki⟩ := key_is I hi z.1 ri
              unfold okKey at okk
              simp only [Bool.and_eq_true, decide_eq_true_eq] at okk
              obtain ⟨xs, d1, d2⟩ := dict_at I (.inl h1) h2 h5
              cases ro
              have hl : kvs.length = es.length := by
                have : ∀ {kvs : List (NestedKey × Addr × V)} {es : List (PyData × PyData)}, DVk (plX X Z) H B kvs es → kvs.length = es.length := by
                  intro kvs
                  induction kvs with
                  | nil => intro es h; cases h; rfl
                  | cons q kvs ih => intro es h; cases h with
                    | cons _ _ _ _ _ t => rw [List.length_cons, List.length_cons, ih t]
                exact this h2
              refine wpAny_setItem_heap (knd := knX X) (by show X.A.units + 1 + 8 < cLine; omega) ki d1 (fun h' d3 sb => ?_) (by rw [← r3_len d2]; exact h4)
              refine ⟨upd H a (dcT X.prog X.w a (putV kvs (keyOf k) ka v)), ?_, q _ (le_set (List.mem_of_getElem? hb)) (so.set hb ⟨_, upd_same, ?_, h3, ?_, putV_nd h5⟩)⟩
              · refine I.write (x := a) (e := a) (by rw [h1]; trivial) (.inl rfl) (fun b u hb q => (sb.2 b hb).trans q) ?_ (dcT_ok d3 (r3_put rv d2))
                obtain ⟨o, _, _, e, _⟩ := d3
                exact ⟨o, e⟩
              · exact DVk.mono (le_set (List.mem_of_getElem? hb)) (dk_put okk.1.1 okk.1.2 hi hx h2)
              · have := putV_len kvs (keyOf k) ka v
                have := mil
                omega
            · cases e
  · cases e
section
variable {X : Cx} {E : XK} {e o i : Expr} {fe fo fi : FE} {pos : Pos}
def fSt (fe fo fi : FE) : FS := fun r m => (fe r m).toS fun x m1 => (fo r m1).toS fun o m2 => (fi r m2).toS fun i m3 => match stW o i x m3 with
  | some m4 => .next r m4
  | none => .bad
theorem ws_st {tpos : Pos} (hu : X.A.units + 65 < cLine) (he : WE X E e fe) (ho : WE X E o fo) (hi : WE X E i fi)
    (ha : ∀ v, assign (.Subscript o i tpos) X.env v = (do
      let ov ← holding [v] (eval o X.env)
      let iv ← holding [v, ov] (eval i X.env)
      standAt tpos
      holding [v, ov, iv] (setItem ov iv v)
      release [v, ov, iv] []) := by intro _; rfl)
    (hs : swapsWithSole [.Subscript o i tpos] e pos.line X.env = pure false := by rfl) (hw : swappedStores [.Subscript o i tpos] e X.env = pure none := by rfl)
    (h1 : (assignEach [.Subscript o i tpos] X.env).map (·.2) = [assign (.Subscript o i tpos) X.env] := by rfl) : WS X E (.Assign [.Subscript o i tpos] e pos) (fSt fe fo fi) := by
  refine ⟨fun pins s σ H D I ⟨Z, B, r, m, sl, so, q⟩ => (ps_asg he (pg_sub ho hi (set_st hu) ha) hs hw h1).run pins s σ H D I ⟨Z, B, r, m, sl, so, PostS.step q fun x m1 xv H1 B1 l1 s1 r1 q1 => ?_⟩⟩
  refine ⟨Z, B1, r, m1, sl.mono l1, s1, PostS.step q1 fun ow m2 ov H2 B2 l2 s2 r2 q2 => ?_⟩
  refine ⟨Z, B2, r, m2, sl.mono (l1.trans l2), s2, PostS.step q2 fun iw m3 iv H3 B3 l3 s3 r3 q3 => ?_⟩
  cases es : stW ow iw x m3 with
  | none => rw [es] at q3; exact q3.elim
  | some m4 =>
    rw [es] at q3
    exact ⟨Z, B3, m3, ow, iw, x, m4, s3, r2.mono l3, r3, r1.mono (l2.trans l3), es, fun H' l s => q3 σ H' B3 l s (sl.mono (l1.trans (l2.trans (l3.trans l))))⟩
/-- o[i], y = a pair -/
def fStNm (fe fo fi : FE) (j : Nat) : FS := fun r m => (fe r m).toS fun p m1 => match tupW p with
  | some [x, y] => (fo r m1).toS fun o m2 => (fi r m2).toS fun i m3 => match stW o i x m3 with
    | some m4 => .next (r.set j (some y)) m4
    | none => .bad
  | _ => .bad
theorem ws_stNm {tpos npos ppos : Pos} {kt : Nat} {y : Str} {j : Nat} (hc : X.calm = true) (hN : X.N.Nodup) (hj : X.N[j]? = some y) (hy : Loc X.env.scope y) (hu : X.A.units + 65 < cLine) (he : WE X E e fe) (ho : WE X E o fo) (hi : WE X E i fi)
    (hf : X.fn y = true ∨ X.env.scope.names.lookup y = some .local := by first | exact .inl rfl | exact .inr rfl | assumption)
    (ha : ∀ v, assign (.Subscript o i tpos) X.env v = (do
      let ov ← holding [v] (eval o X.env)
      let iv ← holding [v, ov] (eval i X.env)
      standAt tpos
      holding [v, ov, iv] (setItem ov iv v)
      release [v, ov, iv] []) := by intro _; rfl)
    (hs : swapsWithSole [.Tuple [.Subscript o i tpos, .Name y npos] kt ppos] e pos.line X.env = pure false := by rfl) (hw : swappedStores [.Tuple [.Subscript o i tpos, .Name y npos] kt ppos] e X.env = pure none := by rfl)
    (h1 : (assignEach [.Tuple [.Subscript o i tpos, .Name y npos] kt ppos] X.env).map (·.2) = [assign (.Tuple [.Subscript o i tpos, .Name y npos] kt ppos) X.env] := by rfl)
    (hs1 : (assignEach [.Subscript o i tpos, .Name y npos] X.env).map (·.2) = assign (.Subscript o i tpos) X.env :: (assignEach [.Name y npos] X.env).map (·.2) := by rfl)
    (hs2 : (assignEach [.Name y npos] X.env).map (·.2) = assign (.Name y npos) X.env :: (assignEach [] X.env).map (·.2) := by rfl)
    (hn : (assignEach [.Subscript o i tpos, .Name y npos] X.env).length = 2 := by rfl) (hst : (assignEach [.Subscript o i tpos, .Name y npos] X.env).findIdx? (·.1) = none := by rfl) :
    WS X E (.Assign [.Tuple [.Subscript o i tpos, .Name y npos] kt ppos] e pos) (fStNm fe fo fi j) := by
  refine ⟨fun pins s σ H D I ⟨Z, B, r, m, sl, so, q⟩ => (ps_asg he (pg_tup hc (pgs_cons (pg_sub ho hi (set_st hu) ha) (pgs_cons (pg_name hN hj hy hf) pgs_nil hs2) hs1) hn hst) hs hw h1).run pins s σ H D I ⟨Z, B, r, m, sl, so, PostS.step q fun p m1 xv H1 B1 l1 s1 r1 q1 => ?_⟩⟩
  try dsimp only at q1
  split at q1
  · rename_i x y ep
    obtain ⟨a, xs, rfl, h1, h2⟩ := tup_of r1 ep
    cases h2 with
    | @cons v1 _ _ _ w1 t2 => cases t2 with
      | @cons v2 _ _ _ w2 t3 => cases t3 with
        | nil =>
          refine ⟨a, _, rfl, h1.sq, rfl, v1, _, rfl, ?_⟩
          refine ⟨Z, B1, r, m1, sl.mono l1, s1, PostS.step q1 fun ow m2 ov H2 B2 l2 s2 r2 q2 => ?_⟩
          refine ⟨Z, B2, r, m2, sl.mono (l1.trans l2), s2, PostS.step q2 fun iw m3 iv H3 B3 l3 s3 r3 q3 => ?_⟩
          cases es : stW ow iw x m3 with
          | none => rw [es] at q3; exact q3.elim
          | some m4 =>
            rw [es] at q3
            exact ⟨Z, B3, m3, ow, iw, x, m4, s3, r2.mono l3, r3, w1.mono (l2.trans l3), es, fun H' l s => ⟨v2, _, rfl, rfl, q3 _ H' B3 l s ((sl.mono (l1.trans (l2.trans (l3.trans l)))).set (w2.mono (l2.trans (l3.trans l))))⟩⟩
  · exact q1.elim

/-! ### x += .. -/
def extW (x y : W) (m : Mu) : Option Mu := match x, y with
  | .loc n, .loc k => match m[n]?, m[k]? with
    | some (.lst xs), some (.lst ys) => if xs.length + ys.length ≤ 1000000 then some (m.set n (.lst (xs ++ ys))) else none
    | _, _ => none
  | _, _ => none
def fAugL (i : Nat) (fe : FE) : FS := fun r m => match r[i]? with
  | some (some w) => (fe r m).toS fun y m1 => match extW w y m1 with
    | some m2 => .next (r.set i (some w)) m2
    | none => .bad
  | _ => .bad
theorem ws_augL {i : Nat} {x : Str} {pos' : Pos} (hN : X.N.Nodup) (hi : X.N[i]? = some x) (hx : Loc X.env.scope x) (he : WE X E e fe) (hf : X.fn x = true ∨ X.env.scope.names.lookup x = some .local := by first | exact .inl rfl | exact .inr rfl | assumption) :
    WS X E (.AugAssign (.Name x pos') .Add e pos) (fAugL i fe) := by
  refine ⟨fun pins s σ H D I ⟨Z, B, r, m, sl, so, q⟩ => (ps_aug (op := .Add) hN hi hx he (iop_ext (X := X)) hf).run pins s σ H D I ?_⟩
  unfold fAugL at q
  split at q
  · rename_i w er
    obtain ⟨v, e1, wv⟩ := sl.at_ i w er
    refine ⟨v, e1, Z, B, r, m, sl, so, PostS.step q fun y m1 yv H1 B1 l1 s1 r1 q1 => ?_⟩
    have wv1 := wv.mono l1
    try dsimp only at q1
    cases es : extW w y m1 with
    | none => rw [es] at q1; exact q1.elim
    | some m2 =>
      rw [es] at q1
      unfold extW at es
      split at es
      · rename_i n k
        cases wv1 with
        | @loc _ a hb =>
          cases r1 with
          | @loc _ b hb2 =>
            obtain ⟨o1, e2, rr⟩ := s1.obj hb
            obtain ⟨o2, e3, rr2⟩ := s1.obj hb2
            rw [e2, e3] at es
            split at es
            · rename_i xs ys z1 z2
              cases z1
              cases z2
              split at es
              · rename_i z
                cases es
                obtain ⟨us, h1, h2⟩ := rr
                obtain ⟨us2, h3, h4⟩ := rr2
                have hm := mil
                refine ⟨a, b, us, us2, rfl, rfl, h1, h3, by rw [h2.length, h4.length]; omega, ?_⟩
                have le := le_set (B := B1) (H := H1) (o := .lst (us ++ us2)) (List.mem_of_getElem? hb)
                exact PostS.next (q1.mono le) (s1.set hb ⟨_, upd_same, DVs.mono le (h2.append h4)⟩) ((sl.mono (l1.trans le)).set (.loc hb))
              · cases es
            · cases es
      · cases es
  · exact q.elim
def fAugI (f : Int → Int → Int) (i : Nat) (fe : FE) : FS := fun r m => match r[i]? with
  | some (some (.d (.int a))) => (fe r m).toS fun y m1 => match y with
    | .d (.int b) => .next (r.set i (some (.d (.int (f a b))))) m1
    | _ => .bad
  | _ => .bad
theorem ws_augI {i : Nat} {x : Str} {pos' : Pos} {op : Operator} {f : Int → Int → Int} (ho : PIp X op (ipI f)) (hN : X.N.Nodup) (hi : X.N[i]? = some x) (hx : Loc X.env.scope x) (he : WE X E e fe) (hf : X.fn x = true ∨ X.env.scope.names.lookup x = some .local := by first | exact .inl rfl | exact .inr rfl | assumption) :
    WS X E (.AugAssign (.Name x pos') op e pos) (fAugI f i fe) := by
  refine ⟨fun pins s σ H D I ⟨Z, B, r, m, sl, so, q⟩ => (ps_aug hN hi hx he ho hf).run pins s σ H D I ?_⟩
  unfold fAugI at q
  split at q
  · rename_i a er
    obtain ⟨v, e1, wv⟩ := sl.at_ i _ er
    refine ⟨v, e1, Z, B, r, m, sl, so, PostS.step q fun y m1 yv H1 B1 l1 s1 r1 q1 => ?_⟩
    split at q1
    · rename_i b
      cases wv with
      | d wv => cases r1 with
        | d r1 => exact ⟨a, b, int_inv wv, int_inv r1, PostS.next q1 s1 ((sl.mono l1).set (.d (.int _)))⟩
    · exact q1.elim
  · exact q.elim

/-! ### o.append(x) -/
def appW (o x : W) (m : Mu) : Option Mu := match o, x with
  | .loc n, .d y => match m[n]? with
    | some (.lst ds) => if ds.length < 1000000 then some (m.set n (.lst (ds ++ [y]))) else none
    | _ => none
  | _, _ => none
def fApp (fo : FE) (fa : FA) : FE := fun r m => (fo r m).bind fun o m1 => match o with
  | .loc n => match m1[n]? with
    | some (.lst _) => (fa r m1).bind fun ws m2 => match ws with
      | [x] => match appW (.loc n) x m2 with
        | some m3 => .ok (.d .none) m3
        | none => .bad
      | _ => .bad
    | _ => .bad
  | _ => .bad
theorem we_app {apos cpos : Pos} {es : List Expr} {fa : FA} (ho : WE X E o fo) (ha : WA X E (e :: es) fa)
    (hbase : attributeBase o "append" X.env (eval o X.env) = eval o X.env := by rfl)
    (hfew : ((backTo cpos (starEach (e :: es) X.env)).all (fun x => !x.1) && (backToKw cpos (keywordEach [] X.env)).all (fun x => x.1.isSome)
      && decide ((e :: es).length + ([] : List Keyword).length + (if ([] : List Keyword).isEmpty then 0 else 1) < 30)) = true := by rfl)
    (hline : (apos.endLine == cpos.line) = true := by rfl) (hs : starEach (e :: es) X.env = (false, eval e X.env) :: starEach es X.env := by rfl) (hplain : (backTo cpos (starEach es X.env)).any (·.1) = false := by rfl) :
    WE X E (.Call (.Attribute o "append" apos) (e :: es) [] cpos) (fApp fo fa) := by
  refine ⟨fun pins s σ H Q I ⟨Z, B, r, m, sl, so, q⟩ => (pe_bm PySem.F.plainAttrs_list PySem.F.slot_list_append PySem.F.type_list_append (show MtR X _ rAppend from mt_append) ho ha hbase hfew hline hs hplain).run pins s σ H Q I ?_⟩
  refine ⟨Z, B, r, m, sl, so, q.step fun ow m1 ov H1 B1 l1 s1 r1 q1 => ?_⟩
  split at q1
  · rename_i n
    cases r1 with
    | @loc _ a hb =>
      cases em : m1[n]? with
      | none =>
        exfalso
        obtain ⟨ob, e1, rr⟩ := s1.obj hb
        rw [em] at e1
        cases e1
      | some ob =>
        obtain ⟨ob2, e1, rr⟩ := s1.obj hb
        rw [em] at e1
        cases e1
        cases ob with
        | dct _ =>
          rw [em] at q1
          exact q1.elim
        | lst ds =>
          rw [em] at q1
          obtain ⟨xs, h1, h2⟩ := rr
          refine ⟨.inl ⟨rfl, _, SqL.of h1⟩, ?_⟩
          refine ⟨Z, B1, r, m1, sl.mono l1, s1, q1.step fun ws m2 vs H2 B2 l2 s2 r2 q2 => ?_⟩
          split at q2
          · rename_i x
            cases r2 with
            | cons r2 t2 => cases t2 with
              | nil =>
                rename_i vv
                cases ea : appW (.loc n) x m2 with
                | none => rw [ea] at q2; exact q2.elim
                | some m3 =>
                  rw [ea] at q2
                  unfold appW at ea
                  split at ea
                  · rename_i k y ek
                    cases ek
                    have hb2 : B2[n]? = some a := by
                      obtain ⟨C, rfl, _⟩ := l2.ext
                      rw [List.getElem?_append_left (List.getElem?_eq_some_iff.mp hb).1]; exact hb
                    obtain ⟨ob, e5, rr⟩ := s2.obj hb2
                    rw [e5] at ea
                    split at ea
                    · rename_i ds2 z
                      cases z
                      split at ea
                      · rename_i z
                        cases ea
                        obtain ⟨us, h5, h6⟩ := rr
                        cases r2 with
                        | d r2 =>
                          have hm := mil
                          refine ⟨a, us, _, rfl, rfl, h5, by rw [h6.length]; omega, ?_⟩
                          have le := le_set (B := B2) (H := H2) (o := .lst (us ++ [vv])) (List.mem_of_getElem? hb2)
                          exact (q2.mono le).done (s2.set hb2 ⟨_, upd_same, DVs.mono le (h6.append (.cons r2 .nil))⟩) (.d .non)
                      · cases ea
                    · cases ea
                  · cases ea
          · exact q2.elim
  · exact q1.elim
end
end Wy

set_option Elab.async false
set_option linter.all false
set_option maxRecDepth 100000
set_option maxHeartbeats 4000000
/-! W12: a def as a function. -/
namespace Wy
open PySem PySem.Spec PyProof.Rows L2

mutual
/-- a value as it leaves the def: what the def has made is data from here on -/
def frzW (base : Nat) (m : Mu) : W → Option W
  | .d x => some (.d x)
  | .loc n => if n < base then some (.loc n) else (dr m (.loc n)).map .d
  | .wt ws => (frzWs base m ws).map mkT
def frzWs (base : Nat) (m : Mu) : List W → Option (List W)
  | [] => some []
  | w :: ws => (frzW base m w).bind fun x => (frzWs base m ws).map fun xs => x :: xs
end
section
variable {p : Pl} {H H' : Hp} {B B' : List Addr} {m m' : Mu}
theorem Le.pre (l : Le B H B' H') {n : Nat} (h : n < B.length) : B'[n]? = B[n]? := by
  obtain ⟨C, rfl, _⟩ := l.ext
  rw [List.getElem?_append_left h]
theorem Le.subB (l : Le B H B' H') : Sub p B p B' := .b fun b h => by
  obtain ⟨C, rfl, _⟩ := l.ext
  exact List.mem_append_left _ h
theorem ObR.sub' {a : Addr} {o : Ob} (s : Sub p B p B') (h : ObR p H B' a o) : ObR p H B a o := by
  cases o with
  | lst ds => obtain ⟨xs, h, d⟩ := h; exact ⟨xs, h, d.sub s⟩
  | dct ds => obtain ⟨xs, h, d, z⟩ := h; exact ⟨xs, h, d.sub s, z⟩
theorem Le.cut (l : Le B H B' H') : Le B H B H' := by
  refine ⟨fun a o h n e => l.keep a o h n e, l.trk, [], by simp, fun _ h => nomatch h⟩
theorem So.cut (l : Le B H B' H') (s : So p H' B' m') : So p H' B (m'.take B.length) := by
  obtain ⟨C, e, _⟩ := l.ext
  have hl : B.length ≤ m'.length := by rw [← s.len, e, List.length_append]; omega
  refine ⟨by rw [List.length_take]; omega, ?_, fun a h => ⟨(s.hid a h).1, fun z => (s.hid a h).2 (by rw [e]; exact List.mem_append_left _ z)⟩, fun n a o h1 h2 => ?_⟩
  · have := s.nd
    rw [e] at this
    exact (List.nodup_append.mp this).1
  · have hn := (List.getElem?_eq_some_iff.mp h1).1
    rw [List.getElem?_take_of_lt hn] at h2
    exact (s.ob n a o (by rw [l.pre hn]; exact h1) h2).sub' l.subB
theorem made_out (l : Le B H B' H') (s : So p H' B' m') {n : Nat} {a : Addr} (h : B'[n]? = some a) (hn : B.length ≤ n) : Off p B a := by
  obtain ⟨C, e, _⟩ := l.ext
  refine ⟨fun z => ?_, fun z => (s.hid a z).2 (List.mem_of_getElem? h)⟩
  have nd := s.nd
  rw [e] at nd h
  rw [List.getElem?_append_right hn] at h
  exact (List.nodup_append.mp nd).2.2 a z a (List.mem_of_getElem? h) rfl
mutual
theorem frz_ok (l : Le B H B' H') (s : So p H' B' m') : ∀ {v : V} {w w' : W}, WV p H' B' v w → frzW B.length m' w = some w' → WV p H' B v w'
  | _, _, _, .d h, e => by
    rw [frzW] at e
    cases e
    exact .d (h.sub l.subB)
  | _, _, w', .loc (n := n) (a := a) h, e => by
    rw [frzW] at e
    by_cases z : n < B.length
    · rw [if_pos z] at e
      cases e
      exact .loc (by rw [← l.pre z]; exact h)
    · rw [if_neg z] at e
      obtain ⟨x, e1, e2⟩ := Option.map_eq_some_iff.mp e
      subst e2
      obtain ⟨o, e3, r⟩ := s.obj h
      have off := made_out l s h (by omega)
      have e1 : (match m'[n]? with | some (.lst ds) => some (PyData.list ds) | some (.dct es) => some (.dict es) | none => none) = some x := e1
      rw [e3] at e1
      cases o with
      | lst ds =>
        cases e1
        obtain ⟨xs, h1, h2⟩ := r
        exact .d (.lst ⟨off, .inl h1⟩ (h2.sub l.subB))
      | dct es =>
        cases e1
        obtain ⟨kvs, h1, h2, h3, h4⟩ := r
        exact .d (.dct off (.inl h1) (h2.sub l.subB) h3 h4.1 h4.2)
  | _, _, w', .wt h r, e => by
    rw [frzW] at e
    obtain ⟨xs, e1, e2⟩ := Option.map_eq_some_iff.mp e
    subst e2
    exact .mkT (h.sub l.subB) (frzs_ok l s r e1)
theorem frzs_ok (l : Le B H B' H') (s : So p H' B' m') : ∀ {v : List V} {w w' : List W}, WVs p H' B' v w → frzWs B.length m' w = some w' → WVs p H' B v w'
  | _, _, _, .nil, e => by
    rw [frzWs] at e
    cases e
    exact .nil
  | _, _, _, .cons h t, e => by
    rw [frzWs] at e
    obtain ⟨x, e1, e2⟩ := Option.bind_eq_some_iff.mp e
    obtain ⟨xs, e3, e4⟩ := Option.map_eq_some_iff.mp e2
    subst e4
    exact .cons (frz_ok l s h e1) (frzs_ok l s t e3)
end
end
/-- a value leaves the def (keep: what it has made may be changed still) -/
def finW (keep : Bool) (base : Nat) (w : W) (m : Mu) : R W := match keep, w with
  | true, .loc n => if n < base then .ok (.loc n) (m.take base) else match m[n]? with
    | some o => .ok (.loc base) (m.take base ++ [o])
    | none => .bad
  | _, w => match frzW base m w with
    | some w' => .ok w' (m.take base)
    | none => .bad
def startR (n : Nat) (ws : List W) : Rh := ws.map some ++ List.replicate (n - ws.length) none
def fnF (n : Nat) (fs : FS) : Fn := fun ws m => match fs (startR n ws) m with
  | .next _ m' => .ok (.d .none) (m'.take m.length)
  | .ret keep w m' => finW keep m.length w m'
  | .exn x m' => .exn x (m'.take m.length)
  | _ => .bad
theorem fin_ok {p : Pl} {E : XK} {B B' : List Addr} {H H' : Hp} {m m' : Mu} {keep : Bool} {w : W} {v : V} {Q : VK} (so : So p H B m) (q : PostE p E B H (finW keep m.length w m') Q) (l : Le B H B' H') (s : So p H' B' m') (hv : WV p H' B' v w) : Q v H' := by
  rw [← so.len] at q
  have go : PostE p E B H (match frzW B.length m' w with | some w' => .ok w' (m'.take B.length) | none => .bad) Q → Q v H' := fun q => by
    cases e : frzW B.length m' w with
    | none => rw [e] at q; exact q.elim
    | some w' =>
      rw [e] at q
      exact q v H' B l.cut (s.cut l) (frz_ok l s hv e)
  cases keep with
  | false => exact go q
  | true =>
    cases w with
    | d x => exact go q
    | wt ws => exact go q
    | loc n =>
      replace q : PostE p E B H (if n < B.length then .ok (.loc n) (m'.take B.length) else match m'[n]? with | some o => .ok (.loc B.length) (m'.take B.length ++ [o]) | none => .bad) Q := q
      by_cases z : n < B.length
      · rw [if_pos z] at q
        cases hv with
        | loc h => exact q _ H' B l.cut (s.cut l) (.loc (by rw [← l.pre z]; exact h))
      · rw [if_neg z] at q
        cases hv with
        | @loc _ a h =>
          obtain ⟨o, e, r⟩ := s.obj h
          rw [e] at q
          have off := made_out l s h (by omega)
          have sc := s.cut l
          have sb : Sub p (B ++ [a]) p B' := .b fun b hb => by
            obtain ⟨C, eC, _⟩ := l.ext
            rcases List.mem_append.mp hb with hb | hb
            · rw [eC]; exact List.mem_append_left _ hb
            · rw [show b = a by simpa using hb]; exact List.mem_of_getElem? h
          refine q _ H' (B ++ [a]) ⟨l.keep, l.trk, [a], rfl, fun b hb => ?_⟩ ⟨?_, ?_, ?_, ?_⟩ (.loc (by simp))
          · obtain ⟨C, eC, hC⟩ := l.ext
            rw [show b = a by simpa using hb]
            rw [eC, List.getElem?_append_right (by omega)] at h
            exact hC a (List.mem_of_getElem? h)
          · have := sc.len
            rw [List.length_append, List.length_append]
            simp only [List.length_singleton]
            omega
          · rw [List.nodup_append]
            refine ⟨sc.nd, by simp, fun x hx y hy e => ?_⟩
            rw [show y = a by simpa using hy] at e
            exact off.1 (e ▸ hx)
          · intro b hb
            refine ⟨(s.hid b hb).1, fun z => ?_⟩
            rcases List.mem_append.mp z with z | z
            · exact (sc.hid b hb).2 z
            · rw [show b = a by simpa using z] at hb
              exact off.2 hb
          · intro k b x h1 h2
            by_cases zk : k < B.length
            · rw [List.getElem?_append_left zk] at h1
              rw [List.getElem?_append_left (by rw [← sc.len]; exact zk), List.getElem?_take_of_lt zk] at h2
              exact (s.ob k b x (by rw [l.pre zk]; exact h1) h2).sub' sb
            · rw [List.getElem?_append_right (by omega)] at h1
              rw [List.getElem?_append_right (by rw [← sc.len]; omega), ← sc.len] at h2
              have hz : k - B.length = 0 := by
                have := (List.getElem?_eq_some_iff.mp h1).1
                simp at this; omega
              rw [hz] at h1 h2
              simp at h1 h2
              subst h1; subst h2
              exact r.sub' sb
theorem sl_start {p : Pl} {H : Hp} {B : List Addr} {N : List Str} {vs : List V} {ws : List W} (h : WVs p H B vs ws) : Sl p H B (start N vs) (startR N.length ws) := by
  have go : ∀ {vs : List V} {ws : List W} (n : Nat), WVs p H B vs ws → ∀ (i : Nat) (x : W), (ws.map some ++ List.replicate n none)[i]? = some (some x) → ∃ v, (vs.map some ++ List.replicate n none)[i]? = some (some v) ∧ WV p H B v x := by
    intro vs
    induction vs with
    | nil =>
      intro ws n h i x e
      cases h
      simp only [List.map_nil, List.nil_append] at e
      exact absurd (List.mem_of_getElem? e) (by simp)
    | cons v vs ih =>
      intro ws n h i x e
      cases h with
      | cons h t =>
        cases i with
        | zero =>
          simp at e
          subst e
          exact ⟨v, by simp, h⟩
        | succ i =>
          obtain ⟨u, a, b⟩ := ih n t i x (by simpa using e)
          exact ⟨u, by simpa using a, b⟩
  refine ⟨?_, fun i x e => ?_⟩
  · simp [L2.start, startR, h.length]
  · unfold L2.start startR at *
    rw [h.length]
    exact go _ h i x e
abbrev FnP (K : PySem.W.Frag) (x : Str) (st : Stmt) (f : Addr) (fd : FuncData) : Prop := FunD K x x (defArgs st) (defBody st) (defScope st) [] [] f fd
/-- a def, by its body's function -/
theorem fn_ok {P : Program} {w : World} {K : PySem.W.Frag} {mg : Str → Option Value} {base : Heap} {x : Str} {st : Stmt} {f : Addr} {fd : FuncData} {N ps : List Str} {k : Nat} {fs : FS} (n : Nat) (l : Nat) (F : FnP K x st f fd) (S : FnScope N ps (defScope st)) (hn : ps.length = n) (hl : N.length = l)
    (hb : ∀ (cdv : Value) (A : Around) (outer : List Env) (s : Shared) (H : Hp) (E : XK), Room k (A.deeper (envOfC x (defScope st) s.heap.objs.size f cdv)) →
      WSs (cxOf (L2.CX P w) P w K mg base N x (defScope st) f cdv A outer s H E) E (defBody st) fs) : FnOk P w K mg base (L2.CX P w) (k + 1) f fd ps (spW P w K mg n (fnF l fs)) := by
  subst hn hl
  refine F.ok S (fun vs H Q E h => h.1) fun cdv A outer s H vs Q E hr h => ⟨_, hb cdv A outer s H E hr, ?_⟩
  obtain ⟨_, Z, B, m, ws, so, wv, q⟩ := h
  refine ⟨Z, B, startR N.length ws, m, sl_start wv, so, ?_⟩
  unfold fnF at q
  cases e : fs (startR N.length ws) m with
  | next r m' =>
    rw [e] at q
    intro σ' H' B' l s sl
    have q' := q .non H' B l.cut
    rw [← so.len] at q'
    exact q' (s.cut l) (.d .non)
  | ret keep x m' =>
    rw [e] at q
    intro v H' B' l s hv
    exact fin_ok so q l s hv
  | brk r m' => rw [e] at q; exact q.elim
  | cnt r m' => rw [e] at q; exact q.elim
  | exn x m' =>
    rw [e] at q
    intro cls d H' B' l s hx
    have q' := q cls d H' B l.cut
    rw [← so.len] at q'
    exact q' (s.cut l) hx
  | bad => rw [e] at q; exact q.elim
/-! ### in a def's body -/
section
variable {P : Program} {w : World} {K : PySem.W.Frag} {mg : Str → Option Value} {base : Heap} {N : List Str} {qual : Str} {scope : Scope} {f : Addr} {cdv : Value} {A : Around} {outer : List Env} {s : Shared} {H : Hp} {E : XK}
theorem own_of : PassesOwn (model P w) (cxOf (L2.CX P w) P w K mg base N qual scope f cdv A outer s H E).A (cxOf (L2.CX P w) P w K mg base N qual scope f cdv A outer s H E).env (cxOf (L2.CX P w) P w K mg base N qual scope f cdv A outer s H E).xe := passes_of rfl
theorem tk_of : Takes (cxOf (L2.CX P w) P w K mg base N qual scope f cdv A outer s H E) (fun cls d _ H => E cls d H) := takes_of rfl rfl rfl rfl
theorem pass_of : Passes (L2.CX P w) (cxOf (L2.CX P w) P w K mg base N qual scope f cdv A outer s H E) E := passes_call tk_of fun _ _ _ _ h => h
end
end Wy

set_option Elab.async false
set_option linter.all false
set_option maxRecDepth 100000
set_option maxHeartbeats 4000000
/-! W13: calls by names; constants of the top; a list many times; raise; comprehensions of two. -/
namespace Wy
open PySem PySem.Spec PyProof.Rows L2

/-- what is known of a def behind the top -/
structure Cal (P : Program) (w : World) (K : PySem.W.Frag) (mg : Str → Option Value) (base : Heap) (k n : Nat) (x : Str) (F : Fn) : Prop where
  ex : ∃ (f : Addr) (fd : FuncData) (ps : List Str), FnOk P w K mg base (L2.CX P w) k f fd ps (spW P w K mg n F) ∧ mg x = some (.ref f) ∧ PySem.W.keepIn K (.ref f) = true ∧ Binds K fd ps []
section
variable {X : Cx} {E : XK} {e : Expr} {es : List Expr} {pos : Pos}
theorem we_callC {k n : Nat} {F : Fn} {x : Str} {p : Pos} {fs : FA} (C : Cal X.prog X.w X.K X.mg X.base k n x F) (hr : Room k X.A) (hg : Gl X x)
    (hx : Passes (L2.CX X.prog X.w) X E) (ha : WA X E (e :: es) fs) (hdb : (x == ("__debug__" : Str)) = false := by decide) (he : starEach (e :: es) X.env = (false, eval e X.env) :: starEach es X.env := by rfl) (hpl : (backTo pos (starEach es X.env)).any (·.1) = false := by rfl) :
    WE X E (.Call (.Name x p) (e :: es) [] pos) (fCall n F fs) := by
  obtain ⟨f, fd, ps, h1, h2, h3, h4⟩ := C.ex
  exact we_call h1 hr hg h2 h3 h4 hx ha hdb he hpl
theorem we_callC0 {k : Nat} {F : Fn} {x : Str} {p : Pos} (C : Cal X.prog X.w X.K X.mg X.base k 0 x F) (hr : Room k X.A) (hg : Gl X x)
    (hx : Passes (L2.CX X.prog X.w) X E) (hdb : (x == ("__debug__" : Str)) = false := by decide) : WE X E (.Call (.Name x p) [] [] pos) (fCall 0 F fNil) := by
  obtain ⟨f, fd, ps, h1, h2, h3, h4⟩ := C.ex
  exact we_call0 h1 hr hg h2 h3 h4 hx hdb
/-- a constant of the top -/
structure Glo (K : PySem.W.Frag) (mg : Str → Option Value) (x : Str) (d : PyData) : Prop where
  ex : ∃ (v : V) (u : Value), mg x = some u ∧ RelV v u ∧ ∀ (P : Program) (w : World) (Z : List Addr) (H : Hp) (B : List Addr), DV ⟨P, w, K, mg, Z⟩ H B v d
theorem we_glo {x : Str} {d : PyData} (g : Glo X.K X.mg x d) (hg : Gl X x) (hd : (x == ("__debug__" : Str)) = false := by decide) : WE X E (.Name x pos) (fC d) := by
  obtain ⟨v, u, h1, h2, h3⟩ := g.ex
  exact we_cst (pe_glob hg h1 h2 hd) fun Z H B => h3 _ _ _ _ _
/-! ### a list many times -/
def gMul (a b : W) (m : Mu) : R W := match a with
  | .loc n => match m[n]?, b with
    | some (.lst ds), .d (.int k) => if k ≤ 1000 ∧ -1000 ≤ k ∧ ds.length ≤ 1000 then .ok (.d (.list (List.replicate k.toNat ds).flatten)) m else .bad
    | _, _ => .bad
  | a => gMulI a b m
theorem ow_mul : OpW X E (binaryOp .Mult) gMul := by
  rintro pins s σ H x y v u Q I rx ry ⟨Z, B, m, a, b, so, ha, hb, q⟩
  unfold gMul at q
  split at q
  · rename_i n
    split at q
    · rename_i ds k em
      split at q
      · rename_i z
        cases ha with
        | @loc _ a h =>
          obtain ⟨o, e, r⟩ := so.obj h
          rw [em] at e
          cases e
          obtain ⟨xs, h1, h2⟩ := r
          cases hb with
          | d hb =>
            have hm := mil
            have hk : k.toNat ≤ 1000 := by omega
            have hl : xs.length * k.toNat ≤ 1000000 := by
              rw [h2.length]
              calc ds.length * k.toNat ≤ 1000 * 1000 := Nat.mul_le_mul z.2.2 hk
                _ = 1000000 := rfl
            refine op_rep pins s σ H _ y v u Q I rx ry ⟨a, k, xs, rfl, int_inv hb, h1, by omega, by omega, by omega, fun p hp => ?_⟩
            have go : ∀ j : Nat, DVs (plX X Z) H B (List.replicate j xs).flatten (List.replicate j ds).flatten := by
              intro j
              induction j with
              | zero => exact .nil
              | succ j ih =>
                rw [List.replicate_succ, List.replicate_succ, List.flatten_cons, List.flatten_cons]
                exact h2.append ih
            exact Post.fresh q so hp (.d (DV.topL so hp (go _)))
      · exact q.elim
    · exact q.elim
  · exact ow_mulI pins s σ H x y v u Q I rx ry ⟨Z, B, m, a, b, so, ha, hb, q⟩
/-! ### raise -/
def fRaise (c : Str) : FS := fun _ m => .exn ⟨c, none⟩ m
/-- an error's class behind the top -/
structure Ecl (K : PySem.W.Frag) (mg : Str → Option Value) (x : Str) : Prop where
  ex : ∃ (C : Addr) (bmB : List Value) (Bn newId initId : String), ExcBaseFacts Bn newId initId bmB ∧ PySem.W.excIn K C bmB newId = true ∧ mg x = some (.ref C) ∧ PySem.W.keepIn K (.ref C) = true ∧
    PySem.W.subIn K (.ref C) (.type "BaseException") = some true ∧ PySem.W.typeIn K (.ref C) = some (.type "type")
theorem ws_raise {x m : Str} {j : Nat} {p p2 p3 : Pos} (g : Ecl X.K X.mg x) (hc : X.calm = true) (tk : Takes X (fun cls d _ H => E cls d H)) (hg : Gl X x) (hdb : (x == ("__debug__" : Str)) = false := by decide) :
    WS X E (.Raise (some (.Call (.Name x p) [.Constant (.str m) j p2] [] p3)) none pos) (fRaise x) := by
  obtain ⟨C, bmB, Bn, newId, initId, h1, h2, h3, h4, h5, h6⟩ := g.ex
  exact ⟨fun pins s σ H D I ⟨Z, B, r, μ, sl, so, q⟩ => (ps_raise hc tk (pmk_own h1 h2 h3 h4 (raises_own h5 h6) hg hdb)).run pins s σ H D I (q (.ref C) none H B Le.refl so ⟨⟨C, h3, rfl⟩, rfl⟩)⟩
end
end Wy

set_option Elab.async false
set_option linter.all false
set_option maxRecDepth 100000
set_option maxHeartbeats 4000000
/-! W14: more tests; comprehensions of two. -/
namespace Wy
open PySem PySem.Spec PyProof.Rows L2
section
variable {X : Cx} {E : XK} {e a b c : Expr} {fa fb fc f : FE} {pos : Pos}
def tOfB (f : FE) : FT := fTb f
theorem wt_isN {j p} (h : WE X E e f) : WT X E (.Compare e [.Is] [.Constant .none j p] pos) (fTb (fIsN f)) := ⟨fun pins s σ H Q I ⟨Z, B, r, m, sl, so, q⟩ => (pt_cmp (pc_isN h) rfl).run pins s σ H Q I (by
  unfold fTb fIsN at q
  refine ⟨Z, B, r, m, sl, so, ?_⟩
  cases ef : f r m with
  | bad => rw [ef] at q; exact q.elim
  | exn x m1 => rw [ef] at q; exact q
  | ok w m1 =>
    rw [ef] at q
    intro v H' B' l s r1
    refine ⟨_, rfl, ?_⟩
    have q' : Post (RT (plX X Z)) (plX X Z) E B H (.ok (isNon w) m1) Q := q
    rw [isNon_of r1]
    exact q' _ H' B' l s rfl)⟩
theorem wt_notN {j p} (h : WE X E e f) : WT X E (.Compare e [.IsNot] [.Constant .none j p] pos) (fTb (fNotN f)) := ⟨fun pins s σ H Q I ⟨Z, B, r, m, sl, so, q⟩ => (pt_cmp (pc_notN h) rfl).run pins s σ H Q I (by
  unfold fTb fNotN at q
  refine ⟨Z, B, r, m, sl, so, ?_⟩
  cases ef : f r m with
  | bad => rw [ef] at q; exact q.elim
  | exn x m1 => rw [ef] at q; exact q
  | ok w m1 =>
    rw [ef] at q
    intro v H' B' l s r1
    refine ⟨_, rfl, ?_⟩
    have q' : Post (RT (plX X Z)) (plX X Z) E B H (.ok (!isNon w) m1) Q := q
    rw [isNon_of r1]
    exact q' _ H' B' l s rfl)⟩
theorem chain_read {g g' : W → W → Mu → R W} {σ : Xs} {H : Hp} {Q : VK} (h : rd RE X E (fChain g g' fa fb fc) σ H Q) : tChain (fun x y H Q => ∃ Z B m a b, So (plX X Z) H B m ∧ WV (plX X Z) H B x a ∧ WV (plX X Z) H B y b ∧ PostE (plX X Z) E B H (g a b m) Q)
    (fun x y H Q => ∃ Z B m a b, So (plX X Z) H B m ∧ WV (plX X Z) H B x a ∧ WV (plX X Z) H B y b ∧ PostE (plX X Z) E B H (g' a b m) Q) (rd RE X E fa) (rd RE X E fb) (rd RE X E fc) σ H Q := by
  obtain ⟨Z, B, r, m, sl, so, q⟩ := h
  exact ⟨Z, B, r, m, sl, so, q.step fun wa m1 x H1 B1 l1 s1 r1 q1 => ⟨Z, B1, r, m1, sl.mono l1, s1, q1.step fun wb m2 y H2 B2 l2 s2 r2 q2 => ⟨Z, B2, m2, wa, wb, s2, r1.mono l2, r2, q2.step fun k m3 z H3 B3 l3 s3 r3 q3 => by
      split at q3
      · have e := bl_inv r3
        refine ⟨true, e, ?_⟩
        rw [if_pos rfl]
        exact ⟨Z, B3, r, m3, sl.mono (l1.trans (l2.trans l3)), s3, q3.step fun wc m4 y4 H4 B4 l4 s4 r4 q4 => ⟨Z, B4, m4, wb, wc, s4, r2.mono (l3.trans l4), r4, q4⟩⟩
      · have e := bl_inv r3
        refine ⟨false, e, ?_⟩
        rw [if_neg Bool.false_ne_true]
        exact Post.done q3 s3 (.d (.bl _))
      · exact q3.elim⟩⟩⟩
theorem wt_chain {op op' : CmpOp} {g g' : W → W → Mu → R W} (ho : OpW X E (compareOp op) g) (ho' : OpW X E (compareOp op') g') (ha : WE X E a fa) (hb : WE X E b fb) (hc : WE X E c fc)
    (hm : lastMarks [op, op'] [b, c] = false := by with_unfolding_all rfl) : WT X E (.Compare a [op, op'] [b, c] pos) (fTb (fChain g g' fa fb fc)) :=
  ⟨fun pins s σ H Q I ⟨Z, B, r, m, sl, so, q⟩ => (pt_chain ho ho' ha hb hc hm).run pins s σ H Q I (chain_read ⟨Z, B, r, m, sl, so, Post.step q fun w m1 v H1 B1 l1 s1 r1 q1 => by
    split at q1
    · exact ⟨_, bl_inv r1, Post.done (RelG := RT (plX X Z)) q1 s1 rfl⟩
    · exact q1.elim⟩)⟩
end
/-! ### [.. for .. for ..] -/
section
variable {X : Cx} {E : XK} {elt tg iter tg1 iter1 : Expr} {ifs ifs1 : List Expr} {scope : Scope} {own : List (Str × Nat)} {pos : Pos} {fi fi1 : FI} {pt pt1 : Pat} {ft ft1 : FT} {fe : FE} {vs1 : List Nat}
theorem comp2_read {σ : Xs} {H : Hp} {Qd : V → Hp → Prop} {vs vs1 : List Nat} {g : R (List PyData) → R W} (hpt : patIn vs pt = true) (hpt1 : patIn vs1 pt1 = true)
    (h : ∃ Z B r m, Sl (plX X Z) H B σ r ∧ So (plX X Z) H B m ∧ PostE (plX X Z) E B H ((fi r m).bind fun its m1 => g (compF its.src (fun w => patF pt w (wipeR r vs)) (bodyF2 ft fi1 pt1 vs1 ft1 fe) its.items [] m1)) Qd)
    (hg1 : g .bad = .bad) (hg2 : ∀ x m, g (.exn x m) = .bad)
    (hg3 : ∀ Z B1 H1 D acc m B H0 m1, So (plX X Z) H1 B1 m1 → H1 D = none → CW (plX X Z) B1 H1 D acc m B H0 → PostE (plX X Z) E B1 H1 (g (.ok acc m)) Qd → Qd (.ref D) H0) :
    tLc2 (rd RI X E fi) (patG X.K pt) (rd RT X E0 ft) (rd RI X E0 fi1) (patG X.K pt1) (rd RT X E0 ft1) (rd RE X E0 fe) vs vs1 σ H Qd := by
  obtain ⟨Z, B, r, m, sl, so, q⟩ := h
  refine ⟨Z, B, r, m, sl, so, q.step fun its m1 J H1 B1 l1 s1 itok q1 => fun D hD => ?_⟩
  have hb : ¬ PostE (plX X Z) E B1 H1 (g .bad) Qd := by rw [hg1]; exact fun z => z
  have hx : ∀ x m, ¬ PostE (plX X Z) E B1 H1 (g (.exn x m)) Qd := fun x m => by rw [hg2]; exact fun z => z
  have kid : ∀ x : R (List PyData), x.bind (fun a m => .ok a m) = x := fun x => by cases x <;> rfl
  have asc : ∀ {α β γ : Type} (x : R α) (f : α → Mu → R β) (g : β → Mu → R γ), (x.bind f).bind g = x.bind fun a m => (f a m).bind g := fun x f g => by cases x <;> rfl
  have hDH : H D = none := Classical.byContradiction fun e => l1.trk D e hD
  have hokD : ∀ (B' : List Addr) (H' : Hp) (xs : HO), Le B1 H1 B' H' → H' D ≠ none → Le B1 H1 B' (upd H' D xs) := by
    intro B' H' xs o hn
    refine ⟨fun a o' ha hk rr => ?_, fun a ha => ?_, o.ext⟩
    · have ne : a ≠ D := fun e => by subst e; rw [hD] at rr; cases rr
      rw [upd_ne ne]
      exact o.keep a o' ha hk rr
    · by_cases e : a = D
      · subst e; rw [upd_same]; exact fun z => nomatch z
      · rw [upd_ne e]; exact o.trk a ha
  refine comp_walk (K := Unit) (P := fun x => PostE (plX X Z) E B1 H1 (g x) Qd) (k := fun a m => .ok a m) (asg := fun w => patF pt w (wipeR r vs)) (body := bodyF2 ft fi1 pt1 vs1 ft1 fe) itok hD (fun _ _ _ => trivial)
    (fun x H' Nx => patG X.K pt x (wipe σ vs) H' fun σ2 H2 => wipe σ2 vs = wipe σ vs ∧ rd RT X E0 ft σ2 H2 fun b H3 =>
      if b = true then rd RI X E0 fi1 σ2 H3 fun J1 H4 => ∃ W1 : Nat → Nat → Hp → Prop, (∃ m, W1 0 m H4) ∧ ∀ j k H, W1 j k H →
        (J1.stop j H ∧ Nx H) ∨ (J1.go j H ∧ ∃ Nx1 : Hp → Prop, (∀ H', Nx1 H' → ∃ k', k' < k ∧ W1 (j + 1) k' H') ∧ ∀ x H', J1.yld j H x H' → patG X.K pt1 x (wipe σ2 vs1) H' fun σ3 H5 => wipe σ3 vs1 = wipe σ2 vs1 ∧ rd RT X E0 ft1 σ3 H5 fun b H6 =>
          if b = true then rd RE X E0 fe σ3 H6 fun y H7 => ∃ acc, H7 D = some (.lst acc) ∧ acc.length < sizeLine ∧ Nx1 (upd H7 D (.lst (acc ++ [y]))) else Nx1 H6)
      else Nx H3) hb (fun B' H' => Le B1 H1 B' H') (fun B H B' H' o l _ => o.trans l) (fun B' H' xs o hn => hokD B' H' xs o hn) (fun B' H' o => ⟨o.z, hid_new hD⟩) [] m1 B1 _ (CW.new s1 hD) (le_laid hD) (by rw [kid]; exact q1) ?_ ?_
  · intro i w x acc m2 B2 H2 r2 k' Nx c o wv ea q2 nx
    have sl2 : Sl (plX X (D :: Z)) H2 B2 (wipe σ vs) (wipeR r vs) := by
      refine Sl.wipe ⟨sl.len, fun j y e => ?_⟩ vs
      obtain ⟨v, e1, e2⟩ := sl.at_ j y e
      exact ⟨v, e1, WV.mz (l1.trans o).z (hid_new hDH) e2⟩
    refine pat_ok (p := plX X (D :: Z)) (vs := vs) pt hpt sl2 wv ea fun σ' sl' hw => ⟨by rw [hw, wipe_wipe], ?_⟩
    refine ⟨D :: Z, B2, r2, m2, sl', c.so, ?_⟩
    unfold bodyF2 at q2
    cases e1 : ft r2 m2 with
    | bad => rw [e1] at q2; exact (hb q2).elim
    | exn y m3 => rw [e1] at q2; exact (hb q2).elim
    | ok b m3 =>
      rw [e1] at q2
      rintro b' H3 B3 l3 s3 rfl
      have c3 := c.go hD l3 s3
      cases b' with
      | false => exact iteF (nx acc m3 B3 H3 c3 (o.trans l3) q2)
      | true =>
        refine iteT ⟨D :: Z, B3, r2, m3, sl'.mono l3, s3, ?_⟩
        replace q2 : PostE (plX X Z) E B1 H1 (g (((fi1 r2 m3).nx.bind fun its1 m2 => compF its1.src (fun w => patF pt1 w (wipeR r2 vs1)) (elemF ft1 fe) its1.items acc m2).bind k')) Qd := q2
        cases e2 : fi1 r2 m3 with
        | bad => rw [e2] at q2; exact (hb q2).elim
        | exn y m4 => rw [e2] at q2; exact (hb q2).elim
        | ok its1 m4 =>
          rw [e2] at q2
          intro J1 H4 B4 l4 s4 it1
          have c4 := c3.go hD l4 s4
          have o4 := o.trans (l3.trans l4)
          refine comp_walk (X := X) (Z := Z) (Z0 := D :: Z) (B1 := B1) (H1 := H1) (K := Unit) (P := fun x => PostE (plX X Z) E B1 H1 (g x) Qd) (k := k') (asg := fun w => patF pt1 w (wipeR r2 vs1)) (body := elemF ft1 fe) it1 hD (fun _ _ _ => trivial)
            (fun x H' Nx1 => patG X.K pt1 x (wipe σ' vs1) H' fun σ3 H5 => wipe σ3 vs1 = wipe σ' vs1 ∧ rd RT X E0 ft1 σ3 H5 fun b H6 =>
              if b = true then rd RE X E0 fe σ3 H6 fun y H7 => ∃ acc, H7 D = some (.lst acc) ∧ acc.length < sizeLine ∧ Nx1 (upd H7 D (.lst (acc ++ [y]))) else Nx1 H6) hb
            (fun B' H' => Le B1 H1 B' H' ∧ LeZ (D :: Z) B4 H4 B' H') (fun B H B' H' o l _ => ⟨o.1.trans l, o.2.trans l.z⟩) ?_ (fun B' H' o => ⟨o.2, fun a h => .inl h⟩) acc m4 B4 H4 c4 ⟨o4, Le.refl.z⟩ q2 ?_ (fun acc' m' B' H' c' o' q' => nx acc' m' B' H' c' o'.1 q')
          · intro B' H' xs o' hn
            refine ⟨hokD B' H' xs o'.1 hn, fun a u ha hz hk rr => ?_, fun a ha => ?_, o'.2.ext⟩
            · have ne : a ≠ D := fun e => hz (by rw [e]; exact List.mem_cons_self)
              rw [upd_ne ne]
              exact o'.2.keep a u ha hz hk rr
            · by_cases e : a = D
              · subst e; rw [upd_same]; exact fun z => nomatch z
              · rw [upd_ne e]; exact o'.2.trk a ha
          · intro i1 w1 x1 acc1 m5 B5 H5 r3 k1 Nx1 c5 o5 wv1 ea1 q5 nx1
            have sl3 : Sl (plX X (D :: Z)) H5 B5 (wipe σ' vs1) (wipeR r2 vs1) := by
              refine Sl.wipe ⟨sl'.len, fun j y e => ?_⟩ vs1
              obtain ⟨v, e1, e2⟩ := sl'.at_ j y e
              have e3 := (e2.mono l3).mono l4
              exact ⟨v, e1, WV.mz (p := plX X (D :: Z)) o5.2 (fun a h => .inl h) e3⟩
            refine pat_ok (p := plX X (D :: Z)) (vs := vs1) pt1 hpt1 sl3 wv1 ea1 fun σ3 sl3' hw3 => ⟨by rw [hw3, wipe_wipe], ?_⟩
            exact elem_step (P := fun x => PostE (plX X Z) E B1 H1 (g x) Qd) (k := k1) hD hb hx c5 sl3' q5 fun acc' m' B' H' c' lz q' => nx1 acc' m' B' H' c' ⟨c'.le, o5.2.trans lz⟩ q'
  · intro acc m2 B2 H2 c o q2
    exact hg3 Z B1 H1 D acc m2 B2 H2 m1 s1 hD c q2
theorem we_comp2 (hc : X.calm = true) (hN : X.N.Nodup) (hi : WI X E tg iter fi) (ok : BlkOk X.N X.env.scope scope own) (hv : ∀ i ∈ vs1, i ∈ own.map (·.2)) (hpt : patIn (own.map (·.2)) pt = true) (hpt1 : patIn vs1 pt1 = true)
    (hg : ∀ s H C cl fp, WP (Blk X scope s H C cl fp) tg pt) (ht : ∀ s H C cl fp, WTs (Blk X scope s H C cl fp) E0 ifs ft) (hi1 : ∀ s H C cl fp, WI (Blk X scope s H C cl fp) E0 tg1 iter1 fi1)
    (hg1 : ∀ s H C cl fp, WP (Blk X scope s H C cl fp) tg1 pt1) (ht1 : ∀ s H C cl fp, WTs (Blk X scope s H C cl fp) E0 ifs1 ft1) (he : ∀ s H C cl fp, WE (Blk X scope s H C cl fp) E0 elt fe)
    (hs : ∀ x, foldedSetIterable iter X.env x = pure x := by intro _; rfl) (hs1 : ∀ env x, foldedSetIterable iter1 env x = pure x := by intro _ _; rfl) :
    WE X E (.ListComp elt [⟨tg, iter, ifs, 0⟩, ⟨tg1, iter1, ifs1, 0⟩] scope pos) (fComp2 fi pt (own.map (·.2)) ft fi1 pt1 vs1 ft1 fe) :=
  ⟨fun pins s σ H Q I h => (pe_lc2 (g := patG X.K pt) (tt := rd RT X E0 ft) (wi1 := rd RI X E0 fi1) (g1 := patG X.K pt1) (tt1 := rd RT X E0 ft1) (te := rd RE X E0 fe) hc hN hi ok hv hg ht hi1 hg1 ht1 he hs hs1).run pins s σ H Q I (comp2_read (fi := fi) (pt := pt) (ft := ft) (fi1 := fi1) (pt1 := pt1) (ft1 := ft1) (fe := fe) (g := fun x => x.nx.bind fun acc m2 => R.ok (W.d (PyData.list acc)) m2) hpt hpt1 h rfl (fun _ _ => rfl) fun Z B1 H1 D acc m B H0 m1 so hD c q => by
    obtain ⟨s2, wv⟩ := c.done so hD
    exact q _ H0 B c.le s2 wv)⟩
def fComp2N (fi : FI) (pt : Pat) (vs : List Nat) (ft : FT) (fi1 : FI) (pt1 : Pat) (vs1 : List Nat) (ft1 : FT) (fe : FE) : FE := fun r m => (fi r m).bind fun its m1 =>
  (compF its.src (fun w => patF pt w (wipeR r vs)) (bodyF2 ft fi1 pt1 vs1 ft1 fe) its.items [] m1).nx.bind fun acc m2 => .ok (.loc m2.length) (m2 ++ [.lst acc])
theorem we_comp2N (hc : X.calm = true) (hN : X.N.Nodup) (hi : WI X E tg iter fi) (ok : BlkOk X.N X.env.scope scope own) (hv : ∀ i ∈ vs1, i ∈ own.map (·.2)) (hpt : patIn (own.map (·.2)) pt = true) (hpt1 : patIn vs1 pt1 = true)
    (hg : ∀ s H C cl fp, WP (Blk X scope s H C cl fp) tg pt) (ht : ∀ s H C cl fp, WTs (Blk X scope s H C cl fp) E0 ifs ft) (hi1 : ∀ s H C cl fp, WI (Blk X scope s H C cl fp) E0 tg1 iter1 fi1)
    (hg1 : ∀ s H C cl fp, WP (Blk X scope s H C cl fp) tg1 pt1) (ht1 : ∀ s H C cl fp, WTs (Blk X scope s H C cl fp) E0 ifs1 ft1) (he : ∀ s H C cl fp, WE (Blk X scope s H C cl fp) E0 elt fe)
    (hs : ∀ x, foldedSetIterable iter X.env x = pure x := by intro _; rfl) (hs1 : ∀ env x, foldedSetIterable iter1 env x = pure x := by intro _ _; rfl) :
    WE X E (.ListComp elt [⟨tg, iter, ifs, 0⟩, ⟨tg1, iter1, ifs1, 0⟩] scope pos) (fComp2N fi pt (own.map (·.2)) ft fi1 pt1 vs1 ft1 fe) :=
  ⟨fun pins s σ H Q I h => (pe_lc2 (g := patG X.K pt) (tt := rd RT X E0 ft) (wi1 := rd RI X E0 fi1) (g1 := patG X.K pt1) (tt1 := rd RT X E0 ft1) (te := rd RE X E0 fe) hc hN hi ok hv hg ht hi1 hg1 ht1 he hs hs1).run pins s σ H Q I (comp2_read (fi := fi) (pt := pt) (ft := ft) (fi1 := fi1) (pt1 := pt1) (ft1 := ft1) (fe := fe) (g := fun x => x.nx.bind fun acc m2 => R.ok (W.loc m2.length) (m2 ++ [Ob.lst acc])) hpt hpt1 h rfl (fun _ _ => rfl) fun Z B1 H1 D acc m B H0 m1 so hD c q => comp_new so hD c q)⟩
theorem ws_setLc2 {i : Nat} {y : Str} {py : Pos} {spos : Pos} (hc : X.calm = true) (hN : X.N.Nodup) (hy : X.N[i]? = some y) (hyl : X.env.scope.names.lookup y = some .local)
    (hsw : swapsWith (.ListComp elt [⟨tg, iter, ifs, 0⟩, ⟨tg1, iter1, ifs1, 0⟩] scope pos) (some (.Name y py)) spos.line X.env = pure true) (hi : WI X E tg iter fi) (ok : BlkOk X.N X.env.scope scope own) (hv : ∀ i ∈ vs1, i ∈ own.map (·.2)) (hpt : patIn (own.map (·.2)) pt = true) (hpt1 : patIn vs1 pt1 = true)
    (hg : ∀ s H C cl fp, WP (Blk X scope s H C cl fp) tg pt) (ht : ∀ s H C cl fp, WTs (Blk X scope s H C cl fp) E0 ifs ft) (hi1 : ∀ s H C cl fp, WI (Blk X scope s H C cl fp) E0 tg1 iter1 fi1)
    (hg1 : ∀ s H C cl fp, WP (Blk X scope s H C cl fp) tg1 pt1) (ht1 : ∀ s H C cl fp, WTs (Blk X scope s H C cl fp) E0 ifs1 ft1) (he : ∀ s H C cl fp, WE (Blk X scope s H C cl fp) E0 elt fe)
    (hs : ∀ x, foldedSetIterable iter X.env x = pure x := by intro _; rfl) (hs1 : ∀ env x, foldedSetIterable iter1 env x = pure x := by intro _ _; rfl) :
    WS X E (.Assign [.Name y py] (.ListComp elt [⟨tg, iter, ifs, 0⟩, ⟨tg1, iter1, ifs1, 0⟩] scope pos) spos) (fSet i (fComp2 fi pt (own.map (·.2)) ft fi1 pt1 vs1 ft1 fe)) :=
  ⟨fun pins s σ H D I ⟨Z, B, r, m, sl, so, q⟩ => (ps_setLc2 (g := patG X.K pt) (tt := rd RT X E0 ft) (wi1 := rd RI X E0 fi1) (g1 := patG X.K pt1) (tt1 := rd RT X E0 ft1) (te := rd RE X E0 fe) hc hN hy hyl hsw hi ok hv hg ht hi1 hg1 ht1 he hs hs1).run pins s σ H D I (comp2_read (fi := fi) (pt := pt) (ft := ft) (fi1 := fi1) (pt1 := pt1) (ft1 := ft1) (fe := fe) (g := fun x => x.nx.bind fun acc m2 => R.ok (W.d (PyData.list acc)) m2) hpt hpt1
    ⟨Z, B, r, m, sl, so, PostS.step q fun w m1 b H1 B1 l1 s1 r1 q1 => (show gName i b σ H1 D.nx from PostS.next q1 s1 ((sl.mono l1).set r1))⟩ rfl (fun _ _ => rfl) fun Z B1 H1 D' acc m B H0 m1 so hD c q => by
    obtain ⟨s2, wv⟩ := c.done so hD
    exact q _ H0 B c.le s2 wv)⟩
end
end Wy

set_option Elab.async false
set_option linter.all false
set_option maxRecDepth 100000
set_option maxHeartbeats 4000000
/-! WS1: small sets of keys in tuples of any depth. -/
namespace Wy
open PySem PySem.Spec PyProof.Rows L2

mutual
/-- no texts within -/
def numy : NestedKey → Bool
  | .none => true
  | .num _ => true
  | .text _ => false
  | .tup ks => numys ks
def numys : List NestedKey → Bool
  | [] => true
  | k :: ks => numy k && numys ks
end
section
variable {P : Program} {w : World} {A : Around} {E : Value → Shared → Prop} {s : Shared}
/-- a question asked of v within n levels is answered by b -/
def Says (P : Program) (w : World) (f : Nat → Value → Sem Bool) (b : Bool) (n : Nat) (s : Shared) (v : Value) : Prop := ∀ (A : Around) (E : Value → Shared → Prop) (Q : Bool → Shared → Prop), Q b s → wpAny (model P w) A (f n v) Q E s
theorem cls_tup {n : Nat} {a : Addr} {o : Obj} {vs : Array Value} {m : Nat} (ho : s.heap.get? a = some o) (hc : o.cls = .type "tuple") (hd : o.data = .seq vs m) (hq : ∀ v ∈ vs.toList, Says P w ofAClassStatement false n s v) : Says P w ofAClassStatement false (n + 1) s (.ref a) := fun A E Q h => by
  have hT : s.TypeIs (.ref a) "tuple" := ⟨o, ho, hc⟩
  unfold ofAClassStatement
  refine wpAny_bind (wpAny_typeOf hT ?_)
  dsimp only
  have et : (("tuple" : String) == "tuple") = true := by decide
  simp only [et, if_true, Bool.not_true, Bool.false_eq_true, if_false]
  try refine wpAny_bind (wpAny_pure ?_)
  try simp only [Bool.not_true, Bool.false_eq_true, if_false]
  refine wpAny_bind (wpAny_seqItems ho hd ?_)
  dsimp only
  refine wpAny_bind ?_
  show wpAny _ _ (forIn vs _ _) _ _ s
  rw [← Array.forIn_toList]
  refine wpAny_forIn_list _ (fun l st s' => (st.1 = none ∧ s' = s) ∧ ∀ v ∈ l, Says P w ofAClassStatement false n s v) _ ?_ ?_ _ _ ⟨⟨rfl, rfl⟩, hq⟩
  · rintro v l st s' ⟨⟨q1, rfl⟩, q2⟩
    refine wpAny_bind (q2 v List.mem_cons_self _ _ _ ?_)
    simp only [Bool.false_eq_true, if_false]
    exact wpAny_pure ⟨⟨rfl, rfl⟩, fun u hu => q2 u (List.mem_cons_of_mem _ hu)⟩
  · rintro ⟨r1, r2⟩ s' ⟨⟨q1, rfl⟩, _⟩
    simp only at q1
    subst q1
    exact wpAny_pure h
theorem hbv_tup {n : Nat} {a : Addr} {o : Obj} {vs : Array Value} {m : Nat} (ho : s.heap.get? a = some o) (hc : o.cls = .type "tuple") (hd : o.data = .seq vs m) (hq : ∀ v ∈ vs.toList, Says P w hashByValue true n s v) : Says P w hashByValue true (n + 1) s (.ref a) := fun A E Q h => by
  have hT : s.TypeIs (.ref a) "tuple" := ⟨o, ho, hc⟩
  unfold hashByValue
  refine wpAny_bind (wpAny_specialOf hT F.slot_tuple_hash.lookup ?_)
  refine wpAny_bind (wpAny_seqItems ho hd ?_)
  refine wpAny_bind ?_
  show wpAny _ _ (forIn vs _ _) _ _ s
  rw [← Array.forIn_toList]
  refine wpAny_forIn_list _ (fun l st s' => (st.1 = none ∧ s' = s) ∧ ∀ v ∈ l, Says P w hashByValue true n s v) _ ?_ ?_ _ _ ⟨⟨rfl, rfl⟩, hq⟩
  · rintro v l st s' ⟨⟨q1, rfl⟩, q2⟩
    refine wpAny_bind (q2 v List.mem_cons_self _ _ _ ?_)
    simp only [Bool.not_true, Bool.false_eq_true, if_false]
    exact wpAny_pure ⟨⟨rfl, rfl⟩, fun u hu => q2 u (List.mem_cons_of_mem _ hu)⟩
  · rintro ⟨r1, r2⟩ s' ⟨⟨q1, rfl⟩, _⟩
    simp only at q1
    subst q1
    exact wpAny_pure h
mutual
theorem says_key : ∀ (k : NestedKey) (v : Value) (n : Nat) (s : Shared), NestedIs s.heap k v → k.depth ≤ n → numy k = true → Says P w ofAClassStatement false n s v ∧ Says P w hashByValue true n s v
  | .none, _, n, s, x, _, _ => by
    cases x
    exact ⟨fun A E Q h => by cases n <;> exact wpAny_pure h, fun A E Q h => by cases n <;> exact wpAny_pure h⟩
  | .num i, _, n, s, x, _, _ => by
    cases x <;> exact ⟨fun A E Q h => by cases n <;> exact wpAny_pure h, fun A E Q h => by cases n <;> exact wpAny_pure h⟩
  | .text y, _, n, s, x, _, hn => by simp [numy] at hn
  | .tup ks, _, n, s, x, hd, hn => by
    cases x with
    | tup hg hc hd2 hk =>
      simp only [NestedKey.depth] at hd
      cases n with
      | zero => omega
      | succ n =>
        have q := says_keys ks _ n s hk (by omega) (by simpa [numy] using hn)
        exact ⟨cls_tup hg hc hd2 fun v hv => (q v hv).1, hbv_tup hg hc hd2 fun v hv => (q v hv).2⟩
theorem says_keys : ∀ (ks : List NestedKey) (vs : List Value) (n : Nat) (s : Shared), NestedAll s.heap ks vs → NestedKey.depthAll ks ≤ n → numys ks = true → ∀ v ∈ vs, Says P w ofAClassStatement false n s v ∧ Says P w hashByValue true n s v
  | [], _, n, s, x, _, _, v, hv => by cases x; cases hv
  | k :: ks, _, n, s, x, hd, hn, v, hv => by
    cases x with
    | cons x1 x2 =>
      simp only [NestedKey.depthAll] at hd
      have hn' := Bool.and_eq_true_iff.mp (show (numy k && numys ks) = true from by simpa [numys] using hn)
      rcases List.mem_cons.mp hv with e | hv
      · rw [e]; exact says_key k _ n s x1 (by omega) hn'.1
      · exact says_keys ks _ n s x2 (by omega) hn'.2 v hv
end
/-- the tuple at a is the key k, without texts -/
structure KA (P : Program) (w : World) (h : Heap) (k : NestedKey) (a : Addr) : Prop where
  is : (nestedKind P w).is h k a
  nm : numy k = true
theorem KA.keep {h h' : Heap} {k : NestedKey} {a : Addr} (x : KA P w h k a) (e : ∀ b o, h.get? b = some o → h'.get? b = some o) : KA P w h' k a := ⟨⟨NestedIs.at (fun b o _ _ q _ => e b o q) k _ x.is.1, x.is.2⟩, x.nm⟩
theorem KA.but {h h' : Heap} {k : NestedKey} {a b : Addr} {o : Obj} {es : Array (Int × Value)} {ep : Nat} {t : SetTable} (x : KA P w h k a) (ho : h.get? b = some o) (hd : o.data = .set es ep t) (e : Heap.SameBut b h h') : KA P w h' k a :=
  ⟨⟨NestedIs.at (fun c u vs n q dq => by
    have ne : c ≠ b := fun z => by
      subst z
      rw [ho] at q
      cases q
      rw [hd] at dq
      cases dq
    rw [e.2 c ne]; exact q) k _ x.is.1, x.is.2⟩, x.nm⟩
abbrev hsh (w : World) (k : NestedKey) : Int := NestedKey.hash w k
theorem search_quiet {k : NestedKey} {b : Addr} {Q : Bool → Shared → Prop} (hk : KA P w s.heap k b) {ys : List Value} (hy : ∀ y ∈ ys, ∃ k' c, y = Value.ref c ∧ KA P w s.heap k' c) (h : Q false s) :
    wpAny (model P w) A (searchCouldBeSeen (.ref b) ys) Q E s := by
  unfold searchCouldBeSeen
  refine wpAny_bind ?_
  refine wpAny_forIn_list _ (fun l st s' => (st.1 = none ∧ s' = s) ∧ ∀ y ∈ l, ∃ k' c, y = Value.ref c ∧ KA P w s.heap k' c) _ ?_ ?_ _ _ ⟨⟨rfl, rfl⟩, hy⟩
  · rintro v l st s' ⟨⟨q1, rfl⟩, q2⟩
    obtain ⟨k', c, rfl, hc⟩ := q2 v List.mem_cons_self
    have tl := fun u hu => q2 u (List.mem_cons_of_mem _ hu)
    dsimp only
    by_cases z : (b == c || (carriedByValue (.ref b) && carriedByValue (.ref c))) = true
    · exact wp_if_pos z (wpAny_pure ⟨⟨rfl, rfl⟩, tl⟩)
    · refine wp_if_neg z ?_
      refine wpAny_bind ((nestedKind P w).quiet hk.is ?_)
      simp only [Bool.not_true, Bool.false_eq_true, if_false]
      refine wpAny_bind ((nestedKind P w).quiet hc.is ?_)
      simp only [Bool.not_true, Bool.false_eq_true, if_false]
      refine wpAny_bind ((says_key (P := P) (w := w) _ _ 8 _ hk.is.1 hk.is.2 hk.nm).1 _ _ _ ?_)
      simp only [Bool.false_eq_true, if_false]
      refine wpAny_bind ((says_key (P := P) (w := w) _ _ 8 _ hc.is.1 hc.is.2 hc.nm).1 _ _ _ ?_)
      simp only [Bool.false_eq_true, if_false]
      exact wpAny_pure ⟨⟨rfl, rfl⟩, tl⟩
  · rintro ⟨r1, r2⟩ s' ⟨⟨q1, rfl⟩, _⟩
    simp only at q1
    subst q1
    exact wpAny_pure h
end
end Wy

set_option Elab.async false
set_option linter.all false
set_option maxRecDepth 100000
set_option maxHeartbeats 4000000
/-! WS2: the small table; a search; one key more. -/
namespace Wy
open PySem PySem.Spec PyProof.Rows L2
section
variable {P : Program} {w : World} {A : Around} {E : Value → Shared → Prop} {s : Shared}
def rowN (w : World) (q : Addr × NestedKey) : Int × Value := (hsh w q.2, Value.ref q.1)
structure SetN (P : Program) (w : World) (h : Heap) (a : Addr) (L : List (Addr × NestedKey)) (es : Array (Int × Value)) (ep : Nat) (t : SetTable) : Prop where
  ob : ∃ o, h.get? a = some o ∧ o.ExactSet ∧ o.data = .set es ep t
  rows : es.toList = L.map (rowN w)
  tab : TabOk t (L.map fun q => hsh w q.2)
  nd : (L.map (·.2)).Nodup
  ka : ∀ q ∈ L, KA P w h q.2 q.1
  plain : t.plain = true
  led : w.params.followText "set-order" = true ∨ t.led = true
  m7 : t.mask = 7
  few : L.length ≤ 4
variable {a : Addr} {L : List (Addr × NestedKey)} {es : Array (Int × Value)} {ep : Nat} {t : SetTable}
theorem SetN.size (R : SetN P w s.heap a L es ep t) : es.size = L.length := by
  have h := congrArg List.length R.rows
  simpa using h
theorem SetN.place (R : SetN P w s.heap a L es ep t) : t.place.size = L.length := by
  have h := R.tab.sz
  simpa using h
theorem SetN.fits (R : SetN P w s.heap a L es ep t) : t.fits es.size = true := by
  have h1 := R.place
  have h2 := R.size
  have h3 := R.few
  unfold SetTable.fits SetTable.fill
  rw [R.tab.dm, Bool.and_eq_true, beq_iff_eq, decide_eq_true_eq, R.m7]
  show t.place.size = es.size ∧ t.place.size + 0 ≤ 7
  omega
theorem SetN.at_ (R : SetN P w s.heap a L es ep t) {i : Nat} {q : Addr × NestedKey} (h : L[i]? = some q) : es[i]? = some (rowN w q) := by
  rw [← Array.getElem?_toList, R.rows, List.getElem?_map, h]
  rfl
theorem SetN.stays (R : SetN P w s.heap a L es ep t) : ¬ t.gaveWay = true := by
  unfold SetTable.gaveWay
  rw [R.m7]
  decide
/-- the state of the search behind c steps -/
abbrev stp (t : SetTable) (h : Int) (c : Nat) : SetTable.Probe := nth t.mask (runAt t.mask (SetTable.bits h % (t.mask + 1)) (SetTable.bits h)) c
theorem stp_dummy (t : SetTable) (h : Int) (c : Nat) : (stp t h c).dummy = none := by
  have go : ∀ (n : Nat) (p : SetTable.Probe), p.dummy = none → (nth t.mask p n).dummy = none := by
    intro n
    induction n with
    | zero => exact fun p e => e
    | succ n ih =>
      intro p e
      refine ih (adv t.mask p) ?_
      unfold adv
      split <;> exact e
  exact go c _ rfl
theorem stp_go (t : SetTable) (h : Int) (c q : Nat) : nth t.mask (stp t h c) q = stp t h (c + q) := (nth_add t.mask c _ q).symm
theorem set_search (R : SetN P w s.heap a L es ep t) {x : Addr} {k : NestedKey} (hx : KA P w s.heap k x) (hu : A.units + 8 < cLine) {K : Nat} (hKf : K < 10 * SetTable.turns t.mask)
    (hK : way t.mask (hsh w k) K ∉ t.place.toList) (hKb : ∀ c, c < K → way t.mask (hsh w k) c ∈ t.place.toList) {Q : SetFound → Shared → Prop}
    (hin : k ∈ L.map (·.2) → Q (.there none) s) (hout : k ∉ L.map (·.2) → Q (.free (way t.mask (hsh w k) K) false) s) :
    ∀ (f c : Nat) (stand : Option SetTable.Probe), stand.getD (t.probeStart (hsh w k)) = stp t (hsh w k) c → c ≤ K → K - c < f →
      (∀ (i : Nat) q, L[i]? = some q → q.2 = k → ∃ c', c ≤ c' ∧ c' < K ∧ t.place.toList[i]? = some (way t.mask (hsh w k) c')) →
      wpAny (model P w) A (setSearchFrom a (.ref x) (hsh w k) true f stand) Q E s
  | 0, c, stand, _, _, hf, _ => absurd hf (Nat.not_lt_zero _)
  | f + 1, c, stand, hst, hc, hf, hre => by
    obtain ⟨o, ho, hex, hd⟩ := R.ob
    rw [setSearchFrom_succ]
    refine wpAny_bind (wpAny_setState_of ho hd R.fits ?_)
    dsimp only
    refine wp_if_neg R.stays ?_
    try refine wpAny_bind (wpAny_pure ?_)
    have e1 : ∀ q, (nth t.mask (stp t (hsh w k) c) q).j = way t.mask (hsh w k) (c + q) := fun q => congrArg SetTable.Probe.j (stp_go t (hsh w k) c q)
    have spec := go_spec t R.tab.ris R.tab.dm (fun i => (es[i]?.map (·.1)).getD 0) (hsh w k) (10 * SetTable.turns t.mask) (K - c) _ (stp_dummy t (hsh w k) c) (by omega)
      (fun q hq => by rw [e1]; exact hKb (c + q) (by omega)) (by rw [e1, show c + (K - c) = K by omega]; exact hK)
    have hashAt : ∀ (i : Nat) q, L[i]? = some q → (fun i => (es[i]?.map (·.1)).getD 0) i = hsh w q.2 := fun i q hq => by
      show (es[i]?.map (·.1)).getD 0 = _
      rw [R.at_ hq]
      rfl
    rcases spec with ⟨q, i, hq, hi, hh, hno, hpr⟩ | ⟨hno, hpr⟩
    · have hpr' : t.probe (fun i => (es[i]?.map (·.1)).getD 0) (hsh w k) (stand.getD (t.probeStart (hsh w k))) = some (.candidate (way t.mask (hsh w k) (c + q)) i (stp t (hsh w k) (c + (q + 1)))) := by
        rw [hst, ← e1, ← stp_go]
        exact hpr
      rw [hpr']
      dsimp only
      rw [e1] at hi
      have hil : i < L.length := by
        have h1 := (List.getElem?_eq_some_iff.mp hi).1
        rw [Array.length_toList, R.place] at h1
        exact h1
      have hp : L[i]? = some L[i] := List.getElem?_eq_getElem hil
      generalize L[i] = p at hp
      have hmem : p ∈ L := List.mem_of_getElem? hp
      have hpk := R.ka p hmem
      have rest : wpAny (model P w) A (searchRest a (.ref x) (hsh w k) true f es t (way t.mask (hsh w k) (c + q)) i (stp t (hsh w k) (c + (q + 1)))) Q E s := by
        unfold searchRest
        rw [R.at_ hp]
        dsimp only [rowN]
        refine wpAny_bind (wpAny_holding ((nestedKind P w).eqBool (by exact hu) hpk.is hx.is ?_))
        refine wpAny_bind (wpAny_setState_of ho hd R.fits ?_)
        dsimp only
        by_cases hkk : p.2 = k
        · refine wp_if_pos (by simp [hkk]) ?_
          exact wpAny_pure (hin (List.mem_map.mpr ⟨p, hmem, hkk⟩))
        · refine wp_if_neg (by simp [hkk]) ?_
          try refine wpAny_bind (wpAny_pure ?_)
          rw [sameMem]
          dsimp only
          have hsl : t.slot (way t.mask (hsh w k) (c + q)) = .live i := slot_live R.tab.ris hi
          simp only [if_true, hsl, R.at_ hp, rowN]
          refine wpAny_bind (wpAny_isSame_ref_self (wpAny_bind (wpAny_pure ?_)))
          simp only [if_true]
          refine wp_if_neg (by simp [hkk]) ?_
          refine set_search R hx hu hKf hK hKb hin hout f (c + (q + 1)) _ rfl (by omega) (by omega) fun i0 p0 h0 hk0 => ?_
          obtain ⟨c', a1, a2, a3⟩ := hre i0 p0 h0 hk0
          refine ⟨c', ?_, a2, a3⟩
          rcases Nat.lt_trichotomy c' (c + q) with z | z | z
          · exact absurd ((hashAt i0 p0 h0).trans (congrArg (hsh w) hk0)) (hno (c' - c) i0 (by omega) (by rw [e1, show c + (c' - c) = c' by omega]; exact a3))
          · exfalso
            rw [z] at a3
            have s0 := slot_live R.tab.ris a3
            rw [hsl] at s0
            injection s0 with s0
            rw [← s0, hp] at h0
            exact hkk ((congrArg Prod.snd (Option.some.inj h0)).trans hk0)
          · omega
      by_cases hl : t.led = true
      · refine wp_if_neg (by simp [hl]) ?_
        try refine wpAny_bind (wpAny_pure ?_)
        exact rest
      · refine wp_if_pos (by simp [hl]) ?_
        refine wpAny_bind (search_quiet hx (fun y hy => ?_) ?_)
        · obtain ⟨e, he, ee⟩ := List.mem_map.mp hy
          have he1 : e ∈ es ∧ e.1 = hsh w k := by simpa using he
          have he2 : e ∈ es.toList := by simpa using he1.1
          rw [R.rows] at he2
          obtain ⟨p2, hp2, e2⟩ := List.mem_map.mp he2
          exact ⟨p2.2, p2.1, by rw [← ee, ← e2]; rfl, R.ka p2 hp2⟩
        · refine wp_if_neg (by decide) ?_
          try refine wpAny_bind (wpAny_pure ?_)
          exact rest
    · have hpr' : t.probe (fun i => (es[i]?.map (·.1)).getD 0) (hsh w k) (stand.getD (t.probeStart (hsh w k))) = some (.empty (way t.mask (hsh w k) K) none) := by
        have e2 : way t.mask (hsh w k) K = (nth t.mask (stp t (hsh w k) c) (K - c)).j := by rw [e1, show c + (K - c) = K by omega]
        rw [hst, e2]
        exact hpr
      rw [hpr']
      dsimp only
      refine wpAny_pure (hout fun hm => ?_)
      obtain ⟨p0, h0, hk0⟩ := List.mem_map.mp hm
      obtain ⟨i0, h00⟩ := List.mem_iff_getElem?.mp h0
      obtain ⟨c', a1, a2, a3⟩ := hre i0 p0 h00 hk0
      exact hno (c' - c) i0 (by omega) (by rw [e1, show c + (c' - c) = c' by omega]; exact a3) ((hashAt i0 p0 h00).trans (congrArg (hsh w) hk0))
theorem set_seek (R : SetN P w s.heap a L es ep t) {x : Addr} {k : NestedKey} (hx : KA P w s.heap k x) (hu : A.units + 8 < cLine) {Q : SetFound → Shared → Prop}
    (hin : k ∈ L.map (·.2) → Q (.there none) s)
    (hout : ∀ K, k ∉ L.map (·.2) → way t.mask (hsh w k) K ∉ t.place.toList → (∀ c, c < K → way t.mask (hsh w k) c ∈ t.place.toList) → Q (.free (way t.mask (hsh w k) K) false) s) :
    wpAny (model P w) A (setSearch a (.ref x) (hsh w k) true) Q E s := by
  obtain ⟨K, hKf, hK, hKb⟩ := R.tab.first (by rw [List.length_map, R.m7]; have := R.few; omega) (hsh w k)
  have hbig : K < 100000 := by
    have : 10 * SetTable.turns t.mask ≤ 1420 := by
      unfold SetTable.turns
      rw [R.m7]
      omega
    omega
  unfold setSearch
  refine set_search R hx hu hKf hK hKb hin (fun hn => hout K hn hK hKb) 100000 0 none rfl (Nat.zero_le _) (by omega) fun i q hq hk => ?_
  have hi : (L.map fun q => hsh w q.2)[i]? = some (hsh w k) := by rw [List.getElem?_map, hq, ← hk]; rfl
  have hil : i < t.place.toList.length := by
    rw [Array.length_toList, R.place]
    exact (List.getElem?_eq_some_iff.mp hq).1
  have hj := List.getElem?_eq_getElem hil
  obtain ⟨c, hc, e⟩ := R.tab.before hK hi hj
  exact ⟨c, Nat.zero_le _, hc, by rw [hj, e]⟩
theorem set_add (R : SetN P w s.heap a L es ep t) {x : Addr} {k : NestedKey} (hx : KA P w s.heap k x) (hu : A.units + 8 < cLine) (hfew : L.length + 1 ≤ 4) {Q : Bool → Shared → Prop}
    (hQ : ∀ b h' L' es' ep' t', Heap.SameBut a s.heap h' → SetN P w h' a L' es' ep' t' → (k ∈ L.map (·.2) → L' = L) → (k ∉ L.map (·.2) → L'.Perm ((x, k) :: L)) → Q b { s with heap := h' }) :
    wpAny (model P w) A (setAddHashed a (.ref x) (hsh w k)) Q E s := by
  obtain ⟨o, ho, hex, hd⟩ := R.ob
  have hsl := R.size
  unfold setAddHashed
  refine wpAny_holding ?_
  rw [show (100000 : Nat) = 99999 + 1 from rfl, setAddHashedIn_succ]
  refine wpAny_bind (wpAny_setState_of ho hd R.fits ?_)
  dsimp only
  refine wp_if_neg (by simp [byScan, Value.scannable]) ?_
  try refine wpAny_bind (wpAny_pure ?_)
  refine wpAny_bind (set_seek R hx hu (fun hm => ?_) fun K hm hK hb => ?_)
  · dsimp only
    exact wpAny_pure (hQ false s.heap L es ep t (Heap.SameBut.refl a s.heap) R (fun _ => rfl) fun z => absurd hm z)
  · dsimp only
    refine wpAny_bind (wpAny_setState_of ho hd R.fits ?_)
    dsimp only
    obtain ⟨q1, q2, q3, q4, q5, q6, q7, q8, q9⟩ := R.tab.put hK hb
    have hp1 : (t.put (way t.mask (hsh w k) K)).1.plain = true := by rw [q6]; exact R.plain
    generalize hpt : t.put (way t.mask (hsh w k) K) = pt at q1 q3 q4 q5 q6 q7 q8 q9 hp1 ⊢
    obtain ⟨t1, p⟩ := pt
    dsimp only at q1 q3 q4 q5 q6 q7 q8 q9 hp1 ⊢
    subst q1
    have hbv := (says_key (P := P) (w := w) _ _ 8 s hx.is.1 hx.is.2 hx.nm).2
    first
      | (refine wpAny_bind ?_; refine wp_if_pos hp1 ?_; refine hbv _ _ _ ?_)
      | refine wp_if_pos hp1 (wpAny_bind (hbv _ _ _ ?_))
    simp only [if_true]
    generalize hpp : SetTable.below t.place (way t.mask (hsh w k) K) = p at q2 q3 ⊢
    have hin : (SetTable.insertAt es p (hsh w k, Value.ref x)).toList = (L.take p ++ (x, k) :: L.drop p).map (rowN w) := by
      rw [SetTable.toList_insertAt, R.rows, List.map_append, List.map_cons, List.map_take, List.map_drop]
      rfl
    have pm : (L.take p ++ (x, k) :: L.drop p).Perm ((x, k) :: L) := by
      have h : (L.take p ++ (x, k) :: L.drop p).Perm ((x, k) :: (L.take p ++ L.drop p)) := List.perm_middle
      rw [List.take_append_drop] at h
      exact h
    have hlen : (L.take p ++ (x, k) :: L.drop p).length = L.length + 1 := pm.length_eq
    have hhs : (L.take p ++ (x, k) :: L.drop p).map (fun q => hsh w q.2) = (L.map fun q => hsh w q.2).take p ++ hsh w k :: (L.map fun q => hsh w q.2).drop p := by
      rw [List.map_append, List.map_cons, List.map_take, List.map_drop]
    rw [← hhs] at q3
    have nd1 : ((L.take p ++ (x, k) :: L.drop p).map (·.2)).Nodup := by
      refine (pm.map (·.2)).nodup_iff.mpr ?_
      rw [List.map_cons]
      exact List.nodup_cons.mpr ⟨hm, R.nd⟩
    have hes : (SetTable.insertAt es p (hsh w k, Value.ref x)).size = L.length + 1 := by
      have h := congrArg List.length hin
      rw [Array.length_toList, List.length_map, hlen] at h
      exact h
    generalize SetTable.insertAt es p (hsh w k, Value.ref x) = es1 at hin hes ⊢
    generalize L.take p ++ (x, k) :: L.drop p = L1 at pm hlen q3 nd1 hin
    refine wpAny_bind (wpAny_storeSet_of ho hd ?_ (by rw [hes, sizeLine_eq]; omega))
    have sb : Heap.SameBut a s.heap (s.heap.update a (Obj.putSet es1 t1)) := Heap.SameBut.update ..
    have ho1 := store_at (es' := es1) (t' := t1) ho hd
    generalize s.heap.update a (Obj.putSet es1 t1) = h1 at sb ho1 ⊢
    have ka1 : ∀ q ∈ L1, KA P w h1 q.2 q.1 := fun q hq => by
      rcases List.mem_cons.mp (pm.mem_iff.mp hq) with e | hq
      · rw [e]; exact hx.but ho hd sb
      · exact (R.ka q hq).but ho hd sb
    have nf : ¬ t1.tooFull = true := by
      unfold SetTable.tooFull
      rw [decide_eq_true_eq, q9, List.length_map, q4, R.m7]
      omega
    first
      | refine wp_if_neg (by simp [nf]) ?_
      | (refine wpAny_bind ?_; refine wp_if_neg (by simp [nf]) ?_; refine wpAny_pure ?_)
    exact wpAny_pure (hQ true h1 L1 es1 (ep + 1) t1 sb ⟨⟨_, ho1, ⟨hex.1, hex.2.1, hex.2.2⟩, rfl⟩, hin, q3, nd1, ka1, hp1, by rw [q5]; exact R.led, by rw [q4]; exact R.m7, by rw [hlen]; exact hfew⟩ (fun z => absurd z hm) fun _ => pm)
theorem SetN.keep {h h' : Heap} (R : SetN P w h a L es ep t) (e : ∀ o, h.get? a = some o → h'.get? a = some o) (ks : ∀ q ∈ L, KA P w h' q.2 q.1) : SetN P w h' a L es ep t := by
  obtain ⟨o, ho, r⟩ := R.ob
  exact ⟨⟨o, e o ho, r⟩, R.rows, R.tab, R.nd, ks, R.plain, R.led, R.m7, R.few⟩
abbrev newSet (w : World) : Obj := { cls := .type "set", dict := none, data := .set #[] 0 (.fresh 0 0 (!w.params.followText "set-order")) }
theorem setN_new {h : Heap} (ho : h.get? a = some (newSet w)) : SetN P w h a [] #[] 0 (.fresh 0 0 (!w.params.followText "set-order")) where
  ob := ⟨_, ho, ⟨rfl, rfl, rfl⟩, rfl⟩
  rows := rfl
  tab := ⟨List.Pairwise.nil, rfl, rfl, .inl rfl, fun x hx => (by cases hx), fun i h j hi => (by simp at hi)⟩
  nd := List.nodup_nil
  ka := fun q hq => (by cases hq)
  plain := rfl
  led := by
    show _ ∨ (!w.params.followText "set-order") = true
    cases w.params.followText "set-order"
    · exact .inr rfl
    · exact .inl rfl
  m7 := rfl
  few := by decide
end
end Wy

set_option Elab.async false
set_option linter.all false
set_option maxRecDepth 100000
set_option maxHeartbeats 4000000
/-! WS3: set(xs) for at most four keys; sorted of it. -/
namespace Wy
open PySem PySem.Spec PyProof.Rows L2
/-- what the set has of the first i -/
structure Has (ks : List (Addr × NestedKey)) (i : Nat) (L : List (Addr × NestedKey)) : Prop where
  sub : ∀ q ∈ L, q ∈ ks.take i
  all : ∀ q ∈ ks.take i, q.2 ∈ L.map (·.2)
  len : L.length ≤ i
theorem Has.zero (ks : List (Addr × NestedKey)) : Has ks 0 [] := ⟨fun q h => (by cases h), fun q h => (by simp at h), Nat.le_refl _⟩
theorem Has.step {ks L L' : List (Addr × NestedKey)} {i : Nat} {x : Addr × NestedKey} (g : Has ks i L) (h : ks[i]? = some x) (c1 : x.2 ∈ L.map (·.2) → L' = L) (c2 : x.2 ∉ L.map (·.2) → L'.Perm (x :: L)) : Has ks (i + 1) L' := by
  have tk : ks.take (i + 1) = ks.take i ++ [x] := by rw [List.take_succ, h]; rfl
  by_cases c : x.2 ∈ L.map (·.2)
  · rw [c1 c]
    refine ⟨fun q hq => by rw [tk]; exact List.mem_append_left _ (g.sub q hq), fun q hq => ?_, Nat.le_succ_of_le g.len⟩
    rw [tk] at hq
    rcases List.mem_append.mp hq with z | z
    · exact g.all q z
    · rw [List.mem_singleton.mp z]; exact c
  · have pm := c2 c
    refine ⟨fun q hq => ?_, fun q hq => ?_, by rw [pm.length_eq, List.length_cons]; exact Nat.succ_le_succ g.len⟩
    · rw [tk]
      rcases List.mem_cons.mp (pm.mem_iff.mp hq) with e | z
      · rw [e]; exact List.mem_append_right _ (List.mem_singleton.mpr rfl)
      · exact List.mem_append_left _ (g.sub q z)
    · rw [(pm.map (·.2)).mem_iff, List.map_cons]
      rw [tk] at hq
      rcases List.mem_append.mp hq with z | z
      · exact List.mem_cons_of_mem _ (g.all q z)
      · rw [List.mem_singleton.mp z]; exact List.mem_cons_self
section
variable {P : Program} {w : World} {A : Around} {E : Value → Shared → Prop} {s : Shared}
theorem upd_loop {I : Addr} {fp wr : List Addr} {G : Array GenState → Array GenState → Prop} {n : Nat} {Pv : Nat → Value → Prop} {St : Nat → Shared → Prop} {R : Result → Shared → Prop}
    (W : WalksS P w A.in1 I fp wr G n Pv St) (S : Addr) (hSf : S ∉ fp) (ks : List (Addr × NestedKey)) (hn : n = ks.length) (h4 : ks.length ≤ 4) (hval : ∀ i v, Pv i v → ∃ q, ks[i]? = some q ∧ v = .ref q.1)
    (h0 : Heap) (hk : ∀ q ∈ ks, KA P w h0 q.2 q.1) (hS0 : h0.get? S = none) (hw0 : ∀ b ∈ wr, h0.get? b = none) (hu : A.in1.units + 8 < cLine) :
    ∀ (k i : Nat) (s : Shared), n - i = k → i ≤ n → St i s → (∀ b o, h0.get? b = some o → s.heap.get? b = some o) → (∃ L es ep t, SetN P w s.heap S L es ep t ∧ Has ks i L) →
      (∀ s' L es ep t, Moved (S :: wr) G s s' → SetN P w s'.heap S L es ep t → Has ks n L → (∀ b o, h0.get? b = some o → s'.heap.get? b = some o) → R (.ok (.ret .none)) s') →
      codeAny (model P w) A (.builtin "set.update.loop" ⟨[.ref S, .ref I], []⟩) R s := by
  have hSw : S ∉ wr := fun h => hSf (W.sub _ h)
  have hsub : ∀ b ∈ wr, b ∈ S :: wr := fun b hb => List.mem_cons_of_mem _ hb
  have keepM : ∀ {s s' : Shared}, Moved wr G s s' → (∀ b o, h0.get? b = some o → s.heap.get? b = some o) → ∀ b o, h0.get? b = some o → s'.heap.get? b = some o := fun hm hkp b o e =>
    hm.heap b o (fun hb => by rw [hw0 b hb] at e; cases e) (hkp b o e)
  intro k
  induction k with
  | zero =>
    intro i s hki hi hst hkp hL hR
    obtain ⟨L, es, ep, t, hS, g⟩ := hL
    obtain rfl : i = n := by omega
    refine codeAny_builtin F.entry_set_update_loop ?_
    rw [Around.under_plainId F.plain_set_update_loop _]
    refine wpAny_bind (W.done s _ _ hst fun s' hm => ?_)
    have kp := keepM hm hkp
    refine wpAny_pure (hR s' L es ep t (hm.mono hsub) (hS.keep (fun o e => hm.heap S o hSw e) fun q hq => (hk q ?_).keep kp) g kp)
    exact List.mem_of_mem_take (g.sub q hq)
  | succ k ih =>
    intro i s hki hi hst hkp hL hR
    obtain ⟨L, es, ep, t, hS, g⟩ := hL
    have hlt : i < n := by omega
    refine codeAny_builtin F.entry_set_update_loop ?_
    rw [Around.under_plainId F.plain_set_update_loop _]
    refine wpAny_bind (W.item i s _ _ hlt hst fun v s' hP hst' hm => ?_)
    obtain ⟨q, hq, rfl⟩ := hval i v hP
    have kp := keepM hm hkp
    have hS' : SetN P w s'.heap S L es ep t := hS.keep (fun o e => hm.heap S o hSw e) fun z hz => (hk z (List.mem_of_mem_take (g.sub z hz))).keep kp
    have hx : KA P w s'.heap q.2 q.1 := (hk q (List.mem_of_getElem? hq)).keep kp
    show wpAny _ A.in1 (holding [Value.ref q.1] (setAdd S (.ref q.1)) >>= _) _ _ s'
    refine wpAny_bind (wpAny_holding ?_)
    unfold setAdd
    refine wpAny_holding ?_
    refine wpAny_bind ((nestedKind P w).pyHash (by exact hu) hx.is ?_)
    refine set_add (s := { s' with toks := s'.toks + (nestedKind P w).draws q.2 }) hS' hx hu (by have := g.len; omega) fun b h' L' es' ep' t' hsb hS2 c1 c2 => ?_
    have g' := g.step hq c1 c2
    have kp2 : ∀ b o, h0.get? b = some o → h'.get? b = some o := fun b o e => (hsb.2 b (fun z => by rw [z, hS0] at e; cases e)).trans (kp b o e)
    refine wpAny_pure ⟨plainId_quiet F.plain_set_update_loop _, ih (i + 1) _ (by omega) hlt (W.frame _ s' _ _ hst' (Nat.le_add_right _ _) fun b hb o e => ?_) kp2 ⟨L', es', ep', t', hS2, g'⟩ fun s'' L2 es2 ep2 t2 m2 hS'' g'' kp'' => ?_⟩
    · rw [hsb.2 b (fun z : b = S => hSf (by rw [← z]; exact hb))]
      exact e
    · refine hR s'' L2 es2 ep2 t2 (Moved.trans W.gtrans ((hm.mono hsub).then_heap (Nat.le_add_right _ _) fun b o hb e => ?_) m2) hS'' g'' kp''
      rw [hsb.2 b (fun z : b = S => hb (by rw [z]; exact List.mem_cons_self))]
      exact e
theorem call_setN {l : Addr} {items : Array Value} (ks : List (Addr × NestedKey)) {Q : Value → Shared → Prop} (hh : A.handled = none) (hl : s.heap.IsList l items) (hit : items.toList = ks.map fun q => Value.ref q.1)
    (hk : ∀ q ∈ ks, KA P w s.heap q.2 q.1) (h4 : ks.length ≤ 4) (hu : A.units + 12 < cLine)
    (h : ∀ (h' : Heap) (tk : Nat) L es ep t, SetN P w h' s.heap.objs.size L es ep t → Has ks ks.length L → (∀ b o, s.heap.get? b = some o → h'.get? b = some o) → Q (.ref s.heap.objs.size) { s with heap := h', toks := tk }) :
    wpAny (model P w) A (call (.type "set") [.ref l]) Q E s := by
  have hisz : items.size = ks.length := by
    have z := congrArg List.length hit
    simpa using z
  obtain ⟨c, tl, hmro⟩ := F.called_set.mro
  have hmade := F.called_set.made
  have hsub := F.called_set.sub
  refine wpAny_call (codeAny_of_tree ?_)
  show wpAny _ _ (callAny (.type "set") _) _ _ _
  refine wpAny_pure ⟨Code.quiet_builtin _ (by decide +kernel), codeAny_builtin F.entry_type_call ?_⟩
  rw [Around.under_plain (weight_type_call_type "set" [.ref l] []) rfl]
  have h1 := F.called_set.notType
  have h2 := F.called_set.canCreate
  have hct := F.typeCall_set_1 (.ref l)
  repeat (any_goals (first | assumption | wp_step))
  refine codeAny_mono (code_set_led1 (.ref l) (E := E) (Q₁ := fun obj s₁ => obj = .ref s.heap.objs.size ∧ s₁ = { s with heap := s.heap.push (newSet w) }) ⟨rfl, rfl⟩) fun r s₁ hr => ?_
  cases r with
  | error e => exact hr
  | ok fl =>
    cases fl with
    | ret obj =>
      obtain ⟨rfl, rfl⟩ := hr
      have hS : (s.heap.push (newSet w)).get? s.heap.objs.size = some (newSet w) := Heap.get?_push_size _ rfl
      have hT : Shared.TypeIs { s with heap := s.heap.push (newSet w) } (.ref s.heap.objs.size) "set" := ⟨_, hS, rfl⟩
      have hli := F.called_set.init.lookup
      have hbi := F.called_set.init.bind (.ref s.heap.objs.size)
      repeat (any_goals (first | assumption | wp_step))
      refine codeAny_mono (codeAny_call_builtin (R := wants (fun r s₂ => r = .none ∧ ∃ h' tk L es ep t, s₂ = { s with heap := h', toks := tk } ∧ SetN P w h' s.heap.objs.size L es ep t ∧ Has ks ks.length L ∧
          (∀ b o, s.heap.get? b = some o → h'.get? b = some o)) E) F.called_set.init.plain F.entry_set_init (check_set_init_1 hT ?_)) fun r₂ s₂ hr₂ => ?_
      · obtain ⟨ol, hol, hcl, nl, hdl⟩ := hl
        obtain ⟨ocls, odict, odata, oslots⟩ := ol
        simp only at hcl hdl
        subst hcl; subst hdl
        have hol' : (s.heap.push (newSet w)).get? l = some { cls := .type "list", dict := odict, data := .seq items nl, slots := oslots } := Heap.get?_push_of_some _ hol
        have hsls := F.sub_list_set
        have hslf := F.sub_list_frozenset
        have hne : (Value.type "list" == Value.type "dict") = false := by decide
        have hl1 : (s.heap.push (newSet w)).IsList l items := ⟨_, hol', rfl, nl, rfl⟩
        unfold Builtin.«set.__init__» noKeywords Builtin.Frozenset.updateFrom
        generalize hPI : pyIter = PI
        wp_walk
        subst hPI
        refine wpAny_pyIter_list hl1 ?_
        refine wpAny_bind (wpAny_runValue ?_)
        have hlS : l < s.heap.objs.size := Heap.lt_size hol
        have hh3 : A.in1.in1.in1.handled = none := by simp [hh]
        have hsz : (s.heap.push (newSet w)).objs.size = s.heap.objs.size + 1 := Heap.size_push ..
        have hneI : l ≠ (s.heap.push (newSet w)).objs.size := by rw [hsz]; exact Nat.ne_of_lt (Nat.lt_succ_of_lt hlS)
        have hSf : s.heap.objs.size ∉ [(s.heap.push (newSet w)).objs.size, l] := by
          rw [hsz]
          simp only [List.mem_cons, List.not_mem_nil, or_false, not_or]
          exact ⟨Nat.ne_of_lt (Nat.lt_succ_self _), Nat.ne_of_gt hlS⟩
        have hval : ∀ (i : Nat) (v : Value), items[i]? = some v → ∃ q, ks[i]? = some q ∧ v = .ref q.1 := fun i v hv => by
          have z : items.toList[i]? = some v := by rw [Array.getElem?_toList]; exact hv
          rw [hit, List.getElem?_map] at z
          obtain ⟨q, e1, e2⟩ := Option.map_eq_some_iff.mp z
          exact ⟨q, e1, e2.symm⟩
        have none_of : ∀ b, s.heap.objs.size ≤ b → s.heap.get? b = none := fun b hb => by
          cases z : s.heap.get? b with
          | none => rfl
          | some o => exact absurd (Nat.lt_of_lt_of_le (Heap.lt_size z) hb) (Nat.lt_irrefl _)
        refine upd_loop ((Walks.list hh3 _ l hneI items).toS) s.heap.objs.size hSf ks hisz h4 hval s.heap hk (none_of _ (Nat.le_refl _)) (fun b hb => none_of b (by
            rw [List.mem_singleton.mp hb, hsz]
            omega)) (by simp only [Around.in1_units]; omega) (items.size - 0) 0 _ (by omega) (Nat.zero_le _)
          ⟨⟨_, Heap.get?_push_size _ rfl, rfl, rfl⟩, (hl1.push _)⟩ (fun b o e => Heap.get?_push_of_some _ (Heap.get?_push_of_some _ e)) ?hS0 ?hR
        case hS0 => exact ⟨[], #[], 0, _, setN_new (Heap.get?_push_of_some _ hS), Has.zero ks⟩
        case hR =>
          intro s' L es ep t hm hS' g' hkp
          obtain ⟨h', g2, d', tk', os'⟩ := s'
          have eg : g2 = s.gens := hm.gens
          have ed : d' = s.drawn := hm.drawn
          have eo : os' = s.os := hm.os
          subst eg; subst ed; subst eo
          refine wpAny_pure ?_
          show wpAny _ _ (ret Value.none) _ _ _
          rw [hisz] at g'
          exact wpAny_pure ⟨rfl, h', tk', L, es, ep, t, rfl, hS', g', hkp⟩
      · cases r₂ with
        | error e => exact hr₂
        | ok fl₂ =>
          cases fl₂ with
          | ret r =>
            obtain ⟨rfl, h', tk, L, es, ep, t, rfl, hS', g', hk'⟩ := hr₂
            repeat (any_goals (first | assumption | wp_step))
            exact h _ _ _ _ _ _ hS' g' hk'
          | _ => exact hr₂.elim
    | _ => exact hr.elim
end
end Wy

set_option Elab.async false
set_option linter.all false
set_option maxRecDepth 100000
set_option maxHeartbeats 4000000
/-! WS4: sorting. -/
namespace Wy
open PySem PySem.Spec PyProof.Rows L2 PySem.W PySem.SeqAt

/-- a list that can be sorted -/
def okSort (ds : List PyData) : Bool := (ds.all fun d => ds.all fun d' => alike d d') && decide (ds.length ≤ 1000) && ds.all (fun d => decide (d.depth ≤ 60)) && ds.all (fun d => d.canLay0) &&
  (ds.all (fun d => match d with | .tuple (_ :: _) => true | _ => false) || ds.all (fun d => match d with | .tuple _ => false | .none => false | _ => true) ||
    (match ds with | .tuple [] :: r => r.all (fun d => match d with | .tuple _ => true | _ => false) | _ => false))
theorem okSort_alike {ds : List PyData} (h : okSort ds = true) : AllAlike ds := by
  unfold okSort at h
  simp only [Bool.and_eq_true] at h
  intro d hd d' hd'
  exact List.all_eq_true.mp (List.all_eq_true.mp h.1.1.1.1 d hd) d' hd'
section
variable {prog : Program} {w : World} {A : Around} {E : Value → Shared → Prop} {s : Shared}
theorem call_tuple_lt {Q : Value → Shared → Prop} {l b : Addr} {items items2 : Array Value} {e r : Nat → Bool} (hl : s.heap.IsTuple l items) (hb : s.heap.IsTuple b items2)
    (he : ∀ j (h1 : j < items.size) (h2 : j < items2.size), EqAt A.in1 s items[j] items2[j] (e j)) (hr : ∀ j (h1 : j < items.size) (h2 : j < items2.size), e j = false → RcLt A.in1 s items[j] items2[j] (r j))
    (h : Q (.bool (firstLt e r (decide (items.size < items2.size)) (List.range (min items.size items2.size)))) s) : wpAny (model prog w) A (call (.builtin "tuple.__lt__") [.ref l, .ref b]) Q E s := by
  obtain ⟨⟨c1, dd, da, sl⟩, ho, hc, n, hd⟩ := id hl
  obtain ⟨⟨c2, dd2, da2, sl2⟩, ho2, hc2, n2, hd2⟩ := id hb
  simp only at hc hd hc2 hd2
  subst hc hd hc2 hd2
  exact call_meets F.slot_tuple_lt ⟨_, ho, rfl⟩ F.entry_tuple_lt (F.args_tuple_lt_2 _ _) (tuple_ltAt l b items items2 n n2 dd dd2 sl sl2 e r) ⟨ho, ho2, he, hr, h⟩
/-- two tuples, as sorting compares keys of one type -/
theorem oneLt_tup {xs ys : List PyData} {a b : Value} {as bs : List Addr} {Q : Bool → Shared → Prop} (ra : Reads s.heap a (.tuple xs) as) (rb : Reads s.heap b (.tuple ys) bs) (hal : alikeAll xs ys = true)
    (hu : A.units + min (PyData.tuple xs).depth (PyData.tuple ys).depth < cLine) (hq : Q (dataLt (.tuple xs) (.tuple ys)) s) : wpAny (model prog w) A (oneLt' true a b) Q E s := by
  cases ra with
  | @tuple l o vs n _ as₁ h1 h2 h3 h4 =>
    cases rb with
    | @tuple l' o' vs' n' _ bs₁ k1 k2 k3 k4 =>
      have n1 : vs.size = xs.length := by simpa using ReadsAll.length _ _ _ h4
      have n2 : vs'.size = ys.length := by simpa using ReadsAll.length _ _ _ k4
      rw [dataLt_tuple, ← firstLt_toks xs ys hal, ← n1, ← n2] at hq
      rw [oneLt'_eq]
      simp only [if_true]
      refine wpAny_bind (wpAny_cRoomFor (room_here hu) ?_)
      refine wpAny_bind (wpAny_callSpecialIfBound?_slot (T := "tuple") ⟨_, h1, h2⟩ F.slot_tuple_lt (call_tuple_lt (e := pairEq xs ys) (r := fun j => dataLt (xs.getD j .none) (ys.getD j .none)) ⟨_, h1, h2, _, h3⟩ ⟨_, k1, k2, _, k3⟩ (fun j j1 j2 => ?_) (fun j j1 j2 hj => ?_) ?_))
      · have := eqAt_alikeAll xs ys A.in1 s vs.toList vs'.toList _ _ h4 k4 hal (room_in hu) j (by simpa using j1) (by simpa using j2)
        simpa using this
      · have := rcLt_alikeAll xs ys A.in1 s vs.toList vs'.toList _ _ h4 k4 hal (room_in hu) j (by simpa using j1) (by simpa using j2) hj
        simpa using this
      · exact wpAny_truthy_bool hq
theorem mapM_by {M : Model} {α β : Type} {f : α → Sem β} (g : α → β) : ∀ (l : List α) {Q : List β → Shared → Prop}, (∀ v ∈ l, ∀ (Q' : β → Shared → Prop), Q' (g v) s → wpAny M A (f v) Q' E s) → Q (l.map g) s → wpAny M A (l.mapM f) Q E s
  | [], Q, _, h => by
    rw [List.mapM_nil]
    exact wpAny_pure h
  | x :: l, Q, hf, h => by
    rw [List.mapM_cons]
    refine wpAny_bind (hf x List.mem_cons_self _ (wpAny_bind ?_))
    exact mapM_by g l (Q := fun bs s' => wpAny M A (pure (g x :: bs)) Q E s') (fun v hv => hf v (List.mem_cons_of_mem _ hv)) (wpAny_pure h)
/-- the first item of the tuple v -/
def firstAt (h : Heap) (v : Value) : Option Value := match v with
  | .ref a => match h.get? a with
    | some o => match o.data with
      | .seq vs _ => vs[0]?
      | _ => none
    | none => none
  | _ => none
theorem first_ok {v : Value} {xs : List PyData} {as : List Addr} {M : Model} (r : Reads s.heap v (.tuple xs) as) {Q : Option Value → Shared → Prop} (q : Q (firstAt s.heap v) s) : wpAny M A (firstOfTuple' v) Q E s := by
  cases r with
  | @tuple a o vs n _ _ h1 h2 h3 h4 =>
    have e : firstAt s.heap (.ref a) = vs[0]? := by
      unfold firstAt
      simp only [h1, h3]
    rw [e] at q
    rw [kas_first_eq]
    refine wpAny_bind (wpAny_typeOf (T := "tuple") ⟨_, h1, h2⟩ ?_)
    rw [if_neg (by decide)]
    exact wpAny_bind (listItems_at h1 h3 (wpAny_pure q))
/-- tuples, an empty one first -/
theorem sorts_empty {vs : List Value} {ds : List PyData} (e : EachIs (fun v d => ∃ as, Reads s.heap v d as) vs (.tuple [] :: ds)) (hal : AllAlike (.tuple [] :: ds)) (ht : ∀ d ∈ ds, ∃ xs, d = .tuple xs) (hu : ∀ d, d ∈ PyData.tuple [] :: ds → A.units + d.depth < cLine) :
    SortsAt prog w A s (dataKind s.heap (.tuple [] :: ds)) vs := by
  have room : ∀ {d d' : PyData}, d ∈ PyData.tuple [] :: ds → A.units + min d.depth d'.depth < cLine := fun {d d'} hd => Nat.lt_of_le_of_lt (Nat.add_le_add_left (Nat.min_le_left _ _) _) (hu d hd)
  have tup : ∀ d ∈ PyData.tuple [] :: ds, ∃ xs, d = .tuple xs := fun d hd => by
    rcases List.mem_cons.mp hd with z | z
    · exact ⟨[], z⟩
    · exact ht d z
  refine ⟨fun v hv => ?_, oneType', fun E x y a b Q ha hb hq => ?_, fun h2 E Q hq => ?_⟩
  · obtain ⟨d, hd, as, r⟩ := e.left v hv
    exact ⟨_, dataKind_some hal hd r⟩
  · obtain ⟨d, as, hd, ra, rfl⟩ := dataKind_inv ha
    obtain ⟨d', as', hd', rb, rfl⟩ := dataKind_inv hb
    rw [keyLt'_oneType]
    have hdd := hal d hd d' hd'
    obtain ⟨xs, rfl⟩ := tup d hd
    obtain ⟨ys, rfl⟩ := tup d' hd'
    exact oneLt_tup ra rb (by simpa [alike] using hdd) (room (d' := .tuple ys) hd) hq
  · cases e with
    | @cons v1 _ rest _ r1 rs =>
      obtain ⟨as1, r1⟩ := r1
      have all1 : ∀ v ∈ v1 :: rest, ∃ xs as, Reads s.heap v (.tuple xs) as := fun v hv => by
        rcases List.mem_cons.mp hv with z | z
        · exact ⟨[], as1, by rw [z]; exact r1⟩
        · obtain ⟨d, hd, as, r⟩ := rs.left v z
          obtain ⟨xs, rfl⟩ := ht d hd
          exact ⟨xs, as, r⟩
      rw [keyKind'_eq, List.mapM_toArray, map_eq_pure_bind]
      refine wpAny_bind (wpAny_bind (mapM_by (firstAt s.heap) _ (fun v hv Q' hq => ?_) (wpAny_pure ?_)))
      · obtain ⟨xs, as, r⟩ := all1 v hv
        exact first_ok r hq
      · have e1 : firstAt s.heap v1 = none := by
          cases r1 with
          | @tuple a o vs n _ _ h1 h2 h3 h4 =>
            have hz : vs.toList = [] := by
              cases q : vs.toList with
              | nil => rfl
              | cons _ _ => rw [q] at h4; cases h4
            unfold firstAt
            simp only [h1, h3]
            rw [← Array.getElem?_toList, hz]
            rfl
        rw [List.map_cons, e1, if_neg (by simp), if_neg (by simp)]
        rw [oneTypeOnly'_eq, List.mapM_toArray, map_eq_pure_bind]
        refine wpAny_bind (wpAny_bind (wpAny_bind (mapM_by (fun _ => Value.type "tuple") _ (fun v hv Q' hq => ?_) (wpAny_pure ?_))))
        · obtain ⟨xs, as, r⟩ := all1 v hv
          exact (looks_reads r).here hq
        · have hall : ((List.map (fun _ => Value.type "tuple") (v1 :: rest)).toArray.all fun x => x == Value.type "tuple") = true := by
            simp only [List.all_toArray, List.all_map, List.all_eq_true]
            intro _ _
            exact beq_self_eq_true _
          have h0 : (List.map (fun _ => Value.type "tuple") (v1 :: rest)).toArray[0]? = some (Value.type "tuple") := by simp
          rw [h0]
          simp only [hall, if_true]
          exact wpAny_pure (wpAny_pure hq)
theorem okSort_at {vs : List Value} {ds : List PyData} (h : okSort ds = true) (e : EachIs (fun v d => ∃ as, Reads s.heap v d as) vs ds) (hu : A.units + 60 < cLine) : SortsAt prog w A s (dataKind s.heap ds) vs := by
  have hal := okSort_alike h
  unfold okSort at h
  simp only [Bool.and_eq_true, Bool.or_eq_true] at h
  have hd : ∀ d, d ∈ ds → A.units + d.depth < cLine := fun d hd => by
    have := of_decide_eq_true (List.all_eq_true.mp h.1.1.2 d hd)
    omega
  rcases h.2 with (k | k) | k
  · refine SortsAt.data e hal (.inl fun d hd => ?_) hd
    have z := List.all_eq_true.mp k d hd
    split at z
    · exact ⟨_, _, rfl⟩
    · cases z
  · refine SortsAt.data e hal (.inr fun d hd => ?_) hd
    have z := List.all_eq_true.mp k d hd
    split at z
    · cases z
    · cases z
    · rename_i n1 n2
      exact ⟨n2, n1⟩
  · split at k
    · refine sorts_empty e hal (fun d hd => ?_) hd
      have z := List.all_eq_true.mp k d hd
      split at z
      · exact ⟨_, rfl⟩
      · cases z
    · cases k
end
end Wy

set_option Elab.async false
set_option linter.all false
set_option maxRecDepth 100000
set_option maxHeartbeats 4000000
/-! W15: sorted; sorted of a set; small things. -/
namespace Wy
open PySem PySem.Spec PyProof.Rows L2 PySem.W PySem.SeqAt
theorem hu5 {k : Nat} {A : Around} (h : Room k A) : A.units + 65 < cLine := by have := h.un; omega
theorem hu4 {k : Nat} {A : Around} (h : Room k A) : A.units + 64 < cLine := by have := h.un; omega
section
variable {P : Program} {w : World} {K : PySem.W.Frag} {mg : Str → Option Value} {base : Heap} {f : Addr} {fd : FuncData}
theorem Cal.mono {k k' n : Nat} {x : Str} {F : Fn} (h : Cal P w K mg base k n x F) (l : k ≤ k') : Cal P w K mg base k' n x F := by
  obtain ⟨f, fd, ps, a, b⟩ := h.ex
  exact ⟨f, fd, ps, a.mono l, b⟩
theorem cal_bad {k n : Nat} {x : Str} {st : Stmt} {ps : List Str} (F : FnP K x st f fd) (hn : ps.length = n) (gm : mg x = some (.ref f)) (b : Binds K fd ps []) : Cal P w K mg base k n x (fun _ _ => .bad) :=
  ⟨f, fd, ps, ⟨fun vs H Q E h => by rw [hn]; exact h.1, fun A outer s H args us vs Q E hr he hb hv hs => by obtain ⟨_, Z, B, m, ws, _, _, q⟩ := hs; exact q.elim⟩, gm, F.kp, b⟩
end
abbrev msD (ds : List PyData) : List PyData := ds.mergeSort (dataLe false id)
def insD (x : PyData) : List PyData → List PyData
  | [] => [x]
  | y :: ys => if dataLe false (id : PyData → PyData) x y = true then x :: y :: ys else y :: insD x ys
/-- sorted, as the kernel can count it out -/
def sortD : List PyData → List PyData
  | [] => []
  | x :: xs => insD x (sortD xs)
theorem dataLe_tot : TotalLe (dataLe false (id : PyData → PyData)) := sortLe_total _ _ _
theorem ins_mem {x z : PyData} : ∀ {ys : List PyData}, z ∈ insD x ys ↔ z = x ∨ z ∈ ys
  | [] => by simp [insD]
  | y :: ys => by
    rw [insD]
    split
    · simp
    · rw [List.mem_cons, ins_mem, List.mem_cons]
      constructor
      · rintro (h | h | h)
        · exact .inr (.inl h)
        · exact .inl h
        · exact .inr (.inr h)
      · rintro (h | h | h)
        · exact .inr (.inl h)
        · exact .inl h
        · exact .inr (.inr h)
theorem ins_pw {x : PyData} : ∀ {ys : List PyData}, ys.Pairwise (fun a b => dataLe false (id : PyData → PyData) a b = true) → (insD x ys).Pairwise (fun a b => dataLe false (id : PyData → PyData) a b = true)
  | [], _ => by simp [insD]
  | y :: ys, h => by
    cases h with
    | cons h1 h2 =>
      rw [insD]
      split
      · rename_i c
        refine .cons (fun z hz => ?_) (.cons h1 h2)
        rcases List.mem_cons.mp hz with e | hz
        · rw [e]; exact c
        · exact dataLe_tot.trans _ _ _ c (h1 z hz)
      · rename_i c
        refine .cons (fun z hz => ?_) (ins_pw h2)
        rcases ins_mem.mp hz with e | hz
        · rw [e]
          exact (dataLe_tot.total y x).resolve_right c
        · exact h1 z hz
theorem ins_rank {x c : PyData} : ∀ ys : List PyData, (insD x ys).filter (sameRank (dataLe false (id : PyData → PyData)) c) = (x :: ys).filter (sameRank (dataLe false (id : PyData → PyData)) c)
  | [] => rfl
  | y :: ys => by
    rw [insD]
    split
    · rfl
    · rename_i h
      rw [List.filter_cons, ins_rank ys, List.filter_cons, List.filter_cons, List.filter_cons]
      by_cases e1 : sameRank (dataLe false (id : PyData → PyData)) c y = true
      · by_cases e2 : sameRank (dataLe false (id : PyData → PyData)) c x = true
        · exfalso
          unfold sameRank at e1 e2
          rw [Bool.and_eq_true] at e1 e2
          exact h (dataLe_tot.trans _ _ _ e2.2 e1.1)
        · rw [if_pos e1, if_neg e2, if_neg e2, if_pos e1]
      · rw [if_neg e1, if_neg e1]
theorem sortD_eq (ds : List PyData) : sortD ds = msD ds := by
  refine sort_unique dataLe_tot ?_ fun c => ?_
  · induction ds with
    | nil => exact .nil
    | cons d ds ih => exact ins_pw ih
  · induction ds with
    | nil => rfl
    | cons d ds ih => rw [sortD, ins_rank, List.filter_cons, List.filter_cons, ih]
/-- a V and its datum, and the value that it is -/
abbrev Rz (p : Pl) (H : Hp) (B : List Addr) : Value → V × PyData → Prop := fun u b => RelV b.1 u ∧ DV p H B b.1 b.2
section
variable {p : Pl} {H : Hp} {B : List Addr}
theorem each_zip : ∀ {xs : List V} {us : List Value} {ds : List PyData}, Vals xs us → DVs p H B xs ds → EachIs (Rz p H B) us (xs.zip ds) ∧ (xs.zip ds).map Prod.snd = ds
  | _, _, _, .nil, .nil => ⟨.nil, rfl⟩
  | _, _, _, .cons r t, .cons d e => by
    obtain ⟨h1, h2⟩ := each_zip t e
    exact ⟨.cons ⟨r, d⟩ h1, by rw [List.zip_cons_cons, List.map_cons, h2]⟩
theorem unzip_each : ∀ {us : List Value} {bs : List (V × PyData)}, EachIs (Rz p H B) us bs → Vals (bs.map Prod.fst) us ∧ DVs p H B (bs.map Prod.fst) (bs.map Prod.snd)
  | _, _, .nil => ⟨.nil, .nil⟩
  | _, _, .cons h t => by
    obtain ⟨h1, h2⟩ := unzip_each t
    exact ⟨.cons h.1 h1, .cons h.2 h2⟩
end
theorem each_in {α β : Type} {R R' : α → β → Prop} : ∀ {as : List α} {bs : List β}, EachIs R as bs → (∀ a b, b ∈ bs → R a b → R' a b) → EachIs R' as bs
  | _, _, .nil, _ => .nil
  | _, _, .cons h t, f => .cons (f _ _ List.mem_cons_self h) (each_in t fun a b hb r => f a b (List.mem_cons_of_mem _ hb) r)
section
variable {X : Cx} {E : XK} {e a b c : Expr} {fa fb fc f : FE} {pos : Pos}
def gSorted (ws : List W) (m : Mu) : R W := match ws with
  | [w] => match fix m w with
    | some (.list ds) => if okSort ds = true then .ok (.d (.list (sortD ds))) m else .bad
    | _ => .bad
  | _ => .bad
theorem okSort_lay {ds : List PyData} (h : okSort ds = true) : (∀ d ∈ ds, d.canLay0 = true) ∧ ds.length ≤ 1000 := by
  unfold okSort at h
  simp only [Bool.and_eq_true] at h
  exact ⟨fun d hd => List.all_eq_true.mp h.1.2 d hd, of_decide_eq_true h.1.1.1.2⟩
theorem cw_sorted (hc : X.calm = true) (hu : X.A.units + 65 < cLine) : CallW X E (.builtin "sorted") gSorted := by
  rintro pins s σ H xs us Q I r ⟨Z, B, m, ws, so, hw, q⟩
  unfold gSorted at q
  split at q
  · rename_i w0
    obtain ⟨x, rfl, ha⟩ := wvs1 hw
    split at q
    · rename_i ds ef
      split at q
      · rename_i z
        obtain ⟨l, zs, rfl, hl, hd⟩ := ha.items so ef
        rw [Vals.ref1 r]
        obtain ⟨its, rv, pl, hz⟩ := I.list (.inl hl)
        obtain ⟨e1, e2⟩ := each_zip rv hd
        have er : EachIs (fun v (b : V × PyData) => ∃ as, Reads s.heap v b.2 as) its (zs.zip ds) := each_in e1 fun v b hb rb => by
          have hm : b.2 ∈ ds := by rw [← e2]; exact List.mem_map.mpr ⟨b, hb, rfl⟩
          exact Dp.reads I b.2 b.1 v (rb.2.dp ((okSort_lay z).1 _ hm)) rb.1
        have er' : EachIs (fun v (b : V × PyData) => ∃ as, Reads (sortingHeap (copyHeap s.heap its) (s.heap.objs.size + 1) its) v b.2 as) its (zs.zip ds) := er.mono fun _ _ ⟨as, r⟩ => ⟨as, PyProof.Rows.Reads.keeps (fun _ _ => sorting_copy_old) r⟩
        have hal := okSort_alike z
        rw [← e2] at hal z
        have hlen : its.length ≤ 1000 := by
          have h1 := rv.length
          have h2 := hd.length
          have h3 := (okSort_lay z).2
          rw [e2] at h3
          omega
        refine sorted_vals pl.isList (okSort_at (s := { s with heap := sortingHeap (copyHeap s.heap its) (s.heap.objs.size + 1) its }) z (each_map (R := fun v d => ∃ as, Reads (sortingHeap (copyHeap s.heap its) (s.heap.objs.size + 1) its) v d as) Prod.snd er') (by simp only [Around.in1_units]; omega)) (le1000 hlen) ?_
        have eo := sortVals_data false e1 er' hal
        generalize sortVals (dataKind (sortingHeap (copyHeap s.heap its) (s.heap.objs.size + 1) its) ((zs.zip ds).map Prod.snd)) false its its = out at eo ⊢
        obtain ⟨vals, dvs⟩ := unzip_each eo
        rw [sortD_eq] at q
        have ed : ((zs.zip ds).mergeSort (dataLe false Prod.snd)).map Prod.snd = msD ds :=
          (sort_maps (r := dataLe false Prod.snd) (s := dataLe false id) Prod.snd (l := zs.zip ds) (fun a _ b _ => rfl)).trans (by rw [e2])
        rw [ed] at dvs
        obtain ⟨ep, he⟩ := PyProof.Rows.sortedAll_at s.heap its out.toArray
        have hf : H (s.heap.objs.size + 1) = none := I.hok.fresh (Nat.le_succ _)
        have hl2 : (((zs.zip ds).mergeSort (dataLe false Prod.snd)).map Prod.fst).length ≤ sizeLine := by
          rw [List.length_map, List.length_mergeSort]
          refine le1000 ?_
          rw [List.length_zip]
          have h3 := (okSort_lay z).2
          rw [e2] at h3
          omega
        exact ⟨.ref _, upd H (s.heap.objs.size + 1) (.lst _), I.laid (t' := s.toks) (fun _ _ => PyProof.Rows.sortedAll_old) (Nat.le_succ _) ⟨hl2, out, ep, vals, he⟩, rfl, Post.fresh q so hf (.d (DV.topL so hf dvs))⟩
      · exact q.elim
    · exact q.elim
  · exact q.elim
end
/-! ### sorted(set(xs)) -/
def dedupD : List PyData → List PyData
  | [] => []
  | d :: ds => d :: (dedupD ds).filter fun x => !pdb x d
def strictB : List PyData → Bool
  | [] => true
  | d :: ds => ds.all (fun x => dataLt d x) && strictB ds
def okSet (ds : List PyData) : Bool := decide (ds.length ≤ 4) && ds.all (fun d => okKey d && numy (keyOf d)) && ds.all (fun d => ds.all fun d' => !decide (keyOf d = keyOf d') || pdb d d') && okSort ds &&
  ds.all (fun d => match d with | .tuple (_ :: _) => true | _ => false) && strictB (sortD (dedupD ds))
theorem mem_dedup {x : PyData} : ∀ {ds : List PyData}, x ∈ dedupD ds ↔ x ∈ ds
  | [] => by simp [dedupD]
  | d :: ds => by
    rw [dedupD, List.mem_cons, List.mem_cons, List.mem_filter, mem_dedup]
    constructor
    · rintro (h | h)
      · exact .inl h
      · exact .inr h.1
    · rintro (h | h)
      · exact .inl h
      · by_cases e : pdb x d = true
        · exact .inl (pdb_eq _ _ e)
        · exact .inr ⟨h, by simpa using e⟩
theorem nd_dedup : ∀ ds : List PyData, (dedupD ds).Nodup
  | [] => List.nodup_nil
  | d :: ds => by
    rw [dedupD, List.nodup_cons]
    refine ⟨fun h => ?_, (nd_dedup ds).filter _⟩
    have := (List.mem_filter.mp h).2
    rw [pdb_refl] at this
    cases this
theorem strict_pw : ∀ {ds : List PyData}, strictB ds = true → ds.Pairwise fun x y => dataLt x y = true
  | [], _ => .nil
  | d :: ds, h => by
    have h' : ds.all (fun x => dataLt d x) = true ∧ strictB ds = true := by simpa [strictB] using h
    exact .cons (fun x hx => List.all_eq_true.mp h'.1 x hx) (strict_pw h'.2)
/-- a list in strict order is what any arrangement of it is sorted to -/
theorem sort_perm {l m : List PyData} (pm : l.Perm m) (h : strictB (msD m) = true) : msD l = msD m := by
  have pw := strict_pw h
  refine (sort_unique dataLe_tot (sort_pairwise dataLe_tot m) fun c => ?_).symm
  have p2 : (msD m).Perm l := (List.mergeSort_perm m _).trans pm.symm
  -- at most one of a rank
  have one : ∀ k : List PyData, k.Perm (msD m) → (k.filter (sameRank (dataLe false id) c)).length ≤ 1 := by
    intro k hk
    rw [((hk.filter _).length_eq)]
    generalize msD m = z at pw
    clear hk p2 pm h
    induction pw with
    | nil => exact Nat.zero_le _
    | @cons x z hx pz ih =>
      rw [List.filter_cons]
      split
      · rename_i hr
        have em : z.filter (sameRank (dataLe false id) c) = [] := by
          rw [List.filter_eq_nil_iff]
          intro y hy hr2
          unfold sameRank at hr hr2
          rw [Bool.and_eq_true] at hr hr2
          have h1 := dataLe_tot.trans _ _ _ hr2.2 hr.1
          have h2 : dataLe false (id : PyData → PyData) y x = !dataLt x y := rfl
          rw [h2, hx y hy] at h1
          cases h1
        rw [em]
        exact Nat.le_refl _
      · exact ih
  have p3 : ((msD m).filter (sameRank (dataLe false id) c)).Perm (l.filter (sameRank (dataLe false id) c)) := p2.filter _
  have h1 := one (msD m) (List.Perm.refl _)
  have h2 := one l p2.symm
  generalize (msD m).filter (sameRank (dataLe false id) c) = u at p3 h1
  generalize l.filter (sameRank (dataLe false id) c) = v at p3 h2
  match u, v, h1, h2, p3 with
  | [], [], _, _, _ => rfl
  | [x], [y], _, _, p => exact List.perm_singleton.mp p ▸ rfl
  | [], [y], _, _, p => exact absurd p.length_eq (by simp)
  | [x], [], _, _, p => exact absurd p.length_eq (by simp)
theorem reads_key {h : Heap} : (∀ {d : PyData} {v : Value} {as : List Addr}, Reads h v d as → keyable d = true → as = []) := by
  intro d v as r
  refine Reads.rec (motive_1 := fun v d as _ => keyable d = true → as = []) (motive_2 := fun vs ds as _ => keyables ds = true → as = []) (fun _ => rfl) (fun _ _ => rfl) (fun _ _ _ => rfl) (fun _ _ _ => rfl) ?_ ?_ ?_ (fun _ => rfl) ?_ r
  · intro a o vs n xs as h1 h2 h3 h4 ih k
    simp [keyable] at k
  · intro a o vs n xs as h1 h2 h3 h4 ih k
    exact ih (by simpa [keyable] using k)
  · intros
    rename_i k
    simp [keyable] at k
  · intro v vs d ds as bs h1 h2 i1 i2 k
    have k' : keyable d = true ∧ keyables ds = true := by simpa [keyables] using k
    rw [i1 k'.1, i2 k'.2]
    rfl
def unref : Value → Addr
  | .ref a => a
  | _ => 0
section
variable {P : Program} {w : World} {A : Around} {E : Value → Shared → Prop} {s : Shared} {a : Addr} {L : List (Addr × NestedKey)} {es : Array (Int × Value)} {ep : Nat} {t : SetTable}
theorem call_sortedN {Q : Value → Shared → Prop} (R : SetN P w s.heap a L es ep t) (hh : A.handled = none) (D : Addr → PyData) (hD : ∀ q ∈ L, (∃ as, Reads s.heap (.ref q.1) (D q.1) as) ∧ keyable (D q.1) = true ∧ (D q.1).depth ≤ 60 ∧ ∃ x r, D q.1 = .tuple (x :: r))
    (hal : AllAlike (L.map fun q => D q.1)) (hu : A.units + 65 < cLine)
    (hQ : ∀ s' p (out : List Value) (c : Nat) (L1 : List Addr), (∀ b o, s.heap.get? b = some o → s'.heap.get? b = some o) → s'.gens = s.gens → s'.os = s.os → s.heap.objs.size ≤ p →
      s'.heap.get? p = some (seqObj "list" out.toArray c) → L1.Perm (L.map (·.1)) → out = (L1.mergeSort (dataLe false D)).map Value.ref → Q (.ref p) s') :
    wpAny (model P w) A (call (.builtin "sorted") [.ref a]) Q E s := by
  obtain ⟨o, ho, hex, hd⟩ := R.ob
  have hsz := R.size
  have hfew := R.few
  refine Calls.call_function_entry kind_sorted plain_sorted entry_sorted (args_sorted1 _) ?_
  unfold Builtin.«sorted»
  refine wpAny_bind (m := checkCount "sorted" 1 1 _) (wpAny_pure ?_)
  refine wpAny_bind (collect_set (A := A.in1) hh ⟨o, ho, hex.1, hd⟩ R.fits (by unfold scanBound; omega) R.tab.ris R.led fun s1 vs k1 hz g1 o1 pm => ?_)
  have e0 : es.toList.map (·.2) = (L.map (·.1)).map Value.ref := by
    rw [R.rows, List.map_map, List.map_map]
    rfl
  rw [e0] at pm
  have ev : vs = (vs.map unref).map Value.ref := by
    rw [List.map_map]
    refine (List.map_id vs).symm.trans (List.map_congr_left fun v hv => ?_)
    obtain ⟨b, _, e⟩ := List.mem_map.mp (pm.mem_iff.mp hv)
    rw [← e]
    rfl
  have p1 : (vs.map unref).Perm (L.map (·.1)) := by
    have z := pm.map unref
    rw [List.map_map] at z
    have e : (L.map (·.1)).map (unref ∘ Value.ref) = L.map (·.1) := (List.map_congr_left fun _ _ => rfl).trans (List.map_id _)
    rw [e] at z
    exact z
  generalize vs.map unref = L1 at ev p1
  have hvl : L1.length ≤ 4 := by rw [p1.length_eq, List.length_map]; exact hfew
  have hlen : vs.length ≤ 4 := by rw [ev, List.length_map]; exact hvl
  refine wpAny_bind (wpAny_newList ?_ (by rw [sizeLine_eq]; omega))
  have hoL : (s1.heap.push (seqObj "list" vs.toArray 0)).get? s1.heap.objs.size = some (seqObj "list" vs.toArray 0) := Heap.get?_push_size _ rfl
  have mem : ∀ b ∈ L1, ∃ q ∈ L, q.1 = b := fun b hb => by
    obtain ⟨q, hq, e⟩ := List.mem_map.mp (p1.mem_iff.mp hb)
    exact ⟨q, hq, e⟩
  have eR : EachIs (fun (v : Value) (b : Addr) => v = .ref b) vs L1 := by
    rw [ev]
    have go : ∀ L1 : List Addr, EachIs (fun (v : Value) (b : Addr) => v = .ref b) (L1.map Value.ref) L1 := by
      intro L1
      induction L1 with
      | nil => exact .nil
      | cons b L1 ih => exact .cons rfl ih
    exact go L1
  have eD : EachIs (fun v b => ∃ as, Reads (s1.heap.push (seqObj "list" vs.toArray 0)) v (D b) as ∧ s1.heap.objs.size ∉ as) vs L1 := each_in eR fun v b hb e => by
    obtain ⟨q, hq, rfl⟩ := mem b hb
    obtain ⟨⟨as, r⟩, k, _⟩ := hD q hq
    subst e
    refine ⟨as, PyProof.Rows.Reads.keeps (fun c u z => Heap.get?_push_of_some _ (k1 c u z)) r, ?_⟩
    rw [reads_key r k]
    simp
  have al1 : AllAlike (L1.map D) := fun d hd d' hd' => by
    obtain ⟨b, hb, rfl⟩ := List.mem_map.mp hd
    obtain ⟨b', hb', rfl⟩ := List.mem_map.mp hd'
    obtain ⟨q, hq, rfl⟩ := mem b hb
    obtain ⟨q', hq', rfl⟩ := mem b' hb'
    exact hal _ (List.mem_map.mpr ⟨q, hq, rfl⟩) _ (List.mem_map.mpr ⟨q', hq', rfl⟩)
  have st : Sortable (L1.map D) := .inl fun d hd => by
    obtain ⟨b, hb, rfl⟩ := List.mem_map.mp hd
    obtain ⟨q, hq, rfl⟩ := mem b hb
    exact (hD q hq).2.2.2
  refine wpAny_bind (wpAny_holding (list_sort_data (s := { s1 with heap := s1.heap.push (seqObj "list" vs.toArray 0) }) (enc := D) hoL eR eD al1 st (by rw [sizeLine_eq]; omega) (fun b hb => ?_) fun out ol oe => ?_))
  · obtain ⟨q, hq, rfl⟩ := mem b hb
    have := (hD q hq).2.2.1
    simp only [Around.in1_units]
    omega
  · obtain ⟨c, hc⟩ := sortedHeap_at (vs := vs) (out := out.toArray) hoL
    have eo : out = (L1.mergeSort (dataLe false D)).map Value.ref := by
      have go : ∀ {out : List Value} {z : List Addr}, EachIs (fun (v : Value) (b : Addr) => v = .ref b) out z → out = z.map Value.ref := by
        intro out z oe
        induction oe with
        | nil => rfl
        | cons h t ih => rw [List.map_cons, h, ih]
      exact go oe
    refine wpAny_pure ⟨_, rfl, hQ _ s1.heap.objs.size out c L1 (fun b u e => ?_) g1 o1 hz hc p1 eo⟩
    have q := k1 b u e
    have hlt := Heap.lt_size q
    show (sortedHeap (s1.heap.push (seqObj "list" vs.toArray 0)) s1.heap.objs.size vs out.toArray).get? b = some u
    rw [sortedHeap_old (Nat.ne_of_lt hlt) (by rw [size_push']; exact Nat.lt_succ_of_lt hlt)]
    exact Heap.get?_push_of_some _ q
end
section
variable {X : Cx} {E : XK} {a : Expr} {fa : FE} {pos : Pos}
def fSortedSet (f : FE) : FE := fun r m => (f r m).bind fun w m1 => match fix m1 w with
  | some (.list ds) => if okSet ds = true then .ok (.d (.list (sortD (dedupD ds)))) m1 else .bad
  | _ => .bad
theorem okSet_of {ds : List PyData} (h : okSet ds = true) : ds.length ≤ 4 ∧ (∀ d ∈ ds, okKey d = true ∧ numy (keyOf d) = true) ∧ (∀ d ∈ ds, ∀ d' ∈ ds, keyOf d = keyOf d' → d = d') ∧ okSort ds = true ∧ (∀ d ∈ ds, ∃ x r, d = .tuple (x :: r)) ∧ strictB (sortD (dedupD ds)) = true := by
  unfold okSet at h
  simp only [Bool.and_eq_true] at h
  refine ⟨of_decide_eq_true h.1.1.1.1.1, fun d hd => ?_, fun d hd d' hd' e => ?_, h.1.1.2, fun d hd => ?_, h.2⟩
  · have z := List.all_eq_true.mp h.1.1.1.1.2 d hd
    rw [Bool.and_eq_true] at z
    exact z
  · have z := List.all_eq_true.mp (List.all_eq_true.mp h.1.1.1.2 d hd) d' hd'
    rw [Bool.or_eq_true] at z
    rcases z with z | z
    · rw [decide_eq_true e] at z
      cases z
    · exact pdb_eq _ _ z
  · have z := List.all_eq_true.mp h.1.2 d hd
    split at z
    · exact ⟨_, _, rfl⟩
    · cases z
def unV : V → Addr
  | .ref a => a
  | _ => 0
/-- the keys of a list of tuples -/
def keysIn (zs : List V) (ds : List PyData) : List (Addr × NestedKey) := (zs.zip ds).map fun b => (unV b.1, keyOf b.2)
theorem we_sortedSet {p p2 pos2 : Pos} (hc : X.calm = true) (hu : X.A.units + 65 < cLine) (ha : WE X E a fa) (hg : Gl X "sorted") (hm : X.mg "sorted" = none) (hg2 : Gl X "set") (hm2 : X.mg "set" = none) (na : starEach [a] X.env = (false, eval a X.env) :: starEach [] X.env := by rfl) :
    WE X E (.Call (.Name "sorted" p) [.Call (.Name "set" p2) [a] [] pos2] [] pos) (fSortedSet fa) := by
  refine ⟨fun pins s σ H Q I ⟨Z, B, r, m, sl, so, q⟩ => ?_⟩
  refine Call_ (ld_blt I hg hm (by rfl) ?_)
  refine PyProof.Rows.callWith_builtin1 (PyProof.Rows.args_cons ?_ rfl) rfl rfl
  refine Call_ (ld_blt I hg2 hm2 PyProof.Rows.boot_set ?_)
  have h0 : rd RE X E fa σ H (fun x H1 => ∃ Z B m1 w1, So (plX X Z) H1 B m1 ∧ WV (plX X Z) H1 B x w1 ∧ PostE (plX X Z) E B H1 (match fix m1 w1 with
      | some (.list ds) => if okSet ds = true then .ok (.d (.list (sortD (dedupD ds)))) m1 else .bad
      | _ => .bad) Q) := ⟨Z, B, r, m, sl, so, Post.step q fun w1 m1 x H1 B1 l1 s1 r1 q1 => ⟨Z, B1, m1, w1, s1, r1, q1⟩⟩
  refine PyProof.Rows.callWith_type1 (PyProof.Rows.args_cons (thn (ha.run pins s σ H _ I h0) fun v s1 ⟨x, H1, I1, r1, Z, B1, m1, w1, so1, wv, q1⟩ => PyProof.Rows.args_nil ?_) na) na rfl
  split at q1
  · rename_i ds ef
    split at q1
    · rename_i z
      obtain ⟨l, zs, rfl, hl, hd⟩ := wv.items so1 ef
      obtain ⟨z1, z2, z3, z4, z5, z6⟩ := okSet_of z
      rw [sortD_eq] at q1 z6
      cases (show v = Value.ref l from r1)
      obtain ⟨its, rv, pl, hz⟩ := I1.list (.inl hl)
      obtain ⟨e1, e2⟩ := each_zip rv hd
      -- the keys and where they stand
      have each : ∀ {us : List Value} {bs : List (V × PyData)}, EachIs (Rz (plX X Z) H1 B1) us bs → (∀ b ∈ bs, b.2 ∈ ds) → us = bs.map (fun b => Value.ref (unV b.1)) ∧ ∀ b ∈ bs, ∃ t, b.1 = .ref t ∧ KA X.prog X.w s1.heap (keyOf b.2) t ∧ (∃ as, Reads s1.heap (.ref t) b.2 as) ∧ DV (plX X Z) H1 B1 (.ref t) b.2 := by
        intro us bs e
        induction e with
        | nil => exact fun _ => ⟨rfl, fun b hb => by cases hb⟩
        | @cons u b us bs h t ih =>
          intro hb
          obtain ⟨i1, i2⟩ := ih fun b' hb' => hb b' (List.mem_cons_of_mem _ hb')
          have hm := hb b List.mem_cons_self
          obtain ⟨t0, rfl, et, ki⟩ := key_is I1 h.2 (z2 _ hm).1 h.1
          obtain ⟨as, rr⟩ := Dp.reads I1 b.2 b.1 _ (h.2.dp ((okSort_lay z4).1 _ hm)) h.1
          refine ⟨by rw [List.map_cons, ← i1, et]; rfl, fun b' hb' => ?_⟩
          rcases List.mem_cons.mp hb' with e | hb'
          · rw [e]
            exact ⟨t0, et, ⟨ki, (z2 _ hm).2⟩, ⟨as, rr⟩, by rw [← et]; exact h.2⟩
          · exact i2 b' hb'
      obtain ⟨ei, hb⟩ := each e1 fun b hb => by rw [← e2]; exact List.mem_map.mpr ⟨b, hb, rfl⟩
      have hlen : (zs.zip ds).length = ds.length := by rw [← e2, List.length_map, e2]
      have hk : ∀ q ∈ keysIn zs ds, KA X.prog X.w s1.heap q.2 q.1 := fun q hq => by
        obtain ⟨b, hb1, e⟩ := List.mem_map.mp hq
        obtain ⟨t, e1, k, _⟩ := hb b hb1
        rw [← e, e1]
        exact k
      refine call_setN (keysIn zs ds) (I1.ok.hd hc) pl.isList (by rw [show its.toArray.toList = its from by simp]; unfold keysIn; rw [List.map_map]; exact ei) hk (by unfold keysIn; rw [List.length_map, hlen]; exact z1) (by omega) fun h' tk L es ep t R hs kp => ?_
      refine PyProof.Rows.args_nil ?_
      have I2 : Inv X pins σ H1 { s1 with heap := h', toks := tk } := I1.kept kp
      -- what stands at an address
      have hk1 : (keysIn zs ds).take (keysIn zs ds).length = keysIn zs ds := List.take_length
      have hsub : ∀ q ∈ L, ∃ b ∈ zs.zip ds, q = (unV b.1, keyOf b.2) := fun q hq => by
        have := hs.sub q hq
        rw [hk1] at this
        obtain ⟨b, hb1, e⟩ := List.mem_map.mp this
        exact ⟨b, hb1, e.symm⟩
      have hat : ∀ q ∈ L, ∃ d ∈ ds, keyOf d = q.2 ∧ (∃ as, Reads s1.heap (.ref q.1) d as) ∧ DV (plX X Z) H1 B1 (.ref q.1) d := fun q hq => by
        obtain ⟨b, hb1, e⟩ := hsub q hq
        obtain ⟨t, e1, _, k2, k3⟩ := hb b hb1
        rw [e1] at e
        refine ⟨b.2, by rw [← e2]; exact List.mem_map.mpr ⟨b, hb1, rfl⟩, by rw [e], by rw [e]; exact k2, by rw [e]; exact k3⟩
      have D0 : ∀ b : Addr, ∃ d : PyData, ∀ q ∈ L, q.1 = b → d ∈ ds ∧ keyOf d = q.2 ∧ (∃ as, Reads s1.heap (.ref b) d as) ∧ DV (plX X Z) H1 B1 (.ref b) d := fun b => by
        by_cases h : ∃ q ∈ L, q.1 = b
        · obtain ⟨q, hq, rfl⟩ := h
          obtain ⟨d, h1, h2, h3, h4⟩ := hat q hq
          refine ⟨d, fun q' hq' e => ⟨h1, ?_, h3, h4⟩⟩
          have a1 := (R.ka q hq).is
          have a2 := (R.ka q' hq').is
          rw [e] at a2
          rw [h2]
          exact (nestedKind X.prog X.w).inj a1 a2
        · exact ⟨.none, fun q hq e => absurd ⟨q, hq, e⟩ h⟩
      obtain ⟨D, hD⟩ : ∃ D : Addr → PyData, ∀ b, ∀ q ∈ L, q.1 = b → D b ∈ ds ∧ keyOf (D b) = q.2 ∧ (∃ as, Reads s1.heap (.ref b) (D b) as) ∧ DV (plX X Z) H1 B1 (.ref b) (D b) := ⟨fun b => Classical.choose (D0 b), fun b => Classical.choose_spec (D0 b)⟩
      have hDL : ∀ q ∈ L, D q.1 ∈ ds ∧ keyOf (D q.1) = q.2 ∧ (∃ as, Reads s1.heap (.ref q.1) (D q.1) as) ∧ DV (plX X Z) H1 B1 (.ref q.1) (D q.1) := fun q hq => hD q.1 q hq rfl
      have kab : ∀ d ∈ ds, keyable d = true := fun d hd => by
        have := (z2 d hd).1
        unfold okKey at this
        simp only [Bool.and_eq_true] at this
        exact this.1.1
      have dep : ∀ d ∈ ds, d.depth ≤ 60 := fun d hd => by
        have z4' := z4
        unfold okSort at z4'
        simp only [Bool.and_eq_true] at z4'
        exact of_decide_eq_true (List.all_eq_true.mp z4'.1.1.2 d hd)
      have al : AllAlike (L.map fun q => D q.1) := fun d hd d' hd' => by
        obtain ⟨q, hq, rfl⟩ := List.mem_map.mp hd
        obtain ⟨q', hq', rfl⟩ := List.mem_map.mp hd'
        exact okSort_alike z4 _ (hDL q hq).1 _ (hDL q' hq').1
      refine call_sortedN (s := { s1 with heap := h', toks := tk }) R (I1.ok.hd hc) D (fun q hq => ?_) al hu fun s' p out c L1 kp2 g o hp hg pm eo => ?_
      · obtain ⟨k1, k2, ⟨as, k3⟩, k4⟩ := hDL q hq
        exact ⟨⟨as, PyProof.Rows.Reads.keeps kp k3⟩, kab _ k1, dep _ k1, z5 _ k1⟩
      · have hn : H1 p = none := I2.hok.fresh hp
        -- the data in the set are the list's, each once
        have pD : (L1.map D).Perm (dedupD ds) := by
          refine (pm.map D).trans ?_
          rw [List.map_map]
          have ndL : (L.map (D ∘ (·.1))).Nodup := by
            have : (L.map (D ∘ (·.1))).map keyOf = L.map (·.2) := by
              rw [List.map_map]
              exact List.map_congr_left fun q hq => (hDL q hq).2.1
            have nd2 : ((L.map (D ∘ (·.1))).map keyOf).Nodup := by rw [this]; exact R.nd
            have h3 : (L.map (D ∘ (·.1))).Pairwise fun x y => keyOf x ≠ keyOf y := List.pairwise_map.mp nd2
            exact h3.imp fun hne e => hne (congrArg keyOf e)
          refine (List.perm_ext_iff_of_nodup ndL (nd_dedup ds)).mpr fun d => ?_
          rw [mem_dedup]
          constructor
          · intro h
            obtain ⟨q, hq, rfl⟩ := List.mem_map.mp h
            exact (hDL q hq).1
          · intro hd
            have hq0 : ∃ b ∈ zs.zip ds, b.2 = d := by
              rw [← e2] at hd
              obtain ⟨b, h1, h2⟩ := List.mem_map.mp hd
              exact ⟨b, h1, h2⟩
            obtain ⟨b, hb1, rfl⟩ := hq0
            have hin : (unV b.1, keyOf b.2) ∈ (keysIn zs ds).take (keysIn zs ds).length := by
              rw [hk1]
              exact List.mem_map.mpr ⟨b, hb1, rfl⟩
            obtain ⟨q, hq, eq⟩ := List.mem_map.mp (hs.all _ hin)
            obtain ⟨k1, k2, _⟩ := hDL q hq
            refine List.mem_map.mpr ⟨q, hq, ?_⟩
            exact z3 _ k1 _ hd (k2.trans eq)
        have eS : (L1.mergeSort (dataLe false D)).map D = msD (dedupD ds) := by
          rw [sort_maps (r := dataLe false D) (s := dataLe false id) D (l := L1) (fun a _ b _ => rfl)]
          exact sort_perm pD z6
        have mem : ∀ b ∈ L1.mergeSort (dataLe false D), ∃ q ∈ L, q.1 = b := fun b hb => by
          have := (List.mergeSort_perm L1 (dataLe false D)).mem_iff.mp hb
          obtain ⟨q, hq, e⟩ := List.mem_map.mp (pm.mem_iff.mp this)
          exact ⟨q, hq, e⟩
        have hlen2 : (L1.mergeSort (dataLe false D)).length ≤ 4 := by
          rw [List.length_mergeSort, pm.length_eq, List.length_map]
          exact R.few
        generalize L1.mergeSort (dataLe false D) = L2' at eo eS mem hlen2
        have dvs : DVs (plX X Z) H1 B1 (L2'.map V.ref) (L2'.map D) ∧ Vals (L2'.map V.ref) out := by
          rw [eo]
          have go : ∀ l : List Addr, (∀ b ∈ l, ∃ q ∈ L, q.1 = b) → DVs (plX X Z) H1 B1 (l.map V.ref) (l.map D) ∧ Vals (l.map V.ref) (l.map Value.ref) := by
            intro l
            induction l with
            | nil => exact fun _ => ⟨.nil, .nil⟩
            | cons b l ih =>
              intro hm
              obtain ⟨i1, i2⟩ := ih fun b hb => hm b (List.mem_cons_of_mem _ hb)
              obtain ⟨q, hq, rfl⟩ := hm b List.mem_cons_self
              exact ⟨.cons (hDL q hq).2.2.2 i1, .cons (show RelV (.ref q.1) (.ref q.1) from rfl) i2⟩
          exact go L2' mem
        rw [eS] at dvs
        have J : Inv X pins σ (upd H1 p (.lst (L2'.map V.ref))) { ({ s1 with heap := h', toks := tk } : Shared) with heap := s'.heap, gens := s'.gens, drawn := s'.drawn, toks := s'.toks } :=
          I2.call (ch := []) (Un.laid kp2 hp hn) (I2.hok.laid kp2 hp ⟨by rw [List.length_map]; exact le1000 (by omega), out, c, dvs.2, hg⟩) (by rw [g]; exact I2.bare) (fun _ z => nomatch z)
        have es' : s' = { ({ s1 with heap := h', toks := tk } : Shared) with heap := s'.heap, gens := s'.gens, drawn := s'.drawn, toks := s'.toks } := by
          cases s'
          cases o
          rfl
        rw [es']
        exact ⟨.ref p, _, J, rfl, Post.fresh q1 so1 hn (.d (DV.topL so1 hn dvs.1))⟩
    · exact q1.elim
  · exact q1.elim
end
end Wy

set_option Elab.async false
set_option linter.all false
set_option maxRecDepth 100000
set_option maxHeartbeats 4000000
/-! W16: the head: facts by names, tuples of the top too. -/
namespace Wy
open PySem PySem.Spec PyProof.Rows L2
/-- a tuple of the top: its name, its texts -/
abbrev Tb : Type := Str × List He.Dv
abbrev AlW : Type := Bool × He.AlD
/-- no list stands behind the top -/
def noL (K : PySem.W.Frag) : Bool := K.all fun p => !(p.2.cls == Value.type "list")
def obsW (tb : List Tb) (fa : List He.Fa) (fn : List He.DefD) (K : PySem.W.Frag) : AlW := (noL K && tb.all fun p => (He.Fa.glo p.1).ok K && He.tupB K p.1 p.2, He.obsD fa fn K)
def valW (fn : List He.DefD) : AlW := (true, He.valD fn)
def obsWG (n : Nat) (tb : List Tb) (fa : List He.Fa) (fn : List He.DefD) (g : Addr → Option Obj) : AlW := obsW tb fa fn (He.frG g (He.asD g n))
def hookW (n : Nat) (tb : List Tb) (fa : List He.Fa) (fn : List He.DefD) : PySem.W.Hook where
  α := AlW
  obs := fun s => obsWG n tb fa fn s.heap.get?
  val := fun _ => valW fn
  says := fun _ h => ∃ K : PySem.W.Frag, K.In h ∧ obsW tb fa fn K = valW fn
  of := fun _ _ e => ⟨_, He.frG_in, e⟩
  keeps := fun _ _ _ ⟨K, hK, c⟩ k => ⟨K, PySem.W.Frag.In.keeps hK k, c⟩
theorem obsWG_eq {n : Nat} {tb : List Tb} {fa : List He.Fa} {fn : List He.DefD} {g : Addr → Option Obj} {s : Shared} (h : ∀ a, g a = s.heap.get? a) : obsWG n tb fa fn g = (hookW n tb fa fn).obs s := by
  have e : g = s.heap.get? := funext h
  rw [e] <;> rfl
section
variable {tb : List Tb} {fa : List He.Fa} {fn : List He.DefD} {K : PySem.W.Frag}
theorem saysW_D (c : obsW tb fa fn K = valW fn) : He.SaysD fa fn K := congrArg (fun z : AlW => z.2) c
theorem saysW_t (c : obsW tb fa fn K = valW fn) (i : Nat) {x : Str} {vs : List He.Dv} (h : tb[i]? = some (x, vs) := by rfl) : (He.Fa.glo x).ok K = true ∧ He.tupB K x vs = true := by
  have c1 : (noL K && tb.all fun p => (He.Fa.glo p.1).ok K && He.tupB K p.1 p.2) = true := congrArg (fun z : AlW => z.1) c
  exact Bool.and_eq_true_iff.mp (List.all_eq_true.mp (Bool.and_eq_true_iff.mp c1).2 (x, vs) (List.mem_of_getElem? h))
theorem saysW_n (c : obsW tb fa fn K = valW fn) : noL K = true := by
  have c1 : (noL K && tb.all fun p => (He.Fa.glo p.1).ok K && He.tupB K p.1 p.2) = true := congrArg (fun z : AlW => z.1) c
  exact (Bool.and_eq_true_iff.mp c1).1
theorem lookup_mem {α β : Type} [BEq α] [LawfulBEq α] {a : α} {b : β} : ∀ {l : List (α × β)}, l.lookup a = some b → (a, b) ∈ l
  | (c, d) :: l, h => by
    rw [List.lookup_cons] at h
    cases e : a == c with
    | true =>
      rw [e] at h
      cases h
      rw [beq_iff_eq.mp e]
      exact List.mem_cons_self
    | false =>
      rw [e] at h
      exact List.mem_cons_of_mem _ (lookup_mem h)
theorem noL_rd {H : Hp} {a : Addr} {xs : List V} (n : noL K = true) (h : SqL K H a xs) : Rd H a (.lst xs) := by
  rcases h with h | ⟨o, its, k, h1, h2, _⟩
  · exact h
  · exfalso
    have := List.all_eq_true.mp n _ (lookup_mem h1)
    rw [h2] at this
    simp at this
end
/-- a tuple of texts of the top, as a constant -/
theorem glo_texts {K : PySem.W.Frag} {h : Heap} {mg : Str → Option Value} (KX : K.In h) (G : h.Ns mainGlobals mg) {x : Str} {ts : List Str} (c : (He.Fa.glo x).ok K = true ∧ He.tupB K x (ts.map He.Dv.str) = true) : Glo K mg x (.tuple (ts.map PyData.str)) := by
  refine ⟨.ref (He.ga K x), _, He.glo_ok KX G c.1, rfl, fun P w Z H B => ?_⟩
  have ht := He.tupB_ok c.2 (fun _ => none)
  have e : (ts.map He.Dv.str).map (He.Dv.v K) = ts.map V.str := by rw [List.map_map]; rfl
  rw [e] at ht
  have hq : SqTS ⟨P, w, K, mg, Z⟩ H B (He.ga K x) (ts.map V.str) := by
    rcases ht with ⟨h | ⟨o, h⟩⟩ | h
    · cases h
    · cases h
    · exact .inr h
  refine .tup hq ?_
  have go : ∀ ts : List Str, DVs ⟨P, w, K, mg, Z⟩ H B (ts.map V.str) (ts.map PyData.str) := by
    intro ts
    induction ts with
    | nil => exact .nil
    | cons t ts ih => exact .cons (.str t) ih
  exact go ts
theorem ecl_of {K : PySem.W.Frag} {h : Heap} {mg : Str → Option Value} (KX : K.In h) (G : h.Ns mainGlobals mg) {x : Str} (c : (He.Fa.glo x).ok K = true) (e : (He.Fa.exc x).ok K = true) : Ecl K mg x := by
  obtain ⟨c1, c2, c3, c4⟩ := He.exc_ok e
  exact ⟨_, _, _, _, _, PySem.F.excBase_ValueError, c1, He.glo_ok KX G c, c2, c3, c4⟩
/-! ### the law's def -/
/-- nothing is let out -/
theorem FnOk.conv {P : Program} {w : World} {K : PySem.W.Frag} {mg : Str → Option Value} {base : Heap} {k : Nat} {f : Addr} {fd : FuncData} {ps : List Str} {sA sB : Sp} (F : FnOk P w K mg base (L2.CX P w) k f fd ps sA) (hl : ∀ vs H Q E, sB vs H Q E → vs.length = ps.length)
    (h : ∀ vs H Q E, sB vs H Q E → sA vs H Q fun _ _ _ => False) : FnOk P w K mg base CX0 k f fd ps sB := by
  refine ⟨hl, fun A outer s H args us vs Q E hr he hb hv hs => ?_⟩
  refine codeAny_mono (F.run A outer s H args us vs Q _ hr he hb hv (h vs H Q E hs)) fun r s' hr => ?_
  cases r with
  | ok fl => cases fl <;> exact hr
  | error e =>
    obtain ⟨_, _, _, _, _, _, _, _, _, _, _, _, z⟩ := hr
    exact z.elim
def spLaw (n : Nat) : Sp := fun vs H Q _ => ∃ (a : Addr) (ns : List Int), vs = [.ref a] ∧ Rd H a (.lst (ns.map V.int)) ∧ ns.length ≤ n ∧ ∀ H', Q (.bl true) H'
theorem law_ok {P : Program} {w : World} {K : PySem.W.Frag} {mg : Str → Option Value} {base : Heap} {k n : Nat} {f : Addr} {fd : FuncData} {x : Str} {F : Fn} (C : FnOk P w K mg base (L2.CX P w) k f fd [x] (spW P w K mg 1 F))
    (h : ∀ ns : List Int, ns.length ≤ n → F [.d (.list (ns.map PyData.int))] [] = .ok (.d (.bool true)) []) : FnOk P w K mg base CX0 k f fd [x] (spLaw n) := by
  refine FnOk.conv C (fun vs H Q E h => ?_) fun vs H Q E hs => ?_
  · obtain ⟨a, ns, rfl, _⟩ := h
    rfl
  · obtain ⟨a, ns, rfl, hr, hl, hq⟩ := hs
    refine ⟨rfl, [], [], [], [.d (.list (ns.map PyData.int))], ⟨rfl, List.nodup_nil, fun a h => (by cases h), fun n a o h => (by simp at h)⟩, .cons (.d (.lst ⟨⟨by simp, by simp⟩, hr⟩ ?_)) .nil, ?_⟩
    · have go : ∀ ns : List Int, DVs ⟨P, w, K, mg, []⟩ H [] (ns.map V.int) (ns.map PyData.int) := by
        intro ns
        induction ns with
        | nil => exact .nil
        | cons t ts ih => exact .cons (.int t) ih
      exact go ns
    · rw [h ns hl]
      intro v H' B' l s wv
      rw [bl_inv wv]
      exact hq H'
/-- of a Cal, the def at hand -/
theorem Cal.at_ {P : Program} {w : World} {K : PySem.W.Frag} {mg : Str → Option Value} {base : Heap} {k n : Nat} {x : Str} {F : Fn} (C : Cal P w K mg base k n x F) : ∃ (f : Addr) (fd : FuncData) (ps : List Str), FnOk P w K mg base (L2.CX P w) k f fd ps (spW P w K mg n F) ∧ mg x = some (.ref f) := by
  obtain ⟨f, fd, ps, a, b, _⟩ := C.ex
  exact ⟨f, fd, ps, a, b⟩
end Wy

set_option Elab.async false
set_option linter.all false
set_option maxRecDepth 100000
set_option maxHeartbeats 4000000
namespace Wy
open PySem PySem.Spec PyProof.Rows L2
def g_WHO : PyData := .tuple [.str "me", .str "they"]
def b_is_within : FS := (fRet false (fAndV (fIsi "int" (fVar 0)) (fAndV (fNotV (fIsi "bool" (fVar 0))) (fChain (gO cLe) (gO cLe) (fVar 1) (fVar 0) (fVar 2)))))
def f_is_within : Fn := fnF 3 (b_is_within)
def b_has_items : FS := (fRet false (fAndV (fIsi "tuple" (fVar 0)) (fChain (gO cLe) (gO cLe) (fVar 1) (fBi gLen (fCons (fVar 0) fNil)) (fVar 2))))
def f_has_items : Fn := fnF 3 (b_has_items)
def b_are_states : FS := (fThen (fIfS (fOrT (fNotT (fTb (fCall 3 f_has_items (fCons (fVar 1) (fCons (fC (.int 1)) (fCons (fVar 0) fNil)))))) (fNotT (fTb (fBi gAll (fCons (fComp (fSeq (fVar 1)) (.nm 2) [2] fYes (fCall 3 f_is_within (fCons (fVar 2) (fCons (fC (.int 0)) (fCons (fBin gSub (fVar 0) (fC (.int 1))) fNil))))) fNil))))) (fRet false (fC (.bool false))) fNext)
  (fRet false (fBi gAll (fCons (fComp (fZip (fVar 1) (fSl (fVar 1) (fPart (fC (.int 1))) fNoP)) (.tp [(.nm 2), (.nm 3)]) [2, 3] fYes (fBin (gO cLt) (fVar 2) (fVar 3))) fNil))))
def f_are_states : Fn := fnF 4 (b_are_states)
def b_is_option : FS := (fThen (fIfS (fOrT (fNotT (fTb (fCall 3 f_has_items (fCons (fVar 3) (fCons (fC (.int 4)) (fCons (fC (.int 4)) fNil)))))) (fNotT (fTb (fCall 2 f_are_states (fCons (fVar 0) (fCons (fBin gIx (fVar 3) (fC (.int 0))) fNil)))))) (fRet false (fC (.bool false))) fNext)
  (fRet false (fAndV (fCall 3 f_is_within (fCons (fBin gIx (fVar 3) (fC (.int 1))) (fCons (fC (.int (-1))) (fCons (fBin gSub (fVar 1) (fC (.int 1))) fNil)))) (fAndV (fCall 3 f_is_within (fCons (fBin gIx (fVar 3) (fC (.int 2))) (fCons (fC (.int 0)) (fCons (fBin gSub (fVar 0) (fC (.int 1))) fNil)))) (fCall 3 f_is_within (fCons (fBin gIx (fVar 3) (fC (.int 3))) (fCons (fC (.int 0)) (fCons (fVar 2) fNil))))))))
def f_is_option : Fn := fnF 4 (b_is_option)
def b_is_line : FS := (fThen (fIfS (fOrT (fNotT (fTb (fCall 3 f_has_items (fCons (fVar 3) (fCons (fC (.int 2)) (fCons (fC (.int 2)) fNil)))))) (fOrT (fNotT (fTb (fIsi "str" (fBin gIx (fVar 3) (fC (.int 0)))))) (fTb (fBin gNotIn (fBin gIx (fVar 3) (fC (.int 0))) (fC g_WHO))))) (fRet false (fC (.bool false))) fNext)
  (fThen (fIfS (fOrT (fNotT (fTb (fCall 3 f_has_items (fCons (fBin gIx (fVar 3) (fC (.int 1))) (fCons (fC (.int 1)) (fCons (fC (.int 3)) fNil)))))) (fNotT (fTb (fBi gAll (fCons (fComp (fSeq (fBin gIx (fVar 3) (fC (.int 1)))) (.nm 4) [4] fYes (fCall 4 f_is_option (fCons (fVar 0) (fCons (fVar 1) (fCons (fVar 2) (fCons (fVar 4) fNil)))))) fNil))))) (fRet false (fC (.bool false))) fNext)
  (fRet false (fBi gAll (fCons (fComp (fZip (fBin gIx (fVar 3) (fC (.int 1))) (fSl (fBin gIx (fVar 3) (fC (.int 1))) (fPart (fC (.int 1))) fNoP)) (.tp [(.nm 4), (.nm 5)]) [4, 5] fYes (fBin (gO cLt) (fVar 4) (fVar 5))) fNil)))))
def f_is_line : Fn := fnF 6 (b_is_line)
def b_is_house_value : FS := (fThen (fIfS (fOrT (fNotT (fTb (fCall 3 f_has_items (fCons (fVar 0) (fCons (fC (.int 2)) (fCons (fC (.int 2)) fNil)))))) (fOrT (fNotT (fTb (fCall 3 f_is_within (fCons (fBin gIx (fVar 0) (fC (.int 0))) (fCons (fC (.int 2)) (fCons (fC (.int 3)) fNil)))))) (fNotT (fTb (fCall 3 f_has_items (fCons (fBin gIx (fVar 0) (fC (.int 1))) (fCons (fC (.int 1)) (fCons (fC (.int 3)) fNil)))))))) (fRet false (fC (.bool false))) fNext)
  (fThen (fAsg (.tp [(.nm 1), (.nm 2)]) (fVar 0))
  (fThen (fIfS (fNotT (fTb (fBi gAll (fCons (fComp (fSeq (fVar 2)) (.nm 3) [3] fYes (fCall 3 f_has_items (fCons (fVar 3) (fCons (fC (.int 1)) (fCons (fC (.int 3)) fNil))))) fNil)))) (fRet false (fC (.bool false))) fNext)
  (fRet false (fBi gAll (fCons (fComp2 (fSeq (fVar 2)) (.nm 3) [3, 4] fYes (fSeq (fVar 3)) (.nm 4) [4] fYes (fCall 4 f_is_line (fCons (fVar 1) (fCons (fBi gLen (fCons (fVar 2) fNil)) (fCons (fBi gLen (fCons (fVar 3) fNil)) (fCons (fVar 4) fNil)))))) fNil))))))
def f_is_house_value : Fn := fnF 5 (b_is_house_value)
def b_open_options : FS := (fThen (fSet 4 (fBin gIx (fBin gIx (fBin gIx (fBin gIx (fVar 0) (fC (.int 1))) (fVar 1)) (fVar 2)) (fC (.int 1))))
  (fRet false (fComp (fEnum (fVar 4)) (.tp [(.nm 5), (.nm 6)]) [5, 6] (fTb (fBin gIn (fVar 3) (fBin gIx (fVar 6) (fC (.int 0))))) (fVar 5))))
def f_open_options : Fn := fnF 7 (b_open_options)
def b_need_house : FS := (fIfS (fNotT (fTb (fCall 1 f_is_house_value (fCons (fVar 0) fNil)))) (fRaise "InvalidHouse") fNext)
def f_need_house : Fn := fnF 1 (b_need_house)
def b_need_errand : FS := (fIfS (fNotT (fTb (fCall 3 f_is_within (fCons (fVar 1) (fCons (fC (.int 0)) (fCons (fBin gSub (fBi gLen (fCons (fBin gIx (fVar 0) (fC (.int 1))) fNil)) (fC (.int 1))) fNil)))))) (fRaise "InvalidErrand") fNext)
def f_need_errand : Fn := fnF 2 (b_need_errand)
def b_need_begin : FS := (fThen (fDrop (fCall 1 f_need_house (fCons (fVar 0) fNil)))
  (fThen (fDrop (fCall 2 f_need_errand (fCons (fVar 0) (fCons (fVar 1) fNil))))
  (fIfS (fNotT (fTb (fCall 3 f_is_within (fCons (fVar 2) (fCons (fC (.int 0)) (fCons (fBin gSub (fBin gIx (fVar 0) (fC (.int 0))) (fC (.int 1))) fNil)))))) (fRaise "InvalidState") fNext)))
def f_need_begin : Fn := fnF 3 (b_need_begin)
def b_need_wish : FS := (fIfS (fNotT (fTb (fCall 2 f_are_states (fCons (fBin gIx (fVar 0) (fC (.int 0))) (fCons (fVar 1) fNil))))) (fRaise "InvalidWish") fNext)
def f_need_wish : Fn := fnF 2 (b_need_wish)
def b_nodes_of : FS := (fThen (fSet 1 (fLstN fNil))
  (fThen (fFor (fEnum (fBin gIx (fVar 0) (fC (.int 1)))) (.tp [(.nm 2), (.nm 3)]) (fAugL 1 (fComp2N (fRng1 (fBin gAdd (fBi gLen (fCons (fVar 3) fNil)) (fC (.int 1)))) (.nm 4) [4, 5] fYes (fRng1 (fBin gIx (fVar 0) (fC (.int 0)))) (.nm 5) [5] fYes (fTup (fCons (fVar 2) (fCons (fVar 4) (fCons (fVar 5) fNil)))))))
  (fRet false (fVar 1))))
def f_nodes_of : Fn := fnF 6 (b_nodes_of)
def b_options_at : FS := (fThen (fAsg (.tp [(.nm 2), (.nm 3), (.nm 4)]) (fVar 1))
  (fThen (fIfS (fTb (fBin gEq (fVar 3) (fBi gLen (fCons (fBin gIx (fBin gIx (fVar 0) (fC (.int 1))) (fVar 2)) fNil)))) (fRet false (fLst fNil)) fNext)
  (fRet false (fComp (fSeq (fCall 4 f_open_options (fCons (fVar 0) (fCons (fVar 2) (fCons (fVar 3) (fCons (fVar 4) fNil)))))) (.nm 5) [5] fYes (fBin gIx (fBin gIx (fBin gIx (fBin gIx (fBin gIx (fVar 0) (fC (.int 1))) (fVar 2)) (fVar 3)) (fC (.int 1))) (fVar 5))))))
def f_options_at : Fn := fnF 6 (b_options_at)
def b_wishes_of : FS := (fThen (fSet 1 (fLstN (fCons (fTup fNil) fNil)))
  (fThen (fFor (fRng1 (fVar 0)) (.nm 2) (fAugL 1 (fCompN (fSeq (fVar 1)) (.nm 3) [3] fYes (fBin gAdd (fVar 3) (fTup (fCons (fVar 2) fNil))))))
  (fRet false (fSl (fBi gSorted (fCons (fVar 1) fNil)) (fPart (fC (.int 1))) fNoP))))
def f_wishes_of : Fn := fnF 4 (b_wishes_of)
def b_chooser : FS := (fThen (fAsg (.tp [(.nm 2), (.nm 3), (.nm 4)]) (fVar 1))
  (fRet false (fIf (fTb (fBin (gO cLt) (fVar 3) (fBi gLen (fCons (fBin gIx (fBin gIx (fVar 0) (fC (.int 1))) (fVar 2)) fNil)))) (fBin gIx (fBin gIx (fBin gIx (fBin gIx (fVar 0) (fC (.int 1))) (fVar 2)) (fVar 3)) (fC (.int 0))) (fC (.str "they")))))
def f_chooser : Fn := fnF 5 (b_chooser)
def b_option_wins : FS := (fThen (fAsg (.tp [(.nm 5), (.nm 6), (.nm 7), (.nm 8)]) (fVar 2))
  (fThen (fAsg (.tp [(.nm 9), (.nm 10)]) (fVar 0))
  (fThen (fIfS (fTb (fBin (gO cLt) (fVar 6) (fC (.int 0)))) (fRet false (fBin gIn (fTup (fCons (fBin gIx (fVar 1) (fC (.int 0))) (fCons (fVar 8) (fCons (fVar 7) (fCons (fVar 3) fNil))))) (fVar 9))) fNext)
  (fThen (fFor (fSeq (fVar 4)) (.nm 11) (fIfS (fAndT (fTb (fBin gIn (fTup (fCons (fVar 6) (fCons (fC (.int 0)) (fCons (fVar 7) (fCons (fVar 11) fNil))))) (fVar 10))) (fTb (fBi gAll (fCons (fComp (fSeq (fVar 11)) (.nm 12) [12] fYes (fBin gIn (fTup (fCons (fBin gIx (fVar 1) (fC (.int 0))) (fCons (fVar 8) (fCons (fVar 12) (fCons (fVar 3) fNil))))) (fVar 9))) fNil)))) (fRet false (fC (.bool true))) fNext))
  (fRet false (fC (.bool false)))))))
def f_option_wins : Fn := fnF 13 (b_option_wins)
def b_node_wins : FS := (fThen (fIfS (fTb (fBin gEq (fBin gIx (fVar 2) (fC (.int 1))) (fBi gLen (fCons (fBin gIx (fBin gIx (fVar 0) (fC (.int 1))) (fBin gIx (fVar 2) (fC (.int 0)))) fNil)))) (fRet false (fBin gIn (fBin gIx (fVar 2) (fC (.int 2))) (fVar 3))) fNext)
  (fThen (fSet 5 (fComp (fSeq (fCall 2 f_options_at (fCons (fVar 0) (fCons (fVar 2) fNil)))) (.nm 6) [6] fYes (fCall 5 f_option_wins (fCons (fVar 1) (fCons (fVar 2) (fCons (fVar 6) (fCons (fVar 3) (fCons (fVar 4) fNil))))))))
  (fThen (fIfS (fTb (fBin gEq (fCall 2 f_chooser (fCons (fVar 0) (fCons (fVar 2) fNil))) (fC (.str "me")))) (fRet false (fBi gAny (fCons (fVar 5) fNil))) fNext)
  (fRet false (fAndV (fBin gNe (fVar 5) (fLst fNil)) (fBi gAll (fCons (fVar 5) fNil)))))))
def f_node_wins : Fn := fnF 7 (b_node_wins)
def b_closed_table : FS := (fThen (fPar3 2 3 4 (fCons fDct (fCons (fCall 1 f_wishes_of (fCons (fBin gIx (fVar 0) (fC (.int 0))) fNil)) (fCons (fCall 1 f_nodes_of (fCons (fVar 0) fNil)) fNil))))
  (fThen (fSet 5 (fC (.bool true)))
  (fThen (whileF (fTb (fVar 5)) (fThen (fSet 5 (fC (.bool false)))
  (fFor (fSeq (fVar 4)) (.nm 6) (fFor (fSeq (fVar 3)) (.nm 7) (fThen (fSet 8 (fTup (fCons (fVar 2) (fCons (fIf (fTb (fIsN (fVar 1))) (fVar 2) (fVar 1)) fNil))))
  (fIfS (fAndT (fTb (fBin gNotIn (fBin gAdd (fVar 6) (fTup (fCons (fVar 7) fNil))) (fVar 2))) (fTb (fCall 5 f_node_wins (fCons (fVar 0) (fCons (fVar 8) (fCons (fVar 6) (fCons (fVar 7) (fCons (fVar 3) fNil)))))))) (fStNm (fTup (fCons (fC (.bool true)) (fCons (fC (.bool true)) fNil))) (fVar 2) (fBin gAdd (fVar 6) (fTup (fCons (fVar 7) fNil))) 5) fNext))))) 100000)
  (fRet false (fVar 2)))))
def f_closed_table : Fn := fnF 9 (b_closed_table)
def b_win_table : FS := (fRet false (fCall 2 f_closed_table (fCons (fVar 0) (fCons (fC .none) fNil))))
def f_win_table : Fn := fnF 1 (b_win_table)
def b_with_line : FS := (fThen (fAsg (.tp [(.nm 4), (.nm 5)]) (fVar 0))
  (fThen (fSet 6 (fBin gAdd (fBin gAdd (fSl (fBin gIx (fVar 5) (fVar 1)) fNoP (fPart (fVar 2))) (fTup (fCons (fVar 3) fNil))) (fSl (fBin gIx (fVar 5) (fVar 1)) (fPart (fBin gAdd (fVar 2) (fC (.int 1)))) fNoP)))
  (fRet false (fTup (fCons (fVar 4) (fCons (fBin gAdd (fBin gAdd (fSl (fVar 5) fNoP (fPart (fVar 1))) (fTup (fCons (fVar 6) fNil))) (fSl (fVar 5) (fPart (fBin gAdd (fVar 1) (fC (.int 1)))) fNoP)) fNil))))))
def f_with_line : Fn := fnF 7 (b_with_line)
def b_with_other : FS := (fThen (fAsg (.tp [(.nm 3), (.nm 4)]) (fBin gIx (fBin gIx (fBin gIx (fVar 0) (fC (.int 1))) (fVar 1)) (fVar 2)))
  (fRet false (fCall 4 f_with_line (fCons (fVar 0) (fCons (fVar 1) (fCons (fVar 2) (fCons (fTup (fCons (fIf (fTb (fBin gEq (fVar 3) (fC (.str "me")))) (fC (.str "they")) (fC (.str "me"))) (fCons (fVar 4) fNil))) fNil)))))))
def f_with_other : Fn := fnF 5 (b_with_other)
def b_turning_lines : FS := (fThen (fDrop (fCall 3 f_need_begin (fCons (fVar 0) (fCons (fVar 1) (fCons (fVar 2) fNil)))))
  (fThen (fDrop (fCall 2 f_need_wish (fCons (fVar 0) (fCons (fVar 3) fNil))))
  (fThen (fSet 4 (fBin gIn (fTup (fCons (fVar 1) (fCons (fC (.int 0)) (fCons (fVar 2) (fCons (fVar 3) fNil))))) (fCall 1 f_win_table (fCons (fVar 0) fNil))))
  (fThen (fSet 5 (fLstN fNil))
  (fThen (fFor (fEnum (fBin gIx (fVar 0) (fC (.int 1)))) (.tp [(.nm 6), (.nm 7)]) (fFor (fRng1 (fBi gLen (fCons (fVar 7) fNil))) (.nm 8) (fIfS (fTb (fBin gNe (fBin gIn (fTup (fCons (fVar 1) (fCons (fC (.int 0)) (fCons (fVar 2) (fCons (fVar 3) fNil))))) (fCall 1 f_win_table (fCons (fCall 3 f_with_other (fCons (fVar 0) (fCons (fVar 6) (fCons (fVar 8) fNil)))) fNil))) (fVar 4))) (fDrop (fApp (fVar 5) (fCons (fTup (fCons (fVar 6) (fCons (fVar 8) fNil))) fNil))) fNext)))
  (fRet false (fVar 5)))))))
def f_turning_lines : Fn := fnF 9 (b_turning_lines)
def b__law_deck : FS := (fThen (fIfS (fTb (fBin (gO cGe) (fVar 0) (fBin gPow (fC (.int 10)) (fC (.int 18))))) (fRet true (fLstN (fCons (fBin gSub (fVar 0) (fBin gPow (fC (.int 10)) (fC (.int 18)))) (fCons (fBin gMod (fVar 0) (fC (.int 2147483579))) (fCons (fVar 1) fNil))))) fNext)
  (fRet true (fLstN (fCons (fC (.int 0)) (fCons (fBin gMod (fVar 0) (fC (.int 2147483579))) (fCons (fVar 1) fNil))))))
def f__law_deck : Fn := fnF 2 (b__law_deck)
def b__law_pick : FS := (fThen (fIfS (fTb (fBin (gO cGt) (fBin gIx (fVar 0) (fC (.int 0))) (fC (.int 1)))) (fThen (fSet 2 (fBin gMod (fBi gInt (fCons (fBin gIx (fVar 0) (fC (.int 0))) fNil)) (fVar 1)))
  (fThen (fSt (fBin gFdiv (fBin gIx (fVar 0) (fC (.int 0))) (fVar 1)) (fVar 0) (fC (.int 0)))
  (fRet false (fVar 2)))) fNext)
  (fThen (fSt (fBin gAdd (fBin gIx (fVar 0) (fC (.int 2))) (fC (.int 1))) (fVar 0) (fC (.int 2)))
  (fThen (fSet 3 (fBin gMod (fBin gPow (fBin gAdd (fBin gIx (fVar 0) (fC (.int 1))) (fBin gMul (fC (.int 15485867)) (fBin gIx (fVar 0) (fC (.int 2))))) (fC (.int 5))) (fC (.int 2147483647))))
  (fThen (fSet 2 (fBin gFdiv (fBin gMod (fBin gPow (fBin gAdd (fVar 3) (fBin gMul (fC (.int 7919)) (fBin gIx (fVar 0) (fC (.int 2))))) (fC (.int 3))) (fC (.int 2147483629))) (fC (.int 32))))
  (fRet false (fBin gMod (fBi gInt (fCons (fVar 2) fNil)) (fVar 1)))))))
def f__law_pick : Fn := fnF 4 (b__law_pick)
def b__law_one : FS := (fRet false (fBin gIx (fVar 1) (fCall 2 f__law_pick (fCons (fVar 0) (fCons (fBi gLen (fCons (fVar 1) fNil)) fNil)))))
def f__law_one : Fn := fnF 2 (b__law_one)
def b__law_sort : FS := (fThen (fIfS (fTb (fIsi "bool" (fVar 0))) (fRet false (fC (.int 1))) fNext)
  (fThen (fIfS (fTb (fIsi "int" (fVar 0))) (fRet false (fC (.int 2))) fNext)
  (fThen (fIfS (fTb (fIsi "str" (fVar 0))) (fRet false (fC (.int 3))) fNext)
  (fThen (fIfS (fTb (fIsi "list" (fVar 0))) (fRet false (fC (.int 4))) fNext)
  (fRet false (fIf (fTb (fIsi "tuple" (fVar 0))) (fC (.int 5)) (fC (.int 6))))))))
def f__law_sort : Fn := fnF 1 (b__law_sort)
def b__law_same (self : Fn) : FS := (fThen (fIfS (fTb (fBin gNe (fCall 1 f__law_sort (fCons (fVar 0) fNil)) (fCall 1 f__law_sort (fCons (fVar 1) fNil)))) (fRet false (fC (.bool false))) fNext)
  (fThen (fIfS (fAndT (fTb (fBin (gO cGt) (fCall 1 f__law_sort (fCons (fVar 0) fNil)) (fC (.int 3)))) (fTb (fBin (gO cLt) (fCall 1 f__law_sort (fCons (fVar 0) fNil)) (fC (.int 6))))) (fThen (fIfS (fTb (fBin gNe (fBi gLen (fCons (fVar 0) fNil)) (fBi gLen (fCons (fVar 1) fNil)))) (fRet false (fC (.bool false))) fNext)
  (fRet false (fBin gEq (fComp (fEnum (fVar 0)) (.tp [(.nm 2), (.nm 3)]) [2, 3] (fNotT (fTb (fCall 2 self (fCons (fVar 3) (fCons (fBin gIx (fVar 1) (fVar 2)) fNil))))) (fVar 2)) (fLst fNil)))) fNext)
  (fRet false (fBin gEq (fVar 0) (fVar 1)))))
def f__law_same : Nat → Fn
  | 0 => fun _ _ => .bad
  | k + 1 => fnF 4 (b__law_same (f__law_same k))
def b__law_wish : FS := (fThen (fSet 2 (fCall 2 f__law_pick (fCons (fVar 0) (fCons (fVar 1) fNil))))
  (fRet false (fBi gTuple (fCons (fComp (fRng1 (fVar 1)) (.nm 3) [3] (fOrT (fTb (fBin gEq (fVar 3) (fVar 2))) (fTb (fBin gEq (fCall 2 f__law_pick (fCons (fVar 0) (fCons (fC (.int 3)) fNil))) (fC (.int 0))))) (fVar 3)) fNil))))
def f__law_wish : Fn := fnF 4 (b__law_wish)
def b__law_option : FS := (fThen (fSet 5 (fIf (fTb (fBin (gO cGt) (fCall 2 f__law_pick (fCons (fVar 0) (fCons (fC (.int 3)) fNil))) (fC (.int 0)))) (fTupR (fVar 1)) (fCall 2 f__law_wish (fCons (fVar 0) (fCons (fVar 1) fNil)))))
  (fThen (fSet 6 (fIf (fTb (fBin gEq (fCall 2 f__law_pick (fCons (fVar 0) (fCons (fC (.int 3)) fNil))) (fC (.int 0)))) (fCall 2 f__law_pick (fCons (fVar 0) (fCons (fVar 2) fNil))) (fC (.int (-1)))))
  (fThen (fSet 7 (fIf (fTb (fBin (gO cGt) (fCall 2 f__law_pick (fCons (fVar 0) (fCons (fC (.int 5)) fNil))) (fC (.int 0)))) (fBin gAdd (fBin gAdd (fVar 4) (fC (.int 1))) (fCall 2 f__law_pick (fCons (fVar 0) (fCons (fBin gSub (fVar 3) (fVar 4)) fNil)))) (fCall 2 f__law_pick (fCons (fVar 0) (fCons (fBin gAdd (fVar 3) (fC (.int 1))) fNil)))))
  (fRet false (fTup (fCons (fVar 5) (fCons (fVar 6) (fCons (fCall 2 f__law_pick (fCons (fVar 0) (fCons (fVar 1) fNil))) (fCons (fVar 7) fNil)))))))))
def f__law_option : Fn := fnF 8 (b__law_option)
def b__law_line : FS := (fThen (fSet 5 (fComp (fRng1 (fBin gAdd (fC (.int 1)) (fCall 2 f__law_pick (fCons (fVar 0) (fCons (fC (.int 3)) fNil))))) (.nm 6) [6] fYes (fCall 5 f__law_option (fCons (fVar 0) (fCons (fVar 1) (fCons (fVar 2) (fCons (fVar 3) (fCons (fVar 4) fNil))))))))
  (fRet false (fTup (fCons (fCall 2 f__law_one (fCons (fVar 0) (fCons (fLst (fCons (fC (.str "me")) (fCons (fC (.str "they")) fNil))) fNil))) (fCons (fBi gTuple (fCons (fSortedSet (fVar 5)) fNil)) fNil)))))
def f__law_line : Fn := fnF 7 (b__law_line)
def b__law_house : FS := (fThen (fAsg (.tp [(.nm 3), (.nm 4)]) (fTup (fCons (fBin gAdd (fC (.int 2)) (fCall 2 f__law_pick (fCons (fVar 0) (fCons (fC (.int 2)) fNil)))) (fCons (fBin gAdd (fC (.int 1)) (fCall 2 f__law_pick (fCons (fVar 0) (fCons (fVar 1) fNil)))) fNil))))
  (fThen (fSet 5 (fTup fNil))
  (fThen (fFor (fRng1 (fVar 4)) (.nm 6) (fThen (fSet 7 (fBin gAdd (fC (.int 1)) (fCall 2 f__law_pick (fCons (fVar 0) (fCons (fVar 2) fNil)))))
  (fSet 5 (fBin gAdd (fVar 5) (fTup (fCons (fBi gTuple (fCons (fComp (fRng1 (fVar 7)) (.nm 8) [8] fYes (fCall 5 f__law_line (fCons (fVar 0) (fCons (fVar 3) (fCons (fVar 4) (fCons (fVar 7) (fCons (fVar 8) fNil))))))) fNil)) fNil))))))
  (fRet false (fTup (fCons (fVar 3) (fCons (fVar 5) fNil)))))))
def f__law_house : Fn := fnF 9 (b__law_house)
def b__law_open : FS := (fThen (fIfS (fTb (fBin gEq (fVar 2) (fBi gLen (fCons (fBin gIx (fBin gIx (fVar 0) (fC (.int 1))) (fVar 1)) fNil)))) (fRet false (fLst fNil)) fNext)
  (fThen (fSet 4 (fBin gIx (fBin gIx (fBin gIx (fBin gIx (fVar 0) (fC (.int 1))) (fVar 1)) (fVar 2)) (fC (.int 1))))
  (fRet false (fComp (fRng1 (fBi gLen (fCons (fVar 4) fNil))) (.nm 5) [5] (fTb (fBin gIn (fVar 3) (fBin gIx (fBin gIx (fVar 4) (fVar 5)) (fC (.int 0))))) (fVar 5)))))
def f__law_open : Fn := fnF 6 (b__law_open)
def b__law_wishes : FS := (fThen (fSet 1 (fLst (fCons (fTup fNil) fNil)))
  (fThen (fFor (fRng1 (fVar 0)) (.nm 2) (fSet 1 (fBin gAdd (fVar 1) (fComp (fSeq (fVar 1)) (.nm 3) [3] fYes (fBin gAdd (fVar 3) (fTup (fCons (fVar 2) fNil)))))))
  (fRet false (fSl (fBi gSorted (fCons (fVar 1) fNil)) (fPart (fC (.int 1))) fNoP))))
def f__law_wishes : Fn := fnF 4 (b__law_wishes)
def b__law_nodes : FS := (fThen (fSet 1 (fLst fNil))
  (fThen (fFor (fRng1 (fBi gLen (fCons (fBin gIx (fVar 0) (fC (.int 1))) fNil))) (.nm 2) (fFor (fRng1 (fBin gAdd (fBi gLen (fCons (fBin gIx (fBin gIx (fVar 0) (fC (.int 1))) (fVar 2)) fNil)) (fC (.int 1)))) (.nm 3) (fSet 1 (fBin gAdd (fVar 1) (fComp (fRng1 (fBin gIx (fVar 0) (fC (.int 0)))) (.nm 4) [4] fYes (fTup (fCons (fVar 2) (fCons (fVar 3) (fCons (fVar 4) fNil)))))))))
  (fRet false (fVar 1))))
def f__law_nodes : Fn := fnF 5 (b__law_nodes)
def b__law_behind : FS := (fThen (fAsg (.tp [(.nm 7), (.nm 8), (.nm 9), (.nm 10)]) (fVar 4))
  (fThen (fSet 11 (fBin gIx (fVar 3) (fC (.int 0))))
  (fThen (fIfS (fTb (fBin (gO cLt) (fVar 8) (fC (.int 0)))) (fRet false (fBin gIn (fTup (fCons (fVar 11) (fCons (fVar 10) (fCons (fVar 9) (fCons (fVar 5) fNil))))) (fVar 1))) fNext)
  (fThen (fFor (fSeq (fVar 6)) (.nm 12) (fThen (fSet 13 (fComp (fSeq (fVar 12)) (.nm 14) [14] (fTb (fBin gNotIn (fTup (fCons (fVar 11) (fCons (fVar 10) (fCons (fVar 14) (fCons (fVar 5) fNil))))) (fVar 1))) (fVar 14)))
  (fIfS (fAndT (fTb (fBin gEq (fVar 13) (fLst fNil))) (fTb (fBin gIn (fTup (fCons (fVar 8) (fCons (fC (.int 0)) (fCons (fVar 9) (fCons (fVar 12) fNil))))) (fVar 2)))) (fRet false (fC (.bool true))) fNext)))
  (fRet false (fC (.bool false)))))))
def f__law_behind : Fn := fnF 15 (b__law_behind)
def b__law_is_sure : FS := (fThen (fAsg (.tp [(.nm 6), (.nm 7), (.nm 8)]) (fVar 3))
  (fThen (fIfS (fTb (fBin gEq (fVar 7) (fBi gLen (fCons (fBin gIx (fBin gIx (fVar 0) (fC (.int 1))) (fVar 6)) fNil)))) (fRet false (fBin gIn (fVar 8) (fVar 4))) fNext)
  (fThen (fAsg (.tp [(.nm 9), (.nm 10)]) (fBin gIx (fBin gIx (fBin gIx (fVar 0) (fC (.int 1))) (fVar 6)) (fVar 7)))
  (fThen (fAsg (.tp [(.nm 11), (.nm 12)]) (fTup (fCons (fC (.int 0)) (fCons (fC (.int 0)) fNil))))
  (fThen (fFor (fSeq (fCall 4 f__law_open (fCons (fVar 0) (fCons (fVar 6) (fCons (fVar 7) (fCons (fVar 8) fNil)))))) (.nm 13) (fThen (fSet 12 (fBin gAdd (fVar 12) (fC (.int 1))))
  (fSet 11 (fBin gAdd (fVar 11) (fBi gInt (fCons (fCall 7 f__law_behind (fCons (fVar 0) (fCons (fVar 1) (fCons (fVar 2) (fCons (fVar 3) (fCons (fBin gIx (fVar 10) (fVar 13)) (fCons (fVar 4) (fCons (fVar 5) fNil)))))))) fNil))))))
  (fRet false (fAndV (fBin (gO cGt) (fVar 11) (fC (.int 0))) (fOrV (fBin gEq (fVar 9) (fC (.str "me"))) (fBin gEq (fVar 11) (fVar 12))))))))))
def f__law_is_sure : Fn := fnF 14 (b__law_is_sure)
def b__law_table : FS := (fThen (fPar3 2 3 4 (fCons fDct (fCons (fCall 1 f__law_wishes (fCons (fBin gIx (fVar 0) (fC (.int 0))) fNil)) (fCons (fCall 1 f__law_nodes (fCons (fVar 0) fNil)) fNil))))
  (fThen (fSet 5 (fC (.int (-1))))
  (fThen (whileF (fTb (fBin gNe (fVar 5) (fBi gLen (fCons (fVar 2) fNil)))) (fThen (fSet 5 (fBi gLen (fCons (fVar 2) fNil)))
  (fFor (fSeq (fVar 4)) (.nm 6) (fFor (fSeq (fVar 3)) (.nm 7) (fIfS (fTb (fBin gNotIn (fBin gAdd (fVar 6) (fTup (fCons (fVar 7) fNil))) (fVar 2))) (fThen (fSet 8 (fIf (fTb (fIsN (fVar 1))) (fVar 2) (fVar 1)))
  (fIfS (fTb (fCall 6 f__law_is_sure (fCons (fVar 0) (fCons (fVar 2) (fCons (fVar 8) (fCons (fVar 6) (fCons (fVar 7) (fCons (fVar 3) fNil)))))))) (fSt (fC (.bool true)) (fVar 2) (fBin gAdd (fVar 6) (fTup (fCons (fVar 7) fNil)))) fNext)) fNext)))) 100000)
  (fRet false (fVar 2)))))
def f__law_table : Fn := fnF 9 (b__law_table)
def b__law_known : FS := (fThen (fSet 0 (fTup (fCons (fC (.str "they")) (fCons (fTup (fCons (fTup (fCons (fTup (fCons (fC (.int 0)) (fCons (fC (.int 1)) fNil))) (fCons (fC (.int (-1))) (fCons (fC (.int 0)) (fCons (fC (.int 1)) fNil))))) (fCons (fTup (fCons (fTup (fCons (fC (.int 0)) (fCons (fC (.int 1)) fNil))) (fCons (fC (.int (-1))) (fCons (fC (.int 1)) (fCons (fC (.int 1)) fNil))))) fNil))) fNil))))
  (fThen (fSet 1 (fTup (fCons (fTup (fCons (fTup (fCons (fC (.str "me")) (fCons (fTup (fCons (fTup (fCons (fTup (fCons (fC (.int 0)) (fCons (fC (.int 1)) fNil))) (fCons (fC (.int 1)) (fCons (fC (.int 0)) (fCons (fC (.int 1)) fNil))))) fNil)) fNil))) (fCons (fTup (fCons (fC (.str "they")) (fCons (fTup (fCons (fTup (fCons (fTup (fCons (fC (.int 0)) fNil)) (fCons (fC (.int (-1))) (fCons (fC (.int 0)) (fCons (fC (.int 2)) fNil))))) (fCons (fTup (fCons (fTup (fCons (fC (.int 1)) fNil)) (fCons (fC (.int (-1))) (fCons (fC (.int 1)) (fCons (fC (.int 0)) fNil))))) fNil))) fNil))) fNil))) fNil)))
  (fThen (fSet 1 (fBin gAdd (fVar 1) (fTup (fCons (fTup (fCons (fTup (fCons (fC (.str "they")) (fCons (fTup (fCons (fTup (fCons (fTup (fCons (fC (.int 0)) fNil)) (fCons (fC (.int (-1))) (fCons (fC (.int 0)) (fCons (fC (.int 1)) fNil))))) (fCons (fTup (fCons (fTup (fCons (fC (.int 0)) fNil)) (fCons (fC (.int (-1))) (fCons (fC (.int 1)) (fCons (fC (.int 1)) fNil))))) fNil))) fNil))) (fCons (fTup (fCons (fC (.str "me")) (fCons (fTup (fCons (fTup (fCons (fTup (fCons (fC (.int 0)) (fCons (fC (.int 1)) fNil))) (fCons (fC (.int (-1))) (fCons (fC (.int 0)) (fCons (fC (.int 2)) fNil))))) (fCons (fTup (fCons (fTup (fCons (fC (.int 1)) fNil)) (fCons (fC (.int 1)) (fCons (fC (.int 1)) (fCons (fC (.int 2)) fNil))))) fNil))) fNil))) fNil))) fNil))))
  (fThen (fSet 2 (fTup (fCons (fTup (fCons (fTup (fCons (fC (.str "me")) (fCons (fTup (fCons (fTup (fCons (fTup (fCons (fC (.int 0)) (fCons (fC (.int 1)) fNil))) (fCons (fC (.int 1)) (fCons (fC (.int 0)) (fCons (fC (.int 1)) fNil))))) fNil)) fNil))) (fCons (fTup (fCons (fC (.str "me")) (fCons (fTup (fCons (fTup (fCons (fTup (fCons (fC (.int 0)) fNil)) (fCons (fC (.int (-1))) (fCons (fC (.int 1)) (fCons (fC (.int 2)) fNil))))) (fCons (fTup (fCons (fTup (fCons (fC (.int 1)) fNil)) (fCons (fC (.int (-1))) (fCons (fC (.int 1)) (fCons (fC (.int 2)) fNil))))) fNil))) fNil))) fNil))) (fCons (fTup (fCons (fVar 0) fNil)) fNil))))
  (fThen (fSet 3 (fTup (fCons (fTup (fCons (fVar 0) fNil)) (fCons (fTup (fCons (fVar 0) (fCons (fTup (fCons (fC (.str "me")) (fCons (fTup (fCons (fTup (fCons (fTup (fCons (fC (.int 0)) fNil)) (fCons (fC (.int (-1))) (fCons (fC (.int 0)) (fCons (fC (.int 2)) fNil))))) (fCons (fTup (fCons (fTup (fCons (fC (.int 1)) fNil)) (fCons (fC (.int (-1))) (fCons (fC (.int 1)) (fCons (fC (.int 2)) fNil))))) fNil))) fNil))) fNil))) fNil))))
  (fThen (fSet 4 (fTup (fCons (fTup (fCons (fTup (fCons (fC (.str "they")) (fCons (fTup (fCons (fTup (fCons (fTup (fCons (fC (.int 0)) fNil)) (fCons (fC (.int (-1))) (fCons (fC (.int 1)) (fCons (fC (.int 1)) fNil))))) (fCons (fTup (fCons (fTup (fCons (fC (.int 0)) fNil)) (fCons (fC (.int 0)) (fCons (fC (.int 0)) (fCons (fC (.int 1)) fNil))))) fNil))) fNil))) fNil)) fNil)))
  (fRet false (fLst (fCons (fTup (fCons (fC (.int 2)) (fCons (fVar 1) fNil))) (fCons (fTup (fCons (fC (.int 2)) (fCons (fVar 2) fNil))) (fCons (fTup (fCons (fC (.int 2)) (fCons (fVar 3) fNil))) (fCons (fTup (fCons (fC (.int 2)) (fCons (fVar 4) fNil))) fNil))))))))))))
def f__law_known : Fn := fnF 5 (b__law_known)
def b__law_put_line : FS := (fThen (fSet 4 (fBin gIx (fBin gIx (fVar 0) (fC (.int 1))) (fVar 1)))
  (fThen (fSet 4 (fBin gAdd (fBin gAdd (fSl (fVar 4) fNoP (fPart (fVar 2))) (fTup (fCons (fVar 3) fNil))) (fSl (fVar 4) (fPart (fBin gAdd (fVar 2) (fC (.int 1)))) fNoP)))
  (fRet false (fTup (fCons (fBin gIx (fVar 0) (fC (.int 0))) (fCons (fBin gAdd (fBin gAdd (fSl (fBin gIx (fVar 0) (fC (.int 1))) fNoP (fPart (fVar 1))) (fTup (fCons (fVar 4) fNil))) (fSl (fBin gIx (fVar 0) (fC (.int 1))) (fPart (fBin gAdd (fVar 1) (fC (.int 1)))) fNoP)) fNil))))))
def f__law_put_line : Fn := fnF 5 (b__law_put_line)
def b_law (k__law_same : Nat) : FS := (fThen (fFor (fSeq (fSl (fBin gAdd (fLst (fCons (fC (.int 0)) fNil)) (fVar 0)) fNoP (fPart (fC (.int 6))))) (.nm 1) (fThen (fSet 2 (fCall 2 f__law_deck (fCons (fVar 1) (fCons (fC (.int 10)) fNil))))
  (fThen (fSet 3 (fCall 3 f__law_house (fCons (fVar 2) (fCons (fC (.int 2)) (fCons (fC (.int 3)) fNil)))))
  (fThen (fSet 4 (fTup (fCons (fCall 2 f__law_pick (fCons (fVar 2) (fCons (fBi gLen (fCons (fBin gIx (fVar 3) (fC (.int 1))) fNil)) fNil))) (fCons (fC (.int 0)) (fCons (fCall 2 f__law_pick (fCons (fVar 2) (fCons (fBin gIx (fVar 3) (fC (.int 0))) fNil))) fNil)))))
  (fFor (fSeq (fLst (fCons (fCall 2 f__law_wish (fCons (fVar 2) (fCons (fBin gIx (fVar 3) (fC (.int 0))) fNil))) (fCons (fTupR (fBin gIx (fVar 3) (fC (.int 0)))) fNil)))) (.nm 5) (fThen (fPar 6 7 (fCons (fBin gIn (fBin gAdd (fVar 4) (fTup (fCons (fVar 5) fNil))) (fCall 2 f__law_table (fCons (fVar 3) (fCons (fC .none) fNil)))) (fCons (fLst fNil) fNil)))
  (fThen (fFor (fEnum (fBin gIx (fVar 3) (fC (.int 1)))) (.tp [(.nm 8), (.nm 9)]) (fFor (fEnum (fVar 9)) (.tp [(.nm 10), (.tp [(.nm 11), (.nm 12)])]) (fThen (fSet 13 (fTup (fCons (fIf (fTb (fBin gEq (fVar 11) (fC (.str "me")))) (fC (.str "they")) (fC (.str "me"))) (fCons (fVar 12) fNil))))
  (fThen (fSet 14 (fCall 4 f__law_put_line (fCons (fVar 3) (fCons (fVar 8) (fCons (fVar 10) (fCons (fVar 13) fNil))))))
  (fThen (fSet 15 (fBin gIn (fBin gAdd (fVar 4) (fTup (fCons (fVar 5) fNil))) (fCall 2 f__law_table (fCons (fVar 14) (fCons (fC .none) fNil)))))
  (fSet 7 (fBin gAdd (fVar 7) (fBin gMul (fLstN (fCons (fTup (fCons (fVar 8) (fCons (fVar 10) fNil))) fNil)) (fBi gInt (fCons (fBin gNe (fVar 15) (fVar 6)) fNil))))))))))
  (fIfS (fNotT (fTb (fCall 2 (f__law_same k__law_same) (fCons (fCall 4 f_turning_lines (fCons (fVar 3) (fCons (fBin gIx (fVar 4) (fC (.int 0))) (fCons (fBin gIx (fVar 4) (fC (.int 2))) (fCons (fVar 5) fNil))))) (fCons (fVar 7) fNil))))) (fRet false (fC (.bool false))) fNext))))))))
  (fThen (fPar 16 17 (fCons (fBin gIx (fCall 0 f__law_known fNil) (fC (.int 1))) (fCons (fBin gIx (fCall 0 f__law_known fNil) (fC (.int 3))) fNil)))
  (fThen (fIfS (fTb (fBin gNe (fCall 4 f_turning_lines (fCons (fVar 17) (fCons (fC (.int 0)) (fCons (fC (.int 0)) (fCons (fTup (fCons (fC (.int 1)) fNil)) fNil))))) (fLst (fCons (fTup (fCons (fC (.int 0)) (fCons (fC (.int 0)) fNil))) fNil)))) (fRet false (fC (.bool false))) fNext)
  (fThen (fIfS (fTb (fBin gNe (fCall 4 f_turning_lines (fCons (fVar 16) (fCons (fC (.int 0)) (fCons (fC (.int 0)) (fCons (fTup (fCons (fC (.int 1)) fNil)) fNil))))) (fLst fNil))) (fRet false (fC (.bool false))) fNext)
  (fThen (fSet 18 (fTup (fCons (fC (.str "me")) (fCons (fTup (fCons (fTup (fCons (fTup (fCons (fC (.int 0)) fNil)) (fCons (fC (.int (-1))) (fCons (fC (.int 0)) (fCons (fC (.int 1)) fNil))))) (fCons (fTup (fCons (fTup (fCons (fC (.int 0)) fNil)) (fCons (fC (.int (-1))) (fCons (fC (.int 1)) (fCons (fC (.int 1)) fNil))))) fNil))) fNil))))
  (fThen (fSet 19 (fTup (fCons (fVar 18) (fCons (fTup (fCons (fC (.str "me")) (fCons (fTup (fCons (fTup (fCons (fTup (fCons (fC (.int 0)) fNil)) (fCons (fC (.int (-1))) (fCons (fC (.int 0)) (fCons (fC (.int 2)) fNil))))) (fCons (fTup (fCons (fTup (fCons (fC (.int 0)) fNil)) (fCons (fC (.int (-1))) (fCons (fC (.int 1)) (fCons (fC (.int 2)) fNil))))) fNil))) fNil))) fNil))))
  (fRet false (fBin gEq (fCall 4 f_turning_lines (fCons (fTup (fCons (fC (.int 2)) (fCons (fTup (fCons (fVar 19) fNil)) fNil))) (fCons (fC (.int 0)) (fCons (fC (.int 0)) (fCons (fTup (fCons (fC (.int 0)) fNil)) fNil))))) (fLst (fCons (fTup (fCons (fC (.int 0)) (fCons (fC (.int 0)) fNil))) (fCons (fTup (fCons (fC (.int 0)) (fCons (fC (.int 1)) fNil))) fNil)))))))))))
def f_law (k__law_same : Nat) : Fn := fnF 20 (b_law k__law_same)

end Wy

set_option Elab.async false
set_option linter.all false
set_option maxRecDepth 100000
set_option maxHeartbeats 4000000
/-! M0: what the combinators come to; walks. -/
namespace Wy
open PySem PySem.Spec PyProof.Rows L2
section
variable {α β : Type}
@[simp] theorem bind_ok (a : α) (m : Mu) (f : α → Mu → R β) : (R.ok a m).bind f = f a m := rfl
@[simp] theorem bind_exn (x : Xn) (m : Mu) (f : α → Mu → R β) : (R.exn x m : R α).bind f = .exn x m := rfl
@[simp] theorem bind_bad (f : α → Mu → R β) : (R.bad : R α).bind f = .bad := rfl
@[simp] theorem toS_ok (a : α) (m : Mu) (f : α → Mu → SR) : (R.ok a m).toS f = f a m := rfl
@[simp] theorem nx_ok (a : α) (m : Mu) : (R.ok a m).nx = .ok a m := rfl
@[simp] theorem then_next (r : Rh) (m : Mu) (f : FS) : (SR.next r m).andThen f = f r m := rfl
@[simp] theorem then_ret (k : Bool) (w : W) (m : Mu) (f : FS) : (SR.ret k w m).andThen f = .ret k w m := rfl
/-- by a truth value -/
def onB (w : W) (k : Bool → R β) : R β := match w with
  | .d (.bool b) => k b
  | _ => .bad
@[simp] theorem onB_d (b : Bool) (k : Bool → R β) : onB (.d (.bool b)) k = k b := rfl
end
section
variable {r : Rh} {m : Mu} {fa fb fc f : FE} {ta : FT}
theorem fTb_eq : fTb f r m = (f r m).bind fun w m1 => onB w fun k => .ok k m1 := by
  unfold fTb onB
  congr 1
theorem fChain_eq {g g' : W → W → Mu → R W} : fChain g g' fa fb fc r m = (fa r m).bind fun a m1 => (fb r m1).bind fun b m2 => (g a b m2).bind fun k m3 => onB k fun k => bif k then (fc r m3).bind fun c m4 => g' b c m4 else .ok (.d (.bool false)) m3 := by
  unfold fChain onB
  congr 1
  funext a m1
  congr 1
  funext b m2
  congr 1
  funext k m3
  (cases k with
    | d x => cases x with
      | bool b => cases b <;> rfl
      | _ => rfl
    | _ => rfl)
theorem fAndV_eq : fAndV fa fb r m = (fa r m).bind fun w m1 => onB w fun k => bif k then fb r m1 else .ok (.d (.bool false)) m1 := by
  unfold fAndV onB
  congr 1
  funext a m1
  (cases a with
    | d x => cases x with
      | bool b => cases b <;> rfl
      | _ => rfl
    | _ => rfl)
theorem fOrV_eq : fOrV fa fb r m = (fa r m).bind fun w m1 => onB w fun k => bif k then .ok (.d (.bool true)) m1 else fb r m1 := by
  unfold fOrV onB
  congr 1
  funext a m1
  (cases a with
    | d x => cases x with
      | bool b => cases b <;> rfl
      | _ => rfl
    | _ => rfl)
theorem fNotV_eq : fNotV fa r m = (fa r m).bind fun w m1 => onB w fun k => .ok (.d (.bool (!k))) m1 := by
  unfold fNotV onB
  congr 1
theorem fIfS_eq {f g : FS} : fIfS ta f g r m = (ta r m).toS fun k m1 => bif k then f r m1 else g r m1 := by
  unfold fIfS
  congr 1
@[simp] theorem cond_ok {b : Bool} {x y : W} {m : Mu} : (bif b then R.ok x m else R.ok y m) = R.ok (bif b then x else y) m := by cases b <;> rfl
@[simp] theorem cond_bl {b x y : Bool} : (bif b then W.d (.bool x) else W.d (.bool y)) = W.d (.bool (bif b then x else y)) := by cases b <;> rfl
end
theorem fnF_ret {n : Nat} {fs : FS} {ws : List W} {m : Mu} {x : PyData} (h : fs (startR n ws) m = .ret false (.d x) m) : fnF n fs ws m = .ok (.d x) m := by
  unfold fnF
  rw [h]
  simp [finW, frzW]
theorem fnF_next {n : Nat} {fs : FS} {ws : List W} {m : Mu} {r : Rh} (h : fs (startR n ws) m = .next r m) : fnF n fs ws m = .ok (.d .none) m := by
  unfold fnF
  rw [h]
  simp
@[simp] theorem lt_i (a b : Int) : pLt (.int a) (.int b) = decide (a < b) := rfl
theorem nlt (a b : Int) : (!decide (a < b)) = decide (b ≤ a) := by
  by_cases h : a < b
  · rw [decide_eq_true h, decide_eq_false (by omega)]; rfl
  · rw [decide_eq_false h, decide_eq_true (by omega)]; rfl
/-! ### operations at hand -/
section
variable {m : Mu} {i j : Int}
@[simp] theorem e_lt : gO cLt (.d (.int i)) (.d (.int j)) m = .ok (.d (.bool (decide (i < j)))) m := rfl
@[simp] theorem e_gt : gO cGt (.d (.int i)) (.d (.int j)) m = .ok (.d (.bool (decide (j < i)))) m := rfl
@[simp] theorem e_le : gO cLe (.d (.int i)) (.d (.int j)) m = .ok (.d (.bool (decide (i ≤ j)))) m := by rw [← nlt]; rfl
@[simp] theorem e_ge : gO cGe (.d (.int i)) (.d (.int j)) m = .ok (.d (.bool (decide (j ≤ i)))) m := by rw [← nlt]; rfl
@[simp] theorem e_add : gAdd (.d (.int i)) (.d (.int j)) m = .ok (.d (.int (i + j))) m := rfl
@[simp] theorem e_sub : gSub (.d (.int i)) (.d (.int j)) m = .ok (.d (.int (i - j))) m := rfl
theorem e_mod (h : 0 < j) : gMod (.d (.int i)) (.d (.int j)) m = .ok (.d (.int (i % j))) m := by
  show (if cMod i j = true then _ else _) = _
  rw [if_pos (show cMod i j = true from decide_eq_true h)]
theorem e_fdiv (h : 0 < j) (h2 : j < 1073741824) : gFdiv (.d (.int i)) (.d (.int j)) m = .ok (.d (.int (i / j))) m := by
  show (if cDiv i j = true then _ else _) = _
  rw [if_pos (show cDiv i j = true from decide_eq_true ⟨h, h2⟩)]
theorem e_pow (h : 0 ≤ j) (h2 : j ≤ 1000000) (h3 : i.natAbs < 2 ^ 64) : gPow (.d (.int i)) (.d (.int j)) m = .ok (.d (.int (i ^ j.toNat))) m := by
  show (if cPow i j = true then _ else _) = _
  rw [if_pos (show cPow i j = true from decide_eq_true ⟨h, h2, h3⟩)]
theorem e_mul (h : -(2 ^ 64) < i) (h2 : i < 2 ^ 64) : gMul (.d (.int i)) (.d (.int j)) m = .ok (.d (.int (i * j))) m := by
  show (if cMul i j = true then _ else _) = _
  rw [if_pos (show cMul i j = true from Bool.or_eq_true_iff.mpr (.inl (decide_eq_true ⟨h, h2⟩)))]
@[simp] theorem e_int : gInt [.d (.int i)] m = .ok (.d (.int i)) m := rfl
theorem atN {α : Type} {xs : List α} {n : Nat} {x : α} (h : xs[n]? = some x) : atI xs (n : Int) = some x := by
  have l := (List.getElem?_eq_some_iff.mp h).1
  unfold atI ixN
  rw [if_pos (Int.natCast_nonneg n), if_pos (by omega)]
  simpa using h
@[simp] theorem at0 {α : Type} {x : α} {xs : List α} : atI (x :: xs) 0 = some x := atN (n := 0) rfl
@[simp] theorem at1 {α : Type} {x y : α} {xs : List α} : atI (x :: y :: xs) 1 = some y := atN (n := 1) rfl
@[simp] theorem at2 {α : Type} {x y z : α} {xs : List α} : atI (x :: y :: z :: xs) 2 = some z := atN (n := 2) rfl
@[simp] theorem at3 {α : Type} {x y z u : α} {xs : List α} : atI (x :: y :: z :: u :: xs) 3 = some u := atN (n := 3) rfl
theorem ix_loc {n : Nat} {ds : List PyData} {x : PyData} (h : m[n]? = some (.lst ds)) (h2 : atI ds i = some x) : gIx (.loc n) (.d (.int i)) m = .ok (.d x) m := by
  simp [gIx, on2, dr, h, pIx, h2]
theorem ix_tup {ds : List PyData} {x : PyData} (h2 : atI ds i = some x) : gIx (.d (.tuple ds)) (.d (.int i)) m = .ok (.d x) m := by
  simp [gIx, on2, dr, pIx, h2]
theorem ix_lst {ds : List PyData} {x : PyData} (h2 : atI ds i = some x) : gIx (.d (.list ds)) (.d (.int i)) m = .ok (.d x) m := by
  simp [gIx, on2, dr, pIx, h2]
theorem ix_wt {ws : List W} {w : W} (h2 : atI ws i = some w) : gIx (.wt ws) (.d (.int i)) m = .ok w m := by
  simp [gIx, h2]
@[simp] theorem tup0 {x : PyData} {xs : List PyData} : gIx (.d (.tuple (x :: xs))) (.d (.int 0)) m = .ok (.d x) m := ix_tup at0
@[simp] theorem tup1 {x y : PyData} {xs : List PyData} : gIx (.d (.tuple (x :: y :: xs))) (.d (.int 1)) m = .ok (.d y) m := ix_tup at1
@[simp] theorem tup2 {x y z : PyData} {xs : List PyData} : gIx (.d (.tuple (x :: y :: z :: xs))) (.d (.int 2)) m = .ok (.d z) m := ix_tup at2
@[simp] theorem tup3 {x y z u : PyData} {xs : List PyData} : gIx (.d (.tuple (x :: y :: z :: u :: xs))) (.d (.int 3)) m = .ok (.d u) m := ix_tup at3
@[simp] theorem len_tup {ds : List PyData} : gLen [.d (.tuple ds)] m = .ok (.d (.int ds.length)) m := rfl
@[simp] theorem len_lst {ds : List PyData} : gLen [.d (.list ds)] m = .ok (.d (.int ds.length)) m := rfl
@[simp] theorem len_dct {ds : List (PyData × PyData)} : gLen [.d (.dict ds)] m = .ok (.d (.int ds.length)) m := rfl
theorem st_loc {n : Nat} {ds : List PyData} {t : Nat} {y : PyData} (h : m[n]? = some (.lst ds)) (h2 : ixN ds.length i = some t) : stW (.loc n) (.d (.int i)) (.d y) m = some (m.set n (.lst (ds.set t y))) := by
  simp [stW, h, h2]
end
section
variable {m : Mu}
@[simp] theorem ty_int {i : Int} : tyOf m (.d (.int i)) = some "int" := rfl
@[simp] theorem ty_bool {i : Bool} : tyOf m (.d (.bool i)) = some "bool" := rfl
@[simp] theorem ty_str {i : Str} : tyOf m (.d (.str i)) = some "str" := rfl
@[simp] theorem ty_tup {i : List PyData} : tyOf m (.d (.tuple i)) = some "tuple" := rfl
@[simp] theorem ty_lst {i : List PyData} : tyOf m (.d (.list i)) = some "list" := rfl
@[simp] theorem ty_non : tyOf m (.d .none) = some "NoneType" := rfl
@[simp] theorem ty_wt {ws : List W} : tyOf m (.wt ws) = some "tuple" := rfl
end
@[simp] theorem allD_nil : allD [] = some [] := rfl
@[simp] theorem allD_d {x : PyData} {r : List W} : allD (.d x :: r) = (allD r).map (x :: ·) := rfl
/-! ### walks -/
section
variable {β : Type} {asg : W → Option Rh} {ft : FT} {fe : FE} {m : Mu}
theorem comp_of (e : β → W) (p : β → Bool) (g : β → PyData) : ∀ (xs : List β) (acc : List PyData), (∀ x ∈ xs, ∃ r2, asg (e x) = some r2 ∧ ft r2 m = .ok (p x) m ∧ (p x = true → fe r2 m = .ok (.d (g x)) m)) → acc.length + xs.length ≤ 1000000 →
    compF none asg (elemF ft fe) (xs.map e) acc m = .ok (acc ++ (xs.filter p).map g) m
  | [], acc, _, _ => by simp [compF, stands]
  | x :: xs, acc, h, hl => by
    obtain ⟨r2, h1, h2, h3⟩ := h x List.mem_cons_self
    rw [List.map_cons, compF]
    simp only [stands, if_true, h1]
    have hl' : acc.length < 1000000 := by simp at hl; omega
    cases hp : p x with
    | false =>
      have e1 : elemF ft fe r2 acc m = .ok acc m := by simp [elemF, h2, hp]
      rw [e1, bind_ok, comp_of e p g xs acc (fun y hy => h y (List.mem_cons_of_mem _ hy)) (by simp at hl; omega)]
      simp [hp]
    | true =>
      have e1 : elemF ft fe r2 acc m = .ok (acc ++ [g x]) m := by simp [elemF, h2, hp, h3 hp, hl']
      rw [e1, bind_ok, comp_of e p g xs (acc ++ [g x]) (fun y hy => h y (List.mem_cons_of_mem _ hy)) (by simp at hl ⊢; omega)]
      simp [hp]
/-- a walk that may change the store -/
theorem comp_inv {body : Rh → List PyData → Mu → R (List PyData)} (e : β → W) (I : List β → List PyData → Mu → Prop) : ∀ (xs : List β) (acc : List PyData) (m : Mu), I xs acc m →
    (∀ x xs acc m, I (x :: xs) acc m → ∃ r2, asg (e x) = some r2 ∧ ∃ acc' m', body r2 acc m = .ok acc' m' ∧ I xs acc' m') → ∃ acc' m', compF none asg body (xs.map e) acc m = .ok acc' m' ∧ I [] acc' m'
  | [], acc, m, h, _ => ⟨acc, m, by simp [compF, stands], h⟩
  | x :: xs, acc, m, h, st => by
    obtain ⟨r2, h1, acc1, m1, h2, h3⟩ := st x xs acc m h
    obtain ⟨acc2, m2, h4, h5⟩ := comp_inv e I xs acc1 m1 h3 st
    refine ⟨acc2, m2, ?_, h5⟩
    rw [List.map_cons, compF]
    simp only [stands, if_true, h1, h2, bind_ok]
    exact h4
theorem for_inv {pt : Pat} {fb : FS} (e : β → W) (I : List β → Rh → Mu → Prop) : ∀ (xs : List β) (r : Rh) (m : Mu), I xs r m →
    (∀ x xs r m, I (x :: xs) r m → ∃ r2, patF pt (e x) r = some r2 ∧ ∃ r3 m3, (fb r2 m = .next r3 m3 ∨ fb r2 m = .cnt r3 m3) ∧ I xs r3 m3) → ∃ r' m', forF none pt fb (xs.map e) r m = .next r' m' ∧ I [] r' m'
  | [], r, m, h, _ => ⟨r, m, by simp [forF, stands], h⟩
  | x :: xs, r, m, h, st => by
    obtain ⟨r2, h1, r3, m3, h2, h3⟩ := st x xs r m h
    obtain ⟨r4, m4, h4, h5⟩ := for_inv e I xs r3 m3 h3 st
    refine ⟨r4, m4, ?_, h5⟩
    rw [List.map_cons, forF]
    simp only [stands, if_true, h1]
    rcases h2 with h2 | h2 <;> (rw [h2]; exact h4)
end
/-! ### the checks -/
theorem v_is_within (v lo hi : Int) (m : Mu) : f_is_within [.d (.int v), .d (.int lo), .d (.int hi)] m = .ok (.d (.bool (decide (lo ≤ v) && decide (v ≤ hi)))) m := by
  refine fnF_ret ?_
  unfold b_is_within
  simp [fVar, fC, fNil, fCons, fTup, fLst, fLstN, fBin, fChain_eq, fTb_eq, fAndT, fOrT, fNotT, fAndV_eq, fOrV_eq, fNotV_eq, fIf, fIsN, fNotN, fIsi, fCall, fBi, fRet, fSet, fAsg, fPar, fPar3, fIfS_eq, fThen, fDrop, fNext, fSt, startR, subTy, kBl, mkT]
  try trace_state
  try (cases decide (lo ≤ v) <;> rfl)
theorem v_has_items (ds : List PyData) (lo hi : Int) (m : Mu) : f_has_items [.d (.tuple ds), .d (.int lo), .d (.int hi)] m = .ok (.d (.bool (decide (lo ≤ ds.length) && decide ((ds.length : Int) ≤ hi)))) m := by
  refine fnF_ret ?_
  unfold b_has_items
  simp [fVar, fC, fNil, fCons, fTup, fLst, fLstN, fBin, fChain_eq, fTb_eq, fAndT, fOrT, fNotT, fAndV_eq, fOrV_eq, fNotV_eq, fIf, fIsN, fNotN, fIsi, fCall, fBi, fRet, fSet, fAsg, fPar, fPar3, fIfS_eq, fThen, fDrop, fNext, fSt, startR, subTy, kBl, mkT]
  try trace_state
  try (cases decide (lo ≤ (ds.length : Int)) <;> rfl)
end Wy

set_option Elab.async false
set_option linter.all false
set_option maxRecDepth 100000
set_option maxHeartbeats 4000000
/-! M1: the deck. -/
namespace Wy
open PySem PySem.Spec PyProof.Rows L2
abbrev deckO (d0 d1 d2 : Int) : Ob := .lst [.int d0, .int d1, .int d2]
/-- the deck at n -/
structure Dk (m : Mu) (n : Nat) (b : Int) : Prop where
  ex : ∃ d0 d1 d2, m[n]? = some (deckO d0 d1 d2) ∧ 0 ≤ d1 ∧ d1 < 2147483648 ∧ 0 ≤ d2 ∧ d2 ≤ b
theorem fnF_retM {n : Nat} {fs : FS} {ws : List W} {m m' : Mu} {x : PyData} (h : fs (startR n ws) m = .ret false (.d x) m') (l : m'.length = m.length) : fnF n fs ws m = .ok (.d x) m' := by
  unfold fnF
  rw [h]
  simp [finW, frzW, ← l]
theorem v_pick {m : Mu} {n : Nat} {b s : Int} (h : Dk m n b) (hb : b ≤ 1073741824) (h1 : 1 ≤ s) (h2 : s ≤ 1000000) :
    ∃ v o, f__law_pick [.loc n, .d (.int s)] m = .ok (.d (.int v)) (m.set n o) ∧ 0 ≤ v ∧ v < s ∧ Dk (m.set n o) n (b + 1) := by
  obtain ⟨d0, d1, d2, hm, a1, a2, a3, a4⟩ := h.ex
  have hn : n < m.length := (List.getElem?_eq_some_iff.mp hm).1
  by_cases c : 1 < d0
  · refine ⟨d0 % s, deckO (d0 / s) d1 d2, fnF_retM ?_ (by simp), Int.emod_nonneg _ (by omega), Int.emod_lt_of_pos _ (by omega), ⟨d0 / s, d1, d2, by simp [hn], a1, a2, a3, by omega⟩⟩
    have e0 : gIx (.loc n) (.d (.int 0)) m = .ok (.d (.int d0)) m := ix_loc hm at0
    have e1 : gMod (.d (.int d0)) (.d (.int s)) m = .ok (.d (.int (d0 % s))) m := e_mod (by omega)
    have e2 : gFdiv (.d (.int d0)) (.d (.int s)) m = .ok (.d (.int (d0 / s))) m := e_fdiv (by omega) (by omega)
    have e3 : stW (.loc n) (.d (.int 0)) (.d (.int (d0 / s))) m = some (m.set n (deckO (d0 / s) d1 d2)) := st_loc hm (t := 0) rfl
    unfold b__law_pick
    simp [fVar, fC, fNil, fCons, fTup, fLst, fLstN, fBin, fChain_eq, fTb_eq, fAndT, fOrT, fNotT, fAndV_eq, fOrV_eq, fNotV_eq, fIf, fIsN, fNotN, fIsi, fCall, fBi, fRet, fSet, fAsg, fPar, fPar3, fIfS_eq, fThen, fDrop, fNext, fSt, startR, subTy, kBl, mkT, e0, e1, e2, e3, c]
  · have z0 : 0 ≤ d1 + 15485867 * (d2 + 1) := by omega
    have z1 : (d1 + 15485867 * (d2 + 1)).natAbs < 2 ^ 64 := by omega
    let nu := (d1 + 15485867 * (d2 + 1)) ^ 5 % 2147483647
    have nu0 : 0 ≤ nu := Int.emod_nonneg _ (by decide)
    have nu1 : nu < 2147483647 := Int.emod_lt_of_pos _ (by decide)
    have z2 : (nu + 7919 * (d2 + 1)).natAbs < 2 ^ 64 := by omega
    let fo := (nu + 7919 * (d2 + 1)) ^ 3 % 2147483629 / 32
    refine ⟨fo % s, deckO d0 d1 (d2 + 1), fnF_retM ?_ (by simp), Int.emod_nonneg _ (by omega), Int.emod_lt_of_pos _ (by omega), ⟨d0, d1, d2 + 1, by simp [hn], a1, a2, by omega, by omega⟩⟩
    have hm' : (m.set n (deckO d0 d1 (d2 + 1)))[n]? = some (deckO d0 d1 (d2 + 1)) := by simp [hn]
    have e0 : gIx (.loc n) (.d (.int 0)) m = .ok (.d (.int d0)) m := ix_loc hm at0
    have e2 : gIx (.loc n) (.d (.int 2)) m = .ok (.d (.int d2)) m := ix_loc hm at2
    have e3 : stW (.loc n) (.d (.int 2)) (.d (.int (d2 + 1))) m = some (m.set n (deckO d0 d1 (d2 + 1))) := st_loc hm (t := 2) rfl
    generalize m.set n (deckO d0 d1 (d2 + 1)) = m' at hm' e3 ⊢
    have e4 : gIx (.loc n) (.d (.int 1)) m' = .ok (.d (.int d1)) m' := ix_loc hm' at1
    have e5 : gIx (.loc n) (.d (.int 2)) m' = .ok (.d (.int (d2 + 1))) m' := ix_loc hm' at2
    have e6 : gMul (.d (.int 15485867)) (.d (.int (d2 + 1))) m' = .ok (.d (.int (15485867 * (d2 + 1)))) m' := e_mul (by decide) (by decide)
    have e7 : gPow (.d (.int (d1 + 15485867 * (d2 + 1)))) (.d (.int 5)) m' = .ok (.d (.int ((d1 + 15485867 * (d2 + 1)) ^ 5))) m' := e_pow (by decide) (by decide) z1
    have e8 : gMod (.d (.int ((d1 + 15485867 * (d2 + 1)) ^ 5))) (.d (.int 2147483647)) m' = .ok (.d (.int nu)) m' := e_mod (by decide)
    have e9 : gMul (.d (.int 7919)) (.d (.int (d2 + 1))) m' = .ok (.d (.int (7919 * (d2 + 1)))) m' := e_mul (by decide) (by decide)
    have e10 : gPow (.d (.int (nu + 7919 * (d2 + 1)))) (.d (.int 3)) m' = .ok (.d (.int ((nu + 7919 * (d2 + 1)) ^ 3))) m' := e_pow (by decide) (by decide) z2
    have e11 : gMod (.d (.int ((nu + 7919 * (d2 + 1)) ^ 3))) (.d (.int 2147483629)) m' = .ok (.d (.int ((nu + 7919 * (d2 + 1)) ^ 3 % 2147483629))) m' := e_mod (by decide)
    have e12 : gFdiv (.d (.int ((nu + 7919 * (d2 + 1)) ^ 3 % 2147483629))) (.d (.int 32)) m' = .ok (.d (.int fo)) m' := e_fdiv (by decide) (by decide)
    have e13 : gMod (.d (.int fo)) (.d (.int s)) m' = .ok (.d (.int (fo % s))) m' := e_mod (by omega)
    unfold b__law_pick
    simp [fVar, fC, fNil, fCons, fTup, fLst, fLstN, fBin, fChain_eq, fTb_eq, fAndT, fOrT, fNotT, fAndV_eq, fOrV_eq, fNotV_eq, fIf, fIsN, fNotN, fIsi, fCall, fBi, fRet, fSet, fAsg, fPar, fPar3, fIfS_eq, fThen, fDrop, fNext, fSt, startR, subTy, kBl, mkT, e0, e2, e3, e4, e5, e6, e7, e8, e9, e10, e11, e12, e13, c]
end Wy

set_option Elab.async false
set_option linter.all false
set_option maxRecDepth 100000
set_option maxHeartbeats 4000000
/-! M2: wishes, options, lines, houses that the law draws. -/
namespace Wy
open PySem PySem.Spec PyProof.Rows L2 PySem.W
/-- m is m0 but for the deck at n -/
structure Dm (m0 m : Mu) (n : Nat) (b : Int) : Prop where
  ch : ∃ o, m = m0.set n o
  dk : Dk m n b
theorem Dm.mono {m0 m : Mu} {n : Nat} {b b' : Int} (h : Dm m0 m n b) (l : b ≤ b') : Dm m0 m n b' := by
  obtain ⟨d0, d1, d2, e, a1, a2, a3, a4⟩ := h.dk.ex
  exact ⟨h.ch, ⟨d0, d1, d2, e, a1, a2, a3, by omega⟩⟩
theorem Dm.len {m0 m : Mu} {n : Nat} {b : Int} (h : Dm m0 m n b) : m.length = m0.length := by
  obtain ⟨o, rfl⟩ := h.ch
  simp
theorem Dm.self {m : Mu} {n : Nat} {b : Int} (h : Dk m n b) : Dm m m n b := by
  refine ⟨?_, h⟩
  obtain ⟨d0, d1, d2, e, _⟩ := h.ex
  refine ⟨_, (List.set_getElem_self (i := n) (List.getElem?_eq_some_iff.mp e).1).symm⟩
theorem Dm.trans {m0 m m' : Mu} {n : Nat} {b b' : Int} (h : Dm m0 m n b) (h' : Dm m m' n b') : Dm m0 m' n b' := by
  obtain ⟨o, rfl⟩ := h.ch
  obtain ⟨o', rfl⟩ := h'.ch
  exact ⟨⟨o', by simp⟩, h'.dk⟩
theorem pickD {m0 m : Mu} {n : Nat} {b s : Int} (h : Dm m0 m n b) (hb : b ≤ 1073741824) (h1 : 1 ≤ s) (h2 : s ≤ 1000000) :
    ∃ v m', f__law_pick [.loc n, .d (.int s)] m = .ok (.d (.int v)) m' ∧ 0 ≤ v ∧ v < s ∧ Dm m0 m' n (b + 1) := by
  obtain ⟨v, o, e, a1, a2, a3⟩ := v_pick h.dk hb h1 h2
  exact ⟨v, _, e, a1, a2, h.trans ⟨⟨o, rfl⟩, a3⟩⟩
/-- some of the states 0 .. k - 1, rising -/
structure Wish (k : Int) (ns : List Int) : Prop where
  ne : ns ≠ []
  up : ns.Pairwise (· < ·)
  bd : ∀ x ∈ ns, 0 ≤ x ∧ x < k
abbrev dI (ns : List Int) : List PyData := ns.map PyData.int
@[simp] theorem e_eqI {i j : Int} {m : Mu} : gEq (.d (.int i)) (.d (.int j)) m = .ok (.d (.bool (i == j))) m := rfl
@[simp] theorem e_neI {i j : Int} {m : Mu} : gNe (.d (.int i)) (.d (.int j)) m = .ok (.d (.bool (!(i == j)))) m := rfl
@[simp] theorem e_tupL {ds : List PyData} {m : Mu} : gTuple [.d (.list ds)] m = .ok (.d (.tuple ds)) m := rfl
theorem range_items (k : Int) : rangeW 0 k.toNat = (List.range k.toNat).map fun i : Nat => W.d (.int (i : Int)) := by
  unfold rangeW
  exact List.map_congr_left fun i _ => by rw [Int.zero_add]
theorem rng1 {f : FE} {r : Rh} {m m' : Mu} {k : Int} (h : f r m = .ok (.d (.int k)) m') (h1 : 0 ≤ k) (h2 : k ≤ 1000000) : fRng1 f r m = .ok ⟨(List.range k.toNat).map fun i : Nat => W.d (.int (i : Int)), none⟩ m' := by
  unfold fRng1
  rw [h, bind_ok, ← range_items]
  show (if -(2 ^ 62) ≤ k ∧ k < 2 ^ 62 then _ else _) = _
  rw [if_pos (by omega)]
theorem v_wish {m0 m : Mu} {n : Nat} {b k : Int} (D : Dm m0 m n b) (hb : b ≤ 1000000000) (h1 : 1 ≤ k) (h2 : k ≤ 1000) :
    ∃ ns m', f__law_wish [.loc n, .d (.int k)] m = .ok (.d (.tuple (dI ns))) m' ∧ Wish k ns ∧ Dm m0 m' n (b + 1 + k) := by
  obtain ⟨f, m1, e1, a1, a2, D1⟩ := pickD D (by omega) h1 (by omega)
  obtain ⟨acc, m2, hc, ns, rfl, up, bd, hin, D2⟩ := comp_inv (asg := fun w => patF (.nm 3) w [some (.loc n), some (.d (.int k)), some (.d (.int f)), none])
    (body := elemF (fOrT (fTb (fBin gEq (fVar 3) (fVar 2))) (fTb (fBin gEq (fCall 2 f__law_pick (fCons (fVar 0) (fCons (fC (.int 3)) fNil))) (fC (.int 0))))) (fVar 3)) (fun i : Nat => W.d (.int (i : Int)))
    (fun rest acc m => ∃ ns : List Int, acc = dI ns ∧ ns.Pairwise (· < ·) ∧ (∀ x ∈ ns, (0 ≤ x ∧ x < k) ∧ ∀ y ∈ rest, x < (y : Int)) ∧ (f ∈ ns ∨ ∃ y ∈ rest, (y : Int) = f) ∧ rest.Pairwise (· < ·) ∧ (∀ y ∈ rest, (y : Int) < k) ∧ ns.length + rest.length ≤ 1000 ∧ Dm m0 m n (b + 1 + (k - rest.length)))
    (List.range k.toNat) [] m1 ⟨[], rfl, .nil, fun x h => (by cases h), .inr ⟨f.toNat, by simp; omega, by omega⟩, List.pairwise_lt_range, fun y h => (by have := List.mem_range.mp h; omega), by simp; omega, by simp only [List.length_range]; exact D1.mono (by omega)⟩
    (fun x xs acc m ⟨ns, ea, up, bd, hf, rs, rb, hl, D⟩ => by
      subst ea
      refine ⟨[some (.loc n), some (.d (.int k)), some (.d (.int f)), some (.d (.int (x : Int)))], rfl, ?_⟩
      have hxk : (x : Int) < k := rb x List.mem_cons_self
      have hx : ∀ y ∈ ns, y < (x : Int) := fun y hy => (bd y hy).2 x List.mem_cons_self
      have upx : (ns ++ [(x : Int)]).Pairwise (· < ·) := List.pairwise_append.mpr ⟨up, by simp, fun y hy z hz => by rw [List.mem_singleton.mp hz]; exact hx y hy⟩
      have bdx : ∀ z ∈ ns ++ [(x : Int)], (0 ≤ z ∧ z < k) ∧ ∀ y ∈ xs, z < (y : Int) := fun z hz => by
        rcases List.mem_append.mp hz with hz | hz
        · exact ⟨(bd z hz).1, fun y hy => (bd z hz).2 y (List.mem_cons_of_mem _ hy)⟩
        · rw [List.mem_singleton.mp hz]
          refine ⟨⟨by omega, hxk⟩, fun y hy => ?_⟩
          have := (List.pairwise_cons.mp rs).1 y hy
          omega
      have rs' := (List.pairwise_cons.mp rs).2
      have rb' : ∀ y ∈ xs, (y : Int) < k := fun y hy => rb y (List.mem_cons_of_mem _ hy)
      have hln : (dI ns).length < 1000000 := by
        simp only [List.length_map, List.length_cons] at hl ⊢
        omega
      have hlc : ((x :: xs).length : Int) = xs.length + 1 := by simp
      by_cases c : (x : Int) = f
      · refine ⟨dI (ns ++ [(x : Int)]), m, ?_, ns ++ [(x : Int)], rfl, upx, bdx, .inl (by simp [c]), rs', rb', by simp at hl ⊢; omega, D.mono (by omega)⟩
        unfold elemF
        simp [fVar, fC, fNil, fCons, fTup, fLst, fLstN, fBin, fChain_eq, fTb_eq, fAndT, fOrT, fNotT, fAndV_eq, fOrV_eq, fNotV_eq, fIf, fIsN, fNotN, fIsi, fCall, fBi, fRet, fSet, fAsg, fPar, fPar3, fIfS_eq, fThen, fDrop, fNext, fSt, startR, subTy, kBl, mkT, c]
        simpa using hln
      · have hbk : b + 1 + (k - ((x :: xs).length : Int)) ≤ 1073741824 := by omega
        obtain ⟨v, m', e, v1, v2, D'⟩ := pickD D hbk (s := 3) (by omega) (by omega)
        have ftv : ∀ q, elemF (fOrT (fTb (fBin gEq (fVar 3) (fVar 2))) (fTb (fBin gEq (fCall 2 f__law_pick (fCons (fVar 0) (fCons (fC (.int 3)) fNil))) (fC (.int 0))))) (fVar 3) [some (.loc n), some (.d (.int k)), some (.d (.int f)), some (.d (.int (x : Int)))] q m = (if v = 0 then (if q.length < 1000000 then .ok (q ++ [.int (x : Int)]) m' else .bad) else .ok q m') := fun q => by
          unfold elemF
          simp [fVar, fC, fNil, fCons, fTup, fLst, fLstN, fBin, fChain_eq, fTb_eq, fAndT, fOrT, fNotT, fAndV_eq, fOrV_eq, fNotV_eq, fIf, fIsN, fNotN, fIsi, fCall, fBi, fRet, fSet, fAsg, fPar, fPar3, fIfS_eq, fThen, fDrop, fNext, fSt, startR, subTy, kBl, mkT, c, e]
        by_cases c2 : v = 0
        · refine ⟨dI (ns ++ [(x : Int)]), m', ?_, ns ++ [(x : Int)], rfl, upx, bdx, ?_, rs', rb', by simp at hl ⊢; omega, D'.mono (by omega)⟩
          · rw [ftv, if_pos c2, if_pos hln]
            simp
          · rcases hf with hf | ⟨y, hy, ey⟩
            · exact .inl (List.mem_append_left _ hf)
            · rcases List.mem_cons.mp hy with e | hy
              · rw [e] at ey; exact absurd ey c
              · exact .inr ⟨y, hy, ey⟩
        · refine ⟨dI ns, m', by rw [ftv, if_neg c2], ns, rfl, up, fun z hz => ⟨(bd z hz).1, fun y hy => (bd z hz).2 y (List.mem_cons_of_mem _ hy)⟩, ?_, rs', rb', by simp at hl ⊢; omega, D'.mono (by omega)⟩
          rcases hf with hf | ⟨y, hy, ey⟩
          · exact .inl hf
          · rcases List.mem_cons.mp hy with e | hy
            · rw [e] at ey; exact absurd ey c
            · exact .inr ⟨y, hy, ey⟩)
  have hf : f ∈ ns := by
    rcases hin with h | ⟨y, hy, _⟩
    · exact h
    · cases hy
  refine ⟨ns, m2, fnF_retM ?_ (D2.2.2.2.len.trans D.len.symm), ⟨fun e => (by rw [e] at hf; cases hf), up, fun x hx => (bd x hx).1⟩, D2.2.2.2.mono (by simp)⟩
  unfold b__law_wish
  have er := rng1 (f := fVar 1) (r := [some (.loc n), some (.d (.int k)), some (.d (.int f)), none]) (m := m1) (m' := m1) (k := k) rfl (by omega) (by omega)
  simp [fVar, fC, fNil, fCons, fTup, fLst, fLstN, fBin, fChain_eq, fTb_eq, fAndT, fOrT, fNotT, fAndV_eq, fOrV_eq, fNotV_eq, fIf, fIsN, fNotN, fIsi, fCall, fBi, fRet, fSet, fAsg, fPar, fPar3, fIfS_eq, fThen, fDrop, fNext, fSt, startR, subTy, kBl, mkT, e1, fComp, er, wipeR, hc]
structure Opt where
  need : List Int
  side : Int
  st : Int
  go : Int
def eO (o : Opt) : PyData := .tuple [.tuple (dI o.need), .int o.side, .int o.st, .int o.go]
structure OptOk (s many lines : Int) (o : Opt) : Prop where
  need : Wish s o.need
  side : -1 ≤ o.side ∧ o.side < many
  st : 0 ≤ o.st ∧ o.st < s
  go : 0 ≤ o.go ∧ o.go ≤ lines
theorem wish_all {k : Int} (h : 1 ≤ k) : Wish k ((List.range k.toNat).map fun i : Nat => (i : Int)) := by
  refine ⟨fun e => ?_, ?_, fun x hx => ?_⟩
  · have := congrArg List.length e
    simp at this
    omega
  · rw [List.pairwise_map]
    exact List.pairwise_lt_range.imp fun h => by omega
  · obtain ⟨i, hi, rfl⟩ := List.mem_map.mp hx
    have := List.mem_range.mp hi
    omega
theorem tupR {f : FE} {r : Rh} {m m' : Mu} {k : Int} (h : f r m = .ok (.d (.int k)) m') (h1 : 0 ≤ k) (h2 : k ≤ 1000) : fTupR f r m = .ok (.d (.tuple (dI ((List.range k.toNat).map fun i : Nat => (i : Int))))) m' := by
  unfold fTupR
  rw [h, bind_ok]
  dsimp only
  rw [if_pos (by omega)]
  show _ = R.ok (W.d (.tuple (((List.range k.toNat).map fun i : Nat => (i : Int)).map PyData.int))) m'
  rw [List.map_map]
  rfl
theorem v_option {m0 m : Mu} {n : Nat} {b s many lines at_ : Int} (D : Dm m0 m n b) (hb : b ≤ 900000000) (hs : 1 ≤ s ∧ s ≤ 1000) (hm : 1 ≤ many ∧ many ≤ 1000) (hl : lines ≤ 1000) (ha : 0 ≤ at_ ∧ at_ < lines) :
    ∃ o m', f__law_option [.loc n, .d (.int s), .d (.int many), .d (.int lines), .d (.int at_)] m = .ok (.d (eO o)) m' ∧ OptOk s many lines o ∧ Dm m0 m' n (b + 10 + s) := by
  have hA : ∃ ns m1, fIf (fTb (fBin (gO cGt) (fCall 2 f__law_pick (fCons (fVar 0) (fCons (fC (.int 3)) fNil))) (fC (.int 0)))) (fTupR (fVar 1)) (fCall 2 f__law_wish (fCons (fVar 0) (fCons (fVar 1) fNil)))
      [some (.loc n), some (.d (.int s)), some (.d (.int many)), some (.d (.int lines)), some (.d (.int at_)), none, none, none] m = .ok (.d (.tuple (dI ns))) m1 ∧ Wish s ns ∧ Dm m0 m1 n (b + 2 + s) := by
    obtain ⟨v, m1, e, a1, a2, D1⟩ := pickD D (s := 3) (by omega) (by omega) (by omega)
    by_cases c : 0 < v
    · refine ⟨_, m1, ?_, wish_all hs.1, D1.mono (by omega)⟩
      have et := tupR (f := fVar 1) (r := [some (.loc n), some (.d (.int s)), some (.d (.int many)), some (.d (.int lines)), some (.d (.int at_)), none, none, none]) (m := m1) (m' := m1) (k := s) rfl (by omega) (by omega)
      simp [fVar, fC, fNil, fCons, fTup, fLst, fLstN, fBin, fChain_eq, fTb_eq, fAndT, fOrT, fNotT, fAndV_eq, fOrV_eq, fNotV_eq, fIf, fIsN, fNotN, fIsi, fCall, fBi, fRet, fSet, fAsg, fPar, fPar3, fIfS_eq, fThen, fDrop, fNext, fSt, startR, subTy, kBl, mkT, e, c, et]
    · obtain ⟨ns, m2, e2, w, D2⟩ := v_wish D1 (by omega) hs.1 hs.2
      refine ⟨ns, m2, ?_, w, D2.mono (by omega)⟩
      simp [fVar, fC, fNil, fCons, fTup, fLst, fLstN, fBin, fChain_eq, fTb_eq, fAndT, fOrT, fNotT, fAndV_eq, fOrV_eq, fNotV_eq, fIf, fIsN, fNotN, fIsi, fCall, fBi, fRet, fSet, fAsg, fPar, fPar3, fIfS_eq, fThen, fDrop, fNext, fSt, startR, subTy, kBl, mkT, e, e2, c]
  obtain ⟨ns, m1, e1, w1, D1⟩ := hA
  have hB : ∃ sd m2, fIf (fTb (fBin gEq (fCall 2 f__law_pick (fCons (fVar 0) (fCons (fC (.int 3)) fNil))) (fC (.int 0)))) (fCall 2 f__law_pick (fCons (fVar 0) (fCons (fVar 2) fNil))) (fC (.int (-1)))
      [some (.loc n), some (.d (.int s)), some (.d (.int many)), some (.d (.int lines)), some (.d (.int at_)), some (.d (.tuple (dI ns))), none, none] m1 = .ok (.d (.int sd)) m2 ∧ (-1 ≤ sd ∧ sd < many) ∧ Dm m0 m2 n (b + 4 + s) := by
    obtain ⟨v, m2, e, a1, a2, D2⟩ := pickD D1 (s := 3) (by omega) (by omega) (by omega)
    by_cases c : v = 0
    · obtain ⟨v2, m3, e2, a3, a4, D3⟩ := pickD D2 (s := many) (by omega) (by omega) (by omega)
      refine ⟨v2, m3, ?_, ⟨by omega, a4⟩, D3.mono (by omega)⟩
      simp [fVar, fC, fNil, fCons, fTup, fLst, fLstN, fBin, fChain_eq, fTb_eq, fAndT, fOrT, fNotT, fAndV_eq, fOrV_eq, fNotV_eq, fIf, fIsN, fNotN, fIsi, fCall, fBi, fRet, fSet, fAsg, fPar, fPar3, fIfS_eq, fThen, fDrop, fNext, fSt, startR, subTy, kBl, mkT, e, e2, c]
    · refine ⟨-1, m2, ?_, ⟨by omega, by omega⟩, D2.mono (by omega)⟩
      simp [fVar, fC, fNil, fCons, fTup, fLst, fLstN, fBin, fChain_eq, fTb_eq, fAndT, fOrT, fNotT, fAndV_eq, fOrV_eq, fNotV_eq, fIf, fIsN, fNotN, fIsi, fCall, fBi, fRet, fSet, fAsg, fPar, fPar3, fIfS_eq, fThen, fDrop, fNext, fSt, startR, subTy, kBl, mkT, e, c]
  obtain ⟨sd, m2, e2, w2, D2⟩ := hB
  have hC : ∃ go m3, fIf (fTb (fBin (gO cGt) (fCall 2 f__law_pick (fCons (fVar 0) (fCons (fC (.int 5)) fNil))) (fC (.int 0)))) (fBin gAdd (fBin gAdd (fVar 4) (fC (.int 1))) (fCall 2 f__law_pick (fCons (fVar 0) (fCons (fBin gSub (fVar 3) (fVar 4)) fNil)))) (fCall 2 f__law_pick (fCons (fVar 0) (fCons (fBin gAdd (fVar 3) (fC (.int 1))) fNil)))
      [some (.loc n), some (.d (.int s)), some (.d (.int many)), some (.d (.int lines)), some (.d (.int at_)), some (.d (.tuple (dI ns))), some (.d (.int sd)), none] m2 = .ok (.d (.int go)) m3 ∧ (0 ≤ go ∧ go ≤ lines) ∧ Dm m0 m3 n (b + 6 + s) := by
    obtain ⟨v, m3, e, a1, a2, D3⟩ := pickD D2 (s := 5) (by omega) (by omega) (by omega)
    by_cases c : 0 < v
    · obtain ⟨v2, m4, e2, a3, a4, D4⟩ := pickD D3 (s := lines - at_) (by omega) (by omega) (by omega)
      refine ⟨at_ + 1 + v2, m4, ?_, ⟨by omega, by omega⟩, D4.mono (by omega)⟩
      simp [fVar, fC, fNil, fCons, fTup, fLst, fLstN, fBin, fChain_eq, fTb_eq, fAndT, fOrT, fNotT, fAndV_eq, fOrV_eq, fNotV_eq, fIf, fIsN, fNotN, fIsi, fCall, fBi, fRet, fSet, fAsg, fPar, fPar3, fIfS_eq, fThen, fDrop, fNext, fSt, startR, subTy, kBl, mkT, e, e2, c]
    · obtain ⟨v2, m4, e2, a3, a4, D4⟩ := pickD D3 (s := lines + 1) (by omega) (by omega) (by omega)
      refine ⟨v2, m4, ?_, ⟨a3, by omega⟩, D4.mono (by omega)⟩
      simp [fVar, fC, fNil, fCons, fTup, fLst, fLstN, fBin, fChain_eq, fTb_eq, fAndT, fOrT, fNotT, fAndV_eq, fOrV_eq, fNotV_eq, fIf, fIsN, fNotN, fIsi, fCall, fBi, fRet, fSet, fAsg, fPar, fPar3, fIfS_eq, fThen, fDrop, fNext, fSt, startR, subTy, kBl, mkT, e, e2, c]
  obtain ⟨go, m3, e3, w3, D3⟩ := hC
  obtain ⟨st, m4, e4, a3, a4, D4⟩ := pickD D3 (s := s) (by omega) (by omega) (by omega)
  refine ⟨⟨ns, sd, st, go⟩, m4, fnF_retM ?_ (D4.len.trans D.len.symm), ⟨w1, w2, ⟨a3, a4⟩, w3⟩, D4.mono (by omega)⟩
  unfold b__law_option
  simp only [fThen, fSet, startR, List.length_cons, List.length_nil, List.map_cons, List.map_nil, List.replicate, List.cons_append, List.nil_append, Nat.reduceAdd, Nat.reduceSub, e1, toS_ok, then_next, List.set_cons_succ, List.set_cons_zero, e2, e3]
  simp [fVar, fC, fNil, fCons, fTup, fLst, fLstN, fBin, fChain_eq, fTb_eq, fAndT, fOrT, fNotT, fAndV_eq, fOrV_eq, fNotV_eq, fIf, fIsN, fNotN, fIsi, fCall, fBi, fRet, fSet, fAsg, fPar, fPar3, fIfS_eq, fThen, fDrop, fNext, fSt, startR, subTy, kBl, mkT, e4, eO]
end Wy

set_option Elab.async false
set_option linter.all false
set_option maxRecDepth 100000
set_option maxHeartbeats 4000000
/-! M3: options sorted; lines. -/
namespace Wy
open PySem PySem.Spec PyProof.Rows L2 PySem.W
theorem toks_nil : keyToksAll [] = [.inl 0] := by rw [keyToksAll]
theorem toks_cons (x : PyData) (xs : List PyData) : keyToksAll (x :: xs) = .inl 1 :: (keyToks x ++ keyToksAll xs) := by rw [keyToksAll]
theorem toks_int (i : Int) : keyToks (.int i) = [.inl i] := by rw [keyToks]
theorem toks_tup (xs : List PyData) : keyToks (.tuple xs) = keyToksAll xs := by rw [keyToks]
theorem toks_ints : ∀ (ns ks : List Int) (r r' : List (Int ⊕ List Nat)), keyToksAll (dI ns) ++ r = keyToksAll (dI ks) ++ r' → ns = ks ∧ r = r'
  | [], [], r, r', h => by
    rw [show dI [] = [] from rfl, toks_nil] at h
    exact ⟨rfl, List.append_cancel_left h⟩
  | [], k :: ks, r, r', h => by
    rw [show dI [] = [] from rfl, show dI (k :: ks) = .int k :: dI ks from rfl, toks_nil, toks_cons] at h
    simp at h
  | n :: ns, [], r, r', h => by
    rw [show dI [] = [] from rfl, show dI (n :: ns) = .int n :: dI ns from rfl, toks_nil, toks_cons] at h
    simp at h
  | n :: ns, k :: ks, r, r', h => by
    rw [show dI (n :: ns) = .int n :: dI ns from rfl, show dI (k :: ks) = .int k :: dI ks from rfl, toks_cons, toks_cons, toks_int, toks_int] at h
    simp at h
    obtain ⟨e1, e2⟩ := h
    obtain ⟨e3, e4⟩ := toks_ints ns ks r r' e2
    exact ⟨by rw [e1, e3], e4⟩
theorem toks_opt {o o' : Opt} (h : keyToks (eO o) = keyToks (eO o')) : o = o' := by
  unfold eO at h
  simp only [toks_tup, toks_cons, toks_int, List.cons_append, List.nil_append, List.append_assoc, List.cons.injEq, true_and] at h
  obtain ⟨e1, e2⟩ := toks_ints _ _ _ _ h
  simp only [List.cons.injEq, Sum.inl.injEq, true_and, and_true] at e2
  cases o; cases o'
  simp_all
theorem keys_ints : ∀ ns : List Int, keysOf (dI ns) = ns.map NestedKey.num
  | [] => by simp [keysOf]
  | n :: ns => by
    rw [show dI (n :: ns) = .int n :: dI ns from rfl, keysOf, keys_ints ns, keyOf]
    rfl
theorem key_opt (o : Opt) : keyOf (eO o) = .tup [.tup (o.need.map NestedKey.num), .num o.side, .num o.st, .num o.go] := by
  unfold eO
  simp only [keyOf, keysOf, keys_ints]
theorem num_inj : ∀ {a b : List Int}, a.map NestedKey.num = b.map NestedKey.num → a = b
  | [], [], _ => rfl
  | [], _ :: _, h => by cases h
  | _ :: _, [], h => by cases h
  | x :: a, y :: b, h => by
    rw [List.map_cons, List.map_cons] at h
    injection h with h1 h2
    injection h1 with h1
    rw [h1, num_inj h2]
theorem key_opt_inj {o o' : Opt} (h : keyOf (eO o) = keyOf (eO o')) : o = o' := by
  rw [key_opt, key_opt] at h
  simp only [NestedKey.tup.injEq, List.cons.injEq, NestedKey.num.injEq, and_true] at h
  obtain ⟨h1, h2, h3, h4⟩ := h
  have := num_inj h1
  cases o; cases o'
  simp_all
theorem keyables_ints : ∀ ns : List Int, keyables (dI ns) = true
  | [] => by simp [keyables]
  | n :: ns => by
    rw [show dI (n :: ns) = .int n :: dI ns from rfl, keyables, keyable, keyables_ints ns]
    rfl
theorem depth_nums : ∀ ns : List Int, NestedKey.depthAll (ns.map NestedKey.num) = 0
  | [] => rfl
  | n :: ns => by
    rw [List.map_cons, NestedKey.depthAll, depth_nums ns]
    rfl
theorem numys_nums : ∀ ns : List Int, numys (ns.map NestedKey.num) = true
  | [] => by simp [numys]
  | n :: ns => by
    rw [List.map_cons, numys, numys_nums ns, numy]
    rfl
theorem okKey_opt (o : Opt) : okKey (eO o) = true ∧ numy (keyOf (eO o)) = true := by
  refine ⟨?_, ?_⟩
  · unfold okKey
    rw [key_opt]
    simp [eO, keyable, keyables, keyables_ints, NestedKey.depth, NestedKey.depthAll, depth_nums]
  · rw [key_opt]
    simp [numy, numys, numys_nums]
theorem alike_ints' : ∀ ns ks : List Int, alikeAll (dI ns) (dI ks) = true
  | [], _ => by simp [alikeAll]
  | _ :: _, [] => by simp [alikeAll]
  | n :: ns, k :: ks => by
    rw [show dI (n :: ns) = .int n :: dI ns from rfl, show dI (k :: ks) = .int k :: dI ks from rfl, alikeAll, alike, alike_ints' ns ks]
    rfl
theorem alike_opt (o o' : Opt) : alike (eO o) (eO o') = true := by
  simp [eO, alike, alikeAll, alike_ints']
theorem depth_intsD : ∀ ns : List Int, PyData.depthAll (dI ns) = 0
  | [] => rfl
  | n :: ns => by
    rw [show dI (n :: ns) = .int n :: dI ns from rfl, PyData.depthAll, depth_intsD ns]
    rfl
theorem lay_ints : ∀ ns : List Int, PyData.canLayAll0 (dI ns) = true
  | [] => rfl
  | n :: ns => by
    rw [show dI (n :: ns) = .int n :: dI ns from rfl, PyData.canLayAll0, lay_ints ns]
    rfl
theorem depth_opt (o : Opt) : (eO o).depth = 2 := by
  simp [eO, PyData.depth, PyData.depthAll, depth_intsD]
theorem lay_opt (o : Opt) : (eO o).canLay0 = true := by
  simp [eO, PyData.canLay0, PyData.canLayAll0, lay_ints]
/-- sorted, each once: strictly rising -/
theorem strict_of {ds : List PyData} (nd : ds.Nodup) (inj : ∀ x ∈ ds, ∀ y ∈ ds, keyToks x = keyToks y → x = y) : strictB (sortD ds) = true := by
  have pm : (sortD ds).Perm ds := by rw [sortD_eq]; exact List.mergeSort_perm ds _
  have pw := sort_pairwise dataLe_tot ds
  rw [show ds.mergeSort (dataLe false id) = sortD ds from (sortD_eq ds).symm] at pw
  have nd' := pm.nodup_iff.mpr nd
  have inj' : ∀ x ∈ sortD ds, ∀ y ∈ sortD ds, keyToks x = keyToks y → x = y := fun x hx y hy => inj x (pm.mem_iff.mp hx) y (pm.mem_iff.mp hy)
  generalize sortD ds = l at pw nd' inj'
  induction l with
  | nil => rfl
  | cons a l ih =>
    cases pw with
    | cons h1 h2 =>
      obtain ⟨n1, n2⟩ := List.nodup_cons.mp nd'
      have t := ih h2 n2 fun x hx y hy => inj' x (List.mem_cons_of_mem _ hx) y (List.mem_cons_of_mem _ hy)
      rw [strictB, t, Bool.and_true]
      refine List.all_eq_true.mpr fun x hx => ?_
      have le := h1 x hx
      have e1 : dataLe false (id : PyData → PyData) a x = !dataLt x a := rfl
      rw [e1] at le
      cases c : dataLt a x with
      | true => rfl
      | false =>
        have c2 : dataLt x a = false := by simpa using le
        have := (listOrd itemOrd).total (keyToks a) (keyToks x) c c2
        exact absurd (inj' a List.mem_cons_self x (List.mem_cons_of_mem _ hx) this) fun e => n1 (e ▸ hx)
theorem okSet_opts {os : List Opt} (h : os.length ≤ 4) : okSet (os.map eO) = true := by
  have all : ∀ {p : PyData → Bool}, (∀ o, p (eO o) = true) → (os.map eO).all p = true := fun h => by
    rw [List.all_map]
    exact List.all_eq_true.mpr fun o _ => h o
  unfold okSet okSort
  simp only [Bool.and_eq_true, Bool.or_eq_true]
  refine ⟨⟨⟨⟨⟨by simpa using h, all fun o => ?_⟩, all fun o => all fun o' => ?_⟩, ⟨⟨⟨all fun o => all fun o' => alike_opt o o', by simp; omega⟩, all fun o => by rw [depth_opt]; rfl⟩, all lay_opt⟩, .inl (.inl (all fun o => rfl))⟩, all fun o => rfl⟩, ?_⟩
  · rw [(okKey_opt o).1, (okKey_opt o).2]
    rfl
  · by_cases e : keyOf (eO o) = keyOf (eO o')
    · rw [key_opt_inj e, pdb_refl, Bool.or_true]
    · rw [decide_eq_false e]
      rfl
  · refine strict_of (nd_dedup _) fun x hx y hy e => ?_
    obtain ⟨o, _, rfl⟩ := List.mem_map.mp (mem_dedup.mp hx)
    obtain ⟨o', _, rfl⟩ := List.mem_map.mp (mem_dedup.mp hy)
    rw [toks_opt e]
structure Ln where
  me : Bool
  opts : List Opt
def whoD (b : Bool) : PyData := if b = true then .str "me" else .str "they"
def eL (l : Ln) : PyData := .tuple [whoD l.me, .tuple (l.opts.map eO)]
structure LnOk (s many lines : Int) (l : Ln) : Prop where
  ne : l.opts ≠ []
  few : l.opts.length ≤ 3
  ok : ∀ o ∈ l.opts, OptOk s many lines o
  up : strictB (l.opts.map eO) = true
/-- the options as the line has them -/
theorem set_opts {os : List Opt} (h : os.length ≤ 4) (hn : os ≠ []) : ∃ os', sortD (dedupD (os.map eO)) = os'.map eO ∧ os' ≠ [] ∧ os'.length ≤ os.length ∧ (∀ o ∈ os', o ∈ os) ∧ strictB (os'.map eO) = true := by
  have ok := (okSet_of (okSet_opts h)).2.2.2.2.2
  have pm : (sortD (dedupD (os.map eO))).Perm (dedupD (os.map eO)) := by rw [sortD_eq]; exact List.mergeSort_perm _ _
  have mem : ∀ x ∈ sortD (dedupD (os.map eO)), ∃ o ∈ os, eO o = x := fun x hx => List.mem_map.mp (mem_dedup.mp (pm.mem_iff.mp hx))
  have hl : (sortD (dedupD (os.map eO))).length ≤ os.length := by
    rw [pm.length_eq]
    have : ∀ ds : List PyData, (dedupD ds).length ≤ ds.length := by
      intro ds
      induction ds with
      | nil => exact Nat.le_refl _
      | cons d ds ih =>
        rw [dedupD, List.length_cons, List.length_cons]
        have := List.length_filter_le (fun x => !pdb x d) (dedupD ds)
        omega
    have := this (os.map eO)
    rwa [List.length_map] at this
  have he : sortD (dedupD (os.map eO)) ≠ [] := fun e => by
    have := pm.length_eq
    rw [e] at this
    cases os with
    | nil => exact hn rfl
    | cons o os => simp [dedupD] at this
  generalize sortD (dedupD (os.map eO)) = l at ok mem hl he
  have : ∃ os' : List Opt, l = os'.map eO ∧ ∀ o ∈ os', o ∈ os := by
    clear ok hl he pm
    induction l with
    | nil => exact ⟨[], rfl, fun o h => (by cases h)⟩
    | cons x l ih =>
      obtain ⟨os', e, h⟩ := ih fun y hy => mem y (List.mem_cons_of_mem _ hy)
      obtain ⟨o, ho, e2⟩ := mem x List.mem_cons_self
      refine ⟨o :: os', by rw [List.map_cons, e2, e], fun o' h' => ?_⟩
      rcases List.mem_cons.mp h' with z | z
      · rw [z]; exact ho
      · exact h o' z
  obtain ⟨os', rfl, hm⟩ := this
  exact ⟨os', rfl, fun e => he (by rw [e]; rfl), by rwa [List.length_map] at hl, hm, ok⟩
end Wy

set_option Elab.async false
set_option linter.all false
set_option maxRecDepth 100000
set_option maxHeartbeats 4000000
/-! M4: lines, houses. -/
namespace Wy
open PySem PySem.Spec PyProof.Rows L2 PySem.W
theorem v_one {m0 m : Mu} {n : Nat} {b : Int} {xs : List PyData} (D : Dm m0 m n b) (hb : b ≤ 1073741824) (h1 : xs ≠ []) (h2 : xs.length ≤ 1000) :
    ∃ x m', f__law_one [.loc n, .d (.list xs)] m = .ok (.d x) m' ∧ x ∈ xs ∧ Dm m0 m' n (b + 1) := by
  have hp : 0 < xs.length := List.length_pos_iff.mpr h1
  obtain ⟨v, m1, e, a1, a2, D1⟩ := pickD D (s := (xs.length : Int)) hb (by omega) (by omega)
  obtain ⟨k, rfl⟩ : ∃ k : Nat, v = (k : Int) := ⟨v.toNat, by omega⟩
  have hk : k < xs.length := by omega
  refine ⟨xs[k], m1, fnF_retM ?_ (D1.len.trans D.len.symm), List.getElem_mem hk, D1⟩
  have ei : gIx (.d (.list xs)) (.d (.int (k : Int))) m1 = .ok (.d xs[k]) m1 := ix_lst (atN (by simp [hk]))
  unfold b__law_one
  simp [fVar, fC, fNil, fCons, fTup, fLst, fLstN, fBin, fChain_eq, fTb_eq, fAndT, fOrT, fNotT, fAndV_eq, fOrV_eq, fNotV_eq, fIf, fIsN, fNotN, fIsi, fCall, fBi, fRet, fSet, fAsg, fPar, fPar3, fIfS_eq, fThen, fDrop, fNext, fSt, startR, subTy, kBl, mkT, e, ei]
theorem e_sset {f : FE} {r : Rh} {m m' : Mu} {ds : List PyData} (h : f r m = .ok (.d (.list ds)) m') (ok : okSet ds = true) : fSortedSet f r m = .ok (.d (.list (sortD (dedupD ds)))) m' := by
  unfold fSortedSet
  rw [h, bind_ok]
  simp [fix, ok]
theorem v_line {m0 m : Mu} {n : Nat} {b s many lines at_ : Int} (D : Dm m0 m n b) (hb : b ≤ 800000000) (hs : 1 ≤ s ∧ s ≤ 1000) (hm : 1 ≤ many ∧ many ≤ 1000) (hl : lines ≤ 1000) (ha : 0 ≤ at_ ∧ at_ < lines) :
    ∃ l m', f__law_line [.loc n, .d (.int s), .d (.int many), .d (.int lines), .d (.int at_)] m = .ok (.d (eL l)) m' ∧ LnOk s many lines l ∧ Dm m0 m' n (b + 10000) := by
  obtain ⟨v, m1, e1, a1, a2, D1⟩ := pickD D (s := 3) (by omega) (by omega) (by omega)
  obtain ⟨acc, m2, hc, os, rfl, hlen, hok, D2⟩ := comp_inv (asg := fun w => patF (.nm 6) w [some (.loc n), some (.d (.int s)), some (.d (.int many)), some (.d (.int lines)), some (.d (.int at_)), none, none])
    (body := elemF fYes (fCall 5 f__law_option (fCons (fVar 0) (fCons (fVar 1) (fCons (fVar 2) (fCons (fVar 3) (fCons (fVar 4) fNil))))))) (fun i : Nat => W.d (.int (i : Int)))
    (fun rest acc m => ∃ os : List Opt, acc = os.map eO ∧ os.length + rest.length = (1 + v).toNat ∧ (∀ o ∈ os, OptOk s many lines o) ∧ Dm m0 m n (b + 1 + os.length * 2000))
    (List.range (1 + v).toNat) [] m1 ⟨[], rfl, by simp, fun o h => (by cases h), by simpa using D1⟩
    (fun x xs acc m ⟨os, ea, hlen, hok, D⟩ => by
      subst ea
      refine ⟨[some (.loc n), some (.d (.int s)), some (.d (.int many)), some (.d (.int lines)), some (.d (.int at_)), none, some (.d (.int (x : Int)))], rfl, ?_⟩
      simp only [List.length_cons] at hlen
      obtain ⟨o, m', e, ok, D'⟩ := v_option D (by omega) hs hm hl ha
      refine ⟨(os ++ [o]).map eO, m', ?_, os ++ [o], rfl, by simp; omega, fun z hz => ?_, D'.mono (by simp; omega)⟩
      · have hlt : os.length < 1000000 := by omega
        unfold elemF fYes
        simp [fVar, fC, fNil, fCons, fTup, fLst, fLstN, fBin, fChain_eq, fTb_eq, fAndT, fOrT, fNotT, fAndV_eq, fOrV_eq, fNotV_eq, fIf, fIsN, fNotN, fIsi, fCall, fBi, fRet, fSet, fAsg, fPar, fPar3, fIfS_eq, fThen, fDrop, fNext, fSt, startR, subTy, kBl, mkT, e]
        exact hlt
      · rcases List.mem_append.mp hz with hz | hz
        · exact hok z hz
        · rw [List.mem_singleton.mp hz]; exact ok)
  simp only [List.length_nil, Nat.add_zero] at hlen
  have hne : os ≠ [] := fun e => by rw [e] at hlen; simp at hlen; omega
  have h4 : os.length ≤ 4 := by omega
  obtain ⟨os', es, ne', lf, mem', up⟩ := set_opts h4 hne
  obtain ⟨x, m3, e3, hx, D3⟩ := v_one D2 (xs := [.str "me", .str "they"]) (by omega) (by simp) (by simp)
  have hw : ∃ bb, x = whoD bb := by
    simp at hx
    rcases hx with h | h
    · exact ⟨true, h⟩
    · exact ⟨false, h⟩
  obtain ⟨bb, rfl⟩ := hw
  refine ⟨⟨bb, os'⟩, m3, fnF_retM ?_ (D3.len.trans D.len.symm), ⟨ne', show os'.length ≤ 3 by omega, fun o h => hok o (mem' o h), up⟩, D3.mono (by omega)⟩
  have er : fRng1 (fBin gAdd (fC (.int 1)) (fCall 2 f__law_pick (fCons (fVar 0) (fCons (fC (.int 3)) fNil)))) [some (.loc n), some (.d (.int s)), some (.d (.int many)), some (.d (.int lines)), some (.d (.int at_)), none, none] m = .ok ⟨(List.range (1 + v).toNat).map fun i : Nat => W.d (.int (i : Int)), none⟩ m1 := by
    refine rng1 ?_ (by omega) (by omega)
    simp [fVar, fC, fNil, fCons, fTup, fLst, fLstN, fBin, fChain_eq, fTb_eq, fAndT, fOrT, fNotT, fAndV_eq, fOrV_eq, fNotV_eq, fIf, fIsN, fNotN, fIsi, fCall, fBi, fRet, fSet, fAsg, fPar, fPar3, fIfS_eq, fThen, fDrop, fNext, fSt, startR, subTy, kBl, mkT, e1]
  have ess := e_sset (f := fVar 5) (r := [some (.loc n), some (.d (.int s)), some (.d (.int many)), some (.d (.int lines)), some (.d (.int at_)), some (.d (.list (os.map eO))), none]) (m := m3) (m' := m3) rfl (okSet_opts h4)
  rw [es] at ess
  unfold b__law_line
  simp [fVar, fC, fNil, fCons, fTup, fLst, fLstN, fBin, fChain_eq, fTb_eq, fAndT, fOrT, fNotT, fAndV_eq, fOrV_eq, fNotV_eq, fIf, fIsN, fNotN, fIsi, fCall, fBi, fRet, fSet, fAsg, fPar, fPar3, fIfS_eq, fThen, fDrop, fNext, fSt, startR, subTy, kBl, mkT, fComp, er, wipeR, hc, e3, ess, eL]
structure Hs where
  s : Int
  es : List (List Ln)
def eE (ls : List Ln) : PyData := .tuple (ls.map eL)
def eH (h : Hs) : PyData := .tuple [.int h.s, .tuple (h.es.map eE)]
structure HsOk (most wide : Int) (h : Hs) : Prop where
  s : 2 ≤ h.s ∧ h.s ≤ 3
  ne : h.es ≠ []
  few : (h.es.length : Int) ≤ most
  errand : ∀ ls ∈ h.es, ls ≠ [] ∧ (ls.length : Int) ≤ wide ∧ ∀ l ∈ ls, LnOk h.s h.es.length ls.length l
@[simp] theorem e_addT {xs ys : List PyData} {m : Mu} (h : xs.length + ys.length ≤ 1000000) : gAdd (.d (.tuple xs)) (.d (.tuple ys)) m = .ok (.d (.tuple (xs ++ ys))) m := by
  show (if xs.length + ys.length ≤ 1000000 then _ else _) = _
  rw [if_pos h]
@[simp] theorem e_addL {xs ys : List PyData} {m : Mu} (h : xs.length + ys.length ≤ 1000000) : gAdd (.d (.list xs)) (.d (.list ys)) m = .ok (.d (.list (xs ++ ys))) m := by
  show (if xs.length + ys.length ≤ 1000000 then _ else _) = _
  rw [if_pos h]
theorem e_pat_nm {i : Nat} {w : W} {r : Rh} : patF (.nm i) w r = some (r.set i (some w)) := rfl
@[simp] theorem e_patsN {r : Rh} : patFs [] [] r = some r := rfl
@[simp] theorem e_patsC {t : Pat} {ts : List Pat} {w : W} {ws : List W} {r : Rh} : patFs (t :: ts) (w :: ws) r = (patF t w r).bind fun r' => patFs ts ws r' := rfl
@[simp] theorem e_pat_tp {ps : List Pat} {ds : List PyData} {r : Rh} : patF (.tp ps) (.d (.tuple ds)) r = patFs ps (ds.map W.d) r := rfl
@[simp] theorem e_pat_wt {ps : List Pat} {ws : List W} {r : Rh} : patF (.tp ps) (.wt ws) r = patFs ps ws r := rfl
theorem v_house {m0 m : Mu} {n : Nat} {b most wide : Int} (D : Dm m0 m n b) (hb : b ≤ 700000000) (hm : 1 ≤ most ∧ most ≤ 50) (hw : 1 ≤ wide ∧ wide ≤ 50) :
    ∃ h m', f__law_house [.loc n, .d (.int most), .d (.int wide)] m = .ok (.d (eH h)) m' ∧ HsOk most wide h ∧ Dm m0 m' n (b + 100000000) := by
  obtain ⟨v1, m1, e1, a1, a2, D1⟩ := pickD D (s := 2) (by omega) (by omega) (by omega)
  obtain ⟨v2, m2, e2, a3, a4, D2⟩ := pickD D1 (s := most) (by omega) (by omega) (by omega)
  obtain ⟨r', m3, hf, es, x6, x7, x8, rfl, hlen, hok, D3⟩ := for_inv (pt := .nm 6) (fb := (fThen (fSet 7 (fBin gAdd (fC (.int 1)) (fCall 2 f__law_pick (fCons (fVar 0) (fCons (fVar 2) fNil)))))
  (fSet 5 (fBin gAdd (fVar 5) (fTup (fCons (fBi gTuple (fCons (fComp (fRng1 (fVar 7)) (.nm 8) [8] fYes (fCall 5 f__law_line (fCons (fVar 0) (fCons (fVar 3) (fCons (fVar 4) (fCons (fVar 7) (fCons (fVar 8) fNil))))))) fNil)) fNil)))))) (fun i : Nat => W.d (.int (i : Int)))
    (fun rest r m => ∃ (es : List (List Ln)) (x6 x7 x8 : Option W), r = [some (.loc n), some (.d (.int most)), some (.d (.int wide)), some (.d (.int (2 + v1))), some (.d (.int (1 + v2))), some (.d (.tuple (es.map eE))), x6, x7, x8] ∧ es.length + rest.length = (1 + v2).toNat ∧
      (∀ ls ∈ es, ls ≠ [] ∧ (ls.length : Int) ≤ wide ∧ ∀ l ∈ ls, LnOk (2 + v1) (1 + v2) ls.length l) ∧ Dm m0 m n (b + 2 + es.length * 1000001))
    (List.range (1 + v2).toNat) [some (.loc n), some (.d (.int most)), some (.d (.int wide)), some (.d (.int (2 + v1))), some (.d (.int (1 + v2))), some (.d (.tuple [])), none, none, none] m2
    ⟨[], none, none, none, rfl, by simp, fun l h => (by cases h), by simpa using D2.mono (by omega)⟩
    (fun x xs r m ⟨es, x6, x7, x8, er, hlen, hok, D⟩ => by
      subst er
      refine ⟨_, rfl, ?_⟩
      simp only [List.length_cons] at hlen
      obtain ⟨v, m1, e, b1, b2, D1⟩ := pickD D (s := wide) (by omega) (by omega) (by omega)
      obtain ⟨acc, m2, hc, ls, rfl, hl2, hk, D2⟩ := comp_inv (asg := fun w => patF (.nm 8) w [some (.loc n), some (.d (.int most)), some (.d (.int wide)), some (.d (.int (2 + v1))), some (.d (.int (1 + v2))), some (.d (.tuple (es.map eE))), some (.d (.int (x : Int))), some (.d (.int (1 + v))), none])
        (body := elemF fYes (fCall 5 f__law_line (fCons (fVar 0) (fCons (fVar 3) (fCons (fVar 4) (fCons (fVar 7) (fCons (fVar 8) fNil))))))) (fun i : Nat => W.d (.int (i : Int)))
        (fun rest acc m => ∃ ls : List Ln, acc = ls.map eL ∧ ls.length + rest.length = (1 + v).toNat ∧ (∀ l ∈ ls, LnOk (2 + v1) (1 + v2) (1 + v) l) ∧ (∀ y ∈ rest, (y : Int) < 1 + v) ∧ Dm m0 m n (b + 3 + es.length * 1000001 + ls.length * 10000))
        (List.range (1 + v).toNat) [] m1 ⟨[], rfl, by simp, fun l h => (by cases h), fun y hy => (by have := List.mem_range.mp hy; omega), by simpa using D1.mono (by omega)⟩
        (fun y ys acc m ⟨ls, ea, hl2, hk, hy, D⟩ => by
          subst ea
          refine ⟨_, rfl, ?_⟩
          simp only [List.length_cons] at hl2
          have hyv := hy y List.mem_cons_self
          obtain ⟨l, m', e, ok, D'⟩ := v_line D (by omega) (s := 2 + v1) (many := 1 + v2) (lines := 1 + v) (at_ := (y : Int)) (by omega) (by omega) (by omega) (by omega)
          refine ⟨(ls ++ [l]).map eL, m', ?_, ls ++ [l], rfl, by simp; omega, fun z hz => ?_, fun z hz => hy z (List.mem_cons_of_mem _ hz), D'.mono (by simp; omega)⟩
          · have hlt : ls.length < 1000000 := by omega
            unfold elemF fYes
            simp [fVar, fC, fNil, fCons, fTup, fLst, fLstN, fBin, fChain_eq, fTb_eq, fAndT, fOrT, fNotT, fAndV_eq, fOrV_eq, fNotV_eq, fIf, fIsN, fNotN, fIsi, fCall, fBi, fRet, fSet, fAsg, fPar, fPar3, fIfS_eq, fThen, fDrop, fNext, fSt, startR, subTy, kBl, mkT, e]
            exact hlt
          · rcases List.mem_append.mp hz with hz | hz
            · exact hk z hz
            · rw [List.mem_singleton.mp hz]; exact ok)
      simp only [List.length_nil, Nat.add_zero] at hl2
      have D2' := D2.2
      have el : ((ls.length : Nat) : Int) = 1 + v := by omega
      refine ⟨_, m2, .inl ?_, es ++ [ls], some (.d (.int (x : Int))), some (.d (.int (1 + v))), x8, rfl, by simp; omega, fun z hz => ?_, D2'.mono (by simp; omega)⟩
      · have er : fRng1 (fVar 7) [some (.loc n), some (.d (.int most)), some (.d (.int wide)), some (.d (.int (2 + v1))), some (.d (.int (1 + v2))), some (.d (.tuple (es.map eE))), some (.d (.int (x : Int))), some (.d (.int (1 + v))), x8] m1 = .ok ⟨(List.range (1 + v).toNat).map fun i : Nat => W.d (.int (i : Int)), none⟩ m1 := rng1 rfl (by omega) (by omega)
        have ea : gAdd (.d (.tuple (es.map eE))) (.d (.tuple [.tuple (ls.map eL)])) m2 = .ok (.d (.tuple (es.map eE ++ [.tuple (ls.map eL)]))) m2 := e_addT (by simp; omega)
        simp [fVar, fC, fNil, fCons, fTup, fLst, fLstN, fBin, fChain_eq, fTb_eq, fAndT, fOrT, fNotT, fAndV_eq, fOrV_eq, fNotV_eq, fIf, fIsN, fNotN, fIsi, fCall, fBi, fRet, fSet, fAsg, fPar, fPar3, fIfS_eq, fThen, fDrop, fNext, fSt, startR, subTy, kBl, mkT, e, fComp, er, wipeR, hc, ea, eE]
      · rcases List.mem_append.mp hz with hz | hz
        · exact hok z hz
        · rw [List.mem_singleton.mp hz]
          refine ⟨fun e => by rw [e] at el; simp at el; omega, by omega, fun l hl => ?_⟩
          rw [el]
          exact hk l hl)
  simp only [List.length_nil, Nat.add_zero] at hlen
  have el : ((es.length : Nat) : Int) = 1 + v2 := by omega
  refine ⟨⟨2 + v1, es⟩, m3, fnF_retM ?_ (D3.len.trans D.len.symm), ⟨⟨show 2 ≤ 2 + v1 by omega, show 2 + v1 ≤ 3 by omega⟩, fun e => ?_, show ((es.length : Nat) : Int) ≤ most by omega, fun ls hls => ?_⟩, D3.mono (by omega)⟩
  · have er : fRng1 (fVar 4) [some (.loc n), some (.d (.int most)), some (.d (.int wide)), some (.d (.int (2 + v1))), some (.d (.int (1 + v2))), some (.d (.tuple [])), none, none, none] m2 = .ok ⟨(List.range (1 + v2).toNat).map fun i : Nat => W.d (.int (i : Int)), none⟩ m2 := rng1 rfl (by omega) (by omega)
    unfold b__law_house
    simp [fVar, fC, fNil, fCons, fTup, fLst, fLstN, fBin, fChain_eq, fTb_eq, fAndT, fOrT, fNotT, fAndV_eq, fOrV_eq, fNotV_eq, fIf, fIsN, fNotN, fIsi, fCall, fBi, fRet, fSet, fAsg, fPar, fPar3, fIfS_eq, fThen, fDrop, fNext, fSt, startR, subTy, kBl, mkT, e1, e2, fFor, er, hf, eH, e_pat_nm]
  · rw [show es = [] from e] at el
    simp at el
    omega
  · have := hok ls hls
    rw [← el] at this
    exact this
end Wy

set_option Elab.async false
set_option linter.all false
set_option maxRecDepth 100000
set_option maxHeartbeats 4000000
/-! M5: the checks say yes. -/
namespace Wy
open PySem PySem.Spec PyProof.Rows L2 PySem.W
theorem wish_len {k : Int} : ∀ {ns : List Int} {a : Int}, ns.Pairwise (· < ·) → (∀ x ∈ ns, a ≤ x ∧ x < k) → a ≤ k → (ns.length : Int) ≤ k - a
  | [], a, _, _, h => by simp; omega
  | n :: ns, a, up, bd, h => by
    obtain ⟨u1, u2⟩ := List.pairwise_cons.mp up
    have hb := bd n List.mem_cons_self
    have := wish_len (a := n + 1) u2 (fun x hx => ⟨by have := u1 x hx; omega, (bd x (List.mem_cons_of_mem _ hx)).2⟩) (by omega)
    simp only [List.length_cons]
    omega
theorem Wish.len {k : Int} {ns : List Int} (w : Wish k ns) (h : 0 ≤ k) : 1 ≤ ns.length ∧ (ns.length : Int) ≤ k := by
  have := wish_len w.up w.bd h
  exact ⟨List.length_pos_iff.mpr w.ne, by omega⟩
theorem e_all {β : Type} (p : β → Bool) (xs : List β) (m : Mu) : gAll [.d (.list (xs.map fun x => .bool (p x)))] m = .ok (.d (.bool (xs.all p))) m := by
  unfold gAll on1
  simp [dr, List.all_map, Function.comp_def]
theorem e_allT {β : Type} (xs : List β) (m : Mu) : gAll [.d (.list (xs.map fun _ => .bool true))] m = .ok (.d (.bool true)) m := by
  rw [e_all (fun _ : β => true), List.all_eq_true.mpr fun _ _ => rfl]
theorem e_any {β : Type} (p : β → Bool) (xs : List β) (m : Mu) : gAny [.d (.list (xs.map fun x => .bool (p x)))] m = .ok (.d (.bool (xs.any p))) m := by
  unfold gAny on1
  simp [dr, List.all_map, List.any_map, Function.comp_def]
theorem e_seqT {f : FE} {r : Rh} {m m' : Mu} {ds : List PyData} (h : f r m = .ok (.d (.tuple ds)) m') : fSeq f r m = .ok ⟨ds.map W.d, none⟩ m' := by
  unfold fSeq
  rw [h]
  rfl
theorem e_seqL {f : FE} {r : Rh} {m m' : Mu} {ds : List PyData} (h : f r m = .ok (.d (.list ds)) m') : fSeq f r m = .ok ⟨ds.map W.d, none⟩ m' := by
  unfold fSeq
  rw [h]
  rfl
theorem take_tail {α : Type} (ds : List α) : List.take (ds.length - min 1 ds.length) (List.drop (min 1 ds.length) ds) = ds.tail := by
  cases ds with
  | nil => rfl
  | cons d ds => simp
@[simp] theorem e_tail {ds : List PyData} {m : Mu} : gSl (.d (.tuple ds)) (some 1) none m = .ok (.d (.tuple ds.tail)) m := by
  unfold gSl cutA
  simp [dr, HT.sIx, take_tail]
@[simp] theorem e_tailL {ds : List PyData} {m : Mu} : gSl (.d (.list ds)) (some 1) none m = .ok (.d (.list ds.tail)) m := by
  unfold gSl cutA
  simp [dr, HT.sIx, take_tail]
theorem zip_items : ∀ (ds es : List PyData), zipW (ds.map W.d) (es.map W.d) = (ds.zip es).map fun q => W.d (.tuple [q.1, q.2])
  | [], es => by simp [zipW]
  | d :: ds, [] => by simp [zipW]
  | d :: ds, e :: es => by
    have := zip_items ds es
    unfold zipW at *
    simp only [List.map_cons, List.zipWith_cons_cons, List.zip_cons_cons, this]
    rfl
theorem e_zipT {f g : FE} {r : Rh} {m m1 m2 : Mu} {ds es : List PyData} (h : f r m = .ok (.d (.tuple ds)) m1) (h2 : g r m1 = .ok (.d (.tuple es)) m2) : fZip f g r m = .ok ⟨(ds.zip es).map fun q => W.d (.tuple [q.1, q.2]), none⟩ m2 := by
  unfold fZip
  rw [h, bind_ok, h2, bind_ok, ← zip_items]
  rfl
/-- a comprehension over what is not changed -/
theorem e_comp {β : Type} {fi : FI} {pt : Pat} {vs : List Nat} {ft : FT} {fe : FE} {r : Rh} {m m1 : Mu} (e : β → W) (p : β → Bool) (g : β → PyData) (xs : List β) (hi : fi r m = .ok ⟨xs.map e, none⟩ m1)
    (h : ∀ x ∈ xs, ∃ r2, patF pt (e x) (wipeR r vs) = some r2 ∧ ft r2 m1 = .ok (p x) m1 ∧ (p x = true → fe r2 m1 = .ok (.d (g x)) m1)) (hl : xs.length ≤ 1000000) : fComp fi pt vs ft fe r m = .ok (.d (.list ((xs.filter p).map g))) m1 := by
  unfold fComp
  rw [hi, bind_ok, comp_of e p g xs [] h (by simpa using hl)]
  rfl
theorem e_compA {β : Type} {fi : FI} {pt : Pat} {vs : List Nat} {fe : FE} {r : Rh} {m m1 : Mu} (e : β → W) (g : β → PyData) (xs : List β) (hi : fi r m = .ok ⟨xs.map e, none⟩ m1)
    (h : ∀ x ∈ xs, ∃ r2, patF pt (e x) (wipeR r vs) = some r2 ∧ fe r2 m1 = .ok (.d (g x)) m1) (hl : xs.length ≤ 1000000) : fComp fi pt vs fYes fe r m = .ok (.d (.list (xs.map g))) m1 := by
  have := e_comp (vs := vs) (ft := fYes) e (fun _ => true) g xs hi (fun x hx => let ⟨r2, a, b⟩ := h x hx; ⟨r2, a, rfl, fun _ => b⟩) hl
  rw [this, List.filter_eq_self.mpr (fun _ _ => rfl)]
theorem up_zip : ∀ {ns : List Int}, ns.Pairwise (· < ·) → ∀ q ∈ ns.zip ns.tail, q.1 < q.2
  | [], _, q, h => by simp at h
  | [n], _, q, h => by simp at h
  | n :: k :: ns, up, q, h => by
    obtain ⟨u1, u2⟩ := List.pairwise_cons.mp up
    rw [List.tail_cons, List.zip_cons_cons] at h
    rcases List.mem_cons.mp h with e | h
    · rw [e]; exact u1 k List.mem_cons_self
    · exact up_zip u2 q h
theorem v_states {k : Int} {ns : List Int} (w : Wish k ns) (h0 : 0 ≤ k) (hk : k ≤ 1000) (m : Mu) : f_are_states [.d (.int k), .d (.tuple (dI ns))] m = .ok (.d (.bool true)) m := by
  have hl := w.len h0
  have h1 := v_has_items (dI ns) 1 k m
  rw [show ((dI ns).length : Int) = ns.length by simp] at h1
  rw [decide_eq_true (show (1 : Int) ≤ ns.length by omega), decide_eq_true hl.2] at h1
  have h2 : fComp (fSeq (fVar 1)) (.nm 2) [2] fYes (fCall 3 f_is_within (fCons (fVar 2) (fCons (fC (.int 0)) (fCons (fBin gSub (fVar 0) (fC (.int 1))) fNil)))) [some (.d (.int k)), some (.d (.tuple (dI ns))), none, none] m = .ok (.d (.list (ns.map fun _ => .bool true))) m := by
    refine e_compA (fun i : Int => W.d (.int i)) (fun _ => .bool true) ns ?_ (fun x hx => ⟨[some (.d (.int k)), some (.d (.tuple (dI ns))), some (.d (.int x)), none], rfl, ?_⟩) (by omega)
    · rw [e_seqT (ds := dI ns) (m' := m) rfl, List.map_map]
      rfl
    · have := w.bd x hx
      simp [fVar, fC, fNil, fCons, fTup, fLst, fLstN, fBin, fChain_eq, fTb_eq, fAndT, fOrT, fNotT, fAndV_eq, fOrV_eq, fNotV_eq, fIf, fIsN, fNotN, fIsi, fCall, fBi, fRet, fSet, fAsg, fPar, fPar3, fIfS_eq, fThen, fDrop, fNext, fSt, startR, subTy, kBl, mkT, v_is_within, this.1, show x ≤ k - 1 by omega]
  have h3 : fComp (fZip (fVar 1) (fSl (fVar 1) (fPart (fC (.int 1))) fNoP)) (.tp [(.nm 2), (.nm 3)]) [2, 3] fYes (fBin (gO cLt) (fVar 2) (fVar 3)) [some (.d (.int k)), some (.d (.tuple (dI ns))), none, none] m = .ok (.d (.list ((ns.zip ns.tail).map fun _ => .bool true))) m := by
    refine e_compA (fun q : Int × Int => W.d (.tuple [.int q.1, .int q.2])) (fun _ => .bool true) (ns.zip ns.tail) ?_ (fun x hx => ⟨[some (.d (.int k)), some (.d (.tuple (dI ns))), some (.d (.int x.1)), some (.d (.int x.2))], rfl, ?_⟩) (by simp; omega)
    · rw [e_zipT (ds := dI ns) (es := dI ns.tail) (m1 := m) (m2 := m) rfl]
      · unfold dI
        rw [List.zip_map, List.map_map]
        rfl
      · have : (dI ns).tail = dI ns.tail := by cases ns <;> rfl
        show gSl (.d (.tuple (dI ns))) (some 1) none m = _
        rw [e_tail, this]
    · have := up_zip w.up x hx
      simp [fVar, fC, fNil, fCons, fTup, fLst, fLstN, fBin, fChain_eq, fTb_eq, fAndT, fOrT, fNotT, fAndV_eq, fOrV_eq, fNotV_eq, fIf, fIsN, fNotN, fIsi, fCall, fBi, fRet, fSet, fAsg, fPar, fPar3, fIfS_eq, fThen, fDrop, fNext, fSt, startR, subTy, kBl, mkT, ]
      exact this
  refine fnF_ret ?_
  unfold b_are_states
  have a1 := e_allT ns m
  have a2 := e_allT (ns.zip ns.tail) m
  simp [fVar, fC, fNil, fCons, fTup, fLst, fLstN, fBin, fChain_eq, fTb_eq, fAndT, fOrT, fNotT, fAndV_eq, fOrV_eq, fNotV_eq, fIf, fIsN, fNotN, fIsi, fCall, fBi, fRet, fSet, fAsg, fPar, fPar3, fIfS_eq, fThen, fDrop, fNext, fSt, startR, subTy, kBl, mkT, h1, h2, h3, a1, a2]
end Wy

set_option Elab.async false
set_option linter.all false
set_option maxRecDepth 100000
set_option maxHeartbeats 4000000
/-! M6: options, lines, houses are recognized. -/
namespace Wy
open PySem PySem.Spec PyProof.Rows L2 PySem.W
theorem v_opt_ok {s many lines : Int} {o : Opt} (h : OptOk s many lines o) (hs : 0 ≤ s ∧ s ≤ 1000) (m : Mu) : f_is_option [.d (.int s), .d (.int many), .d (.int lines), .d (eO o)] m = .ok (.d (.bool true)) m := by
  have h1 : f_has_items [.d (eO o), .d (.int 4), .d (.int 4)] m = .ok (.d (.bool true)) m := v_has_items _ 4 4 m
  have h2 := v_states h.need hs.1 hs.2 m
  have i0 : gIx (.d (eO o)) (.d (.int 0)) m = .ok (.d (.tuple (dI o.need))) m := tup0
  have i1 : gIx (.d (eO o)) (.d (.int 1)) m = .ok (.d (.int o.side)) m := tup1
  have i2 : gIx (.d (eO o)) (.d (.int 2)) m = .ok (.d (.int o.st)) m := tup2
  have i3 : gIx (.d (eO o)) (.d (.int 3)) m = .ok (.d (.int o.go)) m := tup3
  refine fnF_ret ?_
  unfold b_is_option
  have g1 := h.side
  have g2 := h.st
  have g3 := h.go
  simp [fVar, fC, fNil, fCons, fTup, fLst, fLstN, fBin, fChain_eq, fTb_eq, fAndT, fOrT, fNotT, fAndV_eq, fOrV_eq, fNotV_eq, fIf, fIsN, fNotN, fIsi, fCall, fBi, fRet, fSet, fAsg, fPar, fPar3, fIfS_eq, fThen, fDrop, fNext, fSt, startR, subTy, kBl, mkT, h1, h2, i0, i1, i2, i3, v_is_within, g1.1, show o.side ≤ many - 1 by omega, g2.1, show o.st ≤ s - 1 by omega, g3.1, g3.2]
theorem ltOk_opt (a b : Opt) : okLt (eO a) (eO b) = true := by
  show ltOk (eO a) (eO b) = true
  unfold ltOk
  rw [alike_opt, lay_opt, lay_opt, depth_opt]
  rfl
theorem e_ltO {a b : Opt} (m : Mu) : gO cLt (.d (eO a)) (.d (eO b)) m = .ok (.d (.bool (dataLt (eO a) (eO b)))) m := by
  show (if okLt (eO a) (eO b) = true then kBl (pLt (eO a) (eO b)) m else .bad) = _
  rw [if_pos (ltOk_opt a b)]
  rfl
theorem strict_zip : ∀ {os : List Opt}, strictB (os.map eO) = true → ∀ q ∈ os.zip os.tail, dataLt (eO q.1) (eO q.2) = true
  | [], _, q, h => by simp at h
  | [o], _, q, h => by simp at h
  | o :: p :: os, st, q, h => by
    have st' : ((p :: os).map eO).all (fun x => dataLt (eO o) x) = true ∧ strictB ((p :: os).map eO) = true := by
      rw [List.map_cons, strictB, Bool.and_eq_true] at st
      exact st
    rw [List.tail_cons, List.zip_cons_cons] at h
    rcases List.mem_cons.mp h with e | h
    · rw [e]
      exact List.all_eq_true.mp st'.1 _ List.mem_cons_self
    · exact strict_zip st'.2 q h
theorem who_in (b : Bool) (m : Mu) : gNotIn (.d (whoD b)) (.d g_WHO) m = .ok (.d (.bool false)) m := by
  cases b <;> kernel_rfl
theorem v_line_ok {s many lines : Int} {l : Ln} (h : LnOk s many lines l) (hs : 0 ≤ s ∧ s ≤ 1000) (m : Mu) : f_is_line [.d (.int s), .d (.int many), .d (.int lines), .d (eL l)] m = .ok (.d (.bool true)) m := by
  have hl : 1 ≤ l.opts.length := List.length_pos_iff.mpr h.ne
  have hf := h.few
  have h1 : f_has_items [.d (eL l), .d (.int 2), .d (.int 2)] m = .ok (.d (.bool true)) m := v_has_items _ 2 2 m
  have h2 : f_has_items [.d (.tuple (l.opts.map eO)), .d (.int 1), .d (.int 3)] m = .ok (.d (.bool true)) m := by
    rw [v_has_items, List.length_map, decide_eq_true (show (1 : Int) ≤ l.opts.length by omega), decide_eq_true (show (l.opts.length : Int) ≤ 3 by omega)]
    rfl
  have i0 : gIx (.d (eL l)) (.d (.int 0)) m = .ok (.d (whoD l.me)) m := tup0
  have i1 : gIx (.d (eL l)) (.d (.int 1)) m = .ok (.d (.tuple (l.opts.map eO))) m := tup1
  have iw : tyOf m (.d (whoD l.me)) = some "str" := by cases l.me <;> rfl
  have wi := who_in l.me m
  have h3 : fComp (fSeq (fBin gIx (fVar 3) (fC (.int 1)))) (.nm 4) [4] fYes (fCall 4 f_is_option (fCons (fVar 0) (fCons (fVar 1) (fCons (fVar 2) (fCons (fVar 4) fNil))))) [some (.d (.int s)), some (.d (.int many)), some (.d (.int lines)), some (.d (eL l)), none, none] m = .ok (.d (.list (l.opts.map fun _ => .bool true))) m := by
    refine e_compA (fun o : Opt => W.d (eO o)) (fun _ => .bool true) l.opts ?_ (fun x hx => ⟨[some (.d (.int s)), some (.d (.int many)), some (.d (.int lines)), some (.d (eL l)), some (.d (eO x)), none], rfl, ?_⟩) (by omega)
    · rw [e_seqT (ds := l.opts.map eO) (m' := m) (by simp [fVar, fC, fNil, fCons, fTup, fLst, fLstN, fBin, fChain_eq, fTb_eq, fAndT, fOrT, fNotT, fAndV_eq, fOrV_eq, fNotV_eq, fIf, fIsN, fNotN, fIsi, fCall, fBi, fRet, fSet, fAsg, fPar, fPar3, fIfS_eq, fThen, fDrop, fNext, fSt, startR, subTy, kBl, mkT, i1]), List.map_map]
      rfl
    · simp [fVar, fC, fNil, fCons, fTup, fLst, fLstN, fBin, fChain_eq, fTb_eq, fAndT, fOrT, fNotT, fAndV_eq, fOrV_eq, fNotV_eq, fIf, fIsN, fNotN, fIsi, fCall, fBi, fRet, fSet, fAsg, fPar, fPar3, fIfS_eq, fThen, fDrop, fNext, fSt, startR, subTy, kBl, mkT, v_opt_ok (h.ok x hx) hs]
  have h4 : fComp (fZip (fBin gIx (fVar 3) (fC (.int 1))) (fSl (fBin gIx (fVar 3) (fC (.int 1))) (fPart (fC (.int 1))) fNoP)) (.tp [(.nm 4), (.nm 5)]) [4, 5] fYes (fBin (gO cLt) (fVar 4) (fVar 5)) [some (.d (.int s)), some (.d (.int many)), some (.d (.int lines)), some (.d (eL l)), none, none] m = .ok (.d (.list ((l.opts.zip l.opts.tail).map fun _ => .bool true))) m := by
    refine e_compA (fun q : Opt × Opt => W.d (.tuple [eO q.1, eO q.2])) (fun _ => .bool true) (l.opts.zip l.opts.tail) ?_ (fun x hx => ⟨[some (.d (.int s)), some (.d (.int many)), some (.d (.int lines)), some (.d (eL l)), some (.d (eO x.1)), some (.d (eO x.2))], rfl, ?_⟩) (by simp; omega)
    · rw [e_zipT (ds := l.opts.map eO) (es := l.opts.tail.map eO) (m1 := m) (m2 := m) (by simp [fVar, fC, fNil, fCons, fTup, fLst, fLstN, fBin, fChain_eq, fTb_eq, fAndT, fOrT, fNotT, fAndV_eq, fOrV_eq, fNotV_eq, fIf, fIsN, fNotN, fIsi, fCall, fBi, fRet, fSet, fAsg, fPar, fPar3, fIfS_eq, fThen, fDrop, fNext, fSt, startR, subTy, kBl, mkT, i1])]
      · rw [List.zip_map, List.map_map]
        rfl
      · have : (l.opts.map eO).tail = l.opts.tail.map eO := by cases l.opts <;> rfl
        have e1 : fBin gIx (fVar 3) (fC (.int 1)) [some (.d (.int s)), some (.d (.int many)), some (.d (.int lines)), some (.d (eL l)), none, none] m = .ok (.d (.tuple (l.opts.map eO))) m := by simp [fVar, fC, fNil, fCons, fTup, fLst, fLstN, fBin, fChain_eq, fTb_eq, fAndT, fOrT, fNotT, fAndV_eq, fOrV_eq, fNotV_eq, fIf, fIsN, fNotN, fIsi, fCall, fBi, fRet, fSet, fAsg, fPar, fPar3, fIfS_eq, fThen, fDrop, fNext, fSt, startR, subTy, kBl, mkT, i1]
        unfold fSl
        rw [e1, bind_ok]
        show gSl (.d (.tuple (l.opts.map eO))) (some 1) none m = _
        rw [e_tail, this]
    · have := strict_zip h.up x hx
      simp [fVar, fC, fNil, fCons, fTup, fLst, fLstN, fBin, fChain_eq, fTb_eq, fAndT, fOrT, fNotT, fAndV_eq, fOrV_eq, fNotV_eq, fIf, fIsN, fNotN, fIsi, fCall, fBi, fRet, fSet, fAsg, fPar, fPar3, fIfS_eq, fThen, fDrop, fNext, fSt, startR, subTy, kBl, mkT, e_ltO]
      exact this
  have a1 := e_allT l.opts m
  have a2 := e_allT (l.opts.zip l.opts.tail) m
  refine fnF_ret ?_
  unfold b_is_line
  simp [fVar, fC, fNil, fCons, fTup, fLst, fLstN, fBin, fChain_eq, fTb_eq, fAndT, fOrT, fNotT, fAndV_eq, fOrV_eq, fNotV_eq, fIf, fIsN, fNotN, fIsi, fCall, fBi, fRet, fSet, fAsg, fPar, fPar3, fIfS_eq, fThen, fDrop, fNext, fSt, startR, subTy, kBl, mkT, h1, h2, h3, h4, a1, a2, i0, i1, iw, wi]
end Wy

set_option Elab.async false
set_option linter.all false
set_option maxRecDepth 100000
set_option maxHeartbeats 4000000
/-! M7: houses are recognized; what is needed is there. -/
namespace Wy
open PySem PySem.Spec PyProof.Rows L2 PySem.W
section
variable {β γ : Type} {pt pt1 : Pat} {vs vs1 : List Nat} {fi fi1 : FI} {fe : FE} {r : Rh} {m : Mu} {asg : W → Option Rh}
theorem comp2_of (e : β → W) (e1 : γ → W) (ys : β → List γ) (g : β → γ → PyData) : ∀ (xs : List β) (acc : List PyData), (∀ x ∈ xs, ∃ r2, asg (e x) = some r2 ∧ fi1 r2 m = .ok ⟨(ys x).map e1, none⟩ m ∧ ∀ y ∈ ys x, ∃ r3, patF pt1 (e1 y) (wipeR r2 vs1) = some r3 ∧ fe r3 m = .ok (.d (g x y)) m) →
    acc.length + (xs.flatMap fun x => (ys x).map (g x)).length ≤ 1000000 → compF none asg (bodyF2 fYes fi1 pt1 vs1 fYes fe) (xs.map e) acc m = .ok (acc ++ xs.flatMap fun x => (ys x).map (g x)) m
  | [], acc, _, _ => by simp [compF, stands]
  | x :: xs, acc, h, hl => by
    obtain ⟨r2, h1, h2, h3⟩ := h x List.mem_cons_self
    rw [List.flatMap_cons, List.length_append, List.length_map] at hl
    rw [List.map_cons, compF]
    simp only [stands, if_true, h1]
    have e1' : bodyF2 fYes fi1 pt1 vs1 fYes fe r2 acc m = .ok (acc ++ (ys x).map (g x)) m := by
      unfold bodyF2
      simp only [fYes, nx_ok, bind_ok, if_true, h2]
      have := comp_of (asg := fun w => patF pt1 w (wipeR r2 vs1)) (ft := fYes) (fe := fe) (m := m) e1 (fun _ => true) (g x) (ys x) acc (fun y hy => let ⟨r3, a, b⟩ := h3 y hy; ⟨r3, a, rfl, fun _ => b⟩) (by omega)
      rw [List.filter_eq_self.mpr (fun _ _ => rfl)] at this
      exact this
    rw [e1', bind_ok, comp2_of e e1 ys g xs (acc ++ (ys x).map (g x)) (fun y hy => h y (List.mem_cons_of_mem _ hy)) (by rw [List.length_append, List.length_map]; omega)]
    simp
theorem e_comp2A (e : β → W) (e1 : γ → W) (xs : List β) (ys : β → List γ) (g : β → γ → PyData) (hi : fi r m = .ok ⟨xs.map e, none⟩ m)
    (h : ∀ x ∈ xs, ∃ r2, patF pt (e x) (wipeR r vs) = some r2 ∧ fi1 r2 m = .ok ⟨(ys x).map e1, none⟩ m ∧ ∀ y ∈ ys x, ∃ r3, patF pt1 (e1 y) (wipeR r2 vs1) = some r3 ∧ fe r3 m = .ok (.d (g x y)) m) (hl : (xs.flatMap fun x => (ys x).map (g x)).length ≤ 1000000) :
    fComp2 fi pt vs fYes fi1 pt1 vs1 fYes fe r m = .ok (.d (.list (xs.flatMap fun x => (ys x).map (g x)))) m := by
  unfold fComp2
  rw [hi, bind_ok, comp2_of e e1 ys g xs [] h (by simpa using hl)]
  rfl
theorem e_comp2N (e : β → W) (e1 : γ → W) (xs : List β) (ys : β → List γ) (g : β → γ → PyData) (hi : fi r m = .ok ⟨xs.map e, none⟩ m)
    (h : ∀ x ∈ xs, ∃ r2, patF pt (e x) (wipeR r vs) = some r2 ∧ fi1 r2 m = .ok ⟨(ys x).map e1, none⟩ m ∧ ∀ y ∈ ys x, ∃ r3, patF pt1 (e1 y) (wipeR r2 vs1) = some r3 ∧ fe r3 m = .ok (.d (g x y)) m) (hl : (xs.flatMap fun x => (ys x).map (g x)).length ≤ 1000000) :
    fComp2N fi pt vs fYes fi1 pt1 vs1 fYes fe r m = .ok (.loc m.length) (m ++ [.lst (xs.flatMap fun x => (ys x).map (g x))]) := by
  unfold fComp2N
  rw [hi, bind_ok, comp2_of e e1 ys g xs [] h (by simpa using hl)]
  rfl
end
theorem e_allF {l : List PyData} (h : ∀ x ∈ l, x = .bool true) (m : Mu) : gAll [.d (.list l)] m = .ok (.d (.bool true)) m := by
  have : l = l.map fun _ => .bool true := by
    refine (List.map_id l).symm.trans (List.map_congr_left fun x hx => h x hx)
  rw [this]
  exact e_allT l m
theorem flat_len {α β : Type} (f : α → List β) (k : Nat) : ∀ xs : List α, (∀ x ∈ xs, (f x).length ≤ k) → (xs.flatMap f).length ≤ xs.length * k
  | [], _ => by simp
  | x :: xs, h => by
    rw [List.flatMap_cons, List.length_append, List.length_cons, Nat.succ_mul]
    have := flat_len f k xs fun y hy => h y (List.mem_cons_of_mem _ hy)
    have := h x List.mem_cons_self
    omega
theorem v_house_ok {h : Hs} (ok : HsOk 3 3 h) (m : Mu) : f_is_house_value [.d (eH h)] m = .ok (.d (.bool true)) m := by
  have hs := ok.s
  have hn : 1 ≤ h.es.length := List.length_pos_iff.mpr ok.ne
  have hf := ok.few
  have h1 : f_has_items [.d (eH h), .d (.int 2), .d (.int 2)] m = .ok (.d (.bool true)) m := v_has_items _ 2 2 m
  have h2 : f_is_within [.d (.int h.s), .d (.int 2), .d (.int 3)] m = .ok (.d (.bool true)) m := by
    rw [v_is_within, decide_eq_true hs.1, decide_eq_true hs.2]
    rfl
  have h3 : f_has_items [.d (.tuple (h.es.map eE)), .d (.int 1), .d (.int 3)] m = .ok (.d (.bool true)) m := by
    rw [v_has_items, List.length_map, decide_eq_true (show (1 : Int) ≤ h.es.length by omega), decide_eq_true hf]
    rfl
  have i0 : gIx (.d (eH h)) (.d (.int 0)) m = .ok (.d (.int h.s)) m := tup0
  have i1 : gIx (.d (eH h)) (.d (.int 1)) m = .ok (.d (.tuple (h.es.map eE))) m := tup1
  have hp : patF (.tp [.nm 1, .nm 2]) (.d (eH h)) [some (.d (eH h)), none, none, none, none] = some [some (.d (eH h)), some (.d (.int h.s)), some (.d (.tuple (h.es.map eE))), none, none] := rfl
  have h4 : fComp (fSeq (fVar 2)) (.nm 3) [3] fYes (fCall 3 f_has_items (fCons (fVar 3) (fCons (fC (.int 1)) (fCons (fC (.int 3)) fNil)))) [some (.d (eH h)), some (.d (.int h.s)), some (.d (.tuple (h.es.map eE))), none, none] m = .ok (.d (.list (h.es.map fun _ => .bool true))) m := by
    refine e_compA (fun ls : List Ln => W.d (eE ls)) (fun _ => .bool true) h.es ?_ (fun x hx => ⟨[some (.d (eH h)), some (.d (.int h.s)), some (.d (.tuple (h.es.map eE))), some (.d (eE x)), none], rfl, ?_⟩) (by omega)
    · rw [e_seqT (ds := h.es.map eE) (m' := m) rfl, List.map_map]
      rfl
    · obtain ⟨b1, b2, _⟩ := ok.errand x hx
      have b3 : 1 ≤ x.length := List.length_pos_iff.mpr b1
      have : f_has_items [.d (eE x), .d (.int 1), .d (.int 3)] m = .ok (.d (.bool true)) m := by
        unfold eE
        rw [v_has_items, List.length_map, decide_eq_true (show (1 : Int) ≤ x.length by omega), decide_eq_true b2]
        rfl
      simp [fVar, fC, fNil, fCons, fTup, fLst, fLstN, fBin, fChain_eq, fTb_eq, fAndT, fOrT, fNotT, fAndV_eq, fOrV_eq, fNotV_eq, fIf, fIsN, fNotN, fIsi, fCall, fBi, fRet, fSet, fAsg, fPar, fPar3, fIfS_eq, fThen, fDrop, fNext, fSt, startR, subTy, kBl, mkT, this]
  have h5 : fComp2 (fSeq (fVar 2)) (.nm 3) [3, 4] fYes (fSeq (fVar 3)) (.nm 4) [4] fYes (fCall 4 f_is_line (fCons (fVar 1) (fCons (fBi gLen (fCons (fVar 2) fNil)) (fCons (fBi gLen (fCons (fVar 3) fNil)) (fCons (fVar 4) fNil))))) [some (.d (eH h)), some (.d (.int h.s)), some (.d (.tuple (h.es.map eE))), none, none] m = .ok (.d (.list (h.es.flatMap fun x => x.map fun _ => .bool true))) m := by
    refine e_comp2A (fun ls : List Ln => W.d (eE ls)) (fun l : Ln => W.d (eL l)) h.es (fun ls => ls) (fun _ _ => .bool true) ?_ (fun x hx => ⟨[some (.d (eH h)), some (.d (.int h.s)), some (.d (.tuple (h.es.map eE))), some (.d (eE x)), none], rfl, ?_, fun y hy => ⟨[some (.d (eH h)), some (.d (.int h.s)), some (.d (.tuple (h.es.map eE))), some (.d (eE x)), some (.d (eL y))], rfl, ?_⟩⟩) ?_
    · rw [e_seqT (ds := h.es.map eE) (m' := m) rfl, List.map_map]
      rfl
    · rw [e_seqT (ds := x.map eL) (m' := m) rfl, List.map_map]
      rfl
    · obtain ⟨b1, b2, b3⟩ := ok.errand x hx
      have b4 := v_line_ok (b3 y hy) ⟨by omega, by omega⟩ m
      have l1 : gLen [.d (eE x)] m = .ok (.d (.int x.length)) m := by
        unfold eE
        rw [len_tup, List.length_map]
      simp [fVar, fC, fNil, fCons, fTup, fLst, fLstN, fBin, fChain_eq, fTb_eq, fAndT, fOrT, fNotT, fAndV_eq, fOrV_eq, fNotV_eq, fIf, fIsN, fNotN, fIsi, fCall, fBi, fRet, fSet, fAsg, fPar, fPar3, fIfS_eq, fThen, fDrop, fNext, fSt, startR, subTy, kBl, mkT, b4, l1]
    · have := flat_len (fun x : List Ln => x.map fun _ => PyData.bool true) 3 h.es fun x hx => by
        have := (ok.errand x hx).2.1
        simp
        omega
      omega
  have a1 := e_allT h.es m
  have a2 : gAll [.d (.list (h.es.flatMap fun x => x.map fun _ => .bool true))] m = .ok (.d (.bool true)) m := e_allF (fun x hx => by
    obtain ⟨y, _, hy⟩ := List.mem_flatMap.mp hx
    obtain ⟨_, _, e⟩ := List.mem_map.mp hy
    exact e.symm) m
  refine fnF_ret ?_
  unfold b_is_house_value
  simp [fVar, fC, fNil, fCons, fTup, fLst, fLstN, fBin, fChain_eq, fTb_eq, fAndT, fOrT, fNotT, fAndV_eq, fOrV_eq, fNotV_eq, fIf, fIsN, fNotN, fIsi, fCall, fBi, fRet, fSet, fAsg, fPar, fPar3, fIfS_eq, fThen, fDrop, fNext, fSt, startR, subTy, kBl, mkT, h1, h2, h3, h4, h5, a1, a2, i0, i1, hp]
theorem v_need_house {h : Hs} (ok : HsOk 3 3 h) (m : Mu) : f_need_house [.d (eH h)] m = .ok (.d .none) m := by
  refine fnF_next (r := [some (.d (eH h))]) ?_
  unfold b_need_house
  simp [fVar, fC, fNil, fCons, fTup, fLst, fLstN, fBin, fChain_eq, fTb_eq, fAndT, fOrT, fNotT, fAndV_eq, fOrV_eq, fNotV_eq, fIf, fIsN, fNotN, fIsi, fCall, fBi, fRet, fSet, fAsg, fPar, fPar3, fIfS_eq, fThen, fDrop, fNext, fSt, startR, subTy, kBl, mkT, v_house_ok ok]
theorem v_need_errand {h : Hs} (ok : HsOk 3 3 h) {e : Int} (he : 0 ≤ e ∧ e < h.es.length) (m : Mu) : f_need_errand [.d (eH h), .d (.int e)] m = .ok (.d .none) m := by
  have i1 : gIx (.d (eH h)) (.d (.int 1)) m = .ok (.d (.tuple (h.es.map eE))) m := tup1
  refine fnF_next (r := [some (.d (eH h)), some (.d (.int e))]) ?_
  unfold b_need_errand
  simp [fVar, fC, fNil, fCons, fTup, fLst, fLstN, fBin, fChain_eq, fTb_eq, fAndT, fOrT, fNotT, fAndV_eq, fOrV_eq, fNotV_eq, fIf, fIsN, fNotN, fIsi, fCall, fBi, fRet, fSet, fAsg, fPar, fPar3, fIfS_eq, fThen, fDrop, fNext, fSt, startR, subTy, kBl, mkT, v_is_within, i1, he.1, show e ≤ (h.es.length : Int) - 1 by omega]
theorem v_need_begin {h : Hs} (ok : HsOk 3 3 h) {e s : Int} (he : 0 ≤ e ∧ e < h.es.length) (hs : 0 ≤ s ∧ s < h.s) (m : Mu) : f_need_begin [.d (eH h), .d (.int e), .d (.int s)] m = .ok (.d .none) m := by
  have i0 : gIx (.d (eH h)) (.d (.int 0)) m = .ok (.d (.int h.s)) m := tup0
  refine fnF_next (r := [some (.d (eH h)), some (.d (.int e)), some (.d (.int s))]) ?_
  unfold b_need_begin
  simp [fVar, fC, fNil, fCons, fTup, fLst, fLstN, fBin, fChain_eq, fTb_eq, fAndT, fOrT, fNotT, fAndV_eq, fOrV_eq, fNotV_eq, fIf, fIsN, fNotN, fIsi, fCall, fBi, fRet, fSet, fAsg, fPar, fPar3, fIfS_eq, fThen, fDrop, fNext, fSt, startR, subTy, kBl, mkT, v_is_within, i0, v_need_house ok, v_need_errand ok he, hs.1, show s ≤ h.s - 1 by omega]
theorem v_need_wish {h : Hs} (ok : HsOk 3 3 h) {ns : List Int} (w : Wish h.s ns) (m : Mu) : f_need_wish [.d (eH h), .d (.tuple (dI ns))] m = .ok (.d .none) m := by
  have i0 : gIx (.d (eH h)) (.d (.int 0)) m = .ok (.d (.int h.s)) m := tup0
  have := ok.s
  refine fnF_next (r := [some (.d (eH h)), some (.d (.tuple (dI ns)))]) ?_
  unfold b_need_wish
  simp [fVar, fC, fNil, fCons, fTup, fLst, fLstN, fBin, fChain_eq, fTb_eq, fAndT, fOrT, fNotT, fAndV_eq, fOrV_eq, fNotV_eq, fIf, fIsN, fNotN, fIsi, fCall, fBi, fRet, fSet, fAsg, fPar, fPar3, fIfS_eq, fThen, fDrop, fNext, fSt, startR, subTy, kBl, mkT, i0, v_states w (by omega) (by omega)]
end Wy

set_option Elab.async false
set_option linter.all false
set_option maxRecDepth 100000
set_option maxHeartbeats 4000000
/-! M8: nodes, wishes. -/
namespace Wy
open PySem PySem.Spec PyProof.Rows L2 PySem.W
theorem fnF_retL {n : Nat} {fs : FS} {ws : List W} {m m' : Mu} {k : Nat} {ds : List PyData} (h : fs (startR n ws) m = .ret false (.loc k) m') (hk : m.length ≤ k) (ho : m'[k]? = some (.lst ds)) (ht : m'.take m.length = m) : fnF n fs ws m = .ok (.d (.list ds)) m := by
  unfold fnF
  rw [h]
  simp [finW, frzW, show ¬ k < m.length by omega, dr, ho, ht]
theorem fnF_retD {n : Nat} {fs : FS} {ws : List W} {m m' : Mu} {k : Nat} {ds : List (PyData × PyData)} (h : fs (startR n ws) m = .ret false (.loc k) m') (hk : m.length ≤ k) (ho : m'[k]? = some (.dct ds)) (ht : m'.take m.length = m) : fnF n fs ws m = .ok (.d (.dict ds)) m := by
  unfold fnF
  rw [h]
  simp [finW, frzW, show ¬ k < m.length by omega, dr, ho, ht]
theorem enum_items (ds : List PyData) : enumW (ds.map W.d) = ds.zipIdx.map fun q => W.d (.tuple [.int (q.2 : Int), q.1]) := by
  refine List.ext_getElem? fun i => ?_
  by_cases hi : i < ds.length
  · have h1 : (ds.map W.d)[i]? = some (W.d ds[i]) := by simp [hi]
    rw [enumW_at h1]
    simp [hi, mkT]
  · rw [List.getElem?_eq_none (by rw [enumW_len]; simp; omega), List.getElem?_eq_none (by simp; omega)]
theorem e_enumT {f : FE} {r : Rh} {m m' : Mu} {ds : List PyData} (h : f r m = .ok (.d (.tuple ds)) m') : fEnum f r m = .ok ⟨ds.zipIdx.map fun q => W.d (.tuple [.int (q.2 : Int), q.1]), none⟩ m' := by
  unfold fEnum
  rw [h, bind_ok, ← enum_items]
  rfl
theorem e_enumL {f : FE} {r : Rh} {m m' : Mu} {ds : List PyData} (h : f r m = .ok (.d (.list ds)) m') : fEnum f r m = .ok ⟨ds.zipIdx.map fun q => W.d (.tuple [.int (q.2 : Int), q.1]), none⟩ m' := by
  unfold fEnum
  rw [h, bind_ok, ← enum_items]
  rfl
theorem zipIdx_map {α β : Type} (f : α → β) : ∀ (xs : List α) (k : Nat), (xs.map f).zipIdx k = (xs.zipIdx k).map fun q => (f q.1, q.2)
  | [], k => rfl
  | x :: xs, k => by
    rw [List.map_cons, List.zipIdx_cons, List.zipIdx_cons, List.map_cons, zipIdx_map f xs (k + 1)]
theorem mem_zipIdx1 {α : Type} {q : α × Nat} {xs : List α} (h : q ∈ xs.zipIdx) : q.1 ∈ xs := by
  have : q.1 ∈ xs.zipIdx.map Prod.fst := List.mem_map.mpr ⟨q, h, rfl⟩
  rwa [List.zipIdx_map_fst] at this
/-- a place: errand, line, state -/
structure Nd where
  e : Nat
  a : Nat
  s : Nat
def eN (n : Nd) : PyData := .tuple [.int (n.e : Int), .int (n.a : Int), .int (n.s : Int)]
def ndsOf (s : Nat) (q : List Ln × Nat) : List Nd := (List.range (q.1.length + 1)).flatMap fun a => (List.range s).map fun st => ⟨q.2, a, st⟩
theorem nds_enc (s : Nat) (q : List Ln × Nat) : ((List.range (q.1.length + 1)).flatMap fun a => (List.range s).map fun st => eN ⟨q.2, a, st⟩) = (ndsOf s q).map eN := by
  unfold ndsOf
  generalize List.range (q.1.length + 1) = l
  induction l with
  | nil => rfl
  | cons a l ih => rw [List.flatMap_cons, List.flatMap_cons, List.map_append, List.map_map, ih]; rfl
def nds (h : Hs) : List Nd := h.es.zipIdx.flatMap (ndsOf h.s.toNat)
/-- the store of a def: what was there, a list, more -/
def St1 (m0 : Mu) (ob : Ob) (m : Mu) : Prop := ∃ g, m = m0 ++ ob :: g
theorem St1.at_ {m0 m : Mu} {ob : Ob} (h : St1 m0 ob m) : m[m0.length]? = some ob := by
  obtain ⟨g, rfl⟩ := h
  simp
theorem St1.take {m0 m : Mu} {ob : Ob} (h : St1 m0 ob m) : m.take m0.length = m0 := by
  obtain ⟨g, rfl⟩ := h
  simp
theorem St1.lt {m0 m : Mu} {ob : Ob} (h : St1 m0 ob m) : m0.length < m.length := by
  obtain ⟨g, rfl⟩ := h
  simp
theorem St1.app {m0 m : Mu} {ob x : Ob} (h : St1 m0 ob m) : St1 m0 ob (m ++ [x]) := by
  obtain ⟨g, rfl⟩ := h
  exact ⟨g ++ [x], by simp⟩
theorem St1.set {m0 m : Mu} {ob ob' : Ob} (h : St1 m0 ob m) : St1 m0 ob' (m.set m0.length ob') := by
  obtain ⟨g, rfl⟩ := h
  exact ⟨g, by simp⟩
/-- x += a new list -/
theorem e_aug {i : Nat} {fe : FE} {r : Rh} {m0 m : Mu} {xs ys : List PyData} (h : St1 m0 (.lst xs) m) (hr : r[i]? = some (some (.loc m0.length))) (he : fe r m = .ok (.loc m.length) (m ++ [.lst ys])) (hl : xs.length + ys.length ≤ 1000000) :
    ∃ m', fAugL i fe r m = .next (r.set i (some (.loc m0.length))) m' ∧ St1 m0 (.lst (xs ++ ys)) m' := by
  refine ⟨_, ?_, (h.app (x := .lst ys)).set⟩
  unfold fAugL
  rw [hr]
  dsimp only
  rw [he, toS_ok]
  have h1 := (h.app (x := .lst ys)).at_
  have h2 : (m ++ [Ob.lst ys])[m.length]? = some (.lst ys) := by simp
  simp [extW, h1, h2, hl]
theorem v_nodes {h : Hs} (ok : HsOk 3 3 h) (m0 : Mu) : f_nodes_of [.d (eH h)] m0 = .ok (.d (.list ((nds h).map eN))) m0 := by
  have hs := ok.s
  have hf := ok.few
  have i0 : ∀ m, gIx (.d (eH h)) (.d (.int 0)) m = .ok (.d (.int h.s)) m := fun m => tup0
  have i1 : ∀ m, gIx (.d (eH h)) (.d (.int 1)) m = .ok (.d (.tuple (h.es.map eE))) m := fun m => tup1
  have bound : ∀ q ∈ h.es.zipIdx, (ndsOf h.s.toNat q).length ≤ 12 := fun q hq => by
    have hm : q.1 ∈ h.es := by
      exact mem_zipIdx1 hq
    have h1 := (ok.errand q.1 hm).2.1
    have h2 := flat_len (fun a => (List.range h.s.toNat).map fun st => (⟨q.2, a, st⟩ : Nd)) 3 (List.range (q.1.length + 1)) fun x _ => by simp; omega
    rw [List.length_range] at h2
    unfold ndsOf
    omega
  obtain ⟨r', m1, hc, acc, x2, x3, x4, x5, rfl, hb, S⟩ := for_inv (pt := .tp [.nm 2, .nm 3]) (fb := fAugL 1 (fComp2N (fRng1 (fBin gAdd (fBi gLen (fCons (fVar 3) fNil)) (fC (.int 1)))) (.nm 4) [4, 5] fYes (fRng1 (fBin gIx (fVar 0) (fC (.int 0)))) (.nm 5) [5] fYes (fTup (fCons (fVar 2) (fCons (fVar 4) (fCons (fVar 5) fNil))))))
    (fun q : List Ln × Nat => W.d (.tuple [.int (q.2 : Int), eE q.1]))
    (fun rest r m => ∃ (acc : List Nd) (x2 x3 x4 x5 : Option W), r = [some (.d (eH h)), some (.loc m0.length), x2, x3, x4, x5] ∧ (acc ++ rest.flatMap (ndsOf h.s.toNat) = nds h ∧ acc.length + rest.length * 12 ≤ 1000 ∧ ∀ q ∈ rest, q ∈ h.es.zipIdx) ∧ St1 m0 (.lst (acc.map eN)) m)
    h.es.zipIdx [some (.d (eH h)), some (.loc m0.length), none, none, none, none] (m0 ++ [.lst []]) ⟨[], none, none, none, none, rfl, ⟨rfl, by simp; omega, fun q h => h⟩, [], rfl⟩
    (fun q rest r m ⟨acc, x2, x3, x4, x5, er, ⟨e1, e2, e3⟩, S⟩ => by
      subst er
      refine ⟨[some (.d (eH h)), some (.loc m0.length), some (.d (.int (q.2 : Int))), some (.d (eE q.1)), x4, x5], rfl, ?_⟩
      have hq := e3 q List.mem_cons_self
      have hb := bound q hq
      have hm : q.1 ∈ h.es := by
        exact mem_zipIdx1 hq
      have hw := (ok.errand q.1 hm).2.1
      have l1 : gLen [.d (eE q.1)] m = .ok (.d (.int q.1.length)) m := by
        unfold eE
        rw [len_tup, List.length_map]
      have hc := e_comp2N (fi := fRng1 (fBin gAdd (fBi gLen (fCons (fVar 3) fNil)) (fC (.int 1)))) (pt := .nm 4) (vs := [4, 5]) (fi1 := fRng1 (fBin gIx (fVar 0) (fC (.int 0)))) (pt1 := .nm 5) (vs1 := [5]) (fe := fTup (fCons (fVar 2) (fCons (fVar 4) (fCons (fVar 5) fNil)))) (m := m)
        (r := [some (.d (eH h)), some (.loc m0.length), some (.d (.int (q.2 : Int))), some (.d (eE q.1)), x4, x5]) (fun i : Nat => W.d (.int (i : Int))) (fun i : Nat => W.d (.int (i : Int))) (List.range (q.1.length + 1)) (fun _ => List.range h.s.toNat) (fun a st => eN ⟨q.2, a, st⟩) ?_ (fun a ha => ⟨[some (.d (eH h)), some (.loc m0.length), some (.d (.int (q.2 : Int))), some (.d (eE q.1)), some (.d (.int (a : Int))), none], rfl, ?_, fun st hst => ⟨[some (.d (eH h)), some (.loc m0.length), some (.d (.int (q.2 : Int))), some (.d (eE q.1)), some (.d (.int (a : Int))), some (.d (.int (st : Int)))], rfl, ?_⟩⟩) ?_
      · have hl : ((List.range (q.1.length + 1)).flatMap fun a => (List.range h.s.toNat).map fun st => eN ⟨q.2, a, st⟩) = (ndsOf h.s.toNat q).map eN := by
          exact nds_enc h.s.toNat q
        rw [hl] at hc
        obtain ⟨m', e4, S'⟩ := e_aug (i := 1) S rfl hc (by simp only [List.length_map, List.length_cons] at *; omega)
        refine ⟨_, m', .inl e4, acc ++ ndsOf h.s.toNat q, some (.d (.int (q.2 : Int))), some (.d (eE q.1)), x4, x5, rfl, ⟨?_, ?_, fun z hz => e3 z (List.mem_cons_of_mem _ hz)⟩, ?_⟩
        · rw [← e1, List.flatMap_cons, List.append_assoc]
        · simp only [List.length_append, List.length_cons] at *
          omega
        · rw [List.map_append]
          exact S'
      · have := rng1 (f := fBin gAdd (fBi gLen (fCons (fVar 3) fNil)) (fC (.int 1))) (r := [some (.d (eH h)), some (.loc m0.length), some (.d (.int (q.2 : Int))), some (.d (eE q.1)), x4, x5]) (m := m) (m' := m) (k := (q.1.length : Int) + 1) (by simp [fVar, fC, fNil, fCons, fTup, fLst, fLstN, fBin, fChain_eq, fTb_eq, fAndT, fOrT, fNotT, fAndV_eq, fOrV_eq, fNotV_eq, fIf, fIsN, fNotN, fIsi, fCall, fBi, fRet, fSet, fAsg, fPar, fPar3, fIfS_eq, fThen, fDrop, fNext, fSt, startR, subTy, kBl, mkT, l1]) (by omega) (by omega)
        rw [this, show ((q.1.length : Int) + 1).toNat = q.1.length + 1 by omega]
      · exact rng1 (k := h.s) (by simp [fVar, fC, fNil, fCons, fTup, fLst, fLstN, fBin, fChain_eq, fTb_eq, fAndT, fOrT, fNotT, fAndV_eq, fOrV_eq, fNotV_eq, fIf, fIsN, fNotN, fIsi, fCall, fBi, fRet, fSet, fAsg, fPar, fPar3, fIfS_eq, fThen, fDrop, fNext, fSt, startR, subTy, kBl, mkT, i0]) (by omega) (by omega)
      · simp [fVar, fC, fNil, fCons, fTup, fLst, fLstN, fBin, fChain_eq, fTb_eq, fAndT, fOrT, fNotT, fAndV_eq, fOrV_eq, fNotV_eq, fIf, fIsN, fNotN, fIsi, fCall, fBi, fRet, fSet, fAsg, fPar, fPar3, fIfS_eq, fThen, fDrop, fNext, fSt, startR, subTy, kBl, mkT, eN]
      · have : ((List.range (q.1.length + 1)).flatMap fun a => (List.range h.s.toNat).map fun st => eN ⟨q.2, a, st⟩).length ≤ (List.range (q.1.length + 1)).length * 3 := flat_len _ 3 _ fun x _ => by simp; omega
        rw [List.length_range] at this
        omega)
  have hb1 := hb.1
  rw [List.flatMap_nil, List.append_nil] at hb1
  refine fnF_retL (k := m0.length) (m' := m1) ?_ (Nat.le_refl _) (by rw [S.at_, hb1]) S.take
  have he := e_enumT (f := fBin gIx (fVar 0) (fC (.int 1))) (r := [some (.d (eH h)), some (.loc m0.length), none, none, none, none]) (m := m0 ++ [.lst []]) (m' := m0 ++ [.lst []]) (ds := h.es.map eE) (by simp [fVar, fC, fNil, fCons, fTup, fLst, fLstN, fBin, fChain_eq, fTb_eq, fAndT, fOrT, fNotT, fAndV_eq, fOrV_eq, fNotV_eq, fIf, fIsN, fNotN, fIsi, fCall, fBi, fRet, fSet, fAsg, fPar, fPar3, fIfS_eq, fThen, fDrop, fNext, fSt, startR, subTy, kBl, mkT, i1])
  rw [zipIdx_map, List.map_map] at he
  unfold b_nodes_of
  simp [fVar, fC, fNil, fCons, fTup, fLst, fLstN, fBin, fChain_eq, fTb_eq, fAndT, fOrT, fNotT, fAndV_eq, fOrV_eq, fNotV_eq, fIf, fIsN, fNotN, fIsi, fCall, fBi, fRet, fSet, fAsg, fPar, fPar3, fIfS_eq, fThen, fDrop, fNext, fSt, startR, subTy, kBl, mkT, fFor, he]
  rw [show ((fun q : PyData × Nat => W.d (.tuple [.int (q.2 : Int), q.1])) ∘ fun q : List Ln × Nat => (eE q.1, q.2)) = fun q : List Ln × Nat => W.d (.tuple [.int (q.2 : Int), eE q.1]) from rfl, hc]
  rfl
end Wy

set_option Elab.async false
set_option linter.all false
set_option maxRecDepth 100000
set_option maxHeartbeats 4000000
/-! M9: the law's nodes; wishes. -/
namespace Wy
open PySem PySem.Spec PyProof.Rows L2 PySem.W
theorem range_zipIdx {α : Type} (xs : List α) (f : Nat → W) : (List.range xs.length).map f = xs.zipIdx.map fun q => f q.2 := by
  have h : xs.zipIdx.map Prod.snd = List.range xs.length := by rw [List.zipIdx_map_snd, List.range_eq_range']
  rw [← h, List.map_map]
  rfl
theorem at_zipIdx {α : Type} {q : α × Nat} {xs : List α} (h : q ∈ xs.zipIdx) : xs[q.2]? = some q.1 := by
  have := List.mem_zipIdx_iff_getElem?.mp h
  simpa using this
theorem k_set {i : Nat} {fe : FE} {r : Rh} {m m1 : Mu} {w : W} (h : fe r m = .ok w m1) : fSet i fe r m = .next (r.set i (some w)) m1 := by
  unfold fSet
  rw [h]
  rfl
theorem k_bin {g : W → W → Mu → R W} {fa fb : FE} {r : Rh} {m m1 m2 : Mu} {a b : W} {x : R W} (h1 : fa r m = .ok a m1) (h2 : fb r m1 = .ok b m2) (h3 : g a b m2 = x) : fBin g fa fb r m = x := by
  unfold fBin
  rw [h1, bind_ok, h2, bind_ok, h3]
theorem k_var {i : Nat} {r : Rh} {m : Mu} {w : W} (h : r[i]? = some (some w)) : fVar i r m = .ok w m := by
  unfold fVar
  rw [h]
theorem k_for {fi : FI} {pt : Pat} {fb : FS} {r : Rh} {m m1 : Mu} {its : ItS} {x : SR} (h : fi r m = .ok its m1) (h2 : forF its.src pt fb its.items r m1 = x) : fFor fi pt fb r m = x := by
  unfold fFor
  rw [h, toS_ok, h2]
theorem k_then {f g : FS} {r r1 : Rh} {m m1 : Mu} {x : SR} (h : f r m = .next r1 m1) (h2 : g r1 m1 = x) : fThen f g r m = x := by
  unfold fThen
  rw [h, then_next, h2]
/-- the law's inner walk -/
theorem ln_inner {h : Hs} (q : List Ln × Nat) (acc : List Nd) (x3 x4 : Option W) (m : Mu) (hs : 2 ≤ h.s ∧ h.s ≤ 3) (hl : acc.length ≤ 1000) (hq : q.1.length ≤ 3) :
    ∃ y3 y4, forF none (.nm 3) (fSet 1 (fBin gAdd (fVar 1) (fComp (fRng1 (fBin gIx (fVar 0) (fC (.int 0)))) (.nm 4) [4] fYes (fTup (fCons (fVar 2) (fCons (fVar 3) (fCons (fVar 4) fNil))))))) ((List.range (q.1.length + 1)).map fun i : Nat => W.d (.int (i : Int)))
      [some (.d (eH h)), some (.d (.list (acc.map eN))), some (.d (.int (q.2 : Int))), x3, x4] m = .next [some (.d (eH h)), some (.d (.list ((acc ++ ndsOf h.s.toNat q).map eN))), some (.d (.int (q.2 : Int))), y3, y4] m := by
  have i0 : gIx (.d (eH h)) (.d (.int 0)) m = .ok (.d (.int h.s)) m := tup0
  obtain ⟨r2, m2, hc, acc2, y3, y4, rfl, hb2, rfl⟩ := for_inv (pt := .nm 3) (fb := (fSet 1 (fBin gAdd (fVar 1) (fComp (fRng1 (fBin gIx (fVar 0) (fC (.int 0)))) (.nm 4) [4] fYes (fTup (fCons (fVar 2) (fCons (fVar 3) (fCons (fVar 4) fNil))))))))
    (fun i : Nat => W.d (.int (i : Int)))
    (fun rest r m' => ∃ (acc2 : List Nd) (y3 y4 : Option W), r = [some (.d (eH h)), some (.d (.list ((acc ++ acc2).map eN))), some (.d (.int (q.2 : Int))), y3, y4] ∧ (acc2 ++ rest.flatMap (fun a => (List.range h.s.toNat).map fun st => ⟨q.2, a, st⟩) = ndsOf h.s.toNat q ∧ acc2.length + rest.length * 3 ≤ 12) ∧ m' = m)
    (List.range (q.1.length + 1)) [some (.d (eH h)), some (.d (.list (acc.map eN))), some (.d (.int (q.2 : Int))), x3, x4] m ⟨[], x3, x4, by rw [List.append_nil], ⟨rfl, by simp; omega⟩, rfl⟩
    (fun a rest2 r m' ⟨acc2, y3, y4, er, ⟨f1, f2⟩, em⟩ => by
      subst er em
      refine ⟨[some (.d (eH h)), some (.d (.list ((acc ++ acc2).map eN))), some (.d (.int (q.2 : Int))), some (.d (.int (a : Int))), y4], rfl, ?_⟩
      have hcc := e_compA (fi := fRng1 (fBin gIx (fVar 0) (fC (.int 0)))) (pt := .nm 4) (vs := [4]) (fe := fTup (fCons (fVar 2) (fCons (fVar 3) (fCons (fVar 4) fNil)))) (m := m') (m1 := m')
        (r := [some (.d (eH h)), some (.d (.list ((acc ++ acc2).map eN))), some (.d (.int (q.2 : Int))), some (.d (.int (a : Int))), y4]) (fun i : Nat => W.d (.int (i : Int))) (fun st => eN ⟨q.2, a, st⟩) (List.range h.s.toNat) (rng1 (k := h.s) (by simp [fVar, fC, fNil, fCons, fTup, fLst, fLstN, fBin, fChain_eq, fTb_eq, fAndT, fOrT, fNotT, fAndV_eq, fOrV_eq, fNotV_eq, fIf, fIsN, fNotN, fIsi, fCall, fBi, fRet, fSet, fAsg, fPar, fPar3, fIfS_eq, fThen, fDrop, fNext, fSt, startR, subTy, kBl, mkT, i0]) (by omega) (by omega))
        (fun st _ => ⟨[some (.d (eH h)), some (.d (.list ((acc ++ acc2).map eN))), some (.d (.int (q.2 : Int))), some (.d (.int (a : Int))), some (.d (.int (st : Int)))], rfl, by simp [fVar, fC, fNil, fCons, fTup, fLst, fLstN, fBin, fChain_eq, fTb_eq, fAndT, fOrT, fNotT, fAndV_eq, fOrV_eq, fNotV_eq, fIf, fIsN, fNotN, fIsi, fCall, fBi, fRet, fSet, fAsg, fPar, fPar3, fIfS_eq, fThen, fDrop, fNext, fSt, startR, subTy, kBl, mkT, eN]⟩) (by rw [List.length_range]; omega)
      rw [List.length_cons] at f2
      have hadd : gAdd (.d (.list ((acc ++ acc2).map eN))) (.d (.list ((List.range h.s.toNat).map fun st => eN ⟨q.2, a, st⟩))) m' = .ok (.d (.list ((acc ++ acc2).map eN ++ (List.range h.s.toNat).map fun st => eN ⟨q.2, a, st⟩))) m' := e_addL (by
        rw [List.length_map, List.length_append, List.length_map, List.length_range]
        omega)
      refine ⟨_, m', .inl (k_set (k_bin (k_var rfl) hcc hadd)), acc2 ++ (List.range h.s.toNat).map fun st => ⟨q.2, a, st⟩, some (.d (.int (a : Int))), y4, ?_, ⟨by rw [← f1, List.flatMap_cons, List.append_assoc], by rw [List.length_append, List.length_map, List.length_range]; omega⟩, rfl⟩
      simp [List.map_append, Function.comp_def])
  have hb3 := hb2.1
  rw [List.flatMap_nil, List.append_nil] at hb3
  subst hb3
  exact ⟨y3, y4, hc⟩
theorem v_lnodes {h : Hs} (ok : HsOk 3 3 h) (m : Mu) : f__law_nodes [.d (eH h)] m = .ok (.d (.list ((nds h).map eN))) m := by
  have hs := ok.s
  have hf := ok.few
  have i1 : gIx (.d (eH h)) (.d (.int 1)) m = .ok (.d (.tuple (h.es.map eE))) m := tup1
  have bound : ∀ q ∈ h.es.zipIdx, (ndsOf h.s.toNat q).length ≤ 12 := fun q hq => by
    have h1 := (ok.errand q.1 (mem_zipIdx1 hq)).2.1
    have h2 := flat_len (fun a => (List.range h.s.toNat).map fun st => (⟨q.2, a, st⟩ : Nd)) 3 (List.range (q.1.length + 1)) fun x _ => by simp; omega
    rw [List.length_range] at h2
    unfold ndsOf
    omega
  obtain ⟨r', m1, hc, acc, x2, x3, x4, rfl, hb, rfl⟩ := for_inv (pt := .nm 2) (fb := (fFor (fRng1 (fBin gAdd (fBi gLen (fCons (fBin gIx (fBin gIx (fVar 0) (fC (.int 1))) (fVar 2)) fNil)) (fC (.int 1)))) (.nm 3) (fSet 1 (fBin gAdd (fVar 1) (fComp (fRng1 (fBin gIx (fVar 0) (fC (.int 0)))) (.nm 4) [4] fYes (fTup (fCons (fVar 2) (fCons (fVar 3) (fCons (fVar 4) fNil)))))))))
    (fun q : List Ln × Nat => W.d (.int (q.2 : Int)))
    (fun rest r m' => ∃ (acc : List Nd) (x2 x3 x4 : Option W), r = [some (.d (eH h)), some (.d (.list (acc.map eN))), x2, x3, x4] ∧ (acc ++ rest.flatMap (ndsOf h.s.toNat) = nds h ∧ acc.length + rest.length * 12 ≤ 1000 ∧ ∀ q ∈ rest, q ∈ h.es.zipIdx) ∧ m' = m)
    h.es.zipIdx [some (.d (eH h)), some (.d (.list [])), none, none, none] m ⟨[], none, none, none, rfl, ⟨rfl, by simp; omega, fun q h => h⟩, rfl⟩
    (fun q rest r m' ⟨acc, x2, x3, x4, er, ⟨e1, e2, e3⟩, em⟩ => by
      subst er em
      have hq := e3 q List.mem_cons_self
      have hb := bound q hq
      have hw := (ok.errand q.1 (mem_zipIdx1 hq)).2.1
      have l1 : gLen [.d (eE q.1)] m' = .ok (.d (.int q.1.length)) m' := by
        unfold eE
        rw [len_tup, List.length_map]
      have i2 : gIx (.d (.tuple (h.es.map eE))) (.d (.int (q.2 : Int))) m' = .ok (.d (eE q.1)) m' := ix_tup (atN (by simp [at_zipIdx hq]))
      rw [List.length_cons] at e2
      obtain ⟨y3, y4, hin⟩ := ln_inner (h := h) q acc x3 x4 m' hs (by omega) (by omega)
      refine ⟨[some (.d (eH h)), some (.d (.list (acc.map eN))), some (.d (.int (q.2 : Int))), x3, x4], rfl, ?_⟩
      have hr := rng1 (f := fBin gAdd (fBi gLen (fCons (fBin gIx (fBin gIx (fVar 0) (fC (.int 1))) (fVar 2)) fNil)) (fC (.int 1))) (r := [some (.d (eH h)), some (.d (.list (acc.map eN))), some (.d (.int (q.2 : Int))), x3, x4]) (m := m') (m' := m') (k := (q.1.length : Int) + 1) (by simp [fVar, fC, fNil, fCons, fTup, fLst, fLstN, fBin, fChain_eq, fTb_eq, fAndT, fOrT, fNotT, fAndV_eq, fOrV_eq, fNotV_eq, fIf, fIsN, fNotN, fIsi, fCall, fBi, fRet, fSet, fAsg, fPar, fPar3, fIfS_eq, fThen, fDrop, fNext, fSt, startR, subTy, kBl, mkT, i1, i2, l1]) (by omega) (by omega)
      rw [show ((q.1.length : Int) + 1).toNat = q.1.length + 1 by omega] at hr
      exact ⟨_, m', .inl (k_for hr hin), acc ++ ndsOf h.s.toNat q, some (.d (.int (q.2 : Int))), y3, y4, rfl, ⟨by rw [← e1, List.flatMap_cons, List.append_assoc], by rw [List.length_append]; omega, fun z hz => e3 z (List.mem_cons_of_mem _ hz)⟩, rfl⟩)
  have hb1 := hb.1
  rw [List.flatMap_nil, List.append_nil] at hb1
  subst hb1
  refine fnF_ret ?_
  have hr := rng1 (f := fBi gLen (fCons (fBin gIx (fVar 0) (fC (.int 1))) fNil)) (r := [some (.d (eH h)), some (.d (.list [])), none, none, none]) (m := m1) (m' := m1) (k := (h.es.length : Int)) (by simp [fVar, fC, fNil, fCons, fTup, fLst, fLstN, fBin, fChain_eq, fTb_eq, fAndT, fOrT, fNotT, fAndV_eq, fOrV_eq, fNotV_eq, fIf, fIsN, fNotN, fIsi, fCall, fBi, fRet, fSet, fAsg, fPar, fPar3, fIfS_eq, fThen, fDrop, fNext, fSt, startR, subTy, kBl, mkT, i1]) (by omega) (by omega)
  rw [show ((h.es.length : Int)).toNat = h.es.length by omega, range_zipIdx] at hr
  unfold b__law_nodes
  refine k_then (k_set (w := .d (.list [])) (m1 := m1) rfl) (k_then (k_for hr hc) ?_)
  rfl
end Wy

set_option Elab.async false
set_option linter.all false
set_option maxRecDepth 100000
set_option maxHeartbeats 4000000
/-! M10: wishes. -/
namespace Wy
open PySem PySem.Spec PyProof.Rows L2 PySem.W
theorem comp_ofS {β : Type} {src : Option (Nat × Ob)} {asg : W → Option Rh} {fe : FE} {m : Mu} (hst : stands src m = true) (e : β → W) (g : β → PyData) : ∀ (xs : List β) (acc : List PyData), (∀ x ∈ xs, ∃ r2, asg (e x) = some r2 ∧ fe r2 m = .ok (.d (g x)) m) → acc.length + xs.length ≤ 1000000 →
    compF src asg (elemF fYes fe) (xs.map e) acc m = .ok (acc ++ xs.map g) m
  | [], acc, _, _ => by simp [compF, hst]
  | x :: xs, acc, h, hl => by
    obtain ⟨r2, h1, h2⟩ := h x List.mem_cons_self
    rw [List.length_cons] at hl
    rw [List.map_cons, compF]
    simp only [hst, if_true, h1]
    have e1 : elemF fYes fe r2 acc m = .ok (acc ++ [g x]) m := by simp [elemF, fYes, h2, show acc.length < 1000000 by omega]
    rw [e1, bind_ok, comp_ofS hst e g xs (acc ++ [g x]) (fun y hy => h y (List.mem_cons_of_mem _ hy)) (by rw [List.length_append]; simp; omega)]
    simp
theorem stands_of {n : Nat} {o : Ob} {m : Mu} (h : m[n]? = some o) : stands (some (n, o)) m = true := by
  simp [stands, h, obb_refl]
def eW (ns : List Int) : PyData := .tuple (dI ns)
/-- one state more -/
def more (acc : List (List Int)) (st : Int) : List (List Int) := acc ++ acc.map (· ++ [st])
def mores (sts : List Nat) : List (List Int) := sts.foldl (fun (a : List (List Int)) (st : Nat) => more a (st : Int)) [[]]
theorem v_wishes2 (m : Mu) : f__law_wishes [.d (.int 2)] m = .ok (.d (.list ([[0], [0, 1], [1]].map eW))) m := by
  refine fnF_ret ?_
  kernel_rfl
theorem v_wishes3 (m : Mu) : f__law_wishes [.d (.int 3)] m = .ok (.d (.list ([[0], [0, 1], [0, 1, 2], [0, 2], [1], [1, 2], [2]].map eW))) m := by
  refine fnF_ret ?_
  kernel_rfl
theorem e_seqLoc {f : FE} {r : Rh} {m m' : Mu} {n : Nat} {ds : List PyData} (h : f r m = .ok (.loc n) m') (h2 : m'[n]? = some (.lst ds)) : fSeq f r m = .ok ⟨ds.map W.d, some (n, .lst ds)⟩ m' := by
  unfold fSeq
  rw [h, bind_ok]
  simp [seqIt, h2]
theorem e_compN {β : Type} {fi : FI} {pt : Pat} {vs : List Nat} {fe : FE} {r : Rh} {m m1 : Mu} {src : Option (Nat × Ob)} (e : β → W) (g : β → PyData) (xs : List β) (hi : fi r m = .ok ⟨xs.map e, src⟩ m1) (hst : stands src m1 = true)
    (h : ∀ x ∈ xs, ∃ r2, patF pt (e x) (wipeR r vs) = some r2 ∧ fe r2 m1 = .ok (.d (g x)) m1) (hl : xs.length ≤ 1000000) : fCompN fi pt vs fYes fe r m = .ok (.loc m1.length) (m1 ++ [.lst (xs.map g)]) := by
  unfold fCompN
  rw [hi, bind_ok, comp_ofS hst e g xs [] h (by simpa using hl)]
  rfl
theorem e_sorted {w : W} {m : Mu} {ds : List PyData} (h : fix m w = some (.list ds)) (ok : okSort ds = true) : gSorted [w] m = .ok (.d (.list (sortD ds))) m := by
  simp [gSorted, h, ok]
theorem w_turn {k : Int} {m0 m : Mu} {acc : List (List Int)} {st : Int} {x2 x3 : Option W} (S : St1 m0 (.lst (acc.map eW)) m) (hl : acc.length ≤ 1000 ∧ ∀ ns ∈ acc, ns.length ≤ 1000) :
    ∃ m', fAugL 1 (fCompN (fSeq (fVar 1)) (.nm 3) [3] fYes (fBin gAdd (fVar 3) (fTup (fCons (fVar 2) fNil)))) [some (.d (.int k)), some (.loc m0.length), some (.d (.int st)), x3] m = .next [some (.d (.int k)), some (.loc m0.length), some (.d (.int st)), x3] m' ∧ St1 m0 (.lst ((more acc st).map eW)) m' := by
  have hs := e_seqLoc (f := fVar 1) (r := [some (.d (.int k)), some (.loc m0.length), some (.d (.int st)), x3]) (m := m) (m' := m) rfl S.at_
  rw [List.map_map] at hs
  have hc := e_compN (pt := .nm 3) (vs := [3]) (fe := fBin gAdd (fVar 3) (fTup (fCons (fVar 2) fNil))) (W.d ∘ eW) (fun ns => eW (ns ++ [st])) acc hs (stands_of S.at_) (fun ns hns => ⟨[some (.d (.int k)), some (.loc m0.length), some (.d (.int st)), some (.d (eW ns))], rfl, ?_⟩) (by omega)
  · obtain ⟨m', e, S'⟩ := e_aug (i := 1) S rfl hc (by rw [List.length_map, List.length_map]; omega)
    refine ⟨m', e, ?_⟩
    unfold more
    rw [List.map_append, List.map_map]
    exact S'
  · have := hl.2 ns hns
    have ea : gAdd (.d (.tuple (dI ns))) (.d (.tuple [.int st])) m = .ok (.d (.tuple (dI ns ++ [.int st]))) m := e_addT (by rw [List.length_map]; simp; omega)
    refine k_bin (k_var rfl) (b := .d (.tuple [.int st])) (m2 := m) rfl ?_
    unfold eW
    rw [ea]
    simp
theorem v_wishesP (k : Int) (sts : List Nat) (acc : List (List Int)) (m0 : Mu) (hk : (List.range k.toNat) = sts) (h0 : 0 ≤ k ∧ k ≤ 8) (hacc : acc = mores sts) (ok : okSort (acc.map eW) = true) (hb : ∀ ys : List Nat, ys <+: sts → (mores ys).length ≤ 1000 ∧ ∀ ns ∈ mores ys, ns.length ≤ 1000) :
    f_wishes_of [.d (.int k)] m0 = .ok (.d (.list (sortD (acc.map eW)).tail)) m0 := by
  obtain ⟨r', m1, hc, ys, x2, x3, rfl, he, S⟩ := for_inv (pt := .nm 2) (fb := fAugL 1 (fCompN (fSeq (fVar 1)) (.nm 3) [3] fYes (fBin gAdd (fVar 3) (fTup (fCons (fVar 2) fNil))))) (fun i : Nat => W.d (.int (i : Int)))
    (fun rest r m => ∃ (ys : List Nat) (x2 x3 : Option W), r = [some (.d (.int k)), some (.loc m0.length), x2, x3] ∧ ys ++ rest = sts ∧ St1 m0 (.lst ((mores ys).map eW)) m)
    (List.range k.toNat) [some (.d (.int k)), some (.loc m0.length), none, none] (m0 ++ [.lst [.tuple []]]) ⟨[], none, none, rfl, by rw [hk]; rfl, [], rfl⟩
    (fun x rest r m ⟨ys, x2, x3, er, e1, S⟩ => by
      subst er
      obtain ⟨m', e, S'⟩ := w_turn (k := k) (st := (x : Int)) (x2 := x2) (x3 := x3) S (hb ys ⟨_, e1⟩)
      refine ⟨_, rfl, _, m', .inl e, ys ++ [x], some (.d (.int (x : Int))), x3, rfl, by rw [← e1]; simp, ?_⟩
      have : mores (ys ++ [x]) = more (mores ys) (x : Int) := by
        unfold mores
        rw [List.foldl_append]
        rfl
      rw [this]
      exact S')
  rw [List.append_nil] at he
  subst he
  rw [← hacc] at S
  have hr := rng1 (f := fVar 0) (r := [some (.d (.int k)), some (.loc m0.length), none, none]) (m := m0 ++ [.lst [.tuple []]]) (m' := m0 ++ [.lst [.tuple []]]) (k := k) rfl h0.1 (by omega)
  have hso := e_sorted (w := .loc m0.length) (m := m1) (ds := acc.map eW) (by simp [fix, S.at_]) ok
  unfold f_wishes_of fnF
  have hb' : b_wishes_of (startR 4 [.d (.int k)]) m0 = .ret false (.d (.list (sortD (acc.map eW)).tail)) m1 := by
    unfold b_wishes_of
    have h1 : fSet 1 (fLstN (fCons (fTup fNil) fNil)) (startR 4 [.d (.int k)]) m0 = .next [some (.d (.int k)), some (.loc m0.length), none, none] (m0 ++ [Ob.lst [PyData.tuple []]]) := rfl
    refine k_then h1 (k_then (k_for hr hc) ?_)
    simp only [fRet, fSl, fBi, fCons, fVar, fNil, fPart, fC, fNoP, List.getElem?_cons_succ, List.getElem?_cons_zero, bind_ok, hso, toS_ok, e_tailL]
  rw [hb']
  simp [finW, frzW, S.take]
theorem pre2 {ys : List Nat} {p : List Nat → Prop} (h : ys <+: [0, 1]) (h1 : p []) (h2 : p [0]) (h3 : p [0, 1]) : p ys := by
  obtain ⟨t, e⟩ := h
  match ys, e with
  | [], _ => exact h1
  | [a], e => simp at e; rw [e.1]; exact h2
  | [a, b], e => simp at e; rw [e.1, e.2.1]; exact h3
  | a :: b :: c :: ys, e => simp at e
theorem pre3 {ys : List Nat} {p : List Nat → Prop} (h : ys <+: [0, 1, 2]) (h1 : p []) (h2 : p [0]) (h3 : p [0, 1]) (h4 : p [0, 1, 2]) : p ys := by
  obtain ⟨t, e⟩ := h
  match ys, e with
  | [], _ => exact h1
  | [a], e => simp at e; rw [e.1]; exact h2
  | [a, b], e => simp at e; rw [e.1, e.2.1]; exact h3
  | [a, b, c], e => simp at e; rw [e.1, e.2.1, e.2.2.1]; exact h4
  | a :: b :: c :: d :: ys, e => simp at e
theorem v_wishesP2 (m : Mu) : f_wishes_of [.d (.int 2)] m = .ok (.d (.list ([[0], [0, 1], [1]].map eW))) m := by
  rw [v_wishesP 2 [0, 1] [[], [0], [1], [0, 1]] m rfl (by decide) rfl (by kernel_rfl) fun ys h => pre2 (p := fun ys => (mores ys).length ≤ 1000 ∧ ∀ ns ∈ mores ys, ns.length ≤ 1000) h (by simp [mores]) (by simp [mores, more]) (by simp [mores, more])]
  kernel_rfl
theorem v_wishesP3 (m : Mu) : f_wishes_of [.d (.int 3)] m = .ok (.d (.list ([[0], [0, 1], [0, 1, 2], [0, 2], [1], [1, 2], [2]].map eW))) m := by
  rw [v_wishesP 3 [0, 1, 2] [[], [0], [1], [0, 1], [2], [0, 2], [1, 2], [0, 1, 2]] m rfl (by decide) rfl (by kernel_rfl) fun ys h => pre3 (p := fun ys => (mores ys).length ≤ 1000 ∧ ∀ ns ∈ mores ys, ns.length ≤ 1000) h (by simp [mores]) (by simp [mores, more]) (by simp [mores, more]) (by simp [mores, more])]
  kernel_rfl
def wsL (s : Int) : List (List Int) := if s = 2 then [[0], [0, 1], [1]] else [[0], [0, 1], [0, 1, 2], [0, 2], [1], [1, 2], [2]]
theorem v_wishes_of {s : Int} (h : 2 ≤ s ∧ s ≤ 3) (m : Mu) : f_wishes_of [.d (.int s)] m = .ok (.d (.list ((wsL s).map eW))) m := by
  by_cases c : s = 2
  · subst c
    exact v_wishesP2 m
  · obtain rfl : s = 3 := by omega
    exact v_wishesP3 m
theorem v_lwishes {s : Int} (h : 2 ≤ s ∧ s ≤ 3) (m : Mu) : f__law_wishes [.d (.int s)] m = .ok (.d (.list ((wsL s).map eW))) m := by
  by_cases c : s = 2
  · subst c
    exact v_wishes2 m
  · obtain rfl : s = 3 := by omega
    exact v_wishes3 m
end Wy

set_option Elab.async false
set_option linter.all false
set_option maxRecDepth 100000
set_option maxHeartbeats 4000000
/-! M11: options at a place; who chooses; keys. -/
namespace Wy
open PySem PySem.Spec PyProof.Rows L2 PySem.W
theorem for_find {β : Type} {pt : Pat} {fb : FS} {m : Mu} {k : Bool} {w : W} (e : β → W) (p : β → Bool) (I : Rh → Prop) : ∀ (xs : List β) (r : Rh), I r → (∀ x ∈ xs, ∀ r, I r → ∃ r2, patF pt (e x) r = some r2 ∧ (p x = true → fb r2 m = .ret k w m) ∧ (p x = false → ∃ r3, fb r2 m = .next r3 m ∧ I r3)) →
    (xs.any p = true → forF none pt fb (xs.map e) r m = .ret k w m) ∧ (xs.any p = false → ∃ r', forF none pt fb (xs.map e) r m = .next r' m ∧ I r')
  | [], r, i, _ => ⟨fun h => (by simp at h), fun _ => ⟨r, by simp [forF, stands], i⟩⟩
  | x :: xs, r, i, h => by
    obtain ⟨r2, h1, h2, h3⟩ := h x List.mem_cons_self r i
    rw [List.any_cons, List.map_cons, forF]
    simp only [stands, if_true, h1]
    cases hp : p x with
    | true =>
      rw [h2 hp]
      exact ⟨fun _ => rfl, fun z => (by simp at z)⟩
    | false =>
      obtain ⟨r3, e3, i3⟩ := h3 hp
      rw [e3, Bool.false_or]
      exact for_find e p I xs r3 i3 fun y hy => h y (List.mem_cons_of_mem _ hy)
theorem shaped_ints (ns : List Int) : SeqAt.shaped (.tuple (dI ns)) = true := by
  unfold SeqAt.shaped
  simp [PyData.canLay0, PyData.depth, depth_intsD, lay_ints]
theorem shaped_int (i : Int) : SeqAt.shaped (.int i) = true := rfl
/-- st is one of ns -/
def hasI (ns : List Int) (st : Int) : Bool := ns.any fun n => n == st
theorem hasI_iff {ns : List Int} {st : Int} : hasI ns st = true ↔ st ∈ ns := by
  unfold hasI
  rw [List.any_eq_true]
  constructor
  · rintro ⟨x, hx, e⟩
    rw [← beq_iff_eq.mp e]
    exact hx
  · exact fun h => ⟨st, h, beq_self_eq_true _⟩
theorem e_inI {st : Int} {ns : List Int} {m : Mu} : gIn (.d (.int st)) (.d (.tuple (dI ns))) m = .ok (.d (.bool (hasI ns st))) m := by
  have h : pIn (.int st) (.tuple (dI ns)) = some (hasI ns st) := by
    unfold pIn
    simp only [shaped_int, shaped_ints, Bool.and_self, if_true]
    congr 1
    unfold hasI
    induction ns with
    | nil => rfl
    | cons n ns ih =>
      rw [show dI (n :: ns) = .int n :: dI ns from rfl, List.any_cons, ih]
      rfl
  show (match pIn (.int st) (.tuple (dI ns)) with | some k => kBl k m | none => .bad) = _
  rw [h]
/-- a line of the house -/
theorem e_house {h : Hs} {e a : Nat} {ls : List Ln} {l : Ln} (he : h.es[e]? = some ls) (ha : ls[a]? = some l) (m : Mu) :
    gIx (.d (eH h)) (.d (.int 1)) m = .ok (.d (.tuple (h.es.map eE))) m ∧ gIx (.d (.tuple (h.es.map eE))) (.d (.int (e : Int))) m = .ok (.d (eE ls)) m ∧ gIx (.d (eE ls)) (.d (.int (a : Int))) m = .ok (.d (eL l)) m ∧
      gIx (.d (eL l)) (.d (.int 1)) m = .ok (.d (.tuple (l.opts.map eO))) m ∧ gIx (.d (eL l)) (.d (.int 0)) m = .ok (.d (whoD l.me)) m :=
  ⟨tup1, ix_tup (atN (by simp [he])), ix_tup (atN (by simp [ha])), tup1, tup0⟩
theorem v_open {h : Hs} {e a : Nat} {ls : List Ln} {l : Ln} {st : Int} (he : h.es[e]? = some ls) (ha : ls[a]? = some l) (hf : l.opts.length ≤ 1000) (m : Mu) :
    f_open_options [.d (eH h), .d (.int (e : Int)), .d (.int (a : Int)), .d (.int st)] m = .ok (.d (.list ((l.opts.zipIdx.filter fun q => hasI q.1.need st).map fun q => .int (q.2 : Int)))) m := by
  obtain ⟨i1, i2, i3, i4, _⟩ := e_house he ha m
  have hi := e_enumT (f := fVar 4) (r := [some (.d (eH h)), some (.d (.int (e : Int))), some (.d (.int (a : Int))), some (.d (.int st)), some (.d (.tuple (l.opts.map eO))), none, none]) (m := m) (m' := m) (ds := l.opts.map eO) rfl
  rw [zipIdx_map, List.map_map] at hi
  have hc := e_comp (pt := .tp [.nm 5, .nm 6]) (vs := [5, 6]) (ft := fTb (fBin gIn (fVar 3) (fBin gIx (fVar 6) (fC (.int 0))))) (fe := fVar 5) (m := m) (m1 := m) (fun q : Opt × Nat => W.d (.tuple [.int (q.2 : Int), eO q.1])) (fun q => hasI q.1.need st) (fun q => .int (q.2 : Int)) l.opts.zipIdx hi
    (fun q _ => ⟨[some (.d (eH h)), some (.d (.int (e : Int))), some (.d (.int (a : Int))), some (.d (.int st)), some (.d (.tuple (l.opts.map eO))), some (.d (.int (q.2 : Int))), some (.d (eO q.1))], rfl, by
      have i0 : gIx (.d (eO q.1)) (.d (.int 0)) m = .ok (.d (.tuple (dI q.1.need))) m := tup0
      simp [fVar, fC, fNil, fCons, fTup, fLst, fLstN, fBin, fChain_eq, fTb_eq, fAndT, fOrT, fNotT, fAndV_eq, fOrV_eq, fNotV_eq, fIf, fIsN, fNotN, fIsi, fCall, fBi, fRet, fSet, fAsg, fPar, fPar3, fIfS_eq, fThen, fDrop, fNext, fSt, startR, subTy, kBl, mkT, i0, e_inI], fun _ => rfl⟩) (by simp; omega)
  refine fnF_ret ?_
  unfold b_open_options
  refine k_then (r1 := [some (.d (eH h)), some (.d (.int (e : Int))), some (.d (.int (a : Int))), some (.d (.int st)), some (.d (.tuple (l.opts.map eO))), none, none]) (m1 := m) ?_ ?_
  · simp [fVar, fC, fNil, fCons, fTup, fLst, fLstN, fBin, fChain_eq, fTb_eq, fAndT, fOrT, fNotT, fAndV_eq, fOrV_eq, fNotV_eq, fIf, fIsN, fNotN, fIsi, fCall, fBi, fRet, fSet, fAsg, fPar, fPar3, fIfS_eq, fThen, fDrop, fNext, fSt, startR, subTy, kBl, mkT, i1, i2, i3, i4]
  · unfold fRet
    rw [hc]
    rfl
theorem v_options_at {h : Hs} {n : Nd} {ls : List Ln} (he : h.es[n.e]? = some ls) (ha : n.a ≤ ls.length) (hf : ∀ l ∈ ls, l.opts.length ≤ 1000) (m : Mu) :
    f_options_at [.d (eH h), .d (eN n)] m = .ok (.d (.list (match ls[n.a]? with | some l => (l.opts.filter fun o => hasI o.need (n.s : Int)).map eO | none => []))) m := by
  refine fnF_ret ?_
  unfold b_options_at
  have hp : fAsg (.tp [.nm 2, .nm 3, .nm 4]) (fVar 1) (startR 6 [.d (eH h), .d (eN n)]) m = .next [some (.d (eH h)), some (.d (eN n)), some (.d (.int (n.e : Int))), some (.d (.int (n.a : Int))), some (.d (.int (n.s : Int))), none] m := rfl
  have i1 : gIx (.d (eH h)) (.d (.int 1)) m = .ok (.d (.tuple (h.es.map eE))) m := tup1
  have i2 : gIx (.d (.tuple (h.es.map eE))) (.d (.int (n.e : Int))) m = .ok (.d (eE ls)) m := ix_tup (atN (by simp [he]))
  have l1 : gLen [.d (eE ls)] m = .ok (.d (.int ls.length)) m := by
    unfold eE
    rw [len_tup, List.length_map]
  refine k_then hp ?_
  by_cases c : n.a = ls.length
  · rw [List.getElem?_eq_none (by omega)]
    simp [fVar, fC, fNil, fCons, fTup, fLst, fLstN, fBin, fChain_eq, fTb_eq, fAndT, fOrT, fNotT, fAndV_eq, fOrV_eq, fNotV_eq, fIf, fIsN, fNotN, fIsi, fCall, fBi, fRet, fSet, fAsg, fPar, fPar3, fIfS_eq, fThen, fDrop, fNext, fSt, startR, subTy, kBl, mkT, i1, i2, l1, c]
  · have hlt : n.a < ls.length := by omega
    have ha' : ls[n.a]? = some ls[n.a] := by simp [hlt]
    rw [ha']
    generalize ls[n.a] = l at ha'
    obtain ⟨_, _, i3, i4, _⟩ := e_house he ha' m
    have ho := v_open (st := (n.s : Int)) he ha' (hf l (List.mem_of_getElem? ha')) m
    have hc := e_compA (fi := fSeq (fCall 4 f_open_options (fCons (fVar 0) (fCons (fVar 2) (fCons (fVar 3) (fCons (fVar 4) fNil)))))) (pt := .nm 5) (vs := [5]) (fe := fBin gIx (fBin gIx (fBin gIx (fBin gIx (fBin gIx (fVar 0) (fC (.int 1))) (fVar 2)) (fVar 3)) (fC (.int 1))) (fVar 5)) (m := m) (m1 := m)
      (r := [some (.d (eH h)), some (.d (eN n)), some (.d (.int (n.e : Int))), some (.d (.int (n.a : Int))), some (.d (.int (n.s : Int))), none]) (fun q : Opt × Nat => W.d (.int (q.2 : Int))) (fun q => eO q.1) (l.opts.zipIdx.filter fun q => hasI q.1.need (n.s : Int)) (by
        rw [e_seqL (m' := m) (by simp [fVar, fC, fNil, fCons, fTup, fLst, fLstN, fBin, fChain_eq, fTb_eq, fAndT, fOrT, fNotT, fAndV_eq, fOrV_eq, fNotV_eq, fIf, fIsN, fNotN, fIsi, fCall, fBi, fRet, fSet, fAsg, fPar, fPar3, fIfS_eq, fThen, fDrop, fNext, fSt, startR, subTy, kBl, mkT, ho]; rfl), List.map_map]
        rfl)
      (fun q hq => ⟨[some (.d (eH h)), some (.d (eN n)), some (.d (.int (n.e : Int))), some (.d (.int (n.a : Int))), some (.d (.int (n.s : Int))), some (.d (.int (q.2 : Int)))], rfl, by
        have hq' := at_zipIdx (List.mem_filter.mp hq).1
        have i5 : gIx (.d (.tuple (l.opts.map eO))) (.d (.int (q.2 : Int))) m = .ok (.d (eO q.1)) m := ix_tup (atN (by simp [hq']))
        simp [fVar, fC, fNil, fCons, fTup, fLst, fLstN, fBin, fChain_eq, fTb_eq, fAndT, fOrT, fNotT, fAndV_eq, fOrV_eq, fNotV_eq, fIf, fIsN, fNotN, fIsi, fCall, fBi, fRet, fSet, fAsg, fPar, fPar3, fIfS_eq, fThen, fDrop, fNext, fSt, startR, subTy, kBl, mkT, i1, i2, i3, i4, i5]⟩) (by
          have h1 := List.length_filter_le (fun q : Opt × Nat => hasI q.1.need (n.s : Int)) l.opts.zipIdx
          have h2 := hf l (List.mem_of_getElem? ha')
          rw [List.length_zipIdx] at h1
          omega)
    have e1 : (l.opts.zipIdx.filter fun q => hasI q.1.need (n.s : Int)).map (fun q => eO q.1) = (l.opts.filter fun o => hasI o.need (n.s : Int)).map eO := by
      have : ∀ (k : Nat) (os : List Opt), ((os.zipIdx k).filter fun q => hasI q.1.need (n.s : Int)).map (fun q => eO q.1) = (os.filter fun o => hasI o.need (n.s : Int)).map eO := by
        intro k os
        induction os generalizing k with
        | nil => rfl
        | cons o os ih =>
          rw [List.zipIdx_cons, List.filter_cons, List.filter_cons]
          by_cases z : hasI o.need (n.s : Int) = true
          · rw [if_pos z, if_pos z, List.map_cons, List.map_cons, ih]
          · rw [if_neg z, if_neg z, ih]
      exact this 0 l.opts
    rw [e1] at hc
    refine k_then (r1 := [some (.d (eH h)), some (.d (eN n)), some (.d (.int (n.e : Int))), some (.d (.int (n.a : Int))), some (.d (.int (n.s : Int))), none]) (m1 := m) ?_ ?_
    · have c' : ((n.a : Int) == (ls.length : Int)) = false := by
        rw [beq_eq_false_iff_ne]
        omega
      simp [fVar, fC, fNil, fCons, fTup, fLst, fLstN, fBin, fChain_eq, fTb_eq, fAndT, fOrT, fNotT, fAndV_eq, fOrV_eq, fNotV_eq, fIf, fIsN, fNotN, fIsi, fCall, fBi, fRet, fSet, fAsg, fPar, fPar3, fIfS_eq, fThen, fDrop, fNext, fSt, startR, subTy, kBl, mkT, i1, i2, l1, c']
    · unfold fRet
      rw [hc]
      rfl
end Wy

set_option Elab.async false
set_option linter.all false
set_option maxRecDepth 100000
set_option maxHeartbeats 4000000
/-! M12: one option wins. -/
namespace Wy
open PySem PySem.Spec PyProof.Rows L2 PySem.W
abbrev Es := List (PyData × PyData)
def eKey (e a s : Int) (w : List Int) : PyData := .tuple [.int e, .int a, .int s, eW w]
def hasK (es : Es) (e a s : Int) (w : List Int) : Bool := dhas es (eKey e a s w)
theorem okKey_key (e a s : Int) (w : List Int) : okKey (eKey e a s w) = true := by
  unfold okKey eKey eW
  simp [keyable, keyables, keyables_ints, keyOf, keysOf, keys_ints, NestedKey.depth, NestedKey.depthAll, depth_nums]
theorem e_inK {e a s : Int} {w : List Int} {d : Nat} {es : Es} {m : Mu} (h : m[d]? = some (.dct es)) : gIn (.d (eKey e a s w)) (.loc d) m = .ok (.d (.bool (hasK es e a s w))) m := by
  simp [gIn, on2, dr, h, pIn, okKey_key, hasK]
theorem e_ninK {e a s : Int} {w : List Int} {d : Nat} {es : Es} {m : Mu} (h : m[d]? = some (.dct es)) : gNotIn (.d (eKey e a s w)) (.loc d) m = .ok (.d (.bool (!hasK es e a s w))) m := by
  simp [gNotIn, on2, dr, h, pIn, okKey_key, hasK]
theorem e_inKD {e a s : Int} {w : List Int} {es : Es} {m : Mu} : gIn (.d (eKey e a s w)) (.d (.dict es)) m = .ok (.d (.bool (hasK es e a s w))) m := by
  simp [gIn, on2, dr, pIn, okKey_key, hasK]
/-- the option leads to what is sure -/
def optW (es : Es) (e : Int) (o : Opt) (w : List Int) (ws : List (List Int)) : Bool := bif decide (o.side < 0) then hasK es e o.go o.st w else ws.any fun mid => hasK es o.side 0 o.st mid && mid.all fun one => hasK es e o.go one w
theorem e_all2 {β : Type} (p : β → Bool) (xs : List β) (m : Mu) : gAll [.d (.list (xs.map fun x => .bool (p x)))] m = .ok (.d (.bool (xs.all p))) m := e_all p xs m
theorem v_option_wins {es : Es} {d : Nat} {n : Nd} {o : Opt} {w : List Int} {ws : List (List Int)} {m : Mu} (hd : m[d]? = some (.dct es)) (hw : ∀ x ∈ ws, x.length ≤ 1000) :
    f_option_wins [.wt [.loc d, .loc d], .d (eN n), .d (eO o), .d (eW w), .d (.list (ws.map eW))] m = .ok (.d (.bool (optW es (n.e : Int) o w ws))) m := by
  refine fnF_ret ?_
  unfold b_option_wins
  have i0 : gIx (.d (eN n)) (.d (.int 0)) m = .ok (.d (.int (n.e : Int))) m := tup0
  have p1 : fAsg (.tp [.nm 5, .nm 6, .nm 7, .nm 8]) (fVar 2) (startR 13 [.wt [.loc d, .loc d], .d (eN n), .d (eO o), .d (eW w), .d (.list (ws.map eW))]) m = .next [some (.wt [.loc d, .loc d]), some (.d (eN n)), some (.d (eO o)), some (.d (eW w)), some (.d (.list (ws.map eW))), some (.d (.tuple (dI o.need))), some (.d (.int o.side)), some (.d (.int o.st)), some (.d (.int o.go)), none, none, none, none] m := rfl
  have p2 : fAsg (.tp [.nm 9, .nm 10]) (fVar 0) [some (.wt [.loc d, .loc d]), some (.d (eN n)), some (.d (eO o)), some (.d (eW w)), some (.d (.list (ws.map eW))), some (.d (.tuple (dI o.need))), some (.d (.int o.side)), some (.d (.int o.st)), some (.d (.int o.go)), none, none, none, none] m = .next [some (.wt [.loc d, .loc d]), some (.d (eN n)), some (.d (eO o)), some (.d (eW w)), some (.d (.list (ws.map eW))), some (.d (.tuple (dI o.need))), some (.d (.int o.side)), some (.d (.int o.st)), some (.d (.int o.go)), some (.loc d), some (.loc d), none, none] m := rfl
  refine k_then p1 (k_then p2 ?_)
  have k1 := e_inK (e := (n.e : Int)) (a := o.go) (s := o.st) (w := w) hd
  unfold eKey at k1
  by_cases c : o.side < 0
  · unfold optW
    rw [decide_eq_true c]
    simp [fVar, fC, fNil, fCons, fTup, fLst, fLstN, fBin, fChain_eq, fTb_eq, fAndT, fOrT, fNotT, fAndV_eq, fOrV_eq, fNotV_eq, fIf, fIsN, fNotN, fIsi, fCall, fBi, fRet, fSet, fAsg, fPar, fPar3, fIfS_eq, fThen, fDrop, fNext, fSt, startR, subTy, kBl, mkT, i0, c, k1]
  · unfold optW
    rw [decide_eq_false c]
    obtain ⟨f1, f2⟩ := for_find (pt := .nm 11) (m := m) (k := false) (w := .d (.bool true)) (fb := (fIfS (fAndT (fTb (fBin gIn (fTup (fCons (fVar 6) (fCons (fC (.int 0)) (fCons (fVar 7) (fCons (fVar 11) fNil))))) (fVar 10))) (fTb (fBi gAll (fCons (fComp (fSeq (fVar 11)) (.nm 12) [12] fYes (fBin gIn (fTup (fCons (fBin gIx (fVar 1) (fC (.int 0))) (fCons (fVar 8) (fCons (fVar 12) (fCons (fVar 3) fNil))))) (fVar 9))) fNil)))) (fRet false (fC (.bool true))) fNext))
      (fun mid => W.d (eW mid)) (fun mid => hasK es o.side 0 o.st mid && mid.all fun one => hasK es (n.e : Int) o.go one w)
      (fun r => ∃ x11, r = [some (.wt [.loc d, .loc d]), some (.d (eN n)), some (.d (eO o)), some (.d (eW w)), some (.d (.list (ws.map eW))), some (.d (.tuple (dI o.need))), some (.d (.int o.side)), some (.d (.int o.st)), some (.d (.int o.go)), some (.loc d), some (.loc d), x11, none])
      ws [some (.wt [.loc d, .loc d]), some (.d (eN n)), some (.d (eO o)), some (.d (eW w)), some (.d (.list (ws.map eW))), some (.d (.tuple (dI o.need))), some (.d (.int o.side)), some (.d (.int o.st)), some (.d (.int o.go)), some (.loc d), some (.loc d), none, none] ⟨none, rfl⟩
      (fun mid hm r ⟨x11, er⟩ => by
        subst er
        refine ⟨_, rfl, ?_⟩
        have k2 := e_inK (e := o.side) (a := 0) (s := o.st) (w := mid) hd
        unfold eKey at k2
        have hc := e_compA (fi := fSeq (fVar 11)) (pt := .nm 12) (vs := [12]) (fe := fBin gIn (fTup (fCons (fBin gIx (fVar 1) (fC (.int 0))) (fCons (fVar 8) (fCons (fVar 12) (fCons (fVar 3) fNil))))) (fVar 9)) (m := m) (m1 := m)
          (r := [some (.wt [.loc d, .loc d]), some (.d (eN n)), some (.d (eO o)), some (.d (eW w)), some (.d (.list (ws.map eW))), some (.d (.tuple (dI o.need))), some (.d (.int o.side)), some (.d (.int o.st)), some (.d (.int o.go)), some (.loc d), some (.loc d), some (.d (eW mid)), none])
          (fun i : Int => W.d (.int i)) (fun one => .bool (hasK es (n.e : Int) o.go one w)) mid (by rw [e_seqT (ds := dI mid) (m' := m) rfl, List.map_map]; rfl)
          (fun one _ => ⟨[some (.wt [.loc d, .loc d]), some (.d (eN n)), some (.d (eO o)), some (.d (eW w)), some (.d (.list (ws.map eW))), some (.d (.tuple (dI o.need))), some (.d (.int o.side)), some (.d (.int o.st)), some (.d (.int o.go)), some (.loc d), some (.loc d), some (.d (eW mid)), some (.d (.int one))], rfl, by
            have k3 := e_inK (e := (n.e : Int)) (a := o.go) (s := one) (w := w) hd
            unfold eKey at k3
            simp [fVar, fC, fNil, fCons, fTup, fLst, fLstN, fBin, fChain_eq, fTb_eq, fAndT, fOrT, fNotT, fAndV_eq, fOrV_eq, fNotV_eq, fIf, fIsN, fNotN, fIsi, fCall, fBi, fRet, fSet, fAsg, fPar, fPar3, fIfS_eq, fThen, fDrop, fNext, fSt, startR, subTy, kBl, mkT, i0, k3]⟩) (by have := hw mid hm; omega)
        have ha := e_all2 (fun one => hasK es (n.e : Int) o.go one w) mid m
        cases h1 : hasK es o.side 0 o.st mid with
        | false =>
          refine ⟨fun z => (by simp at z), fun _ => ⟨_, ?_, some (.d (eW mid)), rfl⟩⟩
          rw [h1] at k2
          simp [fVar, fC, fNil, fCons, fTup, fLst, fLstN, fBin, fChain_eq, fTb_eq, fAndT, fOrT, fNotT, fAndV_eq, fOrV_eq, fNotV_eq, fIf, fIsN, fNotN, fIsi, fCall, fBi, fRet, fSet, fAsg, fPar, fPar3, fIfS_eq, fThen, fDrop, fNext, fSt, startR, subTy, kBl, mkT, k2]
        | true =>
          rw [h1] at k2
          cases h2 : (mid.all fun one => hasK es (n.e : Int) o.go one w) with
          | false =>
            refine ⟨fun z => (by simp at z), fun _ => ⟨_, ?_, some (.d (eW mid)), rfl⟩⟩
            rw [h2] at ha
            simp [fVar, fC, fNil, fCons, fTup, fLst, fLstN, fBin, fChain_eq, fTb_eq, fAndT, fOrT, fNotT, fAndV_eq, fOrV_eq, fNotV_eq, fIf, fIsN, fNotN, fIsi, fCall, fBi, fRet, fSet, fAsg, fPar, fPar3, fIfS_eq, fThen, fDrop, fNext, fSt, startR, subTy, kBl, mkT, k2, hc, ha]
          | true =>
            refine ⟨fun _ => ?_, fun z => (by simp at z)⟩
            rw [h2] at ha
            simp [fVar, fC, fNil, fCons, fTup, fLst, fLstN, fBin, fChain_eq, fTb_eq, fAndT, fOrT, fNotT, fAndV_eq, fOrV_eq, fNotV_eq, fIf, fIsN, fNotN, fIsi, fCall, fBi, fRet, fSet, fAsg, fPar, fPar3, fIfS_eq, fThen, fDrop, fNext, fSt, startR, subTy, kBl, mkT, k2, hc, ha])
    have hs := e_seqL (f := fVar 4) (r := [some (.wt [.loc d, .loc d]), some (.d (eN n)), some (.d (eO o)), some (.d (eW w)), some (.d (.list (ws.map eW))), some (.d (.tuple (dI o.need))), some (.d (.int o.side)), some (.d (.int o.st)), some (.d (.int o.go)), some (.loc d), some (.loc d), none, none]) (m := m) (m' := m) (ds := ws.map eW) rfl
    rw [List.map_map] at hs
    refine k_then (r1 := [some (.wt [.loc d, .loc d]), some (.d (eN n)), some (.d (eO o)), some (.d (eW w)), some (.d (.list (ws.map eW))), some (.d (.tuple (dI o.need))), some (.d (.int o.side)), some (.d (.int o.st)), some (.d (.int o.go)), some (.loc d), some (.loc d), none, none]) (m1 := m) (by simp [fVar, fC, fNil, fCons, fTup, fLst, fLstN, fBin, fChain_eq, fTb_eq, fAndT, fOrT, fNotT, fAndV_eq, fOrV_eq, fNotV_eq, fIf, fIsN, fNotN, fIsi, fCall, fBi, fRet, fSet, fAsg, fPar, fPar3, fIfS_eq, fThen, fDrop, fNext, fSt, startR, subTy, kBl, mkT, c]) ?_
    cases hp : (ws.any fun mid => hasK es o.side 0 o.st mid && mid.all fun one => hasK es (n.e : Int) o.go one w) with
    | true =>
      have := k_for hs (f1 hp)
      unfold fThen
      rw [this]
      rfl
    | false =>
      obtain ⟨r', e'⟩ := f2 hp
      exact k_then (k_for hs e'.1) rfl
end Wy

set_option Elab.async false
set_option linter.all false
set_option maxRecDepth 100000
set_option maxHeartbeats 4000000
/-! M13: the law's word for one option. -/
namespace Wy
open PySem PySem.Spec PyProof.Rows L2 PySem.W
theorem k_thenR {f g : FS} {r : Rh} {m m1 : Mu} {k : Bool} {w : W} (h : f r m = .ret k w m1) : fThen f g r m = .ret k w m1 := by
  unfold fThen
  rw [h, then_ret]
theorem shapedL (ns : List Int) : SeqAt.shaped (.list (dI ns)) = true := by
  unfold SeqAt.shaped
  simp [PyData.canLay0, PyData.depth, depth_intsD, lay_ints]
theorem e_eqNil {ns : List Int} {m : Mu} : gEq (.d (.list (dI ns))) (.d (.list [])) m = .ok (.d (.bool ns.isEmpty)) m := by
  have h : okEq (.list (dI ns)) (.list []) = true := by
    unfold okEq
    rw [shapedL]
    rfl
  show (if okEq (.list (dI ns)) (.list []) = true then kBl (PyData.eqv (.list (dI ns)) (.list [])) m else .bad) = _
  rw [if_pos h]
  cases ns <;> rfl
theorem optW_alt (es : Es) (e : Int) (o : Opt) (w : List Int) (ws : List (List Int)) : (ws.any fun mid => hasK es o.side 0 o.st mid && mid.all fun one => hasK es e o.go one w) = ws.any fun mid => (mid.filter fun one => !hasK es e o.go one w).isEmpty && hasK es o.side 0 o.st mid := by
  congr 1
  funext mid
  rw [Bool.and_comm]
  congr 1
  induction mid with
  | nil => rfl
  | cons x mid ih =>
    rw [List.all_cons, List.filter_cons]
    cases hasK es e o.go x w with
    | true => simpa using ih
    | false => rfl
theorem v_behind {es : Es} {d : Nat} {n : Nd} {o : Opt} {w : List Int} {ws : List (List Int)} {m : Mu} {hh : PyData} (hd : m[d]? = some (.dct es)) (hw : ∀ x ∈ ws, x.length ≤ 1000) :
    f__law_behind [.d hh, .loc d, .loc d, .d (eN n), .d (eO o), .d (eW w), .d (.list (ws.map eW))] m = .ok (.d (.bool (optW es (n.e : Int) o w ws))) m := by
  refine fnF_ret ?_
  unfold b__law_behind
  have i0 : gIx (.d (eN n)) (.d (.int 0)) m = .ok (.d (.int (n.e : Int))) m := tup0
  have p1 : fAsg (.tp [.nm 7, .nm 8, .nm 9, .nm 10]) (fVar 4) (startR 15 [.d hh, .loc d, .loc d, .d (eN n), .d (eO o), .d (eW w), .d (.list (ws.map eW))]) m = .next [some (.d hh), some (.loc d), some (.loc d), some (.d (eN n)), some (.d (eO o)), some (.d (eW w)), some (.d (.list (ws.map eW))), some (.d (.tuple (dI o.need))), some (.d (.int o.side)), some (.d (.int o.st)), some (.d (.int o.go)), none, none, none, none] m := rfl
  refine k_then p1 (k_then (k_set (k_bin (k_var rfl) rfl i0)) ?_)
  have k1 := e_inK (e := (n.e : Int)) (a := o.go) (s := o.st) (w := w) hd
  unfold eKey at k1
  by_cases c : o.side < 0
  · unfold optW
    rw [decide_eq_true c]
    simp [fVar, fC, fNil, fCons, fTup, fLst, fLstN, fBin, fChain_eq, fTb_eq, fAndT, fOrT, fNotT, fAndV_eq, fOrV_eq, fNotV_eq, fIf, fIsN, fNotN, fIsi, fCall, fBi, fRet, fSet, fAsg, fPar, fPar3, fIfS_eq, fThen, fDrop, fNext, fSt, startR, subTy, kBl, mkT, c, k1]
  · unfold optW
    rw [decide_eq_false c, optW_alt]
    obtain ⟨f1, f2⟩ := for_find (pt := .nm 12) (m := m) (k := false) (w := .d (.bool true)) (fb := (fThen (fSet 13 (fComp (fSeq (fVar 12)) (.nm 14) [14] (fTb (fBin gNotIn (fTup (fCons (fVar 11) (fCons (fVar 10) (fCons (fVar 14) (fCons (fVar 5) fNil))))) (fVar 1))) (fVar 14)))
  (fIfS (fAndT (fTb (fBin gEq (fVar 13) (fLst fNil))) (fTb (fBin gIn (fTup (fCons (fVar 8) (fCons (fC (.int 0)) (fCons (fVar 9) (fCons (fVar 12) fNil))))) (fVar 2)))) (fRet false (fC (.bool true))) fNext)))
      (fun mid => W.d (eW mid)) (fun mid => (mid.filter fun one => !hasK es (n.e : Int) o.go one w).isEmpty && hasK es o.side 0 o.st mid)
      (fun r => ∃ x12 x13, r = [some (.d hh), some (.loc d), some (.loc d), some (.d (eN n)), some (.d (eO o)), some (.d (eW w)), some (.d (.list (ws.map eW))), some (.d (.tuple (dI o.need))), some (.d (.int o.side)), some (.d (.int o.st)), some (.d (.int o.go)), some (.d (.int (n.e : Int))), x12, x13, none])
      ws [some (.d hh), some (.loc d), some (.loc d), some (.d (eN n)), some (.d (eO o)), some (.d (eW w)), some (.d (.list (ws.map eW))), some (.d (.tuple (dI o.need))), some (.d (.int o.side)), some (.d (.int o.st)), some (.d (.int o.go)), some (.d (.int (n.e : Int))), none, none, none] ⟨none, none, rfl⟩
      (fun mid hm r ⟨x12, x13, er⟩ => by
        subst er
        refine ⟨_, rfl, ?_⟩
        have k2 := e_inK (e := o.side) (a := 0) (s := o.st) (w := mid) hd
        unfold eKey at k2
        have hc := e_comp (fi := fSeq (fVar 12)) (pt := .nm 14) (vs := [14]) (ft := fTb (fBin gNotIn (fTup (fCons (fVar 11) (fCons (fVar 10) (fCons (fVar 14) (fCons (fVar 5) fNil))))) (fVar 1))) (fe := fVar 14) (m := m) (m1 := m)
          (r := [some (.d hh), some (.loc d), some (.loc d), some (.d (eN n)), some (.d (eO o)), some (.d (eW w)), some (.d (.list (ws.map eW))), some (.d (.tuple (dI o.need))), some (.d (.int o.side)), some (.d (.int o.st)), some (.d (.int o.go)), some (.d (.int (n.e : Int))), some (.d (eW mid)), x13, none])
          (fun i : Int => W.d (.int i)) (fun one => !hasK es (n.e : Int) o.go one w) (fun one => .int one) mid (by rw [e_seqT (ds := dI mid) (m' := m) rfl, List.map_map]; rfl)
          (fun one _ => ⟨[some (.d hh), some (.loc d), some (.loc d), some (.d (eN n)), some (.d (eO o)), some (.d (eW w)), some (.d (.list (ws.map eW))), some (.d (.tuple (dI o.need))), some (.d (.int o.side)), some (.d (.int o.st)), some (.d (.int o.go)), some (.d (.int (n.e : Int))), some (.d (eW mid)), x13, some (.d (.int one))], rfl, by
            have k3 := e_ninK (e := (n.e : Int)) (a := o.go) (s := one) (w := w) hd
            unfold eKey at k3
            simp [fVar, fC, fNil, fCons, fTup, fLst, fLstN, fBin, fChain_eq, fTb_eq, fAndT, fOrT, fNotT, fAndV_eq, fOrV_eq, fNotV_eq, fIf, fIsN, fNotN, fIsi, fCall, fBi, fRet, fSet, fAsg, fPar, fPar3, fIfS_eq, fThen, fDrop, fNext, fSt, startR, subTy, kBl, mkT, k3], fun _ => rfl⟩) (by have := hw mid hm; omega)
        have hq := e_eqNil (ns := mid.filter fun one => !hasK es (n.e : Int) o.go one w) (m := m)
        generalize (mid.filter fun one => !hasK es (n.e : Int) o.go one w) = rest at hc hq ⊢
        have s1 := k_set (i := 13) hc
        cases h2 : rest.isEmpty with
        | false =>
          refine ⟨fun z => (by simp at z), fun _ => ⟨_, k_then s1 ?_, some (.d (eW mid)), some (.d (.list (rest.map fun one => .int one))), rfl⟩⟩
          rw [h2] at hq
          simp [fVar, fC, fNil, fCons, fTup, fLst, fLstN, fBin, fChain_eq, fTb_eq, fAndT, fOrT, fNotT, fAndV_eq, fOrV_eq, fNotV_eq, fIf, fIsN, fNotN, fIsi, fCall, fBi, fRet, fSet, fAsg, fPar, fPar3, fIfS_eq, fThen, fDrop, fNext, fSt, startR, subTy, kBl, mkT, hq]
        | true =>
          rw [h2] at hq
          cases h1 : hasK es o.side 0 o.st mid with
          | false =>
            refine ⟨fun z => (by simp at z), fun _ => ⟨_, k_then s1 ?_, some (.d (eW mid)), some (.d (.list (rest.map fun one => .int one))), rfl⟩⟩
            rw [h1] at k2
            simp [fVar, fC, fNil, fCons, fTup, fLst, fLstN, fBin, fChain_eq, fTb_eq, fAndT, fOrT, fNotT, fAndV_eq, fOrV_eq, fNotV_eq, fIf, fIsN, fNotN, fIsi, fCall, fBi, fRet, fSet, fAsg, fPar, fPar3, fIfS_eq, fThen, fDrop, fNext, fSt, startR, subTy, kBl, mkT, hq, k2]
          | true =>
            refine ⟨fun _ => k_then s1 ?_, fun z => (by simp at z)⟩
            rw [h1] at k2
            simp [fVar, fC, fNil, fCons, fTup, fLst, fLstN, fBin, fChain_eq, fTb_eq, fAndT, fOrT, fNotT, fAndV_eq, fOrV_eq, fNotV_eq, fIf, fIsN, fNotN, fIsi, fCall, fBi, fRet, fSet, fAsg, fPar, fPar3, fIfS_eq, fThen, fDrop, fNext, fSt, startR, subTy, kBl, mkT, hq, k2])
    have hs := e_seqL (f := fVar 6) (r := [some (.d hh), some (.loc d), some (.loc d), some (.d (eN n)), some (.d (eO o)), some (.d (eW w)), some (.d (.list (ws.map eW))), some (.d (.tuple (dI o.need))), some (.d (.int o.side)), some (.d (.int o.st)), some (.d (.int o.go)), some (.d (.int (n.e : Int))), none, none, none]) (m := m) (m' := m) (ds := ws.map eW) rfl
    rw [List.map_map] at hs
    refine k_then (r1 := [some (.d hh), some (.loc d), some (.loc d), some (.d (eN n)), some (.d (eO o)), some (.d (eW w)), some (.d (.list (ws.map eW))), some (.d (.tuple (dI o.need))), some (.d (.int o.side)), some (.d (.int o.st)), some (.d (.int o.go)), some (.d (.int (n.e : Int))), none, none, none]) (m1 := m) (by simp [fVar, fC, fNil, fCons, fTup, fLst, fLstN, fBin, fChain_eq, fTb_eq, fAndT, fOrT, fNotT, fAndV_eq, fOrV_eq, fNotV_eq, fIf, fIsN, fNotN, fIsi, fCall, fBi, fRet, fSet, fAsg, fPar, fPar3, fIfS_eq, fThen, fDrop, fNext, fSt, startR, subTy, kBl, mkT, c]) ?_
    cases hp : (ws.any fun mid => (mid.filter fun one => !hasK es (n.e : Int) o.go one w).isEmpty && hasK es o.side 0 o.st mid) with
    | true =>
      exact k_thenR (k_for hs (f1 hp))
    | false =>
      obtain ⟨r', e'⟩ := f2 hp
      exact k_then (k_for hs e'.1) rfl
end Wy

set_option Elab.async false
set_option linter.all false
set_option maxRecDepth 100000
set_option maxHeartbeats 4000000
/-! M14: a node wins: the program's word, the law's word. -/
namespace Wy
open PySem PySem.Spec PyProof.Rows L2 PySem.W
/-- the options that are open at the node -/
def opn (l : Ln) (n : Nd) : List Opt := l.opts.filter fun o => hasI o.need (n.s : Int)
def nodeW (es : Es) (ls : List Ln) (n : Nd) (w : List Int) (ws : List (List Int)) : Bool := match ls[n.a]? with
  | none => hasI w (n.s : Int)
  | some l => bif l.me then (opn l n).any fun o => optW es (n.e : Int) o w ws else !(opn l n).isEmpty && (opn l n).all fun o => optW es (n.e : Int) o w ws
theorem e_who {b : Bool} {m : Mu} : gEq (.d (whoD b)) (.d (.str "me")) m = .ok (.d (.bool b)) m := by
  cases b <;> kernel_rfl
theorem v_chooser {h : Hs} {n : Nd} {ls : List Ln} {l : Ln} (he : h.es[n.e]? = some ls) (ha : ls[n.a]? = some l) (m : Mu) : f_chooser [.d (eH h), .d (eN n)] m = .ok (.d (whoD l.me)) m := by
  obtain ⟨i1, i2, i3, _, i5⟩ := e_house he ha m
  have l1 : gLen [.d (eE ls)] m = .ok (.d (.int ls.length)) m := by
    unfold eE
    rw [len_tup, List.length_map]
  have hlt : n.a < ls.length := (List.getElem?_eq_some_iff.mp ha).1
  refine fnF_ret ?_
  unfold b_chooser
  have hp : fAsg (.tp [.nm 2, .nm 3, .nm 4]) (fVar 1) (startR 5 [.d (eH h), .d (eN n)]) m = .next [some (.d (eH h)), some (.d (eN n)), some (.d (.int (n.e : Int))), some (.d (.int (n.a : Int))), some (.d (.int (n.s : Int)))] m := rfl
  refine k_then hp ?_
  simp [fVar, fC, fNil, fCons, fTup, fLst, fLstN, fBin, fChain_eq, fTb_eq, fAndT, fOrT, fNotT, fAndV_eq, fOrV_eq, fNotV_eq, fIf, fIsN, fNotN, fIsi, fCall, fBi, fRet, fSet, fAsg, fPar, fPar3, fIfS_eq, fThen, fDrop, fNext, fSt, startR, subTy, kBl, mkT, i1, i2, i3, i5, l1, hlt]
theorem shapedB (bs : List Bool) : SeqAt.shaped (.list (bs.map PyData.bool)) = true := by
  have h1 : ∀ bs : List Bool, PyData.depthAll (bs.map PyData.bool) = 0 := by
    intro bs
    induction bs with
    | nil => rfl
    | cons b bs ih => rw [List.map_cons, PyData.depthAll, ih]; rfl
  have h2 : ∀ bs : List Bool, PyData.canLayAll0 (bs.map PyData.bool) = true := by
    intro bs
    induction bs with
    | nil => rfl
    | cons b bs ih => rw [List.map_cons, PyData.canLayAll0, ih]; rfl
  unfold SeqAt.shaped
  simp [PyData.canLay0, PyData.depth, h1, h2]
theorem e_neNil {β : Type} {f : β → Bool} {xs : List β} {m : Mu} : gNe (.d (.list (xs.map fun x => .bool (f x)))) (.d (.list [])) m = .ok (.d (.bool (!xs.isEmpty))) m := by
  have e : (xs.map fun x => PyData.bool (f x)) = (xs.map f).map PyData.bool := by rw [List.map_map]; rfl
  rw [e]
  have h : okEq (.list ((xs.map f).map PyData.bool)) (.list []) = true := by
    unfold okEq
    rw [shapedB]
    rfl
  show (if okEq (.list ((xs.map f).map PyData.bool)) (.list []) = true then kBl (!PyData.eqv (.list ((xs.map f).map PyData.bool)) (.list [])) m else .bad) = _
  rw [if_pos h]
  cases xs <;> rfl
theorem v_node_wins {es : Es} {d : Nat} {h : Hs} {n : Nd} {ls : List Ln} {w : List Int} {ws : List (List Int)} {m : Mu} (hd : m[d]? = some (.dct es)) (hw : ∀ x ∈ ws, x.length ≤ 1000) (he : h.es[n.e]? = some ls) (ha : n.a ≤ ls.length) (hf : ∀ l ∈ ls, l.opts.length ≤ 1000) :
    f_node_wins [.d (eH h), .wt [.loc d, .loc d], .d (eN n), .d (eW w), .d (.list (ws.map eW))] m = .ok (.d (.bool (nodeW es ls n w ws))) m := by
  have i1 : gIx (.d (eH h)) (.d (.int 1)) m = .ok (.d (.tuple (h.es.map eE))) m := tup1
  have i2 : gIx (.d (.tuple (h.es.map eE))) (.d (.int (n.e : Int))) m = .ok (.d (eE ls)) m := ix_tup (atN (by simp [he]))
  have n0 : gIx (.d (eN n)) (.d (.int 0)) m = .ok (.d (.int (n.e : Int))) m := tup0
  have n1 : gIx (.d (eN n)) (.d (.int 1)) m = .ok (.d (.int (n.a : Int))) m := tup1
  have n2 : gIx (.d (eN n)) (.d (.int 2)) m = .ok (.d (.int (n.s : Int))) m := tup2
  have l1 : gLen [.d (eE ls)] m = .ok (.d (.int ls.length)) m := by
    unfold eE
    rw [len_tup, List.length_map]
  have ho := v_options_at he ha hf m
  refine fnF_ret ?_
  unfold b_node_wins nodeW
  by_cases c : n.a = ls.length
  · rw [List.getElem?_eq_none (by omega)]
    have hin : gIn (.d (.int (n.s : Int))) (.d (eW w)) m = .ok (.d (.bool (hasI w (n.s : Int)))) m := e_inI
    simp [fVar, fC, fNil, fCons, fTup, fLst, fLstN, fBin, fChain_eq, fTb_eq, fAndT, fOrT, fNotT, fAndV_eq, fOrV_eq, fNotV_eq, fIf, fIsN, fNotN, fIsi, fCall, fBi, fRet, fSet, fAsg, fPar, fPar3, fIfS_eq, fThen, fDrop, fNext, fSt, startR, subTy, kBl, mkT, i1, i2, n0, n1, n2, l1, c, hin]
  · have hlt : n.a < ls.length := by omega
    have ha' : ls[n.a]? = some ls[n.a] := by simp [hlt]
    rw [ha'] at ho ⊢
    generalize ls[n.a] = l at ha' ho
    have hch := v_chooser he ha' m
    have hc := e_compA (fi := fSeq (fCall 2 f_options_at (fCons (fVar 0) (fCons (fVar 2) fNil)))) (pt := .nm 6) (vs := [6]) (fe := fCall 5 f_option_wins (fCons (fVar 1) (fCons (fVar 2) (fCons (fVar 6) (fCons (fVar 3) (fCons (fVar 4) fNil)))))) (m := m) (m1 := m)
      (r := [some (.d (eH h)), some (.wt [.loc d, .loc d]), some (.d (eN n)), some (.d (eW w)), some (.d (.list (ws.map eW))), none, none]) (fun o : Opt => W.d (eO o)) (fun o => .bool (optW es (n.e : Int) o w ws)) (opn l n) (by
        rw [e_seqL (m' := m) (ds := (opn l n).map eO) (by unfold fCall fCons; simp [fVar, fNil, ho, opn]), List.map_map]
        rfl)
      (fun o ho' => ⟨[some (.d (eH h)), some (.wt [.loc d, .loc d]), some (.d (eN n)), some (.d (eW w)), some (.d (.list (ws.map eW))), none, some (.d (eO o))], rfl, by
        have := v_option_wins (n := n) (o := o) (w := w) hd hw
        simp [fVar, fC, fNil, fCons, fTup, fLst, fLstN, fBin, fChain_eq, fTb_eq, fAndT, fOrT, fNotT, fAndV_eq, fOrV_eq, fNotV_eq, fIf, fIsN, fNotN, fIsi, fCall, fBi, fRet, fSet, fAsg, fPar, fPar3, fIfS_eq, fThen, fDrop, fNext, fSt, startR, subTy, kBl, mkT, this]⟩) (by
          have h1 := List.length_filter_le (fun o : Opt => hasI o.need (n.s : Int)) l.opts
          have h2 := hf l (List.mem_of_getElem? ha')
          unfold opn
          omega)
    have c' : ((n.a : Int) == (ls.length : Int)) = false := by
      rw [beq_eq_false_iff_ne]
      omega
    have a1 := e_any (fun o => optW es (n.e : Int) o w ws) (opn l n) m
    have a2 := e_all2 (fun o => optW es (n.e : Int) o w ws) (opn l n) m
    have a3 := e_neNil (f := fun o => optW es (n.e : Int) o w ws) (xs := opn l n) (m := m)
    refine k_then (r1 := [some (.d (eH h)), some (.wt [.loc d, .loc d]), some (.d (eN n)), some (.d (eW w)), some (.d (.list (ws.map eW))), none, none]) (m1 := m) (by simp [fVar, fC, fNil, fCons, fTup, fLst, fLstN, fBin, fChain_eq, fTb_eq, fAndT, fOrT, fNotT, fAndV_eq, fOrV_eq, fNotV_eq, fIf, fIsN, fNotN, fIsi, fCall, fBi, fRet, fSet, fAsg, fPar, fPar3, fIfS_eq, fThen, fDrop, fNext, fSt, startR, subTy, kBl, mkT, i1, i2, n0, n1, l1, c']) ?_
    refine k_then (k_set hc) ?_
    generalize ((opn l n).map fun o => PyData.bool (optW es (n.e : Int) o w ws)) = rows at a1 a2 a3
    cases hme : l.me with
    | true =>
      rw [hme] at hch
      simp [fVar, fC, fNil, fCons, fTup, fLst, fLstN, fBin, fChain_eq, fTb_eq, fAndT, fOrT, fNotT, fAndV_eq, fOrV_eq, fNotV_eq, fIf, fIsN, fNotN, fIsi, fCall, fBi, fRet, fSet, fAsg, fPar, fPar3, fIfS_eq, fThen, fDrop, fNext, fSt, startR, subTy, kBl, mkT, hch, e_who, a1, hme]
    | false =>
      rw [hme] at hch
      show _ = SR.ret false (W.d (PyData.bool (bif l.me then _ else _))) m
      rw [hme]
      generalize (opn l n).isEmpty = b at a3 ⊢
      generalize ((opn l n).all fun o => optW es (n.e : Int) o w ws) = b2 at a2 ⊢
      rw [cond_false]
      cases b <;> simp [fVar, fC, fNil, fCons, fTup, fLst, fLstN, fBin, fChain_eq, fTb_eq, fAndT, fOrT, fNotT, fAndV_eq, fOrV_eq, fNotV_eq, fIf, fIsN, fNotN, fIsi, fCall, fBi, fRet, fSet, fAsg, fPar, fPar3, fIfS_eq, fThen, fDrop, fNext, fSt, startR, subTy, kBl, mkT, hch, e_who, a2, a3]
end Wy

set_option Elab.async false
set_option linter.all false
set_option maxRecDepth 100000
set_option maxHeartbeats 4000000
/-! M15: the law's word for a node. -/
namespace Wy
open PySem PySem.Spec PyProof.Rows L2 PySem.W
theorem v_lopen {h : Hs} {n : Nd} {ls : List Ln} {l : Ln} (he : h.es[n.e]? = some ls) (ha : ls[n.a]? = some l) (hf : l.opts.length ≤ 1000) (m : Mu) :
    f__law_open [.d (eH h), .d (.int (n.e : Int)), .d (.int (n.a : Int)), .d (.int (n.s : Int))] m = .ok (.d (.list ((l.opts.zipIdx.filter fun q => hasI q.1.need (n.s : Int)).map fun q => .int (q.2 : Int)))) m := by
  obtain ⟨i1, i2, i3, i4, _⟩ := e_house he ha m
  have l1 : gLen [.d (eE ls)] m = .ok (.d (.int ls.length)) m := by
    unfold eE
    rw [len_tup, List.length_map]
  have hlt : n.a < ls.length := (List.getElem?_eq_some_iff.mp ha).1
  have c' : ((n.a : Int) == (ls.length : Int)) = false := by
    rw [beq_eq_false_iff_ne]
    omega
  have hr := rng1 (f := fBi gLen (fCons (fVar 4) fNil)) (r := [some (.d (eH h)), some (.d (.int (n.e : Int))), some (.d (.int (n.a : Int))), some (.d (.int (n.s : Int))), some (.d (.tuple (l.opts.map eO))), none]) (m := m) (m' := m) (k := (l.opts.length : Int)) (by simp [fVar, fC, fNil, fCons, fTup, fLst, fLstN, fBin, fChain_eq, fTb_eq, fAndT, fOrT, fNotT, fAndV_eq, fOrV_eq, fNotV_eq, fIf, fIsN, fNotN, fIsi, fCall, fBi, fRet, fSet, fAsg, fPar, fPar3, fIfS_eq, fThen, fDrop, fNext, fSt, startR, subTy, kBl, mkT, ]) (by omega) (by omega)
  rw [show ((l.opts.length : Int)).toNat = l.opts.length by omega, range_zipIdx] at hr
  have hc := e_comp (pt := .nm 5) (vs := [5]) (ft := fTb (fBin gIn (fVar 3) (fBin gIx (fBin gIx (fVar 4) (fVar 5)) (fC (.int 0))))) (fe := fVar 5) (m := m) (m1 := m) (fun q : Opt × Nat => W.d (.int (q.2 : Int))) (fun q => hasI q.1.need (n.s : Int)) (fun q => .int (q.2 : Int)) l.opts.zipIdx hr
    (fun q hq => ⟨[some (.d (eH h)), some (.d (.int (n.e : Int))), some (.d (.int (n.a : Int))), some (.d (.int (n.s : Int))), some (.d (.tuple (l.opts.map eO))), some (.d (.int (q.2 : Int)))], rfl, by
      have i0 : gIx (.d (eO q.1)) (.d (.int 0)) m = .ok (.d (.tuple (dI q.1.need))) m := tup0
      have i5 : gIx (.d (.tuple (l.opts.map eO))) (.d (.int (q.2 : Int))) m = .ok (.d (eO q.1)) m := ix_tup (atN (by simp [at_zipIdx hq]))
      simp [fVar, fC, fNil, fCons, fTup, fLst, fLstN, fBin, fChain_eq, fTb_eq, fAndT, fOrT, fNotT, fAndV_eq, fOrV_eq, fNotV_eq, fIf, fIsN, fNotN, fIsi, fCall, fBi, fRet, fSet, fAsg, fPar, fPar3, fIfS_eq, fThen, fDrop, fNext, fSt, startR, subTy, kBl, mkT, i0, i5, e_inI], fun _ => rfl⟩) (by simp; omega)
  refine fnF_ret ?_
  unfold b__law_open
  refine k_then (r1 := [some (.d (eH h)), some (.d (.int (n.e : Int))), some (.d (.int (n.a : Int))), some (.d (.int (n.s : Int))), none, none]) (m1 := m) (by simp [fVar, fC, fNil, fCons, fTup, fLst, fLstN, fBin, fChain_eq, fTb_eq, fAndT, fOrT, fNotT, fAndV_eq, fOrV_eq, fNotV_eq, fIf, fIsN, fNotN, fIsi, fCall, fBi, fRet, fSet, fAsg, fPar, fPar3, fIfS_eq, fThen, fDrop, fNext, fSt, startR, subTy, kBl, mkT, i1, i2, l1, c']) ?_
  refine k_then (r1 := [some (.d (eH h)), some (.d (.int (n.e : Int))), some (.d (.int (n.a : Int))), some (.d (.int (n.s : Int))), some (.d (.tuple (l.opts.map eO))), none]) (m1 := m) (by simp [fVar, fC, fNil, fCons, fTup, fLst, fLstN, fBin, fChain_eq, fTb_eq, fAndT, fOrT, fNotT, fAndV_eq, fOrV_eq, fNotV_eq, fIf, fIsN, fNotN, fIsi, fCall, fBi, fRet, fSet, fAsg, fPar, fPar3, fIfS_eq, fThen, fDrop, fNext, fSt, startR, subTy, kBl, mkT, i1, i2, i3, i4]) ?_
  unfold fRet
  rw [hc]
  rfl
theorem open_zip (n : Nd) : ∀ (os : List Opt) (k : Nat), ((os.zipIdx k).filter fun q => hasI q.1.need (n.s : Int)).map (·.1) = os.filter fun o => hasI o.need (n.s : Int)
  | [], _ => rfl
  | o :: os, k => by
    rw [List.zipIdx_cons, List.filter_cons, List.filter_cons]
    by_cases z : hasI o.need (n.s : Int) = true
    · rw [if_pos z, if_pos z, List.map_cons, open_zip n os]
    · rw [if_neg z, if_neg z, open_zip n os]
/-- how many of os win -/
def good (p : Opt → Bool) (os : List Opt) : Nat := (os.filter p).length
theorem good_any (p : Opt → Bool) (os : List Opt) : decide (0 < (good p os : Int)) = os.any p := by
  induction os with
  | nil => rfl
  | cons o os ih =>
    unfold good at *
    rw [List.any_cons, List.filter_cons]
    cases p o with
    | true => simp
    | false => simpa using ih
theorem good_all (p : Opt → Bool) (os : List Opt) : ((good p os : Int) == (os.length : Int)) = os.all p := by
  induction os with
  | nil => rfl
  | cons o os ih =>
    unfold good at *
    have hle := List.length_filter_le p os
    rw [List.all_cons, List.filter_cons]
    cases p o with
    | true =>
      rw [Bool.true_and, ← ih, if_pos rfl, List.length_cons, List.length_cons]
      rw [Bool.eq_iff_iff, beq_iff_eq, beq_iff_eq]
      omega
    | false =>
      rw [Bool.false_and, if_neg (by simp), List.length_cons, beq_eq_false_iff_ne]
      omega
theorem any_all (p : Opt → Bool) (os : List Opt) : (os.any p && os.all p) = (!os.isEmpty && os.all p) := by
  cases os with
  | nil => rfl
  | cons o os =>
    rw [List.any_cons, List.all_cons]
    cases p o <;> simp
theorem v_is_sure {es : Es} {d : Nat} {h : Hs} {n : Nd} {ls : List Ln} {w : List Int} {ws : List (List Int)} {m : Mu} (hd : m[d]? = some (.dct es)) (hw : ∀ x ∈ ws, x.length ≤ 1000) (he : h.es[n.e]? = some ls) (ha : n.a ≤ ls.length) (hf : ∀ l ∈ ls, l.opts.length ≤ 1000) :
    f__law_is_sure [.d (eH h), .loc d, .loc d, .d (eN n), .d (eW w), .d (.list (ws.map eW))] m = .ok (.d (.bool (nodeW es ls n w ws))) m := by
  have i1 : gIx (.d (eH h)) (.d (.int 1)) m = .ok (.d (.tuple (h.es.map eE))) m := tup1
  have i2 : gIx (.d (.tuple (h.es.map eE))) (.d (.int (n.e : Int))) m = .ok (.d (eE ls)) m := ix_tup (atN (by simp [he]))
  have l1 : gLen [.d (eE ls)] m = .ok (.d (.int ls.length)) m := by
    unfold eE
    rw [len_tup, List.length_map]
  refine fnF_ret ?_
  unfold b__law_is_sure nodeW
  have p1 : fAsg (.tp [.nm 6, .nm 7, .nm 8]) (fVar 3) (startR 14 [.d (eH h), .loc d, .loc d, .d (eN n), .d (eW w), .d (.list (ws.map eW))]) m = .next [some (.d (eH h)), some (.loc d), some (.loc d), some (.d (eN n)), some (.d (eW w)), some (.d (.list (ws.map eW))), some (.d (.int (n.e : Int))), some (.d (.int (n.a : Int))), some (.d (.int (n.s : Int))), none, none, none, none, none] m := rfl
  refine k_then p1 ?_
  by_cases c : n.a = ls.length
  · rw [List.getElem?_eq_none (by omega)]
    have hin : gIn (.d (.int (n.s : Int))) (.d (eW w)) m = .ok (.d (.bool (hasI w (n.s : Int)))) m := e_inI
    refine k_thenR (k := false) (m1 := m) ?_
    simp [fVar, fC, fNil, fCons, fTup, fLst, fLstN, fBin, fChain_eq, fTb_eq, fAndT, fOrT, fNotT, fAndV_eq, fOrV_eq, fNotV_eq, fIf, fIsN, fNotN, fIsi, fCall, fBi, fRet, fSet, fAsg, fPar, fPar3, fIfS_eq, fThen, fDrop, fNext, fSt, startR, subTy, kBl, mkT, i1, i2, l1, c, hin]
  · have hlt : n.a < ls.length := by omega
    have ha' : ls[n.a]? = some ls[n.a] := by simp [hlt]
    rw [ha']
    generalize ls[n.a] = l at ha'
    have hfl := hf l (List.mem_of_getElem? ha')
    obtain ⟨_, _, i3, i4, i5⟩ := e_house he ha' m
    have c' : ((n.a : Int) == (ls.length : Int)) = false := by
      rw [beq_eq_false_iff_ne]
      omega
    have ho := v_lopen he ha' hfl m
    refine k_then (r1 := [some (.d (eH h)), some (.loc d), some (.loc d), some (.d (eN n)), some (.d (eW w)), some (.d (.list (ws.map eW))), some (.d (.int (n.e : Int))), some (.d (.int (n.a : Int))), some (.d (.int (n.s : Int))), none, none, none, none, none]) (m1 := m) (by simp [fVar, fC, fNil, fCons, fTup, fLst, fLstN, fBin, fChain_eq, fTb_eq, fAndT, fOrT, fNotT, fAndV_eq, fOrV_eq, fNotV_eq, fIf, fIsN, fNotN, fIsi, fCall, fBi, fRet, fSet, fAsg, fPar, fPar3, fIfS_eq, fThen, fDrop, fNext, fSt, startR, subTy, kBl, mkT, i1, i2, l1, c']) ?_
    have hel : fBin gIx (fBin gIx (fBin gIx (fVar 0) (fC (.int 1))) (fVar 6)) (fVar 7) [some (.d (eH h)), some (.loc d), some (.loc d), some (.d (eN n)), some (.d (eW w)), some (.d (.list (ws.map eW))), some (.d (.int (n.e : Int))), some (.d (.int (n.a : Int))), some (.d (.int (n.s : Int))), none, none, none, none, none] m = .ok (.d (eL l)) m := by simp [fVar, fC, fNil, fCons, fTup, fLst, fLstN, fBin, fChain_eq, fTb_eq, fAndT, fOrT, fNotT, fAndV_eq, fOrV_eq, fNotV_eq, fIf, fIsN, fNotN, fIsi, fCall, fBi, fRet, fSet, fAsg, fPar, fPar3, fIfS_eq, fThen, fDrop, fNext, fSt, startR, subTy, kBl, mkT, i1, i2, i3]
    refine k_then (r1 := [some (.d (eH h)), some (.loc d), some (.loc d), some (.d (eN n)), some (.d (eW w)), some (.d (.list (ws.map eW))), some (.d (.int (n.e : Int))), some (.d (.int (n.a : Int))), some (.d (.int (n.s : Int))), some (.d (whoD l.me)), some (.d (.tuple (l.opts.map eO))), none, none, none]) (m1 := m) (by unfold fAsg; rw [hel]; rfl) ?_
    refine k_then (r1 := [some (.d (eH h)), some (.loc d), some (.loc d), some (.d (eN n)), some (.d (eW w)), some (.d (.list (ws.map eW))), some (.d (.int (n.e : Int))), some (.d (.int (n.a : Int))), some (.d (.int (n.s : Int))), some (.d (whoD l.me)), some (.d (.tuple (l.opts.map eO))), some (.d (.int 0)), some (.d (.int 0)), none]) (m1 := m) rfl ?_
    obtain ⟨r', m1, hc, done, x13, rfl, hdn, rfl⟩ := for_inv (pt := .nm 13) (fb := (fThen (fSet 12 (fBin gAdd (fVar 12) (fC (.int 1))))
  (fSet 11 (fBin gAdd (fVar 11) (fBi gInt (fCons (fCall 7 f__law_behind (fCons (fVar 0) (fCons (fVar 1) (fCons (fVar 2) (fCons (fVar 3) (fCons (fBin gIx (fVar 10) (fVar 13)) (fCons (fVar 4) (fCons (fVar 5) fNil)))))))) fNil))))))
      (fun q : Opt × Nat => W.d (.int (q.2 : Int)))
      (fun rest r m' => ∃ (done : List (Opt × Nat)) (x13 : Option W), r = [some (.d (eH h)), some (.loc d), some (.loc d), some (.d (eN n)), some (.d (eW w)), some (.d (.list (ws.map eW))), some (.d (.int (n.e : Int))), some (.d (.int (n.a : Int))), some (.d (.int (n.s : Int))), some (.d (whoD l.me)), some (.d (.tuple (l.opts.map eO))),
          some (.d (.int (good (fun o => optW es (n.e : Int) o w ws) (done.map (·.1)) : Int))), some (.d (.int (done.length : Int))), x13] ∧ done ++ rest = (l.opts.zipIdx.filter fun q => hasI q.1.need (n.s : Int)) ∧ m' = m)
      (l.opts.zipIdx.filter fun q => hasI q.1.need (n.s : Int)) _ m ⟨[], none, rfl, rfl, rfl⟩
      (fun q rest r m' ⟨done, x13, er, hdn, em⟩ => by
        subst er em
        refine ⟨_, rfl, ?_⟩
        have hq : q ∈ l.opts.zipIdx := by
          have : q ∈ done ++ q :: rest := by simp
          rw [hdn] at this
          exact (List.mem_filter.mp this).1
        have i6 : gIx (.d (.tuple (l.opts.map eO))) (.d (.int (q.2 : Int))) m' = .ok (.d (eO q.1)) m' := ix_tup (atN (by simp [at_zipIdx hq]))
        have hb := v_behind (n := n) (o := q.1) (w := w) (hh := eH h) hd hw
        have hg : ((good (fun o => optW es (n.e : Int) o w ws) (done.map (·.1)) : Int)) + (if optW es (n.e : Int) q.1 w ws = true then 1 else 0) = (good (fun o => optW es (n.e : Int) o w ws) ((done ++ [q]).map (·.1)) : Int) := by
          unfold good
          rw [List.map_append, List.filter_append, List.length_append]
          cases hz : optW es (n.e : Int) q.1 w ws <;> simp [hz]
        have hi : gInt [.d (.bool (optW es (n.e : Int) q.1 w ws))] m' = .ok (.d (.int (if optW es (n.e : Int) q.1 w ws = true then 1 else 0))) m' := rfl
        refine ⟨_, m', .inl (k_then (k_set (w := .d (.int ((done.length : Int) + 1))) (m1 := m') rfl) (k_set (k_bin (k_var rfl) (b := .d (.int (if optW es (n.e : Int) q.1 w ws = true then 1 else 0))) (m2 := m') ?_ (e_add (m := m'))))), done ++ [q], some (.d (.int (q.2 : Int))), ?_, by rw [← hdn]; simp, rfl⟩
        · simp [fVar, fC, fNil, fCons, fTup, fLst, fLstN, fBin, fChain_eq, fTb_eq, fAndT, fOrT, fNotT, fAndV_eq, fOrV_eq, fNotV_eq, fIf, fIsN, fNotN, fIsi, fCall, fBi, fRet, fSet, fAsg, fPar, fPar3, fIfS_eq, fThen, fDrop, fNext, fSt, startR, subTy, kBl, mkT, i6, hb, hi]
        · rw [hg, List.length_append]
          rfl)
    rw [List.append_nil] at hdn
    have hm1 : done.map (·.1) = opn l n := by rw [hdn]; exact open_zip n l.opts 0
    have hm2 : done.length = (opn l n).length := by rw [← hm1, List.length_map]
    rw [hm1, hm2] at hc
    have hsq := e_seqL (f := fCall 4 f__law_open (fCons (fVar 0) (fCons (fVar 6) (fCons (fVar 7) (fCons (fVar 8) fNil))))) (r := [some (.d (eH h)), some (.loc d), some (.loc d), some (.d (eN n)), some (.d (eW w)), some (.d (.list (ws.map eW))), some (.d (.int (n.e : Int))), some (.d (.int (n.a : Int))), some (.d (.int (n.s : Int))), some (.d (whoD l.me)), some (.d (.tuple (l.opts.map eO))), some (.d (.int 0)), some (.d (.int 0)), none]) (m := m1) (m' := m1)
      (ds := (l.opts.zipIdx.filter fun q => hasI q.1.need (n.s : Int)).map fun q => .int (q.2 : Int)) (by unfold fCall fCons; simp [fVar, fNil, ho])
    rw [List.map_map] at hsq
    refine k_then (k_for hsq hc) ?_
    have ga := good_any (fun o => optW es (n.e : Int) o w ws) (opn l n)
    have gl := good_all (fun o => optW es (n.e : Int) o w ws) (opn l n)
    generalize (good (fun o => optW es (n.e : Int) o w ws) (opn l n) : Int) = g at ga gl ⊢
    have ew := e_who (b := l.me) (m := m1)
    show _ = SR.ret false (W.d (PyData.bool (bif l.me then _ else _))) m1
    cases hme : l.me with
    | true =>
      rw [hme] at ew
      rw [cond_true, ← ga]
      cases hz : decide (0 < g) <;> simp [fVar, fC, fNil, fCons, fTup, fLst, fLstN, fBin, fChain_eq, fTb_eq, fAndT, fOrT, fNotT, fAndV_eq, fOrV_eq, fNotV_eq, fIf, fIsN, fNotN, fIsi, fCall, fBi, fRet, fSet, fAsg, fPar, fPar3, fIfS_eq, fThen, fDrop, fNext, fSt, startR, subTy, kBl, mkT, ew, hz]
    | false =>
      rw [hme] at ew
      rw [cond_false, ← any_all, ← ga, ← gl]
      generalize ((opn l n).length : Int) = k
      cases hz : decide (0 < g) <;> cases hy : (g == k) <;> simp [fVar, fC, fNil, fCons, fTup, fLst, fLstN, fBin, fChain_eq, fTb_eq, fAndT, fOrT, fNotT, fAndV_eq, fOrV_eq, fNotV_eq, fIf, fIsN, fNotN, fIsi, fCall, fBi, fRet, fSet, fAsg, fPar, fPar3, fIfS_eq, fThen, fDrop, fNext, fSt, startR, subTy, kBl, mkT, ew, hz, hy]
end Wy

set_option Elab.async false
set_option linter.all false
set_option maxRecDepth 100000
set_option maxHeartbeats 4000000
/-! M16: rounds. -/
namespace Wy
open PySem PySem.Spec PyProof.Rows L2 PySem.W
abbrev Pr := Nd × List Int
def kv (p : Pr) : PyData × PyData := (eKey (p.1.e : Int) (p.1.a : Int) (p.1.s : Int) p.2, .bool true)
theorem num_injN {a b : Nat} (h : NestedKey.num (a : Int) = NestedKey.num (b : Int)) : a = b := by
  injection h with h
  omega
theorem key_key (e a s : Int) (w : List Int) : keyOf (eKey e a s w) = .tup [.num e, .num a, .num s, .tup (w.map NestedKey.num)] := by
  unfold eKey eW
  simp only [keyOf, keysOf, keys_ints]
theorem kv_inj {p q : Pr} (h : keyOf (kv p).1 = keyOf (kv q).1) : p = q := by
  unfold kv at h
  rw [key_key, key_key] at h
  simp only [NestedKey.tup.injEq, List.cons.injEq, NestedKey.num.injEq, and_true] at h
  obtain ⟨h1, h2, h3, h4⟩ := h
  have h5 := num_inj h4
  obtain ⟨⟨e, a, s⟩, w⟩ := p
  obtain ⟨⟨e', a', s'⟩, w'⟩ := q
  simp only at h1 h2 h3 h5
  have h1' : e = e' := by omega
  have h2' : a = a' := by omega
  have h3' : s = s' := by omega
  subst h1' h2' h3' h5
  rfl
theorem has_kv (ps : List Pr) (p : Pr) : hasK (ps.map kv) (p.1.e : Int) (p.1.a : Int) (p.1.s : Int) p.2 = true ↔ p ∈ ps := by
  unfold hasK dhas
  rw [List.any_map, List.any_eq_true]
  constructor
  · rintro ⟨q, hq, e⟩
    have : keyOf (kv q).1 = keyOf (kv p).1 := of_decide_eq_true e
    rw [← kv_inj this]
    exact hq
  · exact fun h => ⟨p, h, decide_eq_true rfl⟩
/-- one try -/
noncomputable def tryP (good : List Pr → Pr → Bool) (ps : List Pr) (p : Pr) : List Pr := open Classical in if p ∈ ps then ps else if good ps p = true then ps ++ [p] else ps
theorem try_mono {good : List Pr → Pr → Bool} {ps : List Pr} {p : Pr} : ps.length ≤ (tryP good ps p).length := by
  unfold tryP
  split
  · exact Nat.le_refl _
  · split
    · simp
    · exact Nat.le_refl _
noncomputable def roundP (good : List Pr → Pr → Bool) (all ps : List Pr) : List Pr := all.foldl (tryP good) ps
theorem round_mono {good : List Pr → Pr → Bool} : ∀ {all ps : List Pr}, ps.length ≤ (roundP good all ps).length
  | [], ps => Nat.le_refl _
  | p :: all, ps => Nat.le_trans (try_mono (p := p)) (round_mono (all := all) (ps := tryP good ps p))
/-- distinct, and of all -/
structure SubP (all ps : List Pr) : Prop where
  nd : ps.Nodup
  sub : ∀ p ∈ ps, p ∈ all
theorem SubP.tryP {good : List Pr → Pr → Bool} {all ps : List Pr} {p : Pr} (h : SubP all ps) (hp : p ∈ all) : SubP all (tryP good ps p) := by
  unfold Wy.tryP
  split
  · exact h
  · rename_i hn
    split
    · refine ⟨List.nodup_append.mpr ⟨h.nd, by simp, fun a ha b hb e => ?_⟩, fun q hq => ?_⟩
      · rw [List.mem_singleton.mp hb] at e
        exact hn (e ▸ ha)
      · rcases List.mem_append.mp hq with hq | hq
        · exact h.sub q hq
        · rw [List.mem_singleton.mp hq]; exact hp
    · exact h
theorem SubP.round {good : List Pr → Pr → Bool} {all : List Pr} : ∀ {l ps : List Pr}, SubP all ps → (∀ p ∈ l, p ∈ all) → SubP all (roundP good l ps)
  | [], _, h, _ => h
  | p :: l, ps, h, hl => SubP.round (ps := Wy.tryP good ps p) (h.tryP (hl p List.mem_cons_self)) fun q hq => hl q (List.mem_cons_of_mem _ hq)
theorem nodup_len {α : Type} : ∀ {l D : List α}, l.Nodup → (∀ x ∈ l, x ∈ D) → l.length ≤ D.length
  | [], _, _, _ => Nat.zero_le _
  | x :: l, D, hn, hs => by
    obtain ⟨h1, h2⟩ := List.nodup_cons.mp hn
    obtain ⟨A, B, rfl⟩ := List.append_of_mem (hs x List.mem_cons_self)
    have : l.length ≤ (A ++ B).length := nodup_len h2 fun y hy => by
      have := hs y (List.mem_cons_of_mem _ hy)
      rcases List.mem_append.mp this with z | z
      · exact List.mem_append_left _ z
      · rcases List.mem_cons.mp z with e | z
        · rw [e] at hy; exact absurd hy h1
        · exact List.mem_append_right _ z
    rw [List.length_append] at this
    rw [List.length_cons, List.length_append, List.length_cons]
    omega
theorem SubP.len {all ps : List Pr} (h : SubP all ps) : ps.length ≤ all.length := nodup_len h.nd h.sub
/-- the rounds, until one brings nothing -/
noncomputable def iterP (good : List Pr → Pr → Bool) (all : List Pr) : Nat → List Pr → List Pr
  | 0, ps => ps
  | k + 1, ps => iterP good all k (roundP good all ps)
theorem iter_ends (good : List Pr → Pr → Bool) (all : List Pr) : ∀ (d : Nat) (ps : List Pr), SubP all ps → all.length - ps.length ≤ d →
    ∃ k, k ≤ d ∧ (roundP good all (iterP good all k ps)).length = (iterP good all k ps).length ∧ ∀ j, j < k → (roundP good all (iterP good all j ps)).length ≠ (iterP good all j ps).length := by
  intro d
  induction d with
  | zero =>
    intro ps h hl
    refine ⟨0, Nat.le_refl _, ?_, fun j hj => absurd hj (Nat.not_lt_zero _)⟩
    have h1 := (h.round (good := good) (l := all) fun p hp => hp).len
    have h2 := round_mono (good := good) (all := all) (ps := ps)
    have h3 := h.len
    show (roundP good all ps).length = ps.length
    omega
  | succ d ih =>
    intro ps h hl
    by_cases c : (roundP good all ps).length = ps.length
    · exact ⟨0, Nat.zero_le _, c, fun j hj => absurd hj (Nat.not_lt_zero _)⟩
    · have h2 := round_mono (good := good) (all := all) (ps := ps)
      have h' := h.round (good := good) (l := all) fun p hp => hp
      obtain ⟨k, k1, k2, k3⟩ := ih (roundP good all ps) h' (by omega)
      refine ⟨k + 1, by omega, k2, fun j hj => ?_⟩
      cases j with
      | zero => exact c
      | succ j => exact k3 j (by omega)
end Wy

set_option Elab.async false
set_option linter.all false
set_option maxRecDepth 100000
set_option maxHeartbeats 4000000
/-! M17: one try, in the program and in the law. -/
namespace Wy
open PySem PySem.Spec PyProof.Rows L2 PySem.W
def goodT (h : Hs) (ps : List Pr) (p : Pr) : Bool := match h.es[p.1.e]? with
  | some ls => nodeW (ps.map kv) ls p.1 p.2 (wsL h.s)
  | none => false
def rowP (h : Hs) (n : Nd) : List Pr := (wsL h.s).map fun w => (n, w)
def allP (h : Hs) : List Pr := (nds h).flatMap (rowP h)
theorem nds_ok {h : Hs} {n : Nd} (hn : n ∈ nds h) : ∃ ls, h.es[n.e]? = some ls ∧ n.a ≤ ls.length := by
  obtain ⟨q, hq, hm⟩ := List.mem_flatMap.mp hn
  obtain ⟨a, ha, hm⟩ := List.mem_flatMap.mp hm
  obtain ⟨st, _, e⟩ := List.mem_map.mp hm
  subst e
  exact ⟨q.1, at_zipIdx hq, by have := List.mem_range.mp ha; show a ≤ _; omega⟩
theorem wsL_len {s : Int} : ∀ w ∈ wsL s, w.length ≤ 1000 := by
  unfold wsL
  split <;> decide
theorem opts_len {most wide : Int} {h : Hs} (ok : HsOk most wide h) {i : Nat} {ls : List Ln} (he : h.es[i]? = some ls) : ∀ l ∈ ls, l.opts.length ≤ 1000 := fun l hl => by
  have := ((ok.errand ls (List.mem_of_getElem? he)).2.2 l hl).few
  omega
theorem e_keyAdd {n : Nd} {w : List Int} {m : Mu} : gAdd (.d (eN n)) (.d (.tuple [eW w])) m = .ok (.d (eKey (n.e : Int) (n.a : Int) (n.s : Int) w)) m := by
  unfold eN eKey
  rw [e_addT (by simp)]
  rfl
theorem try_has {good : List Pr → Pr → Bool} {ps : List Pr} {p : Pr} (h : p ∈ ps) : tryP good ps p = ps := by
  unfold tryP
  rw [if_pos h]
theorem try_good {good : List Pr → Pr → Bool} {ps : List Pr} {p : Pr} (h : p ∉ ps) (g : good ps p = true) : tryP good ps p = ps ++ [p] := by
  unfold tryP
  rw [if_neg h, if_pos g]
theorem try_bad {good : List Pr → Pr → Bool} {ps : List Pr} {p : Pr} (g : good ps p = false) : tryP good ps p = ps := by
  unfold tryP
  rw [g]
  split
  · rfl
  · rw [if_neg (by simp)]
theorem st_kv {m0 m : Mu} {ps : List Pr} {n : Nd} {w : List Int} (S : St1 m0 (.dct (ps.map kv)) m) (hl : ps.length ≤ 1000) (hp : (n, w) ∉ ps) :
    ∃ m', stW (.loc m0.length) (.d (eKey (n.e : Int) (n.a : Int) (n.s : Int) w)) (.d (.bool true)) m = some m' ∧ St1 m0 (.dct ((ps ++ [(n, w)]).map kv)) m' := by
  refine ⟨_, ?_, S.set⟩
  unfold stW
  dsimp only
  rw [S.at_]
  dsimp only
  have hk : dhas (ps.map kv) (eKey (n.e : Int) (n.a : Int) (n.s : Int) w) = false := by
    have := has_kv ps (n, w)
    unfold hasK at this
    cases hz : dhas (ps.map kv) (eKey (n.e : Int) (n.a : Int) (n.s : Int) w) with
    | true => exact absurd (this.mp hz) hp
    | false => rfl
  rw [if_pos ⟨okKey_key _ _ _ _, by rw [List.length_map]; omega⟩]
  unfold dput
  rw [hk, if_neg (by simp), List.map_append]
  rfl
/-- the slots of a table -/
def rT (h : Hs) (d : Nat) (v x6 x7 x8 : Option W) : Rh := [some (.d (eH h)), some (.d .none), some (.loc d), some (.d (.list ((wsL h.s).map eW))), some (.d (.list ((nds h).map eN))), v, x6, x7, x8]
theorem hasK_in {ps : List Pr} {n : Nd} {w : List Int} (h : (n, w) ∈ ps) : hasK (ps.map kv) (n.e : Int) (n.a : Int) (n.s : Int) w = true := (has_kv ps (n, w)).mpr h
theorem hasK_out {ps : List Pr} {n : Nd} {w : List Int} (h : (n, w) ∉ ps) : hasK (ps.map kv) (n.e : Int) (n.a : Int) (n.s : Int) w = false := by
  cases hz : hasK (ps.map kv) (n.e : Int) (n.a : Int) (n.s : Int) w with
  | true => exact absurd ((has_kv ps (n, w)).mp hz) h
  | false => rfl
theorem isNon_none : isNon (W.d PyData.none) = true := rfl
theorem tryL {h : Hs} (ok : HsOk 3 3 h) {m0 m : Mu} {ps : List Pr} {n : Nd} {w : List Int} {v x8 : Option W} (S : St1 m0 (.dct (ps.map kv)) m) (hl : ps.length ≤ 1000) (hn : n ∈ nds h) :
    ∃ x8' m', (fIfS (fTb (fBin gNotIn (fBin gAdd (fVar 6) (fTup (fCons (fVar 7) fNil))) (fVar 2))) (fThen (fSet 8 (fIf (fTb (fIsN (fVar 1))) (fVar 2) (fVar 1)))
  (fIfS (fTb (fCall 6 f__law_is_sure (fCons (fVar 0) (fCons (fVar 2) (fCons (fVar 8) (fCons (fVar 6) (fCons (fVar 7) (fCons (fVar 3) fNil)))))))) (fSt (fC (.bool true)) (fVar 2) (fBin gAdd (fVar 6) (fTup (fCons (fVar 7) fNil)))) fNext)) fNext) (rT h m0.length v (some (.d (eN n))) (some (.d (eW w))) x8) m =
      .next (rT h m0.length v (some (.d (eN n))) (some (.d (eW w))) x8') m' ∧ St1 m0 (.dct ((tryP (goodT h) ps (n, w)).map kv)) m' := by
  have hk := e_ninK (e := (n.e : Int)) (a := (n.a : Int)) (s := (n.s : Int)) (w := w) S.at_
  have ha := e_keyAdd (n := n) (w := w) (m := m)
  obtain ⟨ls, he, hna⟩ := nds_ok hn
  have hs := v_is_sure (n := n) (w := w) (ws := wsL h.s) (m := m) S.at_ wsL_len he hna (opts_len ok he)
  by_cases c : (n, w) ∈ ps
  · refine ⟨x8, m, ?_, ?_⟩
    · rw [hasK_in c] at hk
      unfold rT
      simp [fVar, fC, fNil, fCons, fTup, fLst, fLstN, fBin, fChain_eq, fTb_eq, fAndT, fOrT, fNotT, fAndV_eq, fOrV_eq, fNotV_eq, fIf, fIsN, fNotN, fIsi, fCall, fBi, fRet, fSet, fAsg, fPar, fPar3, fIfS_eq, fThen, fDrop, fNext, fSt, startR, subTy, kBl, mkT, ha, hk]
    · rw [try_has c]; exact S
  · rw [hasK_out c] at hk
    have hg : goodT h ps (n, w) = nodeW (ps.map kv) ls n w (wsL h.s) := by
      unfold goodT
      rw [he]
    cases z : nodeW (ps.map kv) ls n w (wsL h.s) with
    | true =>
      rw [z] at hs hg
      obtain ⟨m', e, S'⟩ := st_kv S hl c
      refine ⟨some (.loc m0.length), m', ?_, ?_⟩
      · unfold rT
        simp [fVar, fC, fNil, fCons, fTup, fLst, fLstN, fBin, fChain_eq, fTb_eq, fAndT, fOrT, fNotT, fAndV_eq, fOrV_eq, fNotV_eq, fIf, fIsN, fNotN, fIsi, fCall, fBi, fRet, fSet, fAsg, fPar, fPar3, fIfS_eq, fThen, fDrop, fNext, fSt, startR, subTy, kBl, mkT, ha, hk, hs, e, isNon_none]
      · rw [try_good c hg]; exact S'
    | false =>
      rw [z] at hs hg
      refine ⟨some (.loc m0.length), m, ?_, ?_⟩
      · unfold rT
        simp [fVar, fC, fNil, fCons, fTup, fLst, fLstN, fBin, fChain_eq, fTb_eq, fAndT, fOrT, fNotT, fAndV_eq, fOrV_eq, fNotV_eq, fIf, fIsN, fNotN, fIsi, fCall, fBi, fRet, fSet, fAsg, fPar, fPar3, fIfS_eq, fThen, fDrop, fNext, fSt, startR, subTy, kBl, mkT, ha, hk, hs, isNon_none]
      · rw [try_bad hg]; exact S
theorem tryG {h : Hs} (ok : HsOk 3 3 h) {m0 m : Mu} {a : Nat} {ps : List Pr} {n : Nd} {w : List Int} {x8 : Option W} (S : St1 m0 (.dct (ps.map kv)) m) (hl : ps.length ≤ 1000) (hn : n ∈ nds h) (hal : a ≤ ps.length) :
    ∃ x8' m', (fThen (fSet 8 (fTup (fCons (fVar 2) (fCons (fIf (fTb (fIsN (fVar 1))) (fVar 2) (fVar 1)) fNil))))
  (fIfS (fAndT (fTb (fBin gNotIn (fBin gAdd (fVar 6) (fTup (fCons (fVar 7) fNil))) (fVar 2))) (fTb (fCall 5 f_node_wins (fCons (fVar 0) (fCons (fVar 8) (fCons (fVar 6) (fCons (fVar 7) (fCons (fVar 3) fNil)))))))) (fStNm (fTup (fCons (fC (.bool true)) (fCons (fC (.bool true)) fNil))) (fVar 2) (fBin gAdd (fVar 6) (fTup (fCons (fVar 7) fNil))) 5) fNext)) (rT h m0.length (some (.d (.bool (decide (a < ps.length))))) (some (.d (eN n))) (some (.d (eW w))) x8) m =
      .next (rT h m0.length (some (.d (.bool (decide (a < (tryP (goodT h) ps (n, w)).length))))) (some (.d (eN n))) (some (.d (eW w))) x8') m' ∧ St1 m0 (.dct ((tryP (goodT h) ps (n, w)).map kv)) m' := by
  have hk := e_ninK (e := (n.e : Int)) (a := (n.a : Int)) (s := (n.s : Int)) (w := w) S.at_
  have ha := e_keyAdd (n := n) (w := w) (m := m)
  obtain ⟨ls, he, hna⟩ := nds_ok hn
  have hs := v_node_wins (n := n) (w := w) (ws := wsL h.s) (m := m) S.at_ wsL_len he hna (opts_len ok he)
  refine ⟨some (.wt [.loc m0.length, .loc m0.length]), ?_⟩
  have p1 : (fSet 8 (fTup (fCons (fVar 2) (fCons (fIf (fTb (fIsN (fVar 1))) (fVar 2) (fVar 1)) fNil)))) (rT h m0.length (some (.d (.bool (decide (a < ps.length))))) (some (.d (eN n))) (some (.d (eW w))) x8) m = .next (rT h m0.length (some (.d (.bool (decide (a < ps.length))))) (some (.d (eN n))) (some (.d (eW w))) (some (.wt [.loc m0.length, .loc m0.length]))) m := rfl
  by_cases c : (n, w) ∈ ps
  · refine ⟨m, k_then p1 ?_, ?_⟩
    · rw [hasK_in c] at hk
      rw [try_has c]
      unfold rT
      simp [fVar, fC, fNil, fCons, fTup, fLst, fLstN, fBin, fChain_eq, fTb_eq, fAndT, fOrT, fNotT, fAndV_eq, fOrV_eq, fNotV_eq, fIf, fIsN, fNotN, fIsi, fCall, fBi, fRet, fSet, fAsg, fPar, fPar3, fIfS_eq, fThen, fDrop, fNext, fSt, startR, subTy, kBl, mkT, ha, hk]
    · rw [try_has c]; exact S
  · rw [hasK_out c] at hk
    have hg : goodT h ps (n, w) = nodeW (ps.map kv) ls n w (wsL h.s) := by
      unfold goodT
      rw [he]
    cases z : nodeW (ps.map kv) ls n w (wsL h.s) with
    | true =>
      rw [z] at hs hg
      obtain ⟨m', e, S'⟩ := st_kv S hl c
      refine ⟨m', k_then p1 ?_, ?_⟩
      · rw [try_good c hg, decide_eq_true (show a < (ps ++ [(n, w)]).length by simp; omega)]
        unfold rT
        simp [fVar, fC, fNil, fCons, fTup, fLst, fLstN, fBin, fChain_eq, fTb_eq, fAndT, fOrT, fNotT, fAndV_eq, fOrV_eq, fNotV_eq, fIf, fIsN, fNotN, fIsi, fCall, fBi, fRet, fSet, fAsg, fPar, fPar3, fIfS_eq, fThen, fDrop, fNext, fSt, startR, subTy, kBl, mkT, ha, hk, hs, e, fStNm, tupW]
      · rw [try_good c hg]; exact S'
    | false =>
      rw [z] at hs hg
      refine ⟨m, k_then p1 ?_, ?_⟩
      · rw [try_bad hg]
        unfold rT
        simp [fVar, fC, fNil, fCons, fTup, fLst, fLstN, fBin, fChain_eq, fTb_eq, fAndT, fOrT, fNotT, fAndV_eq, fOrV_eq, fNotV_eq, fIf, fIsN, fNotN, fIsi, fCall, fBi, fRet, fSet, fAsg, fPar, fPar3, fIfS_eq, fThen, fDrop, fNext, fSt, startR, subTy, kBl, mkT, ha, hk, hs]
      · rw [try_bad hg]; exact S
end Wy

set_option Elab.async false
set_option linter.all false
set_option maxRecDepth 100000
set_option maxHeartbeats 4000000
/-! M18: the table, in the program and in the law. -/
namespace Wy
open PySem PySem.Spec PyProof.Rows L2 PySem.W
theorem wsL_cnt {s : Int} : (wsL s).length ≤ 7 := by
  unfold wsL
  split <;> decide
theorem flat_le {α β : Type} (f : α → List β) (b : Nat) : ∀ (xs : List α), (∀ x ∈ xs, (f x).length ≤ b) → (xs.flatMap f).length ≤ xs.length * b
  | [], _ => by simp
  | x :: xs, h => by
    have h1 := h x List.mem_cons_self
    have h2 := flat_le f b xs fun y hy => h y (List.mem_cons_of_mem _ hy)
    rw [List.flatMap_cons, List.length_append, List.length_cons, Nat.add_mul]
    omega
theorem nds_len {h : Hs} (ok : HsOk 3 3 h) : (nds h).length ≤ 36 := by
  have h1 : ∀ q ∈ h.es.zipIdx, (ndsOf h.s.toNat q).length ≤ 12 := fun q hq => by
    obtain ⟨_, hw, _⟩ := ok.errand q.1 (mem_zipIdx1 hq)
    have := flat_le (fun a => (List.range h.s.toNat).map fun st => (⟨q.2, a, st⟩ : Nd)) 3 (List.range (q.1.length + 1)) fun a _ => by
      rw [List.length_map, List.length_range]
      have := ok.s.2
      omega
    unfold ndsOf
    rw [List.length_range] at this
    omega
  have h2 := flat_le (ndsOf h.s.toNat) 12 h.es.zipIdx h1
  have h3 := ok.few
  unfold nds
  rw [List.length_zipIdx] at h2
  omega
theorem allP_len {h : Hs} (ok : HsOk 3 3 h) : (allP h).length ≤ 252 := by
  have h1 := flat_le (rowP h) 7 (nds h) fun n _ => by
    unfold rowP
    rw [List.length_map]
    exact wsL_cnt
  have h2 := nds_len ok
  unfold allP
  omega
theorem mem_all {h : Hs} {n : Nd} {w : List Int} (hn : n ∈ nds h) (hw : w ∈ wsL h.s) : (n, w) ∈ allP h :=
  List.mem_flatMap.mpr ⟨n, hn, List.mem_map.mpr ⟨w, hw, rfl⟩⟩
theorem try_pre {good : List Pr → Pr → Bool} {ps : List Pr} {p : Pr} : ps <+: tryP good ps p := by
  unfold tryP
  split
  · exact List.prefix_refl _
  · split
    · exact List.prefix_append _ _
    · exact List.prefix_refl _
theorem round_pre {good : List Pr → Pr → Bool} : ∀ {all ps : List Pr}, ps <+: roundP good all ps
  | [], ps => List.prefix_refl _
  | p :: all, ps => (try_pre (p := p)).trans (round_pre (all := all) (ps := tryP good ps p))
theorem round_eq {good : List Pr → Pr → Bool} {all ps : List Pr} (h : (roundP good all ps).length = ps.length) : roundP good all ps = ps :=
  ((round_pre (good := good) (all := all) (ps := ps)).eq_of_length h.symm).symm
/-- one round of a body fb that tries -/
theorem round_gen {h : Hs} (ok : HsOk 3 3 h) {m0 : Mu} {fb : FS} {F : Nat → Nat → W}
    (ht : ∀ (a : Nat) (ps : List Pr) (n : Nd) (w : List Int) (x8 : Option W) (m : Mu), St1 m0 (.dct (ps.map kv)) m → ps.length ≤ 1000 → n ∈ nds h → a ≤ ps.length →
      ∃ x8' m', fb (rT h m0.length (some (F a ps.length)) (some (.d (eN n))) (some (.d (eW w))) x8) m = .next (rT h m0.length (some (F a (tryP (goodT h) ps (n, w)).length)) (some (.d (eN n))) (some (.d (eW w))) x8') m' ∧ St1 m0 (.dct ((tryP (goodT h) ps (n, w)).map kv)) m')
    {a : Nat} {ps : List Pr} {x6 x7 x8 : Option W} {m : Mu} (S : St1 m0 (.dct (ps.map kv)) m) (P : SubP (allP h) ps) (ha : a ≤ ps.length) :
    ∃ x6' x7' x8' m', fFor (fSeq (fVar 4)) (.nm 6) (fFor (fSeq (fVar 3)) (.nm 7) fb) (rT h m0.length (some (F a ps.length)) x6 x7 x8) m =
      .next (rT h m0.length (some (F a (roundP (goodT h) (allP h) ps).length)) x6' x7' x8') m' ∧ St1 m0 (.dct ((roundP (goodT h) (allP h) ps).map kv)) m' := by
  have hs4 : ∀ v x6 x7 x8 m, fSeq (fVar 4) (rT h m0.length v x6 x7 x8) m = .ok ⟨(nds h).map (W.d ∘ eN), none⟩ m := fun v x6 x7 x8 m => by
    rw [e_seqL (ds := (nds h).map eN) (m' := m) rfl, List.map_map]
  have hs3 : ∀ v x6 x7 x8 m, fSeq (fVar 3) (rT h m0.length v x6 x7 x8) m = .ok ⟨(wsL h.s).map (W.d ∘ eW), none⟩ m := fun v x6 x7 x8 m => by
    rw [e_seqL (ds := (wsL h.s).map eW) (m' := m) rfl, List.map_map]
  obtain ⟨r', m', hc, ps', x6', x7', x8', er, S', P', ha', _, hf⟩ := for_inv (pt := .nm 6) (fb := fFor (fSeq (fVar 3)) (.nm 7) fb) (W.d ∘ eN)
    (fun rest r m => ∃ (qs : List Pr) (x6 x7 x8 : Option W), r = rT h m0.length (some (F a qs.length)) x6 x7 x8 ∧ St1 m0 (.dct (qs.map kv)) m ∧ SubP (allP h) qs ∧ a ≤ qs.length ∧ (∀ n ∈ rest, n ∈ nds h) ∧ (rest.flatMap (rowP h)).foldl (tryP (goodT h)) qs = roundP (goodT h) (allP h) ps)
    (nds h) (rT h m0.length (some (F a ps.length)) x6 x7 x8) m ⟨ps, x6, x7, x8, rfl, S, P, ha, fun n hn => hn, rfl⟩
    (fun n rest r m ⟨qs, x6, x7, x8, er, S, P, ha, hn, hf⟩ => by
      subst er
      refine ⟨_, rfl, ?_⟩
      rw [List.flatMap_cons, List.foldl_append] at hf
      obtain ⟨r2, m2, hc, qs2, x7', x8', er2, S2, P2, ha2, _, hf2⟩ := for_inv (pt := .nm 7) (fb := fb) (W.d ∘ eW)
        (fun ws r m => ∃ (ts : List Pr) (x7 x8 : Option W), r = rT h m0.length (some (F a ts.length)) (some (.d (eN n))) x7 x8 ∧ St1 m0 (.dct (ts.map kv)) m ∧ SubP (allP h) ts ∧ a ≤ ts.length ∧ (∀ w ∈ ws, w ∈ wsL h.s) ∧ (ws.map fun w => (n, w)).foldl (tryP (goodT h)) ts = (rowP h n).foldl (tryP (goodT h)) qs)
        (wsL h.s) (rT h m0.length (some (F a qs.length)) (some (.d (eN n))) x7 x8) m ⟨qs, x7, x8, rfl, S, P, ha, fun w hw => hw, rfl⟩
        (fun w ws r m ⟨ts, x7, x8, er, S, P, ha, hw, hg⟩ => by
          subst er
          have hl := P.len
          have hal := allP_len ok
          obtain ⟨x8', m', e, S'⟩ := ht a ts n w x8 m S (by omega) (hn n List.mem_cons_self) ha
          exact ⟨_, rfl, _, m', .inl e, _, _, _, rfl, S', P.tryP (mem_all (hn n List.mem_cons_self) (hw w List.mem_cons_self)), Nat.le_trans ha try_mono, fun w hw' => hw w (List.mem_cons_of_mem _ hw'), hg⟩)
      subst er2
      have hf2 : qs2 = (rowP h n).foldl (tryP (goodT h)) qs := hf2
      exact ⟨_, m2, .inl (k_for (hs3 _ _ _ _ _) hc), qs2, some (.d (eN n)), x7', x8', rfl, S2, P2, ha2, fun n' hn' => hn n' (List.mem_cons_of_mem _ hn'), by rw [hf2]; exact hf⟩)
  subst er
  have hf : ps' = roundP (goodT h) (allP h) ps := hf
  subst hf
  exact ⟨x6', x7', x8', m', k_for (hs4 _ _ _ _ _) hc, S'⟩
theorem while_gen {h : Hs} (ok : HsOk 3 3 h) {m0 : Mu} {ft : FT} {fs fb : FS} {F : Nat → Nat → W}
    (ht : ∀ (a : Nat) (ps : List Pr) (n : Nd) (w : List Int) (x8 : Option W) (m : Mu), St1 m0 (.dct (ps.map kv)) m → ps.length ≤ 1000 → n ∈ nds h → a ≤ ps.length →
      ∃ x8' m', fb (rT h m0.length (some (F a ps.length)) (some (.d (eN n))) (some (.d (eW w))) x8) m = .next (rT h m0.length (some (F a (tryP (goodT h) ps (n, w)).length)) (some (.d (eN n))) (some (.d (eW w))) x8') m' ∧ St1 m0 (.dct ((tryP (goodT h) ps (n, w)).map kv)) m')
    (hq : ∀ (a : Nat) (ps : List Pr) (x6 x7 x8 : Option W) (m : Mu), St1 m0 (.dct (ps.map kv)) m → a ≤ ps.length → ft (rT h m0.length (some (F a ps.length)) x6 x7 x8) m = .ok (decide (a < ps.length)) m)
    (hs : ∀ (v : Option W) (ps : List Pr) (x6 x7 x8 : Option W) (m : Mu), St1 m0 (.dct (ps.map kv)) m → fs (rT h m0.length v x6 x7 x8) m = .next (rT h m0.length (some (F ps.length ps.length)) x6 x7 x8) m) :
    ∀ (k N : Nat) (ps : List Pr) (v x6 x7 x8 : Option W) (m : Mu), k + 2 ≤ N → St1 m0 (.dct (ps.map kv)) m → SubP (allP h) ps → ft (rT h m0.length v x6 x7 x8) m = .ok true m →
      (roundP (goodT h) (allP h) (iterP (goodT h) (allP h) k ps)).length = (iterP (goodT h) (allP h) k ps).length → (∀ j, j < k → (roundP (goodT h) (allP h) (iterP (goodT h) (allP h) j ps)).length ≠ (iterP (goodT h) (allP h) j ps).length) →
      ∃ v' x6' x7' x8' m', whileF ft (fThen fs (fFor (fSeq (fVar 4)) (.nm 6) (fFor (fSeq (fVar 3)) (.nm 7) fb))) N (rT h m0.length v x6 x7 x8) m = .next (rT h m0.length v' x6' x7' x8') m' ∧ St1 m0 (.dct ((iterP (goodT h) (allP h) k ps).map kv)) m' := by
  intro k
  induction k with
  | zero =>
    intro N ps v x6 x7 x8 m hN S P hv hr _
    obtain ⟨N, rfl⟩ : ∃ M, N = M + 2 := ⟨N - 2, by omega⟩
    have hr : (roundP (goodT h) (allP h) ps).length = ps.length := hr
    obtain ⟨x6', x7', x8', m', e, S'⟩ := round_gen ok ht S P (x6 := x6) (x7 := x7) (x8 := x8) (Nat.le_refl _)
    rw [round_eq hr] at e S'
    have hqe := hq ps.length ps x6' x7' x8' m' S' (Nat.le_refl _)
    rw [decide_eq_false (Nat.lt_irrefl _)] at hqe
    refine ⟨some (F ps.length ps.length), x6', x7', x8', m', ?_, S'⟩
    unfold whileF
    rw [hv, toS_ok]
    dsimp only
    rw [k_then (hs v ps x6 x7 x8 m S) e]
    dsimp only
    unfold whileF
    rw [hqe, toS_ok]
  | succ k ih =>
    intro N ps v x6 x7 x8 m hN S P hv hr hj
    obtain ⟨N, rfl⟩ : ∃ M, N = M + 1 := ⟨N - 1, by omega⟩
    obtain ⟨x6', x7', x8', m', e, S'⟩ := round_gen ok ht S P (x6 := x6) (x7 := x7) (x8 := x8) (Nat.le_refl _)
    have h0 : (roundP (goodT h) (allP h) ps).length ≠ ps.length := hj 0 (Nat.succ_pos _)
    have hm : ps.length ≤ (roundP (goodT h) (allP h) ps).length := round_mono
    have hqe := hq ps.length _ x6' x7' x8' m' S' hm
    rw [decide_eq_true (by omega)] at hqe
    obtain ⟨v2, y6, y7, y8, m2, e2, S2⟩ := ih N _ _ x6' x7' x8' m' (by omega) S' (P.round fun p hp => hp) hqe hr fun j hjk => hj (j + 1) (by omega)
    refine ⟨v2, y6, y7, y8, m2, ?_, S2⟩
    unfold whileF
    rw [hv, toS_ok]
    dsimp only
    rw [k_then (hs v ps x6 x7 x8 m S) e]
    exact e2
end Wy

set_option Elab.async false
set_option linter.all false
set_option maxRecDepth 100000
set_option maxHeartbeats 4000000
/-! M19: the table, in the program and in the law. -/
namespace Wy
open PySem PySem.Spec PyProof.Rows L2 PySem.W
theorem sub_nil (all : List Pr) : SubP all [] := ⟨List.nodup_nil, fun p hp => by cases hp⟩
theorem tab_ends {h : Hs} (ok : HsOk 3 3 h) : ∃ k, k ≤ 252 ∧ (roundP (goodT h) (allP h) (iterP (goodT h) (allP h) k [])).length = (iterP (goodT h) (allP h) k []).length ∧ ∀ j, j < k → (roundP (goodT h) (allP h) (iterP (goodT h) (allP h) j [])).length ≠ (iterP (goodT h) (allP h) j []).length :=
  iter_ends (goodT h) (allP h) 252 [] (sub_nil _) (by have := allP_len ok; omega)
/-- the table of a house -/
noncomputable def tabP (h : Hs) : List Pr := open Classical in if c : HsOk 3 3 h then iterP (goodT h) (allP h) (Classical.choose (tab_ends c)) [] else []
theorem len_locD {d : Nat} {es : List (PyData × PyData)} {m : Mu} (h : m[d]? = some (.dct es)) : gLen [.loc d] m = .ok (.d (.int (es.length : Int))) m := by
  simp [gLen, on1, fix, h, dr, kInt]
theorem whoLen {h : Hs} {m0 m : Mu} {qs : List Pr} {v x6 x7 x8 : Option W} (S : St1 m0 (.dct (qs.map kv)) m) : fBi gLen (fCons (fVar 2) fNil) (rT h m0.length v x6 x7 x8) m = .ok (.d (.int (qs.length : Int))) m := by
  have := len_locD S.at_
  rw [List.length_map] at this
  unfold rT
  simp [fVar, fC, fNil, fCons, fTup, fLst, fLstN, fBin, fChain_eq, fTb_eq, fAndT, fOrT, fNotT, fAndV_eq, fOrV_eq, fNotV_eq, fIf, fIsN, fNotN, fIsi, fCall, fBi, fRet, fSet, fAsg, fPar, fPar3, fIfS_eq, fThen, fDrop, fNext, fSt, startR, subTy, kBl, mkT, this]
theorem neLen {h : Hs} {m0 m : Mu} {qs : List Pr} {z : Int} {x6 x7 x8 : Option W} (S : St1 m0 (.dct (qs.map kv)) m) : fTb (fBin gNe (fVar 5) (fBi gLen (fCons (fVar 2) fNil))) (rT h m0.length (some (.d (.int z))) x6 x7 x8) m = .ok (!(z == (qs.length : Int))) m := by
  have := len_locD S.at_
  rw [List.length_map] at this
  unfold rT
  simp [fVar, fC, fNil, fCons, fTup, fLst, fLstN, fBin, fChain_eq, fTb_eq, fAndT, fOrT, fNotT, fAndV_eq, fOrV_eq, fNotV_eq, fIf, fIsN, fNotN, fIsi, fCall, fBi, fRet, fSet, fAsg, fPar, fPar3, fIfS_eq, fThen, fDrop, fNext, fSt, startR, subTy, kBl, mkT, this]
theorem k_nil {r : Rh} {m : Mu} : fNil r m = .ok [] m := rfl
theorem k_cons {f : FE} {g : FA} {r : Rh} {m m1 m2 : Mu} {w : W} {ws : List W} (h1 : f r m = .ok w m1) (h2 : g r m1 = .ok ws m2) : fCons f g r m = .ok (w :: ws) m2 := by
  unfold fCons
  rw [h1, bind_ok, h2, bind_ok]
theorem par_tab {h : Hs} {m0 : Mu} {f g : Fn} (hs : g [.d (.int h.s)] (m0 ++ [Ob.dct []]) = .ok (.d (.list ((wsL h.s).map eW))) (m0 ++ [Ob.dct []])) (hn : f [.d (eH h)] (m0 ++ [Ob.dct []]) = .ok (.d (.list ((nds h).map eN))) (m0 ++ [Ob.dct []])) :
    fPar3 2 3 4 (fCons fDct (fCons (fCall 1 g (fCons (fBin gIx (fVar 0) (fC (.int 0))) fNil)) (fCons (fCall 1 f (fCons (fVar 0) fNil)) fNil))) (startR 9 [.d (eH h), .d .none]) m0 = .next (rT h m0.length none none none none) (m0 ++ [Ob.dct []]) := by
  have i0 : ∀ m, gIx (.d (eH h)) (.d (.int 0)) m = .ok (.d (.int h.s)) m := fun m => tup0
  have hd : fDct (startR 9 [.d (eH h), .d .none]) m0 = .ok (.loc m0.length) (m0 ++ [Ob.dct []]) := rfl
  generalize m0 ++ [Ob.dct []] = m1 at hs hn hd ⊢
  have a1 : fCall 1 g (fCons (fBin gIx (fVar 0) (fC (.int 0))) fNil) (startR 9 [.d (eH h), .d .none]) m1 = .ok (.d (.list ((wsL h.s).map eW))) m1 := by simp [fVar, fC, fNil, fCons, fTup, fLst, fLstN, fBin, fChain_eq, fTb_eq, fAndT, fOrT, fNotT, fAndV_eq, fOrV_eq, fNotV_eq, fIf, fIsN, fNotN, fIsi, fCall, fBi, fRet, fSet, fAsg, fPar, fPar3, fIfS_eq, fThen, fDrop, fNext, fSt, startR, subTy, kBl, mkT, i0, hs]
  have a2 : fCall 1 f (fCons (fVar 0) fNil) (startR 9 [.d (eH h), .d .none]) m1 = .ok (.d (.list ((nds h).map eN))) m1 := by simp [fVar, fC, fNil, fCons, fTup, fLst, fLstN, fBin, fChain_eq, fTb_eq, fAndT, fOrT, fNotT, fAndV_eq, fOrV_eq, fNotV_eq, fIf, fIsN, fNotN, fIsi, fCall, fBi, fRet, fSet, fAsg, fPar, fPar3, fIfS_eq, fThen, fDrop, fNext, fSt, startR, subTy, kBl, mkT, hn]
  have h3 := k_cons hd (k_cons a1 (k_cons a2 (k_nil (r := startR 9 [.d (eH h), .d .none]) (m := m1))))
  unfold fPar3
  rw [h3]
  rfl
theorem neLen0 {h : Hs} {m0 m : Mu} {qs : List Pr} {x6 x7 x8 : Option W} (S : St1 m0 (.dct (qs.map kv)) m) : fTb (fBin gNe (fVar 5) (fBi gLen (fCons (fVar 2) fNil))) (rT h m0.length (some (.d (.int (-1)))) x6 x7 x8) m = .ok true m := by
  rw [neLen S, beq_eq_false_iff_ne.mpr (by omega)]
  rfl
theorem ltNe {a b : Nat} (h : a ≤ b) : (!((a : Int) == (b : Int))) = decide (a < b) := by
  by_cases c : a < b
  · rw [decide_eq_true c, beq_eq_false_iff_ne.mpr (by omega)]; rfl
  · rw [decide_eq_false c, beq_iff_eq.mpr (by omega)]; rfl
theorem v_table {h : Hs} (ok : HsOk 3 3 h) (m0 : Mu) : f__law_table [.d (eH h), .d .none] m0 = .ok (.d (.dict ((tabP h).map kv))) m0 := by
  have ht : tabP h = iterP (goodT h) (allP h) (Classical.choose (tab_ends ok)) [] := dif_pos ok
  obtain ⟨hk, h1, h2⟩ := Classical.choose_spec (tab_ends ok)
  rw [← ht] at h1
  have i0 : gIx (.d (eH h)) (.d (.int 0)) (m0 ++ [Ob.dct []]) = .ok (.d (.int h.s)) (m0 ++ [Ob.dct []]) := tup0
  have hw := v_lwishes ok.s (m0 ++ [Ob.dct []])
  have hn := v_lnodes ok (m0 ++ [Ob.dct []])
  have S0 : St1 m0 (.dct (([] : List Pr).map kv)) (m0 ++ [Ob.dct []]) := ⟨[], rfl⟩
  have hw := v_lwishes ok.s (m0 ++ [Ob.dct []])
  have hn := v_lnodes ok (m0 ++ [Ob.dct []])
  have p1 := par_tab hw hn
  have p2 : fSet 5 (fC (.int (-1))) (rT h m0.length none none none none) (m0 ++ [Ob.dct []]) = .next (rT h m0.length (some (.d (.int (-1)))) none none none) (m0 ++ [Ob.dct []]) := rfl
  obtain ⟨N, hN, hN2⟩ : ∃ N : Nat, N = 100000 ∧ 1000 ≤ N := ⟨100000, rfl, by decide⟩
  obtain ⟨v', x6', x7', x8', m', e, S'⟩ := while_gen ok (m0 := m0) (ft := fTb (fBin gNe (fVar 5) (fBi gLen (fCons (fVar 2) fNil)))) (fs := fSet 5 (fBi gLen (fCons (fVar 2) fNil)))
    (fb := (fIfS (fTb (fBin gNotIn (fBin gAdd (fVar 6) (fTup (fCons (fVar 7) fNil))) (fVar 2))) (fThen (fSet 8 (fIf (fTb (fIsN (fVar 1))) (fVar 2) (fVar 1)))
  (fIfS (fTb (fCall 6 f__law_is_sure (fCons (fVar 0) (fCons (fVar 2) (fCons (fVar 8) (fCons (fVar 6) (fCons (fVar 7) (fCons (fVar 3) fNil)))))))) (fSt (fC (.bool true)) (fVar 2) (fBin gAdd (fVar 6) (fTup (fCons (fVar 7) fNil)))) fNext)) fNext)) (F := fun a _ => .d (.int (a : Int)))
    (fun a ps n w x8 m S hl hn _ => tryL ok S hl hn)
    (fun a ps x6 x7 x8 m S ha => by
      rw [neLen S]
      rw [ltNe ha])
    (fun v ps x6 x7 x8 m S => k_set (whoLen S))
    (Classical.choose (tab_ends ok)) N [] (some (.d (.int (-1)))) none none none (m0 ++ [Ob.dct []]) (by omega) S0 (sub_nil _) (neLen0 S0) (by rw [← ht]; exact h1) h2
  rw [← ht] at S'
  refine fnF_retD (k := m0.length) (m' := m') ?_ (Nat.le_refl _) S'.at_ S'.take
  unfold b__law_table
  refine k_then p1 (k_then p2 (k_then (r1 := rT h m0.length v' x6' x7' x8') (m1 := m') ?_ rfl))
  rw [← hN]
  exact e
end Wy

set_option Elab.async false
set_option linter.all false
set_option maxRecDepth 100000
set_option maxHeartbeats 4000000
/-! M20: the program's table. -/
namespace Wy
open PySem PySem.Spec PyProof.Rows L2 PySem.W
theorem v_closed {h : Hs} (ok : HsOk 3 3 h) (m0 : Mu) : f_closed_table [.d (eH h), .d .none] m0 = .ok (.d (.dict ((tabP h).map kv))) m0 := by
  have ht : tabP h = iterP (goodT h) (allP h) (Classical.choose (tab_ends ok)) [] := dif_pos ok
  obtain ⟨hk, h1, h2⟩ := Classical.choose_spec (tab_ends ok)
  rw [← ht] at h1
  have hw := v_wishes_of ok.s (m0 ++ [Ob.dct []])
  have hn := v_nodes ok (m0 ++ [Ob.dct []])
  have S0 : St1 m0 (.dct (([] : List Pr).map kv)) (m0 ++ [Ob.dct []]) := ⟨[], rfl⟩
  have p1 := par_tab hw hn
  have p2 : fSet 5 (fC (.bool true)) (rT h m0.length none none none none) (m0 ++ [Ob.dct []]) = .next (rT h m0.length (some (.d (.bool true))) none none none) (m0 ++ [Ob.dct []]) := rfl
  obtain ⟨N, hN, hN2⟩ : ∃ N : Nat, N = 100000 ∧ 1000 ≤ N := ⟨100000, rfl, by decide⟩
  obtain ⟨v', x6', x7', x8', m', e, S'⟩ := while_gen ok (m0 := m0) (ft := fTb (fVar 5)) (fs := fSet 5 (fC (.bool false)))
    (fb := (fThen (fSet 8 (fTup (fCons (fVar 2) (fCons (fIf (fTb (fIsN (fVar 1))) (fVar 2) (fVar 1)) fNil))))
  (fIfS (fAndT (fTb (fBin gNotIn (fBin gAdd (fVar 6) (fTup (fCons (fVar 7) fNil))) (fVar 2))) (fTb (fCall 5 f_node_wins (fCons (fVar 0) (fCons (fVar 8) (fCons (fVar 6) (fCons (fVar 7) (fCons (fVar 3) fNil)))))))) (fStNm (fTup (fCons (fC (.bool true)) (fCons (fC (.bool true)) fNil))) (fVar 2) (fBin gAdd (fVar 6) (fTup (fCons (fVar 7) fNil))) 5) fNext))) (F := fun a b => .d (.bool (decide (a < b))))
    (fun a ps n w x8 m S hl hn ha => tryG ok S hl hn ha)
    (fun a ps x6 x7 x8 m S ha => rfl)
    (fun v ps x6 x7 x8 m S => by
      rw [decide_eq_false (Nat.lt_irrefl _)]
      rfl)
    (Classical.choose (tab_ends ok)) N [] (some (.d (.bool true))) none none none (m0 ++ [Ob.dct []]) (by omega) S0 (sub_nil _) rfl (by rw [← ht]; exact h1) h2
  rw [← ht] at S'
  refine fnF_retD (k := m0.length) (m' := m') ?_ (Nat.le_refl _) S'.at_ S'.take
  unfold b_closed_table
  refine k_then p1 (k_then p2 (k_then (r1 := rT h m0.length v' x6' x7' x8') (m1 := m') ?_ rfl))
  rw [← hN]
  exact e
theorem v_win_table {h : Hs} (ok : HsOk 3 3 h) (m : Mu) : f_win_table [.d (eH h)] m = .ok (.d (.dict ((tabP h).map kv))) m := by
  have hc := v_closed ok m
  refine fnF_ret ?_
  unfold b_win_table
  simp [fVar, fC, fNil, fCons, fTup, fLst, fLstN, fBin, fChain_eq, fTb_eq, fAndT, fOrT, fNotT, fAndV_eq, fOrV_eq, fNotV_eq, fIf, fIsN, fNotN, fIsi, fCall, fBi, fRet, fSet, fAsg, fPar, fPar3, fIfS_eq, fThen, fDrop, fNext, fSt, startR, subTy, kBl, mkT, hc]
end Wy

set_option Elab.async false
set_option linter.all false
set_option maxRecDepth 100000
set_option maxHeartbeats 4000000
/-! M21: a line of another chooser. -/
namespace Wy
open PySem PySem.Spec PyProof.Rows L2 PySem.W
theorem cut_to {α : Type} {xs : List α} {a : Nat} (h : a ≤ xs.length) : cutA xs none (some (a : Int)) = xs.take a := by
  unfold cutA
  rw [HT.sIx_nat, HT.sIx_none, Nat.min_eq_left h]
  rfl
theorem cut_from {α : Type} {xs : List α} {a : Nat} (h : a ≤ xs.length) : cutA xs (some (a : Int)) none = xs.drop a := by
  unfold cutA
  rw [HT.sIx_nat, HT.sIx_none, Nat.min_eq_left h]
  exact List.take_of_length_le (by rw [List.length_drop]; omega)
def flipL (l : Ln) : Ln := ⟨!l.me, l.opts⟩
def putH (h : Hs) (e : Nat) (ls : List Ln) (a : Nat) (l : Ln) : Hs := ⟨h.s, h.es.take e ++ [ls.take a ++ [l] ++ ls.drop (a + 1)] ++ h.es.drop (e + 1)⟩
theorem gSl_to {ds : List PyData} {a : Nat} {m : Mu} (h : a ≤ ds.length) : gSl (.d (.tuple ds)) none (some (a : Int)) m = .ok (.d (.tuple (ds.take a))) m := by
  rw [← cut_to h]; rfl
theorem gSl_from {ds : List PyData} {a : Nat} {m : Mu} (h : a < ds.length) : gSl (.d (.tuple ds)) (some ((a : Int) + 1)) none m = .ok (.d (.tuple (ds.drop (a + 1)))) m := by
  rw [← cut_from (show a + 1 ≤ ds.length from h)]; rfl
theorem putH_ok {h : Hs} (ok : HsOk 3 3 h) {e a : Nat} {ls : List Ln} {l : Ln} (he : h.es[e]? = some ls) (ha : ls[a]? = some l) : HsOk 3 3 (putH h e ls a (flipL l)) := by
  have hel : e < h.es.length := (List.getElem?_eq_some_iff.mp he).1
  have hal : a < ls.length := (List.getElem?_eq_some_iff.mp ha).1
  have hE : (putH h e ls a (flipL l)).es.length = h.es.length := by
    unfold putH
    simp
    omega
  have hL : (ls.take a ++ [flipL l] ++ ls.drop (a + 1)).length = ls.length := by
    simp
    omega
  refine ⟨ok.s, fun z => ?_, by rw [hE]; exact ok.few, fun xs hx => ?_⟩
  · rw [z] at hE
    exact absurd hE (by simp; omega)
  · rw [hE]
    obtain ⟨n1, n2, n3⟩ := ok.errand ls (List.mem_of_getElem? he)
    rcases List.mem_append.mp hx with hx | hx
    · rcases List.mem_append.mp hx with hx | hx
      · exact ok.errand xs (List.mem_of_mem_take hx)
      · rw [List.mem_singleton.mp hx, hL]
        refine ⟨fun z => ?_, n2, fun y hy => ?_⟩
        · rw [z] at hL
          exact absurd hL (by simp; omega)
        · rcases List.mem_append.mp hy with hy | hy
          · rcases List.mem_append.mp hy with hy | hy
            · exact n3 y (List.mem_of_mem_take hy)
            · rw [List.mem_singleton.mp hy]
              obtain ⟨q1, q2, q3, q4⟩ := n3 l (List.mem_of_getElem? ha)
              exact ⟨q1, q2, q3, q4⟩
          · exact n3 y (List.mem_of_mem_drop hy)
    · exact ok.errand xs (List.mem_of_mem_drop hx)
theorem eH_put {h : Hs} {e a : Nat} {ls : List Ln} {l : Ln} : eH (putH h e ls a l) = .tuple [.int h.s, .tuple ((h.es.map eE).take e ++ [.tuple ((ls.map eL).take a ++ [eL l] ++ (ls.map eL).drop (a + 1))] ++ (h.es.map eE).drop (e + 1))] := by
  unfold eH putH eE
  simp only [List.map_append, List.map_take, List.map_drop, List.map_cons, List.map_nil]
/-- t[:k] + (x,) + t[k+1:] -/
theorem e_put {fa fk fx : FE} {r : Rh} {m : Mu} {ds : List PyData} {k : Nat} {x : PyData} (h1 : fa r m = .ok (.d (.tuple ds)) m) (h2 : fk r m = .ok (.d (.int (k : Int))) m) (h3 : fx r m = .ok (.d x) m) (hk : k < ds.length) (hl : ds.length ≤ 1000) :
    fBin gAdd (fBin gAdd (fSl fa fNoP (fPart fk)) (fTup (fCons fx fNil))) (fSl fa (fPart (fBin gAdd fk (fC (.int 1)))) fNoP) r m = .ok (.d (.tuple (ds.take k ++ [x] ++ ds.drop (k + 1)))) m := by
  have s1 : fSl fa fNoP (fPart fk) r m = .ok (.d (.tuple (ds.take k))) m := by
    unfold fSl fNoP fPart
    rw [h1, bind_ok, bind_ok, h2, bind_ok]
    dsimp only
    rw [bind_ok, gSl_to (by omega)]
  have s2 : fSl fa (fPart (fBin gAdd fk (fC (.int 1)))) fNoP r m = .ok (.d (.tuple (ds.drop (k + 1)))) m := by
    have : fBin gAdd fk (fC (.int 1)) r m = .ok (.d (.int ((k : Int) + 1))) m := k_bin h2 rfl (e_add (m := m))
    unfold fSl fNoP fPart
    rw [h1, bind_ok, this, bind_ok]
    dsimp only
    rw [bind_ok, bind_ok, gSl_from (by omega)]
  have s3 : fTup (fCons fx fNil) r m = .ok (.d (.tuple [x])) m := by
    unfold fTup
    rw [k_cons h3 k_nil, bind_ok]
    rfl
  refine k_bin (k_bin s1 s3 (e_addT ?_)) s2 (e_addT ?_)
  · rw [List.length_take, List.length_singleton]
    omega
  · rw [List.length_append, List.length_take, List.length_singleton, List.length_drop]
    omega
end Wy

set_option Elab.async false
set_option linter.all false
set_option maxRecDepth 100000
set_option maxHeartbeats 4000000
/-! M22: with_line, with_other, _law_put_line. -/
namespace Wy
open PySem PySem.Spec PyProof.Rows L2 PySem.W
theorem k_tup {fa : FA} {r : Rh} {m m1 : Mu} {ws : List W} (h : fa r m = .ok ws m1) (hl : ws.length ≤ 1000) : fTup fa r m = .ok (mkT ws) m1 := by
  unfold fTup
  rw [h, bind_ok, if_pos hl]
theorem k_ret {k : Bool} {fe : FE} {r : Rh} {m m1 : Mu} {w : W} (h : fe r m = .ok w m1) : fRet k fe r m = .ret k w m1 := by
  unfold fRet
  rw [h, toS_ok]
theorem lt_of_at {α : Type} {xs : List α} {i : Nat} {x : α} (h : xs[i]? = some x) : i < xs.length := (List.getElem?_eq_some_iff.mp h).1
theorem hs_len {h : Hs} (ok : HsOk 3 3 h) : h.es.length ≤ 3 := by
  have := ok.few
  omega
theorem ls_len {h : Hs} (ok : HsOk 3 3 h) {e : Nat} {ls : List Ln} (he : h.es[e]? = some ls) : ls.length ≤ 3 := by
  have := (ok.errand ls (List.mem_of_getElem? he)).2.1
  omega
theorem v_put_line {h : Hs} (ok : HsOk 3 3 h) {e a : Nat} {ls : List Ln} {l l' : Ln} (he : h.es[e]? = some ls) (ha : ls[a]? = some l) (m : Mu) :
    f__law_put_line [.d (eH h), .d (.int (e : Int)), .d (.int (a : Int)), .d (eL l')] m = .ok (.d (eH (putH h e ls a l'))) m := by
  have i0 : gIx (.d (eH h)) (.d (.int 0)) m = .ok (.d (.int h.s)) m := tup0
  have i1 : gIx (.d (eH h)) (.d (.int 1)) m = .ok (.d (.tuple (h.es.map eE))) m := tup1
  have i2 : gIx (.d (.tuple (h.es.map eE))) (.d (.int (e : Int))) m = .ok (.d (eE ls)) m := ix_tup (atN (by simp [he]))
  have l1 := hs_len ok
  have l2 := ls_len ok he
  refine fnF_ret ?_
  unfold b__law_put_line
  refine k_then (k_set (w := .d (eE ls)) (m1 := m) (by simp [fVar, fC, fNil, fCons, fTup, fLst, fLstN, fBin, fChain_eq, fTb_eq, fAndT, fOrT, fNotT, fAndV_eq, fOrV_eq, fNotV_eq, fIf, fIsN, fNotN, fIsi, fCall, fBi, fRet, fSet, fAsg, fPar, fPar3, fIfS_eq, fThen, fDrop, fNext, fSt, startR, subTy, kBl, mkT, i1, i2])) (k_then (k_set (e_put (ds := ls.map eL) (k := a) (x := eL l') rfl rfl rfl (by rw [List.length_map]; exact lt_of_at ha) (by rw [List.length_map]; omega))) ?_)
  generalize hx : (PyData.tuple ((ls.map eL).take a ++ [eL l'] ++ (ls.map eL).drop (a + 1))) = x
  rw [eH_put, hx]
  have h1 : fBin gIx (fVar 0) (fC (.int 1)) [some (.d (eH h)), some (.d (.int (e : Int))), some (.d (.int (a : Int))), some (.d (eL l')), some (.d x)] m = .ok (.d (.tuple (h.es.map eE))) m := k_bin rfl rfl i1
  have h2 := e_put (fk := fVar 1) (fx := fVar 4) (k := e) (x := x) h1 rfl rfl (by rw [List.length_map]; exact lt_of_at he) (by rw [List.length_map]; omega)
  have h0 : fBin gIx (fVar 0) (fC (.int 0)) [some (.d (eH h)), some (.d (.int (e : Int))), some (.d (.int (a : Int))), some (.d (eL l')), some (.d x)] m = .ok (.d (.int h.s)) m := k_bin rfl rfl i0
  exact k_ret (k_tup (k_cons h0 (k_cons h2 k_nil)) (by simp))
theorem v_with_line {h : Hs} (ok : HsOk 3 3 h) {e a : Nat} {ls : List Ln} {l l' : Ln} (he : h.es[e]? = some ls) (ha : ls[a]? = some l) (m : Mu) :
    f_with_line [.d (eH h), .d (.int (e : Int)), .d (.int (a : Int)), .d (eL l')] m = .ok (.d (eH (putH h e ls a l'))) m := by
  have i2 : gIx (.d (.tuple (h.es.map eE))) (.d (.int (e : Int))) m = .ok (.d (eE ls)) m := ix_tup (atN (by simp [he]))
  have l1 := hs_len ok
  have l2 := ls_len ok he
  refine fnF_ret ?_
  unfold b_with_line
  have p1 : fAsg (.tp [.nm 4, .nm 5]) (fVar 0) (startR 7 [.d (eH h), .d (.int (e : Int)), .d (.int (a : Int)), .d (eL l')]) m = .next [some (.d (eH h)), some (.d (.int (e : Int))), some (.d (.int (a : Int))), some (.d (eL l')), some (.d (.int h.s)), some (.d (.tuple (h.es.map eE))), none] m := rfl
  have h1 : fBin gIx (fVar 5) (fVar 1) [some (.d (eH h)), some (.d (.int (e : Int))), some (.d (.int (a : Int))), some (.d (eL l')), some (.d (.int h.s)), some (.d (.tuple (h.es.map eE))), none] m = .ok (.d (.tuple (ls.map eL))) m := k_bin rfl rfl i2
  refine k_then p1 (k_then (k_set (e_put (fk := fVar 2) (fx := fVar 3) (ds := ls.map eL) (k := a) (x := eL l') h1 rfl rfl (by rw [List.length_map]; exact lt_of_at ha) (by rw [List.length_map]; omega))) ?_)
  generalize hx : (PyData.tuple ((ls.map eL).take a ++ [eL l'] ++ (ls.map eL).drop (a + 1))) = x
  rw [eH_put, hx]
  have h2 := e_put (fa := fVar 5) (fk := fVar 1) (fx := fVar 6) (m := m) (ds := h.es.map eE) (r := [some (.d (eH h)), some (.d (.int (e : Int))), some (.d (.int (a : Int))), some (.d (eL l')), some (.d (.int h.s)), some (.d (.tuple (h.es.map eE))), some (.d x)]) (k := e) (x := x) rfl rfl rfl (by rw [List.length_map]; exact lt_of_at he) (by rw [List.length_map]; omega)
  exact k_ret (k_tup (k_cons (m1 := m) (w := .d (.int h.s)) rfl (k_cons h2 k_nil)) (by simp))
theorem v_with_other {h : Hs} (ok : HsOk 3 3 h) {e a : Nat} {ls : List Ln} {l : Ln} (he : h.es[e]? = some ls) (ha : ls[a]? = some l) (m : Mu) :
    f_with_other [.d (eH h), .d (.int (e : Int)), .d (.int (a : Int))] m = .ok (.d (eH (putH h e ls a (flipL l)))) m := by
  obtain ⟨_, _, i3, _, _⟩ := e_house he ha m
  have i1 : gIx (.d (eH h)) (.d (.int 1)) m = .ok (.d (.tuple (h.es.map eE))) m := tup1
  have i2 : gIx (.d (.tuple (h.es.map eE))) (.d (.int (e : Int))) m = .ok (.d (eE ls)) m := ix_tup (atN (by simp [he]))
  have hw := v_with_line ok (l' := flipL l) he ha m
  have ew := e_who (b := l.me) (m := m)
  refine fnF_ret ?_
  unfold b_with_other
  have h1 : fBin gIx (fBin gIx (fBin gIx (fVar 0) (fC (.int 1))) (fVar 1)) (fVar 2) (startR 5 [.d (eH h), .d (.int (e : Int)), .d (.int (a : Int))]) m = .ok (.d (eL l)) m := k_bin (k_bin (k_bin rfl rfl i1) rfl i2) rfl i3
  refine k_then (r1 := [some (.d (eH h)), some (.d (.int (e : Int))), some (.d (.int (a : Int))), some (.d (whoD l.me)), some (.d (.tuple (l.opts.map eO)))]) (m1 := m) (by unfold fAsg; rw [h1]; rfl) ?_
  have hf : eL (flipL l) = .tuple [(if l.me = true then .str "they" else .str "me"), .tuple (l.opts.map eO)] := by
    unfold eL flipL whoD
    cases l.me <;> rfl
  rw [hf] at hw
  cases hme : l.me with
  | true =>
    rw [hme] at ew hw
    rw [if_pos rfl] at hw
    simp [fVar, fC, fNil, fCons, fTup, fLst, fLstN, fBin, fChain_eq, fTb_eq, fAndT, fOrT, fNotT, fAndV_eq, fOrV_eq, fNotV_eq, fIf, fIsN, fNotN, fIsi, fCall, fBi, fRet, fSet, fAsg, fPar, fPar3, fIfS_eq, fThen, fDrop, fNext, fSt, startR, subTy, kBl, mkT, ew, hw]
  | false =>
    rw [hme] at ew hw
    rw [if_neg (by simp)] at hw
    simp [fVar, fC, fNil, fCons, fTup, fLst, fLstN, fBin, fChain_eq, fTb_eq, fAndT, fOrT, fNotT, fAndV_eq, fOrV_eq, fNotV_eq, fIf, fIsN, fNotN, fIsi, fCall, fBi, fRet, fSet, fAsg, fPar, fPar3, fIfS_eq, fThen, fDrop, fNext, fSt, startR, subTy, kBl, mkT, ew, hw]
end Wy

set_option Elab.async false
set_option linter.all false
set_option maxRecDepth 100000
set_option maxHeartbeats 4000000
/-! M23: turning_lines. -/
namespace Wy
open PySem PySem.Spec PyProof.Rows L2 PySem.W
noncomputable def winB (h : Hs) (e st : Int) (w : List Int) : Bool := hasK ((tabP h).map kv) e 0 st w
def ePr (p : Nat × Nat) : PyData := .tuple [.int (p.1 : Int), .int (p.2 : Int)]
noncomputable def turnB (h : Hs) (e st : Int) (w : List Int) (i : Nat) (ls : List Ln) (p : Ln × Nat) : Bool := winB (putH h i ls p.2 (flipL p.1)) e st w != winB h e st w
noncomputable def rowT (h : Hs) (e st : Int) (w : List Int) (q : List Ln × Nat) : List (Nat × Nat) := (q.1.zipIdx.filter fun p => turnB h e st w q.2 q.1 p).map fun p => (q.2, p.2)
noncomputable def turnL (h : Hs) (e st : Int) (w : List Int) : List (Nat × Nat) := h.es.zipIdx.flatMap (rowT h e st w)
theorem e_neB {a b : Bool} {m : Mu} : gNe (.d (.bool a)) (.d (.bool b)) m = .ok (.d (.bool (a != b))) m := by
  cases a <;> cases b <;> rfl
def rU (h : Hs) (e st : Int) (w : List Int) (v : Option W) (d : Option W) (x6 x7 x8 : Option W) : Rh := [some (.d (eH h)), some (.d (.int e)), some (.d (.int st)), some (.d (eW w)), v, d, x6, x7, x8]
theorem k_key {h : Hs} {e st : Int} {w : List Int} {v d x6 x7 x8 : Option W} {m : Mu} : fTup (fCons (fVar 1) (fCons (fC (.int 0)) (fCons (fVar 2) (fCons (fVar 3) fNil)))) (rU h e st w v d x6 x7 x8) m = .ok (.d (eKey e 0 st w)) m := rfl
theorem e_app {m0 m : Mu} {ds : List PyData} {fo : FE} {fa : FA} {r : Rh} {x : PyData} (S : St1 m0 (.lst ds) m) (h1 : fo r m = .ok (.loc m0.length) m) (h2 : fa r m = .ok [.d x] m) (hl : ds.length < 1000000) :
    ∃ m', fDrop (fApp fo fa) r m = .next r m' ∧ St1 m0 (.lst (ds ++ [x])) m' := by
  refine ⟨_, ?_, S.set⟩
  have ha : appW (.loc m0.length) (.d x) m = some (m.set m0.length (.lst (ds ++ [x]))) := by
    unfold appW
    dsimp only
    rw [S.at_]
    dsimp only
    rw [if_pos hl]
  unfold fDrop fApp
  rw [h1, bind_ok]
  dsimp only
  rw [S.at_]
  dsimp only
  rw [h2, bind_ok]
  dsimp only
  rw [ha]
  rfl
theorem turn_step {h : Hs} (ok : HsOk 3 3 h) {e st : Int} {w : List Int} {i : Nat} {ls : List Ln} {p : Ln × Nat} (he : h.es[i]? = some ls) (hp : p ∈ ls.zipIdx) {m0 m : Mu} {acc : List (Nat × Nat)} {x7 : Option W} (S : St1 m0 (.lst (acc.map ePr)) m) (hl : acc.length ≤ 1000) :
    ∃ m', (fIfS (fTb (fBin gNe (fBin gIn (fTup (fCons (fVar 1) (fCons (fC (.int 0)) (fCons (fVar 2) (fCons (fVar 3) fNil))))) (fCall 1 f_win_table (fCons (fCall 3 f_with_other (fCons (fVar 0) (fCons (fVar 6) (fCons (fVar 8) fNil)))) fNil))) (fVar 4))) (fDrop (fApp (fVar 5) (fCons (fTup (fCons (fVar 6) (fCons (fVar 8) fNil))) fNil))) fNext)
      (rU h e st w (some (.d (.bool (winB h e st w)))) (some (.loc m0.length)) (some (.d (.int (i : Int)))) x7 (some (.d (.int (p.2 : Int))))) m = .next (rU h e st w (some (.d (.bool (winB h e st w)))) (some (.loc m0.length)) (some (.d (.int (i : Int)))) x7 (some (.d (.int (p.2 : Int))))) m' ∧
      St1 m0 (.lst ((acc ++ if turnB h e st w i ls p = true then [(i, p.2)] else []).map ePr)) m' := by
  have ha := at_zipIdx hp
  have hw := v_with_other ok he ha m
  have ht := v_win_table (putH_ok ok he ha) m
  have hk := e_inKD (e := e) (a := 0) (s := st) (w := w) (es := (tabP (putH h i ls p.2 (flipL p.1))).map kv) (m := m)
  have hne := e_neB (a := winB (putH h i ls p.2 (flipL p.1)) e st w) (b := winB h e st w) (m := m)
  generalize hr : rU h e st w (some (.d (.bool (winB h e st w)))) (some (.loc m0.length)) (some (.d (.int (i : Int)))) x7 (some (.d (.int (p.2 : Int)))) = r
  have a1 : fCall 3 f_with_other (fCons (fVar 0) (fCons (fVar 6) (fCons (fVar 8) fNil))) r m = .ok (.d (eH (putH h i ls p.2 (flipL p.1)))) m := by
    subst hr
    unfold rU
    simp [fVar, fC, fNil, fCons, fTup, fLst, fLstN, fBin, fChain_eq, fTb_eq, fAndT, fOrT, fNotT, fAndV_eq, fOrV_eq, fNotV_eq, fIf, fIsN, fNotN, fIsi, fCall, fBi, fRet, fSet, fAsg, fPar, fPar3, fIfS_eq, fThen, fDrop, fNext, fSt, startR, subTy, kBl, mkT, hw]
  have a2 : fCall 1 f_win_table (fCons (fCall 3 f_with_other (fCons (fVar 0) (fCons (fVar 6) (fCons (fVar 8) fNil)))) fNil) r m = .ok (.d (.dict ((tabP (putH h i ls p.2 (flipL p.1))).map kv))) m := by
    unfold fCall at a1 ⊢
    rw [k_cons a1 k_nil, bind_ok]
    simpa using ht
  have a3 : fTb (fBin gNe (fBin gIn (fTup (fCons (fVar 1) (fCons (fC (.int 0)) (fCons (fVar 2) (fCons (fVar 3) fNil))))) (fCall 1 f_win_table (fCons (fCall 3 f_with_other (fCons (fVar 0) (fCons (fVar 6) (fCons (fVar 8) fNil)))) fNil))) (fVar 4)) r m = .ok (turnB h e st w i ls p) m := by
    have b1 := k_bin (g := gIn) (fa := fTup (fCons (fVar 1) (fCons (fC (.int 0)) (fCons (fVar 2) (fCons (fVar 3) fNil))))) (r := r) (m := m) (by subst hr; exact k_key) a2 hk
    have b2 := k_bin (g := gNe) (fb := fVar 4) b1 (b := .d (.bool (winB h e st w))) (m2 := m) (by subst hr; rfl) hne
    rw [fTb_eq, b2]
    rfl
  cases hz : turnB h e st w i ls p with
  | false =>
    rw [hz] at a3
    refine ⟨m, ?_, ?_⟩
    · rw [fIfS_eq, a3]; rfl
    · rw [if_neg (by simp), List.append_nil]; exact S
  | true =>
    rw [hz] at a3
    obtain ⟨m', e1, S'⟩ := e_app (fo := fVar 5) (fa := fCons (fTup (fCons (fVar 6) (fCons (fVar 8) fNil))) fNil) (r := r) (x := ePr (i, p.2)) S (by subst hr; rfl) (by subst hr; rfl) (by rw [List.length_map]; omega)
    refine ⟨m', ?_, ?_⟩
    · rw [fIfS_eq, a3]; exact e1
    · rw [if_pos rfl, List.map_append]; exact S'
end Wy

set_option Elab.async false
set_option linter.all false
set_option maxRecDepth 100000
set_option maxHeartbeats 4000000
/-! M24: turning_lines. -/
namespace Wy
open PySem PySem.Spec PyProof.Rows L2 PySem.W
theorem filt_app {α β : Type} (f : α → Bool) (g : α → β) (done : List α) (x : α) (acc : List β) : (acc ++ (done.filter f).map g) ++ (if f x = true then [g x] else []) = acc ++ ((done ++ [x]).filter f).map g := by
  rw [List.filter_append, List.map_append, ← List.append_assoc]
  cases hz : f x <;> simp [hz]
theorem row_len {h : Hs} {e st : Int} {w : List Int} {q : List Ln × Nat} : (rowT h e st w q).length ≤ q.1.length := by
  unfold rowT
  rw [List.length_map]
  exact Nat.le_trans (List.length_filter_le _ _) (by simp)
theorem turn_row {h : Hs} (ok : HsOk 3 3 h) {e st : Int} {w : List Int} {q : List Ln × Nat} (hq : q ∈ h.es.zipIdx) {m0 m : Mu} {acc : List (Nat × Nat)} {x8 : Option W} (S : St1 m0 (.lst (acc.map ePr)) m) (hl : acc.length ≤ 900) :
    ∃ x8' m', fFor (fRng1 (fBi gLen (fCons (fVar 7) fNil))) (.nm 8) (fIfS (fTb (fBin gNe (fBin gIn (fTup (fCons (fVar 1) (fCons (fC (.int 0)) (fCons (fVar 2) (fCons (fVar 3) fNil))))) (fCall 1 f_win_table (fCons (fCall 3 f_with_other (fCons (fVar 0) (fCons (fVar 6) (fCons (fVar 8) fNil)))) fNil))) (fVar 4))) (fDrop (fApp (fVar 5) (fCons (fTup (fCons (fVar 6) (fCons (fVar 8) fNil))) fNil))) fNext)
      (rU h e st w (some (.d (.bool (winB h e st w)))) (some (.loc m0.length)) (some (.d (.int (q.2 : Int)))) (some (.d (eE q.1))) x8) m = .next (rU h e st w (some (.d (.bool (winB h e st w)))) (some (.loc m0.length)) (some (.d (.int (q.2 : Int)))) (some (.d (eE q.1))) x8') m' ∧
      St1 m0 (.lst ((acc ++ rowT h e st w q).map ePr)) m' := by
  have he := at_zipIdx hq
  have hll := ls_len ok he
  have l1 : gLen [.d (eE q.1)] m = .ok (.d (.int q.1.length)) m := by
    unfold eE
    rw [len_tup, List.length_map]
  have hr := rng1 (f := fBi gLen (fCons (fVar 7) fNil)) (r := rU h e st w (some (.d (.bool (winB h e st w)))) (some (.loc m0.length)) (some (.d (.int (q.2 : Int)))) (some (.d (eE q.1))) x8) (m := m) (m' := m) (k := (q.1.length : Int)) l1 (by omega) (by omega)
  rw [Int.toNat_natCast, range_zipIdx] at hr
  obtain ⟨r', m', hc, done, x8', er, hdn, S'⟩ := for_inv (pt := .nm 8) (fb := (fIfS (fTb (fBin gNe (fBin gIn (fTup (fCons (fVar 1) (fCons (fC (.int 0)) (fCons (fVar 2) (fCons (fVar 3) fNil))))) (fCall 1 f_win_table (fCons (fCall 3 f_with_other (fCons (fVar 0) (fCons (fVar 6) (fCons (fVar 8) fNil)))) fNil))) (fVar 4))) (fDrop (fApp (fVar 5) (fCons (fTup (fCons (fVar 6) (fCons (fVar 8) fNil))) fNil))) fNext))
    (fun p : Ln × Nat => W.d (.int (p.2 : Int)))
    (fun rest r m => ∃ (done : List (Ln × Nat)) (x8 : Option W), r = rU h e st w (some (.d (.bool (winB h e st w)))) (some (.loc m0.length)) (some (.d (.int (q.2 : Int)))) (some (.d (eE q.1))) x8 ∧ done ++ rest = q.1.zipIdx ∧ St1 m0 (.lst ((acc ++ (done.filter fun p => turnB h e st w q.2 q.1 p).map fun p => (q.2, p.2)).map ePr)) m)
    q.1.zipIdx _ m ⟨[], x8, rfl, rfl, by simpa using S⟩
    (fun p rest r m ⟨done, x8, er, hdn, S⟩ => by
      subst er
      have hp : p ∈ q.1.zipIdx := by rw [← hdn]; simp
      have hd : done.length ≤ 3 := by
        have : (done ++ p :: rest).length = q.1.length := by rw [hdn, List.length_zipIdx]
        rw [List.length_append] at this
        omega
      have hf := List.length_filter_le (fun p => turnB h e st w q.2 q.1 p) done
      obtain ⟨m', e1, S'⟩ := turn_step ok he hp (x7 := some (.d (eE q.1))) (e := e) (st := st) (w := w) S (by rw [List.length_append, List.length_map]; omega)
      refine ⟨_, rfl, _, m', .inl e1, done ++ [p], some (.d (.int (p.2 : Int))), rfl, by rw [← hdn]; simp, ?_⟩
      have := filt_app (fun p => turnB h e st w q.2 q.1 p) (fun p : Ln × Nat => (q.2, p.2)) done p acc
      rw [← this]
      exact S')
  rw [List.append_nil] at hdn
  subst er hdn
  exact ⟨x8', m', k_for hr hc, S'⟩
theorem v_turning {h : Hs} (ok : HsOk 3 3 h) {e st : Int} {w : List Int} (he : 0 ≤ e ∧ e < h.es.length) (hs : 0 ≤ st ∧ st < h.s) (hw : Wish h.s w) (m0 : Mu) :
    f_turning_lines [.d (eH h), .d (.int e), .d (.int st), .d (eW w)] m0 = .ok (.d (.list ((turnL h e st w).map ePr))) m0 := by
  have nb := v_need_begin ok he hs m0
  have nw : f_need_wish [.d (eH h), .d (eW w)] m0 = .ok (.d .none) m0 := v_need_wish ok hw m0
  have ht := v_win_table ok m0
  have hk := e_inKD (e := e) (a := 0) (s := st) (w := w) (es := (tabP h).map kv) (m := m0)
  have i1 : gIx (.d (eH h)) (.d (.int 1)) (m0 ++ [Ob.lst []]) = .ok (.d (.tuple (h.es.map eE))) (m0 ++ [Ob.lst []]) := tup1
  have hl3 := hs_len ok
  have p1 : fDrop (fCall 3 f_need_begin (fCons (fVar 0) (fCons (fVar 1) (fCons (fVar 2) fNil)))) (startR 9 [.d (eH h), .d (.int e), .d (.int st), .d (eW w)]) m0 = .next (rU h e st w none none none none none) m0 := by
    unfold rU
    simp [fVar, fC, fNil, fCons, fTup, fLst, fLstN, fBin, fChain_eq, fTb_eq, fAndT, fOrT, fNotT, fAndV_eq, fOrV_eq, fNotV_eq, fIf, fIsN, fNotN, fIsi, fCall, fBi, fRet, fSet, fAsg, fPar, fPar3, fIfS_eq, fThen, fDrop, fNext, fSt, startR, subTy, kBl, mkT, nb]
  have p2 : fDrop (fCall 2 f_need_wish (fCons (fVar 0) (fCons (fVar 3) fNil))) (rU h e st w none none none none none) m0 = .next (rU h e st w none none none none none) m0 := by
    unfold rU
    simp [fVar, fC, fNil, fCons, fTup, fLst, fLstN, fBin, fChain_eq, fTb_eq, fAndT, fOrT, fNotT, fAndV_eq, fOrV_eq, fNotV_eq, fIf, fIsN, fNotN, fIsi, fCall, fBi, fRet, fSet, fAsg, fPar, fPar3, fIfS_eq, fThen, fDrop, fNext, fSt, startR, subTy, kBl, mkT, nw]
  have a2 : fCall 1 f_win_table (fCons (fVar 0) fNil) (rU h e st w none none none none none) m0 = .ok (.d (.dict ((tabP h).map kv))) m0 := by
    unfold rU
    simp [fVar, fC, fNil, fCons, fTup, fLst, fLstN, fBin, fChain_eq, fTb_eq, fAndT, fOrT, fNotT, fAndV_eq, fOrV_eq, fNotV_eq, fIf, fIsN, fNotN, fIsi, fCall, fBi, fRet, fSet, fAsg, fPar, fPar3, fIfS_eq, fThen, fDrop, fNext, fSt, startR, subTy, kBl, mkT, ht]
  have p3 : fSet 4 (fBin gIn (fTup (fCons (fVar 1) (fCons (fC (.int 0)) (fCons (fVar 2) (fCons (fVar 3) fNil))))) (fCall 1 f_win_table (fCons (fVar 0) fNil))) (rU h e st w none none none none none) m0 = .next (rU h e st w (some (.d (.bool (winB h e st w)))) none none none none) m0 := k_set (k_bin k_key a2 hk)
  have p4 : fSet 5 (fLstN fNil) (rU h e st w (some (.d (.bool (winB h e st w)))) none none none none) m0 = .next (rU h e st w (some (.d (.bool (winB h e st w)))) (some (.loc m0.length)) none none none) (m0 ++ [Ob.lst []]) := rfl
  have hen := e_enumT (f := fBin gIx (fVar 0) (fC (.int 1))) (r := rU h e st w (some (.d (.bool (winB h e st w)))) (some (.loc m0.length)) none none none) (m := m0 ++ [Ob.lst []]) (m' := m0 ++ [Ob.lst []]) (k_bin rfl rfl i1)
  rw [zipIdx_map, List.map_map] at hen
  obtain ⟨r', m', hc, done, x6, x7, x8, er, hdn, S'⟩ := for_inv (pt := .tp [.nm 6, .nm 7]) (fb := fFor (fRng1 (fBi gLen (fCons (fVar 7) fNil))) (.nm 8) (fIfS (fTb (fBin gNe (fBin gIn (fTup (fCons (fVar 1) (fCons (fC (.int 0)) (fCons (fVar 2) (fCons (fVar 3) fNil))))) (fCall 1 f_win_table (fCons (fCall 3 f_with_other (fCons (fVar 0) (fCons (fVar 6) (fCons (fVar 8) fNil)))) fNil))) (fVar 4))) (fDrop (fApp (fVar 5) (fCons (fTup (fCons (fVar 6) (fCons (fVar 8) fNil))) fNil))) fNext))
    ((fun q : PyData × Nat => W.d (.tuple [.int (q.2 : Int), q.1])) ∘ fun q : List Ln × Nat => (eE q.1, q.2))
    (fun rest r m => ∃ (done : List (List Ln × Nat)) (x6 x7 x8 : Option W), r = rU h e st w (some (.d (.bool (winB h e st w)))) (some (.loc m0.length)) x6 x7 x8 ∧ done ++ rest = h.es.zipIdx ∧ St1 m0 (.lst ((done.flatMap (rowT h e st w)).map ePr)) m)
    h.es.zipIdx _ (m0 ++ [Ob.lst []]) ⟨[], none, none, none, rfl, rfl, [], rfl⟩
    (fun q rest r m ⟨done, x6, x7, x8, er, hdn, S⟩ => by
      subst er
      have hq : q ∈ h.es.zipIdx := by rw [← hdn]; simp
      have hd : done.length ≤ 3 := by
        have : (done ++ q :: rest).length = h.es.length := by rw [hdn, List.length_zipIdx]
        rw [List.length_append] at this
        omega
      have hfl := flat_le (rowT h e st w) 3 done fun x hx => by
        have hx : x ∈ h.es.zipIdx := by rw [← hdn]; exact List.mem_append_left _ hx
        exact Nat.le_trans row_len (ls_len ok (at_zipIdx hx))
      obtain ⟨x8', m', e1, S'⟩ := turn_row ok hq (e := e) (st := st) (w := w) (x8 := x8) S (by omega)
      refine ⟨_, rfl, _, m', .inl e1, done ++ [q], some (.d (.int (q.2 : Int))), some (.d (eE q.1)), x8', rfl, by rw [← hdn]; simp, ?_⟩
      rw [List.flatMap_append, List.flatMap_singleton]
      exact S')
  rw [List.append_nil] at hdn
  subst er hdn
  refine fnF_retL (k := m0.length) (m' := m') ?_ (Nat.le_refl _) S'.at_ S'.take
  unfold b_turning_lines
  exact k_then p1 (k_then p2 (k_then p3 (k_then p4 (k_then (k_for hen hc) rfl))))
end Wy

set_option Elab.async false
set_option linter.all false
set_option maxRecDepth 100000
set_option maxHeartbeats 4000000
/-! M25: a new deck; _law_same of like data. -/
namespace Wy
open PySem PySem.Spec PyProof.Rows L2 PySem.W
theorem fnF_retN {n : Nat} {fs : FS} {ws : List W} {m : Mu} {o : Ob} (h : fs (startR n ws) m = .ret true (.loc m.length) (m ++ [o])) : fnF n fs ws m = .ok (.loc m.length) (m ++ [o]) := by
  unfold fnF
  rw [h]
  simp [finW]
theorem v_deck (c t : Int) (ht : 0 ≤ t) (m : Mu) : ∃ o, f__law_deck [.d (.int c), .d (.int t)] m = .ok (.loc m.length) (m ++ [o]) ∧ Dk (m ++ [o]) m.length t := by
  have e1 : gPow (.d (.int 10)) (.d (.int 18)) m = .ok (.d (.int (10 ^ 18))) m := e_pow (by decide) (by decide) (by decide)
  have e2 : gMod (.d (.int c)) (.d (.int 2147483579)) m = .ok (.d (.int (c % 2147483579))) m := e_mod (by decide)
  have q1 : 0 ≤ c % 2147483579 := Int.emod_nonneg _ (by decide)
  have q2 : c % 2147483579 < 2147483579 := Int.emod_lt_of_pos _ (by decide)
  have e3 : gO cGe (.d (.int c)) (.d (.int (10 ^ 18))) m = .ok (.d (.bool (decide ((10 : Int) ^ 18 ≤ c)))) m := e_ge
  by_cases h : (10 : Int) ^ 18 ≤ c
  · rw [decide_eq_true h] at e3
    refine ⟨deckO (c - 10 ^ 18) (c % 2147483579) t, fnF_retN ?_, ⟨_, _, _, by simp; rfl, q1, by omega, ht, Int.le_refl _⟩⟩
    unfold b__law_deck
    have p1 : fIfS (fTb (fBin (gO cGe) (fVar 0) (fBin gPow (fC (.int 10)) (fC (.int 18))))) (fRet true (fLstN (fCons (fBin gSub (fVar 0) (fBin gPow (fC (.int 10)) (fC (.int 18)))) (fCons (fBin gMod (fVar 0) (fC (.int 2147483579))) (fCons (fVar 1) fNil))))) fNext (startR 2 [.d (.int c), .d (.int t)]) m = .ret true (.loc m.length) (m ++ [deckO (c - 10 ^ 18) (c % 2147483579) t]) := by
      have a1 : fBin gPow (fC (.int 10)) (fC (.int 18)) (startR 2 [.d (.int c), .d (.int t)]) m = .ok (.d (.int (10 ^ 18))) m := k_bin rfl rfl e1
      have a2 := k_bin (fa := fVar 0) (r := startR 2 [.d (.int c), .d (.int t)]) (m1 := m) (a := .d (.int c)) rfl a1 e3
      have a3 := k_bin (g := gSub) (fa := fVar 0) (r := startR 2 [.d (.int c), .d (.int t)]) (m1 := m) (a := .d (.int c)) rfl a1 (e_sub (m := m))
      have a4 : fBin gMod (fVar 0) (fC (.int 2147483579)) (startR 2 [.d (.int c), .d (.int t)]) m = .ok (.d (.int (c % 2147483579))) m := k_bin rfl rfl e2
      have a5 := k_cons a3 (k_cons a4 (k_cons (f := fVar 1) (m1 := m) (w := .d (.int t)) rfl k_nil))
      rw [fIfS_eq, fTb_eq, a2]
      simp only [bind_ok, onB_d, toS_ok, cond_true]
      refine k_ret ?_
      unfold fLstN
      rw [a5]
      rfl
    exact k_thenR p1
  · rw [decide_eq_false h] at e3
    refine ⟨deckO 0 (c % 2147483579) t, fnF_retN ?_, ⟨_, _, _, by simp; rfl, q1, by omega, ht, Int.le_refl _⟩⟩
    unfold b__law_deck
    have a1 : fBin gPow (fC (.int 10)) (fC (.int 18)) (startR 2 [.d (.int c), .d (.int t)]) m = .ok (.d (.int (10 ^ 18))) m := k_bin rfl rfl e1
    have a2 := k_bin (fa := fVar 0) (r := startR 2 [.d (.int c), .d (.int t)]) (m1 := m) (a := .d (.int c)) rfl a1 e3
    have a4 : fBin gMod (fVar 0) (fC (.int 2147483579)) (startR 2 [.d (.int c), .d (.int t)]) m = .ok (.d (.int (c % 2147483579))) m := k_bin rfl rfl e2
    have a5 := k_cons (f := fC (.int 0)) (r := startR 2 [.d (.int c), .d (.int t)]) (m1 := m) (w := .d (.int 0)) rfl (k_cons a4 (k_cons (f := fVar 1) (m1 := m) (w := .d (.int t)) rfl k_nil))
    refine k_then (r1 := startR 2 [.d (.int c), .d (.int t)]) (m1 := m) ?_ (k_ret ?_)
    · rw [fIfS_eq, fTb_eq, a2]
      rfl
    · unfold fLstN
      rw [a5]
      rfl
/-! ### the same -/
def sortI : PyData → Int
  | .bool _ => 1
  | .int _ => 2
  | .str _ => 3
  | .list _ => 4
  | .tuple _ => 5
  | _ => 6
theorem v_sort (x : PyData) (h : ∀ kvs, x ≠ .dict kvs) (m : Mu) : f__law_sort [.d x] m = .ok (.d (.int (sortI x))) m := by
  refine fnF_ret ?_
  unfold b__law_sort
  cases x with
  | dict kvs => exact absurd rfl (h kvs)
  | _ => simp [fVar, fC, fNil, fCons, fTup, fLst, fLstN, fBin, fChain_eq, fTb_eq, fAndT, fOrT, fNotT, fAndV_eq, fOrV_eq, fNotV_eq, fIf, fIsN, fNotN, fIsi, fCall, fBi, fRet, fSet, fAsg, fPar, fPar3, fIfS_eq, fThen, fDrop, fNext, fSt, startR, subTy, kBl, mkT, sortI]
mutual
theorem eqv_self : ∀ x : PyData, (∀ kvs, x ≠ .dict kvs) → sortI x ≠ 4 → sortI x ≠ 5 → PyData.eqv x x = true
  | .none, _, _, _ => rfl
  | .bool b, _, _, _ => by cases b <;> rfl
  | .int i, _, _, _ => by simp [PyData.eqv]
  | .str s, _, _, _ => by simp [PyData.eqv]
  | .list xs, _, h, _ => absurd rfl h
  | .tuple xs, _, _, h => absurd rfl h
  | .dict kvs, h, _, _ => absurd rfl (h kvs)
end
def sameOk : Nat → PyData → Bool
  | 0, _ => false
  | _, .dict _ => false
  | k + 1, .list xs => decide (xs.length ≤ 1000) && xs.all (sameOk k)
  | k + 1, .tuple xs => decide (xs.length ≤ 1000) && xs.all (sameOk k)
  | _, .str s => SeqAt.shaped (.str s)
  | _, _ => true
theorem same_nodict {k : Nat} {x : PyData} (h : sameOk k x = true) : ∀ kvs, x ≠ .dict kvs := by
  intro kvs e
  subst e
  cases k <;> simp [sameOk] at h
theorem e_eqLst {xs ys : List PyData} {m : Mu} : gEq (.d (.list [])) (.d (.list [])) m = .ok (.d (.bool true)) m := rfl
theorem same_items {k : Nat} (ih : ∀ (x : PyData) (m : Mu), sameOk k x = true → f__law_same k [.d x, .d x] m = .ok (.d (.bool true)) m) {x : PyData} {xs : List PyData} (hx : x = .list xs ∨ x = .tuple xs) (hl : xs.length ≤ 1000) (ha : ∀ y ∈ xs, sameOk k y = true) (m : Mu) :
    fComp (fEnum (fVar 0)) (.tp [(.nm 2), (.nm 3)]) [2, 3] (fNotT (fTb (fCall 2 (f__law_same k) (fCons (fVar 3) (fCons (fBin gIx (fVar 1) (fVar 2)) fNil))))) (fVar 2) (startR 4 [.d x, .d x]) m = .ok (.d (.list [])) m := by
  have he : fEnum (fVar 0) (startR 4 [.d x, .d x]) m = .ok ⟨xs.zipIdx.map fun q => W.d (.tuple [.int (q.2 : Int), q.1]), none⟩ m := by
    rcases hx with hx | hx
    · subst hx; exact e_enumL rfl
    · subst hx; exact e_enumT rfl
  have := e_comp (pt := .tp [(.nm 2), (.nm 3)]) (vs := [2, 3]) (ft := fNotT (fTb (fCall 2 (f__law_same k) (fCons (fVar 3) (fCons (fBin gIx (fVar 1) (fVar 2)) fNil))))) (fe := fVar 2) _ (fun _ => false) (fun q : PyData × Nat => .int (q.2 : Int)) xs.zipIdx he
    (fun q hq => by
      have hat := at_zipIdx hq
      have hix : gIx (.d x) (.d (.int (q.2 : Int))) m = .ok (.d q.1) m := by
        rcases hx with hx | hx
        · subst hx; exact ix_lst (atN hat)
        · subst hx; exact ix_tup (atN hat)
      have hs := ih q.1 m (ha q.1 (List.mem_of_getElem? hat))
      refine ⟨[some (.d x), some (.d x), some (.d (.int (q.2 : Int))), some (.d q.1)], rfl, ?_, fun z => by cases z⟩
      simp [fVar, fC, fNil, fCons, fTup, fLst, fLstN, fBin, fChain_eq, fTb_eq, fAndT, fOrT, fNotT, fAndV_eq, fOrV_eq, fNotV_eq, fIf, fIsN, fNotN, fIsi, fCall, fBi, fRet, fSet, fAsg, fPar, fPar3, fIfS_eq, fThen, fDrop, fNext, fSt, startR, subTy, kBl, mkT, hix, hs]) (by rw [List.length_zipIdx]; omega)
  rw [this]
  simp
theorem v_same : ∀ (k : Nat) (x : PyData) (m : Mu), sameOk k x = true → f__law_same k [.d x, .d x] m = .ok (.d (.bool true)) m
  | 0, x, m, h => by simp [sameOk] at h
  | k + 1, x, m, h => by
    have hs := v_sort x (same_nodict h) m
    have c1 : fCall 1 f__law_sort (fCons (fVar 0) fNil) (startR 4 [.d x, .d x]) m = .ok (.d (.int (sortI x))) m := by simp [fVar, fC, fNil, fCons, fTup, fLst, fLstN, fBin, fChain_eq, fTb_eq, fAndT, fOrT, fNotT, fAndV_eq, fOrV_eq, fNotV_eq, fIf, fIsN, fNotN, fIsi, fCall, fBi, fRet, fSet, fAsg, fPar, fPar3, fIfS_eq, fThen, fDrop, fNext, fSt, startR, subTy, kBl, mkT, hs]
    have c2 : fCall 1 f__law_sort (fCons (fVar 1) fNil) (startR 4 [.d x, .d x]) m = .ok (.d (.int (sortI x))) m := by simp [fVar, fC, fNil, fCons, fTup, fLst, fLstN, fBin, fChain_eq, fTb_eq, fAndT, fOrT, fNotT, fAndV_eq, fOrV_eq, fNotV_eq, fIf, fIsN, fNotN, fIsi, fCall, fBi, fRet, fSet, fAsg, fPar, fPar3, fIfS_eq, fThen, fDrop, fNext, fSt, startR, subTy, kBl, mkT, hs]
    have p1 : fIfS (fTb (fBin gNe (fCall 1 f__law_sort (fCons (fVar 0) fNil)) (fCall 1 f__law_sort (fCons (fVar 1) fNil)))) (fRet false (fC (.bool false))) fNext (startR 4 [.d x, .d x]) m = .next (startR 4 [.d x, .d x]) m := by
      rw [fIfS_eq, fTb_eq, k_bin c1 c2 (e_neI (m := m))]
      simp [fNext]
    have p2 : fAndT (fTb (fBin (gO cGt) (fCall 1 f__law_sort (fCons (fVar 0) fNil)) (fC (.int 3)))) (fTb (fBin (gO cLt) (fCall 1 f__law_sort (fCons (fVar 0) fNil)) (fC (.int 6)))) (startR 4 [.d x, .d x]) m = .ok (decide (3 < sortI x) && decide (sortI x < 6)) m := by
      have a1 : fTb (fBin (gO cGt) (fCall 1 f__law_sort (fCons (fVar 0) fNil)) (fC (.int 3))) (startR 4 [.d x, .d x]) m = .ok (decide (3 < sortI x)) m := by
        rw [fTb_eq, k_bin c1 rfl (e_gt (m := m))]
        rfl
      have a2 : fTb (fBin (gO cLt) (fCall 1 f__law_sort (fCons (fVar 0) fNil)) (fC (.int 6))) (startR 4 [.d x, .d x]) m = .ok (decide (sortI x < 6)) m := by
        rw [fTb_eq, k_bin c1 rfl (e_lt (m := m))]
        rfl
      unfold fAndT
      rw [a1, bind_ok]
      cases decide (3 < sortI x) with
      | false => rfl
      | true => simpa using a2
    have hit : ∀ xs : List PyData, (x = .list xs ∨ x = .tuple xs) → (decide (xs.length ≤ 1000) && xs.all (sameOk k)) = true → f__law_same (k + 1) [.d x, .d x] m = .ok (.d (.bool true)) m := by
      intro xs hx hh
      rw [Bool.and_eq_true, decide_eq_true_eq, List.all_eq_true] at hh
      have hi := same_items (v_same k) hx hh.1 hh.2 m
      have hl : gLen [.d x] m = .ok (.d (.int xs.length)) m := by
        rcases hx with hx | hx <;> (subst hx; rfl)
      have hso : (decide (3 < sortI x) && decide (sortI x < 6)) = true := by
        rcases hx with hx | hx <;> (subst hx; rfl)
      rw [hso] at p2
      have l0 : fBi gLen (fCons (fVar 0) fNil) (startR 4 [.d x, .d x]) m = .ok (.d (.int xs.length)) m := by simp [fVar, fC, fNil, fCons, fTup, fLst, fLstN, fBin, fChain_eq, fTb_eq, fAndT, fOrT, fNotT, fAndV_eq, fOrV_eq, fNotV_eq, fIf, fIsN, fNotN, fIsi, fCall, fBi, fRet, fSet, fAsg, fPar, fPar3, fIfS_eq, fThen, fDrop, fNext, fSt, startR, subTy, kBl, mkT, hl]
      have l1 : fBi gLen (fCons (fVar 1) fNil) (startR 4 [.d x, .d x]) m = .ok (.d (.int xs.length)) m := by simp [fVar, fC, fNil, fCons, fTup, fLst, fLstN, fBin, fChain_eq, fTb_eq, fAndT, fOrT, fNotT, fAndV_eq, fOrV_eq, fNotV_eq, fIf, fIsN, fNotN, fIsi, fCall, fBi, fRet, fSet, fAsg, fPar, fPar3, fIfS_eq, fThen, fDrop, fNext, fSt, startR, subTy, kBl, mkT, hl]
      refine fnF_ret ?_
      unfold b__law_same
      refine k_then p1 (k_thenR ?_)
      rw [fIfS_eq, p2]
      simp only [toS_ok, cond_true]
      refine k_then (r1 := startR 4 [.d x, .d x]) (m1 := m) ?_ (k_ret (k_bin hi rfl rfl))
      rw [fIfS_eq, fTb_eq, k_bin l0 l1 (e_neI (m := m))]
      simp [fNext]
    have hat : (decide (3 < sortI x) && decide (sortI x < 6)) = false → sortI x ≠ 4 → sortI x ≠ 5 → SeqAt.shaped x = true → f__law_same (k + 1) [.d x, .d x] m = .ok (.d (.bool true)) m := by
      intro hso h4 h5 hsh
      rw [hso] at p2
      have he : gEq (.d x) (.d x) m = .ok (.d (.bool true)) m := by
        show (if okEq x x = true then _ else _) = _
        rw [if_pos (by unfold okEq; rw [hsh]; rfl), eqv_self x (same_nodict h) h4 h5]
      refine fnF_ret ?_
      unfold b__law_same
      refine k_then p1 (k_then (r1 := startR 4 [.d x, .d x]) (m1 := m) ?_ (k_ret (k_bin rfl rfl he)))
      rw [fIfS_eq, p2]
      rfl
    cases x with
    | none => exact hat rfl (by simp [sortI]) (by simp [sortI]) rfl
    | bool b => exact hat rfl (by simp [sortI]) (by simp [sortI]) rfl
    | int i => exact hat rfl (by simp [sortI]) (by simp [sortI]) rfl
    | str s => exact hat rfl (by simp [sortI]) (by simp [sortI]) h
    | list xs => exact hit xs (.inl rfl) h
    | tuple xs => exact hit xs (.inr rfl) h
    | dict kvs => exact absurd rfl (same_nodict h kvs)
end Wy

set_option Elab.async false
set_option linter.all false
set_option maxRecDepth 100000
set_option maxHeartbeats 4000000
/-! M26: what the law holds against it. -/
namespace Wy
open PySem PySem.Spec PyProof.Rows L2 PySem.W
theorem e_intB {b : Bool} {m : Mu} : gInt [.d (.bool b)] m = .ok (.d (.int (if b = true then 1 else 0))) m := by
  cases b <;> rfl
/-- [x] * int(b) -/
theorem e_times {fx fb : FE} {r : Rh} {m : Mu} {x : PyData} {b : Bool} (h1 : fx r m = .ok (.d x) m) (h2 : fb r (m ++ [Ob.lst [x]]) = .ok (.d (.bool b)) (m ++ [Ob.lst [x]])) :
    fBin gMul (fLstN (fCons fx fNil)) (fBi gInt (fCons fb fNil)) r m = .ok (.d (.list (if b = true then [x] else []))) (m ++ [Ob.lst [x]]) := by
  have a1 : fLstN (fCons fx fNil) r m = .ok (.loc m.length) (m ++ [Ob.lst [x]]) := by
    unfold fLstN
    rw [k_cons h1 k_nil]
    rfl
  have a2 : fBi gInt (fCons fb fNil) r (m ++ [Ob.lst [x]]) = .ok (.d (.int (if b = true then 1 else 0))) (m ++ [Ob.lst [x]]) := by
    unfold fBi
    rw [k_cons h2 k_nil, bind_ok]
    exact e_intB
  refine k_bin a1 a2 ?_
  have hm : (m ++ [Ob.lst [x]])[m.length]? = some (.lst [x]) := by simp
  unfold gMul
  dsimp only
  rw [hm]
  dsimp only
  cases b <;> simp
def eP (e st : Int) : PyData := .tuple [.int e, .int 0, .int st]
def rV (a0 a1 a2 : Option W) (h : Hs) (e st : Int) (w : List Int) (here : Bool) (due : List (Nat × Nat)) (x8 x9 x10 x11 x12 x13 x14 x15 x16 x17 x18 x19 : Option W) : Rh :=
  [a0, a1, a2, some (.d (eH h)), some (.d (eP e st)), some (.d (eW w)), some (.d (.bool here)), some (.d (.list (due.map ePr))), x8, x9, x10, x11, x12, x13, x14, x15, x16, x17, x18, x19]
theorem e_place {e st : Int} {w : List Int} {m : Mu} : gAdd (.d (eP e st)) (.d (.tuple [eW w])) m = .ok (.d (eKey e 0 st w)) m := by
  unfold eP eKey
  rw [e_addT (by simp)]
  rfl
abbrev bDue : FS := (fThen (fSet 13 (fTup (fCons (fIf (fTb (fBin gEq (fVar 11) (fC (.str "me")))) (fC (.str "they")) (fC (.str "me"))) (fCons (fVar 12) fNil))))
  (fThen (fSet 14 (fCall 4 f__law_put_line (fCons (fVar 3) (fCons (fVar 8) (fCons (fVar 10) (fCons (fVar 13) fNil))))))
  (fThen (fSet 15 (fBin gIn (fBin gAdd (fVar 4) (fTup (fCons (fVar 5) fNil))) (fCall 2 f__law_table (fCons (fVar 14) (fCons (fC .none) fNil)))))
  (fSet 7 (fBin gAdd (fVar 7) (fBin gMul (fLstN (fCons (fTup (fCons (fVar 8) (fCons (fVar 10) fNil))) fNil)) (fBi gInt (fCons (fBin gNe (fVar 15) (fVar 6)) fNil))))))))
section
variable {a0 a1 a2 x8 x9 x10 x11 x12 x13 x14 x15 x13' x14' x15' x16 x17 x18 x19 : Option W} {h : Hs} {e st : Int} {w : List Int}
theorem due_step (ok : HsOk 3 3 h) {i : Nat} {ls : List Ln} {p : Ln × Nat} (he : h.es[i]? = some ls) (hp : p ∈ ls.zipIdx) {m : Mu} {acc : List (Nat × Nat)} (hl : acc.length ≤ 1000) :
    ∃ m' x13 x14 x15, bDue (rV a0 a1 a2 h e st w (winB h e st w) acc (some (.d (.int (i : Int)))) x9 (some (.d (.int (p.2 : Int)))) (some (.d (whoD p.1.me))) (some (.d (.tuple (p.1.opts.map eO)))) x13' x14' x15' x16 x17 x18 x19) m =
      .next (rV a0 a1 a2 h e st w (winB h e st w) (acc ++ if turnB h e st w i ls p = true then [(i, p.2)] else []) (some (.d (.int (i : Int)))) x9 (some (.d (.int (p.2 : Int)))) (some (.d (whoD p.1.me))) (some (.d (.tuple (p.1.opts.map eO)))) x13 x14 x15 x16 x17 x18 x19) m' := by
  have ha := at_zipIdx hp
  have ew := e_who (b := p.1.me) (m := m)
  have hw := v_put_line ok (l' := flipL p.1) he ha m
  have ht := v_table (putH_ok ok he ha) m
  have hk := e_inKD (e := e) (a := 0) (s := st) (w := w) (es := (tabP (putH h i ls p.2 (flipL p.1))).map kv) (m := m)
  have hne := e_neB (a := winB (putH h i ls p.2 (flipL p.1)) e st w) (b := winB h e st w) (m := m ++ [Ob.lst [ePr (i, p.2)]])
  have q1 : fTup (fCons (fIf (fTb (fBin gEq (fVar 11) (fC (.str "me")))) (fC (.str "they")) (fC (.str "me"))) (fCons (fVar 12) fNil)) (rV a0 a1 a2 h e st w (winB h e st w) acc (some (.d (.int (i : Int)))) x9 (some (.d (.int (p.2 : Int)))) (some (.d (whoD p.1.me))) (some (.d (.tuple (p.1.opts.map eO)))) x13' x14' x15' x16 x17 x18 x19) m = .ok (.d (eL (flipL p.1))) m := by
    have hf : eL (flipL p.1) = .tuple [(if p.1.me = true then .str "they" else .str "me"), .tuple (p.1.opts.map eO)] := by
      unfold eL flipL whoD
      cases p.1.me <;> rfl
    rw [hf]
    unfold rV
    cases hz : p.1.me with
    | true =>
      rw [hz] at ew
      simp [fVar, fC, fNil, fCons, fTup, fLst, fLstN, fBin, fChain_eq, fTb_eq, fAndT, fOrT, fNotT, fAndV_eq, fOrV_eq, fNotV_eq, fIf, fIsN, fNotN, fIsi, fCall, fBi, fRet, fSet, fAsg, fPar, fPar3, fIfS_eq, fThen, fDrop, fNext, fSt, startR, subTy, kBl, mkT, ew]
    | false =>
      rw [hz] at ew
      simp [fVar, fC, fNil, fCons, fTup, fLst, fLstN, fBin, fChain_eq, fTb_eq, fAndT, fOrT, fNotT, fAndV_eq, fOrV_eq, fNotV_eq, fIf, fIsN, fNotN, fIsi, fCall, fBi, fRet, fSet, fAsg, fPar, fPar3, fIfS_eq, fThen, fDrop, fNext, fSt, startR, subTy, kBl, mkT, ew]
  refine ⟨_, _, _, _, k_then (k_set q1) (k_then (k_set (w := .d (eH (putH h i ls p.2 (flipL p.1)))) (m1 := m) ?_) (k_then (k_set (w := .d (.bool (winB (putH h i ls p.2 (flipL p.1)) e st w))) (m1 := m) ?_) (k_set (k_bin (g := gAdd) (a := .d (.list (acc.map ePr))) (m1 := m) (x := .ok (.d (.list ((acc ++ if turnB h e st w i ls p = true then [(i, p.2)] else []).map ePr))) (m ++ [Ob.lst [ePr (i, p.2)]])) rfl (e_times (x := ePr (i, p.2)) (b := turnB h e st w i ls p) rfl (k_bin rfl rfl hne)) ?_))))⟩
  · have c : ∀ r : Rh, r[3]? = some (some (.d (eH h))) → r[8]? = some (some (.d (.int (i : Int)))) → r[10]? = some (some (.d (.int (p.2 : Int)))) → r[13]? = some (some (.d (eL (flipL p.1)))) → fCall 4 f__law_put_line (fCons (fVar 3) (fCons (fVar 8) (fCons (fVar 10) (fCons (fVar 13) fNil)))) r m = .ok (.d (eH (putH h i ls p.2 (flipL p.1)))) m := by
      intro r h1 h2 h3 h4
      unfold fCall
      rw [k_cons (k_var h1) (k_cons (k_var h2) (k_cons (k_var h3) (k_cons (k_var h4) k_nil))), bind_ok]
      exact hw
    exact c _ rfl rfl rfl rfl
  · have c : ∀ r : Rh, r[4]? = some (some (.d (eP e st))) → r[5]? = some (some (.d (eW w))) → r[14]? = some (some (.d (eH (putH h i ls p.2 (flipL p.1))))) → fBin gIn (fBin gAdd (fVar 4) (fTup (fCons (fVar 5) fNil))) (fCall 2 f__law_table (fCons (fVar 14) (fCons (fC .none) fNil))) r m = .ok (.d (.bool (winB (putH h i ls p.2 (flipL p.1)) e st w))) m := by
      intro r h1 h2 h3
      have b1 : fCall 2 f__law_table (fCons (fVar 14) (fCons (fC .none) fNil)) r m = .ok (.d (.dict ((tabP (putH h i ls p.2 (flipL p.1))).map kv))) m := by
        unfold fCall
        rw [k_cons (k_var h3) (k_cons (f := fC .none) (w := .d .none) (m1 := m) rfl k_nil), bind_ok]
        exact ht
      exact k_bin (k_bin (k_var h1) (k_tup (k_cons (k_var h2) k_nil) (by simp)) e_place) b1 hk
    exact c _ rfl rfl rfl
  · rw [e_addL (by rw [List.length_map]; split <;> simp <;> omega)]
    cases turnB h e st w i ls p <;> simp
end
end Wy

set_option Elab.async false
set_option linter.all false
set_option maxRecDepth 100000
set_option maxHeartbeats 4000000
/-! M27: all that is due. -/
namespace Wy
open PySem PySem.Spec PyProof.Rows L2 PySem.W
section
variable {a0 a1 a2 x8 x9 x10 x11 x12 x13 x14 x15 x16 x17 x18 x19 : Option W} {h : Hs} {e st : Int} {w : List Int}
abbrev bRow : FS := fFor (fEnum (fVar 9)) (.tp [(.nm 10), (.tp [(.nm 11), (.nm 12)])]) bDue
theorem due_row (ok : HsOk 3 3 h) {q : List Ln × Nat} (hq : q ∈ h.es.zipIdx) {m : Mu} {acc : List (Nat × Nat)} (hl : acc.length ≤ 900) :
    ∃ m' x10' x11' x12' x13' x14' x15', bRow (rV a0 a1 a2 h e st w (winB h e st w) acc (some (.d (.int (q.2 : Int)))) (some (.d (eE q.1))) x10 x11 x12 x13 x14 x15 x16 x17 x18 x19) m =
      .next (rV a0 a1 a2 h e st w (winB h e st w) (acc ++ rowT h e st w q) (some (.d (.int (q.2 : Int)))) (some (.d (eE q.1))) x10' x11' x12' x13' x14' x15' x16 x17 x18 x19) m' := by
  have he := at_zipIdx hq
  have hll := ls_len ok he
  have hen := e_enumT (f := fVar 9) (r := rV a0 a1 a2 h e st w (winB h e st w) acc (some (.d (.int (q.2 : Int)))) (some (.d (eE q.1))) x10 x11 x12 x13 x14 x15 x16 x17 x18 x19) (m := m) (m' := m) (ds := q.1.map eL) rfl
  rw [zipIdx_map, List.map_map] at hen
  obtain ⟨r', m', hc, done, x10', x11', x12', x13', x14', x15', er, hdn⟩ := for_inv (pt := .tp [(.nm 10), (.tp [(.nm 11), (.nm 12)])]) (fb := bDue)
    ((fun q : PyData × Nat => W.d (.tuple [.int (q.2 : Int), q.1])) ∘ fun q : Ln × Nat => (eL q.1, q.2))
    (fun rest r m => ∃ (done : List (Ln × Nat)) (x10 x11 x12 x13 x14 x15 : Option W), r = rV a0 a1 a2 h e st w (winB h e st w) (acc ++ (done.filter fun p => turnB h e st w q.2 q.1 p).map fun p => (q.2, p.2)) (some (.d (.int (q.2 : Int)))) (some (.d (eE q.1))) x10 x11 x12 x13 x14 x15 x16 x17 x18 x19 ∧ done ++ rest = q.1.zipIdx)
    q.1.zipIdx (rV a0 a1 a2 h e st w (winB h e st w) acc (some (.d (.int (q.2 : Int)))) (some (.d (eE q.1))) x10 x11 x12 x13 x14 x15 x16 x17 x18 x19) m ⟨[], x10, x11, x12, x13, x14, x15, by simp, rfl⟩
    (fun p rest r m ⟨done, x10, x11, x12, x13, x14, x15, er, hdn⟩ => by
      subst er
      have hp : p ∈ q.1.zipIdx := by rw [← hdn]; simp
      have hd : done.length ≤ 3 := by
        have : (done ++ p :: rest).length = q.1.length := by rw [hdn, List.length_zipIdx]
        rw [List.length_append] at this
        omega
      have hf := List.length_filter_le (fun p => turnB h e st w q.2 q.1 p) done
      obtain ⟨m', y13, y14, y15, e1⟩ := due_step (a0 := a0) (a1 := a1) (a2 := a2) (x9 := some (.d (eE q.1))) (x13' := x13) (x14' := x14) (x15' := x15) (x16 := x16) (x17 := x17) (x18 := x18) (x19 := x19) (e := e) (st := st) (w := w) ok he hp (m := m) (acc := acc ++ (done.filter fun p => turnB h e st w q.2 q.1 p).map fun p => (q.2, p.2)) (by rw [List.length_append, List.length_map]; omega)
      have := filt_app (fun p => turnB h e st w q.2 q.1 p) (fun p : Ln × Nat => (q.2, p.2)) done p acc
      exact ⟨_, rfl, _, m', .inl e1, done ++ [p], some (.d (.int (p.2 : Int))), some (.d (whoD p.1.me)), some (.d (.tuple (p.1.opts.map eO))), y13, y14, y15, by rw [this], by rw [← hdn]; simp⟩)
  rw [List.append_nil] at hdn
  subst er hdn
  exact ⟨m', x10', x11', x12', x13', x14', x15', k_for hen hc⟩
abbrev bAll : FS := fFor (fEnum (fBin gIx (fVar 3) (fC (.int 1)))) (.tp [(.nm 8), (.nm 9)]) bRow
theorem due_all (ok : HsOk 3 3 h) {m : Mu} :
    ∃ m' x8' x9' x10' x11' x12' x13' x14' x15', bAll (rV a0 a1 a2 h e st w (winB h e st w) [] x8 x9 x10 x11 x12 x13 x14 x15 x16 x17 x18 x19) m =
      .next (rV a0 a1 a2 h e st w (winB h e st w) (turnL h e st w) x8' x9' x10' x11' x12' x13' x14' x15' x16 x17 x18 x19) m' := by
  have i1 : gIx (.d (eH h)) (.d (.int 1)) m = .ok (.d (.tuple (h.es.map eE))) m := tup1
  have hl3 := hs_len ok
  have hen := e_enumT (f := fBin gIx (fVar 3) (fC (.int 1))) (r := rV a0 a1 a2 h e st w (winB h e st w) [] x8 x9 x10 x11 x12 x13 x14 x15 x16 x17 x18 x19) (m := m) (m' := m) (k_bin rfl rfl i1)
  rw [zipIdx_map, List.map_map] at hen
  obtain ⟨r', m', hc, done, x8', x9', x10', x11', x12', x13', x14', x15', er, hdn⟩ := for_inv (pt := .tp [(.nm 8), (.nm 9)]) (fb := bRow)
    ((fun q : PyData × Nat => W.d (.tuple [.int (q.2 : Int), q.1])) ∘ fun q : List Ln × Nat => (eE q.1, q.2))
    (fun rest r m => ∃ (done : List (List Ln × Nat)) (x8 x9 x10 x11 x12 x13 x14 x15 : Option W), r = rV a0 a1 a2 h e st w (winB h e st w) (done.flatMap (rowT h e st w)) x8 x9 x10 x11 x12 x13 x14 x15 x16 x17 x18 x19 ∧ done ++ rest = h.es.zipIdx)
    h.es.zipIdx (rV a0 a1 a2 h e st w (winB h e st w) [] x8 x9 x10 x11 x12 x13 x14 x15 x16 x17 x18 x19) m ⟨[], x8, x9, x10, x11, x12, x13, x14, x15, rfl, rfl⟩
    (fun q rest r m ⟨done, x8, x9, x10, x11, x12, x13, x14, x15, er, hdn⟩ => by
      subst er
      have hq : q ∈ h.es.zipIdx := by rw [← hdn]; simp
      have hd : done.length ≤ 3 := by
        have : (done ++ q :: rest).length = h.es.length := by rw [hdn, List.length_zipIdx]
        rw [List.length_append] at this
        omega
      have hfl := flat_le (rowT h e st w) 3 done fun x hx => by
        have hx : x ∈ h.es.zipIdx := by rw [← hdn]; exact List.mem_append_left _ hx
        exact Nat.le_trans row_len (ls_len ok (at_zipIdx hx))
      obtain ⟨m', y10, y11, y12, y13, y14, y15, e1⟩ := due_row (a0 := a0) (a1 := a1) (a2 := a2) (x10 := x10) (x11 := x11) (x12 := x12) (x13 := x13) (x14 := x14) (x15 := x15) (x16 := x16) (x17 := x17) (x18 := x18) (x19 := x19) (e := e) (st := st) (w := w) ok hq (m := m) (acc := done.flatMap (rowT h e st w)) (by omega)
      exact ⟨_, rfl, _, m', .inl e1, done ++ [q], some (.d (.int (q.2 : Int))), some (.d (eE q.1)), y10, y11, y12, y13, y14, y15, by rw [List.flatMap_append, List.flatMap_singleton], by rw [← hdn]; simp⟩)
  rw [List.append_nil] at hdn
  subst er hdn
  exact ⟨m', _, _, _, _, _, _, _, _, k_for hen hc⟩
theorem turn_len (ok : HsOk 3 3 h) : (turnL h e st w).length ≤ 9 := by
  have hl3 := hs_len ok
  have := flat_le (rowT h e st w) 3 h.es.zipIdx fun x hx => Nat.le_trans row_len (ls_len ok (at_zipIdx hx))
  rw [List.length_zipIdx] at this
  unfold turnL
  omega
theorem same_prs (k : Nat) : ∀ ps : List (Nat × Nat), (ps.map ePr).all (sameOk (k + 2)) = true
  | [] => rfl
  | p :: ps => by
    rw [List.map_cons, List.all_cons, same_prs k ps]
    rfl
abbrev bWish : FS := (fThen (fPar 6 7 (fCons (fBin gIn (fBin gAdd (fVar 4) (fTup (fCons (fVar 5) fNil))) (fCall 2 f__law_table (fCons (fVar 3) (fCons (fC .none) fNil)))) (fCons (fLst fNil) fNil)))
  (fThen bAll
  (fIfS (fNotT (fTb (fCall 2 (f__law_same 8) (fCons (fCall 4 f_turning_lines (fCons (fVar 3) (fCons (fBin gIx (fVar 4) (fC (.int 0))) (fCons (fBin gIx (fVar 4) (fC (.int 2))) (fCons (fVar 5) fNil))))) (fCons (fVar 7) fNil))))) (fRet false (fC (.bool false))) fNext)))
theorem wish_step (ok : HsOk 3 3 h) (he : 0 ≤ e ∧ e < h.es.length) (hs : 0 ≤ st ∧ st < h.s) (hw : Wish h.s w) {m : Mu} {x6 x7 : Option W} :
    ∃ m' x6' x7' x8' x9' x10' x11' x12' x13' x14' x15', bWish [a0, a1, a2, some (.d (eH h)), some (.d (eP e st)), some (.d (eW w)), x6, x7, x8, x9, x10, x11, x12, x13, x14, x15, x16, x17, x18, x19] m =
      .next [a0, a1, a2, some (.d (eH h)), some (.d (eP e st)), some (.d (eW w)), x6', x7', x8', x9', x10', x11', x12', x13', x14', x15', x16, x17, x18, x19] m' := by
  have ht := v_table ok m
  have hk := e_inKD (e := e) (a := 0) (s := st) (w := w) (es := (tabP h).map kv) (m := m)
  have p1 : fPar 6 7 (fCons (fBin gIn (fBin gAdd (fVar 4) (fTup (fCons (fVar 5) fNil))) (fCall 2 f__law_table (fCons (fVar 3) (fCons (fC .none) fNil)))) (fCons (fLst fNil) fNil)) [a0, a1, a2, some (.d (eH h)), some (.d (eP e st)), some (.d (eW w)), x6, x7, x8, x9, x10, x11, x12, x13, x14, x15, x16, x17, x18, x19] m =
      .next (rV a0 a1 a2 h e st w (winB h e st w) [] x8 x9 x10 x11 x12 x13 x14 x15 x16 x17 x18 x19) m := by
    have b1 : fCall 2 f__law_table (fCons (fVar 3) (fCons (fC .none) fNil)) [a0, a1, a2, some (.d (eH h)), some (.d (eP e st)), some (.d (eW w)), x6, x7, x8, x9, x10, x11, x12, x13, x14, x15, x16, x17, x18, x19] m = .ok (.d (.dict ((tabP h).map kv))) m := by
      unfold fCall
      rw [k_cons (k_var rfl) (k_cons (f := fC .none) (w := .d .none) (m1 := m) rfl k_nil), bind_ok]
      exact ht
    have b2 := k_bin (g := gIn) (k_bin (g := gAdd) (fa := fVar 4) (fb := fTup (fCons (fVar 5) fNil)) (k_var rfl) (k_tup (k_cons (k_var rfl) k_nil) (by simp)) e_place) b1 hk
    unfold fPar
    rw [k_cons b2 (k_cons (f := fLst fNil) (w := .d (.list [])) (m1 := m) rfl k_nil)]
    rfl
  obtain ⟨m1, y8, y9, y10, y11, y12, y13, y14, y15, p2⟩ := due_all (a0 := a0) (a1 := a1) (a2 := a2) (x8 := x8) (x9 := x9) (x10 := x10) (x11 := x11) (x12 := x12) (x13 := x13) (x14 := x14) (x15 := x15) (x16 := x16) (x17 := x17) (x18 := x18) (x19 := x19) (e := e) (st := st) (w := w) ok (m := m)
  have htu := v_turning ok he hs hw m1
  have hsm := v_same 8 (.list ((turnL h e st w).map ePr)) m1 (by
    have := turn_len (e := e) (st := st) (w := w) ok
    show (decide (((turnL h e st w).map ePr).length ≤ 1000) && _) = true
    rw [decide_eq_true (by rw [List.length_map]; omega)]
    exact same_prs 5 _)
  refine ⟨m1, some (.d (.bool (winB h e st w))), some (.d (.list ((turnL h e st w).map ePr))), y8, y9, y10, y11, y12, y13, y14, y15, k_then p1 (k_then p2 ?_)⟩
  have i0 : gIx (.d (eP e st)) (.d (.int 0)) m1 = .ok (.d (.int e)) m1 := tup0
  have i2 : gIx (.d (eP e st)) (.d (.int 2)) m1 = .ok (.d (.int st)) m1 := tup2
  generalize hr : rV a0 a1 a2 h e st w (winB h e st w) (turnL h e st w) y8 y9 y10 y11 y12 y13 y14 y15 x16 x17 x18 x19 = r
  have c1 : fCall 4 f_turning_lines (fCons (fVar 3) (fCons (fBin gIx (fVar 4) (fC (.int 0))) (fCons (fBin gIx (fVar 4) (fC (.int 2))) (fCons (fVar 5) fNil)))) r m1 = .ok (.d (.list ((turnL h e st w).map ePr))) m1 := by
    subst hr
    unfold fCall
    rw [k_cons (k_var rfl) (k_cons (k_bin (k_var rfl) rfl i0) (k_cons (k_bin (k_var rfl) rfl i2) (k_cons (k_var rfl) k_nil))), bind_ok]
    exact htu
  have c2 : fCall 2 (f__law_same 8) (fCons (fCall 4 f_turning_lines (fCons (fVar 3) (fCons (fBin gIx (fVar 4) (fC (.int 0))) (fCons (fBin gIx (fVar 4) (fC (.int 2))) (fCons (fVar 5) fNil))))) (fCons (fVar 7) fNil)) r m1 = .ok (.d (.bool true)) m1 := by
    subst hr
    unfold fCall at c1 ⊢
    rw [k_cons c1 (k_cons (k_var rfl) k_nil), bind_ok]
    exact hsm
  rw [fIfS_eq]
  unfold fNotT
  rw [fTb_eq, c2]
  subst hr
  rfl
end
end Wy

set_option Elab.async false
set_option linter.all false
set_option maxRecDepth 100000
set_option maxHeartbeats 4000000
/-! M28: one cell. -/
namespace Wy
open PySem PySem.Spec PyProof.Rows L2 PySem.W
theorem k_call1 {F : Fn} {f1 : FE} {r : Rh} {m m1 : Mu} {w1 : W} {x : R W} (h1 : f1 r m = .ok w1 m1) (h : F [w1] m1 = x) : fCall 1 F (fCons f1 fNil) r m = x := by
  unfold fCall
  rw [k_cons h1 k_nil, bind_ok, ← h]
  rfl
theorem k_call2 {F : Fn} {f1 f2 : FE} {r : Rh} {m m1 m2 : Mu} {w1 w2 : W} {x : R W} (h1 : f1 r m = .ok w1 m1) (h2 : f2 r m1 = .ok w2 m2) (h : F [w1, w2] m2 = x) : fCall 2 F (fCons f1 (fCons f2 fNil)) r m = x := by
  unfold fCall
  rw [k_cons h1 (k_cons h2 k_nil), bind_ok, ← h]
  rfl
theorem k_call3 {F : Fn} {f1 f2 f3 : FE} {r : Rh} {m m1 m2 m3 : Mu} {w1 w2 w3 : W} {x : R W} (h1 : f1 r m = .ok w1 m1) (h2 : f2 r m1 = .ok w2 m2) (h3 : f3 r m2 = .ok w3 m3) (h : F [w1, w2, w3] m3 = x) : fCall 3 F (fCons f1 (fCons f2 (fCons f3 fNil))) r m = x := by
  unfold fCall
  rw [k_cons h1 (k_cons h2 (k_cons h3 k_nil)), bind_ok, ← h]
  rfl
theorem k_call4 {F : Fn} {f1 f2 f3 f4 : FE} {r : Rh} {m m1 m2 m3 m4 : Mu} {w1 w2 w3 w4 : W} {x : R W} (h1 : f1 r m = .ok w1 m1) (h2 : f2 r m1 = .ok w2 m2) (h3 : f3 r m2 = .ok w3 m3) (h4 : f4 r m3 = .ok w4 m4) (h : F [w1, w2, w3, w4] m4 = x) : fCall 4 F (fCons f1 (fCons f2 (fCons f3 (fCons f4 fNil)))) r m = x := by
  unfold fCall
  rw [k_cons h1 (k_cons h2 (k_cons h3 (k_cons h4 k_nil))), bind_ok, ← h]
  rfl
theorem k_len {f1 : FE} {r : Rh} {m m1 : Mu} {ds : List PyData} (h1 : f1 r m = .ok (.d (.tuple ds)) m1) : fBi gLen (fCons f1 fNil) r m = .ok (.d (.int ds.length)) m1 := by
  unfold fBi
  rw [k_cons h1 k_nil, bind_ok]
  rfl
theorem k_lenL {f1 : FE} {r : Rh} {m m1 : Mu} {ds : List PyData} (h1 : f1 r m = .ok (.d (.list ds)) m1) : fBi gLen (fCons f1 fNil) r m = .ok (.d (.int ds.length)) m1 := by
  unfold fBi
  rw [k_cons h1 k_nil, bind_ok]
  rfl
theorem Dm.new {m : Mu} {o : Ob} {t : Int} (h : Dk (m ++ [o]) m.length t) : Dm (m ++ [o]) (m ++ [o]) m.length t := Dm.self h
theorem HsOk.three {most wide : Int} {h : Hs} (ok : HsOk most wide h) (h1 : most ≤ 3) (h2 : wide ≤ 3) : HsOk 3 3 h := by
  refine ⟨ok.s, ok.ne, by have := ok.few; omega, fun ls hl => ?_⟩
  obtain ⟨a, b, c⟩ := ok.errand ls hl
  exact ⟨a, by omega, c⟩
abbrev bCell : FS := (fThen (fSet 2 (fCall 2 f__law_deck (fCons (fVar 1) (fCons (fC (.int 10)) fNil))))
  (fThen (fSet 3 (fCall 3 f__law_house (fCons (fVar 2) (fCons (fC (.int 2)) (fCons (fC (.int 3)) fNil)))))
  (fThen (fSet 4 (fTup (fCons (fCall 2 f__law_pick (fCons (fVar 2) (fCons (fBi gLen (fCons (fBin gIx (fVar 3) (fC (.int 1))) fNil)) fNil))) (fCons (fC (.int 0)) (fCons (fCall 2 f__law_pick (fCons (fVar 2) (fCons (fBin gIx (fVar 3) (fC (.int 0))) fNil))) fNil)))))
  (fFor (fSeq (fLst (fCons (fCall 2 f__law_wish (fCons (fVar 2) (fCons (fBin gIx (fVar 3) (fC (.int 0))) fNil))) (fCons (fTupR (fBin gIx (fVar 3) (fC (.int 0)))) fNil)))) (.nm 5) bWish))))
theorem cell_step (a0 : Option W) (c : Int) (x2 x3 x4 x5 x6 x7 x8 x9 x10 x11 x12 x13 x14 x15 x16 x17 x18 x19 : Option W) (m : Mu) :
    ∃ m' y1 y2 y3 y4 y5 y6 y7 y8 y9 y10 y11 y12 y13 y14 y15 y16 y17 y18 y19, bCell [a0, some (.d (.int c)), x2, x3, x4, x5, x6, x7, x8, x9, x10, x11, x12, x13, x14, x15, x16, x17, x18, x19] m =
      .next [a0, y1, y2, y3, y4, y5, y6, y7, y8, y9, y10, y11, y12, y13, y14, y15, y16, y17, y18, y19] m' := by
  obtain ⟨o, e1, D⟩ := v_deck c 10 (by decide) m
  have D0 := Dm.new D
  obtain ⟨h, m2, e2, ok, D2⟩ := v_house D0 (by decide) (most := 2) (wide := 3) (by decide) (by decide)
  have ok3 := ok.three (by decide) (by decide)
  have hne : 1 ≤ (h.es.length : Int) := by
    have := List.length_pos_iff.mpr ok.ne
    omega
  have hl3 := hs_len ok3
  have hs := ok.s
  have i0 : ∀ m, gIx (.d (eH h)) (.d (.int 0)) m = .ok (.d (.int h.s)) m := fun m => tup0
  have i1 : ∀ m, gIx (.d (eH h)) (.d (.int 1)) m = .ok (.d (.tuple (h.es.map eE))) m := fun m => tup1
  obtain ⟨e, m3, e3, l1, l2, D3⟩ := pickD D2 (s := (h.es.length : Int)) (by decide) hne (by omega)
  obtain ⟨st, m4, e4, l3, l4, D4⟩ := pickD D3 (s := h.s) (by decide) (by omega) (by omega)
  obtain ⟨w, m5, e5, hw, D5⟩ := v_wish D4 (by decide) (k := h.s) (by omega) (by omega)
  have p1 : fSet 2 (fCall 2 f__law_deck (fCons (fVar 1) (fCons (fC (.int 10)) fNil))) [a0, some (.d (.int c)), x2, x3, x4, x5, x6, x7, x8, x9, x10, x11, x12, x13, x14, x15, x16, x17, x18, x19] m = .next [a0, some (.d (.int c)), some (.loc m.length), x3, x4, x5, x6, x7, x8, x9, x10, x11, x12, x13, x14, x15, x16, x17, x18, x19] (m ++ [o]) :=
    k_set (k_call2 (k_var rfl) rfl e1)
  have p2 : fSet 3 (fCall 3 f__law_house (fCons (fVar 2) (fCons (fC (.int 2)) (fCons (fC (.int 3)) fNil)))) [a0, some (.d (.int c)), some (.loc m.length), x3, x4, x5, x6, x7, x8, x9, x10, x11, x12, x13, x14, x15, x16, x17, x18, x19] (m ++ [o]) = .next [a0, some (.d (.int c)), some (.loc m.length), some (.d (eH h)), x4, x5, x6, x7, x8, x9, x10, x11, x12, x13, x14, x15, x16, x17, x18, x19] m2 :=
    k_set (k_call3 (k_var rfl) rfl rfl e2)
  have p3 : fSet 4 (fTup (fCons (fCall 2 f__law_pick (fCons (fVar 2) (fCons (fBi gLen (fCons (fBin gIx (fVar 3) (fC (.int 1))) fNil)) fNil))) (fCons (fC (.int 0)) (fCons (fCall 2 f__law_pick (fCons (fVar 2) (fCons (fBin gIx (fVar 3) (fC (.int 0))) fNil))) fNil)))) [a0, some (.d (.int c)), some (.loc m.length), some (.d (eH h)), x4, x5, x6, x7, x8, x9, x10, x11, x12, x13, x14, x15, x16, x17, x18, x19] m2 = .next [a0, some (.d (.int c)), some (.loc m.length), some (.d (eH h)), some (.d (eP e st)), x5, x6, x7, x8, x9, x10, x11, x12, x13, x14, x15, x16, x17, x18, x19] m4 := by
    refine k_set (k_tup (ws := [.d (.int e), .d (.int 0), .d (.int st)]) (k_cons (k_call2 (k_var rfl) (k_len (k_bin (k_var rfl) rfl (i1 m2))) ?_) (k_cons (f := fC (.int 0)) (m1 := m3) rfl (k_cons (k_call2 (k_var rfl) (k_bin (k_var rfl) rfl (i0 m3)) e4) k_nil))) (by simp))
    rw [List.length_map]
    exact e3
  have hall : Wish h.s ((List.range h.s.toNat).map fun i : Nat => (i : Int)) := wish_all (by omega)
  obtain ⟨r', m6, hf, y5, y6, y7, y8, y9, y10, y11, y12, y13, y14, y15, er, _⟩ := for_inv (pt := .nm 5) (fb := bWish) (fun w : List Int => W.d (eW w))
    (fun rest r m' => ∃ y5 y6 y7 y8 y9 y10 y11 y12 y13 y14 y15, r = [a0, some (.d (.int c)), some (.loc m.length), some (.d (eH h)), some (.d (eP e st)), y5, y6, y7, y8, y9, y10, y11, y12, y13, y14, y15, x16, x17, x18, x19] ∧ ∀ w ∈ rest, Wish h.s w)
    [w, (List.range h.s.toNat).map fun i : Nat => (i : Int)] [a0, some (.d (.int c)), some (.loc m.length), some (.d (eH h)), some (.d (eP e st)), x5, x6, x7, x8, x9, x10, x11, x12, x13, x14, x15, x16, x17, x18, x19] m5 ⟨x5, x6, x7, x8, x9, x10, x11, x12, x13, x14, x15, rfl, fun v hv => by
      rcases List.mem_cons.mp hv with e | hv
      · rw [e]; exact hw
      · rw [List.mem_singleton.mp hv]; exact hall⟩
    (fun v rest r m' ⟨y5, y6, y7, y8, y9, y10, y11, y12, y13, y14, y15, er, hr⟩ => by
      subst er
      obtain ⟨m'', z6, z7, z8, z9, z10, z11, z12, z13, z14, z15, e1⟩ := wish_step (a0 := a0) (a1 := some (.d (.int c))) (a2 := some (.loc m.length)) (x6 := y6) (x7 := y7) (x8 := y8) (x9 := y9) (x10 := y10) (x11 := y11) (x12 := y12) (x13 := y13) (x14 := y14) (x15 := y15) (x16 := x16) (x17 := x17) (x18 := x18) (x19 := x19) ok3 ⟨l1, l2⟩ ⟨l3, l4⟩ (hr v List.mem_cons_self) (m := m')
      exact ⟨_, rfl, _, m'', .inl e1, some (.d (eW v)), z6, z7, z8, z9, z10, z11, z12, z13, z14, z15, rfl, fun v hv => hr v (List.mem_cons_of_mem _ hv)⟩)
  subst er
  have p4 : fSeq (fLst (fCons (fCall 2 f__law_wish (fCons (fVar 2) (fCons (fBin gIx (fVar 3) (fC (.int 0))) fNil))) (fCons (fTupR (fBin gIx (fVar 3) (fC (.int 0)))) fNil))) [a0, some (.d (.int c)), some (.loc m.length), some (.d (eH h)), some (.d (eP e st)), x5, x6, x7, x8, x9, x10, x11, x12, x13, x14, x15, x16, x17, x18, x19] m4 = .ok ⟨[w, (List.range h.s.toNat).map fun i : Nat => (i : Int)].map (fun w : List Int => W.d (eW w)), none⟩ m5 := by
    refine e_seqL (ds := [eW w, eW ((List.range h.s.toNat).map fun i : Nat => (i : Int))]) ?_
    unfold fLst
    rw [k_cons (k_call2 (k_var rfl) (k_bin (k_var rfl) rfl (i0 m4)) e5) (k_cons (tupR (m' := m5) (k := h.s) (k_bin (k_var rfl) rfl (i0 m5)) (by omega) (by omega)) k_nil), bind_ok]
    rfl
  exact ⟨m6, _, _, _, _, _, _, _, _, _, _, _, _, _, _, _, _, _, _, _, k_then p1 (k_then p2 (k_then p3 (k_for p4 hf)))⟩
end Wy

set_option Elab.async false
set_option linter.all false
set_option maxRecDepth 100000
set_option maxHeartbeats 4000000
/-! M29: the houses that are written out; what is counted by the kernel. -/
namespace Wy
open PySem PySem.Spec PyProof.Rows L2 PySem.W
instance decWish (k : Int) (ns : List Int) : Decidable (Wish k ns) := decidable_of_iff (ns ≠ [] ∧ ns.Pairwise (· < ·) ∧ ∀ x ∈ ns, 0 ≤ x ∧ x < k) ⟨fun ⟨a, b, c⟩ => ⟨a, b, c⟩, fun ⟨a, b, c⟩ => ⟨a, b, c⟩⟩
instance decOptOk (s many lines : Int) (o : Opt) : Decidable (OptOk s many lines o) := decidable_of_iff (Wish s o.need ∧ (-1 ≤ o.side ∧ o.side < many) ∧ (0 ≤ o.st ∧ o.st < s) ∧ (0 ≤ o.go ∧ o.go ≤ lines)) ⟨fun ⟨a, b, c, d⟩ => ⟨a, b, c, d⟩, fun ⟨a, b, c, d⟩ => ⟨a, b, c, d⟩⟩
theorem emp_iff {α : Type} {l : List α} : l.isEmpty = false ↔ l ≠ [] := by cases l <;> simp
instance decLnOk (s many lines : Int) (l : Ln) : Decidable (LnOk s many lines l) := decidable_of_iff (l.opts.isEmpty = false ∧ l.opts.length ≤ 3 ∧ (∀ o ∈ l.opts, OptOk s many lines o) ∧ strictB (l.opts.map eO) = true)
  ⟨fun ⟨a, b, c, d⟩ => ⟨emp_iff.mp a, b, c, d⟩, fun ⟨a, b, c, d⟩ => ⟨emp_iff.mpr a, b, c, d⟩⟩
instance decHsOk (most wide : Int) (h : Hs) : Decidable (HsOk most wide h) := decidable_of_iff ((2 ≤ h.s ∧ h.s ≤ 3) ∧ h.es.isEmpty = false ∧ (h.es.length : Int) ≤ most ∧ ∀ ls ∈ h.es, ls.isEmpty = false ∧ (ls.length : Int) ≤ wide ∧ ∀ l ∈ ls, LnOk h.s h.es.length ls.length l)
  ⟨fun ⟨a, b, c, d⟩ => ⟨a, emp_iff.mp b, c, fun ls hl => ⟨emp_iff.mp (d ls hl).1, (d ls hl).2⟩⟩, fun ⟨a, b, c, d⟩ => ⟨a, emp_iff.mpr b, c, fun ls hl => ⟨emp_iff.mpr (d ls hl).1, (d ls hl).2⟩⟩⟩
def oO (need : List Int) (side st go : Int) : Opt := ⟨need, side, st, go⟩
def lMe (os : List Opt) : Ln := ⟨true, os⟩
def lTh (os : List Opt) : Ln := ⟨false, os⟩
def lOver : Ln := lTh [oO [0, 1] (-1) 0 1, oO [0, 1] (-1) 1 1]
def hA : Hs := ⟨2, [[lMe [oO [0, 1] 1 0 1], lTh [oO [0] (-1) 0 2, oO [1] (-1) 1 0]], [lTh [oO [0] (-1) 0 1, oO [0] (-1) 1 1], lMe [oO [0, 1] (-1) 0 2, oO [1] 1 1 2]]]⟩
def hB : Hs := ⟨2, [[lMe [oO [0, 1] 1 0 1], lMe [oO [0] (-1) 1 2, oO [1] (-1) 1 2]], [lOver]]⟩
def hC : Hs := ⟨2, [[lOver], [lOver, lMe [oO [0] (-1) 0 2, oO [1] (-1) 1 2]]]⟩
def hD : Hs := ⟨2, [[lTh [oO [0] (-1) 1 1, oO [0] 0 0 1]]]⟩
theorem v_known (m : Mu) : f__law_known [] m = .ok (.d (.list [eH hA, eH hB, eH hC, eH hD])) m := by
  refine fnF_ret ?_
  rfl
theorem ok_hA : HsOk 3 3 hA := by decide +kernel
theorem ok_hB : HsOk 3 3 hB := by decide +kernel
theorem ok_hC : HsOk 3 3 hC := by decide +kernel
theorem ok_hD : HsOk 3 3 hD := by decide +kernel
def isPrs : List PyData → List (Int × Int) → Bool
  | [], [] => true
  | .tuple [.int a, .int b] :: ds, p :: ps => a == p.1 && b == p.2 && isPrs ds ps
  | _, _ => false
theorem isPrs_eq : ∀ {ds : List PyData} {ps : List (Int × Int)}, isPrs ds ps = true → ds = ps.map fun p => .tuple [.int p.1, .int p.2] := by
  intro ds ps h
  induction ds, ps using isPrs.induct with
  | case1 => rfl
  | case2 a b ds p ps ih =>
    simp only [isPrs, Bool.and_eq_true, beq_iff_eq] at h
    obtain ⟨⟨h1, h2⟩, h3⟩ := h
    rw [List.map_cons, ← ih h3, h1, h2]
  | case3 ds ps h1 h2 =>
    unfold isPrs at h
    split at h
    · exact (h1 rfl rfl).elim
    · rename_i a b ds p ps
      exact (h2 _ _ _ _ _ rfl rfl).elim
    · cases h
def okPrs (r : R W) (ps : List (Int × Int)) : Bool := match r with
  | .ok (.d (.list ds)) _ => isPrs ds ps
  | _ => false
theorem turn_val {h : Hs} (ok : HsOk 3 3 h) {e st : Int} {w : List Int} (he : 0 ≤ e ∧ e < h.es.length) (hs : 0 ≤ st ∧ st < h.s) (hw : Wish h.s w) (ps : List (Int × Int)) (hv : okPrs (f_turning_lines [.d (eH h), .d (.int e), .d (.int st), .d (eW w)] []) ps = true) (m : Mu) :
    f_turning_lines [.d (eH h), .d (.int e), .d (.int st), .d (eW w)] m = .ok (.d (.list (ps.map fun p => .tuple [.int p.1, .int p.2]))) m := by
  rw [v_turning ok he hs hw m]
  rw [v_turning ok he hs hw []] at hv
  rw [isPrs_eq hv]
theorem cnt_D : okPrs (f_turning_lines [.d (eH hD), .d (.int 0), .d (.int 0), .d (eW [1])] []) [(0, 0)] = true := by decide +kernel
end Wy

set_option Elab.async false
set_option linter.all false
set_option maxRecDepth 100000
set_option maxHeartbeats 4000000
/-! M30: the law. -/
namespace Wy
open PySem PySem.Spec PyProof.Rows L2 PySem.W
def hE : Hs := ⟨2, [[lMe [oO [0] (-1) 0 1, oO [0] (-1) 1 1], lMe [oO [0] (-1) 0 2, oO [0] (-1) 1 2]]]⟩
theorem ok_hE : HsOk 3 3 hE := by decide +kernel
theorem t_D (m : Mu) : f_turning_lines [.d (eH hD), .d (.int 0), .d (.int 0), .d (eW [1])] m = .ok (.d (.list [.tuple [.int 0, .int 0]])) m := turn_val ok_hD (by decide) (by decide) (by decide) [(0, 0)] (by decide +kernel) m
theorem t_B (m : Mu) : f_turning_lines [.d (eH hB), .d (.int 0), .d (.int 0), .d (eW [1])] m = .ok (.d (.list [])) m := turn_val ok_hB (by decide) (by decide) (by decide) [] (by decide +kernel) m
theorem t_E (m : Mu) : f_turning_lines [.d (eH hE), .d (.int 0), .d (.int 0), .d (eW [0])] m = .ok (.d (.list [.tuple [.int 0, .int 0], .tuple [.int 0, .int 1]])) m := turn_val ok_hE (by decide) (by decide) (by decide) [(0, 0), (0, 1)] (by decide +kernel) m
theorem cutL (ds : List PyData) (a : Nat) (m : Mu) : gSl (.d (.list ds)) none (some (a : Int)) m = .ok (.d (.list (ds.take a))) m := by
  show R.ok (W.d (.list (cutA ds none (some (a : Int))))) m = _
  unfold cutA
  rw [HT.sIx_nat, HT.sIx_none]
  congr 3
  show List.take (min a ds.length - 0) ds = _
  rw [Nat.sub_zero, ← List.take_take, List.take_length]
theorem e_cells (ns : List Int) (k : Nat) (hl : ns.length ≤ 63) {r : Rh} {m : Mu} (h : r[0]? = some (some (.d (.list (ns.map .int))))) :
    fSeq (fSl (fBin gAdd (fLst (fCons (fC (.int 0)) fNil)) (fVar 0)) fNoP (fPart (fC (.int (k : Int))))) r m = .ok ⟨((0 :: ns).take k).map (fun c : Int => W.d (.int c)), none⟩ m := by
  have a1 : fBin gAdd (fLst (fCons (fC (.int 0)) fNil)) (fVar 0) r m = .ok (.d (.list ((0 :: ns).map .int))) m := by
    refine k_bin (a := .d (.list [.int 0])) (m1 := m) rfl (k_var h) (e_addL ?_)
    rw [List.length_map]
    simp
    omega
  have hmm : ((0 :: ns).take k).map (fun c : Int => W.d (.int c)) = (((0 :: ns).map PyData.int).take k).map W.d := by
    rw [← List.map_take, List.map_map]
    rfl
  rw [hmm]
  refine e_seqL ?_
  unfold fSl fNoP fPart
  rw [a1]
  exact cutL _ k m
theorem pure_law (ns : List Int) (hl : ns.length ≤ 63) : f_law 8 [.d (.list (ns.map PyData.int))] [] = .ok (.d (.bool true)) [] := by
  obtain ⟨r', m1, hf, y1, y2, y3, y4, y5, y6, y7, y8, y9, y10, y11, y12, y13, y14, y15, y16, y17, y18, y19, er⟩ := for_inv (pt := .nm 1) (fb := bCell) (fun c : Int => W.d (.int c))
    (fun _ r _ => ∃ y1 y2 y3 y4 y5 y6 y7 y8 y9 y10 y11 y12 y13 y14 y15 y16 y17 y18 y19, r = [some (.d (.list (ns.map PyData.int))), y1, y2, y3, y4, y5, y6, y7, y8, y9, y10, y11, y12, y13, y14, y15, y16, y17, y18, y19])
    ((0 :: ns).take 6) (startR 20 [.d (.list (ns.map PyData.int))]) [] ⟨none, none, none, none, none, none, none, none, none, none, none, none, none, none, none, none, none, none, none, rfl⟩
    (fun c rest r m ⟨y1, y2, y3, y4, y5, y6, y7, y8, y9, y10, y11, y12, y13, y14, y15, y16, y17, y18, y19, er⟩ => by
      subst er
      obtain ⟨m', z1, z2, z3, z4, z5, z6, z7, z8, z9, z10, z11, z12, z13, z14, z15, z16, z17, z18, z19, e1⟩ := cell_step (some (.d (.list (ns.map PyData.int)))) c y2 y3 y4 y5 y6 y7 y8 y9 y10 y11 y12 y13 y14 y15 y16 y17 y18 y19 m
      exact ⟨_, rfl, _, m', .inl e1, z1, z2, z3, z4, z5, z6, z7, z8, z9, z10, z11, z12, z13, z14, z15, z16, z17, z18, z19, rfl⟩)
  subst er
  have hk := v_known m1
  have k1 : fBin gIx (fCall 0 f__law_known fNil) (fC (.int 1)) [some (.d (.list (ns.map PyData.int))), y1, y2, y3, y4, y5, y6, y7, y8, y9, y10, y11, y12, y13, y14, y15, y16, y17, y18, y19] m1 = .ok (.d (eH hB)) m1 := k_bin (a := .d (.list [eH hA, eH hB, eH hC, eH hD])) (m1 := m1) hk rfl (ix_lst at1)
  have k3 : fBin gIx (fCall 0 f__law_known fNil) (fC (.int 3)) [some (.d (.list (ns.map PyData.int))), y1, y2, y3, y4, y5, y6, y7, y8, y9, y10, y11, y12, y13, y14, y15, y16, y17, y18, y19] m1 = .ok (.d (eH hD)) m1 := k_bin (a := .d (.list [eH hA, eH hB, eH hC, eH hD])) (m1 := m1) hk rfl (ix_lst at3)
  have p2 : fPar 16 17 (fCons (fBin gIx (fCall 0 f__law_known fNil) (fC (.int 1))) (fCons (fBin gIx (fCall 0 f__law_known fNil) (fC (.int 3))) fNil)) [some (.d (.list (ns.map PyData.int))), y1, y2, y3, y4, y5, y6, y7, y8, y9, y10, y11, y12, y13, y14, y15, y16, y17, y18, y19] m1 =
      .next [some (.d (.list (ns.map PyData.int))), y1, y2, y3, y4, y5, y6, y7, y8, y9, y10, y11, y12, y13, y14, y15, some (.d (eH hB)), some (.d (eH hD)), y18, y19] m1 := by
    unfold fPar
    rw [k_cons k1 (k_cons k3 k_nil)]
    rfl
  have n1 : ∀ m, gNe (.d (.list [.tuple [.int 0, .int 0]])) (.d (.list [.tuple [.int 0, .int 0]])) m = .ok (.d (.bool false)) m := fun m => by kernel_rfl
  have n2 : ∀ m, gNe (.d (.list [])) (.d (.list [])) m = .ok (.d (.bool false)) m := fun m => by kernel_rfl
  have n3 : ∀ m, gEq (.d (.list [.tuple [.int 0, .int 0], .tuple [.int 0, .int 1]])) (.d (.list [.tuple [.int 0, .int 0], .tuple [.int 0, .int 1]])) m = .ok (.d (.bool true)) m := fun m => by kernel_rfl
  have hM : ∃ m2 : Mu, b_law 8 (startR 20 [.d (.list (ns.map PyData.int))]) [] = .ret false (.d (.bool true)) m2 := by
    refine ⟨m1, ?_⟩
    unfold b_law
    refine k_then (k_for (e_cells ns 6 hl rfl) hf) (k_then p2 (k_then (r1 := [some (.d (.list (ns.map PyData.int))), y1, y2, y3, y4, y5, y6, y7, y8, y9, y10, y11, y12, y13, y14, y15, some (.d (eH hB)), some (.d (eH hD)), y18, y19]) (m1 := m1) ?_ (k_then (r1 := [some (.d (.list (ns.map PyData.int))), y1, y2, y3, y4, y5, y6, y7, y8, y9, y10, y11, y12, y13, y14, y15, some (.d (eH hB)), some (.d (eH hD)), y18, y19]) (m1 := m1) ?_ (k_then rfl (k_then rfl (k_ret ?_))))))
    · rw [fIfS_eq, fTb_eq, k_bin (k_call4 (k_var rfl) rfl rfl rfl (t_D m1)) rfl (n1 m1)]
      rfl
    · rw [fIfS_eq, fTb_eq, k_bin (k_call4 (k_var rfl) rfl rfl rfl (t_B m1)) rfl (n2 m1)]
      rfl
    · exact k_bin (k_call4 rfl rfl rfl rfl (t_E m1)) rfl (n3 m1)
  obtain ⟨m2, hm⟩ := hM
  unfold f_law fnF
  rw [hm]
  rfl
end Wy

set_option Elab.async false
set_option linter.all false
set_option maxRecDepth 100000
set_option maxHeartbeats 4000000
namespace Wy
open PySem PySem.Spec PyProof.Rows L2
def top (i : Nat) : Stmt := PySem.Challenge.pw_whileatit_k10_lines_that_turn_it.main.body.getD i (.Pass ⟨0, 0, 0, 0⟩)
structure Bt (mg : Str → Option Value) : Prop where
  h_all : mg "all" = none
  h_any : mg "any" = none
  h_bool : mg "bool" = none
  h_enumerate : mg "enumerate" = none
  h_int : mg "int" = none
  h_isinstance : mg "isinstance" = none
  h_len : mg "len" = none
  h_list : mg "list" = none
  h_range : mg "range" = none
  h_set : mg "set" = none
  h_sorted : mg "sorted" = none
  h_str : mg "str" = none
  h_tuple : mg "tuple" = none
  h_zip : mg "zip" = none
abbrev s_is_within : Stmt := top 8
abbrev N_is_within : List Str := ["value", "low", "high"]
theorem sc_is_within : FnScope N_is_within ["value", "low", "high"] (defScope s_is_within) := ⟨rfl, rfl, rfl, by decide +kernel, rfl, by decide +kernel, by decide +kernel⟩
theorem ok_is_within {P : Program} {w : World} {K : PySem.W.Frag} {mg : Str → Option Value} {base : Heap} {f : Addr} {fd : FuncData} {kk : Nat} (F : FnP K "is_within" s_is_within f fd) (gm : mg "is_within" = some (.ref f)) (B : Bt mg) : Cal P w K mg base (kk + 1) 3 "is_within" (f_is_within) := by
  refine ⟨f, fd, ["value", "low", "high"], fn_ok 3 3 F sc_is_within rfl rfl fun cdv A outer s H E hr => ?_, gm, F.kp, F.bindsN fun _ _ _ _ _ _ us hl => match us, hl with | [_, _, _], _ => rfl⟩
  have hu := hu5 hr
  have hu4 := hu4 hr
  exact (wss_one (ws_ret false (we_and (we_isi (we_var (pv 0 rfl (Or.inl rfl))) rfl B.h_isinstance rfl B.h_int rfl) (we_and (we_not (we_isi (we_var (pv 0 rfl (Or.inl rfl))) rfl B.h_isinstance rfl B.h_bool rfl)) (we_one (we_chain (ow_le hu4) (ow_le hu4) (we_var (pv 1 rfl (Or.inl rfl))) (we_var (pv 0 rfl (Or.inl rfl))) (we_var (pv 2 rfl (Or.inl rfl)))))))))
abbrev s_has_items : Stmt := top 9
abbrev N_has_items : List Str := ["value", "low", "high"]
theorem sc_has_items : FnScope N_has_items ["value", "low", "high"] (defScope s_has_items) := ⟨rfl, rfl, rfl, by decide +kernel, rfl, by decide +kernel, by decide +kernel⟩
theorem ok_has_items {P : Program} {w : World} {K : PySem.W.Frag} {mg : Str → Option Value} {base : Heap} {f : Addr} {fd : FuncData} {kk : Nat} (F : FnP K "has_items" s_has_items f fd) (gm : mg "has_items" = some (.ref f)) (B : Bt mg) : Cal P w K mg base (kk + 1) 3 "has_items" (f_has_items) := by
  refine ⟨f, fd, ["value", "low", "high"], fn_ok 3 3 F sc_has_items rfl rfl fun cdv A outer s H E hr => ?_, gm, F.kp, F.bindsN fun _ _ _ _ _ _ us hl => match us, hl with | [_, _, _], _ => rfl⟩
  have hu := hu5 hr
  have hu4 := hu4 hr
  exact (wss_one (ws_ret false (we_and (we_isi (we_var (pv 0 rfl (Or.inl rfl))) rfl B.h_isinstance rfl B.h_tuple rfl) (we_one (we_chain (ow_le hu4) (ow_le hu4) (we_var (pv 1 rfl (Or.inl rfl))) (we_bi cw_len rfl B.h_len rfl (wa_cons (we_var (pv 0 rfl (Or.inl rfl))) wa_nil)) (we_var (pv 2 rfl (Or.inl rfl))))))))
abbrev s_are_states : Stmt := top 10
abbrev N_are_states : List Str := ["states", "value", "one", "other"]
theorem sc_are_states : FnScope N_are_states ["states", "value"] (defScope s_are_states) := ⟨rfl, rfl, rfl, by decide +kernel, rfl, by decide +kernel, by decide +kernel⟩
theorem ok_are_states {P : Program} {w : World} {K : PySem.W.Frag} {mg : Str → Option Value} {base : Heap} {f : Addr} {fd : FuncData} {kk : Nat} (F : FnP K "are_states" s_are_states f fd) (gm : mg "are_states" = some (.ref f)) (B : Bt mg) (C_has_items : Cal P w K mg base kk 3 "has_items" (f_has_items)) (C_is_within : Cal P w K mg base kk 3 "is_within" (f_is_within)) : Cal P w K mg base (kk + 1) 2 "are_states" (f_are_states) := by
  refine ⟨f, fd, ["states", "value"], fn_ok 2 4 F sc_are_states rfl rfl fun cdv A outer s H E hr => ?_, gm, F.kp, F.bindsN fun _ _ _ _ _ _ us hl => match us, hl with | [_, _], _ => rfl⟩
  have hu := hu5 hr
  have hu4 := hu4 hr
  exact (wss_cons (ws_if (WW.t (ww_or (wt_not (wt_val (we_callC C_has_items (hr.mono (by omega)) rfl pass_of (wa_cons (we_var (pv 1 rfl (Or.inl rfl))) (wa_cons we_int (wa_cons (we_var (pv 0 rfl (Or.inr (Or.inl rfl)))) wa_nil)))))) (ww_or1 (wt_not (wt_val (we_bi (cw_all rfl) rfl B.h_all rfl (wa_cons (we_comp (own := [("one", 2)]) rfl sc_are_states.nd (wi_seq (we_var (pv 1 rfl (Or.inl rfl)))) (blkOk_by (N := N_are_states) (sc := defScope s_are_states) (by decide +kernel)) (by decide) (fun _ _ _ _ _ => (wp_nm sc_are_states.nd (i := 2) rfl (Or.inl rfl))) (fun _ _ _ _ _ => wts_nil) (fun _ _ _ _ _ => (we_callC C_is_within (hr.mono (by omega)) rfl passL (wa_cons (we_var (pv 2 rfl (Or.inl rfl))) (wa_cons we_int (wa_cons (we_bin ow_sub (we_var (pv 0 rfl (Or.inr (Or.inl rfl)))) we_int) wa_nil)))))) wa_nil))))))) (wss_one (ws_ret false we_bl)) wss_nil)
  (wss_one (ws_ret false (we_bi (cw_all rfl) rfl B.h_all rfl (wa_cons (we_comp (own := [("one", 2), ("other", 3)]) rfl sc_are_states.nd (wi_zip (we_var (pv 1 rfl (Or.inl rfl))) (we_slice (we_var (pv 1 rfl (Or.inl rfl))) (wo_some we_int) wo_none) rfl B.h_zip) (blkOk_by (N := N_are_states) (sc := defScope s_are_states) (by decide +kernel)) (by decide) (fun _ _ _ _ _ => (wp_tp rfl (wps_cons (wp_nm sc_are_states.nd (i := 2) rfl (Or.inl rfl)) (wps_cons (wp_nm sc_are_states.nd (i := 3) rfl (Or.inl rfl)) wps_nil)))) (fun _ _ _ _ _ => wts_nil) (fun _ _ _ _ _ => (we_cmp (ow_lt hu4) (we_var (pv 2 rfl (Or.inl rfl))) (we_var (pv 3 rfl (Or.inl rfl))) (nomark _)))) wa_nil)))))
abbrev s_is_option : Stmt := top 11
abbrev N_is_option : List Str := ["states", "many", "lines", "value"]
theorem sc_is_option : FnScope N_is_option ["states", "many", "lines", "value"] (defScope s_is_option) := ⟨rfl, rfl, rfl, by decide +kernel, rfl, by decide +kernel, by decide +kernel⟩
theorem ok_is_option {P : Program} {w : World} {K : PySem.W.Frag} {mg : Str → Option Value} {base : Heap} {f : Addr} {fd : FuncData} {kk : Nat} (F : FnP K "is_option" s_is_option f fd) (gm : mg "is_option" = some (.ref f)) (B : Bt mg) (C_has_items : Cal P w K mg base kk 3 "has_items" (f_has_items)) (C_are_states : Cal P w K mg base kk 2 "are_states" (f_are_states)) (C_is_within : Cal P w K mg base kk 3 "is_within" (f_is_within)) : Cal P w K mg base (kk + 1) 4 "is_option" (f_is_option) := by
  refine ⟨f, fd, ["states", "many", "lines", "value"], fn_ok 4 4 F sc_is_option rfl rfl fun cdv A outer s H E hr => ?_, gm, F.kp, F.bindsN fun _ _ _ _ _ _ us hl => match us, hl with | [_, _, _, _], _ => rfl⟩
  have hu := hu5 hr
  have hu4 := hu4 hr
  exact (wss_cons (ws_if (WW.t (ww_or (wt_not (wt_val (we_callC C_has_items (hr.mono (by omega)) rfl pass_of (wa_cons (we_var (pv 3 rfl (Or.inl rfl))) (wa_cons we_int (wa_cons we_int wa_nil)))))) (ww_or1 (wt_not (wt_val (we_callC C_are_states (hr.mono (by omega)) rfl pass_of (wa_cons (we_var (pv 0 rfl (Or.inl rfl))) (wa_cons (we_ix hu (we_var (pv 3 rfl (Or.inl rfl))) we_int (fun _ _ => rfl)) wa_nil)))))))) (wss_one (ws_ret false we_bl)) wss_nil)
  (wss_one (ws_ret false (we_and (we_callC C_is_within (hr.mono (by omega)) rfl pass_of (wa_cons (we_ix hu (we_var (pv 3 rfl (Or.inl rfl))) we_int (fun _ _ => rfl)) (wa_cons we_neg (wa_cons (we_bin ow_sub (we_var (pv 1 rfl (Or.inl rfl))) we_int) wa_nil)))) (we_and (we_callC C_is_within (hr.mono (by omega)) rfl pass_of (wa_cons (we_ix hu (we_var (pv 3 rfl (Or.inl rfl))) we_int (fun _ _ => rfl)) (wa_cons we_int (wa_cons (we_bin ow_sub (we_var (pv 0 rfl (Or.inl rfl))) we_int) wa_nil)))) (we_one (we_callC C_is_within (hr.mono (by omega)) rfl pass_of (wa_cons (we_ix hu (we_var (pv 3 rfl (Or.inl rfl))) we_int (fun _ _ => rfl)) (wa_cons we_int (wa_cons (we_var (pv 2 rfl (Or.inl rfl))) wa_nil))))))))))
abbrev s_is_line : Stmt := top 12
abbrev N_is_line : List Str := ["states", "many", "lines", "value", "one", "other"]
theorem sc_is_line : FnScope N_is_line ["states", "many", "lines", "value"] (defScope s_is_line) := ⟨rfl, rfl, rfl, by decide +kernel, rfl, by decide +kernel, by decide +kernel⟩
theorem ok_is_line {P : Program} {w : World} {K : PySem.W.Frag} {mg : Str → Option Value} {base : Heap} {f : Addr} {fd : FuncData} {kk : Nat} (F : FnP K "is_line" s_is_line f fd) (gm : mg "is_line" = some (.ref f)) (B : Bt mg) (G_WHO : Glo K mg "WHO" g_WHO) (C_has_items : Cal P w K mg base kk 3 "has_items" (f_has_items)) (C_is_option : Cal P w K mg base kk 4 "is_option" (f_is_option)) : Cal P w K mg base (kk + 1) 4 "is_line" (f_is_line) := by
  refine ⟨f, fd, ["states", "many", "lines", "value"], fn_ok 4 6 F sc_is_line rfl rfl fun cdv A outer s H E hr => ?_, gm, F.kp, F.bindsN fun _ _ _ _ _ _ us hl => match us, hl with | [_, _, _, _], _ => rfl⟩
  have hu := hu5 hr
  have hu4 := hu4 hr
  exact (wss_cons (ws_if (WW.t (ww_or (wt_not (wt_val (we_callC C_has_items (hr.mono (by omega)) rfl pass_of (wa_cons (we_var (pv 3 rfl (Or.inl rfl))) (wa_cons we_int (wa_cons we_int wa_nil)))))) (ww_or (wt_not (wt_val (we_isi (we_ix hu (we_var (pv 3 rfl (Or.inl rfl))) we_int (fun _ _ => rfl)) rfl B.h_isinstance rfl B.h_str rfl))) (ww_or1 (wt_cmp (ow_notIn hu) (we_ix hu (we_var (pv 3 rfl (Or.inl rfl))) we_int (fun _ _ => rfl)) (we_glo G_WHO rfl) (by with_unfolding_all rfl)))))) (wss_one (ws_ret false we_bl)) wss_nil)
  (wss_cons (ws_if (WW.t (ww_or (wt_not (wt_val (we_callC C_has_items (hr.mono (by omega)) rfl pass_of (wa_cons (we_ix hu (we_var (pv 3 rfl (Or.inl rfl))) we_int (fun _ _ => rfl)) (wa_cons we_int (wa_cons we_int wa_nil)))))) (ww_or1 (wt_not (wt_val (we_bi (cw_all rfl) rfl B.h_all rfl (wa_cons (we_comp (own := [("one", 4)]) rfl sc_is_line.nd (wi_seq (we_ix hu (we_var (pv 3 rfl (Or.inl rfl))) we_int (fun _ _ => rfl))) (blkOk_by (N := N_is_line) (sc := defScope s_is_line) (by decide +kernel)) (by decide) (fun _ _ _ _ _ => (wp_nm sc_is_line.nd (i := 4) rfl (Or.inl rfl))) (fun _ _ _ _ _ => wts_nil) (fun _ _ _ _ _ => (we_callC C_is_option (hr.mono (by omega)) rfl passL (wa_cons (we_var (pv 0 rfl (Or.inr (Or.inl rfl)))) (wa_cons (we_var (pv 1 rfl (Or.inr (Or.inl rfl)))) (wa_cons (we_var (pv 2 rfl (Or.inr (Or.inl rfl)))) (wa_cons (we_var (pv 4 rfl (Or.inl rfl))) wa_nil))))))) wa_nil))))))) (wss_one (ws_ret false we_bl)) wss_nil)
  (wss_one (ws_ret false (we_bi (cw_all rfl) rfl B.h_all rfl (wa_cons (we_comp (own := [("one", 4), ("other", 5)]) rfl sc_is_line.nd (wi_zip (we_ix hu (we_var (pv 3 rfl (Or.inl rfl))) we_int (fun _ _ => rfl)) (we_slice (we_ix hu (we_var (pv 3 rfl (Or.inl rfl))) we_int (fun _ _ => rfl)) (wo_some we_int) wo_none) rfl B.h_zip) (blkOk_by (N := N_is_line) (sc := defScope s_is_line) (by decide +kernel)) (by decide) (fun _ _ _ _ _ => (wp_tp rfl (wps_cons (wp_nm sc_is_line.nd (i := 4) rfl (Or.inl rfl)) (wps_cons (wp_nm sc_is_line.nd (i := 5) rfl (Or.inl rfl)) wps_nil)))) (fun _ _ _ _ _ => wts_nil) (fun _ _ _ _ _ => (we_cmp (ow_lt hu4) (we_var (pv 4 rfl (Or.inl rfl))) (we_var (pv 5 rfl (Or.inl rfl))) (nomark _)))) wa_nil))))))
abbrev s_is_house_value : Stmt := top 13
abbrev N_is_house_value : List Str := ["value", "states", "errands", "one", "line"]
theorem sc_is_house_value : FnScope N_is_house_value ["value"] (defScope s_is_house_value) := ⟨rfl, rfl, rfl, by decide +kernel, rfl, by decide +kernel, by decide +kernel⟩
theorem ok_is_house_value {P : Program} {w : World} {K : PySem.W.Frag} {mg : Str → Option Value} {base : Heap} {f : Addr} {fd : FuncData} {kk : Nat} (F : FnP K "is_house_value" s_is_house_value f fd) (gm : mg "is_house_value" = some (.ref f)) (B : Bt mg) (C_has_items : Cal P w K mg base kk 3 "has_items" (f_has_items)) (C_is_within : Cal P w K mg base kk 3 "is_within" (f_is_within)) (C_is_line : Cal P w K mg base kk 4 "is_line" (f_is_line)) : Cal P w K mg base (kk + 1) 1 "is_house_value" (f_is_house_value) := by
  refine ⟨f, fd, ["value"], fn_ok 1 5 F sc_is_house_value rfl rfl fun cdv A outer s H E hr => ?_, gm, F.kp, F.bindsN fun _ _ _ _ _ _ us hl => match us, hl with | [_], _ => rfl⟩
  have hu := hu5 hr
  have hu4 := hu4 hr
  exact (wss_cons (ws_if (WW.t (ww_or (wt_not (wt_val (we_callC C_has_items (hr.mono (by omega)) rfl pass_of (wa_cons (we_var (pv 0 rfl (Or.inl rfl))) (wa_cons we_int (wa_cons we_int wa_nil)))))) (ww_or (wt_not (wt_val (we_callC C_is_within (hr.mono (by omega)) rfl pass_of (wa_cons (we_ix hu (we_var (pv 0 rfl (Or.inl rfl))) we_int (fun _ _ => rfl)) (wa_cons we_int (wa_cons we_int wa_nil)))))) (ww_or1 (wt_not (wt_val (we_callC C_has_items (hr.mono (by omega)) rfl pass_of (wa_cons (we_ix hu (we_var (pv 0 rfl (Or.inl rfl))) we_int (fun _ _ => rfl)) (wa_cons we_int (wa_cons we_int wa_nil)))))))))) (wss_one (ws_ret false we_bl)) wss_nil)
  (wss_cons (ws_asg (we_var (pv 0 rfl (Or.inl rfl))) (wp_tp rfl (wps_cons (wp_nm sc_is_house_value.nd (i := 1) rfl (Or.inr rfl)) (wps_cons (wp_nm sc_is_house_value.nd (i := 2) rfl (Or.inr rfl)) wps_nil))))
  (wss_cons (ws_if (wt_not (wt_val (we_bi (cw_all rfl) rfl B.h_all rfl (wa_cons (we_comp (own := [("one", 3)]) rfl sc_is_house_value.nd (wi_seq (we_var (pv 2 rfl (Or.inr (Or.inl rfl))))) (blkOk_by (N := N_is_house_value) (sc := defScope s_is_house_value) (by decide +kernel)) (by decide) (fun _ _ _ _ _ => (wp_nm sc_is_house_value.nd (i := 3) rfl (Or.inl rfl))) (fun _ _ _ _ _ => wts_nil) (fun _ _ _ _ _ => (we_callC C_has_items (hr.mono (by omega)) rfl passL (wa_cons (we_var (pv 3 rfl (Or.inl rfl))) (wa_cons we_int (wa_cons we_int wa_nil)))))) wa_nil)))) (wss_one (ws_ret false we_bl)) wss_nil)
  (wss_one (ws_ret false (we_bi (cw_all rfl) rfl B.h_all rfl (wa_cons (we_comp2 (own := [("one", 3), ("line", 4)]) (vs1 := [4]) rfl sc_is_house_value.nd (wi_seq (we_var (pv 2 rfl (Or.inr (Or.inl rfl))))) (blkOk_by (N := N_is_house_value) (sc := defScope s_is_house_value) (by decide +kernel)) (by decide) (by decide) (by decide) (fun _ _ _ _ _ => (wp_nm sc_is_house_value.nd (i := 3) rfl (Or.inl rfl))) (fun _ _ _ _ _ => wts_nil) (fun _ _ _ _ _ => (wi_seq (we_var (pv 3 rfl (Or.inl rfl))))) (fun _ _ _ _ _ => (wp_nm sc_is_house_value.nd (i := 4) rfl (Or.inl rfl))) (fun _ _ _ _ _ => wts_nil) (fun _ _ _ _ _ => (we_callC C_is_line (hr.mono (by omega)) rfl passL (wa_cons (we_var (pv 1 rfl (Or.inr (Or.inl rfl)))) (wa_cons (we_bi cw_len rfl B.h_len rfl (wa_cons (we_var (pv 2 rfl (Or.inr (Or.inl rfl)))) wa_nil)) (wa_cons (we_bi cw_len rfl B.h_len rfl (wa_cons (we_var (pv 3 rfl (Or.inl rfl))) wa_nil)) (wa_cons (we_var (pv 4 rfl (Or.inl rfl))) wa_nil))))))) wa_nil)))))))
abbrev s_open_options : Stmt := top 14
abbrev N_open_options : List Str := ["house", "errand", "line", "state", "options", "at", "option"]
theorem sc_open_options : FnScope N_open_options ["house", "errand", "line", "state"] (defScope s_open_options) := ⟨rfl, rfl, rfl, by decide +kernel, rfl, by decide +kernel, by decide +kernel⟩
theorem ok_open_options {P : Program} {w : World} {K : PySem.W.Frag} {mg : Str → Option Value} {base : Heap} {f : Addr} {fd : FuncData} {kk : Nat} (F : FnP K "open_options" s_open_options f fd) (gm : mg "open_options" = some (.ref f)) (B : Bt mg) : Cal P w K mg base (kk + 1) 4 "open_options" (f_open_options) := by
  refine ⟨f, fd, ["house", "errand", "line", "state"], fn_ok 4 7 F sc_open_options rfl rfl fun cdv A outer s H E hr => ?_, gm, F.kp, F.bindsN fun _ _ _ _ _ _ us hl => match us, hl with | [_, _, _, _], _ => rfl⟩
  have hu := hu5 hr
  have hu4 := hu4 hr
  exact (wss_cons (ws_set (i := 4) sc_open_options.nd rfl (Or.inl rfl) (we_ix hu (we_ix hu (we_ix hu (we_ix hu (we_var (pv 0 rfl (Or.inl rfl))) we_int (fun _ _ => rfl)) (we_var (pv 1 rfl (Or.inl rfl))) (fun _ _ => rfl)) (we_var (pv 2 rfl (Or.inl rfl))) (fun _ _ => rfl)) we_int (fun _ _ => rfl)))
  (wss_one (ws_ret false (we_comp (own := [("at", 5), ("option", 6)]) rfl sc_open_options.nd (wi_enum (we_var (pv 4 rfl (Or.inl rfl))) rfl B.h_enumerate) (blkOk_by (N := N_open_options) (sc := defScope s_open_options) (by decide +kernel)) (by decide) (fun _ _ _ _ _ => (wp_tp rfl (wps_cons (wp_nm sc_open_options.nd (i := 5) rfl (Or.inl rfl)) (wps_cons (wp_nm sc_open_options.nd (i := 6) rfl (Or.inl rfl)) wps_nil)))) (fun _ _ _ _ _ => (wts_one (wt_cmp (ow_in hu) (we_var (pv 3 rfl (Or.inr (Or.inl rfl)))) (we_ix hu (we_var (pv 6 rfl (Or.inl rfl))) we_int (fun _ _ => rfl)) (by with_unfolding_all rfl)))) (fun _ _ _ _ _ => (we_var (pv 5 rfl (Or.inl rfl))))))))
abbrev s_need_house : Stmt := top 15
abbrev N_need_house : List Str := ["value"]
theorem sc_need_house : FnScope N_need_house ["value"] (defScope s_need_house) := ⟨rfl, rfl, rfl, by decide +kernel, rfl, by decide +kernel, by decide +kernel⟩
theorem ok_need_house {P : Program} {w : World} {K : PySem.W.Frag} {mg : Str → Option Value} {base : Heap} {f : Addr} {fd : FuncData} {kk : Nat} (F : FnP K "need_house" s_need_house f fd) (gm : mg "need_house" = some (.ref f)) (B : Bt mg) (X_InvalidHouse : Ecl K mg "InvalidHouse") (C_is_house_value : Cal P w K mg base kk 1 "is_house_value" (f_is_house_value)) : Cal P w K mg base (kk + 1) 1 "need_house" (f_need_house) := by
  refine ⟨f, fd, ["value"], fn_ok 1 1 F sc_need_house rfl rfl fun cdv A outer s H E hr => ?_, gm, F.kp, F.bindsN fun _ _ _ _ _ _ us hl => match us, hl with | [_], _ => rfl⟩
  have hu := hu5 hr
  have hu4 := hu4 hr
  exact (wss_one (ws_if (wt_not (wt_val (we_callC C_is_house_value (hr.mono (by omega)) rfl pass_of (wa_cons (we_var (pv 0 rfl (Or.inl rfl))) wa_nil)))) (wss_one (ws_raise X_InvalidHouse rfl tk_of rfl)) wss_nil))
abbrev s_need_errand : Stmt := top 16
abbrev N_need_errand : List Str := ["house", "value"]
theorem sc_need_errand : FnScope N_need_errand ["house", "value"] (defScope s_need_errand) := ⟨rfl, rfl, rfl, by decide +kernel, rfl, by decide +kernel, by decide +kernel⟩
theorem ok_need_errand {P : Program} {w : World} {K : PySem.W.Frag} {mg : Str → Option Value} {base : Heap} {f : Addr} {fd : FuncData} {kk : Nat} (F : FnP K "need_errand" s_need_errand f fd) (gm : mg "need_errand" = some (.ref f)) (B : Bt mg) (X_InvalidErrand : Ecl K mg "InvalidErrand") (C_is_within : Cal P w K mg base kk 3 "is_within" (f_is_within)) : Cal P w K mg base (kk + 1) 2 "need_errand" (f_need_errand) := by
  refine ⟨f, fd, ["house", "value"], fn_ok 2 2 F sc_need_errand rfl rfl fun cdv A outer s H E hr => ?_, gm, F.kp, F.bindsN fun _ _ _ _ _ _ us hl => match us, hl with | [_, _], _ => rfl⟩
  have hu := hu5 hr
  have hu4 := hu4 hr
  exact (wss_one (ws_if (wt_not (wt_val (we_callC C_is_within (hr.mono (by omega)) rfl pass_of (wa_cons (we_var (pv 1 rfl (Or.inl rfl))) (wa_cons we_int (wa_cons (we_bin ow_sub (we_bi cw_len rfl B.h_len rfl (wa_cons (we_ix hu (we_var (pv 0 rfl (Or.inl rfl))) we_int (fun _ _ => rfl)) wa_nil)) we_int) wa_nil)))))) (wss_one (ws_raise X_InvalidErrand rfl tk_of rfl)) wss_nil))
abbrev s_need_begin : Stmt := top 17
abbrev N_need_begin : List Str := ["house", "errand", "state"]
theorem sc_need_begin : FnScope N_need_begin ["house", "errand", "state"] (defScope s_need_begin) := ⟨rfl, rfl, rfl, by decide +kernel, rfl, by decide +kernel, by decide +kernel⟩
theorem ok_need_begin {P : Program} {w : World} {K : PySem.W.Frag} {mg : Str → Option Value} {base : Heap} {f : Addr} {fd : FuncData} {kk : Nat} (F : FnP K "need_begin" s_need_begin f fd) (gm : mg "need_begin" = some (.ref f)) (B : Bt mg) (X_InvalidState : Ecl K mg "InvalidState") (C_need_house : Cal P w K mg base kk 1 "need_house" (f_need_house)) (C_need_errand : Cal P w K mg base kk 2 "need_errand" (f_need_errand)) (C_is_within : Cal P w K mg base kk 3 "is_within" (f_is_within)) : Cal P w K mg base (kk + 1) 3 "need_begin" (f_need_begin) := by
  refine ⟨f, fd, ["house", "errand", "state"], fn_ok 3 3 F sc_need_begin rfl rfl fun cdv A outer s H E hr => ?_, gm, F.kp, F.bindsN fun _ _ _ _ _ _ us hl => match us, hl with | [_, _, _], _ => rfl⟩
  have hu := hu5 hr
  have hu4 := hu4 hr
  exact (wss_cons (ws_expr (we_callC C_need_house (hr.mono (by omega)) rfl pass_of (wa_cons (we_var (pv 0 rfl (Or.inl rfl))) wa_nil)))
  (wss_cons (ws_expr (we_callC C_need_errand (hr.mono (by omega)) rfl pass_of (wa_cons (we_var (pv 0 rfl (Or.inl rfl))) (wa_cons (we_var (pv 1 rfl (Or.inl rfl))) wa_nil))))
  (wss_one (ws_if (wt_not (wt_val (we_callC C_is_within (hr.mono (by omega)) rfl pass_of (wa_cons (we_var (pv 2 rfl (Or.inl rfl))) (wa_cons we_int (wa_cons (we_bin ow_sub (we_ix hu (we_var (pv 0 rfl (Or.inl rfl))) we_int (fun _ _ => rfl)) we_int) wa_nil)))))) (wss_one (ws_raise X_InvalidState rfl tk_of rfl)) wss_nil))))
abbrev s_need_wish : Stmt := top 18
abbrev N_need_wish : List Str := ["house", "wish"]
theorem sc_need_wish : FnScope N_need_wish ["house", "wish"] (defScope s_need_wish) := ⟨rfl, rfl, rfl, by decide +kernel, rfl, by decide +kernel, by decide +kernel⟩
theorem ok_need_wish {P : Program} {w : World} {K : PySem.W.Frag} {mg : Str → Option Value} {base : Heap} {f : Addr} {fd : FuncData} {kk : Nat} (F : FnP K "need_wish" s_need_wish f fd) (gm : mg "need_wish" = some (.ref f)) (B : Bt mg) (X_InvalidWish : Ecl K mg "InvalidWish") (C_are_states : Cal P w K mg base kk 2 "are_states" (f_are_states)) : Cal P w K mg base (kk + 1) 2 "need_wish" (f_need_wish) := by
  refine ⟨f, fd, ["house", "wish"], fn_ok 2 2 F sc_need_wish rfl rfl fun cdv A outer s H E hr => ?_, gm, F.kp, F.bindsN fun _ _ _ _ _ _ us hl => match us, hl with | [_, _], _ => rfl⟩
  have hu := hu5 hr
  have hu4 := hu4 hr
  exact (wss_one (ws_if (wt_not (wt_val (we_callC C_are_states (hr.mono (by omega)) rfl pass_of (wa_cons (we_ix hu (we_var (pv 0 rfl (Or.inl rfl))) we_int (fun _ _ => rfl)) (wa_cons (we_var (pv 1 rfl (Or.inl rfl))) wa_nil))))) (wss_one (ws_raise X_InvalidWish rfl tk_of rfl)) wss_nil))
abbrev s_nodes_of : Stmt := top 20
abbrev N_nodes_of : List Str := ["house", "found", "errand", "lines", "line", "state"]
theorem sc_nodes_of : FnScope N_nodes_of ["house"] (defScope s_nodes_of) := ⟨rfl, rfl, rfl, by decide +kernel, rfl, by decide +kernel, by decide +kernel⟩
theorem ok_nodes_of {P : Program} {w : World} {K : PySem.W.Frag} {mg : Str → Option Value} {base : Heap} {f : Addr} {fd : FuncData} {kk : Nat} (F : FnP K "nodes_of" s_nodes_of f fd) (gm : mg "nodes_of" = some (.ref f)) (B : Bt mg) : Cal P w K mg base (kk + 1) 1 "nodes_of" (f_nodes_of) := by
  refine ⟨f, fd, ["house"], fn_ok 1 6 F sc_nodes_of rfl rfl fun cdv A outer s H E hr => ?_, gm, F.kp, F.bindsN fun _ _ _ _ _ _ us hl => match us, hl with | [_], _ => rfl⟩
  have hu := hu5 hr
  have hu4 := hu4 hr
  exact (wss_cons (ws_set (i := 1) sc_nodes_of.nd rfl (Or.inl rfl) (we_lstN wa_nil))
  (wss_cons (ws_for own_of rfl (wi_enum (we_ix hu (we_var (pv 0 rfl (Or.inr (Or.inl rfl)))) we_int (fun _ _ => rfl)) rfl B.h_enumerate) (wp_tp rfl (wps_cons (wp_nm sc_nodes_of.nd (i := 2) rfl (Or.inr rfl)) (wps_cons (wp_nm sc_nodes_of.nd (i := 3) rfl (Or.inl rfl)) wps_nil))) (wss_one (ws_augL (i := 1) sc_nodes_of.nd rfl (Or.inl rfl) (we_comp2N (own := [("line", 4), ("state", 5)]) (vs1 := [5]) rfl sc_nodes_of.nd (wi_rng1 (we_bin ow_add (we_bi cw_len rfl B.h_len rfl (wa_cons (we_var (pv 3 rfl (Or.inl rfl))) wa_nil)) we_int) rfl B.h_range) (blkOk_by (N := N_nodes_of) (sc := defScope s_nodes_of) (by decide +kernel)) (by decide) (by decide) (by decide) (fun _ _ _ _ _ => (wp_nm sc_nodes_of.nd (i := 4) rfl (Or.inl rfl))) (fun _ _ _ _ _ => wts_nil) (fun _ _ _ _ _ => (wi_rng1 (we_ix hu (we_var (pv 0 rfl (Or.inr (Or.inl rfl)))) we_int (fun _ _ => rfl)) rfl B.h_range)) (fun _ _ _ _ _ => (wp_nm sc_nodes_of.nd (i := 5) rfl (Or.inl rfl))) (fun _ _ _ _ _ => wts_nil) (fun _ _ _ _ _ => (we_tup (wa_cons (we_var (pv 2 rfl (Or.inr (Or.inl rfl)))) (wa_cons (we_var (pv 4 rfl (Or.inl rfl))) (wa_cons (we_var (pv 5 rfl (Or.inl rfl))) wa_nil)))))))))
  (wss_one (ws_ret false (we_var (pv 1 rfl (Or.inl rfl)))))))
abbrev s_options_at : Stmt := top 21
abbrev N_options_at : List Str := ["house", "node", "errand", "line", "state", "at"]
theorem sc_options_at : FnScope N_options_at ["house", "node"] (defScope s_options_at) := ⟨rfl, rfl, rfl, by decide +kernel, rfl, by decide +kernel, by decide +kernel⟩
theorem ok_options_at {P : Program} {w : World} {K : PySem.W.Frag} {mg : Str → Option Value} {base : Heap} {f : Addr} {fd : FuncData} {kk : Nat} (F : FnP K "options_at" s_options_at f fd) (gm : mg "options_at" = some (.ref f)) (B : Bt mg) (C_open_options : Cal P w K mg base kk 4 "open_options" (f_open_options)) : Cal P w K mg base (kk + 1) 2 "options_at" (f_options_at) := by
  refine ⟨f, fd, ["house", "node"], fn_ok 2 6 F sc_options_at rfl rfl fun cdv A outer s H E hr => ?_, gm, F.kp, F.bindsN fun _ _ _ _ _ _ us hl => match us, hl with | [_, _], _ => rfl⟩
  have hu := hu5 hr
  have hu4 := hu4 hr
  exact (wss_cons (ws_asg (we_var (pv 1 rfl (Or.inl rfl))) (wp_tp rfl (wps_cons (wp_nm sc_options_at.nd (i := 2) rfl (Or.inr rfl)) (wps_cons (wp_nm sc_options_at.nd (i := 3) rfl (Or.inr rfl)) (wps_cons (wp_nm sc_options_at.nd (i := 4) rfl (Or.inl rfl)) wps_nil)))))
  (wss_cons (ws_if (wt_cmp (ow_eq hu4) (we_var (pv 3 rfl (Or.inr (Or.inl rfl)))) (we_bi cw_len rfl B.h_len rfl (wa_cons (we_ix hu (we_ix hu (we_var (pv 0 rfl (Or.inr (Or.inl rfl)))) we_int (fun _ _ => rfl)) (we_var (pv 2 rfl (Or.inr (Or.inl rfl)))) (fun _ _ => rfl)) wa_nil)) (nomark _)) (wss_one (ws_ret false (we_lst wa_nil))) wss_nil)
  (wss_one (ws_ret false (we_comp (own := [("at", 5)]) rfl sc_options_at.nd (wi_seq (we_callC C_open_options (hr.mono (by omega)) rfl pass_of (wa_cons (we_var (pv 0 rfl (Or.inr (Or.inl rfl)))) (wa_cons (we_var (pv 2 rfl (Or.inr (Or.inl rfl)))) (wa_cons (we_var (pv 3 rfl (Or.inr (Or.inl rfl)))) (wa_cons (we_var (pv 4 rfl (Or.inl rfl))) wa_nil)))))) (blkOk_by (N := N_options_at) (sc := defScope s_options_at) (by decide +kernel)) (by decide) (fun _ _ _ _ _ => (wp_nm sc_options_at.nd (i := 5) rfl (Or.inl rfl))) (fun _ _ _ _ _ => wts_nil) (fun _ _ _ _ _ => (we_ix hu (we_ix hu (we_ix hu (we_ix hu (we_ix hu (we_var (pv 0 rfl (Or.inr (Or.inl rfl)))) we_int (fun _ _ => rfl)) (we_var (pv 2 rfl (Or.inr (Or.inl rfl)))) (fun _ _ => rfl)) (we_var (pv 3 rfl (Or.inr (Or.inl rfl)))) (fun _ _ => rfl)) we_int (fun _ _ => rfl)) (we_var (pv 5 rfl (Or.inl rfl))) (fun _ _ => rfl))))))))
abbrev s_wishes_of : Stmt := top 23
abbrev N_wishes_of : List Str := ["states", "found", "state", "one"]
theorem sc_wishes_of : FnScope N_wishes_of ["states"] (defScope s_wishes_of) := ⟨rfl, rfl, rfl, by decide +kernel, rfl, by decide +kernel, by decide +kernel⟩
theorem ok_wishes_of {P : Program} {w : World} {K : PySem.W.Frag} {mg : Str → Option Value} {base : Heap} {f : Addr} {fd : FuncData} {kk : Nat} (F : FnP K "wishes_of" s_wishes_of f fd) (gm : mg "wishes_of" = some (.ref f)) (B : Bt mg) : Cal P w K mg base (kk + 1) 1 "wishes_of" (f_wishes_of) := by
  refine ⟨f, fd, ["states"], fn_ok 1 4 F sc_wishes_of rfl rfl fun cdv A outer s H E hr => ?_, gm, F.kp, F.bindsN fun _ _ _ _ _ _ us hl => match us, hl with | [_], _ => rfl⟩
  have hu := hu5 hr
  have hu4 := hu4 hr
  exact (wss_cons (ws_set (i := 1) sc_wishes_of.nd rfl (Or.inl rfl) (we_lstN (wa_cons (we_tup wa_nil) wa_nil)))
  (wss_cons (ws_for own_of rfl (wi_rng1 (we_var (pv 0 rfl (Or.inl rfl))) rfl B.h_range) (wp_nm sc_wishes_of.nd (i := 2) rfl (Or.inr rfl)) (wss_one (ws_augL (i := 1) sc_wishes_of.nd rfl (Or.inl rfl) (we_compN (own := [("one", 3)]) rfl sc_wishes_of.nd (wi_seq (we_var (pv 1 rfl (Or.inl rfl)))) (blkOk_by (N := N_wishes_of) (sc := defScope s_wishes_of) (by decide +kernel)) (by decide) (fun _ _ _ _ _ => (wp_nm sc_wishes_of.nd (i := 3) rfl (Or.inl rfl))) (fun _ _ _ _ _ => wts_nil) (fun _ _ _ _ _ => (we_bin ow_add (we_var (pv 3 rfl (Or.inl rfl))) (we_tup (wa_cons (we_var (pv 2 rfl (Or.inr (Or.inl rfl)))) wa_nil))))))))
  (wss_one (ws_ret false (we_slice (we_bi (cw_sorted rfl hu) rfl B.h_sorted rfl (wa_cons (we_var (pv 1 rfl (Or.inl rfl))) wa_nil)) (wo_some we_int) wo_none)))))
abbrev s_chooser : Stmt := top 24
abbrev N_chooser : List Str := ["house", "node", "errand", "line", "state"]
theorem sc_chooser : FnScope N_chooser ["house", "node"] (defScope s_chooser) := ⟨rfl, rfl, rfl, by decide +kernel, rfl, by decide +kernel, by decide +kernel⟩
theorem ok_chooser {P : Program} {w : World} {K : PySem.W.Frag} {mg : Str → Option Value} {base : Heap} {f : Addr} {fd : FuncData} {kk : Nat} (F : FnP K "chooser" s_chooser f fd) (gm : mg "chooser" = some (.ref f)) (B : Bt mg) : Cal P w K mg base (kk + 1) 2 "chooser" (f_chooser) := by
  refine ⟨f, fd, ["house", "node"], fn_ok 2 5 F sc_chooser rfl rfl fun cdv A outer s H E hr => ?_, gm, F.kp, F.bindsN fun _ _ _ _ _ _ us hl => match us, hl with | [_, _], _ => rfl⟩
  have hu := hu5 hr
  have hu4 := hu4 hr
  exact (wss_cons (ws_asg (we_var (pv 1 rfl (Or.inl rfl))) (wp_tp rfl (wps_cons (wp_nm sc_chooser.nd (i := 2) rfl (Or.inl rfl)) (wps_cons (wp_nm sc_chooser.nd (i := 3) rfl (Or.inl rfl)) (wps_cons (wp_nm sc_chooser.nd (i := 4) rfl (Or.inl rfl)) wps_nil)))))
  (wss_one (ws_ret false (we_if (wt_cmp (ow_lt hu4) (we_var (pv 3 rfl (Or.inl rfl))) (we_bi cw_len rfl B.h_len rfl (wa_cons (we_ix hu (we_ix hu (we_var (pv 0 rfl (Or.inl rfl))) we_int (fun _ _ => rfl)) (we_var (pv 2 rfl (Or.inl rfl))) (fun _ _ => rfl)) wa_nil)) (nomark _)) (we_ix hu (we_ix hu (we_ix hu (we_ix hu (we_var (pv 0 rfl (Or.inl rfl))) we_int (fun _ _ => rfl)) (we_var (pv 2 rfl (Or.inl rfl))) (fun _ _ => rfl)) (we_var (pv 3 rfl (Or.inl rfl))) (fun _ _ => rfl)) we_int (fun _ _ => rfl)) we_str))))
abbrev s_option_wins : Stmt := top 25
abbrev N_option_wins : List Str := ["table", "node", "option", "wish", "wishes", "need", "side", "state", "go", "same", "within", "middle", "one"]
theorem sc_option_wins : FnScope N_option_wins ["table", "node", "option", "wish", "wishes"] (defScope s_option_wins) := ⟨rfl, rfl, rfl, by decide +kernel, rfl, by decide +kernel, by decide +kernel⟩
theorem ok_option_wins {P : Program} {w : World} {K : PySem.W.Frag} {mg : Str → Option Value} {base : Heap} {f : Addr} {fd : FuncData} {kk : Nat} (F : FnP K "option_wins" s_option_wins f fd) (gm : mg "option_wins" = some (.ref f)) (B : Bt mg) : Cal P w K mg base (kk + 1) 5 "option_wins" (f_option_wins) := by
  refine ⟨f, fd, ["table", "node", "option", "wish", "wishes"], fn_ok 5 13 F sc_option_wins rfl rfl fun cdv A outer s H E hr => ?_, gm, F.kp, F.bindsN fun _ _ _ _ _ _ us hl => match us, hl with | [_, _, _, _, _], _ => rfl⟩
  have hu := hu5 hr
  have hu4 := hu4 hr
  exact (wss_cons (ws_asg (we_var (pv 2 rfl (Or.inl rfl))) (wp_tp rfl (wps_cons (wp_nm sc_option_wins.nd (i := 5) rfl (Or.inl rfl)) (wps_cons (wp_nm sc_option_wins.nd (i := 6) rfl (Or.inl rfl)) (wps_cons (wp_nm sc_option_wins.nd (i := 7) rfl (Or.inl rfl)) (wps_cons (wp_nm sc_option_wins.nd (i := 8) rfl (Or.inr rfl)) wps_nil))))))
  (wss_cons (ws_asg (we_var (pv 0 rfl (Or.inl rfl))) (wp_tp rfl (wps_cons (wp_nm sc_option_wins.nd (i := 9) rfl (Or.inr rfl)) (wps_cons (wp_nm sc_option_wins.nd (i := 10) rfl (Or.inl rfl)) wps_nil))))
  (wss_cons (ws_if (wt_cmp (ow_lt hu4) (we_var (pv 6 rfl (Or.inl rfl))) we_int (nomark _)) (wss_one (ws_ret false (we_cmp (ow_in hu) (we_tup (wa_cons (we_ix hu (we_var (pv 1 rfl (Or.inr (Or.inl rfl)))) we_int (fun _ _ => rfl)) (wa_cons (we_var (pv 8 rfl (Or.inr (Or.inl rfl)))) (wa_cons (we_var (pv 7 rfl (Or.inl rfl))) (wa_cons (we_var (pv 3 rfl (Or.inr (Or.inl rfl)))) wa_nil))))) (we_var (pv 9 rfl (Or.inr (Or.inl rfl)))) (by with_unfolding_all rfl)))) wss_nil)
  (wss_cons (ws_for own_of rfl (wi_seq (we_var (pv 4 rfl (Or.inl rfl)))) (wp_nm sc_option_wins.nd (i := 11) rfl (Or.inl rfl)) (wss_one (ws_if (WW.t (ww_and (wt_cmp (ow_in hu) (we_tup (wa_cons (we_var (pv 6 rfl (Or.inl rfl))) (wa_cons we_int (wa_cons (we_var (pv 7 rfl (Or.inl rfl))) (wa_cons (we_var (pv 11 rfl (Or.inl rfl))) wa_nil))))) (we_var (pv 10 rfl (Or.inl rfl))) (by with_unfolding_all rfl)) (ww_and1 (wt_val (we_bi (cw_all rfl) rfl B.h_all rfl (wa_cons (we_comp (own := [("one", 12)]) rfl sc_option_wins.nd (wi_seq (we_var (pv 11 rfl (Or.inl rfl)))) (blkOk_by (N := N_option_wins) (sc := defScope s_option_wins) (by decide +kernel)) (by decide) (fun _ _ _ _ _ => (wp_nm sc_option_wins.nd (i := 12) rfl (Or.inl rfl))) (fun _ _ _ _ _ => wts_nil) (fun _ _ _ _ _ => (we_cmp (ow_in hu) (we_tup (wa_cons (we_ix hu (we_var (pv 1 rfl (Or.inr (Or.inl rfl)))) we_int (fun _ _ => rfl)) (wa_cons (we_var (pv 8 rfl (Or.inr (Or.inl rfl)))) (wa_cons (we_var (pv 12 rfl (Or.inl rfl))) (wa_cons (we_var (pv 3 rfl (Or.inr (Or.inl rfl)))) wa_nil))))) (we_var (pv 9 rfl (Or.inr (Or.inl rfl)))) (by with_unfolding_all rfl)))) wa_nil)))))) (wss_one (ws_ret false we_bl)) wss_nil)))
  (wss_one (ws_ret false we_bl))))))
abbrev s_node_wins : Stmt := top 26
abbrev N_node_wins : List Str := ["house", "table", "node", "wish", "wishes", "rows", "option"]
theorem sc_node_wins : FnScope N_node_wins ["house", "table", "node", "wish", "wishes"] (defScope s_node_wins) := ⟨rfl, rfl, rfl, by decide +kernel, rfl, by decide +kernel, by decide +kernel⟩
theorem ok_node_wins {P : Program} {w : World} {K : PySem.W.Frag} {mg : Str → Option Value} {base : Heap} {f : Addr} {fd : FuncData} {kk : Nat} (F : FnP K "node_wins" s_node_wins f fd) (gm : mg "node_wins" = some (.ref f)) (B : Bt mg) (C_options_at : Cal P w K mg base kk 2 "options_at" (f_options_at)) (C_option_wins : Cal P w K mg base kk 5 "option_wins" (f_option_wins)) (C_chooser : Cal P w K mg base kk 2 "chooser" (f_chooser)) : Cal P w K mg base (kk + 1) 5 "node_wins" (f_node_wins) := by
  refine ⟨f, fd, ["house", "table", "node", "wish", "wishes"], fn_ok 5 7 F sc_node_wins rfl rfl fun cdv A outer s H E hr => ?_, gm, F.kp, F.bindsN fun _ _ _ _ _ _ us hl => match us, hl with | [_, _, _, _, _], _ => rfl⟩
  have hu := hu5 hr
  have hu4 := hu4 hr
  exact (wss_cons (ws_if (wt_cmp (ow_eq hu4) (we_ix hu (we_var (pv 2 rfl (Or.inr (Or.inl rfl)))) we_int (fun _ _ => rfl)) (we_bi cw_len rfl B.h_len rfl (wa_cons (we_ix hu (we_ix hu (we_var (pv 0 rfl (Or.inl rfl))) we_int (fun _ _ => rfl)) (we_ix hu (we_var (pv 2 rfl (Or.inr (Or.inl rfl)))) we_int (fun _ _ => rfl)) (fun _ _ => rfl)) wa_nil)) (nomark _)) (wss_one (ws_ret false (we_cmp (ow_in hu) (we_ix hu (we_var (pv 2 rfl (Or.inr (Or.inl rfl)))) we_int (fun _ _ => rfl)) (we_var (pv 3 rfl (Or.inr (Or.inl rfl)))) (by with_unfolding_all rfl)))) wss_nil)
  (wss_cons (ws_setLc (i := 5) (own := [("option", 6)]) rfl sc_node_wins.nd rfl rfl (by rfl) (wi_seq (we_callC C_options_at (hr.mono (by omega)) rfl pass_of (wa_cons (we_var (pv 0 rfl (Or.inl rfl))) (wa_cons (we_var (pv 2 rfl (Or.inr (Or.inl rfl)))) wa_nil)))) (blkOk_by (N := N_node_wins) (sc := defScope s_node_wins) (by decide +kernel)) (by decide) (fun _ _ _ _ _ => (wp_nm sc_node_wins.nd (i := 6) rfl (Or.inl rfl))) (fun _ _ _ _ _ => wts_nil) (fun _ _ _ _ _ => (we_callC C_option_wins (hr.mono (by omega)) rfl passL (wa_cons (we_var (pv 1 rfl (Or.inr (Or.inl rfl)))) (wa_cons (we_var (pv 2 rfl (Or.inr (Or.inl rfl)))) (wa_cons (we_var (pv 6 rfl (Or.inl rfl))) (wa_cons (we_var (pv 3 rfl (Or.inr (Or.inl rfl)))) (wa_cons (we_var (pv 4 rfl (Or.inr (Or.inl rfl)))) wa_nil))))))))
  (wss_cons (ws_if (wt_cmp (ow_eq hu4) (we_callC C_chooser (hr.mono (by omega)) rfl pass_of (wa_cons (we_var (pv 0 rfl (Or.inl rfl))) (wa_cons (we_var (pv 2 rfl (Or.inr (Or.inl rfl)))) wa_nil))) we_str (nomark _)) (wss_one (ws_ret false (we_bi (cw_any rfl) rfl B.h_any rfl (wa_cons (we_var (pv 5 rfl (Or.inl rfl))) wa_nil)))) wss_nil)
  (wss_one (ws_ret false (we_and (we_cmp (ow_ne hu4) (we_var (pv 5 rfl (Or.inl rfl))) (we_lst wa_nil) (nomark _)) (we_one (we_bi (cw_all rfl) rfl B.h_all rfl (wa_cons (we_var (pv 5 rfl (Or.inl rfl))) wa_nil)))))))))
abbrev s_closed_table : Stmt := top 27
abbrev N_closed_table : List Str := ["house", "within", "found", "wishes", "nodes", "changed", "node", "wish", "table"]
theorem sc_closed_table : FnScope N_closed_table ["house", "within"] (defScope s_closed_table) := ⟨rfl, rfl, rfl, by decide +kernel, rfl, by decide +kernel, by decide +kernel⟩
theorem ok_closed_table {P : Program} {w : World} {K : PySem.W.Frag} {mg : Str → Option Value} {base : Heap} {f : Addr} {fd : FuncData} {kk : Nat} (F : FnP K "closed_table" s_closed_table f fd) (gm : mg "closed_table" = some (.ref f)) (B : Bt mg) (C_nodes_of : Cal P w K mg base kk 1 "nodes_of" (f_nodes_of)) (C_wishes_of : Cal P w K mg base kk 1 "wishes_of" (f_wishes_of)) (C_node_wins : Cal P w K mg base kk 5 "node_wins" (f_node_wins)) : Cal P w K mg base (kk + 1) 2 "closed_table" (f_closed_table) := by
  refine ⟨f, fd, ["house", "within"], fn_ok 2 9 F sc_closed_table rfl rfl fun cdv A outer s H E hr => ?_, gm, F.kp, F.bindsN fun _ _ _ _ _ _ us hl => match us, hl with | [_, _], _ => rfl⟩
  have hu := hu5 hr
  have hu4 := hu4 hr
  exact (wss_cons (ws_par3 (i := 2) (j := 3) (l := 4) rfl sc_closed_table.nd rfl rfl rfl (by decide) (by decide) (by decide) rfl rfl rfl (wa_cons we_dct (wa_cons (we_callC C_wishes_of (hr.mono (by omega)) rfl pass_of (wa_cons (we_ix hu (we_var (pv 0 rfl (Or.inl rfl))) we_int (fun _ _ => rfl)) wa_nil)) (wa_cons (we_callC C_nodes_of (hr.mono (by omega)) rfl pass_of (wa_cons (we_var (pv 0 rfl (Or.inl rfl))) wa_nil)) wa_nil))) (by rfl))
  (wss_cons (ws_set (i := 5) sc_closed_table.nd rfl (Or.inl rfl) we_bl)
  (wss_cons (ws_while 100000 own_of (wt_val (we_var (pv 5 rfl (Or.inl rfl)))) (wss_cons (ws_set (i := 5) sc_closed_table.nd rfl (Or.inl rfl) we_bl)
  (wss_one (ws_for own_of rfl (wi_seq (we_var (pv 4 rfl (Or.inl rfl)))) (wp_nm sc_closed_table.nd (i := 6) rfl (Or.inl rfl)) (wss_one (ws_for own_of rfl (wi_seq (we_var (pv 3 rfl (Or.inl rfl)))) (wp_nm sc_closed_table.nd (i := 7) rfl (Or.inl rfl)) (wss_cons (ws_set (i := 8) sc_closed_table.nd rfl (Or.inl rfl) (we_tup (wa_cons (we_var (pv 2 rfl (Or.inl rfl))) (wa_cons (we_if (wt_isN (we_var (pv 1 rfl (Or.inl rfl)))) (we_var (pv 2 rfl (Or.inl rfl))) (we_var (pv 1 rfl (Or.inl rfl)))) wa_nil))))
  (wss_one (ws_if (WW.t (ww_and (wt_cmp (ow_notIn hu) (we_bin ow_add (we_var (pv 6 rfl (Or.inl rfl))) (we_tup (wa_cons (we_var (pv 7 rfl (Or.inl rfl))) wa_nil))) (we_var (pv 2 rfl (Or.inl rfl))) (by with_unfolding_all rfl)) (ww_and1 (wt_val (we_callC C_node_wins (hr.mono (by omega)) rfl pass_of (wa_cons (we_var (pv 0 rfl (Or.inl rfl))) (wa_cons (we_var (pv 8 rfl (Or.inl rfl))) (wa_cons (we_var (pv 6 rfl (Or.inl rfl))) (wa_cons (we_var (pv 7 rfl (Or.inl rfl))) (wa_cons (we_var (pv 3 rfl (Or.inl rfl))) wa_nil)))))))))) (wss_one (ws_stNm rfl sc_closed_table.nd (j := 5) rfl (Or.inl rfl) hu (we_tup (wa_cons we_bl (wa_cons we_bl wa_nil))) (we_var (pv 2 rfl (Or.inl rfl))) (we_bin ow_add (we_var (pv 6 rfl (Or.inl rfl))) (we_tup (wa_cons (we_var (pv 7 rfl (Or.inl rfl))) wa_nil))))) wss_nil)))))))))
  (wss_one (ws_ret false (we_var (pv 2 rfl (Or.inl rfl))))))))
abbrev s_win_table : Stmt := top 28
abbrev N_win_table : List Str := ["house"]
theorem sc_win_table : FnScope N_win_table ["house"] (defScope s_win_table) := ⟨rfl, rfl, rfl, by decide +kernel, rfl, by decide +kernel, by decide +kernel⟩
theorem ok_win_table {P : Program} {w : World} {K : PySem.W.Frag} {mg : Str → Option Value} {base : Heap} {f : Addr} {fd : FuncData} {kk : Nat} (F : FnP K "win_table" s_win_table f fd) (gm : mg "win_table" = some (.ref f)) (B : Bt mg) (C_closed_table : Cal P w K mg base kk 2 "closed_table" (f_closed_table)) : Cal P w K mg base (kk + 1) 1 "win_table" (f_win_table) := by
  refine ⟨f, fd, ["house"], fn_ok 1 1 F sc_win_table rfl rfl fun cdv A outer s H E hr => ?_, gm, F.kp, F.bindsN fun _ _ _ _ _ _ us hl => match us, hl with | [_], _ => rfl⟩
  have hu := hu5 hr
  have hu4 := hu4 hr
  exact (wss_one (ws_ret false (we_callC C_closed_table (hr.mono (by omega)) rfl pass_of (wa_cons (we_var (pv 0 rfl (Or.inl rfl))) (wa_cons we_non wa_nil)))))
abbrev s_with_line : Stmt := top 30
abbrev N_with_line : List Str := ["house", "errand", "at", "line", "states", "errands", "lines"]
theorem sc_with_line : FnScope N_with_line ["house", "errand", "at", "line"] (defScope s_with_line) := ⟨rfl, rfl, rfl, by decide +kernel, rfl, by decide +kernel, by decide +kernel⟩
theorem ok_with_line {P : Program} {w : World} {K : PySem.W.Frag} {mg : Str → Option Value} {base : Heap} {f : Addr} {fd : FuncData} {kk : Nat} (F : FnP K "with_line" s_with_line f fd) (gm : mg "with_line" = some (.ref f)) (B : Bt mg) : Cal P w K mg base (kk + 1) 4 "with_line" (f_with_line) := by
  refine ⟨f, fd, ["house", "errand", "at", "line"], fn_ok 4 7 F sc_with_line rfl rfl fun cdv A outer s H E hr => ?_, gm, F.kp, F.bindsN fun _ _ _ _ _ _ us hl => match us, hl with | [_, _, _, _], _ => rfl⟩
  have hu := hu5 hr
  have hu4 := hu4 hr
  exact (wss_cons (ws_asg (we_var (pv 0 rfl (Or.inl rfl))) (wp_tp rfl (wps_cons (wp_nm sc_with_line.nd (i := 4) rfl (Or.inl rfl)) (wps_cons (wp_nm sc_with_line.nd (i := 5) rfl (Or.inl rfl)) wps_nil))))
  (wss_cons (ws_set (i := 6) sc_with_line.nd rfl (Or.inl rfl) (we_bin ow_add (we_bin ow_add (we_slice (we_ix hu (we_var (pv 5 rfl (Or.inl rfl))) (we_var (pv 1 rfl (Or.inl rfl))) (fun _ _ => rfl)) wo_none (wo_some (we_var (pv 2 rfl (Or.inl rfl))))) (we_tup (wa_cons (we_var (pv 3 rfl (Or.inl rfl))) wa_nil))) (we_slice (we_ix hu (we_var (pv 5 rfl (Or.inl rfl))) (we_var (pv 1 rfl (Or.inl rfl))) (fun _ _ => rfl)) (wo_some (we_bin ow_add (we_var (pv 2 rfl (Or.inl rfl))) we_int)) wo_none)))
  (wss_one (ws_ret false (we_tup (wa_cons (we_var (pv 4 rfl (Or.inl rfl))) (wa_cons (we_bin ow_add (we_bin ow_add (we_slice (we_var (pv 5 rfl (Or.inl rfl))) wo_none (wo_some (we_var (pv 1 rfl (Or.inl rfl))))) (we_tup (wa_cons (we_var (pv 6 rfl (Or.inl rfl))) wa_nil))) (we_slice (we_var (pv 5 rfl (Or.inl rfl))) (wo_some (we_bin ow_add (we_var (pv 1 rfl (Or.inl rfl))) we_int)) wo_none)) wa_nil)))))))
abbrev s_with_other : Stmt := top 31
abbrev N_with_other : List Str := ["house", "errand", "at", "who", "options"]
theorem sc_with_other : FnScope N_with_other ["house", "errand", "at"] (defScope s_with_other) := ⟨rfl, rfl, rfl, by decide +kernel, rfl, by decide +kernel, by decide +kernel⟩
theorem ok_with_other {P : Program} {w : World} {K : PySem.W.Frag} {mg : Str → Option Value} {base : Heap} {f : Addr} {fd : FuncData} {kk : Nat} (F : FnP K "with_other" s_with_other f fd) (gm : mg "with_other" = some (.ref f)) (B : Bt mg) (C_with_line : Cal P w K mg base kk 4 "with_line" (f_with_line)) : Cal P w K mg base (kk + 1) 3 "with_other" (f_with_other) := by
  refine ⟨f, fd, ["house", "errand", "at"], fn_ok 3 5 F sc_with_other rfl rfl fun cdv A outer s H E hr => ?_, gm, F.kp, F.bindsN fun _ _ _ _ _ _ us hl => match us, hl with | [_, _, _], _ => rfl⟩
  have hu := hu5 hr
  have hu4 := hu4 hr
  exact (wss_cons (ws_asg (we_ix hu (we_ix hu (we_ix hu (we_var (pv 0 rfl (Or.inl rfl))) we_int (fun _ _ => rfl)) (we_var (pv 1 rfl (Or.inl rfl))) (fun _ _ => rfl)) (we_var (pv 2 rfl (Or.inl rfl))) (fun _ _ => rfl)) (wp_tp rfl (wps_cons (wp_nm sc_with_other.nd (i := 3) rfl (Or.inl rfl)) (wps_cons (wp_nm sc_with_other.nd (i := 4) rfl (Or.inl rfl)) wps_nil))))
  (wss_one (ws_ret false (we_callC C_with_line (hr.mono (by omega)) rfl pass_of (wa_cons (we_var (pv 0 rfl (Or.inl rfl))) (wa_cons (we_var (pv 1 rfl (Or.inl rfl))) (wa_cons (we_var (pv 2 rfl (Or.inl rfl))) (wa_cons (we_tup (wa_cons (we_if (wt_cmp (ow_eq hu4) (we_var (pv 3 rfl (Or.inl rfl))) we_str (nomark _)) we_str we_str) (wa_cons (we_var (pv 4 rfl (Or.inl rfl))) wa_nil))) wa_nil))))))))
abbrev s_turning_lines : Stmt := top 29
abbrev N_turning_lines : List Str := ["house", "errand", "state", "wish", "here", "found", "one", "lines", "at"]
theorem sc_turning_lines : FnScope N_turning_lines ["house", "errand", "state", "wish"] (defScope s_turning_lines) := ⟨rfl, rfl, rfl, by decide +kernel, rfl, by decide +kernel, by decide +kernel⟩
theorem ok_turning_lines {P : Program} {w : World} {K : PySem.W.Frag} {mg : Str → Option Value} {base : Heap} {f : Addr} {fd : FuncData} {kk : Nat} (F : FnP K "turning_lines" s_turning_lines f fd) (gm : mg "turning_lines" = some (.ref f)) (B : Bt mg) (C_need_begin : Cal P w K mg base kk 3 "need_begin" (f_need_begin)) (C_need_wish : Cal P w K mg base kk 2 "need_wish" (f_need_wish)) (C_win_table : Cal P w K mg base kk 1 "win_table" (f_win_table)) (C_with_other : Cal P w K mg base kk 3 "with_other" (f_with_other)) : Cal P w K mg base (kk + 1) 4 "turning_lines" (f_turning_lines) := by
  refine ⟨f, fd, ["house", "errand", "state", "wish"], fn_ok 4 9 F sc_turning_lines rfl rfl fun cdv A outer s H E hr => ?_, gm, F.kp, F.bindsN fun _ _ _ _ _ _ us hl => match us, hl with | [_, _, _, _], _ => rfl⟩
  have hu := hu5 hr
  have hu4 := hu4 hr
  exact (wss_cons (ws_expr (we_callC C_need_begin (hr.mono (by omega)) rfl pass_of (wa_cons (we_var (pv 0 rfl (Or.inl rfl))) (wa_cons (we_var (pv 1 rfl (Or.inl rfl))) (wa_cons (we_var (pv 2 rfl (Or.inl rfl))) wa_nil)))))
  (wss_cons (ws_expr (we_callC C_need_wish (hr.mono (by omega)) rfl pass_of (wa_cons (we_var (pv 0 rfl (Or.inl rfl))) (wa_cons (we_var (pv 3 rfl (Or.inl rfl))) wa_nil))))
  (wss_cons (ws_set (i := 4) sc_turning_lines.nd rfl (Or.inl rfl) (we_cmp (ow_in hu) (we_tup (wa_cons (we_var (pv 1 rfl (Or.inl rfl))) (wa_cons we_int (wa_cons (we_var (pv 2 rfl (Or.inl rfl))) (wa_cons (we_var (pv 3 rfl (Or.inl rfl))) wa_nil))))) (we_callC C_win_table (hr.mono (by omega)) rfl pass_of (wa_cons (we_var (pv 0 rfl (Or.inl rfl))) wa_nil)) (by with_unfolding_all rfl)))
  (wss_cons (ws_set (i := 5) sc_turning_lines.nd rfl (Or.inl rfl) (we_lstN wa_nil))
  (wss_cons (ws_for own_of rfl (wi_enum (we_ix hu (we_var (pv 0 rfl (Or.inl rfl))) we_int (fun _ _ => rfl)) rfl B.h_enumerate) (wp_tp rfl (wps_cons (wp_nm sc_turning_lines.nd (i := 6) rfl (Or.inl rfl)) (wps_cons (wp_nm sc_turning_lines.nd (i := 7) rfl (Or.inl rfl)) wps_nil))) (wss_one (ws_for own_of rfl (wi_rng1 (we_bi cw_len rfl B.h_len rfl (wa_cons (we_var (pv 7 rfl (Or.inl rfl))) wa_nil)) rfl B.h_range) (wp_nm sc_turning_lines.nd (i := 8) rfl (Or.inl rfl)) (wss_one (ws_if (wt_cmp (ow_ne hu4) (we_cmp (ow_in hu) (we_tup (wa_cons (we_var (pv 1 rfl (Or.inl rfl))) (wa_cons we_int (wa_cons (we_var (pv 2 rfl (Or.inl rfl))) (wa_cons (we_var (pv 3 rfl (Or.inl rfl))) wa_nil))))) (we_callC C_win_table (hr.mono (by omega)) rfl pass_of (wa_cons (we_callC C_with_other (hr.mono (by omega)) rfl pass_of (wa_cons (we_var (pv 0 rfl (Or.inl rfl))) (wa_cons (we_var (pv 6 rfl (Or.inl rfl))) (wa_cons (we_var (pv 8 rfl (Or.inl rfl))) wa_nil)))) wa_nil)) (by with_unfolding_all rfl)) (we_var (pv 4 rfl (Or.inl rfl))) (nomark _)) (wss_one (ws_expr (we_app (we_var (pv 5 rfl (Or.inl rfl))) (wa_cons (we_tup (wa_cons (we_var (pv 6 rfl (Or.inl rfl))) (wa_cons (we_var (pv 8 rfl (Or.inl rfl))) wa_nil))) wa_nil)))) wss_nil)))))
  (wss_one (ws_ret false (we_var (pv 5 rfl (Or.inl rfl))))))))))
abbrev s__law_deck : Stmt := top 33
abbrev N__law_deck : List Str := ["_law_cell", "_law_turn"]
theorem sc__law_deck : FnScope N__law_deck ["_law_cell", "_law_turn"] (defScope s__law_deck) := ⟨rfl, rfl, rfl, by decide +kernel, rfl, by decide +kernel, by decide +kernel⟩
theorem ok__law_deck {P : Program} {w : World} {K : PySem.W.Frag} {mg : Str → Option Value} {base : Heap} {f : Addr} {fd : FuncData} {kk : Nat} (F : FnP K "_law_deck" s__law_deck f fd) (gm : mg "_law_deck" = some (.ref f)) (B : Bt mg) : Cal P w K mg base (kk + 1) 2 "_law_deck" (f__law_deck) := by
  refine ⟨f, fd, ["_law_cell", "_law_turn"], fn_ok 2 2 F sc__law_deck rfl rfl fun cdv A outer s H E hr => ?_, gm, F.kp, F.bindsN fun _ _ _ _ _ _ us hl => match us, hl with | [_, _], _ => rfl⟩
  have hu := hu5 hr
  have hu4 := hu4 hr
  exact (wss_cons (ws_if (wt_cmp (ow_ge hu4) (we_var (pv 0 rfl (Or.inl rfl))) (we_bin ow_pow we_int we_int) (nomark _)) (wss_one (ws_ret true (we_lstN (wa_cons (we_bin ow_sub (we_var (pv 0 rfl (Or.inl rfl))) (we_bin ow_pow we_int we_int)) (wa_cons (we_bin ow_mod (we_var (pv 0 rfl (Or.inl rfl))) we_int) (wa_cons (we_var (pv 1 rfl (Or.inl rfl))) wa_nil)))))) wss_nil)
  (wss_one (ws_ret true (we_lstN (wa_cons we_int (wa_cons (we_bin ow_mod (we_var (pv 0 rfl (Or.inl rfl))) we_int) (wa_cons (we_var (pv 1 rfl (Or.inl rfl))) wa_nil)))))))
abbrev s__law_pick : Stmt := top 34
abbrev N__law_pick : List Str := ["_law_deck_here", "_law_size", "_law_found", "_law_number"]
theorem sc__law_pick : FnScope N__law_pick ["_law_deck_here", "_law_size"] (defScope s__law_pick) := ⟨rfl, rfl, rfl, by decide +kernel, rfl, by decide +kernel, by decide +kernel⟩
theorem ok__law_pick {P : Program} {w : World} {K : PySem.W.Frag} {mg : Str → Option Value} {base : Heap} {f : Addr} {fd : FuncData} {kk : Nat} (F : FnP K "_law_pick" s__law_pick f fd) (gm : mg "_law_pick" = some (.ref f)) (B : Bt mg) : Cal P w K mg base (kk + 1) 2 "_law_pick" (f__law_pick) := by
  refine ⟨f, fd, ["_law_deck_here", "_law_size"], fn_ok 2 4 F sc__law_pick rfl rfl fun cdv A outer s H E hr => ?_, gm, F.kp, F.bindsN fun _ _ _ _ _ _ us hl => match us, hl with | [_, _], _ => rfl⟩
  have hu := hu5 hr
  have hu4 := hu4 hr
  exact (wss_cons (ws_if (wt_cmp (ow_gt hu4) (we_ix hu (we_var (pv 0 rfl (Or.inl rfl))) we_int (fun _ _ => rfl)) we_int (nomark _)) (wss_cons (ws_set (i := 2) sc__law_pick.nd rfl (Or.inl rfl) (we_bin ow_mod (we_ty cw_int rfl B.h_int rfl (wa_cons (we_ix hu (we_var (pv 0 rfl (Or.inl rfl))) we_int (fun _ _ => rfl)) wa_nil)) (we_var (pv 1 rfl (Or.inl rfl)))))
  (wss_cons (ws_st hu (we_bin ow_fdiv (we_ix hu (we_var (pv 0 rfl (Or.inl rfl))) we_int (fun _ _ => rfl)) (we_var (pv 1 rfl (Or.inl rfl)))) (we_var (pv 0 rfl (Or.inl rfl))) we_int)
  (wss_one (ws_ret false (we_var (pv 2 rfl (Or.inl rfl))))))) wss_nil)
  (wss_cons (ws_st hu (we_bin ow_add (we_ix hu (we_var (pv 0 rfl (Or.inl rfl))) we_int (fun _ _ => rfl)) we_int) (we_var (pv 0 rfl (Or.inl rfl))) we_int)
  (wss_cons (ws_set (i := 3) sc__law_pick.nd rfl (Or.inl rfl) (we_bin ow_mod (we_bin ow_pow (we_bin ow_add (we_ix hu (we_var (pv 0 rfl (Or.inl rfl))) we_int (fun _ _ => rfl)) (we_bin ow_mul we_int (we_ix hu (we_var (pv 0 rfl (Or.inl rfl))) we_int (fun _ _ => rfl)))) we_int) we_int))
  (wss_cons (ws_set (i := 2) sc__law_pick.nd rfl (Or.inl rfl) (we_bin ow_fdiv (we_bin ow_mod (we_bin ow_pow (we_bin ow_add (we_var (pv 3 rfl (Or.inl rfl))) (we_bin ow_mul we_int (we_ix hu (we_var (pv 0 rfl (Or.inl rfl))) we_int (fun _ _ => rfl)))) we_int) we_int) we_int))
  (wss_one (ws_ret false (we_bin ow_mod (we_ty cw_int rfl B.h_int rfl (wa_cons (we_var (pv 2 rfl (Or.inl rfl))) wa_nil)) (we_var (pv 1 rfl (Or.inl rfl))))))))))
abbrev s__law_one : Stmt := top 35
abbrev N__law_one : List Str := ["_law_deck_here", "_law_some"]
theorem sc__law_one : FnScope N__law_one ["_law_deck_here", "_law_some"] (defScope s__law_one) := ⟨rfl, rfl, rfl, by decide +kernel, rfl, by decide +kernel, by decide +kernel⟩
theorem ok__law_one {P : Program} {w : World} {K : PySem.W.Frag} {mg : Str → Option Value} {base : Heap} {f : Addr} {fd : FuncData} {kk : Nat} (F : FnP K "_law_one" s__law_one f fd) (gm : mg "_law_one" = some (.ref f)) (B : Bt mg) (C__law_pick : Cal P w K mg base kk 2 "_law_pick" (f__law_pick)) : Cal P w K mg base (kk + 1) 2 "_law_one" (f__law_one) := by
  refine ⟨f, fd, ["_law_deck_here", "_law_some"], fn_ok 2 2 F sc__law_one rfl rfl fun cdv A outer s H E hr => ?_, gm, F.kp, F.bindsN fun _ _ _ _ _ _ us hl => match us, hl with | [_, _], _ => rfl⟩
  have hu := hu5 hr
  have hu4 := hu4 hr
  exact (wss_one (ws_ret false (we_ix hu (we_var (pv 1 rfl (Or.inl rfl))) (we_callC C__law_pick (hr.mono (by omega)) rfl pass_of (wa_cons (we_var (pv 0 rfl (Or.inl rfl))) (wa_cons (we_bi cw_len rfl B.h_len rfl (wa_cons (we_var (pv 1 rfl (Or.inl rfl))) wa_nil)) wa_nil))) (fun _ _ => rfl))))
abbrev s__law_sort : Stmt := top 36
abbrev N__law_sort : List Str := ["_law_thing"]
theorem sc__law_sort : FnScope N__law_sort ["_law_thing"] (defScope s__law_sort) := ⟨rfl, rfl, rfl, by decide +kernel, rfl, by decide +kernel, by decide +kernel⟩
theorem ok__law_sort {P : Program} {w : World} {K : PySem.W.Frag} {mg : Str → Option Value} {base : Heap} {f : Addr} {fd : FuncData} {kk : Nat} (F : FnP K "_law_sort" s__law_sort f fd) (gm : mg "_law_sort" = some (.ref f)) (B : Bt mg) : Cal P w K mg base (kk + 1) 1 "_law_sort" (f__law_sort) := by
  refine ⟨f, fd, ["_law_thing"], fn_ok 1 1 F sc__law_sort rfl rfl fun cdv A outer s H E hr => ?_, gm, F.kp, F.bindsN fun _ _ _ _ _ _ us hl => match us, hl with | [_], _ => rfl⟩
  have hu := hu5 hr
  have hu4 := hu4 hr
  exact (wss_cons (ws_if (wt_val (we_isi (we_var (pv 0 rfl (Or.inl rfl))) rfl B.h_isinstance rfl B.h_bool rfl)) (wss_one (ws_ret false we_int)) wss_nil)
  (wss_cons (ws_if (wt_val (we_isi (we_var (pv 0 rfl (Or.inl rfl))) rfl B.h_isinstance rfl B.h_int rfl)) (wss_one (ws_ret false we_int)) wss_nil)
  (wss_cons (ws_if (wt_val (we_isi (we_var (pv 0 rfl (Or.inl rfl))) rfl B.h_isinstance rfl B.h_str rfl)) (wss_one (ws_ret false we_int)) wss_nil)
  (wss_cons (ws_if (wt_val (we_isi (we_var (pv 0 rfl (Or.inl rfl))) rfl B.h_isinstance rfl B.h_list rfl)) (wss_one (ws_ret false we_int)) wss_nil)
  (wss_one (ws_ret false (we_if (wt_val (we_isi (we_var (pv 0 rfl (Or.inl rfl))) rfl B.h_isinstance rfl B.h_tuple rfl)) we_int we_int)))))))
abbrev s__law_same : Stmt := top 37
abbrev N__law_same : List Str := ["_law_told", "_law_due", "_law_k", "_law_part"]
theorem sc__law_same : FnScope N__law_same ["_law_told", "_law_due"] (defScope s__law_same) := ⟨rfl, rfl, rfl, by decide +kernel, rfl, by decide +kernel, by decide +kernel⟩
theorem ok__law_same {P : Program} {w : World} {K : PySem.W.Frag} {mg : Str → Option Value} {base : Heap} {f : Addr} {fd : FuncData} {kk : Nat} (F : FnP K "_law_same" s__law_same f fd) (gm : mg "_law_same" = some (.ref f)) (B : Bt mg) (C__law_sort : Cal P w K mg base kk 1 "_law_sort" (f__law_sort)) : ∀ k : Nat, Cal P w K mg base (kk + k + 1) 2 "_law_same" (f__law_same k)
  | 0 => cal_bad (ps := ["_law_told", "_law_due"]) F (by rfl) gm (F.bindsN fun _ _ _ _ _ _ us hl => match us, hl with | [_, _], _ => rfl)
  | k + 1 => by
    have IH := ok__law_same F gm B C__law_sort k
    refine ⟨f, fd, ["_law_told", "_law_due"], fn_ok 2 4 F sc__law_same rfl rfl fun cdv A outer s H E hr => ?_, gm, F.kp, F.bindsN fun _ _ _ _ _ _ us hl => match us, hl with | [_, _], _ => rfl⟩
    have hu := hu5 hr
    have hu4 := hu4 hr
    exact (wss_cons (ws_if (wt_cmp (ow_ne hu4) (we_callC C__law_sort (hr.mono (by omega)) rfl pass_of (wa_cons (we_var (pv 0 rfl (Or.inl rfl))) wa_nil)) (we_callC C__law_sort (hr.mono (by omega)) rfl pass_of (wa_cons (we_var (pv 1 rfl (Or.inr (Or.inl rfl)))) wa_nil)) (nomark _)) (wss_one (ws_ret false we_bl)) wss_nil)
  (wss_cons (ws_if (WW.t (ww_and (wt_cmp (ow_gt hu4) (we_callC C__law_sort (hr.mono (by omega)) rfl pass_of (wa_cons (we_var (pv 0 rfl (Or.inl rfl))) wa_nil)) we_int (nomark _)) (ww_and1 (wt_cmp (ow_lt hu4) (we_callC C__law_sort (hr.mono (by omega)) rfl pass_of (wa_cons (we_var (pv 0 rfl (Or.inl rfl))) wa_nil)) we_int (nomark _))))) (wss_cons (ws_if (wt_cmp (ow_ne hu4) (we_bi cw_len rfl B.h_len rfl (wa_cons (we_var (pv 0 rfl (Or.inl rfl))) wa_nil)) (we_bi cw_len rfl B.h_len rfl (wa_cons (we_var (pv 1 rfl (Or.inr (Or.inl rfl)))) wa_nil)) (nomark _)) (wss_one (ws_ret false we_bl)) wss_nil)
  (wss_one (ws_ret false (we_cmp (ow_eq hu4) (we_comp (own := [("_law_k", 2), ("_law_part", 3)]) rfl sc__law_same.nd (wi_enum (we_var (pv 0 rfl (Or.inl rfl))) rfl B.h_enumerate) (blkOk_by (N := N__law_same) (sc := defScope s__law_same) (by decide +kernel)) (by decide) (fun _ _ _ _ _ => (wp_tp rfl (wps_cons (wp_nm sc__law_same.nd (i := 2) rfl (Or.inl rfl)) (wps_cons (wp_nm sc__law_same.nd (i := 3) rfl (Or.inl rfl)) wps_nil)))) (fun _ _ _ _ _ => (wts_one (wt_not (wt_val (we_callC IH (hr.mono (by omega)) rfl passL (wa_cons (we_var (pv 3 rfl (Or.inl rfl))) (wa_cons (we_ix hu (we_var (pv 1 rfl (Or.inr (Or.inl rfl)))) (we_var (pv 2 rfl (Or.inl rfl))) (fun _ _ => rfl)) wa_nil))))))) (fun _ _ _ _ _ => (we_var (pv 2 rfl (Or.inl rfl))))) (we_lst wa_nil) (nomark _))))) wss_nil)
  (wss_one (ws_ret false (we_cmp (ow_eq hu4) (we_var (pv 0 rfl (Or.inl rfl))) (we_var (pv 1 rfl (Or.inr (Or.inl rfl)))) (nomark _))))))
abbrev s__law_wish : Stmt := top 38
abbrev N__law_wish : List Str := ["_law_deck_here", "_law_states", "_law_first", "_law_one_here"]
theorem sc__law_wish : FnScope N__law_wish ["_law_deck_here", "_law_states"] (defScope s__law_wish) := ⟨rfl, rfl, rfl, by decide +kernel, rfl, by decide +kernel, by decide +kernel⟩
theorem ok__law_wish {P : Program} {w : World} {K : PySem.W.Frag} {mg : Str → Option Value} {base : Heap} {f : Addr} {fd : FuncData} {kk : Nat} (F : FnP K "_law_wish" s__law_wish f fd) (gm : mg "_law_wish" = some (.ref f)) (B : Bt mg) (C__law_pick : Cal P w K mg base kk 2 "_law_pick" (f__law_pick)) : Cal P w K mg base (kk + 1) 2 "_law_wish" (f__law_wish) := by
  refine ⟨f, fd, ["_law_deck_here", "_law_states"], fn_ok 2 4 F sc__law_wish rfl rfl fun cdv A outer s H E hr => ?_, gm, F.kp, F.bindsN fun _ _ _ _ _ _ us hl => match us, hl with | [_, _], _ => rfl⟩
  have hu := hu5 hr
  have hu4 := hu4 hr
  exact (wss_cons (ws_set (i := 2) sc__law_wish.nd rfl (Or.inr rfl) (we_callC C__law_pick (hr.mono (by omega)) rfl pass_of (wa_cons (we_var (pv 0 rfl (Or.inr (Or.inl rfl)))) (wa_cons (we_var (pv 1 rfl (Or.inl rfl))) wa_nil))))
  (wss_one (ws_ret false (we_ty cw_tuple rfl B.h_tuple rfl (wa_cons (we_comp (own := [("_law_one_here", 3)]) rfl sc__law_wish.nd (wi_rng1 (we_var (pv 1 rfl (Or.inl rfl))) rfl B.h_range) (blkOk_by (N := N__law_wish) (sc := defScope s__law_wish) (by decide +kernel)) (by decide) (fun _ _ _ _ _ => (wp_nm sc__law_wish.nd (i := 3) rfl (Or.inl rfl))) (fun _ _ _ _ _ => (wts_one (WW.t (ww_or (wt_cmp (ow_eq hu4) (we_var (pv 3 rfl (Or.inl rfl))) (we_var (pv 2 rfl (Or.inr (Or.inl rfl)))) (nomark _)) (ww_or1 (wt_cmp (ow_eq hu4) (we_callC C__law_pick (hr.mono (by omega)) rfl passL (wa_cons (we_var (pv 0 rfl (Or.inr (Or.inl rfl)))) (wa_cons we_int wa_nil))) we_int (nomark _))))))) (fun _ _ _ _ _ => (we_var (pv 3 rfl (Or.inl rfl))))) wa_nil)))))
abbrev s__law_option : Stmt := top 39
abbrev N__law_option : List Str := ["_law_deck_here", "_law_states", "_law_many", "_law_lines", "_law_at", "_law_need", "_law_side", "_law_go"]
theorem sc__law_option : FnScope N__law_option ["_law_deck_here", "_law_states", "_law_many", "_law_lines", "_law_at"] (defScope s__law_option) := ⟨rfl, rfl, rfl, by decide +kernel, rfl, by decide +kernel, by decide +kernel⟩
theorem ok__law_option {P : Program} {w : World} {K : PySem.W.Frag} {mg : Str → Option Value} {base : Heap} {f : Addr} {fd : FuncData} {kk : Nat} (F : FnP K "_law_option" s__law_option f fd) (gm : mg "_law_option" = some (.ref f)) (B : Bt mg) (C__law_pick : Cal P w K mg base kk 2 "_law_pick" (f__law_pick)) (C__law_wish : Cal P w K mg base kk 2 "_law_wish" (f__law_wish)) : Cal P w K mg base (kk + 1) 5 "_law_option" (f__law_option) := by
  refine ⟨f, fd, ["_law_deck_here", "_law_states", "_law_many", "_law_lines", "_law_at"], fn_ok 5 8 F sc__law_option rfl rfl fun cdv A outer s H E hr => ?_, gm, F.kp, F.bindsN fun _ _ _ _ _ _ us hl => match us, hl with | [_, _, _, _, _], _ => rfl⟩
  have hu := hu5 hr
  have hu4 := hu4 hr
  exact (wss_cons (ws_set (i := 5) sc__law_option.nd rfl (Or.inl rfl) (we_if (wt_cmp (ow_gt hu4) (we_callC C__law_pick (hr.mono (by omega)) rfl pass_of (wa_cons (we_var (pv 0 rfl (Or.inl rfl))) (wa_cons we_int wa_nil))) we_int (nomark _)) (we_tupR rfl (we_var (pv 1 rfl (Or.inl rfl))) rfl B.h_tuple rfl B.h_range) (we_callC C__law_wish (hr.mono (by omega)) rfl pass_of (wa_cons (we_var (pv 0 rfl (Or.inl rfl))) (wa_cons (we_var (pv 1 rfl (Or.inl rfl))) wa_nil)))))
  (wss_cons (ws_set (i := 6) sc__law_option.nd rfl (Or.inl rfl) (we_if (wt_cmp (ow_eq hu4) (we_callC C__law_pick (hr.mono (by omega)) rfl pass_of (wa_cons (we_var (pv 0 rfl (Or.inl rfl))) (wa_cons we_int wa_nil))) we_int (nomark _)) (we_callC C__law_pick (hr.mono (by omega)) rfl pass_of (wa_cons (we_var (pv 0 rfl (Or.inl rfl))) (wa_cons (we_var (pv 2 rfl (Or.inl rfl))) wa_nil))) we_neg))
  (wss_cons (ws_set (i := 7) sc__law_option.nd rfl (Or.inl rfl) (we_if (wt_cmp (ow_gt hu4) (we_callC C__law_pick (hr.mono (by omega)) rfl pass_of (wa_cons (we_var (pv 0 rfl (Or.inl rfl))) (wa_cons we_int wa_nil))) we_int (nomark _)) (we_bin ow_add (we_bin ow_add (we_var (pv 4 rfl (Or.inl rfl))) we_int) (we_callC C__law_pick (hr.mono (by omega)) rfl pass_of (wa_cons (we_var (pv 0 rfl (Or.inl rfl))) (wa_cons (we_bin ow_sub (we_var (pv 3 rfl (Or.inl rfl))) (we_var (pv 4 rfl (Or.inl rfl)))) wa_nil)))) (we_callC C__law_pick (hr.mono (by omega)) rfl pass_of (wa_cons (we_var (pv 0 rfl (Or.inl rfl))) (wa_cons (we_bin ow_add (we_var (pv 3 rfl (Or.inl rfl))) we_int) wa_nil)))))
  (wss_one (ws_ret false (we_tup (wa_cons (we_var (pv 5 rfl (Or.inl rfl))) (wa_cons (we_var (pv 6 rfl (Or.inl rfl))) (wa_cons (we_callC C__law_pick (hr.mono (by omega)) rfl pass_of (wa_cons (we_var (pv 0 rfl (Or.inl rfl))) (wa_cons (we_var (pv 1 rfl (Or.inl rfl))) wa_nil))) (wa_cons (we_var (pv 7 rfl (Or.inl rfl))) wa_nil))))))))))
abbrev s__law_line : Stmt := top 40
abbrev N__law_line : List Str := ["_law_deck_here", "_law_states", "_law_many", "_law_lines", "_law_at", "_law_some", "_law_turn"]
theorem sc__law_line : FnScope N__law_line ["_law_deck_here", "_law_states", "_law_many", "_law_lines", "_law_at"] (defScope s__law_line) := ⟨rfl, rfl, rfl, by decide +kernel, rfl, by decide +kernel, by decide +kernel⟩
theorem ok__law_line {P : Program} {w : World} {K : PySem.W.Frag} {mg : Str → Option Value} {base : Heap} {f : Addr} {fd : FuncData} {kk : Nat} (F : FnP K "_law_line" s__law_line f fd) (gm : mg "_law_line" = some (.ref f)) (B : Bt mg) (C__law_pick : Cal P w K mg base kk 2 "_law_pick" (f__law_pick)) (C__law_option : Cal P w K mg base kk 5 "_law_option" (f__law_option)) (C__law_one : Cal P w K mg base kk 2 "_law_one" (f__law_one)) : Cal P w K mg base (kk + 1) 5 "_law_line" (f__law_line) := by
  refine ⟨f, fd, ["_law_deck_here", "_law_states", "_law_many", "_law_lines", "_law_at"], fn_ok 5 7 F sc__law_line rfl rfl fun cdv A outer s H E hr => ?_, gm, F.kp, F.bindsN fun _ _ _ _ _ _ us hl => match us, hl with | [_, _, _, _, _], _ => rfl⟩
  have hu := hu5 hr
  have hu4 := hu4 hr
  exact (wss_cons (ws_setLc (i := 5) (own := [("_law_turn", 6)]) rfl sc__law_line.nd rfl rfl (by rfl) (wi_rng1 (we_bin ow_add we_int (we_callC C__law_pick (hr.mono (by omega)) rfl pass_of (wa_cons (we_var (pv 0 rfl (Or.inr (Or.inl rfl)))) (wa_cons we_int wa_nil)))) rfl B.h_range) (blkOk_by (N := N__law_line) (sc := defScope s__law_line) (by decide +kernel)) (by decide) (fun _ _ _ _ _ => (wp_nm sc__law_line.nd (i := 6) rfl (Or.inl rfl))) (fun _ _ _ _ _ => wts_nil) (fun _ _ _ _ _ => (we_callC C__law_option (hr.mono (by omega)) rfl passL (wa_cons (we_var (pv 0 rfl (Or.inr (Or.inl rfl)))) (wa_cons (we_var (pv 1 rfl (Or.inr (Or.inl rfl)))) (wa_cons (we_var (pv 2 rfl (Or.inr (Or.inl rfl)))) (wa_cons (we_var (pv 3 rfl (Or.inr (Or.inl rfl)))) (wa_cons (we_var (pv 4 rfl (Or.inr (Or.inl rfl)))) wa_nil))))))))
  (wss_one (ws_ret false (we_tup (wa_cons (we_callC C__law_one (hr.mono (by omega)) rfl pass_of (wa_cons (we_var (pv 0 rfl (Or.inr (Or.inl rfl)))) (wa_cons (we_lst (wa_cons we_str (wa_cons we_str wa_nil))) wa_nil))) (wa_cons (we_ty cw_tuple rfl B.h_tuple rfl (wa_cons (we_sortedSet rfl hu (we_var (pv 5 rfl (Or.inl rfl))) rfl B.h_sorted rfl B.h_set) wa_nil)) wa_nil))))))
abbrev s__law_house : Stmt := top 41
abbrev N__law_house : List Str := ["_law_deck_here", "_law_most", "_law_wide", "_law_states", "_law_many", "_law_errands", "_law_turn", "_law_lines", "_law_at"]
theorem sc__law_house : FnScope N__law_house ["_law_deck_here", "_law_most", "_law_wide"] (defScope s__law_house) := ⟨rfl, rfl, rfl, by decide +kernel, rfl, by decide +kernel, by decide +kernel⟩
theorem ok__law_house {P : Program} {w : World} {K : PySem.W.Frag} {mg : Str → Option Value} {base : Heap} {f : Addr} {fd : FuncData} {kk : Nat} (F : FnP K "_law_house" s__law_house f fd) (gm : mg "_law_house" = some (.ref f)) (B : Bt mg) (C__law_pick : Cal P w K mg base kk 2 "_law_pick" (f__law_pick)) (C__law_line : Cal P w K mg base kk 5 "_law_line" (f__law_line)) : Cal P w K mg base (kk + 1) 3 "_law_house" (f__law_house) := by
  refine ⟨f, fd, ["_law_deck_here", "_law_most", "_law_wide"], fn_ok 3 9 F sc__law_house rfl rfl fun cdv A outer s H E hr => ?_, gm, F.kp, F.bindsN fun _ _ _ _ _ _ us hl => match us, hl with | [_, _, _], _ => rfl⟩
  have hu := hu5 hr
  have hu4 := hu4 hr
  exact (wss_cons (ws_asg (we_tup (wa_cons (we_bin ow_add we_int (we_callC C__law_pick (hr.mono (by omega)) rfl pass_of (wa_cons (we_var (pv 0 rfl (Or.inr (Or.inl rfl)))) (wa_cons we_int wa_nil)))) (wa_cons (we_bin ow_add we_int (we_callC C__law_pick (hr.mono (by omega)) rfl pass_of (wa_cons (we_var (pv 0 rfl (Or.inr (Or.inl rfl)))) (wa_cons (we_var (pv 1 rfl (Or.inl rfl))) wa_nil)))) wa_nil))) (wp_tp rfl (wps_cons (wp_nm sc__law_house.nd (i := 3) rfl (Or.inr rfl)) (wps_cons (wp_nm sc__law_house.nd (i := 4) rfl (Or.inr rfl)) wps_nil))))
  (wss_cons (ws_set (i := 5) sc__law_house.nd rfl (Or.inl rfl) (we_tup wa_nil))
  (wss_cons (ws_for own_of rfl (wi_rng1 (we_var (pv 4 rfl (Or.inr (Or.inl rfl)))) rfl B.h_range) (wp_nm sc__law_house.nd (i := 6) rfl (Or.inl rfl)) (wss_cons (ws_set (i := 7) sc__law_house.nd rfl (Or.inr rfl) (we_bin ow_add we_int (we_callC C__law_pick (hr.mono (by omega)) rfl pass_of (wa_cons (we_var (pv 0 rfl (Or.inr (Or.inl rfl)))) (wa_cons (we_var (pv 2 rfl (Or.inl rfl))) wa_nil)))))
  (wss_one (ws_set (i := 5) sc__law_house.nd rfl (Or.inl rfl) (we_bin ow_add (we_var (pv 5 rfl (Or.inl rfl))) (we_tup (wa_cons (we_ty cw_tuple rfl B.h_tuple rfl (wa_cons (we_comp (own := [("_law_at", 8)]) rfl sc__law_house.nd (wi_rng1 (we_var (pv 7 rfl (Or.inr (Or.inl rfl)))) rfl B.h_range) (blkOk_by (N := N__law_house) (sc := defScope s__law_house) (by decide +kernel)) (by decide) (fun _ _ _ _ _ => (wp_nm sc__law_house.nd (i := 8) rfl (Or.inl rfl))) (fun _ _ _ _ _ => wts_nil) (fun _ _ _ _ _ => (we_callC C__law_line (hr.mono (by omega)) rfl passL (wa_cons (we_var (pv 0 rfl (Or.inr (Or.inl rfl)))) (wa_cons (we_var (pv 3 rfl (Or.inr (Or.inl rfl)))) (wa_cons (we_var (pv 4 rfl (Or.inr (Or.inl rfl)))) (wa_cons (we_var (pv 7 rfl (Or.inr (Or.inl rfl)))) (wa_cons (we_var (pv 8 rfl (Or.inl rfl))) wa_nil)))))))) wa_nil)) wa_nil)))))))
  (wss_one (ws_ret false (we_tup (wa_cons (we_var (pv 3 rfl (Or.inr (Or.inl rfl)))) (wa_cons (we_var (pv 5 rfl (Or.inl rfl))) wa_nil))))))))
abbrev s__law_open : Stmt := top 42
abbrev N__law_open : List Str := ["_law_house_here", "_law_errand", "_law_at", "_law_state", "_law_options_so", "_law_k"]
theorem sc__law_open : FnScope N__law_open ["_law_house_here", "_law_errand", "_law_at", "_law_state"] (defScope s__law_open) := ⟨rfl, rfl, rfl, by decide +kernel, rfl, by decide +kernel, by decide +kernel⟩
theorem ok__law_open {P : Program} {w : World} {K : PySem.W.Frag} {mg : Str → Option Value} {base : Heap} {f : Addr} {fd : FuncData} {kk : Nat} (F : FnP K "_law_open" s__law_open f fd) (gm : mg "_law_open" = some (.ref f)) (B : Bt mg) : Cal P w K mg base (kk + 1) 4 "_law_open" (f__law_open) := by
  refine ⟨f, fd, ["_law_house_here", "_law_errand", "_law_at", "_law_state"], fn_ok 4 6 F sc__law_open rfl rfl fun cdv A outer s H E hr => ?_, gm, F.kp, F.bindsN fun _ _ _ _ _ _ us hl => match us, hl with | [_, _, _, _], _ => rfl⟩
  have hu := hu5 hr
  have hu4 := hu4 hr
  exact (wss_cons (ws_if (wt_cmp (ow_eq hu4) (we_var (pv 2 rfl (Or.inl rfl))) (we_bi cw_len rfl B.h_len rfl (wa_cons (we_ix hu (we_ix hu (we_var (pv 0 rfl (Or.inl rfl))) we_int (fun _ _ => rfl)) (we_var (pv 1 rfl (Or.inl rfl))) (fun _ _ => rfl)) wa_nil)) (nomark _)) (wss_one (ws_ret false (we_lst wa_nil))) wss_nil)
  (wss_cons (ws_set (i := 4) sc__law_open.nd rfl (Or.inr rfl) (we_ix hu (we_ix hu (we_ix hu (we_ix hu (we_var (pv 0 rfl (Or.inl rfl))) we_int (fun _ _ => rfl)) (we_var (pv 1 rfl (Or.inl rfl))) (fun _ _ => rfl)) (we_var (pv 2 rfl (Or.inl rfl))) (fun _ _ => rfl)) we_int (fun _ _ => rfl)))
  (wss_one (ws_ret false (we_comp (own := [("_law_k", 5)]) rfl sc__law_open.nd (wi_rng1 (we_bi cw_len rfl B.h_len rfl (wa_cons (we_var (pv 4 rfl (Or.inr (Or.inl rfl)))) wa_nil)) rfl B.h_range) (blkOk_by (N := N__law_open) (sc := defScope s__law_open) (by decide +kernel)) (by decide) (fun _ _ _ _ _ => (wp_nm sc__law_open.nd (i := 5) rfl (Or.inl rfl))) (fun _ _ _ _ _ => (wts_one (wt_cmp (ow_in hu) (we_var (pv 3 rfl (Or.inr (Or.inl rfl)))) (we_ix hu (we_ix hu (we_var (pv 4 rfl (Or.inr (Or.inl rfl)))) (we_var (pv 5 rfl (Or.inl rfl))) (fun _ _ => rfl)) we_int (fun _ _ => rfl)) (by with_unfolding_all rfl)))) (fun _ _ _ _ _ => (we_var (pv 5 rfl (Or.inl rfl)))))))))
abbrev s__law_wishes : Stmt := top 43
abbrev N__law_wishes : List Str := ["_law_states", "_law_found", "_law_one_here", "_law_wish_here"]
theorem sc__law_wishes : FnScope N__law_wishes ["_law_states"] (defScope s__law_wishes) := ⟨rfl, rfl, rfl, by decide +kernel, rfl, by decide +kernel, by decide +kernel⟩
theorem ok__law_wishes {P : Program} {w : World} {K : PySem.W.Frag} {mg : Str → Option Value} {base : Heap} {f : Addr} {fd : FuncData} {kk : Nat} (F : FnP K "_law_wishes" s__law_wishes f fd) (gm : mg "_law_wishes" = some (.ref f)) (B : Bt mg) : Cal P w K mg base (kk + 1) 1 "_law_wishes" (f__law_wishes) := by
  refine ⟨f, fd, ["_law_states"], fn_ok 1 4 F sc__law_wishes rfl rfl fun cdv A outer s H E hr => ?_, gm, F.kp, F.bindsN fun _ _ _ _ _ _ us hl => match us, hl with | [_], _ => rfl⟩
  have hu := hu5 hr
  have hu4 := hu4 hr
  exact (wss_cons (ws_set (i := 1) sc__law_wishes.nd rfl (Or.inl rfl) (we_lst (wa_cons (we_tup wa_nil) wa_nil)))
  (wss_cons (ws_for own_of rfl (wi_rng1 (we_var (pv 0 rfl (Or.inl rfl))) rfl B.h_range) (wp_nm sc__law_wishes.nd (i := 2) rfl (Or.inr rfl)) (wss_one (ws_set (i := 1) sc__law_wishes.nd rfl (Or.inl rfl) (we_bin ow_add (we_var (pv 1 rfl (Or.inl rfl))) (we_comp (own := [("_law_wish_here", 3)]) rfl sc__law_wishes.nd (wi_seq (we_var (pv 1 rfl (Or.inl rfl)))) (blkOk_by (N := N__law_wishes) (sc := defScope s__law_wishes) (by decide +kernel)) (by decide) (fun _ _ _ _ _ => (wp_nm sc__law_wishes.nd (i := 3) rfl (Or.inl rfl))) (fun _ _ _ _ _ => wts_nil) (fun _ _ _ _ _ => (we_bin ow_add (we_var (pv 3 rfl (Or.inl rfl))) (we_tup (wa_cons (we_var (pv 2 rfl (Or.inr (Or.inl rfl)))) wa_nil)))))))))
  (wss_one (ws_ret false (we_slice (we_bi (cw_sorted rfl hu) rfl B.h_sorted rfl (wa_cons (we_var (pv 1 rfl (Or.inl rfl))) wa_nil)) (wo_some we_int) wo_none)))))
abbrev s__law_nodes : Stmt := top 44
abbrev N__law_nodes : List Str := ["_law_house_here", "_law_found", "_law_errand", "_law_at", "_law_state"]
theorem sc__law_nodes : FnScope N__law_nodes ["_law_house_here"] (defScope s__law_nodes) := ⟨rfl, rfl, rfl, by decide +kernel, rfl, by decide +kernel, by decide +kernel⟩
theorem ok__law_nodes {P : Program} {w : World} {K : PySem.W.Frag} {mg : Str → Option Value} {base : Heap} {f : Addr} {fd : FuncData} {kk : Nat} (F : FnP K "_law_nodes" s__law_nodes f fd) (gm : mg "_law_nodes" = some (.ref f)) (B : Bt mg) : Cal P w K mg base (kk + 1) 1 "_law_nodes" (f__law_nodes) := by
  refine ⟨f, fd, ["_law_house_here"], fn_ok 1 5 F sc__law_nodes rfl rfl fun cdv A outer s H E hr => ?_, gm, F.kp, F.bindsN fun _ _ _ _ _ _ us hl => match us, hl with | [_], _ => rfl⟩
  have hu := hu5 hr
  have hu4 := hu4 hr
  exact (wss_cons (ws_set (i := 1) sc__law_nodes.nd rfl (Or.inl rfl) (we_lst wa_nil))
  (wss_cons (ws_for own_of rfl (wi_rng1 (we_bi cw_len rfl B.h_len rfl (wa_cons (we_ix hu (we_var (pv 0 rfl (Or.inl rfl))) we_int (fun _ _ => rfl)) wa_nil)) rfl B.h_range) (wp_nm sc__law_nodes.nd (i := 2) rfl (Or.inr rfl)) (wss_one (ws_for own_of rfl (wi_rng1 (we_bin ow_add (we_bi cw_len rfl B.h_len rfl (wa_cons (we_ix hu (we_ix hu (we_var (pv 0 rfl (Or.inl rfl))) we_int (fun _ _ => rfl)) (we_var (pv 2 rfl (Or.inr (Or.inl rfl)))) (fun _ _ => rfl)) wa_nil)) we_int) rfl B.h_range) (wp_nm sc__law_nodes.nd (i := 3) rfl (Or.inr rfl)) (wss_one (ws_set (i := 1) sc__law_nodes.nd rfl (Or.inl rfl) (we_bin ow_add (we_var (pv 1 rfl (Or.inl rfl))) (we_comp (own := [("_law_state", 4)]) rfl sc__law_nodes.nd (wi_rng1 (we_ix hu (we_var (pv 0 rfl (Or.inl rfl))) we_int (fun _ _ => rfl)) rfl B.h_range) (blkOk_by (N := N__law_nodes) (sc := defScope s__law_nodes) (by decide +kernel)) (by decide) (fun _ _ _ _ _ => (wp_nm sc__law_nodes.nd (i := 4) rfl (Or.inl rfl))) (fun _ _ _ _ _ => wts_nil) (fun _ _ _ _ _ => (we_tup (wa_cons (we_var (pv 2 rfl (Or.inr (Or.inl rfl)))) (wa_cons (we_var (pv 3 rfl (Or.inr (Or.inl rfl)))) (wa_cons (we_var (pv 4 rfl (Or.inl rfl))) wa_nil))))))))))))
  (wss_one (ws_ret false (we_var (pv 1 rfl (Or.inl rfl)))))))
abbrev s__law_behind : Stmt := top 45
abbrev N__law_behind : List Str := ["_law_house_here", "_law_sure_so", "_law_within", "_law_node", "_law_option_here", "_law_wish_here", "_law_wishes_here", "_law_need", "_law_side", "_law_later", "_law_go", "_law_errand", "_law_middle", "_law_rest", "_law_one_here"]
theorem sc__law_behind : FnScope N__law_behind ["_law_house_here", "_law_sure_so", "_law_within", "_law_node", "_law_option_here", "_law_wish_here", "_law_wishes_here"] (defScope s__law_behind) := ⟨rfl, rfl, rfl, by decide +kernel, rfl, by decide +kernel, by decide +kernel⟩
theorem ok__law_behind {P : Program} {w : World} {K : PySem.W.Frag} {mg : Str → Option Value} {base : Heap} {f : Addr} {fd : FuncData} {kk : Nat} (F : FnP K "_law_behind" s__law_behind f fd) (gm : mg "_law_behind" = some (.ref f)) (B : Bt mg) : Cal P w K mg base (kk + 1) 7 "_law_behind" (f__law_behind) := by
  refine ⟨f, fd, ["_law_house_here", "_law_sure_so", "_law_within", "_law_node", "_law_option_here", "_law_wish_here", "_law_wishes_here"], fn_ok 7 15 F sc__law_behind rfl rfl fun cdv A outer s H E hr => ?_, gm, F.kp, F.bindsN fun _ _ _ _ _ _ us hl => match us, hl with | [_, _, _, _, _, _, _], _ => rfl⟩
  have hu := hu5 hr
  have hu4 := hu4 hr
  exact (wss_cons (ws_asg (we_var (pv 4 rfl (Or.inl rfl))) (wp_tp rfl (wps_cons (wp_nm sc__law_behind.nd (i := 7) rfl (Or.inl rfl)) (wps_cons (wp_nm sc__law_behind.nd (i := 8) rfl (Or.inl rfl)) (wps_cons (wp_nm sc__law_behind.nd (i := 9) rfl (Or.inl rfl)) (wps_cons (wp_nm sc__law_behind.nd (i := 10) rfl (Or.inr rfl)) wps_nil))))))
  (wss_cons (ws_set (i := 11) sc__law_behind.nd rfl (Or.inr rfl) (we_ix hu (we_var (pv 3 rfl (Or.inl rfl))) we_int (fun _ _ => rfl)))
  (wss_cons (ws_if (wt_cmp (ow_lt hu4) (we_var (pv 8 rfl (Or.inl rfl))) we_int (nomark _)) (wss_one (ws_ret false (we_cmp (ow_in hu) (we_tup (wa_cons (we_var (pv 11 rfl (Or.inr (Or.inl rfl)))) (wa_cons (we_var (pv 10 rfl (Or.inr (Or.inl rfl)))) (wa_cons (we_var (pv 9 rfl (Or.inl rfl))) (wa_cons (we_var (pv 5 rfl (Or.inr (Or.inl rfl)))) wa_nil))))) (we_var (pv 1 rfl (Or.inr (Or.inl rfl)))) (by with_unfolding_all rfl)))) wss_nil)
  (wss_cons (ws_for own_of rfl (wi_seq (we_var (pv 6 rfl (Or.inl rfl)))) (wp_nm sc__law_behind.nd (i := 12) rfl (Or.inl rfl)) (wss_cons (ws_setLc (i := 13) (own := [("_law_one_here", 14)]) rfl sc__law_behind.nd rfl rfl (by rfl) (wi_seq (we_var (pv 12 rfl (Or.inl rfl)))) (blkOk_by (N := N__law_behind) (sc := defScope s__law_behind) (by decide +kernel)) (by decide) (fun _ _ _ _ _ => (wp_nm sc__law_behind.nd (i := 14) rfl (Or.inl rfl))) (fun _ _ _ _ _ => (wts_one (wt_cmp (ow_notIn hu) (we_tup (wa_cons (we_var (pv 11 rfl (Or.inr (Or.inl rfl)))) (wa_cons (we_var (pv 10 rfl (Or.inr (Or.inl rfl)))) (wa_cons (we_var (pv 14 rfl (Or.inl rfl))) (wa_cons (we_var (pv 5 rfl (Or.inr (Or.inl rfl)))) wa_nil))))) (we_var (pv 1 rfl (Or.inr (Or.inl rfl)))) (by with_unfolding_all rfl)))) (fun _ _ _ _ _ => (we_var (pv 14 rfl (Or.inl rfl)))))
  (wss_one (ws_if (WW.t (ww_and (wt_cmp (ow_eq hu4) (we_var (pv 13 rfl (Or.inl rfl))) (we_lst wa_nil) (nomark _)) (ww_and1 (wt_cmp (ow_in hu) (we_tup (wa_cons (we_var (pv 8 rfl (Or.inl rfl))) (wa_cons we_int (wa_cons (we_var (pv 9 rfl (Or.inl rfl))) (wa_cons (we_var (pv 12 rfl (Or.inl rfl))) wa_nil))))) (we_var (pv 2 rfl (Or.inl rfl))) (by with_unfolding_all rfl))))) (wss_one (ws_ret false we_bl)) wss_nil))))
  (wss_one (ws_ret false we_bl))))))
abbrev s__law_is_sure : Stmt := top 46
abbrev N__law_is_sure : List Str := ["_law_house_here", "_law_sure_so", "_law_within", "_law_node", "_law_wish_here", "_law_wishes_here", "_law_errand", "_law_at", "_law_state", "_law_who", "_law_options_so", "_law_good", "_law_many", "_law_k"]
theorem sc__law_is_sure : FnScope N__law_is_sure ["_law_house_here", "_law_sure_so", "_law_within", "_law_node", "_law_wish_here", "_law_wishes_here"] (defScope s__law_is_sure) := ⟨rfl, rfl, rfl, by decide +kernel, rfl, by decide +kernel, by decide +kernel⟩
theorem ok__law_is_sure {P : Program} {w : World} {K : PySem.W.Frag} {mg : Str → Option Value} {base : Heap} {f : Addr} {fd : FuncData} {kk : Nat} (F : FnP K "_law_is_sure" s__law_is_sure f fd) (gm : mg "_law_is_sure" = some (.ref f)) (B : Bt mg) (C__law_open : Cal P w K mg base kk 4 "_law_open" (f__law_open)) (C__law_behind : Cal P w K mg base kk 7 "_law_behind" (f__law_behind)) : Cal P w K mg base (kk + 1) 6 "_law_is_sure" (f__law_is_sure) := by
  refine ⟨f, fd, ["_law_house_here", "_law_sure_so", "_law_within", "_law_node", "_law_wish_here", "_law_wishes_here"], fn_ok 6 14 F sc__law_is_sure rfl rfl fun cdv A outer s H E hr => ?_, gm, F.kp, F.bindsN fun _ _ _ _ _ _ us hl => match us, hl with | [_, _, _, _, _, _], _ => rfl⟩
  have hu := hu5 hr
  have hu4 := hu4 hr
  exact (wss_cons (ws_asg (we_var (pv 3 rfl (Or.inl rfl))) (wp_tp rfl (wps_cons (wp_nm sc__law_is_sure.nd (i := 6) rfl (Or.inl rfl)) (wps_cons (wp_nm sc__law_is_sure.nd (i := 7) rfl (Or.inl rfl)) (wps_cons (wp_nm sc__law_is_sure.nd (i := 8) rfl (Or.inl rfl)) wps_nil)))))
  (wss_cons (ws_if (wt_cmp (ow_eq hu4) (we_var (pv 7 rfl (Or.inl rfl))) (we_bi cw_len rfl B.h_len rfl (wa_cons (we_ix hu (we_ix hu (we_var (pv 0 rfl (Or.inl rfl))) we_int (fun _ _ => rfl)) (we_var (pv 6 rfl (Or.inl rfl))) (fun _ _ => rfl)) wa_nil)) (nomark _)) (wss_one (ws_ret false (we_cmp (ow_in hu) (we_var (pv 8 rfl (Or.inl rfl))) (we_var (pv 4 rfl (Or.inl rfl))) (by with_unfolding_all rfl)))) wss_nil)
  (wss_cons (ws_asg (we_ix hu (we_ix hu (we_ix hu (we_var (pv 0 rfl (Or.inl rfl))) we_int (fun _ _ => rfl)) (we_var (pv 6 rfl (Or.inl rfl))) (fun _ _ => rfl)) (we_var (pv 7 rfl (Or.inl rfl))) (fun _ _ => rfl)) (wp_tp rfl (wps_cons (wp_nm sc__law_is_sure.nd (i := 9) rfl (Or.inl rfl)) (wps_cons (wp_nm sc__law_is_sure.nd (i := 10) rfl (Or.inl rfl)) wps_nil))))
  (wss_cons (ws_asg (we_tup (wa_cons we_int (wa_cons we_int wa_nil))) (wp_tp rfl (wps_cons (wp_nm sc__law_is_sure.nd (i := 11) rfl (Or.inl rfl)) (wps_cons (wp_nm sc__law_is_sure.nd (i := 12) rfl (Or.inl rfl)) wps_nil))))
  (wss_cons (ws_for own_of rfl (wi_seq (we_callC C__law_open (hr.mono (by omega)) rfl pass_of (wa_cons (we_var (pv 0 rfl (Or.inl rfl))) (wa_cons (we_var (pv 6 rfl (Or.inl rfl))) (wa_cons (we_var (pv 7 rfl (Or.inl rfl))) (wa_cons (we_var (pv 8 rfl (Or.inl rfl))) wa_nil)))))) (wp_nm sc__law_is_sure.nd (i := 13) rfl (Or.inl rfl)) (wss_cons (ws_set (i := 12) sc__law_is_sure.nd rfl (Or.inl rfl) (we_bin ow_add (we_var (pv 12 rfl (Or.inl rfl))) we_int))
  (wss_one (ws_set (i := 11) sc__law_is_sure.nd rfl (Or.inl rfl) (we_bin ow_add (we_var (pv 11 rfl (Or.inl rfl))) (we_ty cw_int rfl B.h_int rfl (wa_cons (we_callC C__law_behind (hr.mono (by omega)) rfl pass_of (wa_cons (we_var (pv 0 rfl (Or.inl rfl))) (wa_cons (we_var (pv 1 rfl (Or.inl rfl))) (wa_cons (we_var (pv 2 rfl (Or.inl rfl))) (wa_cons (we_var (pv 3 rfl (Or.inl rfl))) (wa_cons (we_ix hu (we_var (pv 10 rfl (Or.inl rfl))) (we_var (pv 13 rfl (Or.inl rfl))) (fun _ _ => rfl)) (wa_cons (we_var (pv 4 rfl (Or.inl rfl))) (wa_cons (we_var (pv 5 rfl (Or.inl rfl))) wa_nil)))))))) wa_nil)))))))
  (wss_one (ws_ret false (we_and (we_cmp (ow_gt hu4) (we_var (pv 11 rfl (Or.inl rfl))) we_int (nomark _)) (we_one (we_or (we_cmp (ow_eq hu4) (we_var (pv 9 rfl (Or.inl rfl))) we_str (nomark _)) (we_one (we_cmp (ow_eq hu4) (we_var (pv 11 rfl (Or.inl rfl))) (we_var (pv 12 rfl (Or.inl rfl))) (nomark _)))))))))))))
abbrev s__law_table : Stmt := top 47
abbrev N__law_table : List Str := ["_law_house_here", "_law_within", "_law_found", "_law_wishes_here", "_law_nodes_here", "_law_many", "_law_node", "_law_wish_here", "_law_inner"]
theorem sc__law_table : FnScope N__law_table ["_law_house_here", "_law_within"] (defScope s__law_table) := ⟨rfl, rfl, rfl, by decide +kernel, rfl, by decide +kernel, by decide +kernel⟩
theorem ok__law_table {P : Program} {w : World} {K : PySem.W.Frag} {mg : Str → Option Value} {base : Heap} {f : Addr} {fd : FuncData} {kk : Nat} (F : FnP K "_law_table" s__law_table f fd) (gm : mg "_law_table" = some (.ref f)) (B : Bt mg) (C__law_nodes : Cal P w K mg base kk 1 "_law_nodes" (f__law_nodes)) (C__law_wishes : Cal P w K mg base kk 1 "_law_wishes" (f__law_wishes)) (C__law_is_sure : Cal P w K mg base kk 6 "_law_is_sure" (f__law_is_sure)) : Cal P w K mg base (kk + 1) 2 "_law_table" (f__law_table) := by
  refine ⟨f, fd, ["_law_house_here", "_law_within"], fn_ok 2 9 F sc__law_table rfl rfl fun cdv A outer s H E hr => ?_, gm, F.kp, F.bindsN fun _ _ _ _ _ _ us hl => match us, hl with | [_, _], _ => rfl⟩
  have hu := hu5 hr
  have hu4 := hu4 hr
  exact (wss_cons (ws_par3 (i := 2) (j := 3) (l := 4) rfl sc__law_table.nd rfl rfl rfl (by decide) (by decide) (by decide) rfl rfl rfl (wa_cons we_dct (wa_cons (we_callC C__law_wishes (hr.mono (by omega)) rfl pass_of (wa_cons (we_ix hu (we_var (pv 0 rfl (Or.inl rfl))) we_int (fun _ _ => rfl)) wa_nil)) (wa_cons (we_callC C__law_nodes (hr.mono (by omega)) rfl pass_of (wa_cons (we_var (pv 0 rfl (Or.inl rfl))) wa_nil)) wa_nil))) (by rfl))
  (wss_cons (ws_set (i := 5) sc__law_table.nd rfl (Or.inl rfl) we_neg)
  (wss_cons (ws_while 100000 own_of (wt_cmp (ow_ne hu4) (we_var (pv 5 rfl (Or.inl rfl))) (we_bi cw_len rfl B.h_len rfl (wa_cons (we_var (pv 2 rfl (Or.inl rfl))) wa_nil)) (nomark _)) (wss_cons (ws_set (i := 5) sc__law_table.nd rfl (Or.inl rfl) (we_bi cw_len rfl B.h_len rfl (wa_cons (we_var (pv 2 rfl (Or.inl rfl))) wa_nil)))
  (wss_one (ws_for own_of rfl (wi_seq (we_var (pv 4 rfl (Or.inl rfl)))) (wp_nm sc__law_table.nd (i := 6) rfl (Or.inl rfl)) (wss_one (ws_for own_of rfl (wi_seq (we_var (pv 3 rfl (Or.inl rfl)))) (wp_nm sc__law_table.nd (i := 7) rfl (Or.inl rfl)) (wss_one (ws_if (wt_cmp (ow_notIn hu) (we_bin ow_add (we_var (pv 6 rfl (Or.inl rfl))) (we_tup (wa_cons (we_var (pv 7 rfl (Or.inl rfl))) wa_nil))) (we_var (pv 2 rfl (Or.inl rfl))) (by with_unfolding_all rfl)) (wss_cons (ws_set (i := 8) sc__law_table.nd rfl (Or.inl rfl) (we_if (wt_isN (we_var (pv 1 rfl (Or.inl rfl)))) (we_var (pv 2 rfl (Or.inl rfl))) (we_var (pv 1 rfl (Or.inl rfl)))))
  (wss_one (ws_if (wt_val (we_callC C__law_is_sure (hr.mono (by omega)) rfl pass_of (wa_cons (we_var (pv 0 rfl (Or.inl rfl))) (wa_cons (we_var (pv 2 rfl (Or.inl rfl))) (wa_cons (we_var (pv 8 rfl (Or.inl rfl))) (wa_cons (we_var (pv 6 rfl (Or.inl rfl))) (wa_cons (we_var (pv 7 rfl (Or.inl rfl))) (wa_cons (we_var (pv 3 rfl (Or.inl rfl))) wa_nil)))))))) (wss_one (ws_st hu we_bl (we_var (pv 2 rfl (Or.inl rfl))) (we_bin ow_add (we_var (pv 6 rfl (Or.inl rfl))) (we_tup (wa_cons (we_var (pv 7 rfl (Or.inl rfl))) wa_nil))))) wss_nil))) wss_nil))))))))
  (wss_one (ws_ret false (we_var (pv 2 rfl (Or.inl rfl))))))))
abbrev s__law_known : Stmt := top 48
abbrev N__law_known : List Str := ["_law_over", "_law_one_here", "_law_two", "_law_three", "_law_four"]
theorem sc__law_known : FnScope N__law_known [] (defScope s__law_known) := ⟨rfl, rfl, rfl, by decide +kernel, rfl, by decide +kernel, by decide +kernel⟩
theorem ok__law_known {P : Program} {w : World} {K : PySem.W.Frag} {mg : Str → Option Value} {base : Heap} {f : Addr} {fd : FuncData} {kk : Nat} (F : FnP K "_law_known" s__law_known f fd) (gm : mg "_law_known" = some (.ref f)) (B : Bt mg) : Cal P w K mg base (kk + 1) 0 "_law_known" (f__law_known) := by
  refine ⟨f, fd, [], fn_ok 0 5 F sc__law_known rfl rfl fun cdv A outer s H E hr => ?_, gm, F.kp, F.bindsN fun _ _ _ _ _ _ us hl => match us, hl with | [], _ => rfl⟩
  have hu := hu5 hr
  have hu4 := hu4 hr
  exact (wss_cons (ws_set (i := 0) sc__law_known.nd rfl (Or.inl rfl) (we_tup (wa_cons we_str (wa_cons (we_tup (wa_cons (we_tup (wa_cons (we_tup (wa_cons we_int (wa_cons we_int wa_nil))) (wa_cons we_neg (wa_cons we_int (wa_cons we_int wa_nil))))) (wa_cons (we_tup (wa_cons (we_tup (wa_cons we_int (wa_cons we_int wa_nil))) (wa_cons we_neg (wa_cons we_int (wa_cons we_int wa_nil))))) wa_nil))) wa_nil))))
  (wss_cons (ws_set (i := 1) sc__law_known.nd rfl (Or.inl rfl) (we_tup (wa_cons (we_tup (wa_cons (we_tup (wa_cons we_str (wa_cons (we_tup (wa_cons (we_tup (wa_cons (we_tup (wa_cons we_int (wa_cons we_int wa_nil))) (wa_cons we_int (wa_cons we_int (wa_cons we_int wa_nil))))) wa_nil)) wa_nil))) (wa_cons (we_tup (wa_cons we_str (wa_cons (we_tup (wa_cons (we_tup (wa_cons (we_tup (wa_cons we_int wa_nil)) (wa_cons we_neg (wa_cons we_int (wa_cons we_int wa_nil))))) (wa_cons (we_tup (wa_cons (we_tup (wa_cons we_int wa_nil)) (wa_cons we_neg (wa_cons we_int (wa_cons we_int wa_nil))))) wa_nil))) wa_nil))) wa_nil))) wa_nil)))
  (wss_cons (ws_set (i := 1) sc__law_known.nd rfl (Or.inl rfl) (we_bin ow_add (we_var (pv 1 rfl (Or.inl rfl))) (we_tup (wa_cons (we_tup (wa_cons (we_tup (wa_cons we_str (wa_cons (we_tup (wa_cons (we_tup (wa_cons (we_tup (wa_cons we_int wa_nil)) (wa_cons we_neg (wa_cons we_int (wa_cons we_int wa_nil))))) (wa_cons (we_tup (wa_cons (we_tup (wa_cons we_int wa_nil)) (wa_cons we_neg (wa_cons we_int (wa_cons we_int wa_nil))))) wa_nil))) wa_nil))) (wa_cons (we_tup (wa_cons we_str (wa_cons (we_tup (wa_cons (we_tup (wa_cons (we_tup (wa_cons we_int (wa_cons we_int wa_nil))) (wa_cons we_neg (wa_cons we_int (wa_cons we_int wa_nil))))) (wa_cons (we_tup (wa_cons (we_tup (wa_cons we_int wa_nil)) (wa_cons we_int (wa_cons we_int (wa_cons we_int wa_nil))))) wa_nil))) wa_nil))) wa_nil))) wa_nil))))
  (wss_cons (ws_set (i := 2) sc__law_known.nd rfl (Or.inl rfl) (we_tup (wa_cons (we_tup (wa_cons (we_tup (wa_cons we_str (wa_cons (we_tup (wa_cons (we_tup (wa_cons (we_tup (wa_cons we_int (wa_cons we_int wa_nil))) (wa_cons we_int (wa_cons we_int (wa_cons we_int wa_nil))))) wa_nil)) wa_nil))) (wa_cons (we_tup (wa_cons we_str (wa_cons (we_tup (wa_cons (we_tup (wa_cons (we_tup (wa_cons we_int wa_nil)) (wa_cons we_neg (wa_cons we_int (wa_cons we_int wa_nil))))) (wa_cons (we_tup (wa_cons (we_tup (wa_cons we_int wa_nil)) (wa_cons we_neg (wa_cons we_int (wa_cons we_int wa_nil))))) wa_nil))) wa_nil))) wa_nil))) (wa_cons (we_tup (wa_cons (we_var (pv 0 rfl (Or.inl rfl))) wa_nil)) wa_nil))))
  (wss_cons (ws_set (i := 3) sc__law_known.nd rfl (Or.inl rfl) (we_tup (wa_cons (we_tup (wa_cons (we_var (pv 0 rfl (Or.inl rfl))) wa_nil)) (wa_cons (we_tup (wa_cons (we_var (pv 0 rfl (Or.inl rfl))) (wa_cons (we_tup (wa_cons we_str (wa_cons (we_tup (wa_cons (we_tup (wa_cons (we_tup (wa_cons we_int wa_nil)) (wa_cons we_neg (wa_cons we_int (wa_cons we_int wa_nil))))) (wa_cons (we_tup (wa_cons (we_tup (wa_cons we_int wa_nil)) (wa_cons we_neg (wa_cons we_int (wa_cons we_int wa_nil))))) wa_nil))) wa_nil))) wa_nil))) wa_nil))))
  (wss_cons (ws_set (i := 4) sc__law_known.nd rfl (Or.inl rfl) (we_tup (wa_cons (we_tup (wa_cons (we_tup (wa_cons we_str (wa_cons (we_tup (wa_cons (we_tup (wa_cons (we_tup (wa_cons we_int wa_nil)) (wa_cons we_neg (wa_cons we_int (wa_cons we_int wa_nil))))) (wa_cons (we_tup (wa_cons (we_tup (wa_cons we_int wa_nil)) (wa_cons we_int (wa_cons we_int (wa_cons we_int wa_nil))))) wa_nil))) wa_nil))) wa_nil)) wa_nil)))
  (wss_one (ws_ret false (we_lst (wa_cons (we_tup (wa_cons we_int (wa_cons (we_var (pv 1 rfl (Or.inl rfl))) wa_nil))) (wa_cons (we_tup (wa_cons we_int (wa_cons (we_var (pv 2 rfl (Or.inl rfl))) wa_nil))) (wa_cons (we_tup (wa_cons we_int (wa_cons (we_var (pv 3 rfl (Or.inl rfl))) wa_nil))) (wa_cons (we_tup (wa_cons we_int (wa_cons (we_var (pv 4 rfl (Or.inl rfl))) wa_nil))) wa_nil)))))))))))))
abbrev s__law_put_line : Stmt := top 49
abbrev N__law_put_line : List Str := ["_law_house_here", "_law_errand", "_law_at", "_law_line_here", "_law_lines"]
theorem sc__law_put_line : FnScope N__law_put_line ["_law_house_here", "_law_errand", "_law_at", "_law_line_here"] (defScope s__law_put_line) := ⟨rfl, rfl, rfl, by decide +kernel, rfl, by decide +kernel, by decide +kernel⟩
theorem ok__law_put_line {P : Program} {w : World} {K : PySem.W.Frag} {mg : Str → Option Value} {base : Heap} {f : Addr} {fd : FuncData} {kk : Nat} (F : FnP K "_law_put_line" s__law_put_line f fd) (gm : mg "_law_put_line" = some (.ref f)) (B : Bt mg) : Cal P w K mg base (kk + 1) 4 "_law_put_line" (f__law_put_line) := by
  refine ⟨f, fd, ["_law_house_here", "_law_errand", "_law_at", "_law_line_here"], fn_ok 4 5 F sc__law_put_line rfl rfl fun cdv A outer s H E hr => ?_, gm, F.kp, F.bindsN fun _ _ _ _ _ _ us hl => match us, hl with | [_, _, _, _], _ => rfl⟩
  have hu := hu5 hr
  have hu4 := hu4 hr
  exact (wss_cons (ws_set (i := 4) sc__law_put_line.nd rfl (Or.inl rfl) (we_ix hu (we_ix hu (we_var (pv 0 rfl (Or.inl rfl))) we_int (fun _ _ => rfl)) (we_var (pv 1 rfl (Or.inl rfl))) (fun _ _ => rfl)))
  (wss_cons (ws_set (i := 4) sc__law_put_line.nd rfl (Or.inl rfl) (we_bin ow_add (we_bin ow_add (we_slice (we_var (pv 4 rfl (Or.inl rfl))) wo_none (wo_some (we_var (pv 2 rfl (Or.inl rfl))))) (we_tup (wa_cons (we_var (pv 3 rfl (Or.inl rfl))) wa_nil))) (we_slice (we_var (pv 4 rfl (Or.inl rfl))) (wo_some (we_bin ow_add (we_var (pv 2 rfl (Or.inl rfl))) we_int)) wo_none)))
  (wss_one (ws_ret false (we_tup (wa_cons (we_ix hu (we_var (pv 0 rfl (Or.inl rfl))) we_int (fun _ _ => rfl)) (wa_cons (we_bin ow_add (we_bin ow_add (we_slice (we_ix hu (we_var (pv 0 rfl (Or.inl rfl))) we_int (fun _ _ => rfl)) wo_none (wo_some (we_var (pv 1 rfl (Or.inl rfl))))) (we_tup (wa_cons (we_var (pv 4 rfl (Or.inl rfl))) wa_nil))) (we_slice (we_ix hu (we_var (pv 0 rfl (Or.inl rfl))) we_int (fun _ _ => rfl)) (wo_some (we_bin ow_add (we_var (pv 1 rfl (Or.inl rfl))) we_int)) wo_none)) wa_nil)))))))
abbrev s_law : Stmt := top 50
abbrev N_law : List Str := ["_law_script", "_law_cell", "_law_deck_here", "_law_house_here", "_law_place", "_law_wish_here", "_law_here", "_law_due", "_law_errand", "_law_lines", "_law_at", "_law_who", "_law_options_so", "_law_line_here", "_law_later", "_law_there", "_law_two", "_law_four", "_law_first", "_law_either"]
theorem sc_law : FnScope N_law ["_law_script"] (defScope s_law) := ⟨rfl, rfl, rfl, by decide +kernel, rfl, by decide +kernel, by decide +kernel⟩
theorem okf_law {P : Program} {w : World} {K : PySem.W.Frag} {mg : Str → Option Value} {base : Heap} {f : Addr} {fd : FuncData} {kk : Nat} (F : FnP K "law" s_law f fd) (gm : mg "law" = some (.ref f)) (B : Bt mg) {k__law_same : Nat} (C__law_deck : Cal P w K mg base kk 2 "_law_deck" (f__law_deck)) (C__law_house : Cal P w K mg base kk 3 "_law_house" (f__law_house)) (C__law_pick : Cal P w K mg base kk 2 "_law_pick" (f__law_pick)) (C__law_wish : Cal P w K mg base kk 2 "_law_wish" (f__law_wish)) (C__law_table : Cal P w K mg base kk 2 "_law_table" (f__law_table)) (C__law_put_line : Cal P w K mg base kk 4 "_law_put_line" (f__law_put_line)) (C__law_same : Cal P w K mg base kk 2 "_law_same" (f__law_same k__law_same)) (C_turning_lines : Cal P w K mg base kk 4 "turning_lines" (f_turning_lines)) (C__law_known : Cal P w K mg base kk 0 "_law_known" (f__law_known)) : FnOk P w K mg base (L2.CX P w) (kk + 1) f fd ["_law_script"] (spW P w K mg 1 (f_law k__law_same)) := by
  refine fn_ok 1 20 F sc_law rfl rfl fun cdv A outer s H E hr => ?_
  have hu := hu5 hr
  have hu4 := hu4 hr
  exact (wss_cons (ws_for own_of rfl (wi_seq (we_slice (we_bin ow_add (we_lst (wa_cons we_int wa_nil)) (we_var (pv 0 rfl (Or.inl rfl)))) wo_none (wo_some we_int))) (wp_nm sc_law.nd (i := 1) rfl (Or.inl rfl)) (wss_cons (ws_set (i := 2) sc_law.nd rfl (Or.inl rfl) (we_callC C__law_deck (hr.mono (by omega)) rfl pass_of (wa_cons (we_var (pv 1 rfl (Or.inl rfl))) (wa_cons we_int wa_nil))))
  (wss_cons (ws_set (i := 3) sc_law.nd rfl (Or.inl rfl) (we_callC C__law_house (hr.mono (by omega)) rfl pass_of (wa_cons (we_var (pv 2 rfl (Or.inl rfl))) (wa_cons we_int (wa_cons we_int wa_nil)))))
  (wss_cons (ws_set (i := 4) sc_law.nd rfl (Or.inl rfl) (we_tup (wa_cons (we_callC C__law_pick (hr.mono (by omega)) rfl pass_of (wa_cons (we_var (pv 2 rfl (Or.inl rfl))) (wa_cons (we_bi cw_len rfl B.h_len rfl (wa_cons (we_ix hu (we_var (pv 3 rfl (Or.inl rfl))) we_int (fun _ _ => rfl)) wa_nil)) wa_nil))) (wa_cons we_int (wa_cons (we_callC C__law_pick (hr.mono (by omega)) rfl pass_of (wa_cons (we_var (pv 2 rfl (Or.inl rfl))) (wa_cons (we_ix hu (we_var (pv 3 rfl (Or.inl rfl))) we_int (fun _ _ => rfl)) wa_nil))) wa_nil)))))
  (wss_one (ws_for own_of rfl (wi_seq (we_lst (wa_cons (we_callC C__law_wish (hr.mono (by omega)) rfl pass_of (wa_cons (we_var (pv 2 rfl (Or.inl rfl))) (wa_cons (we_ix hu (we_var (pv 3 rfl (Or.inl rfl))) we_int (fun _ _ => rfl)) wa_nil))) (wa_cons (we_tupR rfl (we_ix hu (we_var (pv 3 rfl (Or.inl rfl))) we_int (fun _ _ => rfl)) rfl B.h_tuple rfl B.h_range) wa_nil)))) (wp_nm sc_law.nd (i := 5) rfl (Or.inl rfl)) (wss_cons (ws_par (i := 6) (j := 7) rfl sc_law.nd rfl rfl (by decide) rfl rfl (wa_cons (we_cmp (ow_in hu) (we_bin ow_add (we_var (pv 4 rfl (Or.inl rfl))) (we_tup (wa_cons (we_var (pv 5 rfl (Or.inl rfl))) wa_nil))) (we_callC C__law_table (hr.mono (by omega)) rfl pass_of (wa_cons (we_var (pv 3 rfl (Or.inl rfl))) (wa_cons we_non wa_nil))) (by with_unfolding_all rfl)) (wa_cons (we_lst wa_nil) wa_nil)) (by rfl))
  (wss_cons (ws_for own_of rfl (wi_enum (we_ix hu (we_var (pv 3 rfl (Or.inl rfl))) we_int (fun _ _ => rfl)) rfl B.h_enumerate) (wp_tp rfl (wps_cons (wp_nm sc_law.nd (i := 8) rfl (Or.inl rfl)) (wps_cons (wp_nm sc_law.nd (i := 9) rfl (Or.inl rfl)) wps_nil))) (wss_one (ws_for own_of rfl (wi_enum (we_var (pv 9 rfl (Or.inl rfl))) rfl B.h_enumerate) (wp_tp rfl (wps_cons (wp_nm sc_law.nd (i := 10) rfl (Or.inl rfl)) (wps_cons (wp_tp rfl (wps_cons (wp_nm sc_law.nd (i := 11) rfl (Or.inl rfl)) (wps_cons (wp_nm sc_law.nd (i := 12) rfl (Or.inl rfl)) wps_nil))) wps_nil))) (wss_cons (ws_set (i := 13) sc_law.nd rfl (Or.inl rfl) (we_tup (wa_cons (we_if (wt_cmp (ow_eq hu4) (we_var (pv 11 rfl (Or.inl rfl))) we_str (nomark _)) we_str we_str) (wa_cons (we_var (pv 12 rfl (Or.inl rfl))) wa_nil))))
  (wss_cons (ws_set (i := 14) sc_law.nd rfl (Or.inl rfl) (we_callC C__law_put_line (hr.mono (by omega)) rfl pass_of (wa_cons (we_var (pv 3 rfl (Or.inl rfl))) (wa_cons (we_var (pv 8 rfl (Or.inl rfl))) (wa_cons (we_var (pv 10 rfl (Or.inl rfl))) (wa_cons (we_var (pv 13 rfl (Or.inl rfl))) wa_nil))))))
  (wss_cons (ws_set (i := 15) sc_law.nd rfl (Or.inl rfl) (we_cmp (ow_in hu) (we_bin ow_add (we_var (pv 4 rfl (Or.inl rfl))) (we_tup (wa_cons (we_var (pv 5 rfl (Or.inl rfl))) wa_nil))) (we_callC C__law_table (hr.mono (by omega)) rfl pass_of (wa_cons (we_var (pv 14 rfl (Or.inl rfl))) (wa_cons we_non wa_nil))) (by with_unfolding_all rfl)))
  (wss_one (ws_set (i := 7) sc_law.nd rfl (Or.inl rfl) (we_bin ow_add (we_var (pv 7 rfl (Or.inl rfl))) (we_bin ow_mul (we_lstN (wa_cons (we_tup (wa_cons (we_var (pv 8 rfl (Or.inl rfl))) (wa_cons (we_var (pv 10 rfl (Or.inl rfl))) wa_nil))) wa_nil)) (we_ty cw_int rfl B.h_int rfl (wa_cons (we_cmp (ow_ne hu4) (we_var (pv 15 rfl (Or.inl rfl))) (we_var (pv 6 rfl (Or.inl rfl))) (nomark _)) wa_nil))))))))))))
  (wss_one (ws_if (wt_not (wt_val (we_callC C__law_same (hr.mono (by omega)) rfl pass_of (wa_cons (we_callC C_turning_lines (hr.mono (by omega)) rfl pass_of (wa_cons (we_var (pv 3 rfl (Or.inl rfl))) (wa_cons (we_ix hu (we_var (pv 4 rfl (Or.inl rfl))) we_int (fun _ _ => rfl)) (wa_cons (we_ix hu (we_var (pv 4 rfl (Or.inl rfl))) we_int (fun _ _ => rfl)) (wa_cons (we_var (pv 5 rfl (Or.inl rfl))) wa_nil))))) (wa_cons (we_var (pv 7 rfl (Or.inl rfl))) wa_nil))))) (wss_one (ws_ret false we_bl)) wss_nil))))))))))
  (wss_cons (ws_par (i := 16) (j := 17) rfl sc_law.nd rfl rfl (by decide) rfl rfl (wa_cons (we_ix hu (we_callC0 C__law_known (hr.mono (by omega)) rfl pass_of) we_int (fun _ _ => rfl)) (wa_cons (we_ix hu (we_callC0 C__law_known (hr.mono (by omega)) rfl pass_of) we_int (fun _ _ => rfl)) wa_nil)) (by rfl))
  (wss_cons (ws_if (wt_cmp (ow_ne hu4) (we_callC C_turning_lines (hr.mono (by omega)) rfl pass_of (wa_cons (we_var (pv 17 rfl (Or.inl rfl))) (wa_cons we_int (wa_cons we_int (wa_cons (we_tup (wa_cons we_int wa_nil)) wa_nil))))) (we_lst (wa_cons (we_tup (wa_cons we_int (wa_cons we_int wa_nil))) wa_nil)) (nomark _)) (wss_one (ws_ret false we_bl)) wss_nil)
  (wss_cons (ws_if (wt_cmp (ow_ne hu4) (we_callC C_turning_lines (hr.mono (by omega)) rfl pass_of (wa_cons (we_var (pv 16 rfl (Or.inl rfl))) (wa_cons we_int (wa_cons we_int (wa_cons (we_tup (wa_cons we_int wa_nil)) wa_nil))))) (we_lst wa_nil) (nomark _)) (wss_one (ws_ret false we_bl)) wss_nil)
  (wss_cons (ws_set (i := 18) sc_law.nd rfl (Or.inl rfl) (we_tup (wa_cons we_str (wa_cons (we_tup (wa_cons (we_tup (wa_cons (we_tup (wa_cons we_int wa_nil)) (wa_cons we_neg (wa_cons we_int (wa_cons we_int wa_nil))))) (wa_cons (we_tup (wa_cons (we_tup (wa_cons we_int wa_nil)) (wa_cons we_neg (wa_cons we_int (wa_cons we_int wa_nil))))) wa_nil))) wa_nil))))
  (wss_cons (ws_set (i := 19) sc_law.nd rfl (Or.inl rfl) (we_tup (wa_cons (we_var (pv 18 rfl (Or.inl rfl))) (wa_cons (we_tup (wa_cons we_str (wa_cons (we_tup (wa_cons (we_tup (wa_cons (we_tup (wa_cons we_int wa_nil)) (wa_cons we_neg (wa_cons we_int (wa_cons we_int wa_nil))))) (wa_cons (we_tup (wa_cons (we_tup (wa_cons we_int wa_nil)) (wa_cons we_neg (wa_cons we_int (wa_cons we_int wa_nil))))) wa_nil))) wa_nil))) wa_nil))))
  (wss_one (ws_ret false (we_cmp (ow_eq hu4) (we_callC C_turning_lines (hr.mono (by omega)) rfl pass_of (wa_cons (we_tup (wa_cons we_int (wa_cons (we_tup (wa_cons (we_var (pv 19 rfl (Or.inl rfl))) wa_nil)) wa_nil))) (wa_cons we_int (wa_cons we_int (wa_cons (we_tup (wa_cons we_int wa_nil)) wa_nil))))) (we_lst (wa_cons (we_tup (wa_cons we_int (wa_cons we_int wa_nil))) (wa_cons (we_tup (wa_cons we_int (wa_cons we_int wa_nil))) wa_nil))) (nomark _))))))))))

end Wy

set_option Elab.async false
set_option linter.all false
set_option maxRecDepth 100000
set_option maxHeartbeats 0
namespace Wy
open PySem PySem.Spec PyProof.Rows L2
def lo0 : List Str := ["ErrandError", "InvalidHouse", "InvalidErrand", "InvalidState", "InvalidWish", "WHO", "is_within", "has_items", "are_states", "is_option", "is_line", "is_house_value", "open_options", "need_house", "need_errand", "need_begin", "need_wish", "nodes_of", "options_at", "wishes_of", "chooser", "option_wins", "node_wins", "closed_table", "win_table", "turning_lines", "with_line", "with_other", "_law_deck", "_law_pick"]
def lo1 : List Str := ["_law_one", "_law_sort", "_law_same", "_law_wish", "_law_option", "_law_line", "_law_house", "_law_open", "_law_wishes", "_law_nodes", "_law_behind", "_law_is_sure", "_law_table", "_law_known", "_law_put_line"]
def loose : List Str := lo0 ++ lo1
def d_is_within : He.DefD := ⟨("is_within", none), "is_within", "is_within", defArgs (top 8), defBody (top 8), defScope (top 8), [], []⟩
def d_has_items : He.DefD := ⟨("has_items", none), "has_items", "has_items", defArgs (top 9), defBody (top 9), defScope (top 9), [], []⟩
def d_are_states : He.DefD := ⟨("are_states", none), "are_states", "are_states", defArgs (top 10), defBody (top 10), defScope (top 10), [], []⟩
def d_is_option : He.DefD := ⟨("is_option", none), "is_option", "is_option", defArgs (top 11), defBody (top 11), defScope (top 11), [], []⟩
def d_is_line : He.DefD := ⟨("is_line", none), "is_line", "is_line", defArgs (top 12), defBody (top 12), defScope (top 12), [], []⟩
def d_is_house_value : He.DefD := ⟨("is_house_value", none), "is_house_value", "is_house_value", defArgs (top 13), defBody (top 13), defScope (top 13), [], []⟩
def d_open_options : He.DefD := ⟨("open_options", none), "open_options", "open_options", defArgs (top 14), defBody (top 14), defScope (top 14), [], []⟩
def d_need_house : He.DefD := ⟨("need_house", none), "need_house", "need_house", defArgs (top 15), defBody (top 15), defScope (top 15), [], []⟩
def d_need_errand : He.DefD := ⟨("need_errand", none), "need_errand", "need_errand", defArgs (top 16), defBody (top 16), defScope (top 16), [], []⟩
def d_need_begin : He.DefD := ⟨("need_begin", none), "need_begin", "need_begin", defArgs (top 17), defBody (top 17), defScope (top 17), [], []⟩
def d_need_wish : He.DefD := ⟨("need_wish", none), "need_wish", "need_wish", defArgs (top 18), defBody (top 18), defScope (top 18), [], []⟩
def d_nodes_of : He.DefD := ⟨("nodes_of", none), "nodes_of", "nodes_of", defArgs (top 20), defBody (top 20), defScope (top 20), [], []⟩
def d_options_at : He.DefD := ⟨("options_at", none), "options_at", "options_at", defArgs (top 21), defBody (top 21), defScope (top 21), [], []⟩
def d_wishes_of : He.DefD := ⟨("wishes_of", none), "wishes_of", "wishes_of", defArgs (top 23), defBody (top 23), defScope (top 23), [], []⟩
def d_chooser : He.DefD := ⟨("chooser", none), "chooser", "chooser", defArgs (top 24), defBody (top 24), defScope (top 24), [], []⟩
def d_option_wins : He.DefD := ⟨("option_wins", none), "option_wins", "option_wins", defArgs (top 25), defBody (top 25), defScope (top 25), [], []⟩
def d_node_wins : He.DefD := ⟨("node_wins", none), "node_wins", "node_wins", defArgs (top 26), defBody (top 26), defScope (top 26), [], []⟩
def d_closed_table : He.DefD := ⟨("closed_table", none), "closed_table", "closed_table", defArgs (top 27), defBody (top 27), defScope (top 27), [], []⟩
def d_win_table : He.DefD := ⟨("win_table", none), "win_table", "win_table", defArgs (top 28), defBody (top 28), defScope (top 28), [], []⟩
def d_with_line : He.DefD := ⟨("with_line", none), "with_line", "with_line", defArgs (top 30), defBody (top 30), defScope (top 30), [], []⟩
def d_with_other : He.DefD := ⟨("with_other", none), "with_other", "with_other", defArgs (top 31), defBody (top 31), defScope (top 31), [], []⟩
def d_turning_lines : He.DefD := ⟨("turning_lines", none), "turning_lines", "turning_lines", defArgs (top 29), defBody (top 29), defScope (top 29), [], []⟩
def d__law_deck : He.DefD := ⟨("_law_deck", none), "_law_deck", "_law_deck", defArgs (top 33), defBody (top 33), defScope (top 33), [], []⟩
def d__law_pick : He.DefD := ⟨("_law_pick", none), "_law_pick", "_law_pick", defArgs (top 34), defBody (top 34), defScope (top 34), [], []⟩
def d__law_one : He.DefD := ⟨("_law_one", none), "_law_one", "_law_one", defArgs (top 35), defBody (top 35), defScope (top 35), [], []⟩
def d__law_sort : He.DefD := ⟨("_law_sort", none), "_law_sort", "_law_sort", defArgs (top 36), defBody (top 36), defScope (top 36), [], []⟩
def d__law_same : He.DefD := ⟨("_law_same", none), "_law_same", "_law_same", defArgs (top 37), defBody (top 37), defScope (top 37), [], []⟩
def d__law_wish : He.DefD := ⟨("_law_wish", none), "_law_wish", "_law_wish", defArgs (top 38), defBody (top 38), defScope (top 38), [], []⟩
def d__law_option : He.DefD := ⟨("_law_option", none), "_law_option", "_law_option", defArgs (top 39), defBody (top 39), defScope (top 39), [], []⟩
def d__law_line : He.DefD := ⟨("_law_line", none), "_law_line", "_law_line", defArgs (top 40), defBody (top 40), defScope (top 40), [], []⟩
def d__law_house : He.DefD := ⟨("_law_house", none), "_law_house", "_law_house", defArgs (top 41), defBody (top 41), defScope (top 41), [], []⟩
def d__law_open : He.DefD := ⟨("_law_open", none), "_law_open", "_law_open", defArgs (top 42), defBody (top 42), defScope (top 42), [], []⟩
def d__law_wishes : He.DefD := ⟨("_law_wishes", none), "_law_wishes", "_law_wishes", defArgs (top 43), defBody (top 43), defScope (top 43), [], []⟩
def d__law_nodes : He.DefD := ⟨("_law_nodes", none), "_law_nodes", "_law_nodes", defArgs (top 44), defBody (top 44), defScope (top 44), [], []⟩
def d__law_behind : He.DefD := ⟨("_law_behind", none), "_law_behind", "_law_behind", defArgs (top 45), defBody (top 45), defScope (top 45), [], []⟩
def d__law_is_sure : He.DefD := ⟨("_law_is_sure", none), "_law_is_sure", "_law_is_sure", defArgs (top 46), defBody (top 46), defScope (top 46), [], []⟩
def d__law_table : He.DefD := ⟨("_law_table", none), "_law_table", "_law_table", defArgs (top 47), defBody (top 47), defScope (top 47), [], []⟩
def d__law_known : He.DefD := ⟨("_law_known", none), "_law_known", "_law_known", defArgs (top 48), defBody (top 48), defScope (top 48), [], []⟩
def d__law_put_line : He.DefD := ⟨("_law_put_line", none), "_law_put_line", "_law_put_line", defArgs (top 49), defBody (top 49), defScope (top 49), [], []⟩
def d_law : He.DefD := ⟨("law", none), "law", "law", defArgs (top 50), defBody (top 50), defScope (top 50), [], []⟩
def fnl0 : List He.DefD := [d_is_within, d_has_items, d_are_states, d_is_option, d_is_line, d_is_house_value, d_open_options, d_need_house, d_need_errand, d_need_begin, d_need_wish, d_nodes_of, d_options_at, d_wishes_of, d_chooser, d_option_wins, d_node_wins, d_closed_table, d_win_table, d_with_line, d_with_other, d_turning_lines, d__law_deck, d__law_pick, d__law_one, d__law_sort, d__law_same, d__law_wish, d__law_option, d__law_line]
def fnl1 : List He.DefD := [d__law_house, d__law_open, d__law_wishes, d__law_nodes, d__law_behind, d__law_is_sure, d__law_table, d__law_known, d__law_put_line, d_law]
def fnl : List He.DefD := fnl0 ++ fnl1
def fal0 : List He.Fa := [.glo "is_within", .glo "has_items", .glo "are_states", .glo "is_option", .glo "is_line", .glo "is_house_value", .glo "open_options", .glo "need_house", .glo "need_errand", .glo "need_begin", .glo "need_wish", .glo "nodes_of", .glo "options_at", .glo "wishes_of", .glo "chooser", .glo "option_wins", .glo "node_wins", .glo "closed_table", .glo "win_table", .glo "with_line", .glo "with_other", .glo "turning_lines", .glo "_law_deck", .glo "_law_pick", .glo "_law_one", .glo "_law_sort", .glo "_law_same", .glo "_law_wish", .glo "_law_option", .glo "_law_line"]
def fal1 : List He.Fa := [.glo "_law_house", .glo "_law_open", .glo "_law_wishes", .glo "_law_nodes", .glo "_law_behind", .glo "_law_is_sure", .glo "_law_table", .glo "_law_known", .glo "_law_put_line", .glo "law", .free "all", .free "any", .free "bool", .free "enumerate", .free "int", .free "isinstance", .free "len", .free "list", .free "range", .free "set", .free "sorted", .free "str", .free "tuple", .free "zip", .glo "InvalidErrand", .glo "InvalidHouse", .glo "InvalidState", .glo "InvalidWish", .exc "InvalidErrand", .exc "InvalidHouse"]
def fal2 : List He.Fa := [.exc "InvalidState", .exc "InvalidWish"]
def fal : List He.Fa := fal0 ++ fal1 ++ fal2
def tbl : List Tb := [("WHO", [.str "me", .str "they"])]
abbrev Rw : PySem.W.OpenRow := PySem.W.OpenLaw.row PySem.Challenge.rw_whileatit_k10_lines_that_turn_it
abbrev hkW : PySem.W.Hook := hookW 5 tbl fal fnl
def obn (s : PySem.W.SharedT) : AlW := obsWG 5 tbl fal fnl (HandSHeadRun.getT s)
theorem ob_eq (s : PySem.W.SharedT) : obn s = hkW.obs s.abs := obsWG_eq (HandSHeadRun.getT_eq s)
theorem runW (w : World) : HandSHeadRun.RunEq Rw (PySem.W.view Rw.prog [50]) hkW obn 4000 loose w := by
  intro os
  kernel_rfl

theorem facts {P : Program} {w : World} {K : PySem.W.Frag} {h : Heap} {mg : Str → Option Value} (KX : K.In h) (G : h.Ns mainGlobals mg) (c0 : obsW tbl fal fnl K = valW fnl) :
    ∃ fd : FuncData, mg "law" = some (.ref (He.ga K "law")) ∧ (∀ (s : Shared) (v : Value), BindsTo s fd ⟨[v], []⟩ [("_law_script", v)]) ∧ ∀ base : Heap, FnOk P w K mg base (L2.CX P w) 60 (He.ga K "law") fd ["_law_script"] (spW P w K mg 1 (f_law 8)) := by
  have c := saysW_D c0
  obtain ⟨fd_is_within, F_is_within⟩ := c.def_ 0 (d := d_is_within) rfl
  have m_is_within : mg "is_within" = some (.ref (He.ga K "is_within")) := He.glo_ok KX G (c.fact 0 (f := .glo "is_within") rfl)
  obtain ⟨fd_has_items, F_has_items⟩ := c.def_ 1 (d := d_has_items) rfl
  have m_has_items : mg "has_items" = some (.ref (He.ga K "has_items")) := He.glo_ok KX G (c.fact 1 (f := .glo "has_items") rfl)
  obtain ⟨fd_are_states, F_are_states⟩ := c.def_ 2 (d := d_are_states) rfl
  have m_are_states : mg "are_states" = some (.ref (He.ga K "are_states")) := He.glo_ok KX G (c.fact 2 (f := .glo "are_states") rfl)
  obtain ⟨fd_is_option, F_is_option⟩ := c.def_ 3 (d := d_is_option) rfl
  have m_is_option : mg "is_option" = some (.ref (He.ga K "is_option")) := He.glo_ok KX G (c.fact 3 (f := .glo "is_option") rfl)
  obtain ⟨fd_is_line, F_is_line⟩ := c.def_ 4 (d := d_is_line) rfl
  have m_is_line : mg "is_line" = some (.ref (He.ga K "is_line")) := He.glo_ok KX G (c.fact 4 (f := .glo "is_line") rfl)
  obtain ⟨fd_is_house_value, F_is_house_value⟩ := c.def_ 5 (d := d_is_house_value) rfl
  have m_is_house_value : mg "is_house_value" = some (.ref (He.ga K "is_house_value")) := He.glo_ok KX G (c.fact 5 (f := .glo "is_house_value") rfl)
  obtain ⟨fd_open_options, F_open_options⟩ := c.def_ 6 (d := d_open_options) rfl
  have m_open_options : mg "open_options" = some (.ref (He.ga K "open_options")) := He.glo_ok KX G (c.fact 6 (f := .glo "open_options") rfl)
  obtain ⟨fd_need_house, F_need_house⟩ := c.def_ 7 (d := d_need_house) rfl
  have m_need_house : mg "need_house" = some (.ref (He.ga K "need_house")) := He.glo_ok KX G (c.fact 7 (f := .glo "need_house") rfl)
  obtain ⟨fd_need_errand, F_need_errand⟩ := c.def_ 8 (d := d_need_errand) rfl
  have m_need_errand : mg "need_errand" = some (.ref (He.ga K "need_errand")) := He.glo_ok KX G (c.fact 8 (f := .glo "need_errand") rfl)
  obtain ⟨fd_need_begin, F_need_begin⟩ := c.def_ 9 (d := d_need_begin) rfl
  have m_need_begin : mg "need_begin" = some (.ref (He.ga K "need_begin")) := He.glo_ok KX G (c.fact 9 (f := .glo "need_begin") rfl)
  obtain ⟨fd_need_wish, F_need_wish⟩ := c.def_ 10 (d := d_need_wish) rfl
  have m_need_wish : mg "need_wish" = some (.ref (He.ga K "need_wish")) := He.glo_ok KX G (c.fact 10 (f := .glo "need_wish") rfl)
  obtain ⟨fd_nodes_of, F_nodes_of⟩ := c.def_ 11 (d := d_nodes_of) rfl
  have m_nodes_of : mg "nodes_of" = some (.ref (He.ga K "nodes_of")) := He.glo_ok KX G (c.fact 11 (f := .glo "nodes_of") rfl)
  obtain ⟨fd_options_at, F_options_at⟩ := c.def_ 12 (d := d_options_at) rfl
  have m_options_at : mg "options_at" = some (.ref (He.ga K "options_at")) := He.glo_ok KX G (c.fact 12 (f := .glo "options_at") rfl)
  obtain ⟨fd_wishes_of, F_wishes_of⟩ := c.def_ 13 (d := d_wishes_of) rfl
  have m_wishes_of : mg "wishes_of" = some (.ref (He.ga K "wishes_of")) := He.glo_ok KX G (c.fact 13 (f := .glo "wishes_of") rfl)
  obtain ⟨fd_chooser, F_chooser⟩ := c.def_ 14 (d := d_chooser) rfl
  have m_chooser : mg "chooser" = some (.ref (He.ga K "chooser")) := He.glo_ok KX G (c.fact 14 (f := .glo "chooser") rfl)
  obtain ⟨fd_option_wins, F_option_wins⟩ := c.def_ 15 (d := d_option_wins) rfl
  have m_option_wins : mg "option_wins" = some (.ref (He.ga K "option_wins")) := He.glo_ok KX G (c.fact 15 (f := .glo "option_wins") rfl)
  obtain ⟨fd_node_wins, F_node_wins⟩ := c.def_ 16 (d := d_node_wins) rfl
  have m_node_wins : mg "node_wins" = some (.ref (He.ga K "node_wins")) := He.glo_ok KX G (c.fact 16 (f := .glo "node_wins") rfl)
  obtain ⟨fd_closed_table, F_closed_table⟩ := c.def_ 17 (d := d_closed_table) rfl
  have m_closed_table : mg "closed_table" = some (.ref (He.ga K "closed_table")) := He.glo_ok KX G (c.fact 17 (f := .glo "closed_table") rfl)
  obtain ⟨fd_win_table, F_win_table⟩ := c.def_ 18 (d := d_win_table) rfl
  have m_win_table : mg "win_table" = some (.ref (He.ga K "win_table")) := He.glo_ok KX G (c.fact 18 (f := .glo "win_table") rfl)
  obtain ⟨fd_with_line, F_with_line⟩ := c.def_ 19 (d := d_with_line) rfl
  have m_with_line : mg "with_line" = some (.ref (He.ga K "with_line")) := He.glo_ok KX G (c.fact 19 (f := .glo "with_line") rfl)
  obtain ⟨fd_with_other, F_with_other⟩ := c.def_ 20 (d := d_with_other) rfl
  have m_with_other : mg "with_other" = some (.ref (He.ga K "with_other")) := He.glo_ok KX G (c.fact 20 (f := .glo "with_other") rfl)
  obtain ⟨fd_turning_lines, F_turning_lines⟩ := c.def_ 21 (d := d_turning_lines) rfl
  have m_turning_lines : mg "turning_lines" = some (.ref (He.ga K "turning_lines")) := He.glo_ok KX G (c.fact 21 (f := .glo "turning_lines") rfl)
  obtain ⟨fd__law_deck, F__law_deck⟩ := c.def_ 22 (d := d__law_deck) rfl
  have m__law_deck : mg "_law_deck" = some (.ref (He.ga K "_law_deck")) := He.glo_ok KX G (c.fact 22 (f := .glo "_law_deck") rfl)
  obtain ⟨fd__law_pick, F__law_pick⟩ := c.def_ 23 (d := d__law_pick) rfl
  have m__law_pick : mg "_law_pick" = some (.ref (He.ga K "_law_pick")) := He.glo_ok KX G (c.fact 23 (f := .glo "_law_pick") rfl)
  obtain ⟨fd__law_one, F__law_one⟩ := c.def_ 24 (d := d__law_one) rfl
  have m__law_one : mg "_law_one" = some (.ref (He.ga K "_law_one")) := He.glo_ok KX G (c.fact 24 (f := .glo "_law_one") rfl)
  obtain ⟨fd__law_sort, F__law_sort⟩ := c.def_ 25 (d := d__law_sort) rfl
  have m__law_sort : mg "_law_sort" = some (.ref (He.ga K "_law_sort")) := He.glo_ok KX G (c.fact 25 (f := .glo "_law_sort") rfl)
  obtain ⟨fd__law_same, F__law_same⟩ := c.def_ 26 (d := d__law_same) rfl
  have m__law_same : mg "_law_same" = some (.ref (He.ga K "_law_same")) := He.glo_ok KX G (c.fact 26 (f := .glo "_law_same") rfl)
  obtain ⟨fd__law_wish, F__law_wish⟩ := c.def_ 27 (d := d__law_wish) rfl
  have m__law_wish : mg "_law_wish" = some (.ref (He.ga K "_law_wish")) := He.glo_ok KX G (c.fact 27 (f := .glo "_law_wish") rfl)
  obtain ⟨fd__law_option, F__law_option⟩ := c.def_ 28 (d := d__law_option) rfl
  have m__law_option : mg "_law_option" = some (.ref (He.ga K "_law_option")) := He.glo_ok KX G (c.fact 28 (f := .glo "_law_option") rfl)
  obtain ⟨fd__law_line, F__law_line⟩ := c.def_ 29 (d := d__law_line) rfl
  have m__law_line : mg "_law_line" = some (.ref (He.ga K "_law_line")) := He.glo_ok KX G (c.fact 29 (f := .glo "_law_line") rfl)
  obtain ⟨fd__law_house, F__law_house⟩ := c.def_ 30 (d := d__law_house) rfl
  have m__law_house : mg "_law_house" = some (.ref (He.ga K "_law_house")) := He.glo_ok KX G (c.fact 30 (f := .glo "_law_house") rfl)
  obtain ⟨fd__law_open, F__law_open⟩ := c.def_ 31 (d := d__law_open) rfl
  have m__law_open : mg "_law_open" = some (.ref (He.ga K "_law_open")) := He.glo_ok KX G (c.fact 31 (f := .glo "_law_open") rfl)
  obtain ⟨fd__law_wishes, F__law_wishes⟩ := c.def_ 32 (d := d__law_wishes) rfl
  have m__law_wishes : mg "_law_wishes" = some (.ref (He.ga K "_law_wishes")) := He.glo_ok KX G (c.fact 32 (f := .glo "_law_wishes") rfl)
  obtain ⟨fd__law_nodes, F__law_nodes⟩ := c.def_ 33 (d := d__law_nodes) rfl
  have m__law_nodes : mg "_law_nodes" = some (.ref (He.ga K "_law_nodes")) := He.glo_ok KX G (c.fact 33 (f := .glo "_law_nodes") rfl)
  obtain ⟨fd__law_behind, F__law_behind⟩ := c.def_ 34 (d := d__law_behind) rfl
  have m__law_behind : mg "_law_behind" = some (.ref (He.ga K "_law_behind")) := He.glo_ok KX G (c.fact 34 (f := .glo "_law_behind") rfl)
  obtain ⟨fd__law_is_sure, F__law_is_sure⟩ := c.def_ 35 (d := d__law_is_sure) rfl
  have m__law_is_sure : mg "_law_is_sure" = some (.ref (He.ga K "_law_is_sure")) := He.glo_ok KX G (c.fact 35 (f := .glo "_law_is_sure") rfl)
  obtain ⟨fd__law_table, F__law_table⟩ := c.def_ 36 (d := d__law_table) rfl
  have m__law_table : mg "_law_table" = some (.ref (He.ga K "_law_table")) := He.glo_ok KX G (c.fact 36 (f := .glo "_law_table") rfl)
  obtain ⟨fd__law_known, F__law_known⟩ := c.def_ 37 (d := d__law_known) rfl
  have m__law_known : mg "_law_known" = some (.ref (He.ga K "_law_known")) := He.glo_ok KX G (c.fact 37 (f := .glo "_law_known") rfl)
  obtain ⟨fd__law_put_line, F__law_put_line⟩ := c.def_ 38 (d := d__law_put_line) rfl
  have m__law_put_line : mg "_law_put_line" = some (.ref (He.ga K "_law_put_line")) := He.glo_ok KX G (c.fact 38 (f := .glo "_law_put_line") rfl)
  obtain ⟨fd_law, F_law⟩ := c.def_ 39 (d := d_law) rfl
  have m_law : mg "law" = some (.ref (He.ga K "law")) := He.glo_ok KX G (c.fact 39 (f := .glo "law") rfl)
  have B : Bt mg := ⟨He.free_ok KX G (c.fact 40 (f := .free "all") rfl), He.free_ok KX G (c.fact 41 (f := .free "any") rfl), He.free_ok KX G (c.fact 42 (f := .free "bool") rfl), He.free_ok KX G (c.fact 43 (f := .free "enumerate") rfl), He.free_ok KX G (c.fact 44 (f := .free "int") rfl), He.free_ok KX G (c.fact 45 (f := .free "isinstance") rfl), He.free_ok KX G (c.fact 46 (f := .free "len") rfl), He.free_ok KX G (c.fact 47 (f := .free "list") rfl), He.free_ok KX G (c.fact 48 (f := .free "range") rfl), He.free_ok KX G (c.fact 49 (f := .free "set") rfl), He.free_ok KX G (c.fact 50 (f := .free "sorted") rfl), He.free_ok KX G (c.fact 51 (f := .free "str") rfl), He.free_ok KX G (c.fact 52 (f := .free "tuple") rfl), He.free_ok KX G (c.fact 53 (f := .free "zip") rfl)⟩
  have X_InvalidErrand : Ecl K mg "InvalidErrand" := ecl_of KX G (c.fact 54 (f := .glo "InvalidErrand") rfl) (c.fact 58 (f := .exc "InvalidErrand") rfl)
  have X_InvalidHouse : Ecl K mg "InvalidHouse" := ecl_of KX G (c.fact 55 (f := .glo "InvalidHouse") rfl) (c.fact 59 (f := .exc "InvalidHouse") rfl)
  have X_InvalidState : Ecl K mg "InvalidState" := ecl_of KX G (c.fact 56 (f := .glo "InvalidState") rfl) (c.fact 60 (f := .exc "InvalidState") rfl)
  have X_InvalidWish : Ecl K mg "InvalidWish" := ecl_of KX G (c.fact 57 (f := .glo "InvalidWish") rfl) (c.fact 61 (f := .exc "InvalidWish") rfl)
  have G_WHO : Glo K mg "WHO" g_WHO := glo_texts (ts := ["me", "they"]) KX G (saysW_t c0 0 rfl)
  refine ⟨fd_law, m_law, fun s v => FunD.bindsA (ps := ["_law_script"]) F_law (fun _ _ _ _ _ _ us hl => match us, hl with | [_], _ => rfl) s [v] rfl, fun base => ?_⟩
  have C_is_within := ok_is_within (P := P) (w := w) (base := base) (kk := 1) F_is_within m_is_within B
  have C_has_items := ok_has_items (P := P) (w := w) (base := base) (kk := 1) F_has_items m_has_items B
  have C_are_states := ok_are_states (P := P) (w := w) (base := base) (kk := 2) F_are_states m_are_states B (C_has_items.mono (by decide)) (C_is_within.mono (by decide))
  have C_is_option := ok_is_option (P := P) (w := w) (base := base) (kk := 3) F_is_option m_is_option B (C_has_items.mono (by decide)) (C_are_states.mono (by decide)) (C_is_within.mono (by decide))
  have C_is_line := ok_is_line (P := P) (w := w) (base := base) (kk := 4) F_is_line m_is_line B G_WHO (C_has_items.mono (by decide)) (C_is_option.mono (by decide))
  have C_is_house_value := ok_is_house_value (P := P) (w := w) (base := base) (kk := 5) F_is_house_value m_is_house_value B (C_has_items.mono (by decide)) (C_is_within.mono (by decide)) (C_is_line.mono (by decide))
  have C_open_options := ok_open_options (P := P) (w := w) (base := base) (kk := 1) F_open_options m_open_options B
  have C_need_house := ok_need_house (P := P) (w := w) (base := base) (kk := 6) F_need_house m_need_house B X_InvalidHouse (C_is_house_value.mono (by decide))
  have C_need_errand := ok_need_errand (P := P) (w := w) (base := base) (kk := 2) F_need_errand m_need_errand B X_InvalidErrand (C_is_within.mono (by decide))
  have C_need_begin := ok_need_begin (P := P) (w := w) (base := base) (kk := 7) F_need_begin m_need_begin B X_InvalidState (C_need_house.mono (by decide)) (C_need_errand.mono (by decide)) (C_is_within.mono (by decide))
  have C_need_wish := ok_need_wish (P := P) (w := w) (base := base) (kk := 3) F_need_wish m_need_wish B X_InvalidWish (C_are_states.mono (by decide))
  have C_nodes_of := ok_nodes_of (P := P) (w := w) (base := base) (kk := 1) F_nodes_of m_nodes_of B
  have C_options_at := ok_options_at (P := P) (w := w) (base := base) (kk := 2) F_options_at m_options_at B (C_open_options.mono (by decide))
  have C_wishes_of := ok_wishes_of (P := P) (w := w) (base := base) (kk := 1) F_wishes_of m_wishes_of B
  have C_chooser := ok_chooser (P := P) (w := w) (base := base) (kk := 1) F_chooser m_chooser B
  have C_option_wins := ok_option_wins (P := P) (w := w) (base := base) (kk := 1) F_option_wins m_option_wins B
  have C_node_wins := ok_node_wins (P := P) (w := w) (base := base) (kk := 3) F_node_wins m_node_wins B (C_options_at.mono (by decide)) (C_option_wins.mono (by decide)) (C_chooser.mono (by decide))
  have C_closed_table := ok_closed_table (P := P) (w := w) (base := base) (kk := 4) F_closed_table m_closed_table B (C_nodes_of.mono (by decide)) (C_wishes_of.mono (by decide)) (C_node_wins.mono (by decide))
  have C_win_table := ok_win_table (P := P) (w := w) (base := base) (kk := 5) F_win_table m_win_table B (C_closed_table.mono (by decide))
  have C_with_line := ok_with_line (P := P) (w := w) (base := base) (kk := 1) F_with_line m_with_line B
  have C_with_other := ok_with_other (P := P) (w := w) (base := base) (kk := 2) F_with_other m_with_other B (C_with_line.mono (by decide))
  have C_turning_lines := ok_turning_lines (P := P) (w := w) (base := base) (kk := 8) F_turning_lines m_turning_lines B (C_need_begin.mono (by decide)) (C_need_wish.mono (by decide)) (C_win_table.mono (by decide)) (C_with_other.mono (by decide))
  have C__law_deck := ok__law_deck (P := P) (w := w) (base := base) (kk := 1) F__law_deck m__law_deck B
  have C__law_pick := ok__law_pick (P := P) (w := w) (base := base) (kk := 1) F__law_pick m__law_pick B
  have C__law_one := ok__law_one (P := P) (w := w) (base := base) (kk := 2) F__law_one m__law_one B (C__law_pick.mono (by decide))
  have C__law_sort := ok__law_sort (P := P) (w := w) (base := base) (kk := 1) F__law_sort m__law_sort B
  have C__law_same := ok__law_same (P := P) (w := w) (base := base) (kk := 2) F__law_same m__law_same B (C__law_sort.mono (by decide)) 8
  have C__law_wish := ok__law_wish (P := P) (w := w) (base := base) (kk := 2) F__law_wish m__law_wish B (C__law_pick.mono (by decide))
  have C__law_option := ok__law_option (P := P) (w := w) (base := base) (kk := 3) F__law_option m__law_option B (C__law_pick.mono (by decide)) (C__law_wish.mono (by decide))
  have C__law_line := ok__law_line (P := P) (w := w) (base := base) (kk := 4) F__law_line m__law_line B (C__law_pick.mono (by decide)) (C__law_option.mono (by decide)) (C__law_one.mono (by decide))
  have C__law_house := ok__law_house (P := P) (w := w) (base := base) (kk := 5) F__law_house m__law_house B (C__law_pick.mono (by decide)) (C__law_line.mono (by decide))
  have C__law_open := ok__law_open (P := P) (w := w) (base := base) (kk := 1) F__law_open m__law_open B
  have C__law_wishes := ok__law_wishes (P := P) (w := w) (base := base) (kk := 1) F__law_wishes m__law_wishes B
  have C__law_nodes := ok__law_nodes (P := P) (w := w) (base := base) (kk := 1) F__law_nodes m__law_nodes B
  have C__law_behind := ok__law_behind (P := P) (w := w) (base := base) (kk := 1) F__law_behind m__law_behind B
  have C__law_is_sure := ok__law_is_sure (P := P) (w := w) (base := base) (kk := 2) F__law_is_sure m__law_is_sure B (C__law_open.mono (by decide)) (C__law_behind.mono (by decide))
  have C__law_table := ok__law_table (P := P) (w := w) (base := base) (kk := 3) F__law_table m__law_table B (C__law_nodes.mono (by decide)) (C__law_wishes.mono (by decide)) (C__law_is_sure.mono (by decide))
  have C__law_known := ok__law_known (P := P) (w := w) (base := base) (kk := 1) F__law_known m__law_known B
  have C__law_put_line := ok__law_put_line (P := P) (w := w) (base := base) (kk := 1) F__law_put_line m__law_put_line B
  exact (okf_law (P := P) (w := w) (base := base) (kk := 11) (k__law_same := 8) F_law m_law B (C__law_deck.mono (by decide)) (C__law_house.mono (by decide)) (C__law_pick.mono (by decide)) (C__law_wish.mono (by decide)) (C__law_table.mono (by decide)) (C__law_put_line.mono (by decide)) (C__law_same.mono (by decide)) (C_turning_lines.mono (by decide)) (C__law_known.mono (by decide))).mono (by decide)
open PySem PySem.W PySem.Calls PyProof.Rows
theorem law_holds (pure_law : ∀ ns : List Int, ns.length ≤ 63 → f_law 8 [.d (.list (ns.map PyData.int))] [] = .ok (.d (.bool true)) []) : PySem.Challenge.rw_whileatit_k10_lines_that_turn_it.Holds := by
  w_on; o_law
  refine HandSHeadRun.head_any (r := OpenLaw.row PySem.Challenge.rw_whileatit_k10_lines_that_turn_it) (q := view (OpenLaw.row PySem.Challenge.rw_whileatit_k10_lines_that_turn_it).prog [50]) (H := hkW) (ob := obn) (M := 4000) (loose := loose) (d := HandSHeadRun.topDef (OpenLaw.row PySem.Challenge.rw_whileatit_k10_lines_that_turn_it).prog 50) (kwd := []) ob_eq
    (by kernel_rfl) (fun s => by kernel_rfl) runW (by kernel_rfl) (by kernel_rfl) (by kernel_rfl) (by rfl) (by first | assumption | decide +kernel) (by decide +kernel) ⟨rfl, rfl, rfl, rfl, rfl, by decide +kernel⟩ ?hw ?hc
  case hw => w_witness2
  case hc =>
    refine L2.walk_ofE (l := PySem.Challenge.rw_whileatit_k10_lines_that_turn_it) (n := 63) (k := 60) (x := "_law_script") (CX := L2.CX0) rfl (by rw [sizeLine_eq]; decide) (by kernel_rfl) ⟨rfl, by decide, by decide⟩ ?F (fun _ _ _ _ z => z)
    intro w mg fa h Y G hmg0
    obtain ⟨K, KX, c⟩ := Y
    have hmg : mg ("law" : PySem.Str) = some (.ref fa) := by
      have e : (HandSHeadRun.topDef (OpenLaw.row PySem.Challenge.rw_whileatit_k10_lines_that_turn_it).prog 50).name = ("law" : PySem.Str) := by kernel_rfl
      rw [← e]
      exact hmg0
    obtain ⟨fd, e1, hb, hF⟩ := facts (P := (PySem.Challenge.rw_whileatit_k10_lines_that_turn_it).prog) (w := w) KX G c
    rw [hmg] at e1
    cases e1
    exact ⟨K, fd, spLaw 63, KX, hb, fun H a ns hl _ hS => ⟨a, ns, rfl, noL_rd (saysW_n c) hS, hl, fun _ => rfl⟩, fun base _ _ => law_ok (hF base) pure_law⟩

end Wy

set_option maxHeartbeats 0
theorem PySem.Challenge.cw_whileatit_k10_lines_that_turn_it_holds : PySem.Challenge.rw_whileatit_k10_lines_that_turn_it.Holds :=
  Wy.law_holds Wy.pure_law
