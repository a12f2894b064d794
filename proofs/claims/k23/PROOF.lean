import PyProof.Rows.All
import HandS.Lambda
import Wide.All
import OpenK.AllK
import Wide.FinOn
import KE.KDictKeyed
import HandS.Walk
import HandS.WordsExc
import HandS.WordsDict
import HandS.HeadHook4
import HandS.Wide
import HandS.TupAny
import HandS.Deep
import HandS.IsInst
import HandS.TupMul
import HandS.Style
import KE.DataCmp
import KE.SortData
import PyProof.P3In
import HandS.Conv
import HandS.Text
import HandS.Zip
import KE.GoesMore
import KE.GoesEnum
import HandS.Small
import HandS.Dict
import HandS.Defaults
import HandS.ExcCtx
import HandS.TupSets
import KE.KStateDown
import Lean
import HandS.More
import HandS.Words
import HandS.Head0
import HandS.Head1
import HandS.Head2
import HandS.HeadEnd
import HandS.HeadHook1
import HandS.HeadHook2
import HandS.HeadWalk
import HandS.HotCalls
import HandS.Hot
import KE.GoesZip
import PyProof.Draws
import HandS.Iter
import HandS.Comp
import HandS.ExcIs
import KE.KRevSl
import HandS.SetFor
import HandS.Strs
import HandS.FStr
import HandS.NoneIn
import HandS.DictComp
import KE.KDictPairs
import HandS.Property
import HandS.OwnEq
import HandS.Codes
import PyProof.DictRoadsH
import KE.KEqDict
import KE.KDictCopyH
import KE.KExcSuper
import HandS.ExcInit
import HandS.ExcField
import KE.KExcIs
import KE.KExcRaise
import HandS.SuiteRaise
import PyProof.StrBlock2
import HandS.HeadNt
import KE.SortCalls
import PySem.Challenge.RW_whileatit_k23_errors_of_objects
set_option Elab.async false
set_option linter.all false
set_option maxRecDepth 100000
set_option maxHeartbeats 4000000
/-! T0: code objects, their tables known; a lambda is made. -/
namespace Wt
open PySem PySem.Spec PyProof.Rows L2 LamX
/-- the object at c is a code object of the name q, its table stands at T -/
def CodeN (c : Addr) (q : Str) (T : Addr) : HO := .ext fun h => PySem.W.CodeHd h c T ∧ h.CodeRec (.ref c) q
def CodeA (H : Hp) (c : Addr) (q : Str) : Prop := ∃ T, H c = some (CodeN c q T)
theorem codeN_ne {c T : Addr} {q : Str} (ps : Array Value) : CodeN c q T ≠ .tbl ps := fun z => by
  unfold CodeN at z
  cases z
theorem codeN_at {P : Program} {w : World} {H : Hp} {h : Heap} {c T : Addr} {q : Str} (hok : HOk P w H h) (e : H c = some (CodeN c q T)) : PySem.W.CodeHd h c T ∧ h.CodeRec (.ref c) q := (hok c _ e).1
theorem codeA_at {P : Program} {w : World} {H : Hp} {h : Heap} {c : Addr} {q : Str} (hok : HOk P w H h) (e : CodeA H c q) : h.CodeRec (.ref c) q := (codeN_at hok e.choose_spec).2
theorem codeN_ok {P : Program} {w : World} {H : Hp} {h : Heap} {c T : Addr} {q : Str} (C : PySem.W.CodeHd h c T) (R : h.CodeRec (.ref c) q) : ObjOk P w H h c (CodeN c q T) := by
  refine ⟨⟨C, R⟩, ?_, ?_⟩
  · obtain ⟨_, o, _, _, e, g, _⟩ := R
    cases e
    exact ⟨o, g⟩
  · rintro h1 h2 ⟨⟨o, vs, file, tf, flags, tg, inF, text, tt, e, r⟩, ⟨_, o', vs', t', e0, e', r'⟩⟩ st
    cases e0
    exact ⟨⟨o, vs, file, tf, flags, tg, inF, text, tt, st _ e, r⟩, ⟨_, o', vs', t', rfl, st _ e', r'⟩⟩
/-- the table at P tells one more code object, whose own table is empty -/
def grown (H : Hp) (P : Addr) (ps : Array Value) (pos : Pos) (a : Addr) (q : Str) (T : Addr) : Hp := upd (upd (upd H P (.tbl (ps ++ #[rawInt pos.line, rawInt pos.col, .ref a]))) a (CodeN a q T)) T (.tbl #[])
section
variable {H : Hp} {P a T : Addr} {ps : Array Value} {pos : Pos} {q : Str}
theorem grown_T : grown H P ps pos a q T T = some (.tbl #[]) := upd_same
theorem grown_a (n : a ≠ T) : grown H P ps pos a q T a = some (CodeN a q T) := by
  unfold grown
  rw [upd_ne n, upd_same]
theorem grown_P (n : P ≠ T) (m : P ≠ a) : grown H P ps pos a q T P = some (.tbl (ps ++ #[rawInt pos.line, rawInt pos.col, .ref a])) := by
  unfold grown
  rw [upd_ne n, upd_ne m, upd_same]
theorem grown_ne {b : Addr} (h1 : b ≠ P) (h2 : b ≠ a) (h3 : b ≠ T) : grown H P ps pos a q T b = H b := by
  unfold grown
  rw [upd_ne h3, upd_ne h2, upd_ne h1]
end
section
variable {X : Cx} {pins : List (Addr × Obj)} {σ : L2.St} {H : Hp} {s : Shared}
theorem inv_grown {P a T : Addr} {q : Str} {ps : Array Value} {pos : Pos} {h' : Heap} {t' : Nat} (I : Inv X pins σ H s) (hP : H P = some (.tbl ps)) (k : ∀ b o, b ≠ P → s.heap.get? b = some o → h'.get? b = some o)
    (hm : h'.get? P = some { cls := .none, data := .fields (ps ++ #[rawInt pos.line, rawInt pos.col, .ref a]) }) (ha : s.heap.objs.size ≤ a) (hT : s.heap.objs.size ≤ T) (C : PySem.W.CodeHd h' a T) (R : h'.CodeRec (.ref a) q) (ht : h'.get? T = some { cls := .none, data := .fields #[] }) :
    Inv X pins σ (grown H P ps pos a q T) { s with heap := h', toks := t' } := by
  have na : H a = none := I.hok.fresh ha
  have nT : H T = none := I.hok.fresh hT
  have aT : a ≠ T := by
    obtain ⟨_, _, _, _, _, _, _, _, _, _, _, _, _, _, _, _, _, _, z⟩ := C
    exact z
  have Pa : P ≠ a := ne_of_none hP na
  have PT : P ≠ T := ne_of_none hP nT
  have old : ∀ b o, s.heap.get? b = some o → b ≠ a ∧ b ≠ T := fun b o e => ⟨fun z => absurd (Nat.lt_of_lt_of_le (Heap.lt_size e) (z ▸ ha)) (Nat.lt_irrefl _), fun z => absurd (Nat.lt_of_lt_of_le (Heap.lt_size e) (z ▸ hT)) (Nat.lt_irrefl _)⟩
  have trk : ∀ b u, H b = some u → b ≠ a ∧ b ≠ T := fun b u e => ⟨ne_of_none e na, ne_of_none e nT⟩
  have notP : ∀ b u, H b = some u → (∀ qs, u ≠ .tbl qs) → b ≠ P := fun b u e n z => by
    rw [z, hP] at e
    exact n ps (Option.some.inj e).symm
  have freeP : ∀ b, H b = none → b ≠ P := fun b e z => by rw [z, hP] at e; cases e
  have same : ∀ b u, H b = some u → (∀ qs, u ≠ .tbl qs) → grown H P ps pos a q T b = some u := fun b u e n => by rw [grown_ne (notP b u e n) (trk b u e).1 (trk b u e).2]; exact e
  refine I.step (g' := s.gens) (d' := s.drawn) (ch := []) (fun _ z => nomatch z) (fun b o _ _ _ e n => k b o (freeP b n) e) (fun b o _ _ _ e n => ⟨o.slots, k b o (freeP b n) e⟩) (fun b o _ e n => by rw [grown_ne (freeP b n) (old b o e).1 (old b o e).2]; exact n) (fun b o _ e => ?_)
    (fun b xs e => same b _ e fun _ z => nomatch z) (fun b o u e => same b _ e fun _ z => nomatch z) (fun b qs e => ?_) (fun m hn => ?_) (fun b u e => ?_) I.bare
  · by_cases z : b = P
    · rw [z]; exact ⟨_, hm⟩
    · exact ⟨o, k b o z e⟩
  · by_cases z : b = P
    · rw [z] at e ⊢
      rw [hP] at e
      cases e
      exact ⟨_, grown_P PT Pa⟩
    · exact ⟨#[], by rw [grown_ne z (trk b _ e).1 (trk b _ e).2, e]; simp⟩
  · obtain ⟨o, es, ep, g, r⟩ := hn
    exact ⟨o, es, ep, k _ o (freeP _ I.free) g, r⟩
  · by_cases z1 : b = T
    · rw [z1] at e ⊢
      rw [grown_T] at e
      cases e
      exact ht
    · by_cases z2 : b = a
      · rw [z2] at e ⊢
        rw [grown_a aT] at e
        cases e
        exact codeN_ok C R
      · by_cases z3 : b = P
        · rw [z3] at e ⊢
          rw [grown_P PT Pa] at e
          cases e
          exact hm
        · rw [grown_ne z3 z2 z1] at e
          refine (I.hok b u e).stay (fun d v hd g => k d v ?_ g) (fun d g => same d _ g fun _ z => nomatch z) fun d xs g => same d _ g fun _ z => nomatch z
          rcases hd with z | z
          · rw [z]; exact z3
          · exact notP d _ z fun _ z => nomatch z
end
/-! ### making -/
section
variable {M : Model} {A : Around} {E Q : Value → Shared → Prop} {s : Shared} {name qual : Str} {params : Arguments} {body : Expr} {scope : Scope} {env : Env} {c P : Addr} {ps : Array Value} {pos : Pos} {n : Nat} {mg : Str → Option Value} {cl : List (Str × Addr)}
theorem mk_new (hcl : closureFor scope env = pure cl) (hg0 : env.globals = mainGlobals) (hg : s.heap.Ns mainGlobals mg) (hc : env.code = .ref c) (C : PySem.W.CodeHd s.heap c P) (hP : s.heap.get? P = some (PySem.W.tabObj ps)) (ht : TriplesOk ps.toList) (hn : codeAmong pos ps.toList = none) (gP : mainGlobals ≠ P) (hb : s.heap.BuiltinsAt mg P)
    (go : ∀ a T ctv h' tk, Heap.ExtBut P s.heap h' → s.heap.objs.size ≤ a → a < h'.objs.size → s.heap.objs.size ≤ T → T < h'.objs.size → h'.CodeRec (.ref a) qual → PySem.W.CodeHd h' a T → h'.get? T = some (PySem.W.tabObj #[]) → h'.get? P = some (PySem.W.tabObj (ps ++ #[rawInt pos.line, rawInt pos.col, .ref a])) →
      Q (.ref h'.objs.size) { s with heap := h'.push (PySem.W.kla_obj name qual params body scope cl ((mg "__name__").getD .none) a ctv), toks := tk }) :
    wpAny M A (makeFunction name qual params (.expr body) scope env [] [] [] pos n) Q E s := by
  obtain ⟨bm, ob, b1, b2, _, b4, b5, b6, b7, b8⟩ := hb
  rw [makeFunction_eq]
  simp only [List.zip_nil_right, List.filterMap_nil, List.isEmpty_nil, if_true, pure_bind]
  unfold makeTail
  rw [hcl, hg0]
  refine wpAny_bind (wpAny_pure ?_)
  have fin : ∀ (s1 : Shared), (∀ b o, s.heap.get? b = some o → s1.heap.get? b = some o) → s.heap.objs.size ≤ s1.heap.objs.size → s1 = { s with heap := s1.heap, toks := s1.toks } →
      ∀ {R : Value → Shared → Prop}, (∀ a T h' t', Heap.ExtBut P s.heap h' → s.heap.objs.size ≤ a → a < h'.objs.size → s.heap.objs.size ≤ T → T < h'.objs.size → h'.CodeRec (.ref a) qual → PySem.W.CodeHd h' a T → h'.get? T = some (PySem.W.tabObj #[]) → h'.get? P = some (PySem.W.tabObj (ps ++ #[rawInt pos.line, rawInt pos.col, .ref a])) → R (.ref a) { s with heap := h', toks := t' }) →
      wpAny M A (functionCode env pos n name qual params scope (.expr body)) R E s1 := by
    intro s1 k sz e1 R hR
    refine wpAny_functionCodeX hc ((C.keeps k).code (k _ _ hP) ht) ((C.keeps k).tab (k _ _ hP)) hn fun a h' t' hx h1 h2 _ hr htb ⟨T, t1, t2, t3⟩ => ?_
    rw [e1]
    exact hR a T h' t' (fun b o hb e => hx b o hb (k b o e)) (Nat.le_trans sz h1) h2 (Nat.le_trans sz t1) (Heap.lt_size t3.2) hr (PySem.W.CodeHd.of t2 t3) t3.2 htb.2
  cases cl with
  | nil =>
    simp only [List.isEmpty_nil, if_true]
    refine wpAny_bind (wpAny_pure (wpAny_bind (fin s (fun _ _ e => e) (Nat.le_refl _) rfl fun a T h' t' x1 x2 x3 x4 x5 x6 x7 x8 x9 => ?_)))
    have g' := hg.extBut x1 gP
    exact wpAny_bind (wpAny_builtinsFor g' b1 b2 (x1 _ _ b4 b5) b6 b7 b8 (wpAny_bind (wpAny_nsGet g' (wpAny_bind (wpAny_pure (wpAny_newObj_type (go a T .none h' t' x1 x2 x3 x4 x5 x6 x7 x8 x9) (by size_fits)))))))
  | cons y ys =>
    simp only [List.isEmpty_cons, Bool.false_eq_true, if_false]
    refine wpAny_bind (wpAny_newTextTuple (wpAny_bind (fin _ (fun _ _ e => Heap.get?_push_of_some _ e) (by rw [Heap.size_push]; exact Nat.le_succ _) rfl fun a T h' t' x1 x2 x3 x4 x5 x6 x7 x8 x9 => ?_)))
    have g' := hg.extBut x1 gP
    exact wpAny_bind (wpAny_builtinsFor g' b1 b2 (x1 _ _ b4 b5) b6 b7 b8 (wpAny_bind (wpAny_nsGet g' (wpAny_bind (wpAny_pure (wpAny_newObj_type (go a T _ h' t' x1 x2 x3 x4 x5 x6 x7 x8 x9) (by size_fits)))))))
end
end Wt
set_option Elab.async false
set_option linter.all false
set_option maxRecDepth 100000
set_option maxHeartbeats 4000000
/-! W1: values, the store, what they are in the heap; readings of expressions and statements by functions of plain data. -/
namespace Wy
open PySem PySem.Spec PyProof.Rows L2
/-! ### plain values -/
/-- a value of a slot: data, a place of the store, a tuple with such places -/
inductive W where
  | d (x : PyData)
  | loc (n : Nat)
  | wt (xs : List W)
  | di (es : List (Int × PyData))
  | dv (ks : List PyData) (xs : List W)
/-- what stands at a place of the store -/
inductive Ob where
  | lst (xs : List PyData)
  | dct (kvs : List (PyData × PyData))
  | dci (es : List (Int × PyData))
  | dcv (es : List (PyData × W))
  | ins (x : Str) (fs : List (Str × PyData))
abbrev Mu := List Ob
/-- an error: its class, its field -/
structure Xn where
  cls : Str
  fld : Option (Str × PyData)
inductive R (α : Type) where
  | ok (a : α) (m : Mu)
  | exn (x : Xn) (m : Mu)
  | bad
def R.bind {α β : Type} : R α → (α → Mu → R β) → R β
  | .ok a m, f => f a m
  | .exn x m, _ => .exn x m
  | .bad, _ => .bad
inductive SR where
  | next (r : List (Option W)) (m : Mu)
  | ret (keep : Bool) (w : W) (m : Mu)
  | brk (r : List (Option W)) (m : Mu)
  | cnt (r : List (Option W)) (m : Mu)
  | exn (x : Xn) (m : Mu)
  | bad
abbrev Rh := List (Option W)
abbrev FE := Rh → Mu → R W
abbrev FT := Rh → Mu → R Bool
abbrev FA := Rh → Mu → R (List W)
abbrev FS := Rh → Mu → SR
/-- a def as a function -/
abbrev Fn := List W → Mu → R W
/-! ### keys -/
mutual
def keyOf : PyData → NestedKey
  | .none => .none
  | .bool b => .num (if b = true then 1 else 0)
  | .int i => .num i
  | .str x => .text x
  | .tuple xs => .tup (keysOf xs)
  | .list _ => .none
  | .dict _ => .none
def keysOf : List PyData → List NestedKey
  | [] => []
  | x :: xs => keyOf x :: keysOf xs
end
mutual
/-- data that may be a key -/
def keyable : PyData → Bool
  | .none | .bool _ | .int _ | .str _ => true
  | .tuple xs => keyables xs
  | .list _ | .dict _ => false
def keyables : List PyData → Bool
  | [] => true
  | x :: xs => keyable x && keyables xs
end
/-! ### the heap -/
/-- where the heap's facts come from; Z: things that are being made, and not seen -/
structure Pl where
  P : Program
  w : World
  K : PySem.W.Frag
  mg : Str → Option Value
  Z : List Addr
/-- a dict with tuple keys: the keys, where their tuples stand, the values -/
def dcT (P : Program) (w : World) (a : Addr) (o : Obj) (kvs : List (NestedKey × Addr × V)) : HO := .ext fun h => ∃ es ep, h.get? a = some o ∧ o.ExactDict ∧ o.data = .dict es ep ∧
  Paired (fun (p : NestedKey × Addr × V) (e : DictEntry) => e.hash = (nestedKind P w).hash p.1 ∧ e.key = .ref p.2.1 ∧ RelV p.2.2 e.val) kvs es.toList
/-- a list, a tuple that is read and not changed -/
def Off (p : Pl) (B : List Addr) (a : Addr) : Prop := a ∉ B ∧ a ∉ p.Z
def SqLS (p : Pl) (H : Hp) (B : List Addr) (a : Addr) (xs : List V) : Prop := Off p B a ∧ Rd H a (.lst xs)
def SqTS (p : Pl) (H : Hp) (B : List Addr) (a : Addr) (xs : List V) : Prop := (Off p B a ∧ Rd H a (.tup xs)) ∨
  ∃ (o : Obj) (its : Array Value) (n : Nat), p.K.lookup a = some o ∧ o.cls = .type "tuple" ∧ o.data = .seq its n ∧ its.size ≤ sizeLine ∧ Vals xs its.toList
/-- .. whose object is known, and has no dict -/
def SqTK (p : Pl) (H : Hp) (B : List Addr) (a : Addr) (xs : List V) : Prop := (Off p B a ∧ ∃ o : Obj, o.dict = none ∧ H a = some (.frz o (.tup xs))) ∨
  ∃ (o : Obj) (its : Array Value) (n : Nat), p.K.lookup a = some o ∧ o.dict = none ∧ o.cls = .type "tuple" ∧ o.data = .seq its n ∧ its.size ≤ sizeLine ∧ Vals xs its.toList
theorem SqTK.s {p : Pl} {H : Hp} {B : List Addr} {a : Addr} {xs : List V} (h : SqTK p H B a xs) : SqTS p H B a xs := by
  rcases h with ⟨h, o, _, r⟩ | ⟨o, its, n, h, _, r⟩
  · exact .inl ⟨h, .inr ⟨o, r⟩⟩
  · exact .inr ⟨o, its, n, h, r⟩
theorem SqLS.sq {p : Pl} {H : Hp} {B : List Addr} {a : Addr} {xs : List V} (h : SqLS p H B a xs) : SqL p.K H a xs := .inl h.2
theorem SqTS.sq {p : Pl} {H : Hp} {B : List Addr} {a : Addr} {xs : List V} (h : SqTS p H B a xs) : SqT p.K H a xs := by
  rcases h with ⟨_, h⟩ | h
  · exact .inl h
  · exact .inr h
theorem SqTK.sq {p : Pl} {H : Hp} {B : List Addr} {a : Addr} {xs : List V} (h : SqTK p H B a xs) : SqT p.K H a xs := h.s.sq
mutual
/-- v is the data in the heap H; nothing of it at a place of B -/
inductive DV (p : Pl) (H : Hp) (B : List Addr) : V → PyData → Prop
  | non : DV p H B .non .none
  | bl (b : Bool) : DV p H B (.bl b) (.bool b)
  | int (i : Int) : DV p H B (.int i) (.int i)
  | str (x : Str) : DV p H B (.str x) (.str x)
  | lst {a : Addr} {xs : List V} {ds : List PyData} : SqLS p H B a xs → DVs p H B xs ds → DV p H B (.ref a) (.list ds)
  | tup {a : Addr} {xs : List V} {ds : List PyData} : SqTK p H B a xs → DVs p H B xs ds → DV p H B (.ref a) (.tuple ds)
  | dct {a : Addr} {o : Obj} {kvs : List (NestedKey × Addr × V)} {es : List (PyData × PyData)} : Off p B a → Rd H a (dcT p.P p.w a o kvs) → DVk p H B kvs es → (a == sysModules) = false → kvs.length ≤ sizeLine → (kvs.map (·.1)).Nodup →
      DV p H B (.ref a) (.dict es)
inductive DVs (p : Pl) (H : Hp) (B : List Addr) : List V → List PyData → Prop
  | nil : DVs p H B [] []
  | cons {v : V} {vs : List V} {d : PyData} {ds : List PyData} : DV p H B v d → DVs p H B vs ds → DVs p H B (v :: vs) (d :: ds)
inductive DVk (p : Pl) (H : Hp) (B : List Addr) : List (NestedKey × Addr × V) → List (PyData × PyData) → Prop
  | nil : DVk p H B [] []
  | cons {k : NestedKey} {a : Addr} {v : V} {kvs : List (NestedKey × Addr × V)} {kd vd : PyData} {es : List (PyData × PyData)} : k = keyOf kd → keyable kd = true → k.depth ≤ 8 → DV p H B (.ref a) kd → DV p H B v vd → DVk p H B kvs es →
      DVk p H B ((k, a, v) :: kvs) ((kd, vd) :: es)
end
/-- a dict with int keys: the keys, the values -/
def diT (P : Program) (w : World) (a : Addr) (o : Obj) (vs : List (Int × V)) : HO := .ext fun h => h.get? a = some o ∧ ∃ xs : List (Int × Value), h.DictOf (PySem.intKind P w) a xs ∧
  Paired (fun (p : Int × V) (q : Int × Value) => p.1 = q.1 ∧ RelV p.2 q.2) vs xs
inductive DVi (p : Pl) (H : Hp) (B : List Addr) : List (Int × V) → List (Int × PyData) → Prop
  | nil : DVi p H B [] []
  | cons {k : Int} {v : V} {d : PyData} {vs : List (Int × V)} {es : List (Int × PyData)} : DV p H B v d → DVi p H B vs es → DVi p H B ((k, v) :: vs) ((k, d) :: es)
/-- the keys of a dict alone -/
inductive DKs (p : Pl) (H : Hp) (B : List Addr) : List (NestedKey × Addr × V) → List PyData → Prop
  | nil : DKs p H B [] []
  | cons {k : NestedKey} {a : Addr} {v : V} {kvs : List (NestedKey × Addr × V)} {kd : PyData} {ks : List PyData} : k = keyOf kd → keyable kd = true → k.depth ≤ 8 → DV p H B (.ref a) kd → DKs p H B kvs ks → DKs p H B ((k, a, v) :: kvs) (kd :: ks)
mutual
inductive WV (p : Pl) (H : Hp) (B : List Addr) : V → W → Prop
  | d {v : V} {x : PyData} : DV p H B v x → WV p H B v (.d x)
  | loc {n : Nat} {a : Addr} : B[n]? = some a → WV p H B (.ref a) (.loc n)
  | wt {a : Addr} {xs : List V} {ws : List W} : SqTS p H B a xs → WVs p H B xs ws → WV p H B (.ref a) (.wt ws)
  | di {a : Addr} {o : Obj} {vs : List (Int × V)} {es : List (Int × PyData)} : Off p B a → Rd H a (diT p.P p.w a o vs) → DVi p H B vs es → (a == sysModules) = false → vs.length ≤ sizeLine → WV p H B (.ref a) (.di es)
  | dv {a : Addr} {o : Obj} {kvs : List (NestedKey × Addr × V)} {ks : List PyData} {ws : List W} : Off p B a → Rd H a (dcT p.P p.w a o kvs) → DKs p H B kvs ks → WVs p H B (kvs.map fun q => q.2.2) ws → (a == sysModules) = false → kvs.length ≤ sizeLine → (kvs.map (·.1)).Nodup → WV p H B (.ref a) (.dv ks ws)
inductive WVs (p : Pl) (H : Hp) (B : List Addr) : List V → List W → Prop
  | nil : WVs p H B [] []
  | cons {v : V} {vs : List V} {x : W} {ws : List W} : WV p H B v x → WVs p H B vs ws → WVs p H B (v :: vs) (x :: ws)
end
/-- the heap goes on -/
structure Le (B : List Addr) (H : Hp) (B' : List Addr) (H' : Hp) : Prop where
  keep : ∀ a o, a ∉ B → (∀ ps, o ≠ .tbl ps) → H a = some o → H' a = some o
  trk : ∀ a, H a ≠ none → H' a ≠ none
  ext : ∃ C, B' = B ++ C ∧ ∀ a ∈ C, H a = none
theorem Rd_some {H : Hp} {a : Addr} {u : HO} (h : Rd H a u) : H a ≠ none := by
  rcases h with h | ⟨_, h⟩ <;> rw [h] <;> exact fun z => nomatch z
section
variable {p p' : Pl} {H H1 H2 : Hp} {B B1 B2 : List Addr}
theorem Le.refl : Le B H B H := ⟨fun _ _ _ _ h => h, fun _ h => h, [], by simp, fun _ h => nomatch h⟩
theorem Le.out (l : Le B H B1 H1) {a : Addr} (h : a ∉ B) (s : H a ≠ none) : a ∉ B1 := by
  obtain ⟨C, rfl, hC⟩ := l.ext
  intro z
  rcases List.mem_append.mp z with z | z
  · exact h z
  · exact s (hC a z)
theorem Le.rd (l : Le B H B1 H1) {a : Addr} {u : HO} (h : a ∉ B) (n : ∀ ps, u ≠ .tbl ps) (r : Rd H a u) : Rd H1 a u := by
  rcases r with r | ⟨o, r⟩
  · exact .inl (l.keep a u h n r)
  · exact .inr ⟨o, l.keep a _ h (fun _ z => nomatch z) r⟩
theorem Le.trans (l : Le B H B1 H1) (m : Le B1 H1 B2 H2) : Le B H B2 H2 := by
  refine ⟨fun a u h k r => m.keep a u (l.out h (by rw [r]; exact fun z => nomatch z)) k (l.keep a u h k r), fun a h => m.trk a (l.trk a h), ?_⟩
  obtain ⟨C, rfl, hC⟩ := l.ext
  obtain ⟨C2, rfl, hC2⟩ := m.ext
  refine ⟨C ++ C2, by simp, fun a z => ?_⟩
  rcases List.mem_append.mp z with z | z
  · exact hC a z
  · exact Classical.byContradiction fun e => l.trk a e (hC2 a z)
theorem Le.off (l : Le B H B1 H1) {a : Addr} (h : Off p B a) (s : H a ≠ none) : Off p B1 a := ⟨l.out h.1 s, h.2⟩
theorem dcT_tbl {P : Program} {w : World} {a : Addr} {o : Obj} {kvs : List (NestedKey × Addr × V)} (ps : Array Value) : dcT P w a o kvs ≠ .tbl ps := fun z => by
  unfold dcT at z
  cases z
theorem SqLS.mono {a : Addr} {xs : List V} (l : Le B H B1 H1) (h : SqLS p H B a xs) : SqLS p H1 B1 a xs := ⟨l.off h.1 (Rd_some h.2), l.rd h.1.1 (fun _ z => nomatch z) h.2⟩
theorem SqTK.mono {a : Addr} {xs : List V} (l : Le B H B1 H1) (h : SqTK p H B a xs) : SqTK p H1 B1 a xs := by
  rcases h with ⟨h, o, d, r⟩ | h
  · exact .inl ⟨l.off h (by rw [r]; exact fun z => nomatch z), o, d, l.keep a _ h.1 (fun _ z => nomatch z) r⟩
  · exact .inr h
theorem SqTS.mono {a : Addr} {xs : List V} (l : Le B H B1 H1) (h : SqTS p H B a xs) : SqTS p H1 B1 a xs := by
  rcases h with ⟨h, r⟩ | h
  · exact .inl ⟨l.off h (Rd_some r), l.rd h.1 (fun _ z => nomatch z) r⟩
  · exact .inr h
mutual
theorem DV.mono (l : Le B H B1 H1) : ∀ {v : V} {x : PyData}, DV p H B v x → DV p H1 B1 v x
  | _, _, .non => .non
  | _, _, .bl b => .bl b
  | _, _, .int i => .int i
  | _, _, .str x => .str x
  | _, _, .lst h r => .lst (h.mono l) (DVs.mono l r)
  | _, _, .tup h r => .tup (h.mono l) (DVs.mono l r)
  | _, _, .dct h r k s z n => .dct (l.off h (Rd_some r)) (l.rd h.1 dcT_tbl r) (DVk.mono l k) s z n
theorem DVs.mono (l : Le B H B1 H1) : ∀ {v : List V} {x : List PyData}, DVs p H B v x → DVs p H1 B1 v x
  | _, _, .nil => .nil
  | _, _, .cons h r => .cons (DV.mono l h) (DVs.mono l r)
theorem DVk.mono (l : Le B H B1 H1) : ∀ {v : List (NestedKey × Addr × V)} {x : List (PyData × PyData)}, DVk p H B v x → DVk p H1 B1 v x
  | _, _, .nil => .nil
  | _, _, .cons e k z a v r => .cons e k z (DV.mono l a) (DV.mono l v) (DVk.mono l r)
end
theorem DVi.mono (l : Le B H B1 H1) : ∀ {v : List (Int × V)} {x : List (Int × PyData)}, DVi p H B v x → DVi p H1 B1 v x
  | _, _, .nil => .nil
  | _, _, .cons h r => .cons (h.mono l) (DVi.mono l r)
theorem diT_tbl {P : Program} {w : World} {a : Addr} {o : Obj} {vs : List (Int × V)} (ps : Array Value) : diT P w a o vs ≠ .tbl ps := fun z => by
  unfold diT at z
  cases z
theorem DKs.mono (l : Le B H B1 H1) : ∀ {v : List (NestedKey × Addr × V)} {x : List PyData}, DKs p H B v x → DKs p H1 B1 v x
  | _, _, .nil => .nil
  | _, _, .cons e k z a r => .cons e k z (a.mono l) (DKs.mono l r)
mutual
theorem WV.mono (l : Le B H B1 H1) : ∀ {v : V} {x : W}, WV p H B v x → WV p H1 B1 v x
  | _, _, .d h => .d (h.mono l)
  | _, _, .loc (n := n) h => .loc (by
      obtain ⟨C, rfl, _⟩ := l.ext
      rw [List.getElem?_append_left (List.getElem?_eq_some_iff.mp h).1]; exact h)
  | _, _, .wt h r => .wt (h.mono l) (WVs.mono l r)
  | _, _, .di h r k s z => .di (l.off h (Rd_some r)) (l.rd h.1 diT_tbl r) (DVi.mono l k) s z
  | _, _, .dv h r k ws s z n => .dv (l.off h (Rd_some r)) (l.rd h.1 dcT_tbl r) (DKs.mono l k) (WVs.mono l ws) s z n
theorem WVs.mono (l : Le B H B1 H1) : ∀ {v : List V} {x : List W}, WVs p H B v x → WVs p H1 B1 v x
  | _, _, .nil => .nil
  | _, _, .cons h r => .cons (WV.mono l h) (WVs.mono l r)
end
/-- other places: what is off there is off here -/
structure Sub (p : Pl) (B : List Addr) (p' : Pl) (B' : List Addr) : Prop where
  off : ∀ a, Off p' B' a → Off p B a
  P : p.P = p'.P
  w : p.w = p'.w
  K : p.K = p'.K
theorem Sub.b (l : ∀ b ∈ B, b ∈ B1) : Sub p B p B1 := ⟨fun _ h => ⟨fun z => h.1 (l _ z), h.2⟩, rfl, rfl, rfl⟩
theorem SqLS.sub {a : Addr} {xs : List V} (s : Sub p B p' B1) (h : SqLS p' H B1 a xs) : SqLS p H B a xs := ⟨s.off a h.1, h.2⟩
theorem SqTK.sub {a : Addr} {xs : List V} (s : Sub p B p' B1) (h : SqTK p' H B1 a xs) : SqTK p H B a xs := by
  rcases h with ⟨h, r⟩ | h
  · exact .inl ⟨s.off a h, r⟩
  · exact .inr (by rw [s.K]; exact h)
theorem SqTS.sub {a : Addr} {xs : List V} (s : Sub p B p' B1) (h : SqTS p' H B1 a xs) : SqTS p H B a xs := by
  rcases h with ⟨h, r⟩ | h
  · exact .inl ⟨s.off a h, r⟩
  · exact .inr (by rw [s.K]; exact h)
mutual
theorem DV.sub (l : Sub p B p' B1) : ∀ {v : V} {x : PyData}, DV p' H B1 v x → DV p H B v x
  | _, _, .non => .non
  | _, _, .bl b => .bl b
  | _, _, .int i => .int i
  | _, _, .str x => .str x
  | _, _, .lst h r => .lst (h.sub l) (DVs.sub l r)
  | _, _, .tup h r => .tup (h.sub l) (DVs.sub l r)
  | _, _, .dct h r k s z n => .dct (l.off _ h) (by rw [l.P, l.w]; exact r) (DVk.sub l k) s z n
theorem DVs.sub (l : Sub p B p' B1) : ∀ {v : List V} {x : List PyData}, DVs p' H B1 v x → DVs p H B v x
  | _, _, .nil => .nil
  | _, _, .cons h r => .cons (DV.sub l h) (DVs.sub l r)
theorem DVk.sub (l : Sub p B p' B1) : ∀ {v : List (NestedKey × Addr × V)} {x : List (PyData × PyData)}, DVk p' H B1 v x → DVk p H B v x
  | _, _, .nil => .nil
  | _, _, .cons e k z a v r => .cons e k z (DV.sub l a) (DV.sub l v) (DVk.sub l r)
end
end
section
variable {p p' : Pl} {H : Hp} {B B1 : List Addr}
theorem DVi.sub (l : Sub p B p' B1) : ∀ {v : List (Int × V)} {x : List (Int × PyData)}, DVi p' H B1 v x → DVi p H B v x
  | _, _, .nil => .nil
  | _, _, .cons h r => .cons (h.sub l) (DVi.sub l r)
theorem DKs.sub (l : Sub p B p' B1) : ∀ {v : List (NestedKey × Addr × V)} {x : List PyData}, DKs p' H B1 v x → DKs p H B v x
  | _, _, .nil => .nil
  | _, _, .cons e k z a r => .cons e k z (a.sub l) (DKs.sub l r)
mutual
/-- the places stand there too -/
theorem WV.sub (l : Sub p B1 p' B) (e : ∀ (n : Nat) (a : Addr), B[n]? = some a → B1[n]? = some a) : ∀ {v : V} {x : W}, WV p' H B v x → WV p H B1 v x
  | _, _, .d h => .d (h.sub l)
  | _, _, .loc h => .loc (e _ _ h)
  | _, _, .wt h r => .wt (h.sub l) (WVs.sub l e r)
  | _, _, .di h r k s z => .di (l.off _ h) (by rw [l.P, l.w]; exact r) (DVi.sub l k) s z
  | _, _, .dv h r k ws s z n => .dv (l.off _ h) (by rw [l.P, l.w]; exact r) (DKs.sub l k) (WVs.sub l e ws) s z n
theorem WVs.sub (l : Sub p B1 p' B) (e : ∀ (n : Nat) (a : Addr), B[n]? = some a → B1[n]? = some a) : ∀ {v : List V} {x : List W}, WVs p' H B v x → WVs p H B1 v x
  | _, _, .nil => .nil
  | _, _, .cons h r => .cons (WV.sub l e h) (WVs.sub l e r)
end
end
/-! ### the store -/
mutual
/-- its places stand lowW n -/
def lowW (n : Nat) : W → Bool
  | .d _ => true
  | .loc j => decide (j < n)
  | .wt ws => lowWs n ws
  | .di _ => true
  | .dv _ ws => lowWs n ws
def lowWs (n : Nat) : List W → Bool
  | [] => true
  | w :: ws => lowW n w && lowWs n ws
end
inductive DWk (p : Pl) (H : Hp) (B : List Addr) (n : Nat) : List (NestedKey × Addr × V) → List (PyData × W) → Prop
  | nil : DWk p H B n [] []
  | cons {k : NestedKey} {a : Addr} {v : V} {kvs : List (NestedKey × Addr × V)} {kd : PyData} {w : W} {es : List (PyData × W)} : k = keyOf kd → keyable kd = true → k.depth ≤ 8 → DV p H B (.ref a) kd → lowW n w = true → WV p H B v w → DWk p H B n kvs es →
      DWk p H B n ((k, a, v) :: kvs) ((kd, w) :: es)
theorem DWk.sub {p p' : Pl} {H : Hp} {B B1 : List Addr} {n : Nat} (l : Sub p B1 p' B) (e : ∀ (n : Nat) (a : Addr), B[n]? = some a → B1[n]? = some a) : ∀ {v : List (NestedKey × Addr × V)} {x : List (PyData × W)}, DWk p' H B n v x → DWk p H B1 n v x
  | _, _, .nil => .nil
  | _, _, .cons e0 k z a b v r => .cons e0 k z (a.sub l) b (v.sub l e) (DWk.sub l e r)
mutual
theorem WV.cutb {p : Pl} {H : Hp} {B B1 : List Addr} {n : Nat} (l : Sub p B1 p B) (e : ∀ (j : Nat) (a : Addr), j < n → B[j]? = some a → B1[j]? = some a) : ∀ (w : W) {v : V}, lowW n w = true → WV p H B v w → WV p H B1 v w
  | .d _, _, _, h => by cases h with | d h => exact .d (h.sub l)
  | .loc j, _, b, h => by cases h with | loc h => exact .loc (e _ _ (by rw [lowW, decide_eq_true_eq] at b; exact b) h)
  | .wt ws, _, b, h => by
    cases h with
    | wt h r =>
      rw [lowW] at b
      exact .wt (h.sub l) (WVs.cutb l e ws b r)
  | .di _, _, _, h => by cases h with | di h r k s z => exact .di (l.off _ h) r (DVi.sub l k) s z
  | .dv _ ws, _, b, h => by
    cases h with
    | dv h r k x s z nd =>
      rw [lowW] at b
      exact .dv (l.off _ h) r (k.sub l) (WVs.cutb l e ws b x) s z nd
theorem WVs.cutb {p : Pl} {H : Hp} {B B1 : List Addr} {n : Nat} (l : Sub p B1 p B) (e : ∀ (j : Nat) (a : Addr), j < n → B[j]? = some a → B1[j]? = some a) : ∀ (ws : List W) {vs : List V}, lowWs n ws = true → WVs p H B vs ws → WVs p H B1 vs ws
  | [], _, _, r => by cases r; exact .nil
  | w :: ws, _, b, r => by
    cases r with
    | cons h t =>
      rw [lowWs, Bool.and_eq_true] at b
      exact .cons (WV.cutb l e w b.1 h) (WVs.cutb l e ws b.2 t)
end
theorem DWk.cutb {p : Pl} {H : Hp} {B B1 : List Addr} {n : Nat} (l : Sub p B1 p B) (e : ∀ (j : Nat) (a : Addr), j < n → B[j]? = some a → B1[j]? = some a) : ∀ {v : List (NestedKey × Addr × V)} {x : List (PyData × W)}, DWk p H B n v x → DWk p H B1 n v x
  | _, _, .nil => .nil
  | _, _, .cons e0 k z a b v r => .cons e0 k z (a.sub l) b (WV.cutb l e _ b v) (DWk.cutb l e r)
theorem DWk.mono {p : Pl} {H H1 : Hp} {B B1 : List Addr} {n : Nat} (l : Le B H B1 H1) : ∀ {v : List (NestedKey × Addr × V)} {x : List (PyData × W)}, DWk p H B n v x → DWk p H1 B1 n v x
  | _, _, .nil => .nil
  | _, _, .cons e k z a b v r => .cons e k z (a.mono l) b (v.mono l) (DWk.mono l r)
def ObR (p : Pl) (H : Hp) (B : List Addr) (a : Addr) : Ob → Prop
  | .lst ds => ∃ xs, H a = some (.lst xs) ∧ DVs p H B xs ds
  | .dct es => ∃ q : Obj × List (NestedKey × Addr × V), H a = some (dcT p.P p.w a q.1 q.2) ∧ DVk p H B q.2 es ∧ (a == sysModules) = false ∧ q.2.length ≤ sizeLine ∧ (q.2.map (·.1)).Nodup
  | .dci es => ∃ q : Obj × List (Int × V), H a = some (diT p.P p.w a q.1 q.2) ∧ DVi p H B q.2 es ∧ (a == sysModules) = false ∧ q.2.length ≤ sizeLine
  | .dcv es => ∃ (n : Nat) (q : Obj × List (NestedKey × Addr × V)), B[n]? = some a ∧ H a = some (dcT p.P p.w a q.1 q.2) ∧ DWk p H B n q.2 es ∧ (a == sysModules) = false ∧ q.2.length ≤ sizeLine ∧ (q.2.map (·.1)).Nodup
  | .ins x fs => ∃ q : Addr × List V, H a = some (.ins (He.ga p.K x) q.1 ((fs.map (·.1)).zip q.2)) ∧ DVs p H B q.2 (fs.map (·.2))
theorem Le.at_ {B B1 : List Addr} {H H1 : Hp} (l : Le B H B1 H1) {n : Nat} {a : Addr} (h : B[n]? = some a) : B1[n]? = some a := by
  obtain ⟨C, rfl, _⟩ := l.ext
  rw [List.getElem?_append_left (List.getElem?_eq_some_iff.mp h).1]; exact h
/-- the name of the law's lambdas; the table of the law's code object -/
def lamQ : Str := ("law" : Str) ++ ".<locals>." ++ "<lambda>"
def tabL (K : PySem.W.Frag) : Addr := (He.cT K ("law", none)).2
/-- .. of a lambda within such a lambda -/
def lamI : Str := lamQ ++ ".<locals>." ++ "<lambda>"
/-- the table of such a lambda's code object -/
def InT (H : Hp) (B : List Addr) (T : Addr) : Prop := ∃ qs : Array Value, H T = some (.tbl qs) ∧ TriplesOk qs.toList ∧ ∀ (pos : Pos) (cv : Value), codeAmong pos qs.toList = some cv → ∃ c U, cv = .ref c ∧ H c = some (Wt.CodeN c lamI U) ∧ c ∉ B
/-- the table at P tells code objects of that name; none of them at a place of B; their tables are known -/
def GoodT (H : Hp) (B : List Addr) (P : Addr) : Prop := ∀ ps : Array Value, H P = some (.tbl ps) → TriplesOk ps.toList ∧ ∀ (pos : Pos) (cv : Value), codeAmong pos ps.toList = some cv → ∃ c T, cv = .ref c ∧ H c = some (Wt.CodeN c lamQ T) ∧ c ∉ B ∧ T ≠ P ∧ InT H B T
theorem InT.step {H H' : Hp} {B B' : List Addr} {T : Addr} (g : InT H B T) (hT : ∀ (T : Addr) (qs : Array Value), H T = some (.tbl qs) → H' T = some (.tbl qs)) (hc : ∀ c q U, H c = some (Wt.CodeN c q U) → c ∉ B → H' c = some (Wt.CodeN c q U) ∧ c ∉ B') : InT H' B' T := by
  obtain ⟨qs, h1, h2, h3⟩ := g
  refine ⟨qs, hT _ _ h1, h2, fun pos cv h => ?_⟩
  obtain ⟨c, U, e1, e2, e3⟩ := h3 pos cv h
  exact ⟨c, U, e1, hc c _ _ e2 e3⟩
theorem GoodT.step {H H' : Hp} {B B' : List Addr} {P : Addr} (g : GoodT H B P) (hP : ∀ ps, H' P = some (.tbl ps) → H P = some (.tbl ps)) (hT : ∀ (T : Addr) (qs : Array Value), H T = some (.tbl qs) → H' T = some (.tbl qs)) (hc : ∀ c q U, H c = some (Wt.CodeN c q U) → c ∉ B → H' c = some (Wt.CodeN c q U) ∧ c ∉ B') : GoodT H' B' P := fun ps e => by
  obtain ⟨t, a⟩ := g ps (hP ps e)
  refine ⟨t, fun pos cv h => ?_⟩
  obtain ⟨c, T, e1, e2, e3, nP, e4⟩ := a pos cv h
  obtain ⟨f1, f2⟩ := hc c _ _ e2 e3
  exact ⟨c, T, e1, f1, f2, nP, e4.step hT hc⟩
theorem GoodT.less {H : Hp} {B B' : List Addr} {P : Addr} (g : GoodT H B P) (h : ∀ a ∈ B', a ∈ B) : GoodT H B' P := g.step (fun _ e => e) (fun _ _ e => e) fun c _ _ e n => ⟨e, fun z => n (h c z)⟩
structure So (p : Pl) (H : Hp) (B : List Addr) (m : Mu) : Prop where
  tb : GoodT H B (tabL p.K)
  len : B.length = m.length
  nd : B.Nodup
  hid : ∀ a ∈ p.Z, H a ≠ none ∧ a ∉ B
  ob : ∀ (n : Nat) (a : Addr) (o : Ob), B[n]? = some a → m[n]? = some o → ObR p H B a o
/-- the slots -/
structure Sl (p : Pl) (H : Hp) (B : List Addr) (σ : L2.St) (r : Rh) : Prop where
  len : σ.length = r.length
  at_ : ∀ (i : Nat) (x : W), r[i]? = some (some x) → ∃ v, σ[i]? = some (some v) ∧ WV p H B v x
section
variable {p : Pl} {H H1 H2 : Hp} {B B1 B2 : List Addr} {σ : L2.St} {r : Rh} {m : Mu}
theorem Sl.mono (l : Le B H B1 H1) (s : Sl p H B σ r) : Sl p H1 B1 σ r := ⟨s.len, fun i x e => let ⟨v, a, b⟩ := s.at_ i x e; ⟨v, a, b.mono l⟩⟩
theorem Sl.set (s : Sl p H B σ r) {i : Nat} {v : V} {x : W} (h : WV p H B v x) : Sl p H B (σ.set i (some v)) (r.set i (some x)) := by
  refine ⟨by rw [List.length_set, List.length_set, s.len], fun j y e => ?_⟩
  by_cases q : i = j
  · subst q
    by_cases z : i < r.length
    · rw [List.getElem?_set_self z] at e
      cases e
      exact ⟨v, by rw [List.getElem?_set_self (by rw [s.len]; exact z)], h⟩
    · rw [List.getElem?_eq_none (by simpa using z)] at e
      cases e
  · rw [List.getElem?_set_ne q] at e
    obtain ⟨u, a, b⟩ := s.at_ j y e
    exact ⟨u, by rw [List.getElem?_set_ne q]; exact a, b⟩
theorem ObR.some {a : Addr} {o : Ob} (h : ObR p H B a o) : H a ≠ none := by
  cases o with
  | lst ds => obtain ⟨_, h, _⟩ := h; rw [h]; exact fun z => nomatch z
  | dct ds => obtain ⟨_, h, _⟩ := h; rw [h]; exact fun z => nomatch z
  | dci es => obtain ⟨_, h, _⟩ := h; rw [h]; exact fun z => nomatch z
  | dcv es => obtain ⟨_, _, _, h, _⟩ := h; rw [h]; exact fun z => nomatch z
  | ins x fs => obtain ⟨_, h, _⟩ := h; rw [h]; exact fun z => nomatch z
theorem So.trk (s : So p H B m) {a : Addr} (h : a ∈ B) : H a ≠ none := by
  obtain ⟨n, hn⟩ := List.mem_iff_getElem?.mp h
  have hl : n < m.length := by rw [← s.len]; exact (List.getElem?_eq_some_iff.mp hn).1
  exact (s.ob n a m[n] hn (by simp [hl])).some
theorem So.out (s : So p H B m) {q : Addr} (hq : H q = none) : Off p B q := ⟨fun h => s.trk h hq, fun h => (s.hid q h).1 hq⟩
/-- a new thing beside the store -/
theorem le_laid {q : Addr} {o : HO} (hq : H q = none) : Le B H B (upd H q o) :=
  ⟨fun a u _ _ r => by
    have ne : a ≠ q := fun z => by subst z; rw [hq] at r; cases r
    rw [upd_ne ne]; exact r,
   fun a h => by
    by_cases z : a = q
    · subst z; rw [upd_same]; exact fun z => nomatch z
    · rw [upd_ne z]; exact h,
   [], by simp, fun _ h => nomatch h⟩
theorem ObR.mono {a : Addr} {o : Ob} (l : Le B H B1 H1) (e : H1 a = H a) (h : ObR p H B a o) : ObR p H1 B1 a o := by
  cases o with
  | lst ds => obtain ⟨xs, h, d⟩ := h; exact ⟨xs, by rw [e]; exact h, d.mono l⟩
  | dct ds => obtain ⟨xs, h, d, z⟩ := h; exact ⟨xs, by rw [e]; exact h, d.mono l, z⟩
  | dci es => obtain ⟨xs, h, d, z⟩ := h; exact ⟨xs, by rw [e]; exact h, d.mono l, z⟩
  | dcv es => obtain ⟨n, q, b, h, d, z⟩ := h; exact ⟨n, q, l.at_ b, by rw [e]; exact h, d.mono l, z⟩
  | ins x fs => obtain ⟨q, h, d⟩ := h; exact ⟨q, by rw [e]; exact h, d.mono l⟩
theorem GoodT.laid {P : Addr} (g : GoodT H B P) {q : Addr} {o : HO} (hq : H q = none) (ho : ∀ ps, o ≠ .tbl ps) (hb : ∀ c ∈ B1, c ∈ B ∨ c = q) : GoodT (upd H q o) B1 P := g.step (fun ps e => by
    by_cases z : P = q
    · subst z; rw [upd_same] at e; exact absurd (Option.some.inj e) (ho ps)
    · rw [upd_ne z] at e; exact e) (fun T qs e => by rw [upd_ne (ne_of_none e hq)]; exact e) fun c _ _ e n => by
    have ne : c ≠ q := fun z => by rw [z, hq] at e; cases e
    exact ⟨by rw [upd_ne ne]; exact e, fun z => (hb c z).elim n ne⟩
theorem ObR.tbl {a : Addr} {o : HO} {x : Ob} (h : ObR p H B a x) (e : H a = Option.some o) : ∀ ps, o ≠ .tbl ps := fun ps z => by
  rw [z] at e
  cases x with
  | lst ds => obtain ⟨_, h, _⟩ := h; rw [e] at h; cases h
  | dct ds => obtain ⟨_, h, _⟩ := h; rw [e] at h; exact absurd (Option.some.inj h).symm (dcT_tbl ps)
  | dci es => obtain ⟨_, h, _⟩ := h; rw [e] at h; exact absurd (Option.some.inj h).symm (diT_tbl ps)
  | dcv es => obtain ⟨_, _, _, h, _⟩ := h; rw [e] at h; exact absurd (Option.some.inj h).symm (dcT_tbl ps)
  | ins x fs => obtain ⟨_, h, _⟩ := h; rw [e] at h; cases h
theorem So.laid (s : So p H B m) {q : Addr} {o : HO} (hq : H q = none) (ho : ∀ ps, o ≠ .tbl ps := by first | exact fun _ z => nomatch z | exact dcT_tbl | exact diT_tbl) : So p (upd H q o) B m :=
  ⟨s.tb.laid hq ho fun _ h => .inl h, s.len, s.nd, fun a h => ⟨(le_laid (B := B) hq).trk a (s.hid a h).1, (s.hid a h).2⟩, fun n a x h1 h2 => (s.ob n a x h1 h2).mono (le_laid hq) (upd_ne fun z => by subst z; exact s.trk (List.mem_of_getElem? h1) hq)⟩
/-- a new thing in the store -/
theorem le_new {q : Addr} {o : HO} (hq : H q = none) : Le B H (B ++ [q]) (upd H q o) :=
  ⟨(le_laid (B := B) hq).keep, (le_laid (B := B) hq).trk, [q], rfl, fun a h => by
    have e : a = q := by simpa using h
    rw [e]; exact hq⟩
theorem So.new (s : So p H B m) {q : Addr} {o : HO} {x : Ob} (hq : H q = none) (h : ObR p (upd H q o) (B ++ [q]) q x) : So p (upd H q o) (B ++ [q]) (m ++ [x]) := by
  refine ⟨s.tb.laid hq (h.tbl upd_same) (fun c hc => (List.mem_append.mp hc).imp id fun z => by simpa using z), by simp [s.len], ?_, fun a h => ⟨(le_new (B := B) hq).trk a (s.hid a h).1, fun z => ?_⟩, fun n a y h1 h2 => ?_⟩
  rotate_left
  · rcases List.mem_append.mp z with z | z
    · exact (s.hid a h).2 z
    · have e : a = q := by simpa using z
      rw [e] at h
      exact (s.hid q h).1 hq
  rotate_left
  · rw [List.nodup_append]
    refine ⟨s.nd, by simp, fun a ha b hb e => ?_⟩
    have eb : b = q := by simpa using hb
    rw [e, eb] at ha
    exact s.trk ha hq
  · by_cases z : n < B.length
    · rw [List.getElem?_append_left z] at h1
      rw [List.getElem?_append_left (by rw [← s.len]; exact z)] at h2
      exact (s.ob n a y h1 h2).mono (le_new hq) (upd_ne fun z => by subst z; exact s.trk (List.mem_of_getElem? h1) hq)
    · rw [List.getElem?_append_right (by omega)] at h1
      rw [List.getElem?_append_right (by rw [← s.len]; omega)] at h2
      have hz : n - B.length = 0 := by
        have := (List.getElem?_eq_some_iff.mp h1).1
        simp at this; omega
      rw [← s.len, hz] at h2
      rw [hz] at h1
      simp at h1 h2
      subst h1; subst h2
      exact h
theorem So.obj (s : So p H B m) {n : Nat} {a : Addr} (h : B[n]? = some a) : ∃ o, m[n]? = some o ∧ ObR p H B a o := by
  have hl : n < m.length := by rw [← s.len]; exact (List.getElem?_eq_some_iff.mp h).1
  exact ⟨m[n], by simp [hl], s.ob n a _ h (by simp [hl])⟩
/-- a thing of the store is changed -/
theorem le_set {a : Addr} {o : HO} (ha : a ∈ B) : Le B H B (upd H a o) :=
  ⟨fun b u hb _ r => by
    have ne : b ≠ a := fun z => by subst z; exact hb ha
    rw [upd_ne ne]; exact r,
   fun b h => by
    by_cases z : b = a
    · subst z; rw [upd_same]; exact fun z => nomatch z
    · rw [upd_ne z]; exact h,
   [], by simp, fun _ h => nomatch h⟩
theorem GoodT.set {P a : Addr} {o : HO} (g : GoodT H B P) (ha : a ∈ B) (hn : ∀ ps, H a ≠ some (.tbl ps)) (ho : ∀ ps, o ≠ .tbl ps) : GoodT (upd H a o) B P := g.step (fun ps e => by
    by_cases z : P = a
    · subst z; rw [upd_same] at e; exact absurd (Option.some.inj e) (ho ps)
    · rw [upd_ne z] at e; exact e) (fun T qs e => by rw [upd_ne (fun z => hn qs (by rw [← z]; exact e))]; exact e) fun c _ _ e n => by
    have ne : c ≠ a := fun z => n (z ▸ ha)
    exact ⟨by rw [upd_ne ne]; exact e, n⟩
theorem So.set (s : So p H B m) {n : Nat} {a : Addr} {o : HO} {x : Ob} (hn : B[n]? = some a) (h : ObR p (upd H a o) B a x) : So p (upd H a o) B (m.set n x) := by
  refine ⟨s.tb.set (List.mem_of_getElem? hn) (fun ps e => (s.obj hn).choose_spec.2.tbl e ps rfl) (h.tbl upd_same), by simp [s.len], s.nd, fun b h => ⟨(le_set (List.mem_of_getElem? hn)).trk b (s.hid b h).1, (s.hid b h).2⟩, fun j b y h1 h2 => ?_⟩
  by_cases z : n = j
  · subst z
    rw [hn] at h1
    cases h1
    have hl : n < m.length := by rw [← s.len]; exact (List.getElem?_eq_some_iff.mp hn).1
    rw [List.getElem?_set_self hl] at h2
    cases h2
    exact h
  · rw [List.getElem?_set_ne z] at h2
    refine (s.ob j b y h1 h2).mono (le_set (List.mem_of_getElem? hn)) (upd_ne fun e => z ?_)
    subst e
    have hj := (List.getElem?_eq_some_iff.mp h1)
    have hi := (List.getElem?_eq_some_iff.mp hn)
    obtain ⟨j1, j2⟩ := hj
    obtain ⟨i1, i2⟩ := hi
    exact (List.getElem_inj s.nd).mp (i2.trans j2.symm)
end
end Wy
set_option Elab.async false
set_option linter.all false
set_option maxRecDepth 100000
set_option maxHeartbeats 4000000
/-! W2: the readings; names, constants, displays, operators, tests. -/
namespace Wy
open PySem PySem.Spec PyProof.Rows L2
abbrev Xs := L2.St
/-- the error x, as its class and its own dict lie -/
def XnR (p : Pl) (x : Xn) (cls : Value) (d : Option Addr) (H : Hp) : Prop :=
  (∃ C, p.mg x.cls = some (.ref C) ∧ cls = .ref C) ∧ match x.fld with
    | none => d = none
    | some (n, f) => ∃ dd v, d = some dd ∧ H dd = some (.xd [(n, v)]) ∧ DV p H [] v f
/-- what is wanted of b behind a run that comes to r -/
def Post {α β : Type} (Rel : Hp → List Addr → β → α → Prop) (p : Pl) (E : XK) (B : List Addr) (H : Hp) (r : R α) (Q : β → Hp → Prop) : Prop :=
  match r with
  | .ok a m => ∀ b H' B', Le B H B' H' → So p H' B' m → Rel H' B' b a → Q b H'
  | .exn x m => ∀ cls d H' B', Le B H B' H' → So p H' B' m → XnR p x cls d H' → E cls d H'
  | .bad => False
abbrev plX (X : Cx) (Z : List Addr) : Pl := ⟨X.prog, X.w, X.K, X.mg, Z⟩
def rd {α β : Type} (Rel : Pl → Hp → List Addr → β → α → Prop) (X : Cx) (E : XK) (f : Rh → Mu → R α) : Xs → Hp → (β → Hp → Prop) → Prop :=
  fun σ H Q => ∃ Z B r m, Sl (plX X Z) H B σ r ∧ So (plX X Z) H B m ∧ Post (Rel (plX X Z)) (plX X Z) E B H (f r m) Q
section
variable {α β γ δ : Type} {RelA : Hp → List Addr → β → α → Prop} {RelG : Hp → List Addr → δ → γ → Prop} {p : Pl} {E : XK} {B B1 : List Addr} {H H1 : Hp} {Q : δ → Hp → Prop} {Q1 : β → Hp → Prop}
theorem Post.mono {r : R γ} (l : Le B H B1 H1) (h : Post RelG p E B H r Q) : Post RelG p E B1 H1 r Q := by
  cases r with
  | ok a m => exact fun b H' B' l2 s q => h b H' B' (l.trans l2) s q
  | exn x m => exact fun c d H' B' l2 s q => h c d H' B' (l.trans l2) s q
  | bad => exact h
theorem Post.step {r : R α} {g : α → Mu → R γ} (h : Post RelG p E B H (r.bind g) Q) (k : ∀ a m1 b H1 B1, Le B H B1 H1 → So p H1 B1 m1 → RelA H1 B1 b a → Post RelG p E B1 H1 (g a m1) Q → Q1 b H1) : Post RelA p E B H r Q1 := by
  cases r with
  | ok a m => exact fun b H' B' l s q => k a m b H' B' l s q (h.mono l)
  | exn x m => exact h
  | bad => exact h
theorem Post.done {a : γ} {m : Mu} {b : δ} (h : Post RelG p E B H (.ok a m) Q) (s : So p H B m) (r : RelG H B b a) : Q b H := h b H B Le.refl s r
theorem Post.fresh {a : γ} {m : Mu} {b : δ} {q : Addr} {o : HO} (h : Post RelG p E B H (.ok a m) Q) (s : So p H B m) (hq : H q = none) (r : RelG (upd H q o) B b a) (ho : ∀ ps, o ≠ .tbl ps := by first | exact fun _ z => nomatch z | exact dcT_tbl | exact diT_tbl) : Q b (upd H q o) :=
  h b _ B (le_laid hq) (s.laid hq ho) r
end
abbrev RE (p : Pl) : Hp → List Addr → V → W → Prop := fun H B => WV p H B
abbrev RT : Pl → Hp → List Addr → Bool → Bool → Prop := fun _ _ _ b c => b = c
abbrev RA (p : Pl) : Hp → List Addr → List V → List W → Prop := fun H B => WVs p H B
def WE (X : Cx) (E : XK) (e : Expr) (f : FE) : Prop := PE X e (rd RE X E f)
def WT (X : Cx) (E : XK) (e : Expr) (f : FT) : Prop := PT X e (rd RT X E f)
def WA (X : Cx) (E : XK) (es : List Expr) (f : FA) : Prop := PA X es (rd RA X E f)
/-- an operation by values -/
abbrev PostE (p : Pl) (E : XK) (B : List Addr) (H : Hp) (r : R W) (Q : VK) : Prop := Post (RE p) p E B H r Q
def OpW (X : Cx) (E : XK) (f : Value → Value → Sem Value) (g : W → W → Mu → R W) : Prop :=
  OpR X f (fun x y H Q => ∃ Z B m a b, So (plX X Z) H B m ∧ WV (plX X Z) H B x a ∧ WV (plX X Z) H B y b ∧ PostE (plX X Z) E B H (g a b m) Q)
theorem OpW.of {X : Cx} {E : XK} {f : Value → Value → Sem Value} {g : W → W → Mu → R W} {r : R2} (h : OpR X f r)
    (c : ∀ Z B m a b H x y Q, So (plX X Z) H B m → WV (plX X Z) H B x a → WV (plX X Z) H B y b → PostE (plX X Z) E B H (g a b m) Q → r x y H Q) : OpW X E f g := by
  rintro pins s σ H x y v u Q I rx ry ⟨Z, B, m, a, b, so, ha, hb, q⟩
  exact h pins s σ H x y v u Q I rx ry (c Z B m a b H x y Q so ha hb q)
/-! ### reading through the store -/
def dr (m : Mu) : W → Option PyData
  | .d x => some x
  | .loc n => match m[n]? with
    | some (.lst ds) => some (.list ds)
    | some (.dct es) => some (.dict es)
    | _ => none
  | .wt _ => none
  | .di _ => none
  | .dv _ _ => none
section
variable {p : Pl} {H : Hp} {B : List Addr} {m : Mu}
abbrev Pl.z (p : Pl) : Pl := { p with Z := [] }
theorem Sub.z : Sub p.z [] p B := ⟨fun _ _ => ⟨by simp, by simp⟩, rfl, rfl, rfl⟩
theorem DV.nil {v : V} {x : PyData} (h : DV p H B v x) : DV p.z H [] v x := DV.sub Sub.z h
theorem DVs.nil' {v : List V} {x : List PyData} (h : DVs p H B v x) : DVs p.z H [] v x := DVs.sub Sub.z h
theorem DVk.nil' {v : List (NestedKey × Addr × V)} {x : List (PyData × PyData)} (h : DVk p H B v x) : DVk p.z H [] v x := DVk.sub Sub.z h
theorem WV.dr {v : V} {w : W} {x : PyData} (h : WV p H B v w) (s : So p H B m) (e : dr m w = some x) : DV p.z H [] v x := by
  cases h with
  | d h =>
    have e' := Option.some.inj e
    subst e'
    exact h.nil
  | @loc n a h =>
    obtain ⟨o, ho, r⟩ := s.obj h
    have e1 : (match m[n]? with | some (.lst ds) => some (PyData.list ds) | some (.dct es) => some (.dict es) | _ => none) = some x := e
    rw [ho] at e1
    cases o with
    | lst ds =>
      cases e1
      obtain ⟨xs, h1, h2⟩ := r
      exact .lst ⟨⟨by simp, by simp⟩, .inl h1⟩ h2.nil'
    | dct es =>
      cases e1
      obtain ⟨kvs, h1, h2, h3, h4⟩ := r
      exact .dct ⟨by simp, by simp⟩ (.inl h1) h2.nil' h3 h4.1 h4.2
    | dci _ => cases e1
    | dcv _ => cases e1
    | ins _ _ => cases e1
  | wt _ _ => cases e
  | di _ _ _ _ _ => cases e
  | dv _ _ _ _ _ _ _ => cases e
mutual
theorem DV.dp : ∀ {v : V} {x : PyData}, DV p H B v x → x.canLay0 = true → Dp p.K H v x
  | _, _, .non, _ => .non
  | _, _, .bl b, _ => .bl b
  | _, _, .int i, _ => .int i
  | _, _, .str x, _ => .str x
  | _, _, .lst h r, c => .lst h.sq (DVs.dp r (by simpa [PyData.canLay0] using c))
  | _, _, .tup h r, c => .tup h.sq (DVs.dp r (by simpa [PyData.canLay0] using c))
  | _, _, .dct _ _ _ _ _ _, c => by simp [PyData.canLay0] at c
theorem DVs.dp : ∀ {v : List V} {x : List PyData}, DVs p H B v x → PyData.canLayAll0 x = true → DpAll p.K H v x
  | _, _, .nil, _ => .nil
  | _, _, .cons h r, c => by
    have c' := Bool.and_eq_true_iff.mp (by simpa [PyData.canLayAll0] using c)
    exact .cons (DV.dp h c'.1) (DVs.dp r c'.2)
end
theorem DVs.length : ∀ {v : List V} {x : List PyData}, DVs p H B v x → v.length = x.length
  | _, _, .nil => rfl
  | _, _, .cons _ r => congrArg (· + 1) (DVs.length r)
theorem WVs.length : ∀ {v : List V} {x : List W}, WVs p H B v x → v.length = x.length
  | _, _, .nil => rfl
  | _, _, .cons _ r => congrArg (· + 1) (WVs.length r)
theorem DVs.get : ∀ {vs : List V} {xs : List PyData} {i : Nat} {x : PyData}, DVs p H B vs xs → xs[i]? = some x → ∃ v, vs[i]? = some v ∧ DV p H B v x
  | _, _, _, _, .nil, e => by simp at e
  | _, _, 0, _, .cons r _, e => by simp at e; subst e; exact ⟨_, rfl, r⟩
  | _, _, i + 1, x, .cons _ t, e => by
    obtain ⟨u, h1, h2⟩ := DVs.get (i := i) (x := x) t (by simpa using e)
    exact ⟨u, by simpa using h1, h2⟩
theorem DVs.append : ∀ {xs ys : List V} {us ws : List PyData}, DVs p H B xs us → DVs p H B ys ws → DVs p H B (xs ++ ys) (us ++ ws)
  | _, _, _, _, .nil, s => s
  | _, _, _, _, .cons r t, s => .cons r (DVs.append t s)
theorem DVs.take : ∀ {xs : List V} {us : List PyData} (n : Nat), DVs p H B xs us → DVs p H B (xs.take n) (us.take n)
  | _, _, 0, _ => .nil
  | _, _, _ + 1, .nil => .nil
  | _, _, n + 1, .cons r t => .cons r (DVs.take n t)
theorem DVs.drop : ∀ {xs : List V} {us : List PyData} (n : Nat), DVs p H B xs us → DVs p H B (xs.drop n) (us.drop n)
  | _, _, 0, r => r
  | _, _, _ + 1, .nil => .nil
  | _, _, n + 1, .cons _ t => DVs.drop n t
theorem DVs.set {x : V} {u : PyData} (r : DV p H B x u) : ∀ {xs : List V} {us : List PyData} (i : Nat), DVs p H B xs us → DVs p H B (xs.set i x) (us.set i u)
  | _, _, _, .nil => .nil
  | _, _, 0, .cons _ t => .cons r t
  | _, _, i + 1, .cons q t => .cons q (DVs.set r i t)
/-- a tuple of data is data -/
theorem WVs.data : ∀ {vs : List V} {ws : List W} {ds : List PyData}, WVs p H B vs ws → ws = ds.map W.d → DVs p H B vs ds
  | _, _, [], .nil, _ => .nil
  | _, _, [], .cons _ _, e => by cases e
  | _, _, _ :: _, .nil, e => by cases e
  | _, _, d :: ds, .cons h r, e => by
    rw [List.map_cons] at e
    obtain ⟨e1, e2⟩ := List.cons.inj e
    subst e1
    cases h with
    | d h => exact .cons h (WVs.data r e2)
/-- .. and where each is data -/
def allD : List W → Option (List PyData)
  | [] => some []
  | .d x :: r => (allD r).map (x :: ·)
  | _ :: _ => none
theorem allD_map : ∀ {ws : List W} {ds : List PyData}, allD ws = some ds → ws = ds.map W.d
  | [], ds, h => by cases h; rfl
  | .d x :: r, ds, h => by
    obtain ⟨es, h1, h2⟩ := Option.map_eq_some_iff.mp (show (allD r).map (x :: ·) = some ds from h)
    subst h2
    rw [List.map_cons, ← allD_map h1]
  | .loc _ :: _, _, h => by cases h
  | .wt _ :: _, _, h => by cases h
/-- a tuple of values -/
def mkT (ws : List W) : W := match allD ws with
  | some ds => .d (.tuple ds)
  | none => .wt ws
theorem WV.mkT {a : Addr} {xs : List V} {ws : List W} (h : SqTK p H B a xs) (r : WVs p H B xs ws) : WV p H B (.ref a) (mkT ws) := by
  unfold Wy.mkT
  cases e : allD ws with
  | none => exact .wt h.s r
  | some ds => exact .d (.tup h (r.data (allD_map e)))
end
/-! ### names, constants -/
section
variable {X : Cx} {E : XK} {e a b c : Expr} {es : List Expr} {fa fb fc : FE} {pos : Pos}
def fVar (i : Nat) : FE := fun r m => match r[i]? with
  | some (some w) => .ok w m
  | _ => .bad
theorem we_var {i : Nat} (h : PE X e (tVar i)) : WE X E e (fVar i) := ⟨fun pins s σ H Q I ⟨Z, B, r, m, sl, so, q⟩ => h.run pins s σ H Q I (by
    unfold fVar at q
    cases hr : r[i]? with
    | none => rw [hr] at q; exact q.elim
    | some o =>
      cases o with
      | none => rw [hr] at q; exact q.elim
      | some w =>
        rw [hr] at q
        obtain ⟨v, hv, hw⟩ := sl.at_ i w hr
        exact ⟨v, hv, Post.done q so hw⟩)⟩
def fC (x : PyData) : FE := fun _ m => .ok (.d x) m
theorem we_cst {v : V} {x : PyData} (h : PE X e (tC v)) (r : ∀ Z H B, DV (plX X Z) H B v x) : WE X E e (fC x) := ⟨fun pins s σ H Q I ⟨Z, B, _, m, sl, so, q⟩ => h.run pins s σ H Q I (Post.done q so (.d (r Z H B)))⟩
theorem we_int {i j pos} : WE X E (.Constant (.int i) j pos) (fC (.int i)) := we_cst pe_int fun _ _ _ => .int _
theorem we_bl {b j pos} : WE X E (.Constant (.bool b) j pos) (fC (.bool b)) := we_cst pe_bl fun _ _ _ => .bl _
theorem we_non {j pos} : WE X E (.Constant .none j pos) (fC .none) := we_cst pe_non fun _ _ _ => .non
theorem we_str {x j pos} : WE X E (.Constant (.str x) j pos) (fC (.str x)) := we_cst pe_str fun _ _ _ => .str _
theorem we_neg {i j p1 p2} : WE X E (.UnaryOp .USub (.Constant (.int i) j p1) p2) (fC (.int (-i))) := ⟨fun pins s σ H Q I ⟨Z, B, _, m, sl, so, q⟩ =>
  (pe_un un_neg pe_int).run pins s σ H Q I ⟨_, rfl, Post.done q so (.d (.int _))⟩⟩
/-! ### arguments, displays -/
def fNil : FA := fun _ m => .ok [] m
def fCons (f : FE) (g : FA) : FA := fun r m => (f r m).bind fun w m1 => (g r m1).bind fun ws m2 => .ok (w :: ws) m2
theorem wa_nil : WA X E [] fNil := ⟨fun pos pins s σ H Q I ⟨Z, B, r, m, sl, so, q⟩ => pa_nil.run pos pins s σ H Q I (Post.done q so .nil)⟩
theorem wa_cons {f : FE} {g : FA} (ha : WE X E e f) (hr : WA X E es g) (hs : starEach (e :: es) X.env = (false, eval e X.env) :: starEach es X.env := by rfl) : WA X E (e :: es) (fCons f g) :=
  ⟨fun pos pins s σ H Q I ⟨Z, B, r, m, sl, so, q⟩ => (pa_cons ha hr hs).run pos pins s σ H Q I
    ⟨Z, B, r, m, sl, so, q.step fun w m1 x H1 B1 l1 s1 r1 q1 => ⟨Z, B1, r, m1, sl.mono l1, s1, q1.step fun ws m2 xs H2 B2 l2 s2 r2 q2 => Post.done q2 s2 (.cons (r1.mono l2) r2)⟩⟩⟩
def fTup (g : FA) : FE := fun r m => (g r m).bind fun ws m1 => if ws.length ≤ 1000 then .ok (mkT ws) m1 else .bad
theorem le1000 {n : Nat} (h : n ≤ 1000) : n ≤ sizeLine := Nat.le_of_lt (small1000 h)
/-- a tuple as it is made -/
abbrev tupO (us : List Value) : Obj := { cls := .type "tuple", data := .seq us.toArray }
/-- a tuple of written items, its object known -/
def tTupK (t : TA) : TE := fun σ H Q => t σ H fun xs H1 => xs.length ≤ sizeLine ∧ ∀ (o : Obj) (p : Addr), o.dict = none → H1 p = none → Q (.ref p) (upd H1 p (.frz o (.tup xs)))
theorem pe_tupK {x1} {t : TA} (h : PA X es t) : PE X (.Tuple es x1 pos) (tTupK t) := by
  constructor
  intro pins s σ H Q I hq
  refine wpAny_Tuple_spliced (thn (h.run pos pins s σ H _ I hq) ?_)
  rintro us s2 ⟨xs, H2, J, r, z, q⟩
  have lz : us.length ≤ sizeLine := by rw [← r.length]; exact z
  refine ⟨lz, ?_⟩
  have free : H2 s2.heap.objs.size = none := J.hok.fresh (Nat.le_refl _)
  have here := Heap.get?_push_size s2.heap (o := { cls := .type "tuple", data := .seq us.toArray }) rfl
  exact ⟨.ref s2.heap.objs.size, _, J.laid (t' := s2.toks) (o := .frz _ (.tup xs)) (fun b u e => Heap.get?_push_of_some _ e) (Nat.le_refl _) ⟨here, z, us, r, _, here, rfl, _, rfl⟩, rfl, q _ _ rfl free⟩
theorem we_tup {g : FA} {x1} (h : WA X E es g) : WE X E (.Tuple es x1 pos) (fTup g) := ⟨fun pins s σ H Q I ⟨Z, B, r, m, sl, so, q⟩ => (pe_tupK h).run pins s σ H Q I
    ⟨Z, B, r, m, sl, so, q.step fun ws m1 xs H1 B1 l1 s1 r1 q1 => by
      by_cases z : ws.length ≤ 1000
      · rw [if_pos z] at q1
        refine ⟨le1000 (by rw [r1.length]; exact z), fun ob t hd ht => Post.fresh q1 s1 ht (.mkT (.inl ⟨s1.out ht, ob, hd, upd_same⟩) (r1.mono (le_laid ht)))⟩
      · rw [if_neg z] at q1
        exact q1.elim⟩⟩
/-- a list that is read alone -/
def fLst (g : FA) : FE := fun r m => (g r m).bind fun ws m1 => match allD ws with
  | some ds => if ds.length ≤ 1000 then .ok (.d (.list ds)) m1 else .bad
  | none => .bad
theorem we_lst {g : FA} (h : WA X E es g) : WE X E (.List es pos) (fLst g) := ⟨fun pins s σ H Q I ⟨Z, B, r, m, sl, so, q⟩ => (pe_lst h).run pins s σ H Q I
    ⟨Z, B, r, m, sl, so, q.step fun ws m1 xs H1 B1 l1 s1 r1 q1 => by
      cases ea : allD ws with
      | none => rw [ea] at q1; exact q1.elim
      | some ds =>
        rw [ea] at q1
        have rd := r1.data (allD_map ea)
        by_cases z : ds.length ≤ 1000
        · replace q1 : PostE (plX X Z) E B1 H1 (if ds.length ≤ 1000 then .ok (.d (.list ds)) m1 else .bad) Q := q1
          rw [if_pos z] at q1
          refine ⟨le1000 (by rw [rd.length]; exact z), fun t ht => Post.fresh q1 s1 ht (.d (.lst ⟨s1.out ht, .inl upd_same⟩ (rd.mono (le_laid ht))))⟩
        · replace q1 : PostE (plX X Z) E B1 H1 (if ds.length ≤ 1000 then .ok (.d (.list ds)) m1 else .bad) Q := q1
          rw [if_neg z] at q1
          exact q1.elim⟩⟩
/-- a list that will be changed -/
def fLstN (g : FA) : FE := fun r m => (g r m).bind fun ws m1 => match allD ws with
  | some ds => if ds.length ≤ 1000 then .ok (.loc m1.length) (m1 ++ [.lst ds]) else .bad
  | none => .bad
theorem Post.new {p : Pl} {E : XK} {B : List Addr} {H : Hp} {m : Mu} {ob : Ob} {q : Addr} {o : HO} {Q : VK} (h : PostE p E B H (.ok (.loc m.length) (m ++ [ob])) Q) (s : So p H B m) (hq : H q = none) (r : ObR p (upd H q o) (B ++ [q]) q ob) : Q (.ref q) (upd H q o) :=
  h _ _ (B ++ [q]) (le_new hq) (s.new hq r) (.loc (by rw [← s.len]; simp))
theorem we_lstN {g : FA} (h : WA X E es g) : WE X E (.List es pos) (fLstN g) := ⟨fun pins s σ H Q I ⟨Z, B, r, m, sl, so, q⟩ => (pe_lst h).run pins s σ H Q I
    ⟨Z, B, r, m, sl, so, q.step fun ws m1 xs H1 B1 l1 s1 r1 q1 => by
      cases ea : allD ws with
      | none => rw [ea] at q1; exact q1.elim
      | some ds =>
        rw [ea] at q1
        have rd := r1.data (allD_map ea)
        replace q1 : PostE (plX X Z) E B1 H1 (if ds.length ≤ 1000 then .ok (.loc m1.length) (m1 ++ [.lst ds]) else .bad) Q := q1
        by_cases z : ds.length ≤ 1000
        · rw [if_pos z] at q1
          refine ⟨le1000 (by rw [rd.length]; exact z), fun t ht => Post.new q1 s1 ht ⟨xs, upd_same, rd.mono (le_new ht)⟩⟩
        · rw [if_neg z] at q1
          exact q1.elim⟩⟩
/-! ### operators -/
def fBin (g : W → W → Mu → R W) (fa fb : FE) : FE := fun r m => (fa r m).bind fun a m1 => (fb r m1).bind fun b m2 => g a b m2
theorem we_bin {op : Operator} {g : W → W → Mu → R W} (ho : OpW X E (binaryOp op) g) (ha : WE X E a fa) (hb : WE X E b fb) : WE X E (.BinOp a op b pos) (fBin g fa fb) :=
  ⟨fun pins s σ H Q I ⟨Z, B, r, m, sl, so, q⟩ => (pe_op ho ha hb).run pins s σ H Q I
    ⟨Z, B, r, m, sl, so, q.step fun wa m1 x H1 B1 l1 s1 r1 q1 => ⟨Z, B1, r, m1, sl.mono l1, s1, q1.step fun wb m2 y H2 B2 l2 s2 r2 q2 => ⟨Z, B2, m2, wa, wb, s2, r1.mono l2, r2, q2⟩⟩⟩⟩
theorem we_cmp {op : CmpOp} {g : W → W → Mu → R W} (ho : OpW X E (compareOp op) g) (ha : WE X E a fa) (hb : WE X E b fb) (hm : behindInMarks op b = false) : WE X E (.Compare a [op] [b] pos) (fBin g fa fb) :=
  ⟨fun pins s σ H Q I ⟨Z, B, r, m, sl, so, q⟩ => (pe_cmpR ho ha hb hm).run pins s σ H Q I
    ⟨Z, B, r, m, sl, so, q.step fun wa m1 x H1 B1 l1 s1 r1 q1 => ⟨Z, B1, r, m1, sl.mono l1, s1, q1.step fun wb m2 y H2 B2 l2 s2 r2 q2 => ⟨Z, B2, m2, wa, wb, s2, r1.mono l2, r2, q2⟩⟩⟩⟩
/-- a comparison of three -/
def fChain (g g' : W → W → Mu → R W) (fa fb fc : FE) : FE := fun r m => (fa r m).bind fun a m1 => (fb r m1).bind fun b m2 => (g a b m2).bind fun k m3 => match k with
  | .d (.bool true) => (fc r m3).bind fun c m4 => g' b c m4
  | .d (.bool false) => .ok (.d (.bool false)) m3
  | _ => .bad
theorem bl_inv {p : Pl} {H : Hp} {B : List Addr} {v : V} {k : Bool} (h : WV p H B v (.d (.bool k))) : v = .bl k := by
  cases h with
  | d h => cases h; rfl
theorem int_inv {p : Pl} {H : Hp} {B : List Addr} {v : V} {k : Int} (h : DV p H B v (.int k)) : v = .int k := by cases h; rfl
theorem str_inv {p : Pl} {H : Hp} {B : List Addr} {v : V} {k : Str} (h : DV p H B v (.str k)) : v = .str k := by cases h; rfl
theorem we_chain {op op' : CmpOp} {g g' : W → W → Mu → R W} (ho : OpW X E (compareOp op) g) (ho' : OpW X E (compareOp op') g') (ha : WE X E a fa) (hb : WE X E b fb) (hc : WE X E c fc)
    (hm : lastMarks [op, op'] [b, c] = false := by with_unfolding_all rfl) : WE X E (.Compare a [op, op'] [b, c] pos) (fChain g g' fa fb fc) :=
  ⟨fun pins s σ H Q I ⟨Z, B, r, m, sl, so, q⟩ => (pe_chain ho ho' ha hb hc hm).run pins s σ H Q I
    ⟨Z, B, r, m, sl, so, q.step fun wa m1 x H1 B1 l1 s1 r1 q1 => ⟨Z, B1, r, m1, sl.mono l1, s1, q1.step fun wb m2 y H2 B2 l2 s2 r2 q2 => ⟨Z, B2, m2, wa, wb, s2, r1.mono l2, r2, q2.step fun k m3 z H3 B3 l3 s3 r3 q3 => by
      split at q3
      · have e := bl_inv r3
        refine ⟨true, e, ?_⟩
        rw [if_pos rfl]
        exact ⟨Z, B3, r, m3, sl.mono (l1.trans (l2.trans l3)), s3, q3.step fun wc m4 y4 H4 B4 l4 s4 r4 q4 => ⟨Z, B4, m4, wb, wc, s4, r2.mono (l3.trans l4), r4, q4⟩⟩
      · have e := bl_inv r3
        refine ⟨false, e, ?_⟩
        rw [if_neg Bool.false_ne_true]
        exact Post.done q3 s3 (.d (.bl _))
      · exact q3.elim⟩⟩⟩⟩
/-- a value that is True or False, as a test -/
def fTb (f : FE) : FT := fun r m => (f r m).bind fun w m1 => match w with
  | .d (.bool k) => .ok k m1
  | _ => .bad
theorem wt_val {f : FE} (h : WE X E e f) (he : ∀ whole, isTrue e X.env whole = (do let v ← whole; standAt e.pos; holding [v] (truthy v)) := by intro _; rfl) : WT X E e (fTb f) :=
  ⟨fun pins s σ H Q I ⟨Z, B, r, m, sl, so, q⟩ => (pt_val h he).run pins s σ H Q I
    ⟨Z, B, r, m, sl, so, q.step fun w m1 x H1 B1 l1 s1 r1 q1 => by
      split at q1
      · exact ⟨_, bl_inv r1, Post.done q1 s1 rfl⟩
      · exact q1.elim⟩⟩
theorem wt_cmp {op : CmpOp} {g : W → W → Mu → R W} (ho : OpW X E (compareOp op) g) (ha : WE X E a fa) (hb : WE X E b fb) (hm : behindInMarks op b = false) : WT X E (.Compare a [op] [b] pos) (fTb (fBin g fa fb)) :=
  ⟨fun pins s σ H Q I ⟨Z, B, r, m, sl, so, q⟩ => (pt_cmpR ho ha hb hm).run pins s σ H Q I (by
    have q' : Post (RT (plX X Z)) (plX X Z) E B H ((fBin g fa fb r m).bind fun w m1 => match w with | .d (.bool k) => .ok k m1 | _ => .bad) Q := q
    unfold fBin at q'
    refine ⟨Z, B, r, m, sl, so, ?_⟩
    have asc : ∀ {α β γ : Type} (x : R α) (f : α → Mu → R β) (g : β → Mu → R γ), (x.bind f).bind g = x.bind fun a m => (f a m).bind g := fun x f g => by cases x <;> rfl
    rw [asc] at q'
    refine q'.step fun wa m1 x H1 B1 l1 s1 r1 q1 => ⟨Z, B1, r, m1, sl.mono l1, s1, ?_⟩
    rw [asc] at q1
    refine q1.step fun wb m2 y H2 B2 l2 s2 r2 q2 => ⟨Z, B2, m2, wa, wb, s2, r1.mono l2, r2, ?_⟩
    refine q2.step fun w m3 z H3 B3 l3 s3 r3 q3 => ?_
    split at q3
    · exact ⟨_, bl_inv r3, Post.done q3 s3 rfl⟩
    · exact q3.elim)⟩
end
end Wy
set_option Elab.async false
set_option linter.all false
set_option maxRecDepth 100000
set_option maxHeartbeats 4000000
/-! W3: operations on values. -/
namespace Wy
open PySem PySem.Spec PyProof.Rows L2
def on2 (m : Mu) (a b : W) (k : PyData → PyData → R W) : R W := match dr m a, dr m b with
  | some x, some y => k x y
  | _, _ => .bad
theorem OpW.data {X : Cx} {E : XK} {f : Value → Value → Sem Value} {g : Mu → PyData → PyData → R W}
    (h : ∀ (pins : List (Addr × Obj)) (s : Shared) (σ : Xs) (H : Hp) (x y : V) (v u : Value) (Q : VK) (Z B : List Addr) (m : Mu) (dx dy : PyData), Inv X pins σ H s → RelV x v → RelV y u → So (plX X Z) H B m →
      DV (plX X []) H [] x dx → DV (plX X []) H [] y dy → PostE (plX X Z) E B H (g m dx dy) Q → wpAny (model X.prog X.w) X.A (f v u) (EP X pins σ Q) X.xe s) : OpW X E f (fun a b m => on2 m a b (g m)) := by
  rintro pins s σ H x y v u Q I rx ry ⟨Z, B, m, a, b, so, ha, hb, q⟩
  replace q : PostE (plX X Z) E B H (match dr m a, dr m b with | some x, some y => g m x y | _, _ => .bad) Q := q
  split at q
  · rename_i dx dy e1 e2
    exact h pins s σ H x y v u Q Z B m dx dy I rx ry so (ha.dr so e1) (hb.dr so e2) q
  · exact q.elim
abbrev kInt (i : Int) (m : Mu) : R W := .ok (.d (.int i)) m
abbrev kBl (b : Bool) (m : Mu) : R W := .ok (.d (.bool b)) m
/-- what is new and will not be changed -/
theorem DV.top {p : Pl} {H : Hp} {B : List Addr} {q : Addr} {m : Mu} (so : So p H B m) (hq : H q = none) {xs : List V} {ds : List PyData} {ob : Obj} (hd : ob.dict = none) (h : DVs p H B xs ds) : DV p (upd H q (.frz ob (.tup xs))) B (.ref q) (.tuple ds) :=
  .tup (.inl ⟨so.out hq, ob, hd, upd_same⟩) (h.mono (le_laid hq))
theorem DV.topL {p : Pl} {H : Hp} {B : List Addr} {q : Addr} {m : Mu} (so : So p H B m) (hq : H q = none) {xs : List V} {ds : List PyData} (h : DVs p H B xs ds) : DV p (upd H q (.lst xs)) B (.ref q) (.list ds) :=
  .lst ⟨so.out hq, .inl upd_same⟩ (h.mono (le_laid hq))
/-! ### + - * ** // % -/
/-- data: as it may stand beside the store -/
def fix (m : Mu) : W → Option PyData
  | .d x => some x
  | .loc n => match m[n]? with
    | some (.lst ds) => some (.list ds)
    | _ => none
  | .wt _ => none
  | .di _ => none
  | .dv _ _ => none
/-- the items of a value that is read, as data that stays -/
theorem WV.items {p : Pl} {H : Hp} {B : List Addr} {m : Mu} {v : V} {w : W} {ds : List PyData} (h : WV p H B v w) (so : So p H B m) (e : fix m w = some (.list ds)) : ∃ a xs, v = .ref a ∧ Rd H a (.lst xs) ∧ DVs p H B xs ds := by
  cases h with
  | d h =>
    cases e
    cases h with
    | lst h r => exact ⟨_, _, rfl, h.2, r⟩
  | @loc n a h =>
    obtain ⟨o, ho, r⟩ := so.obj h
    have e1 : (match m[n]? with | some (.lst ds) => some (PyData.list ds) | _ => none) = some (.list ds) := e
    rw [ho] at e1
    cases o with
    | lst es =>
      cases e1
      obtain ⟨xs, h1, h2⟩ := r
      exact ⟨_, _, rfl, .inl h1, h2⟩
    | dct es => cases e1
    | dci _ => cases e1
    | dcv _ => cases e1
    | ins _ _ => cases e1
  | wt _ _ => cases e
  | di _ _ _ _ _ => cases e
  | dv _ _ _ _ _ _ _ => cases e
theorem WV.itemsT {p : Pl} {H : Hp} {B : List Addr} {m : Mu} {v : V} {w : W} {ds : List PyData} (h : WV p H B v w) (e : fix m w = some (.tuple ds)) : ∃ a xs, v = .ref a ∧ SqTK p H B a xs ∧ DVs p H B xs ds := by
  cases h with
  | d h =>
    cases e
    cases h with
    | tup h r => exact ⟨_, _, rfl, h, r⟩
  | @loc n a h =>
    have e1 : (match m[n]? with | some (.lst ds) => some (PyData.list ds) | _ => none) = some (.tuple ds) := e
    split at e1 <;> cases e1
  | wt _ _ => cases e
  | di _ _ _ _ _ => cases e
  | dv _ _ _ _ _ _ _ => cases e
theorem WV.flat {p : Pl} {H : Hp} {B : List Addr} {m : Mu} {v : V} {w : W} {x : PyData} (h : WV p H B v w) (e : fix m w = some x) (n1 : ∀ ds, x ≠ .list ds) : DV p H B v x := by
  cases h with
  | d h => cases e; exact h
  | @loc n a h =>
    have e1 : (match m[n]? with | some (.lst ds) => some (PyData.list ds) | _ => none) = some x := e
    split at e1
    · cases e1; exact absurd rfl (n1 _)
    · cases e1
  | wt _ _ => cases e
  | di _ _ _ _ _ => cases e
  | dv _ _ _ _ _ _ _ => cases e
def gAdd (a b : W) (m : Mu) : R W := match fix m a, fix m b with
  | some (.int i), some (.int j) => kInt (i + j) m
  | some (.str x), some (.str y) => if x.length + y.length ≤ 1000000 then .ok (.d (.str (x ++ y))) m else .bad
  | some (.tuple xs), some (.tuple ys) => if xs.length + ys.length ≤ 1000000 then .ok (.d (.tuple (xs ++ ys))) m else .bad
  | some (.list xs), some (.list ys) => if xs.length + ys.length ≤ 1000000 then .ok (.d (.list (xs ++ ys))) m else .bad
  | _, _ => .bad
theorem mil : (1000000 : Nat) ≤ sizeLine := by rw [sizeLine_eq]; decide
theorem Rd_raw {P : Program} {w : World} {H : Hp} {h : Heap} {a : Addr} {xs : List V} (r : Rd H a (.lst xs)) (x : HOk P w H h) : ∃ (its : List Value) (n : Nat), Vals xs its ∧ h.get? a = some { cls := .type "list", data := .seq its.toArray n } := by
  obtain ⟨_, its, n, v, e⟩ := r.ok x
  exact ⟨its, n, v, e⟩
section
variable {X : Cx}
/-- t + u, where a new tuple's object is known -/
def rCatK (K : PySem.W.Frag) : R2 := fun x y H Q => ∃ a b xs ys, x = .ref a ∧ y = .ref b ∧ SqT K H a xs ∧ SqT K H b ys ∧ xs.length + ys.length ≤ sizeLine ∧
  (xs = [] → Q (.ref b) H) ∧ (xs ≠ [] → ys = [] → Q (.ref a) H) ∧ (xs ≠ [] → ys ≠ [] → ∀ (o : Obj) (p : Addr), o.dict = none → H p = none → Q (.ref p) (upd H p (.frz o (.tup (xs ++ ys)))))
theorem op_catK : OpR X (binaryOp .Add) (rCatK X.K) := by
  rintro pins s σ H x y v u Q I rx ry ⟨a, b, xs, ys, rfl, rfl, ha, hb, hz, q0, q1, q2⟩
  cases rx
  cases ry
  obtain ⟨us, r1, p1, _⟩ := I.tuple ha
  obtain ⟨vs, r2, p2, _⟩ := I.tuple hb
  by_cases hx : xs = []
  · subst hx
    cases r1
    exact cat_tup0 p1 p2 ⟨.ref b, H, I, rfl, q0 rfl⟩
  · have ne : us ≠ [] := fun z => hx (r1.nil_iff.mp z)
    have l3 : us.length + vs.length ≤ sizeLine := by rw [← r1.length, ← r2.length]; exact hz
    refine HT.cat_tup p1 p2 ne (fun z => ⟨.ref a, H, I, rfl, q1 hx (r2.nil_iff.mp z)⟩) (fun z => ?_) l3
    have here := Heap.get?_push_size s.heap (o := { cls := .type "tuple", data := .seq (us ++ vs).toArray }) rfl
    have l4 : (xs ++ ys).length ≤ sizeLine := by rw [List.length_append]; exact hz
    exact ⟨.ref s.heap.objs.size, _, I.laid (t' := s.toks) (o := .frz _ (.tup (xs ++ ys))) (fun b ob q => Heap.get?_push_of_some _ q) (Nat.le_refl _) ⟨here, l4, _, r1.append r2, _, here, rfl, _, rfl⟩, rfl, q2 hx (fun w => z (r2.nil_iff.mpr w)) _ _ rfl (I.hok.fresh (Nat.le_refl _))⟩
end
section
variable {X : Cx} {E : XK}
theorem ow_add : OpW X E (binaryOp .Add) gAdd := by
  rintro pins s σ H x y v u Q I rx ry ⟨Z, B, m, a, b, so, ha, hb, q⟩
  unfold gAdd at q
  split at q
  · rename_i i j e1 e2
    have h1 := int_inv (ha.flat e1 fun _ z => nomatch z)
    have h2 := int_inv (hb.flat e2 fun _ z => nomatch z)
    exact op_add pins s σ H x y v u Q I rx ry ⟨i, j, h1, h2, Post.done q so (.d (.int _))⟩
  · rename_i i j e1 e2
    have h1 := str_inv (ha.flat e1 fun _ z => nomatch z)
    have h2 := str_inv (hb.flat e2 fun _ z => nomatch z)
    split at q
    · rename_i z
      exact op_add_str pins s σ H x y v u Q I rx ry ⟨i, j, h1, h2, Nat.le_trans z mil, Post.done q so (.d (.str _))⟩
    · exact q.elim
  · rename_i i j e1 e2
    obtain ⟨p1, xs, rfl, s1, d1⟩ := ha.itemsT e1
    obtain ⟨p2, ys, rfl, s2, d2⟩ := hb.itemsT e2
    split at q
    · rename_i z
      refine op_catK pins s σ H _ _ v u Q I rx ry ⟨p1, p2, xs, ys, rfl, rfl, s1.sq, s2.sq, by rw [d1.length, d2.length]; exact Nat.le_trans z mil, fun e => ?_, fun _ e => ?_, fun _ _ ob t hd ht => Post.fresh q so ht (.d (DV.top so ht hd (d1.append d2)))⟩
      · subst e
        cases d1
        exact Post.done q so (.d (.tup s2 d2))
      · subst e
        cases d2
        rw [List.append_nil] at q
        exact Post.done q so (.d (.tup s1 d1))
    · exact q.elim
  · rename_i i j e1 e2
    obtain ⟨p1, xs, rfl, s1, d1⟩ := ha.items so e1
    obtain ⟨p2, ys, rfl, s2, d2⟩ := hb.items so e2
    split at q
    · rename_i z
      cases rx
      cases ry
      obtain ⟨its, n, r1, g1⟩ := Rd_raw s1 I.hok
      obtain ⟨its2, n2, r2, g2⟩ := Rd_raw s2 I.hok
      have z1 := r1.length
      have z2 := r2.length
      have z3 := d1.length
      have z4 := d2.length
      have zz := mil
      refine PySem.P.add_list g1 g2 ?_ (by rw [List.size_toArray, List.size_toArray]; omega)
      have ea : its.toArray ++ its2.toArray = (its ++ its2).toArray := by simp
      rw [ea]
      exact ⟨.ref _, _, I.lnew (t' := s.toks) (r1.append r2) (by rw [List.length_append]; omega), rfl, Post.fresh q so I.fresh (.d (DV.topL so I.fresh (d1.append d2)))⟩
    · exact q.elim
  · exact q.elim
/-- an operation on two ints -/
def gI (C : Int → Int → Bool) (g : Int → Int → PyData) (a b : W) (m : Mu) : R W := match a, b with
  | .d (.int i), .d (.int j) => if C i j = true then .ok (.d (g i j)) m else .bad
  | _, _ => .bad
theorem ow_I {f : Value → Value → Sem Value} {C : Int → Int → Bool} {g : Int → Int → Int} {C' : Int → Int → Prop} (h : OpR X f (rI C' fun i j => .int (g i j))) (c : ∀ i j, C i j = true → C' i j) : OpW X E f (gI C fun i j => .int (g i j)) := by
  refine OpW.of h fun Z B m a b H x y Q so ha hb q => ?_
  unfold gI at q
  split at q
  · rename_i i j
    split at q
    · rename_i z
      cases ha with
      | d ha => cases hb with
        | d hb => exact ⟨i, j, int_inv ha, int_inv hb, c i j z, Post.done q so (.d (.int _))⟩
    · exact q.elim
  · exact q.elim
def cT : Int → Int → Bool := fun _ _ => true
def gSub : W → W → Mu → R W := gI cT fun i j => .int (i - j)
theorem ow_sub : OpW X E (binaryOp .Sub) gSub := ow_I (C' := fun _ _ => True) (fun pins s σ H x y v u Q I rx ry ⟨i, j, a, b, _, q⟩ => op_sub pins s σ H x y v u Q I rx ry ⟨i, j, a, b, q⟩) fun _ _ _ => trivial
def cMul (i j : Int) : Bool := decide (-(2 ^ 64) < i ∧ i < 2 ^ 64) || decide (-(2 ^ 64) < j ∧ j < 2 ^ 64)
def gMulI : W → W → Mu → R W := gI cMul fun i j => .int (i * j)
theorem ow_mulI : OpW X E (binaryOp .Mult) gMulI := ow_I op_mul fun i j h => by
  unfold cMul at h
  rw [Bool.or_eq_true] at h
  rcases h with h | h
  · exact .inl (of_decide_eq_true h)
  · exact .inr (of_decide_eq_true h)
def cPow (i j : Int) : Bool := decide (0 ≤ j ∧ j ≤ 1000000 ∧ i.natAbs < 2 ^ 64)
def gPow : W → W → Mu → R W := gI cPow fun i j => .int (i ^ j.toNat)
theorem ow_pow : OpW X E (binaryOp .Pow) gPow := ow_I op_pow fun i j h => (of_decide_eq_true h : 0 ≤ j ∧ j ≤ 1000000 ∧ i.natAbs < 2 ^ 64)
def cDiv (_ j : Int) : Bool := decide (0 < j ∧ j < 1073741824)
def gFdiv : W → W → Mu → R W := gI cDiv fun i j => .int (i / j)
theorem ow_fdiv : OpW X E (binaryOp .FloorDiv) gFdiv := ow_I op_fdiv fun i j h => (of_decide_eq_true h : 0 < j ∧ j < 1073741824)
def cMod (_ j : Int) : Bool := decide (0 < j)
def gMod : W → W → Mu → R W := gI cMod fun i j => .int (i % j)
theorem ow_mod : OpW X E (binaryOp .Mod) gMod := ow_I op_mod fun i j h => of_decide_eq_true h
/-! ### < <= > >= == != -/
open PySem.W (alike dataLt)
def ltOk (x y : PyData) : Bool := alike x y && (match x with | .none => false | _ => true) && x.canLay0 && y.canLay0 && decide (x.depth ≤ 64)
theorem ltOk_of {x y : PyData} (h : ltOk x y = true) : alike x y = true ∧ x ≠ .none ∧ x.canLay0 = true ∧ y.canLay0 = true ∧ x.depth ≤ 64 := by
  unfold ltOk at h
  simp only [Bool.and_eq_true, decide_eq_true_eq] at h
  obtain ⟨⟨⟨⟨h1, h2⟩, h3⟩, h4⟩, h5⟩ := h
  exact ⟨h1, (by intro e; subst e; simp at h2), h3, h4, h5⟩
def pLt (x y : PyData) : Bool := match x, y with
  | .int i, .int j => decide (i < j)
  | x, y => dataLt x y
def okLt (x y : PyData) : Bool := match x, y with
  | .int _, .int _ => true
  | x, y => ltOk x y
/-- an order by a comparison c of data -/
def gO (c : PyData → PyData → Bool) (a b : W) (m : Mu) : R W := on2 m a b fun x y => if okLt x y = true then kBl (c x y) m else .bad
def cLt : PyData → PyData → Bool := pLt
def cGt : PyData → PyData → Bool := fun x y => pLt y x
def cLe : PyData → PyData → Bool := fun x y => !pLt y x
def cGe : PyData → PyData → Bool := fun x y => !pLt x y
theorem ow_O {op : CmpOp} {c : PyData → PyData → Bool} {ci : Int → Int → Bool} (hi : OpR X (compareOp op) (rI0 fun i j => .bl (ci i j))) (ei : ∀ i j, c (.int i) (.int j) = ci i j)
    (hd : ∀ {s : Shared} {a b : Value} {da db : PyData} {as bs : List Addr} {Q : Value → Shared → Prop}, Reads s.heap a da as → Reads s.heap b db bs → alike da db = true → da ≠ .none → X.A.units + min da.depth db.depth < cLine → (∀ i j, ¬ (da = .int i ∧ db = .int j)) → Q (.bool (c da db)) s →
      wpAny (model X.prog X.w) X.A (compareOp op a b) Q X.xe s) (hu : X.A.units + 64 < cLine) : OpW X E (compareOp op) (gO c) := by
  refine OpW.data fun pins s σ H x y v u Q Z B m dx dy I rx ry so hx hy q => ?_
  split at q
  · rename_i z
    by_cases ii : ∃ i j, dx = .int i ∧ dy = .int j
    · obtain ⟨i, j, rfl, rfl⟩ := ii
      exact hi pins s σ H x y v u Q I rx ry ⟨i, j, int_inv hx, int_inv hy, by show Q (V.bl (ci i j)) H; rw [← ei]; exact Post.done q so (.d (.bl _))⟩
    · have z' : ltOk dx dy = true := by
        unfold okLt at z
        split at z
        · exact absurd ⟨_, _, rfl, rfl⟩ ii
        · exact z
      obtain ⟨z1, z2, z3, z4, z5⟩ := ltOk_of z'
      obtain ⟨as, r1⟩ := Dp.reads I dx x v (hx.dp z3) rx
      obtain ⟨bs, r2⟩ := Dp.reads I dy y u (hy.dp z4) ry
      refine hd r1 r2 z1 z2 (by omega) (fun i j e => ii ⟨i, j, e⟩) ⟨.bl _, H, I, rfl, Post.done q so (.d (.bl _))⟩
  · exact q.elim
theorem pLt_data {x y : PyData} (h : ∀ i j, ¬ (x = .int i ∧ y = .int j)) : pLt x y = dataLt x y := by
  unfold pLt
  split
  · exact absurd ⟨rfl, rfl⟩ (h _ _)
  · rfl
theorem not_lt_dec (i j : Int) : (!decide (j < i)) = decide (i ≤ j) := by
  by_cases h : j < i
  · rw [decide_eq_true h, decide_eq_false (by omega)]; rfl
  · rw [decide_eq_false h, decide_eq_true (by omega)]; rfl
theorem ow_lt (hu : X.A.units + 64 < cLine) : OpW X E (compareOp .Lt) (gO cLt) := ow_O op_lt (fun _ _ => rfl) (fun r1 r2 h n u ni q => PySem.W.lt_data r1 r2 h n u (by rw [← pLt_data ni]; exact q)) hu
theorem ow_gt (hu : X.A.units + 64 < cLine) : OpW X E (compareOp .Gt) (gO cGt) := ow_O op_gt (fun _ _ => rfl) (fun r1 r2 h n u ni q => PySem.W.gt_data r1 r2 h n u (by rw [← pLt_data fun i j e => ni j i ⟨e.2, e.1⟩]; exact q)) hu
theorem ow_le (hu : X.A.units + 64 < cLine) : OpW X E (compareOp .LtE) (gO cLe) := ow_O op_le (fun i j => not_lt_dec i j) (fun r1 r2 h n u ni q => PySem.W.le_data r1 r2 h n u (by rw [← pLt_data fun i j e => ni j i ⟨e.2, e.1⟩]; exact q)) hu
theorem ow_ge (hu : X.A.units + 64 < cLine) : OpW X E (compareOp .GtE) (gO cGe) := ow_O op_ge (fun i j => not_lt_dec j i) (fun r1 r2 h n u ni q => PySem.W.ge_data r1 r2 h n u (by rw [← pLt_data ni]; exact q)) hu
def okEq (x y : PyData) : Bool := SeqAt.shaped x && SeqAt.shaped y
def gEq (a b : W) (m : Mu) : R W := on2 m a b fun x y => if okEq x y = true then kBl (PyData.eqv x y) m else .bad
def gNe (a b : W) (m : Mu) : R W := on2 m a b fun x y => if okEq x y = true then kBl (!PyData.eqv x y) m else .bad
theorem okEq_of {x y : PyData} (h : okEq x y = true) : SeqAt.shaped x = true ∧ SeqAt.shaped y = true := Bool.and_eq_true_iff.mp h
theorem ow_eq (hu : X.A.units + 64 < cLine) : OpW X E (compareOp .Eq) gEq := by
  refine OpW.data fun pins s σ H x y v u Q Z B m dx dy I rx ry so hx hy q => ?_
  split at q
  · rename_i z
    obtain ⟨z1, z2⟩ := okEq_of z
    exact op_eqD hu pins s σ H x y v u Q I rx ry ⟨dx, dy, hx.dp (SeqAt.canLay_of_shaped z1), hy.dp (SeqAt.canLay_of_shaped z2), z1, z2, Post.done q so (.d (.bl _))⟩
  · exact q.elim
theorem ow_ne (hu : X.A.units + 64 < cLine) : OpW X E (compareOp .NotEq) gNe := by
  refine OpW.data fun pins s σ H x y v u Q Z B m dx dy I rx ry so hx hy q => ?_
  split at q
  · rename_i z
    obtain ⟨z1, z2⟩ := okEq_of z
    exact op_neD hu pins s σ H x y v u Q I rx ry ⟨dx, dy, hx.dp (SeqAt.canLay_of_shaped z1), hy.dp (SeqAt.canLay_of_shaped z2), z1, z2, Post.done q so (.d (.bl _))⟩
  · exact q.elim
/-- is None -/
def isNon : W → Bool
  | .d .none => true
  | _ => false
theorem isNon_of {p : Pl} {H : Hp} {B : List Addr} {v : V} {w : W} (h : WV p H B v w) : decide (v = .non) = isNon w := by
  cases h with
  | d h => cases h <;> rfl
  | loc h => rfl
  | wt h r => rfl
  | di h r k s z => rfl
  | dv h r k x s z n => rfl
def fIsN (f : FE) : FE := fun r m => (f r m).bind fun w m1 => kBl (isNon w) m1
def fNotN (f : FE) : FE := fun r m => (f r m).bind fun w m1 => kBl (!isNon w) m1
end
end Wy
set_option Elab.async false
set_option linter.all false
set_option maxRecDepth 100000
set_option maxHeartbeats 4000000
/-! W4: tests, truth, in, dicts with tuple keys, items, slices. -/
namespace Wy
open PySem PySem.Spec PyProof.Rows L2
/-! ### and, or, not, if -/
section
variable {X : Cx} {E : XK} {e a b c : Expr} {es rest : List Expr} {fa fb fc : FE} {ta tb tc : FT} {pos : Pos}
def fAndT (ta tb : FT) : FT := fun r m => (ta r m).bind fun k m1 => if k = true then tb r m1 else .ok false m1
def fOrT (ta tb : FT) : FT := fun r m => (ta r m).bind fun k m1 => if k = true then .ok true m1 else tb r m1
def fNotT (ta : FT) : FT := fun r m => (ta r m).bind fun k m1 => .ok (!k) m1
/-- a test by and, or: whatever the whole is -/
def WW (X : Cx) (E : XK) (e : Expr) (f : FT) : Prop := PW X e (rd RT X E f)
theorem WW.t {f : FT} (h : WW X E e f) : WT X E e f := PW.pt h
theorem ww_and1 (h : WT X E a ta) : WW X E (.BoolOp .And [a] pos) ta := pw_and1 h
theorem ww_or1 (h : WT X E a ta) : WW X E (.BoolOp .Or [a] pos) ta := pw_or1 h
theorem ww_and (ha : WT X E a ta) (hb : WW X E (.BoolOp .And (b :: rest) pos) tb) : WW X E (.BoolOp .And (a :: b :: rest) pos) (fAndT ta tb) :=
  ⟨fun wh pins s σ H Q I ⟨Z, B, r, m, sl, so, q⟩ => (pw_and ha hb).run wh pins s σ H Q I
    ⟨Z, B, r, m, sl, so, q.step fun k m1 x H1 B1 l1 s1 r1 q1 => by
      cases r1
      cases k with
      | true => exact iteT ⟨Z, B1, r, m1, sl.mono l1, s1, q1⟩
      | false => exact iteF (Post.done (RelG := RT (plX X Z)) q1 s1 rfl)⟩⟩
theorem ww_or (ha : WT X E a ta) (hb : WW X E (.BoolOp .Or (b :: rest) pos) tb) : WW X E (.BoolOp .Or (a :: b :: rest) pos) (fOrT ta tb) :=
  ⟨fun wh pins s σ H Q I ⟨Z, B, r, m, sl, so, q⟩ => (pw_or ha hb).run wh pins s σ H Q I
    ⟨Z, B, r, m, sl, so, q.step fun k m1 x H1 B1 l1 s1 r1 q1 => by
      cases r1
      cases k with
      | true => exact iteT (Post.done (RelG := RT (plX X Z)) q1 s1 rfl)
      | false => exact iteF ⟨Z, B1, r, m1, sl.mono l1, s1, q1⟩⟩⟩
theorem wt_not (ha : WT X E a ta) : WT X E (.UnaryOp .Not a pos) (fNotT ta) :=
  ⟨fun pins s σ H Q I ⟨Z, B, r, m, sl, so, q⟩ => (pt_not ha).run pins s σ H Q I
    ⟨Z, B, r, m, sl, so, q.step fun k m1 x H1 B1 l1 s1 r1 q1 => by cases r1; exact Post.done (RelG := RT (plX X Z)) q1 s1 rfl⟩⟩
/-- .. as values -/
def fAndV (fa fb : FE) : FE := fun r m => (fa r m).bind fun w m1 => match w with
  | .d (.bool true) => fb r m1
  | .d (.bool false) => .ok (.d (.bool false)) m1
  | _ => .bad
def fOrV (fa fb : FE) : FE := fun r m => (fa r m).bind fun w m1 => match w with
  | .d (.bool true) => .ok (.d (.bool true)) m1
  | .d (.bool false) => fb r m1
  | _ => .bad
def fNotV (fa : FE) : FE := fun r m => (fa r m).bind fun w m1 => match w with
  | .d (.bool k) => .ok (.d (.bool (!k))) m1
  | _ => .bad
theorem we_one {op} (h : WE X E a fa) : WE X E (.BoolOp op [a] pos) fa := pe_one h
theorem we_and (ha : WE X E a fa) (hb : WE X E (.BoolOp .And (b :: rest) pos) fb) : WE X E (.BoolOp .And (a :: b :: rest) pos) (fAndV fa fb) :=
  ⟨fun pins s σ H Q I ⟨Z, B, r, m, sl, so, q⟩ => (pe_and ha hb).run pins s σ H Q I
    ⟨Z, B, r, m, sl, so, q.step fun k m1 x H1 B1 l1 s1 r1 q1 => by
      split at q1
      · exact ⟨true, bl_inv r1, iteT ⟨Z, B1, r, m1, sl.mono l1, s1, q1⟩⟩
      · exact ⟨false, bl_inv r1, iteF (Post.done (RelG := RE (plX X Z)) q1 s1 (.d (.bl _)))⟩
      · exact q1.elim⟩⟩
theorem we_not (ha : WE X E a fa) : WE X E (.UnaryOp .Not a pos) (fNotV fa) :=
  ⟨fun pins s σ H Q I ⟨Z, B, r, m, sl, so, q⟩ => (pe_not ha).run pins s σ H Q I
    ⟨Z, B, r, m, sl, so, q.step fun k m1 x H1 B1 l1 s1 r1 q1 => by
      split at q1
      · exact ⟨_, bl_inv r1, Post.done (RelG := RE (plX X Z)) q1 s1 (.d (.bl _))⟩
      · exact q1.elim⟩⟩
def fIf (tc : FT) (fa fb : FE) : FE := fun r m => (tc r m).bind fun k m1 => if k = true then fa r m1 else fb r m1
theorem we_if (hc : WT X E c tc) (ha : WE X E a fa) (hb : WE X E b fb) : WE X E (.IfExp c a b pos) (fIf tc fa fb) :=
  ⟨fun pins s σ H Q I ⟨Z, B, r, m, sl, so, q⟩ => (pe_ifExp hc ha hb).run pins s σ H Q I
    ⟨Z, B, r, m, sl, so, q.step fun k m1 x H1 B1 l1 s1 r1 q1 => by
      cases r1
      cases k with
      | true => exact iteT ⟨Z, B1, r, m1, sl.mono l1, s1, q1⟩
      | false => exact iteF ⟨Z, B1, r, m1, sl.mono l1, s1, q1⟩⟩⟩
end
/-! ### keys -/
section
variable {X : Cx} {pins : List (Addr × Obj)} {σ : Xs} {H : Hp} {s : Shared} {B Z : List Addr}
mutual
theorem key_rel (I : Inv X pins σ H s) : ∀ {v : V} {x : PyData} {u : Value}, DV (plX X Z) H B v x → keyable x = true → RelV v u → NestedIs s.heap (keyOf x) u
  | _, _, _, .non, _, r => by cases r; exact .none
  | _, _, _, .bl b, _, r => by cases r; exact .bool rfl
  | _, _, _, .int i, _, r => by obtain ⟨t, rfl⟩ := r; exact .int i t
  | _, _, _, .str x, _, r => by obtain ⟨t, rfl⟩ := r; exact .text x t
  | _, _, _, .lst _ _, k, _ => by simp [keyable] at k
  | _, _, _, .tup h d, k, r => by
    cases r
    obtain ⟨its, rv, ⟨o, e1, e2, n, e3⟩, _⟩ := I.tuple h.sq
    exact .tup e1 e2 e3 (keys_rel I d (by simpa [keyable] using k) (by simpa using rv))
  | _, _, _, .dct _ _ _ _ _ _, k, _ => by simp [keyable] at k
theorem keys_rel (I : Inv X pins σ H s) : ∀ {v : List V} {x : List PyData} {u : List Value}, DVs (plX X Z) H B v x → keyables x = true → Vals v u → NestedAll s.heap (keysOf x) u
  | _, _, _, .nil, _, .nil => .nil
  | _, _, _, .cons h d, k, .cons r t => by
    have k' := Bool.and_eq_true_iff.mp (by simpa [keyables] using k)
    exact .cons (key_rel I h k'.1 r) (keys_rel I d k'.2 t)
end
abbrev knX (X : Cx) : HeapKind X.prog X.w NestedKey := nestedKind X.prog X.w
/-- a tuple that may be a key -/
def okKey (k : PyData) : Bool := keyable k && decide ((keyOf k).depth ≤ 8) && (match k with | .tuple _ => true | _ => false)
theorem key_is (I : Inv X pins σ H s) {v : V} {k : PyData} {u : Value} (h : DV (plX X Z) H B v k) (o : okKey k = true) (r : RelV v u) : ∃ a, u = .ref a ∧ v = .ref a ∧ (knX X).is s.heap (keyOf k) a := by
  unfold okKey at o
  simp only [Bool.and_eq_true, decide_eq_true_eq] at o
  obtain ⟨⟨o1, o2⟩, o3⟩ := o
  cases h with
  | tup h d =>
    rename_i a xs ds
    have n := key_rel I (.tup h d) o1 r
    cases r
    exact ⟨a, rfl, rfl, n, o2⟩
  | _ => cases o3
def dhas (es : List (PyData × PyData)) (k : PyData) : Bool := es.any fun p => decide (keyOf p.1 = keyOf k)
def dget (es : List (PyData × PyData)) (k : PyData) : Option PyData := (es.find? fun p => decide (keyOf p.1 = keyOf k)).map (·.2)
def dput (es : List (PyData × PyData)) (k v : PyData) : List (PyData × PyData) := if dhas es k = true then es.map fun p => if keyOf p.1 = keyOf k then (p.1, v) else p else es ++ [(k, v)]
abbrev R3 : NestedKey × Addr × V → NestedKey × Addr × Value → Prop := fun p q => p.1 = q.1 ∧ p.2.1 = q.2.1 ∧ RelV p.2.2 q.2.2
theorem ents_of {P : Program} {w : World} : ∀ {kvs : List (NestedKey × Addr × V)} {es : List DictEntry}, Paired (fun (p : NestedKey × Addr × V) (e : DictEntry) => e.hash = (nestedKind P w).hash p.1 ∧ e.key = .ref p.2.1 ∧ RelV p.2.2 e.val) kvs es →
    ∃ xs : List (NestedKey × Addr × Value), es = xs.map (entryOfKey (nestedKind P w)) ∧ Paired R3 kvs xs
  | _, _, .nil => ⟨[], rfl, .nil⟩
  | (k, a, v) :: _, e :: _, .cons h t => by
    obtain ⟨xs, e1, p⟩ := ents_of t
    refine ⟨(k, a, e.val) :: xs, ?_, .cons ⟨rfl, rfl, h.2.2⟩ p⟩
    rw [List.map_cons, ← e1]
    obtain ⟨h1, h2, _⟩ := h
    cases e
    simp only at h1 h2
    subst h1 h2
    rfl
theorem ents_to {P : Program} {w : World} : ∀ {kvs : List (NestedKey × Addr × V)} {xs : List (NestedKey × Addr × Value)}, Paired R3 kvs xs → Paired (fun (p : NestedKey × Addr × V) (e : DictEntry) => e.hash = (nestedKind P w).hash p.1 ∧ e.key = .ref p.2.1 ∧ RelV p.2.2 e.val) kvs (xs.map (entryOfKey (nestedKind P w)))
  | _, _, .nil => .nil
  | (k, a, v) :: _, (k', a', v') :: _, .cons h t => by
    obtain ⟨h1, h2, h3⟩ := h
    simp only at h1 h2 h3
    subst h1 h2
    exact .cons ⟨rfl, rfl, h3⟩ (ents_to t)
theorem r3_keys : ∀ {kvs : List (NestedKey × Addr × V)} {xs : List (NestedKey × Addr × Value)}, Paired R3 kvs xs → kvs.map (·.1) = xs.map (·.1)
  | _, _, .nil => rfl
  | _, _, .cons h t => by rw [List.map_cons, List.map_cons, h.1, r3_keys t]
theorem dk_is (I : Inv X pins σ H s) : ∀ {kvs : List (NestedKey × Addr × V)} {es : List (PyData × PyData)} {xs : List (NestedKey × Addr × Value)}, DVk (plX X Z) H B kvs es → Paired R3 kvs xs → ∀ x ∈ xs, (knX X).is s.heap x.1 x.2.1
  | _, _, _, .nil, .nil => fun _ h => by cases h
  | _, _, _, .cons e k z a v t, .cons h p => fun x hx => by
    rcases List.mem_cons.mp hx with q | q
    · subst q
      obtain ⟨h1, h2, _⟩ := h
      simp only at h1 h2
      rw [← h1, ← h2]
      rw [e] at z ⊢
      exact ⟨key_rel I a k rfl, z⟩
    · exact dk_is I t p x q
/-- the dict that is tracked, as the library has it -/
theorem dict_at (I : Inv X pins σ H s) {a : Addr} {o : Obj} {kvs : List (NestedKey × Addr × V)} {es : List (PyData × PyData)} (h : Rd H a (dcT X.prog X.w a o kvs)) (d : DVk (plX X Z) H B kvs es) (nd : (kvs.map (·.1)).Nodup) :
    ∃ xs, s.heap.DictOfH (knX X) a xs ∧ Paired R3 kvs xs := by
  obtain ⟨⟨en, ep, e1, e2, e3, pr⟩, _⟩ := (show ObjOk X.prog X.w H s.heap a (dcT X.prog X.w a o kvs) from h.ok I.hok)
  obtain ⟨xs, x1, x2⟩ := ents_of pr
  exact ⟨xs, ⟨o, en, ep, e1, e2, e3, x1, dk_is I d x2, by rw [← r3_keys x2]; exact nd⟩, x2⟩
theorem dk_has : ∀ {p : Pl} {kvs : List (NestedKey × Addr × V)} {es : List (PyData × PyData)} {xs : List (NestedKey × Addr × Value)} {k : PyData}, DVk p H B kvs es → Paired R3 kvs xs → (atKey xs (keyOf k)).isSome = dhas es k
  | _, _, _, _, _, .nil, .nil => rfl
  | _, _, _, (k', a', v') :: _, k, .cons (kd := kd) e _ _ _ _ t, .cons h p => by
    have ih := dk_has (k := k) t p
    obtain ⟨h1, _⟩ := h
    simp only at h1
    subst h1 e
    unfold atKey dhas at *
    rw [List.find?_cons, List.any_cons]
    by_cases q : keyOf kd = keyOf k
    · simp [q]
    · simp only [q, decide_false, Bool.false_or]
      exact ih
theorem dk_get : ∀ {p : Pl} {kvs : List (NestedKey × Addr × V)} {es : List (PyData × PyData)} {xs : List (NestedKey × Addr × Value)} {k vd : PyData}, DVk p H B kvs es → Paired R3 kvs xs → dget es k = some vd → ∃ a u v, atKey xs (keyOf k) = some (a, u) ∧ RelV v u ∧ DV p H B v vd
  | _, _, _, _, _, _, .nil, .nil => fun h => by cases h
  | _, _, _, (k', a', v') :: _, k, vd, .cons (kd := kd) (v := v) e _ _ _ dv t, .cons h p => fun g => by
    obtain ⟨h1, _, h3⟩ := h
    simp only at h1 h3
    subst h1 e
    unfold atKey dget at *
    rw [List.find?_cons] at g ⊢
    by_cases q : keyOf kd = keyOf k
    · simp only [q, decide_true, Option.map_some, Option.some.injEq] at g ⊢
      subst g
      exact ⟨a', v', v, rfl, h3, dv⟩
    · simp only [q, decide_false] at g ⊢
      exact dk_get (xs := _) t p g
end
/-! ### in, not in -/
/-- where x is looked for in c -/
def pIn (x c : PyData) : Option Bool := match c with
  | .list ds => if (SeqAt.shaped x && SeqAt.shaped (.list ds)) = true then some (ds.any fun z => PyData.eqv z x) else none
  | .tuple ds => if (SeqAt.shaped x && SeqAt.shaped (.tuple ds)) = true then some (ds.any fun z => PyData.eqv z x) else none
  | .dict es => if okKey x = true then some (dhas es x) else none
  | .str z => match x with
    | .str y => some (!(Builtin.Str.occurrences z y 0 z.length 1).isEmpty)
    | _ => none
  | _ => none
def gIn (a b : W) (m : Mu) : R W := on2 m a b fun x c => match pIn x c with
  | some k => kBl k m
  | none => .bad
def gNotIn (a b : W) (m : Mu) : R W := on2 m a b fun x c => match pIn x c with
  | some k => kBl (!k) m
  | none => .bad
theorem room65 {A : Around} {x : PyData} (h : SeqAt.shaped x = true) (hu : A.units + 65 < cLine) : A.in1.units + x.depth < cLine := by
  have h1 := SeqAt.depth_of_shaped h
  show A.units + 1 + x.depth < cLine
  omega
theorem rmin {A : Around} {n k : Nat} (h : A.in1.units + k < cLine) : A.units + 1 + min n k < cLine := by
  have h' : A.units + 1 + k < cLine := h
  omega
section
variable {X : Cx} {E : XK}
theorem ow_inG {op : CmpOp} {f : Bool → Bool} (hl : ∀ {s : Shared} {c x : Value} {xs : List PyData} {d : PyData} {as bs : List Addr} {Q : Value → Shared → Prop}, Reads s.heap c (.list xs) as → Reads s.heap x d bs → PyData.canLayAll0 xs = true → d.canLay0 = true → X.A.in1.units + d.depth < cLine → Q (.bool (f (xs.any fun z => PyData.eqv z d))) s → wpAny (model X.prog X.w) X.A (compareOp op x c) Q X.xe s)
    (ht : ∀ {s : Shared} {c x : Value} {xs : List PyData} {d : PyData} {as bs : List Addr} {Q : Value → Shared → Prop}, Reads s.heap c (.tuple xs) as → Reads s.heap x d bs → PyData.canLayAll0 xs = true → d.canLay0 = true → X.A.in1.units + d.depth < cLine → Q (.bool (f (xs.any fun z => PyData.eqv z d))) s → wpAny (model X.prog X.w) X.A (compareOp op x c) Q X.xe s)
    (hd : ∀ {s : Shared} {d a : Addr} {k : NestedKey} {xs : List (NestedKey × Addr × Value)} {Q : Value → Shared → Prop}, (knX X).is s.heap k a → (d == sysModules) = false → s.heap.DictOfH (knX X) d xs → Q (.bool (f (atKey xs k).isSome)) { s with toks := s.toks + (knX X).draws k } → wpAny (model X.prog X.w) X.A (compareOp op (.ref a) (.ref d)) Q X.xe s)
    (hs : OpR X (compareOp op) (fun x y H Q => ∃ i j, x = .str i ∧ y = .str j ∧ Q (.bl (f (!(Builtin.Str.occurrences j i 0 j.length 1).isEmpty))) H)) (hu : X.A.units + 65 < cLine) :
    OpW X E (compareOp op) (fun a b m => on2 m a b fun x c => match pIn x c with | some k => kBl (f k) m | none => .bad) := by
  refine OpW.data fun pins s σ H x y v u Q Z B m dx dy I rx ry so hx hy q => ?_
  cases e : pIn dx dy with
  | none => rw [e] at q; exact q.elim
  | some k =>
    rw [e] at q
    unfold pIn at e
    split at e
    · rename_i ds
      split at e
      · rename_i z
        cases e
        obtain ⟨z1, z2⟩ := Bool.and_eq_true_iff.mp z
        obtain ⟨as, r1⟩ := Dp.reads I dx x v (hx.dp (SeqAt.canLay_of_shaped z1)) rx
        obtain ⟨bs, r2⟩ := Dp.reads I (.list ds) y u (hy.dp (SeqAt.canLay_of_shaped z2)) ry
        exact hl r2 r1 (SeqAt.canLay_of_shaped z2) (SeqAt.canLay_of_shaped z1) (room65 z1 hu) ⟨.bl _, H, I, rfl, Post.done q so (.d (.bl _))⟩
      · cases e
    · rename_i ds
      split at e
      · rename_i z
        cases e
        obtain ⟨z1, z2⟩ := Bool.and_eq_true_iff.mp z
        obtain ⟨as, r1⟩ := Dp.reads I dx x v (hx.dp (SeqAt.canLay_of_shaped z1)) rx
        obtain ⟨bs, r2⟩ := Dp.reads I (.tuple ds) y u (hy.dp (SeqAt.canLay_of_shaped z2)) ry
        exact ht r2 r1 (SeqAt.canLay_of_shaped z2) (SeqAt.canLay_of_shaped z1) (room65 z1 hu) ⟨.bl _, H, I, rfl, Post.done q so (.d (.bl _))⟩
      · cases e
    · rename_i es
      split at e
      · rename_i z
        cases e
        obtain ⟨a, rfl, rfl, ki⟩ := key_is I hx z rx
        cases hy with
        | dct h1 h2 h3 h4 h5 h6 =>
          cases ry
          obtain ⟨xs, d1, d2⟩ := dict_at I h2 h3 h6
          refine hd ki h4 d1 ⟨.bl _, H, I.tok _, rfl, ?_⟩
          rw [dk_has h3 d2]
          exact Post.done q so (.d (.bl _))
      · cases e
    · rename_i z
      split at e
      · rename_i y'
        cases e
        exact hs pins s σ H x y v u Q I rx ry ⟨_, _, str_inv hx, str_inv hy, Post.done q so (.d (.bl _))⟩
      · cases e
    · cases e
theorem ow_in (hu : X.A.units + 65 < cLine) : OpW X E (compareOp .In) gIn := ow_inG (f := fun k => k) (fun a b c d e q => SeqAt.in_list_reads a b c d (rmin e) q) (fun a b c d e q => SeqAt.in_tuple_reads a b c d (rmin e) q)
  (fun a b c q => wpAny_in_heap (knd := knX X) (by show X.A.units + 1 + 8 < cLine; omega) a b c q) op_in_str hu
theorem ow_notIn (hu : X.A.units + 65 < cLine) : OpW X E (compareOp .NotIn) gNotIn := ow_inG (f := fun k => !k) (fun a b c d e q => SeqAt.notIn_list_reads a b c d (rmin e) q) (fun a b c d e q => SeqAt.notIn_tuple_reads a b c d (rmin e) q)
  (fun {s d a k xs Q} h1 h2 h3 q => by
    show wpAny _ _ (do return .bool (!(← contains (.ref d) (.ref a)))) Q _ s
    exact wpAny_bind (wpAny_contains_heap (knd := knX X) (by show X.A.units + 1 + 8 < cLine; omega) h1 h2 h3 (wpAny_pure q))) op_notin_str hu
end
end Wy
set_option Elab.async false
set_option linter.all false
set_option maxRecDepth 100000
set_option maxHeartbeats 4000000
/-! W5: items, slices, calls of built-ins, calls of defs. -/
namespace Wy
open PySem PySem.Spec PyProof.Rows L2
/-! ### items -/
section
variable {p : Pl} {H : Hp} {B : List Addr} {m : Mu}
/-- a sequence or a dict that is read: its items stay -/
inductive Seen (p : Pl) (H : Hp) (B : List Addr) : V → PyData → Prop
  | lst {a xs ds} : Rd H a (.lst xs) → DVs p H B xs ds → Seen p H B (.ref a) (.list ds)
  | tup {a xs ds} : SqT p.K H a xs → DVs p H B xs ds → Seen p H B (.ref a) (.tuple ds)
  | dct {a o kvs es} : Rd H a (dcT p.P p.w a o kvs) → DVk p H B kvs es → (a == sysModules) = false → (kvs.map (·.1)).Nodup → kvs.length ≤ sizeLine → Seen p H B (.ref a) (.dict es)
  | str (z : Str) : Seen p H B (.str z) (.str z)
theorem WV.seen {v : V} {w : W} {x : PyData} (h : WV p H B v w) (so : So p H B m) (e : Wy.dr m w = some x) (k : (match x with | .list _ => true | .tuple _ => true | .dict _ => true | .str _ => true | _ => false) = true) : Seen p H B v x := by
  cases h with
  | d h =>
    cases e
    cases h with
    | lst h r => exact .lst h.2 r
    | tup h r => exact .tup h.sq r
    | dct a b c d e f => exact .dct b c d f e
    | str z => exact .str z
    | _ => cases k
  | @loc n a h =>
    obtain ⟨o, ho, r⟩ := so.obj h
    have e1 : (match m[n]? with | some (.lst ds) => some (PyData.list ds) | some (.dct es) => some (.dict es) | _ => none) = some x := e
    rw [ho] at e1
    cases o with
    | lst es =>
      cases e1
      obtain ⟨xs, h1, h2⟩ := r
      exact .lst (.inl h1) h2
    | dct es =>
      cases e1
      obtain ⟨kvs, h1, h2, h3, h4, h5⟩ := r
      exact .dct (.inl h1) h2 h3 h5 h4
    | dci _ => cases e1
    | dcv _ => cases e1
    | ins _ _ => cases e1
  | wt _ _ => cases e
  | di _ _ _ _ _ => cases e
  | dv _ _ _ _ _ _ _ => cases e
theorem WVs.get : ∀ {vs : List V} {xs : List W} {i : Nat} {x : W}, WVs p H B vs xs → xs[i]? = some x → ∃ v, vs[i]? = some v ∧ WV p H B v x
  | _, _, _, _, .nil, e => by simp at e
  | _, _, 0, _, .cons r _, e => by simp at e; subst e; exact ⟨_, rfl, r⟩
  | _, _, i + 1, x, .cons _ t, e => by
    obtain ⟨u, h1, h2⟩ := WVs.get (i := i) (x := x) t (by simpa using e)
    exact ⟨u, by simpa using h1, h2⟩
theorem atI_map {α β : Type} {xs : List α} {ys : List β} (hl : xs.length = ys.length) {i : Int} {y : β} (h : atI ys i = some y) : ∃ j : Nat, ys[j]? = some y ∧ ∀ x, xs[j]? = some x → atI xs i = some x := by
  unfold atI at *
  rw [hl]
  cases e : ixN ys.length i with
  | none => rw [e] at h; cases h
  | some j => rw [e] at h; exact ⟨j, h, fun x hx => hx⟩
end
/-- c[i] -/
def pIx (c i : PyData) : Option PyData := match c, i with
  | .list ds, .int k => atI ds k
  | .tuple ds, .int k => atI ds k
  | .str z, .int k => if z.length ≤ 1000000 then (atI z.cps.toList k).map fun c => .str ⟨#[c]⟩ else none
  | .dict es, k => if okKey k = true then dget es k else none
  | _, _ => none
def gIx (a b : W) (m : Mu) : R W := match a with
  | .wt ws => match b with
    | .d (.int k) => match atI ws k with
      | some w => .ok w m
      | none => .bad
    | _ => .bad
  | a => on2 m a b fun c i => match pIx c i with
    | some x => .ok (.d x) m
    | none => .bad
section
variable {X : Cx} {E : XK} {a b c e : Expr} {es : List Expr} {fa fb : FE} {pos : Pos}
theorem ix_W (hu : X.A.units + 65 < cLine) : IxR X (fun x y H Q => ∃ Z B m a b, So (plX X Z) H B m ∧ WV (plX X Z) H B x a ∧ WV (plX X Z) H B y b ∧ PostE (plX X Z) E B H (gIx a b m) Q) := by
  rintro value slice pins s σ H x y v u Q I rx ry ⟨Z, B, m, a, b, so, ha, hb, q⟩ hs
  unfold gIx at q
  split at q
  · rename_i ws
    split at q
    · rename_i k
      cases e : atI ws k with
      | none => rw [e] at q; exact q.elim
      | some w =>
        rw [e] at q
        cases ha with
        | wt h r =>
          cases hb with
          | d hb =>
            obtain ⟨j, h1, h2⟩ := atI_map r.length e
            obtain ⟨z, h3, h4⟩ := r.get h1
            exact ix_tup value slice pins s σ H _ y v u Q I rx ry ⟨_, _, k, z, rfl, int_inv hb, h.sq, h2 z h3, Post.done q so h4⟩ hs
    · exact q.elim
  · unfold on2 at q
    split at q
    · rename_i dc di e1 e2
      have hi := hb.dr so e2
      cases e : pIx dc di with
      | none => simp only [e] at q; exact q.elim
      | some x' =>
        simp only [e] at q
        unfold pIx at e
        split at e
        · cases ha.seen so e1 rfl with
          | lst h1 h2 =>
            obtain ⟨j, g1, g2⟩ := atI_map h2.length e
            obtain ⟨z, g3, g4⟩ := h2.get g1
            exact ix_list value slice pins s σ H _ y v u Q I rx ry ⟨_, _, _, z, rfl, int_inv hi, .inl h1, g2 z g3, Post.done q so (.d g4)⟩ hs
        · cases ha.seen so e1 rfl with
          | tup h1 h2 =>
            obtain ⟨j, g1, g2⟩ := atI_map h2.length e
            obtain ⟨z, g3, g4⟩ := h2.get g1
            exact ix_tup value slice pins s σ H _ y v u Q I rx ry ⟨_, _, _, z, rfl, int_inv hi, h1, g2 z g3, Post.done q so (.d g4)⟩ hs
        · split at e
          · rename_i z
            obtain ⟨c, g1, g2⟩ := Option.map_eq_some_iff.mp e
            subst g2
            cases ha.seen so e1 rfl with
            | str z' => exact ix_str value slice pins s σ H _ y v u Q I rx ry ⟨_, _, c, rfl, int_inv hi, Nat.le_trans z mil, g1, Post.done q so (.d (.str _))⟩ hs
          · cases e
        · split at e
          · rename_i z
            obtain ⟨ka, rfl, rfl, ki⟩ := key_is I hi z ry
            cases ha.seen so e1 rfl with
            | dct h1 h2 h3 h4 =>
              cases rx
              obtain ⟨xs, d1, d2⟩ := dict_at I h1 h2 h4
              obtain ⟨a', u', v', g1, g2, g3⟩ := dk_get h2 d2 e
              exact tail_any d1.typeIs PySem.F.slot_dict_getitem.lookup (wpAny_getItem_heap (knd := knX X) (by show X.A.units + 1 + 8 < cLine; omega) ki d1 g1 ⟨v', H, I.tok _, g2, Post.done q so (.d g3)⟩) hs
          · cases e
        · cases e
    · exact q.elim
theorem we_ix (hu : X.A.units + 65 < cLine) (ha : WE X E a fa) (hb : WE X E b fb) (hs : PlainIx b) : WE X E (.Subscript a b pos) (fBin gIx fa fb) :=
  ⟨fun pins s σ H Q I ⟨Z, B, r, m, sl, so, q⟩ => (pe_ix (ix_W (E := E) hu) ha hb hs).run pins s σ H Q I
    ⟨Z, B, r, m, sl, so, q.step fun wa m1 x H1 B1 l1 s1 r1 q1 => ⟨Z, B1, r, m1, sl.mono l1, s1, q1.step fun wb m2 y H2 B2 l2 s2 r2 q2 => ⟨Z, B2, m2, wa, wb, s2, r1.mono l2, r2, q2⟩⟩⟩⟩
/-! ### slices -/
abbrev FO := Rh → Mu → R (Option Int)
abbrev RO : Pl → Hp → List Addr → Option Int → Option Int → Prop := fun _ _ _ b c => b = c
def WO (X : Cx) (E : XK) (e : Option Expr) (f : FO) : Prop := PO X e (rd RO X E f)
def fNoP : FO := fun _ m => .ok none m
def fPart (f : FE) : FO := fun r m => (f r m).bind fun w m1 => match w with
  | .d (.int i) => .ok (some i) m1
  | _ => .bad
theorem wo_none : WO X E none fNoP := ⟨fun pins s σ H Q I ⟨Z, B, r, m, sl, so, q⟩ => po_none.run pins s σ H Q I (Post.done (RelG := RO (plX X Z)) q so rfl)⟩
theorem wo_some {f : FE} (h : WE X E e f) : WO X E (some e) (fPart f) := ⟨fun pins s σ H Q I ⟨Z, B, r, m, sl, so, q⟩ => (po_some h).run pins s σ H Q I
  ⟨Z, B, r, m, sl, so, q.step fun w m1 x H1 B1 l1 s1 r1 q1 => by
    split at q1
    · cases r1 with
      | d r1 => exact ⟨_, int_inv r1, Post.done (RelG := RO (plX X Z)) q1 s1 rfl⟩
    · exact q1.elim⟩⟩
def cutA {α : Type} (xs : List α) (lo hi : Option Int) : List α := (xs.drop (HT.sIx xs.length 0 lo)).take (HT.sIx xs.length xs.length hi - HT.sIx xs.length 0 lo)
def gSl (a : W) (lo hi : Option Int) (m : Mu) : R W := match dr m a with
  | some (.list ds) => .ok (.d (.list (cutA ds lo hi))) m
  | some (.tuple ds) => .ok (.d (.tuple (cutA ds lo hi))) m
  | some (.str z) => if z.length ≤ 1000000 then .ok (.d (.str (cutS z lo hi))) m else .bad
  | _ => .bad
theorem DVs.cut {p : Pl} {H : Hp} {B : List Addr} {xs : List V} {ds : List PyData} (h : DVs p H B xs ds) (lo hi : Option Int) : DVs p H B (cutV xs lo hi) (cutA ds lo hi) := by
  unfold cutV cutA
  rw [h.length]
  exact (h.drop _).take _
theorem cut_all {α : Type} {xs : List α} {lo hi : Option Int} (h : HT.sIx xs.length 0 lo = 0 ∧ HT.sIx xs.length xs.length hi = xs.length) : cutA xs lo hi = xs := by
  unfold cutA
  rw [h.1, h.2]
  simp
/-- t[lo:hi], where a new tuple's object is known -/
def rSlK (K : PySem.W.Frag) : V → Option Int → Option Int → Hp → VK → Prop := fun x lo hi H Q => ∃ a xs, x = .ref a ∧ SqT K H a xs ∧
  (HT.sIx xs.length 0 lo = 0 ∧ HT.sIx xs.length xs.length hi = xs.length → Q (.ref a) H) ∧ (¬ (HT.sIx xs.length 0 lo = 0 ∧ HT.sIx xs.length xs.length hi = xs.length) → ∀ (o : Obj) (p : Addr), o.dict = none → H p = none → Q (.ref p) (upd H p (.frz o (.tup (cutV xs lo hi)))))
theorem sl_tupK : SlR X (rSlK X.K) := by
  rintro pins s σ H x v vl vu lo hi sl Q I rx hsl pl pu ⟨a, xs, rfl, hx, q1, q2⟩
  by_cases hw : HT.sIx xs.length 0 lo = 0 ∧ HT.sIx xs.length xs.length hi = xs.length
  · exact sl_tupA pins s σ H _ v vl vu lo hi sl Q I rx hsl pl pu ⟨a, xs, rfl, hx, q1, fun z => absurd hw z⟩
  · cases rx
    obtain ⟨us, rv, tp, hz⟩ := I.tuple hx
    have el : us.toArray.size = xs.length := by rw [List.size_toArray]; exact rv.length.symm
    refine ⟨"tuple", _, PyProof.Rows.slot_tuple_getitem.lookup, tp.typeIs, HT.getItem_tuple_cut tp hsl pl pu (by rw [el]; exact hw) ?_ (by rw [el]; exact hz)⟩
    rw [el]
    have here := Heap.get?_push_size s.heap (o := tupO ((us.drop (HT.sIx xs.length 0 lo)).take (HT.sIx xs.length xs.length hi - HT.sIx xs.length 0 lo))) rfl
    refine ⟨.ref s.heap.objs.size, _, I.laid (t' := s.toks) (o := .frz (tupO ((us.drop (HT.sIx xs.length 0 lo)).take (HT.sIx xs.length xs.length hi - HT.sIx xs.length 0 lo))) (.tup (cutV xs lo hi))) (fun b ob q => Heap.get?_push_of_some _ q) (Nat.le_refl _) ?_, rfl, q2 hw _ _ rfl (I.hok.fresh (Nat.le_refl _))⟩
    exact ⟨here, Nat.le_trans (cutV_length xs lo hi) hz, _, (rv.drop _).take _, _, here, rfl, _, rfl⟩
theorem sl_W : SlR X (fun x lo hi H Q => ∃ Z B m a, So (plX X Z) H B m ∧ WV (plX X Z) H B x a ∧ PostE (plX X Z) E B H (gSl a lo hi m) Q) := by
  rintro pins s σ H x v vl vu lo hi sl Q I rx hsl pl pu ⟨Z, B, m, a, so, ha, q⟩
  unfold gSl at q
  split at q
  · rename_i ds e
    cases ha.seen so e rfl with
    | lst h1 h2 => exact sl_list pins s σ H _ v vl vu lo hi sl Q I rx hsl pl pu ⟨_, _, rfl, .inl h1, fun p hp => Post.fresh q so hp (.d (DV.topL so hp (h2.cut lo hi)))⟩
  · rename_i ds e
    have st : ∃ a' xs, x = .ref a' ∧ SqTK (plX X Z) H B a' xs ∧ DVs (plX X Z) H B xs ds := by
      cases ha with
      | d h =>
        cases e
        cases h with
        | tup h r => exact ⟨_, _, rfl, h, r⟩
      | @loc n a0 h =>
        obtain ⟨o, ho, r⟩ := so.obj h
        have e1 : (match m[n]? with | some (.lst ds) => some (PyData.list ds) | some (.dct es) => some (.dict es) | _ => none) = some (.tuple ds) := e
        rw [ho] at e1
        cases o <;> cases e1
      | wt _ _ => cases e
      | di _ _ _ _ _ => cases e
      | dv _ _ _ _ _ _ _ => cases e
    obtain ⟨a', xs, rfl, h1, h2⟩ := st
    refine sl_tupK pins s σ H _ v vl vu lo hi sl Q I rx hsl pl pu ⟨_, _, rfl, h1.sq, fun w => ?_, fun _ ob p hd hp => Post.fresh q so hp (.d (DV.top so hp hd (h2.cut lo hi)))⟩
    rw [cut_all (by rw [h2.length] at w; exact w)] at q
    exact Post.done q so (.d (.tup h1 h2))
  · rename_i z e
    cases ha.seen so e rfl with
    | str z' =>
      split at q
      · rename_i zz
        exact sl_str pins s σ H _ v vl vu lo hi sl Q I rx hsl pl pu ⟨_, rfl, Nat.le_trans zz mil, Post.done q so (.d (.str _))⟩
      · exact q.elim
  · exact q.elim
def fSl (fa : FE) (fl fh : FO) : FE := fun r m => (fa r m).bind fun a m1 => (fl r m1).bind fun lo m2 => (fh r m2).bind fun hi m3 => gSl a lo hi m3
theorem we_slice {lo hi : Option Expr} {fl fh : FO} {p2 : Pos} (ha : WE X E a fa) (hl : WO X E lo fl) (hh : WO X E hi fh) : WE X E (.Subscript a (.Slice lo hi none p2) pos) (fSl fa fl fh) :=
  ⟨fun pins s σ H Q I ⟨Z, B, r, m, sl, so, q⟩ => (pe_slice (sl_W (E := E)) ha hl hh).run pins s σ H Q I
    ⟨Z, B, r, m, sl, so, q.step fun wa m1 x H1 B1 l1 s1 r1 q1 => ⟨Z, B1, r, m1, sl.mono l1, s1, q1.step fun o m2 o' H2 B2 l2 s2 r2 q2 => by
      cases r2
      exact ⟨Z, B2, r, m2, sl.mono (l1.trans l2), s2, q2.step fun o3 m3 o3' H3 B3 l3 s3 r3 q3 => by
        cases r3
        exact ⟨Z, B3, m3, wa, s3, r1.mono (l2.trans l3), q3⟩⟩⟩⟩⟩
/-! ### calls of built-ins -/
def CallW (X : Cx) (E : XK) (f : Value) (g : List W → Mu → R W) : Prop :=
  CallR X f (fun xs H Q => ∃ Z B m ws, So (plX X Z) H B m ∧ WVs (plX X Z) H B xs ws ∧ PostE (plX X Z) E B H (g ws m) Q)
def fBi (g : List W → Mu → R W) (fs : FA) : FE := fun r m => (fs r m).bind fun ws m1 => g ws m1
theorem we_bi {x : Str} {id : String} {g : List W → Mu → R W} {fs : FA} {p : Pos} (hc : CallW X E (.builtin id) g) (hg : Gl X x) (hm : X.mg x = none) (hv : bootBuiltins x = some (.builtin id)) (ha : WA X E (e :: es) fs) (hn : x ≠ "__name__" := by decide) (hdb : (x == ("__debug__" : Str)) = false := by decide)
    (he : starEach (e :: es) X.env = (false, eval e X.env) :: starEach es X.env := by rfl) (hpl : (backTo pos (starEach es X.env)).any (·.1) = false := by rfl) : WE X E (.Call (.Name x p) (e :: es) [] pos) (fBi g fs) :=
  ⟨fun pins s σ H Q I ⟨Z, B, r, m, sl, so, q⟩ => (pe_callB hc hg hm hv ha hn hdb he hpl).run pins s σ H Q I
    ⟨Z, B, r, m, sl, so, q.step fun ws m1 xs H1 B1 l1 s1 r1 q1 => ⟨Z, B1, m1, ws, s1, r1, q1⟩⟩⟩
theorem we_ty {x : Str} {T : String} {g : List W → Mu → R W} {fs : FA} {p : Pos} (hc : CallW X E (.type T) g) (hg : Gl X x) (hm : X.mg x = none) (hv : bootBuiltins x = some (.type T)) (ha : WA X E (e :: es) fs) (hn : x ≠ "__name__" := by decide) (hdb : (x == ("__debug__" : Str)) = false := by decide)
    (he : starEach (e :: es) X.env = (false, eval e X.env) :: starEach es X.env := by rfl) (hpl : (backTo pos (starEach es X.env)).any (·.1) = false := by rfl) : WE X E (.Call (.Name x p) (e :: es) [] pos) (fBi g fs) :=
  ⟨fun pins s σ H Q I ⟨Z, B, r, m, sl, so, q⟩ => (pe_callTy hc hg hm hv ha hn hdb he hpl).run pins s σ H Q I
    ⟨Z, B, r, m, sl, so, q.step fun ws m1 xs H1 B1 l1 s1 r1 q1 => ⟨Z, B1, m1, ws, s1, r1, q1⟩⟩⟩
/-- one argument, read -/
def on1 (m : Mu) (ws : List W) (k : W → PyData → R W) : R W := match ws with
  | [a] => match dr m a with
    | some x => k a x
    | none => .bad
  | _ => .bad
def gLen (ws : List W) (m : Mu) : R W := on1 m ws fun _ x => match x with
  | .list ds => kInt ds.length m
  | .tuple ds => kInt ds.length m
  | .str z => if z.length ≤ 1000000 then kInt z.length m else .bad
  | .dict es => kInt es.length m
  | _ => .bad
theorem line_lt : sizeLine < 2 ^ 63 := by rw [sizeLine_eq]; decide
theorem DVk.length {p : Pl} {H : Hp} {B : List Addr} : ∀ {kvs : List (NestedKey × Addr × V)} {es : List (PyData × PyData)}, DVk p H B kvs es → kvs.length = es.length
  | _, _, .nil => rfl
  | _, _, .cons _ _ _ _ _ t => congrArg (· + 1) t.length
theorem r3_len : ∀ {kvs : List (NestedKey × Addr × V)} {xs : List (NestedKey × Addr × Value)}, Paired R3 kvs xs → kvs.length = xs.length := fun h => Paired.length h
theorem wvs1 {p : Pl} {H : Hp} {B : List Addr} {xs : List V} {a : W} (h : WVs p H B xs [a]) : ∃ x, xs = [x] ∧ WV p H B x a := by
  cases h with
  | cons h t => cases t; exact ⟨_, rfl, h⟩
theorem cw_len : CallW X E (.builtin "len") gLen := by
  rintro pins s σ H xs us Q I r ⟨Z, B, m, ws, so, hw, q⟩
  unfold gLen on1 at q
  split at q
  · rename_i a
    obtain ⟨x, rfl, ha⟩ := wvs1 hw
    split at q
    · rename_i c e
      dsimp only at q
      split at q
      · cases ha.seen so e rfl with
        | lst h1 h2 => exact call_len_seq pins s σ H _ us Q I r ⟨_, _, rfl, .inl (.inl h1), by rw [h2.length]; exact Post.done q so (.d (.int _))⟩
      · cases ha.seen so e rfl with
        | tup h1 h2 => exact call_len_seq pins s σ H _ us Q I r ⟨_, _, rfl, .inr h1, by rw [h2.length]; exact Post.done q so (.d (.int _))⟩
      · split at q
        · rename_i z
          cases ha.seen so e rfl with
          | str _ => exact call_len_str pins s σ H _ us Q I r ⟨_, rfl, Nat.le_trans z mil, Post.done q so (.d (.int _))⟩
        · exact q.elim
      · cases ha.seen so e rfl with
        | dct h1 h2 h3 h4 h5 =>
          cases r with
          | cons r0 rt =>
            cases rt
            cases r0
            obtain ⟨xs, d1, d2⟩ := dict_at I h1 h2 h4
            have hl := r3_len d2
            have hl2 := h2.length
            have hm : s.heap.DictKeyed (knX X) _ (pairsH xs) := ⟨xs, d1, rfl⟩
            have hz := line_lt
            have hp : (pairsH xs).length = xs.length := pairsH_length xs
            refine PyProof.Rows.call_len_slot (n := (pairsH xs).length) hm.typeIs PySem.F.slot_dict_len (fun Q' hq => len_keyed h3 hm hq) (by omega) (by omega) ⟨.int _, H, I.tok _, ⟨_, rfl⟩, ?_⟩
            rw [hp, ← hl, hl2]
            exact Post.done q so (.d (.int _))
      · exact q.elim
    · exact q.elim
  · exact q.elim
def gAll (ws : List W) (m : Mu) : R W := on1 m ws fun _ x => match x with
  | .list ds => if ds.all (fun d => match d with | .bool _ => true | _ => false) = true then kBl (ds.all fun d => match d with | .bool b => b | _ => false) m else .bad
  | _ => .bad
theorem DVs.bools {p : Pl} {H : Hp} {B : List Addr} : ∀ {xs : List V} {ds : List PyData}, DVs p H B xs ds → ds.all (fun d => match d with | .bool _ => true | _ => false) = true → ∃ bs : List Bool, xs = bs.map V.bl ∧ ds = bs.map PyData.bool
  | _, _, .nil, _ => ⟨[], rfl, rfl⟩
  | _, _, .cons h t, e => by
    rw [List.all_cons, Bool.and_eq_true] at e
    obtain ⟨bs, e1, e2⟩ := DVs.bools t e.2
    cases h with
    | bl b => exact ⟨b :: bs, by rw [e1]; rfl, by rw [e2]; rfl⟩
    | _ => exact absurd e.1 (by simp)
theorem all_bools : ∀ bs : List Bool, ((bs.map PyData.bool).all fun d => match d with | .bool b => b | _ => false) = bs.all id
  | [] => rfl
  | b :: bs => by rw [List.map_cons, List.all_cons, List.all_cons, all_bools bs]; rfl
theorem cw_all (hc : X.calm = true) : CallW X E (.builtin "all") gAll := by
  rintro pins s σ H xs us Q I r ⟨Z, B, m, ws, so, hw, q⟩
  unfold gAll on1 at q
  split at q
  · rename_i a
    obtain ⟨x, rfl, ha⟩ := wvs1 hw
    split at q
    · rename_i c e
      dsimp only at q
      split at q
      · cases ha.seen so e rfl with
        | lst h1 h2 =>
          split at q
          · rename_i z
            obtain ⟨bs, rfl, rfl⟩ := h2.bools z
            rw [all_bools] at q
            exact cr_all hc pins s σ H _ us Q I r ⟨_, bs, rfl, .inl h1, Post.done q so (.d (.bl _))⟩
          · exact q.elim
      · exact q.elim
    · exact q.elim
  · exact q.elim
def gInt (ws : List W) (m : Mu) : R W := on1 m ws fun _ x => match x with
  | .int i => kInt i m
  | .bool b => kInt (if b then 1 else 0) m
  | _ => .bad
theorem cw_int : CallW X E (.type "int") gInt := by
  rintro pins s σ H xs us Q I r ⟨Z, B, m, ws, so, hw, q⟩
  unfold gInt on1 at q
  split at q
  · rename_i a
    obtain ⟨x, rfl, ha⟩ := wvs1 hw
    split at q
    · rename_i c e
      have h := ha.dr so e
      dsimp only at q
      split at q
      · exact call_int1 pins s σ H _ us Q I r (.inl ⟨_, by rw [int_inv h], Post.done q so (.d (.int _))⟩)
      · cases h
        exact call_int1 pins s σ H _ us Q I r (.inr ⟨_, rfl, Post.done q so (.d (.int _))⟩)
      · exact q.elim
    · exact q.elim
  · exact q.elim
def gTuple (ws : List W) (m : Mu) : R W := on1 m ws fun a x => match x with
  | .list ds => .ok (.d (.tuple ds)) m
  | .tuple _ => .ok a m
  | _ => .bad
theorem call_tupleK : CallR X (.type "tuple") (fun xs H Q => ∃ p ys, xs = [.ref p] ∧ SqL X.K H p ys ∧ ∀ (o : Obj) (l : Addr), o.dict = none → H l = none → Q (.ref l) (upd H l (.frz o (.tup ys)))) := by
  rintro pins s σ H xs us Q I r ⟨p, ys, rfl, hq, q⟩
  rw [Vals.ref1 r]
  obtain ⟨its, rv, pl, hz⟩ := I.list hq
  have el := rv.length
  refine call_tuple_list pl.isList (fun h' kp => ?_) (by simp only [List.size_toArray]; omega)
  have J : Inv X pins σ H { s with heap := h' } := I.kept (t' := s.toks) kp
  have here := Heap.get?_push_size h' (o := { cls := .type "tuple", data := .seq its.toArray }) rfl
  exact ⟨.ref h'.objs.size, _, J.laid (t' := s.toks) (o := .frz _ (.tup ys)) (fun b o e => Heap.get?_push_of_some _ e) (Nat.le_refl _) ⟨here, hz, its, rv, _, here, rfl, _, rfl⟩, rfl, q _ _ rfl (J.hok.fresh (Nat.le_refl _))⟩
theorem cw_tuple : CallW X E (.type "tuple") gTuple := by
  rintro pins s σ H xs us Q I r ⟨Z, B, m, ws, so, hw, q⟩
  unfold gTuple on1 at q
  split at q
  · rename_i a
    obtain ⟨x, rfl, ha⟩ := wvs1 hw
    split at q
    · rename_i c e
      dsimp only at q
      split at q
      · cases ha.seen so e rfl with
        | lst h1 h2 => exact call_tupleK pins s σ H _ us Q I r ⟨_, _, rfl, .inl h1, fun ob p hd hp => Post.fresh q so hp (.d (DV.top so hp hd h2))⟩
      · cases ha.seen so e rfl with
        | tup h1 h2 => exact call_tuple_of pins s σ H _ us Q I r ⟨_, _, rfl, .inr ⟨h1, Post.done q so ha⟩⟩
      · exact q.elim
    · exact q.elim
  · exact q.elim
/-- list(x), not changed -/
def gList (ws : List W) (m : Mu) : R W := on1 m ws fun _ x => match x with
  | .list ds => .ok (.d (.list ds)) m
  | .tuple ds => .ok (.d (.list ds)) m
  | _ => .bad
theorem cw_list : CallW X E (.type "list") gList := by
  rintro pins s σ H xs us Q I r ⟨Z, B, m, ws, so, hw, q⟩
  unfold gList on1 at q
  split at q
  · rename_i a
    obtain ⟨x, rfl, ha⟩ := wvs1 hw
    split at q
    · rename_i c e
      dsimp only at q
      split at q
      · cases ha.seen so e rfl with
        | lst h1 h2 => exact call_list_of pins s σ H _ us Q I r ⟨_, _, rfl, .inl (.inl h1), fun p hp => Post.fresh q so hp (.d (DV.topL so hp h2))⟩
      · cases ha.seen so e rfl with
        | tup h1 h2 => exact call_list_of pins s σ H _ us Q I r ⟨_, _, rfl, .inr h1, fun p hp => Post.fresh q so hp (.d (DV.topL so hp h2))⟩
      · exact q.elim
    · exact q.elim
  · exact q.elim
end
end Wy
set_option Elab.async false
set_option linter.all false
set_option maxRecDepth 100000
set_option maxHeartbeats 4000000
/-! W6: enumerate of a tuple; isinstance; tuple(range(n)); calls of defs. -/
namespace Wy
open PySem PySem.Spec PyProof.Rows L2
/-! ### enumerate(v), v told by its iterator -/
theorem meets_enum1 {v : Value} {o : Obj} {G : Heap → Prop} (B : Begins v o G) :
    Meets (Builtin.«enumerate.__new__» ⟨[.type "enumerate", v], []⟩) (fun _ R s => G s.heap ∧
      R (.ok (.ret (.ref (s.heap.push o).objs.size))) { s with heap := (s.heap.push o).push { cls := .type "enumerate", data := .fields #[.none, .bool false, .ref s.heap.objs.size, rawInt 0, .none, .none] } }) :=
  .of_wp fun prog w A R s h => by
    obtain ⟨hp, g, d, tk, os⟩ := s
    obtain ⟨h1, h⟩ := h
    have hsub := sub_enumerate
    have q1 : ∀ {A' : Around} {E : Value → Shared → Prop} {Q : Value → Shared → Prop}, Q (.ref hp.objs.size) ⟨hp.push o, g, d, tk, os⟩ → wpAny (model prog w) A' (pyIter v) Q E ⟨hp, g, d, tk, os⟩ :=
      fun q => B.iter prog w _ _ ⟨hp, g, d, tk, os⟩ _ h1 q
    wp_walk using q1
    refine wpAny_stack_any fun st => wpAny_pure ?_
    split
    · rename_i c _ _ _ _ _
      cases (c == Value.type "enumerate") <;> (wp_walk using q1; exact ⟨_, rfl, h⟩)
    · wp_walk using q1
      exact ⟨_, rfl, h⟩
theorem enum1 {prog : Program} {w : World} {A : Around} {E : Value → Shared → Prop} {s : Shared} {v : Value} {o : Obj} {G : Heap → Prop} {Q : Value → Shared → Prop} (B : Begins v o G) (h1 : G s.heap)
    (h : ∀ h', IsEnum h' (s.heap.objs.size + 1) s.heap.objs.size 0 .none → h'.get? s.heap.objs.size = some o → (∀ b o, s.heap.get? b = some o → h'.get? b = some o) → Q (.ref (s.heap.objs.size + 1)) { s with heap := h' }) :
    wpAny (model prog w) A (call (.type "enumerate") [v]) Q E s := by
  refine callType_new F.called_enumerate (by decide) (F.typeCall_enumerate_1 _) (F.newCall_enumerate_1 _) (fun obj => F.args_object_init_2 obj _) F.entry_enumerate_new (meets_enum1 B) ⟨h1, ?_⟩
  have hz : (s.heap.push o).objs.size = s.heap.objs.size + 1 := Heap.size_push ..
  show _ ∧ _
  rw [hz]
  have he : IsEnum ((s.heap.push o).push { cls := .type "enumerate", data := .fields #[.none, .bool false, .ref s.heap.objs.size, rawInt 0, .none, .none] }) (s.heap.objs.size + 1) s.heap.objs.size 0 .none := by
    have z := Heap.get?_push_size (s.heap.push o) (o := { cls := .type "enumerate", data := .fields #[.none, .bool false, .ref s.heap.objs.size, rawInt 0, .none, .none] }) rfl
    rw [hz] at z
    exact z
  exact ⟨⟨_, he, rfl⟩, h _ he (Heap.get?_push_of_some _ (Heap.get?_push_size _ B.free)) fun b o x => Heap.get?_push_of_some _ (Heap.get?_push_of_some _ x)⟩
/-- the tuple at a, each item in a new pair -/
def ItE (K : PySem.W.Frag) (a : Addr) : It :=
  ⟨fun i H => ∃ (xs : List V) (x : V), SqT K H a xs ∧ xs[i]? = some x, fun i H v H' => ∃ T x, v = .ref T ∧ H T = none ∧ H' = upd H T (.tup [.int (i : Nat), x]) ∧ ∀ xs, SqT K H a xs → xs[i]? = some x, fun i H => ∃ xs : List V, SqT K H a xs ∧ xs.length ≤ i⟩
theorem turn_enumT {P : Program} {w : World} {K : PySem.W.Frag} {elts : List Expr} {kk : Nat} {tpos : Pos} (a e it : Addr) :
    Turn P w K (.Tuple elts kk tpos) (ItE K a) [e, it] e (fun i h => (∃ old, IsEnum h e it ((i : Nat) : Int) old) ∧ h.IsTupleIter it a i ∧ e ≠ it ∧ a ≠ it ∧ a ≠ e) where
  mem := by simp
  obj := fun i h st b hb => by
    obtain ⟨⟨old, he⟩, ⟨o, ho, hc, hd⟩, _⟩ := st
    rcases List.mem_cons.mp hb with z | z
    · rw [z]; exact ⟨_, he, fun v q => nomatch q⟩
    · have z' : b = it := by simpa using z
      rw [z']; exact ⟨o, ho, fun v q => by rw [hd] at q; cases q⟩
  keep := fun i h h' st k => ⟨let ⟨old, he⟩ := st.1; ⟨old, k e (by simp) _ he⟩, st.2.1.at fun o q => k it (by simp) o q, st.2.2⟩
  item := by
    intro X hP hw hK hc i pins s σ H E I hf st hg
    subst hP hw hK
    obtain ⟨⟨old, he⟩, hit, hne, n1, n2⟩ := st
    obtain ⟨xs, x, hq, hx⟩ := hg
    obtain ⟨its, rv, tp, hz⟩ := I.tuple hq
    obtain ⟨u, hu, ru⟩ := rv.get hx
    have hel : e < s.heap.objs.size := Heap.lt_size he
    have hil : it < s.heap.objs.size := let ⟨_, q, _⟩ := hit; Heap.lt_size q
    have hT : s.heap.IsTuple a its.toArray := tp
    have hlt : i < its.toArray.size := by
      have := (List.getElem?_eq_some_iff.mp hu).1
      simpa using this
    refine wpAny_pyNext_enum_itemD (Draws.tuple (A := X.A.in1) (show X.A.in1.handled = none from I.ok.hd hc) it a n1 its.toArray) he ⟨hit, hT⟩ hlt hne (by simp [hne, n2.symm]) fun x' h' tk hp ho hst htup hsz hk => ?_
    have ex : x' = u := by
      have q1 : its.toArray[i]? = some u := by simpa using hu
      rw [q1] at hp
      exact (Option.some.inj hp).symm
    subst ex
    refine ⟨_, rfl, wpAny_letOwnedTupleGo_enum (s := { s with heap := h', toks := tk + 1 }) ho fun h'' he' sb => ?_⟩
    have hT2 : h''.get? s.heap.objs.size = some { cls := .type "tuple", data := .seq #[.int i tk, x'] } := (sb.2 _ (Nat.ne_of_gt hel)).trans htup
    have new : ObjOk X.prog X.w (upd H s.heap.objs.size (.tup [.int (i : Nat), x])) h'' s.heap.objs.size (.tup [.int (i : Nat), x]) :=
      ⟨by show 2 ≤ sizeLine; decide, [.int i tk, x'], .cons ⟨_, rfl⟩ (.cons ru .nil), ⟨_, hT2, rfl, _, rfl⟩⟩
    have I1 : Inv X pins σ (upd H s.heap.objs.size (.tup [.int (i : Nat), x])) { s with heap := h'', toks := tk + 1 } :=
      I.turnedNew (ch := [e, it]) (fun b ob hb q => (sb.2 b (fun z => hb (by simp [z]))).trans (hk b ob (fun z => hb (by simp [z])) (fun z => hb (by simp [z])) q)) hf (Nat.le_refl _) new
    refine ⟨.ref s.heap.objs.size, _, I1, rfl, ⟨_, x, rfl, I.hok.fresh (Nat.le_refl _), rfl, fun ys hy => by rw [I.tuple_inj hy hq]; exact hx⟩, ⟨⟨x', ?_⟩, hst.1.at fun o q => (sb.2 it (Ne.symm hne)).trans q, hne, n1, n2⟩, fun b hb => ?_⟩
    · rw [show ((i + 1 : Nat) : Int) = (i : Int) + 1 by omega]
      exact he'
    · have hb' : b < s.heap.objs.size := by
        rcases List.mem_cons.mp hb with z | z
        · rw [z]; exact hel
        · rw [show b = it by simpa using z]; exact hil
      rw [upd_ne (Nat.ne_of_lt hb')]
      exact (hf b hb).1
  done := by
    intro X hP hw hK hc i pins s σ H E I hf st hg
    subst hP hw hK
    obtain ⟨⟨old, he⟩, hit, hne, n1, n2⟩ := st
    obtain ⟨xs, hq, hx⟩ := hg
    obtain ⟨its, rv, tp, hz⟩ := I.tuple hq
    obtain ⟨f0, f1, f2, f3, f4, f5⟩ := hf it (by simp)
    have hl := rv.length
    have hT : s.heap.IsTuple a its.toArray := tp
    have hT2 : s.TypeIs (.ref e) "enumerate" := ⟨_, he, rfl⟩
    unfold pyNext
    refine wpAny_bind (wpAny_attempt (wpAny_callSpecial?_slot (name := Str.ofString "__next__") hT2 F.slot_enumerate_next (wpAny_call_entry F.slot_enumerate_next hT2 F.entry_enumerate_next ?_ (F.args_enumerate_next_1 _))))
    show wpAny _ _ (field (.ref e) 2 >>= _) _ _ _
    refine wpAny_bind (wpAny_field he rfl (x := .ref it) rfl ?_)
    refine wpAny_bind (wpAny_nextOf_tuple_end (I.ok.hd hc) hit hT (by simp; omega) fun h' x eb hx' => ?_)
    obtain ⟨o, ho, hcl⟩ := hx'
    refine wpAny_bind (wpAny_isInstance (T := "StopIteration") (b := true) ⟨o, ho, hcl⟩ isSubtype_stop ?_)
    exact wpAny_pure ⟨rfl, I.turned (t' := s.toks) (fun b o hb q => eb b o hb q) f0 f1 f3 f4 f5⟩
  self := fun A i s Q E st h => let ⟨⟨_, he⟩, _⟩ := st; wpAny_pyIter_enum he h
def iEnA (K : PySem.W.Frag) (ta : TA) : TI := fun σ H R => ta σ H fun vs H1 => ∃ a xs, vs = [.ref a] ∧ ((SqL K H1 a xs ∧ R (Ite K a) H1) ∨ (SqT K H1 a xs ∧ R (ItE K a) H1))
theorem pi_enA {X : Cx} {e : Expr} {ta : TA} {p pos tpos : Pos} {elts : List Expr} {kk : Nat} (hg : Gl X "enumerate") (hm : X.mg "enumerate" = none) (ha : PA X [e] ta) (hs : starEach [e] X.env = [(false, eval e X.env)] := by rfl) :
    PI X (.Tuple elts kk tpos) (.Call (.Name "enumerate" p) [e] [] pos) (iEnA X.K ta) := by
  constructor
  intro pins s σ H R I h
  refine Call_ (ld_blt I hg hm boot_enumerate (PyProof.Rows.callWith_type1 (thn (ha.run pos pins s σ H _ I h) fun us s1 hh => ?_) hs rfl))
  obtain ⟨vs, H1, I1, r1, a, xs, ex, q1⟩ := hh
  subst ex
  have fr : ∀ b ∈ [s1.heap.objs.size + 1, s1.heap.objs.size], FpOk X pins H1 b := fun b hb => by
    have hle : s1.heap.objs.size ≤ b := by
      rcases List.mem_cons.mp hb with z | z
      · omega
      · have z' : b = s1.heap.objs.size := by simpa using z
        omega
    exact I1.fpOk hle (I1.hok.fresh hle)
  cases r1 with
  | cons r rr =>
    cases rr
    cases r
    rcases q1 with ⟨hq, q⟩ | ⟨hq, q⟩
    · obtain ⟨its, rv, pl, hz⟩ := I1.list hq
      refine call_enumerate_list pl.isList fun h' he hit hsz hk => wpAny_pyIter_enum he ?_
      exact ⟨s1.heap.objs.size + 1, [s1.heap.objs.size + 1, s1.heap.objs.size], _, _, H1, rfl, I1.kept (t' := s1.toks) hk, turn_enum a (s1.heap.objs.size + 1) s1.heap.objs.size, ⟨⟨.none, he⟩, hit, Nat.succ_ne_self _⟩, fr, q⟩
    · obtain ⟨its, rv, tp, hz⟩ := I1.tuple hq
      have hT : s1.heap.IsTuple a its.toArray := tp
      have hal : a < s1.heap.objs.size := let ⟨_, z, _⟩ := tp; Heap.lt_size z
      refine enum1 (begins_tuple a its.toArray) hT fun h' he ho hk => wpAny_pyIter_enum he ?_
      exact ⟨s1.heap.objs.size + 1, [s1.heap.objs.size + 1, s1.heap.objs.size], _, _, H1, rfl, I1.kept (t' := s1.toks) hk, turn_enumT a (s1.heap.objs.size + 1) s1.heap.objs.size, ⟨⟨.none, he⟩, ⟨_, ho, rfl, rfl⟩, Nat.succ_ne_self _, Nat.ne_of_lt hal, Nat.ne_of_lt (Nat.lt_succ_of_lt hal)⟩, fr, q⟩
/-! ### isinstance -/
def tyOf (m : Mu) (w : W) : Option String := match w with
  | .wt _ => some "tuple"
  | w => match dr m w with
    | some .none => some "NoneType"
    | some (.bool _) => some "bool"
    | some (.int _) => some "int"
    | some (.str _) => some "str"
    | some (.list _) => some "list"
    | some (.tuple _) => some "tuple"
    | _ => none
def subTy (t T : String) : Bool := t == T || (t == "bool" && T == "int")
def allTy : List String := ["NoneType", "bool", "int", "str", "list", "tuple"]
theorem kit_all : (allTy.all fun t => ["int", "bool", "str", "list", "tuple"].all fun T => kitB t T == some (subTy t T)) = true := by decide +kernel
theorem kit_some {t T : String} (h1 : t ∈ allTy) (h2 : T ∈ ["int", "bool", "str", "list", "tuple"]) : kitB t T = some (subTy t T) := by
  have h := kit_all
  rw [List.all_eq_true] at h
  have h' := h t h1
  rw [List.all_eq_true] at h'
  exact eq_of_beq (h' T h2)
theorem tyOf_in {m : Mu} {w : W} {t : String} (h : tyOf m w = some t) : t ∈ allTy := by
  unfold tyOf at h
  split at h
  · cases h; decide
  · split at h <;> first | (cases h; decide) | cases h
theorem tyx_tup {p : Pl} {H : Hp} {B : List Addr} {a : Addr} {xs : List V} (h : SqTS p H B a xs) : TyX p.K H (.ref a) (.type "tuple") := by
  rcases h with ⟨_, h | ⟨o, h⟩⟩ | ⟨o, _, _, h, c, _⟩
  · exact .base (.tup h)
  · exact .fTuple h
  · exact .kTuple h c
theorem tyx_of {p : Pl} {H : Hp} {B : List Addr} {m : Mu} {v : V} {w : W} {t : String} (hv : WV p H B v w) (so : So p H B m) (h : tyOf m w = some t) : TyX p.K H v (.type t) := by
  unfold tyOf at h
  split at h
  · cases h
    cases hv with
    | wt h r => exact tyx_tup h
  · split at h
    · rename_i e; cases h; cases hv.dr so e; exact .base .non
    · rename_i e; cases h; cases hv.dr so e; exact .base (.bl _)
    · rename_i e; cases h; cases hv.dr so e; exact .base (.int _)
    · rename_i e; cases h; cases hv.dr so e; exact .base (.str _)
    · rename_i e
      cases h
      cases hv.dr so e with
      | lst h _ =>
        rcases h.2 with h | ⟨o, h⟩
        · exact .base (.lst h)
        · exact .base (.frz h)
    · rename_i e
      cases h
      cases hv.dr so e with
      | tup h _ =>
        have z := tyx_tup h.s
        exact z
    · cases h
def fIsi (T : String) (f : FE) : FE := fun r m => (f r m).bind fun w m1 => match tyOf m1 w with
  | some t => kBl (subTy t T) m1
  | none => .bad
section
variable {X : Cx} {E : XK} {a b c e : Expr} {es : List Expr} {fa fb : FE} {pos : Pos}
theorem we_isi {T : String} {x : Str} {p p2 : Pos} (ha : WE X E a fa) (hg : Gl X "isinstance") (hm : X.mg "isinstance" = none) (hgT : Gl X x) (hmT : X.mg x = none) (hT : bootBuiltins x = some (.type T)) (hT2 : T ∈ ["int", "bool", "str", "list", "tuple"] := by decide)
    (hn : x ≠ "__name__" := by decide) (hdb : (x == ("__debug__" : Str)) = false := by decide) (hs : starEach (a :: [.Name x p2]) X.env = (false, eval a X.env) :: starEach [.Name x p2] X.env := by rfl) (hs2 : starEach [.Name x p2] X.env = (false, eval (.Name x p2) X.env) :: starEach [] X.env := by rfl)
    (hpl : (backTo pos (starEach [.Name x p2] X.env)).any (·.1) = false := by rfl) :
    WE X E (.Call (.Name "isinstance" p) [a, .Name x p2] [] pos) (fIsi T fa) :=
  ⟨fun pins s σ H Q I ⟨Z, B, r, m, sl, so, q⟩ => (pe_callB call_isi hg hm PyProof.Rows.boot_isinstance (pa_cons ha (pa_cons (pe_bltn (v := .ty T) hgT hmT hT rfl hn hdb) pa_nil hs2) hs) (by decide) (by decide) hs hpl).run pins s σ H Q I
    ⟨Z, B, r, m, sl, so, q.step fun w m1 v H1 B1 l1 s1 r1 q1 => by
      cases ty : tyOf m1 w with
      | none => rw [ty] at q1; exact q1.elim
      | some t =>
        rw [ty] at q1
        exact ⟨_, _, _, _, _, rfl, .ty T, tyx_of r1 s1 ty, kit_ty (kit_some (tyOf_in ty) hT2), Post.done q1 s1 (.d (.bl _))⟩⟩⟩
/-! ### tuple(range(n)) -/
def dInts (n : Nat) : List PyData := (List.range n).map fun i : Nat => PyData.int (i : Int)
def fTupR (f : FE) : FE := fun r m => (f r m).bind fun w m1 => match w with
  | .d (.int n) => if 0 ≤ n ∧ n ≤ 1000 then .ok (.d (.tuple (dInts n.toNat))) m1 else .bad
  | _ => .bad
theorem dvs_nats (p : Pl) (H : Hp) (B : List Addr) : ∀ l : List Nat, DVs p H B (l.map fun i : Nat => V.int (i : Int)) (l.map fun i : Nat => PyData.int (i : Int))
  | [] => .nil
  | _ :: l => .cons (.int _) (dvs_nats p H B l)
theorem vals_items {n : Nat} {acc : Array Value} (h : ItemsOf (fun i v => ∃ t, v = Value.int (0 + (i : Nat) * 1) t) acc n) : Vals ((List.range n).map fun i : Nat => V.int (i : Int)) acc.toList := by
  have go : ∀ (k : Nat) (l : List Value) (j : Nat), l.length = k → (∀ i v, l[i]? = some v → ∃ t, v = Value.int ((j + i : Nat) : Int) t) → Vals ((List.range' j k).map fun i : Nat => V.int (i : Int)) l := by
    intro k
    induction k with
    | zero =>
      intro l j hl _
      have e : l = [] := List.eq_nil_of_length_eq_zero hl
      rw [e]
      exact .nil
    | succ k ih =>
      intro l j hl hv
      cases l with
      | nil => cases hl
      | cons v l =>
        rw [List.range'_succ, List.map_cons]
        obtain ⟨t, e⟩ := hv 0 v rfl
        refine .cons ⟨t, by rw [e]; rfl⟩ (ih l (j + 1) (by simpa using hl) fun i u hu => ?_)
        obtain ⟨t, e⟩ := hv (i + 1) u (by simpa using hu)
        exact ⟨t, by rw [e]; congr 1; omega⟩
  rw [List.range_eq_range']
  refine go n acc.toList 0 (by rw [Array.length_toList]; exact h.1) fun i v hv => ?_
  obtain ⟨t, e⟩ := h.2 i v (by rw [← Array.getElem?_toList]; exact hv)
  exact ⟨t, by rw [e]; congr 1; omega⟩
theorem we_tupR {p p2 pos2 : Pos} (hc : X.calm = true) (ha : WE X E a fa) (hg : Gl X "tuple") (hm : X.mg "tuple" = none) (hg2 : Gl X "range") (hm2 : X.mg "range" = none) (hs : starEach [a] X.env = [(false, eval a X.env)] := by rfl)
    (hs2 : starEach [.Call (.Name "range" p2) [a] [] pos2] X.env = [(false, eval (.Call (.Name "range" p2) [a] [] pos2) X.env)] := by rfl) :
    WE X E (.Call (.Name "tuple" p) [.Call (.Name "range" p2) [a] [] pos2] [] pos) (fTupR fa) := by
  constructor
  rintro pins s σ H Q I ⟨Z, B, r, m, sl, so, q⟩
  refine Call_ (ld_blt I hg hm boot_tuple (PyProof.Rows.callWith_type1 ?_ hs2 rfl))
  have inner : PE X (.Call (.Name "range" p2) [a] [] pos2) (fun σ H Q' => rd RE X E fa σ H fun x H1 => ∃ j : Int, x = .int j ∧ ∀ q, H1 q = none → Q' (.ref q) (upd H1 q (.rng 0 j))) := by
    constructor
    intro pins s σ H Q' I h
    refine Call_ (ld_blt I hg2 hm2 boot_range (PyProof.Rows.callWith_type1 (thn ((pa_cons ha pa_nil hs).run pos2 pins s σ H (fun vs H1 => ∃ j : Int, vs = [V.int j] ∧ ∀ q, H1 q = none → Q' (.ref q) (upd H1 q (.rng 0 j))) I ?_) fun us s1 hh => ?_) hs rfl))
    · obtain ⟨Z, B, r, m, sl, so, q⟩ := h
      refine ⟨Z, B, r, m, sl, so, ?_⟩
      cases e : fa r m with
      | ok w m1 =>
        rw [e] at q
        intro b H' B' l s' rr
        obtain ⟨j, e1, k⟩ := q b H' B' l s' rr
        exact ⟨j, by rw [e1], k⟩
      | exn x m1 => rw [e] at q; exact q
      | bad => rw [e] at q; exact q
    · obtain ⟨vs, H1, I1, r1, j, ev, k⟩ := hh
      subst ev
      cases r1 with
      | cons r rr =>
        cases rr
        obtain ⟨t, rfl⟩ := r
        refine call_range_1 ⟨.ref s1.heap.objs.size, upd H1 s1.heap.objs.size (.rng 0 j), I1.laid (t' := s1.toks + 1 + 1) (fun b o e => Heap.get?_push_of_some _ e) (Nat.le_refl _) ⟨_, _, _, Heap.get?_push_size _ rfl⟩, rfl, k _ (I1.hok.fresh (Nat.le_refl _))⟩
  refine thn ((pa_cons inner pa_nil hs2).run pos pins s σ H (fun vs H2 => ∃ (rg : Addr) (n : Int), vs = [V.ref rg] ∧ H2 rg = some (.rng 0 n) ∧ 0 ≤ n ∧ n ≤ 1000 ∧ ∀ (o : Obj) (t : Addr), o.dict = none → H2 t = none → Q (.ref t) (upd H2 t (.frz o (.tup ((List.range n.toNat).map fun i : Nat => V.int (i : Int)))))) I ?_) fun us s1 hh => ?_
  · refine ⟨Z, B, r, m, sl, so, q.step fun w m1 x H1 B1 l1 s1 r1 q1 => ?_⟩
    split at q1
    · rename_i n
      split at q1
      · rename_i z
        cases r1 with
        | d r1 =>
          refine ⟨n, int_inv r1, fun rg hrg => ⟨rg, n, rfl, upd_same, z.1, z.2, fun ob t hd ht => ?_⟩⟩
          have q2 := q1.mono (le_laid (B := B1) (o := .rng 0 n) hrg)
          exact Post.fresh q2 (s1.laid hrg) ht (.d (DV.top (s1.laid hrg) ht hd (dvs_nats _ _ _ _)))
      · exact q1.elim
    · exact q1.elim
  · obtain ⟨vs, H2, I2, r2, rg, n, ev, hrg, z1, z2, k⟩ := hh
    subst ev
    cases r2 with
    | cons r rr =>
      cases rr
      cases r
      obtain ⟨t, u, v, hr⟩ := (show ObjOk X.prog X.w H2 s1.heap rg (.rng 0 n) from I2.hok rg _ hrg)
      have en : Builtin.Range.rangeSize 0 n 1 = ((n.toNat : Nat) : Int) := by
        rw [rangeSize_one]
        split <;> omega
      refine call_tuple_range (n := n.toNat) (I2.ok.hd hc) hr (small_one (by omega) (by omega) (by omega) (by omega)) en (by omega) fun h' tk acc hk hacc => ?_
      have I3 : Inv X pins σ H2 { s1 with heap := h', toks := tk } := I2.kept (t' := tk) hk
      have hv := vals_items hacc
      have hf : H2 h'.objs.size = none := I3.hok.fresh (Nat.le_refl _)
      have here := Heap.get?_push_size h' (o := { cls := .type "tuple", data := .seq acc }) rfl
      refine ⟨.ref h'.objs.size, _, I3.laid (t' := tk) (o := .frz _ (.tup ((List.range n.toNat).map fun i : Nat => V.int (i : Int)))) (fun b o e => Heap.get?_push_of_some _ e) (Nat.le_refl _) ⟨here, ?_, acc.toList, hv, _, here, rfl, _, rfl⟩, rfl, k _ _ rfl hf⟩
      rw [List.length_map, List.length_range]
      exact le1000 (by omega)
/-! ### calls of defs -/
/-- what a def promises: the function's answer -/
def spW (P : Program) (w : World) (K : PySem.W.Frag) (mg : Str → Option Value) (n : Nat) (F : Fn) : Sp := fun vs H Q E => vs.length = n ∧ ∃ Z B m ws, So ⟨P, w, K, mg, Z⟩ H B m ∧ WVs ⟨P, w, K, mg, Z⟩ H B vs ws ∧ PostE ⟨P, w, K, mg, Z⟩ E B H (F ws m) Q
def fCall (n : Nat) (F : Fn) (fs : FA) : FE := fun r m => (fs r m).bind fun ws m1 => if ws.length = n then F ws m1 else .bad
theorem we_call {CX : CXT} {k n : Nat} {f : Addr} {fd : FuncData} {ps : List Str} {F : Fn} {x : Str} {p : Pos} {fs : FA} (FO : FnOk X.prog X.w X.K X.mg X.base CX k f fd ps (spW X.prog X.w X.K X.mg n F)) (hr : Room k X.A) (hg : Gl X x) (hm : X.mg x = some (.ref f)) (hk : PySem.W.keepIn X.K (.ref f) = true) (hb : Binds X.K fd ps [])
    (hx : Passes CX X E) (ha : WA X E (e :: es) fs) (hdb : (x == ("__debug__" : Str)) = false := by decide) (he : starEach (e :: es) X.env = (false, eval e X.env) :: starEach es X.env := by rfl) (hpl : (backTo pos (starEach es X.env)).any (·.1) = false := by rfl) :
    WE X E (.Call (.Name x p) (e :: es) [] pos) (fCall n F fs) :=
  ⟨fun pins s σ H Q I ⟨Z, B, r, m, sl, so, q⟩ => (pe_call FO hr hg hm hk hb .nil hx ha hdb he hpl).run pins s σ H Q I
    ⟨Z, B, r, m, sl, so, q.step fun ws m1 xs H1 B1 l1 s1 r1 q1 => by
      split at q1
      · rename_i z
        show spW _ _ _ _ n F (xs ++ []) H1 Q E
        rw [List.append_nil]
        exact ⟨by rw [r1.length]; exact z, Z, B1, m1, ws, s1, r1, q1⟩
      · exact q1.elim⟩⟩
end
end Wy
set_option Elab.async false
set_option linter.all false
set_option maxRecDepth 100000
set_option maxHeartbeats 4000000
/-! W7: what is walked; targets; comprehensions. -/
namespace Wy
open PySem PySem.Spec PyProof.Rows L2
/-! ### equal data, equal things -/
mutual
def pdb : PyData → PyData → Bool
  | .none, .none => true
  | .bool a, .bool b => a == b
  | .int a, .int b => a == b
  | .str a, .str b => decide (a = b)
  | .list a, .list b => pdbs a b
  | .tuple a, .tuple b => pdbs a b
  | .dict a, .dict b => pdbk a b
  | _, _ => false
def pdbs : List PyData → List PyData → Bool
  | [], [] => true
  | a :: as, b :: bs => pdb a b && pdbs as bs
  | _, _ => false
def pdbk : List (PyData × PyData) → List (PyData × PyData) → Bool
  | [], [] => true
  | (a, c) :: as, (b, d) :: bs => pdb a b && pdb c d && pdbk as bs
  | _, _ => false
end
mutual
theorem pdb_eq : ∀ (a b : PyData), pdb a b = true → a = b
  | .none, b, h => by cases b <;> first | rfl | simp [pdb] at h
  | .bool a, b, h => by cases b <;> simp_all [pdb]
  | .int a, b, h => by cases b <;> simp_all [pdb]
  | .str a, b, h => by cases b <;> simp_all [pdb]
  | .list a, b, h => by
    cases b with
    | list b => rw [pdbs_eq a b (by simpa [pdb] using h)]
    | _ => simp [pdb] at h
  | .tuple a, b, h => by
    cases b with
    | tuple b => rw [pdbs_eq a b (by simpa [pdb] using h)]
    | _ => simp [pdb] at h
  | .dict a, b, h => by
    cases b with
    | dict b => rw [pdbk_eq a b (by simpa [pdb] using h)]
    | _ => simp [pdb] at h
theorem pdbs_eq : ∀ (a b : List PyData), pdbs a b = true → a = b
  | [], b, h => by cases b <;> first | rfl | simp [pdbs] at h
  | a :: as, b, h => by
    cases b with
    | nil => simp [pdbs] at h
    | cons b bs =>
      have h' : pdb a b = true ∧ pdbs as bs = true := by simpa [pdbs] using h
      rw [pdb_eq a b h'.1, pdbs_eq as bs h'.2]
theorem pdbk_eq : ∀ (a b : List (PyData × PyData)), pdbk a b = true → a = b
  | [], b, h => by cases b <;> first | rfl | simp [pdbk] at h
  | (a, c) :: as, b, h => by
    cases b with
    | nil => simp [pdbk] at h
    | cons b bs =>
      obtain ⟨b, d⟩ := b
      have h' : (pdb a b = true ∧ pdb c d = true) ∧ pdbk as bs = true := by simpa [pdbk] using h
      rw [pdb_eq a b h'.1.1, pdb_eq c d h'.1.2, pdbk_eq as bs h'.2]
end
mutual
theorem pdb_refl : ∀ a : PyData, pdb a a = true
  | .none => rfl
  | .bool a => by simp [pdb]
  | .int a => by simp [pdb]
  | .str a => by simp [pdb]
  | .list a => by rw [pdb]; exact pdbs_refl a
  | .tuple a => by rw [pdb]; exact pdbs_refl a
  | .dict a => by rw [pdb]; exact pdbk_refl a
theorem pdbs_refl : ∀ a : List PyData, pdbs a a = true
  | [] => rfl
  | a :: as => by rw [pdbs, pdb_refl a, pdbs_refl as]; rfl
theorem pdbk_refl : ∀ a : List (PyData × PyData), pdbk a a = true
  | [] => rfl
  | (a, c) :: as => by rw [pdbk, pdb_refl a, pdb_refl c, pdbk_refl as]; rfl
end
def pdbi : List (Int × PyData) → List (Int × PyData) → Bool
  | [], [] => true
  | (a, c) :: as, (b, d) :: bs => decide (a = b) && (pdb c d && pdbi as bs)
  | _, _ => false
theorem pdbi_eq : ∀ {as bs : List (Int × PyData)}, pdbi as bs = true → as = bs
  | [], [], _ => rfl
  | (a, c) :: as, (b, d) :: bs, h => by
    rw [pdbi, Bool.and_eq_true, Bool.and_eq_true, decide_eq_true_eq] at h
    rw [h.1, pdb_eq c d h.2.1, pdbi_eq h.2.2]
  | [], _ :: _, h => by cases h
  | _ :: _, [], h => by simp [pdbi] at h
mutual
def wbb : W → W → Bool
  | .d a, .d b => pdb a b
  | .loc i, .loc j => decide (i = j)
  | .wt a, .wt b => wbbs a b
  | .di a, .di b => pdbi a b
  | .dv k a, .dv l b => pdbs k l && wbbs a b
  | _, _ => false
def wbbs : List W → List W → Bool
  | [], [] => true
  | a :: as, b :: bs => wbb a b && wbbs as bs
  | _, _ => false
end
mutual
theorem wbb_eq : ∀ {a b : W}, wbb a b = true → a = b
  | .d a, b, h => by
    cases b with
    | d b => rw [wbb] at h; rw [pdb_eq a b h]
    | _ => simp [wbb] at h
  | .loc i, b, h => by
    cases b with
    | loc j => rw [wbb, decide_eq_true_eq] at h; rw [h]
    | _ => simp [wbb] at h
  | .wt a, b, h => by
    cases b with
    | wt b => rw [wbb] at h; rw [wbbs_eq h]
    | _ => simp [wbb] at h
  | .di a, b, h => by
    cases b with
    | di b => rw [wbb] at h; rw [pdbi_eq h]
    | _ => simp [wbb] at h
  | .dv k a, b, h => by
    cases b with
    | dv l b => rw [wbb, Bool.and_eq_true] at h; rw [pdbs_eq k l h.1, wbbs_eq h.2]
    | _ => simp [wbb] at h
theorem wbbs_eq : ∀ {a b : List W}, wbbs a b = true → a = b
  | [], b, h => by
    cases b with
    | nil => rfl
    | cons _ _ => simp [wbbs] at h
  | a :: as, b, h => by
    cases b with
    | nil => simp [wbbs] at h
    | cons b bs =>
      rw [wbbs, Bool.and_eq_true] at h
      rw [wbb_eq h.1, wbbs_eq h.2]
end
def wbk : List (PyData × W) → List (PyData × W) → Bool
  | [], [] => true
  | (a, c) :: as, (b, d) :: bs => pdb a b && (wbb c d && wbk as bs)
  | _, _ => false
theorem wbk_eq : ∀ {as bs : List (PyData × W)}, wbk as bs = true → as = bs
  | [], [], _ => rfl
  | (a, c) :: as, (b, d) :: bs, h => by
    rw [wbk, Bool.and_eq_true, Bool.and_eq_true] at h
    rw [pdb_eq a b h.1, wbb_eq h.2.1, wbk_eq h.2.2]
  | [], _ :: _, h => by cases h
  | _ :: _, [], h => by simp [wbk] at h
def insb : List (Str × PyData) → List (Str × PyData) → Bool
  | [], [] => true
  | (f, a) :: as, (g, b) :: bs => decide (f = g) && (pdb a b && insb as bs)
  | _, _ => false
theorem insb_eq : ∀ {as bs : List (Str × PyData)}, insb as bs = true → as = bs
  | [], [], _ => rfl
  | (f, a) :: as, (g, b) :: bs, h => by
    rw [insb, Bool.and_eq_true, Bool.and_eq_true, decide_eq_true_eq] at h
    rw [h.1, pdb_eq a b h.2.1, insb_eq h.2.2]
  | [], _ :: _, h => by cases h
  | _ :: _, [], h => by simp [insb] at h
def obb : Ob → Ob → Bool
  | .lst a, .lst b => pdbs a b
  | .dct a, .dct b => pdbk a b
  | .dci a, .dci b => pdbi a b
  | .dcv a, .dcv b => wbk a b
  | .ins x a, .ins y b => decide (x = y) && insb a b
  | _, _ => false
theorem obb_eq {a b : Ob} (h : obb a b = true) : a = b := by
  cases a with
  | lst a => cases b with
    | lst b => rw [pdbs_eq _ _ h]
    | _ => cases h
  | dct a => cases b with
    | dct b => rw [pdbk_eq _ _ h]
    | _ => cases h
  | dci a => cases b with
    | dci b => rw [pdbi_eq h]
    | _ => cases h
  | dcv a => cases b with
    | dcv b => rw [wbk_eq h]
    | _ => cases h
  | ins x a => cases b with
    | ins y b =>
      rw [obb, Bool.and_eq_true, decide_eq_true_eq] at h
      rw [h.1, insb_eq h.2]
    | _ => cases h
/-! ### what is walked -/
/-- the items; a thing of the store that must stand meanwhile -/
structure ItS where
  items : List W
  src : Option (Nat × Ob)
def stands (src : Option (Nat × Ob)) (m : Mu) : Bool := match src with
  | none => true
  | some (n, o) => match m[n]? with
    | some o' => obb o' o
    | none => false
/-- the world goes on, but for the things of Z -/
structure LeZ (Z : List Addr) (B : List Addr) (H : Hp) (B' : List Addr) (H' : Hp) : Prop where
  keep : ∀ a o, a ∉ B → a ∉ Z → (∀ ps, o ≠ .tbl ps) → H a = some o → H' a = some o
  trk : ∀ a, H a ≠ none → H' a ≠ none
  ext : ∃ C, B' = B ++ C ∧ ∀ a ∈ C, H a = none
theorem Le.z {Z B B' : List Addr} {H H' : Hp} (l : Le B H B' H') : LeZ Z B H B' H' := ⟨fun a o h _ n e => l.keep a o h n e, l.trk, l.ext⟩
theorem LeZ.out {Z B B1 : List Addr} {H H1 : Hp} (l : LeZ Z B H B1 H1) {a : Addr} (h : a ∉ B) (s : H a ≠ none) : a ∉ B1 := by
  obtain ⟨C, rfl, hC⟩ := l.ext
  intro z
  rcases List.mem_append.mp z with z | z
  · exact h z
  · exact s (hC a z)
theorem LeZ.rd {Z B B1 : List Addr} {H H1 : Hp} (l : LeZ Z B H B1 H1) {a : Addr} {u : HO} (h : a ∉ B) (hz : a ∉ Z) (n : ∀ ps, u ≠ .tbl ps) (r : Rd H a u) : Rd H1 a u := by
  rcases r with r | ⟨o, r⟩
  · exact .inl (l.keep a u h hz n r)
  · exact .inr ⟨o, l.keep a _ h hz (fun _ z => nomatch z) r⟩
theorem LeZ.trans {Z B B1 B2 : List Addr} {H H1 H2 : Hp} (l : LeZ Z B H B1 H1) (m : LeZ Z B1 H1 B2 H2) : LeZ Z B H B2 H2 := by
  refine ⟨fun a u h hz k r => m.keep a u (l.out h (by rw [r]; exact fun z => nomatch z)) hz k (l.keep a u h hz k r), fun a h => m.trk a (l.trk a h), ?_⟩
  obtain ⟨C, rfl, hC⟩ := l.ext
  obtain ⟨C2, rfl, hC2⟩ := m.ext
  refine ⟨C ++ C2, by simp, fun a z => ?_⟩
  rcases List.mem_append.mp z with z | z
  · exact hC a z
  · exact Classical.byContradiction fun e => l.trk a e (hC2 a z)
/-- the hidden things may be more, if they are new -/
def Hid (p : Pl) (H : Hp) (Z : List Addr) : Prop := ∀ a ∈ Z, a ∈ p.Z ∨ H a = none
abbrev Pl.at (p : Pl) (Z : List Addr) : Pl := { p with Z := Z }
structure ItOk (p : Pl) (J : It) (H0 : Hp) (B0 : List Addr) (its : ItS) : Prop where
  ex : ∃ (G : Hp → Prop) (Y : Nat → Hp → V → Hp → Prop), Walk J its.items.length G Y ∧
    (∀ H B m Z, LeZ p.Z B0 H0 B H → Hid p H0 Z → So (p.at Z) H B m → stands its.src m = true → G H) ∧
    ∀ i H x H' B m Z, LeZ p.Z B0 H0 B H → Hid p H0 Z → So (p.at Z) H B m → stands its.src m = true → i < its.items.length → G H → Y i H x H' → Le B H B H' ∧ So (p.at Z) H' B m ∧ ∃ w, its.items[i]? = some w ∧ WV (p.at Z) H' B x w
abbrev FI := Rh → Mu → R ItS
abbrev RI : Pl → Hp → List Addr → It → ItS → Prop := fun p H B J its => ItOk p J H B its
def WI (X : Cx) (E : XK) (tg e : Expr) (f : FI) : Prop := PI X tg e (rd RI X E f)
section
variable {p : Pl} {H H1 : Hp} {B B1 : List Addr} {Z : List Addr}
theorem Off.mz (l : LeZ p.Z B H B1 H1) (z : Hid p H Z) {a : Addr} (h : Off p B a) (s : H a ≠ none) : Off (p.at Z) B1 a := ⟨l.out h.1 s, fun q => by
  rcases z a q with e | e
  · exact h.2 e
  · exact s e⟩
theorem SqLS.mz {a : Addr} {xs : List V} (l : LeZ p.Z B H B1 H1) (z : Hid p H Z) (h : SqLS p H B a xs) : SqLS (p.at Z) H1 B1 a xs := ⟨Off.mz l z h.1 (Rd_some h.2), l.rd h.1.1 h.1.2 (fun _ z => nomatch z) h.2⟩
theorem SqTK.mz {a : Addr} {xs : List V} (l : LeZ p.Z B H B1 H1) (z : Hid p H Z) (h : SqTK p H B a xs) : SqTK (p.at Z) H1 B1 a xs := by
  rcases h with ⟨h, o, d, r⟩ | h
  · exact .inl ⟨Off.mz l z h (by rw [r]; exact fun z => nomatch z), o, d, l.keep a _ h.1 h.2 (fun _ z => nomatch z) r⟩
  · exact .inr h
theorem SqTS.mz {a : Addr} {xs : List V} (l : LeZ p.Z B H B1 H1) (z : Hid p H Z) (h : SqTS p H B a xs) : SqTS (p.at Z) H1 B1 a xs := by
  rcases h with ⟨h, r⟩ | h
  · exact .inl ⟨Off.mz l z h (Rd_some r), l.rd h.1 h.2 (fun _ z => nomatch z) r⟩
  · exact .inr h
mutual
theorem DV.mz (l : LeZ p.Z B H B1 H1) (z : Hid p H Z) : ∀ {v : V} {x : PyData}, DV p H B v x → DV (p.at Z) H1 B1 v x
  | _, _, .non => .non
  | _, _, .bl b => .bl b
  | _, _, .int i => .int i
  | _, _, .str x => .str x
  | _, _, .lst h r => .lst (SqLS.mz l z h) (DVs.mz l z r)
  | _, _, .tup h r => .tup (SqTK.mz l z h) (DVs.mz l z r)
  | _, _, .dct h r k s c n => .dct (Off.mz l z h (Rd_some r)) (l.rd h.1 h.2 dcT_tbl r) (DVk.mz l z k) s c n
theorem DVs.mz (l : LeZ p.Z B H B1 H1) (z : Hid p H Z) : ∀ {v : List V} {x : List PyData}, DVs p H B v x → DVs (p.at Z) H1 B1 v x
  | _, _, .nil => .nil
  | _, _, .cons h r => .cons (DV.mz l z h) (DVs.mz l z r)
theorem DVk.mz (l : LeZ p.Z B H B1 H1) (z : Hid p H Z) : ∀ {v : List (NestedKey × Addr × V)} {x : List (PyData × PyData)}, DVk p H B v x → DVk (p.at Z) H1 B1 v x
  | _, _, .nil => .nil
  | _, _, .cons e k c a v r => .cons e k c (DV.mz l z a) (DV.mz l z v) (DVk.mz l z r)
end
theorem DVi.mz (l : LeZ p.Z B H B1 H1) (z : Hid p H Z) : ∀ {v : List (Int × V)} {x : List (Int × PyData)}, DVi p H B v x → DVi (p.at Z) H1 B1 v x
  | _, _, .nil => .nil
  | _, _, .cons h r => .cons (DV.mz l z h) (DVi.mz l z r)
theorem DKs.mz (l : LeZ p.Z B H B1 H1) (z : Hid p H Z) : ∀ {v : List (NestedKey × Addr × V)} {x : List PyData}, DKs p H B v x → DKs (p.at Z) H1 B1 v x
  | _, _, .nil => .nil
  | _, _, .cons e k c a r => .cons e k c (DV.mz l z a) (DKs.mz l z r)
mutual
theorem WV.mz (l : LeZ p.Z B H B1 H1) (z : Hid p H Z) : ∀ {v : V} {x : W}, WV p H B v x → WV (p.at Z) H1 B1 v x
  | _, _, .d h => .d (DV.mz l z h)
  | _, _, .loc (n := n) h => .loc (by
      obtain ⟨C, rfl, _⟩ := l.ext
      rw [List.getElem?_append_left (List.getElem?_eq_some_iff.mp h).1]; exact h)
  | _, _, .wt h r => .wt (SqTS.mz l z h) (WVs.mz l z r)
  | _, _, .di h r k s c => .di (Off.mz l z h (Rd_some r)) (l.rd h.1 h.2 diT_tbl r) (DVi.mz l z k) s c
  | _, _, .dv h r k ws s c n => .dv (Off.mz l z h (Rd_some r)) (l.rd h.1 h.2 dcT_tbl r) (DKs.mz l z k) (WVs.mz l z ws) s c n
theorem WVs.mz (l : LeZ p.Z B H B1 H1) (z : Hid p H Z) : ∀ {v : List V} {x : List W}, WVs p H B v x → WVs (p.at Z) H1 B1 v x
  | _, _, .nil => .nil
  | _, _, .cons h r => .cons (WV.mz l z h) (WVs.mz l z r)
end
theorem DWk.mz {n : Nat} (l : LeZ p.Z B H B1 H1) (z : Hid p H Z) : ∀ {v : List (NestedKey × Addr × V)} {x : List (PyData × W)}, DWk p H B n v x → DWk (p.at Z) H1 B1 n v x
  | _, _, .nil => .nil
  | _, _, .cons e k c a b v r => .cons e k c (DV.mz l z a) b (WV.mz l z v) (DWk.mz l z r)
/-- what is carried over to another heap -/
structure Car (p : Pl) (H H1 : Hp) (B : List Addr) : Prop where
  dv : ∀ v x, DV p H B v x → DV p H1 B v x
  tup : ∀ a xs, SqTS p H B a xs → SqTS p H1 B a xs
  up : ∀ a u, Off p B a → Rd H a u → Rd H1 a u
theorem Car.dvi (c : Car p H H1 B) : ∀ {v : List (Int × V)} {x : List (Int × PyData)}, DVi p H B v x → DVi p H1 B v x
  | _, _, .nil => .nil
  | _, _, .cons h r => .cons (c.dv _ _ h) (Car.dvi c r)
theorem Car.dks (c : Car p H H1 B) : ∀ {v : List (NestedKey × Addr × V)} {x : List PyData}, DKs p H B v x → DKs p H1 B v x
  | _, _, .nil => .nil
  | _, _, .cons e k z a r => .cons e k z (c.dv _ _ a) (Car.dks c r)
mutual
theorem Car.wv (c : Car p H H1 B) : ∀ {v : V} {x : W}, WV p H B v x → WV p H1 B v x
  | _, _, .d h => .d (c.dv _ _ h)
  | _, _, .loc h => .loc h
  | _, _, .wt h r => .wt (c.tup _ _ h) (Car.wvs c r)
  | _, _, .di h r k s z => .di h (c.up _ _ h r) (Car.dvi c k) s z
  | _, _, .dv h r k ws s z n => .dv h (c.up _ _ h r) (Car.dks c k) (Car.wvs c ws) s z n
theorem Car.wvs (c : Car p H H1 B) : ∀ {v : List V} {x : List W}, WVs p H B v x → WVs p H1 B v x
  | _, _, .nil => .nil
  | _, _, .cons h r => .cons (Car.wv c h) (Car.wvs c r)
end
theorem Car.dwk {n : Nat} (c : Car p H H1 B) : ∀ {v : List (NestedKey × Addr × V)} {x : List (PyData × W)}, DWk p H B n v x → DWk p H1 B n v x
  | _, _, .nil => .nil
  | _, _, .cons e k z a b v r => .cons e k z (c.dv _ _ a) b (c.wv v) (Car.dwk c r)
theorem DVs.ws : ∀ {v : List V} {x : List PyData}, DVs p H B v x → WVs p H B v (x.map W.d)
  | _, _, .nil => .nil
  | _, _, .cons h r => .cons (.d h) (DVs.ws r)
/-- the thing at a place of the store, as it stands -/
theorem stands_at {m : Mu} {n : Nat} {o : Ob} {a : Addr} (so : So p H B m) (h : B[n]? = some a) (s : stands (some (n, o)) m = true) : ObR p H B a o := by
  obtain ⟨o', ho, r⟩ := so.obj h
  have s' : (match m[n]? with | some o' => obb o' o | none => false) = true := s
  rw [ho] at s'
  rw [← obb_eq s']
  exact r
theorem LeZ.get {Z : List Addr} (l : LeZ Z B H B1 H1) {n : Nat} {a : Addr} (h : B[n]? = some a) : B1[n]? = some a := by
  obtain ⟨C, rfl, _⟩ := l.ext
  rw [List.getElem?_append_left (List.getElem?_eq_some_iff.mp h).1]
  exact h
/-- a list of the store, walked -/
theorem it_loc {n : Nat} {a : Addr} {ds : List PyData} (h : B[n]? = some a) : ItOk p (Itl p.K a) H B ⟨ds.map W.d, some (n, .lst ds)⟩ := by
  refine ⟨fun H' => ∃ xs, SqL p.K H' a xs ∧ xs.length = ds.length, fun i H' x H'' => H'' = H' ∧ ∀ xs, SqL p.K H' a xs → xs[i]? = some x, ⟨?_, ?_, ?_⟩, ?_, ?_⟩
  · rintro i H' hi ⟨xs, q, e⟩
    have hi' : i < xs.length := by rw [e]; simpa using hi
    exact ⟨xs, xs[i], q, by simp [hi']⟩
  · rintro H' ⟨xs, q, e⟩
    exact ⟨xs, q, by rw [e]; simp⟩
  · rintro i H' x H'' _ _ y
    exact y
  · intro H' B' m Z l z so st
    obtain ⟨xs, h1, h2⟩ := stands_at so (l.get h) st
    exact ⟨xs, .inl (.inl h1), h2.length⟩
  · rintro i H' x H'' B' m Z l z so st hi g ⟨rfl, y⟩
    obtain ⟨xs, h1, h2⟩ := stands_at so (l.get h) st
    have hi' : i < ds.length := by simpa using hi
    obtain ⟨v, e1, e2⟩ := h2.get (i := i) (x := ds[i]) (by simp [hi'])
    have e3 := y xs (.inl (.inl h1))
    rw [e1] at e3
    cases e3
    exact ⟨Le.refl, so, .d ds[i], by simp [hi'], .d e2⟩
/-- a list that stays -/
theorem it_lst {a : Addr} {xs : List V} {ws : List W} (h : SqLS p H B a xs) (r : WVs p H B xs ws) : ItOk p (Itl p.K a) H B ⟨ws, none⟩ := by
  have hl : xs.length = ws.length := r.length
  refine ⟨_, _, by rw [← hl]; exact walk_list, fun H' B' m Z l z so st => (SqLS.mz l z h).sq, ?_⟩
  rintro i H' x H'' B' m Z l z so st hi g ⟨rfl, y⟩
  obtain ⟨v, e1, e2⟩ := r.get (i := i) (x := ws[i]) (by simp [hi])
  rw [e1] at y
  cases y
  exact ⟨Le.refl, so, ws[i], by simp [hi], WV.mz l z e2⟩
theorem it_tup {a : Addr} {xs : List V} {ws : List W} (h : SqTS p H B a xs) (r : WVs p H B xs ws) : ItOk p (Itt p.K a) H B ⟨ws, none⟩ := by
  have hl : xs.length = ws.length := r.length
  refine ⟨_, _, by rw [← hl]; exact walk_tup, fun H' B' m Z l z so st => (SqTS.mz l z h).sq, ?_⟩
  rintro i H' x H'' B' m Z l z so st hi g ⟨rfl, y⟩
  obtain ⟨v, e1, e2⟩ := r.get (i := i) (x := ws[i]) (by simp [hi])
  rw [e1] at y
  cases y
  exact ⟨Le.refl, so, ws[i], by simp [hi], WV.mz l z e2⟩
def rangeW (lo : Int) (n : Nat) : List W := (List.range n).map fun i : Nat => W.d (.int (lo + i))
theorem it_rng {lo : Int} {n : Nat} : ItOk p (Itr lo n) H B ⟨rangeW lo n, none⟩ := by
  have hl : (rangeW lo n).length = n := by simp [rangeW]
  refine ⟨_, _, by rw [hl]; exact walk_range, fun _ _ _ _ _ _ _ _ => trivial, ?_⟩
  rintro i H' x H'' B' m Z l z so st hi g ⟨rfl, rfl⟩
  have hi' : i < n := by rw [← hl]; exact hi
  exact ⟨Le.refl, so, .d (.int (lo + i)), by simp [rangeW, hi'], .d (.int _)⟩
/-- a new pair -/
theorem pair_new {m : Mu} {T : Addr} {x y : V} {u w : W} {Z : List Addr} (so : So (p.at Z) H B m) (hT : H T = none) (h1 : WV (p.at Z) H B x u) (h2 : WV (p.at Z) H B y w) :
    Le B H B (upd H T (.tup [x, y])) ∧ So (p.at Z) (upd H T (.tup [x, y])) B m ∧ WV (p.at Z) (upd H T (.tup [x, y])) B (.ref T) (.wt [u, w]) :=
  ⟨le_laid hT, so.laid hT, .wt (.inl ⟨so.out hT, .inl upd_same⟩) (.cons (h1.mono (le_laid hT)) (.cons (h2.mono (le_laid hT)) .nil))⟩
def enumW (ws : List W) : List W := (List.range ws.length).filterMap fun i : Nat => (ws[i]?).map fun w => W.wt [.d (.int i), w]
theorem enumW_go : ∀ (n : Nat) (ws : List W), n ≤ ws.length → ((List.range n).filterMap fun i : Nat => (ws[i]?).map fun w => W.wt [.d (.int i), w]).length = n ∧ ∀ i w, i < n → ws[i]? = some w → ((List.range n).filterMap fun i : Nat => (ws[i]?).map fun w => W.wt [.d (.int i), w])[i]? = some (W.wt [.d (.int i), w]) := by
  intro n ws
  induction n with
  | zero => exact fun _ => ⟨rfl, fun i w h => absurd h (by omega)⟩
  | succ n ih =>
    intro hn
    obtain ⟨h1, h2⟩ := ih (by omega)
    have hg : ws[n]? = some ws[n] := by simp [show n < ws.length by omega]
    rw [List.range_succ, List.filterMap_append]
    have e : (List.filterMap (fun i : Nat => (ws[i]?).map fun w => W.wt [.d (.int i), w]) [n]) = [W.wt [.d (.int n), ws[n]]] := by simp [hg]
    rw [e]
    refine ⟨by rw [List.length_append, h1]; rfl, fun i w hi hw => ?_⟩
    by_cases q : i < n
    · rw [List.getElem?_append_left (by omega)]
      exact h2 i w q hw
    · have e2 : i = n := by omega
      subst e2
      rw [List.getElem?_append_right (by omega), h1, Nat.sub_self]
      rw [hg] at hw
      cases hw
      rfl
theorem enumW_len (ws : List W) : (enumW ws).length = ws.length := (enumW_go ws.length ws (Nat.le_refl _)).1
theorem enumW_at {ws : List W} {i : Nat} {w : W} (h : ws[i]? = some w) : (enumW ws)[i]? = some (W.wt [.d (.int i), w]) := (enumW_go ws.length ws (Nat.le_refl _)).2 i w (List.getElem?_eq_some_iff.mp h).1 h
theorem it_enL {a : Addr} {xs : List V} {ws : List W} (h : SqLS p H B a xs) (r : WVs p H B xs ws) : ItOk p (Ite p.K a) H B ⟨enumW ws, none⟩ := by
  have hl : xs.length = ws.length := r.length
  refine ⟨_, _, by rw [enumW_len, ← hl]; exact walk_enum, fun H' B' m Z l z so st => (SqLS.mz l z h).sq, ?_⟩
  rintro i H' v H'' B' m Z l z so st hi g ⟨T, x, y, rfl, hT, rfl, hx, hy⟩
  have hi' : i < ws.length := by rw [← enumW_len]; exact hi
  obtain ⟨v, e1, e2⟩ := r.get (i := i) (x := ws[i]) (by simp [hi'])
  dsimp only at hx hy
  rw [e1] at hy
  cases hx
  cases hy
  obtain ⟨n1, n2, n3⟩ := pair_new so hT (.d (.int (i : Int))) (WV.mz l z e2)
  exact ⟨n1, n2, _, enumW_at (by simp [hi']), n3⟩
theorem it_enT {a : Addr} {xs : List V} {ws : List W} (h : SqTS p H B a xs) (r : WVs p H B xs ws) : ItOk p (ItE p.K a) H B ⟨enumW ws, none⟩ := by
  have hl : xs.length = ws.length := r.length
  refine ⟨fun H' => SqT p.K H' a xs, YPair (fun i => some (.int (i : Nat))) (fun i => xs[i]?), ⟨fun i H' hi q => ?_, fun H' q => ⟨xs, q, ?_⟩, fun i H' v H'' _ q y => ?_⟩, fun H' B' m Z l z so st => (SqTS.mz l z h).sq, ?_⟩
  · have hi' : i < xs.length := by rw [hl, ← enumW_len]; exact hi
    exact ⟨xs, xs[i], q, by simp [hi']⟩
  · show xs.length ≤ (enumW ws).length
    rw [enumW_len, hl]
    exact Nat.le_refl _
  · obtain ⟨T, x, h1, h2, h3, h4⟩ := y
    exact ⟨T, .int (i : Nat), x, h1, h2, h3, rfl, h4 xs q⟩
  · rintro i H' v H'' B' m Z l z so st hi g ⟨T, x, y, rfl, hT, rfl, hx, hy⟩
    have hi' : i < ws.length := by rw [← enumW_len]; exact hi
    obtain ⟨v, e1, e2⟩ := r.get (i := i) (x := ws[i]) (by simp [hi'])
    dsimp only at hx hy
    rw [e1] at hy
    cases hx
    cases hy
    obtain ⟨n1, n2, n3⟩ := pair_new so hT (.d (.int (i : Int))) (WV.mz l z e2)
    exact ⟨n1, n2, _, enumW_at (by simp [hi']), n3⟩
def zipW (us ws : List W) : List W := List.zipWith (fun u w => W.wt [u, w]) us ws
theorem it_zpL {a b : Addr} {xs ys : List V} {us ws : List W} (h : SqLS p H B a xs) (r : WVs p H B xs us) (h2 : SqLS p H B b ys) (r2 : WVs p H B ys ws) : ItOk p (Itz p.K a b) H B ⟨zipW us ws, none⟩ := by
  have hl : (zipW us ws).length = min xs.length ys.length := by rw [r.length, r2.length]; simp [zipW]
  refine ⟨fun H' => SqL p.K H' a xs ∧ SqL p.K H' b ys, _, by rw [hl]; exact walk_zip rfl, fun H' B' m Z l z so st => ⟨(SqLS.mz l z h).sq, (SqLS.mz l z h2).sq⟩, ?_⟩
  rintro i H' v H'' B' m Z l z so st hi g ⟨T, x, y, rfl, hT, rfl, hx, hy⟩
  have hi' : i < us.length ∧ i < ws.length := by simpa [zipW, Nat.lt_min] using hi
  obtain ⟨v1, e1, e2⟩ := r.get (i := i) (x := us[i]) (by simp [hi'.1])
  obtain ⟨v2, e3, e4⟩ := r2.get (i := i) (x := ws[i]) (by simp [hi'.2])
  dsimp only at hx hy
  rw [e1] at hx
  rw [e3] at hy
  cases hx
  cases hy
  obtain ⟨n1, n2, n3⟩ := pair_new so hT (WV.mz l z e2) (WV.mz l z e4)
  exact ⟨n1, n2, _, by simp [zipW, List.getElem?_zipWith, hi'.1, hi'.2], n3⟩
theorem it_zpT {a b : Addr} {xs ys : List V} {us ws : List W} (h : SqTS p H B a xs) (r : WVs p H B xs us) (h2 : SqTS p H B b ys) (r2 : WVs p H B ys ws) : ItOk p (RZ.ItzT p.K a b) H B ⟨zipW us ws, none⟩ := by
  have hl : (zipW us ws).length = min xs.length ys.length := by rw [r.length, r2.length]; simp [zipW]
  refine ⟨fun H' => SqT p.K H' a xs ∧ SqT p.K H' b ys, YPair (fun i => xs[i]?) (fun i => ys[i]?), ⟨fun i H' hi q => ?_, fun H' q => ⟨xs, ys, q.1, q.2, ?_⟩, fun i H' v H'' _ q y => ?_⟩, fun H' B' m Z l z so st => ⟨(SqTS.mz l z h).sq, (SqTS.mz l z h2).sq⟩, ?_⟩
  · rw [hl] at hi
    have h1 : i < xs.length := by omega
    have h2 : i < ys.length := by omega
    exact ⟨xs, ys, xs[i], ys[i], q.1, q.2, by simp [h1], by simp [h2]⟩
  · show xs.length ≤ (zipW us ws).length ∨ ys.length ≤ (zipW us ws).length
    rw [hl]
    omega
  · obtain ⟨T, x, c, h1, h2, h3, h4, h5⟩ := y
    exact ⟨T, x, c, h1, h2, h3, h4 xs q.1, h5 ys q.2⟩
  · rintro i H' v H'' B' m Z l z so st hi g ⟨T, x, y, rfl, hT, rfl, hx, hy⟩
    have hi' : i < us.length ∧ i < ws.length := by simpa [zipW, Nat.lt_min] using hi
    obtain ⟨v1, e1, e2⟩ := r.get (i := i) (x := us[i]) (by simp [hi'.1])
    obtain ⟨v2, e3, e4⟩ := r2.get (i := i) (x := ws[i]) (by simp [hi'.2])
    dsimp only at hx hy
    rw [e1] at hx
    rw [e3] at hy
    cases hx
    cases hy
    obtain ⟨n1, n2, n3⟩ := pair_new so hT (WV.mz l z e2) (WV.mz l z e4)
    exact ⟨n1, n2, _, by simp [zipW, List.getElem?_zipWith, hi'.1, hi'.2], n3⟩
end
end Wy
set_option Elab.async false
set_option linter.all false
set_option maxRecDepth 100000
set_option maxHeartbeats 4000000
/-! W7d: the keys of a dict that is data, one after another. -/
namespace Wy
open PySem PySem.Spec PyProof.Rows L2
def Itx (P : Program) (w : World) (d : Addr) (o : Obj) (kvs : List (NestedKey × Addr × V)) : It :=
  ⟨fun i H => Rd H d (dcT P w d o kvs) ∧ i < kvs.length, fun i H x H' => H' = H ∧ ∃ q, kvs[i]? = some q ∧ x = .ref q.2.1, fun i H => Rd H d (dcT P w d o kvs) ∧ kvs.length ≤ i⟩
section
variable {X : Cx} {pins : List (Addr × Obj)} {σ : L2.St} {H : Hp} {s : Shared} {d : Addr} {o : Obj} {kvs : List (NestedKey × Addr × V)}
theorem dct_facts (I : Inv X pins σ H s) (h : Rd H d (dcT X.prog X.w d o kvs)) : s.heap.get? d = some o ∧ o.ExactDict ∧ ∃ (es : Array DictEntry) (ep : Nat), o.data = .dict es ep ∧ es.size = kvs.length ∧
    ∀ (i : Nat) (q : NestedKey × Addr × V), kvs[i]? = some q → ∃ en : DictEntry, es[i]? = some en ∧ en.key = .ref q.2.1 := by
  obtain ⟨⟨es, ep, e1, e2, e3, pr⟩, _⟩ := (show ObjOk X.prog X.w H s.heap d (dcT X.prog X.w d o kvs) from h.ok I.hok)
  refine ⟨e1, e2, es, ep, e3, ?_, fun i q hq => ?_⟩
  · have l := Paired.length pr
    rw [Array.length_toList] at l
    exact l.symm
  · obtain ⟨en, h1, _, h3, _⟩ := paired_get pr hq
    exact ⟨en, by rw [← Array.getElem?_toList]; exact h1, h3⟩
theorem turn_x {P : Program} {w : World} {K : PySem.W.Frag} {tg : Expr} {es : Array DictEntry} {ep : Nat} (it : Addr) (hod : o.data = .dict es ep) : Turn P w K tg (Itx P w d o kvs) [it] it (fun i h => h.IsKeyIter it d i kvs.length ep) := by
  refine ⟨List.mem_singleton.mpr rfl, fun i h st b hb => ?_, fun i h h' st k => st.at fun oi e => k it (List.mem_singleton.mpr rfl) oi e, ?_, ?_, fun A i s Q E st h => ?_⟩
  · rw [List.mem_singleton.mp hb]
    obtain ⟨oi, e, c, dd⟩ := st
    exact ⟨oi, e, fun v z => by rw [dd] at z; cases z⟩
  · rintro X rfl rfl rfl hc i pins s σ H E I hf st ⟨hd, hi⟩
    obtain ⟨f0, f1, f2, f3, f4, f5⟩ := hf it (List.mem_singleton.mpr rfl)
    obtain ⟨hgd, hx, es', ep', hdt, hsz, ent⟩ := dct_facts I hd
    obtain ⟨rfl, rfl⟩ := dict_ep hod hdt
    have hkv : kvs[i]? = some kvs[i] := List.getElem?_eq_getElem hi
    obtain ⟨en, hen, hkey⟩ := ent i _ hkv
    refine next_key_item st hgd hdt hsz hen fun h' st' sb => ?_
    have J : Inv X pins σ H { s with heap := h' } := I.turned (t' := s.toks) (fun b ob hb e => (sb.2 b hb).trans e) f0 f1 f3 f4 f5
    obtain ⟨oi, e, c, dd⟩ := id st'
    exact ⟨en.key, rfl, go_of (s := { s with heap := h' }) e c dd (by decide) ⟨.ref kvs[i].2.1, H, J, hkey, ⟨rfl, _, hkv, rfl⟩, st', fun b hb => (hf b hb).1⟩⟩
  · rintro X rfl rfl rfl hc i pins s σ H E I hf st ⟨hd, hi⟩
    obtain ⟨f0, f1, f2, f3, f4, f5⟩ := hf it (List.mem_singleton.mpr rfl)
    obtain ⟨hgd, hx, es', ep', hdt, hsz, ent⟩ := dct_facts I hd
    obtain ⟨rfl, rfl⟩ := dict_ep hod hdt
    exact next_key_end (I.ok.hd hc) st hgd hdt hsz hi fun h' eb => ⟨rfl, I.turned (t' := s.toks) (fun b ob hb e => eb b ob hb e) f0 f1 f3 f4 f5⟩
  · exact wpAny_pyIter_slot st.typeIs F.slot_dict_keyiterator_iter (wpAny_call_entry F.slot_dict_keyiterator_iter st.typeIs F.entry_dict_keyiterator_iter (show wpAny _ _ (ret (.ref it)) _ _ s from wpAny_pure ⟨_, rfl, "dict_keyiterator", _, st.typeIs, F.slot_dict_keyiterator_next.lookup, h⟩) (F.args_dict_keyiterator_iter_1 _))
/-- the dict at hand -/
def iDct (P : Program) (w : World) (td : TE) : TI := fun σ H R => td σ H fun x H1 => ∃ d o kvs, x = .ref d ∧ (d == sysModules) = false ∧ Rd H1 d (dcT P w d o kvs) ∧ R (Itx P w d o kvs) H1
theorem pi_dct {tg e : Expr} {td : TE} (he : PE X e td) : PI X tg e (iDct X.prog X.w td) := by
  refine ⟨fun pins s σ H R I h => thn (he.run pins s σ H _ I h) ?_⟩
  rintro u s1 ⟨x, H1, I1, rx, d, o, kvs, rfl, hs, hd, q⟩
  obtain rfl : u = Value.ref d := rx
  obtain ⟨hgd, hx, es, ep, hdt, hsz, ent⟩ := dct_facts I1 hd
  refine iter_keys hs hgd hx hdt (pi_one (tk := s1.toks) I1 _ (turn_x _ hdt) ⟨_, Heap.get?_push_size _ rfl, rfl, ?_⟩ q)
  rw [hsz] <;> rfl
end
section
variable {p : Pl} {H : Hp} {B : List Addr}
theorem DVk.get : ∀ {kvs : List (NestedKey × Addr × V)} {es : List (PyData × PyData)} {i : Nat} {e : PyData × PyData}, DVk p H B kvs es → es[i]? = some e → ∃ q, kvs[i]? = some q ∧ DV p H B (.ref q.2.1) e.1
  | _, _, _, _, .nil, h => by simp at h
  | _, _, 0, _, .cons _ _ _ a _ _, h => by
    simp at h
    subst h
    exact ⟨_, rfl, a⟩
  | _, _, i + 1, e, .cons _ _ _ _ _ t, h => by
    obtain ⟨q, h1, h2⟩ := DVk.get (i := i) (e := e) t (by simpa using h)
    exact ⟨q, by simpa using h1, h2⟩
theorem it_dct {a : Addr} {o : Obj} {kvs : List (NestedKey × Addr × V)} {es : List (PyData × PyData)} (h1 : Off p B a) (h2 : Rd H a (dcT p.P p.w a o kvs)) (h3 : DVk p H B kvs es) : ItOk p (Itx p.P p.w a o kvs) H B ⟨es.map fun e => W.d e.1, none⟩ := by
  have hl := DVk.length h3
  refine ⟨fun H' => Rd H' a (dcT p.P p.w a o kvs), fun i H' x H'' => H'' = H' ∧ ∃ q, kvs[i]? = some q ∧ x = .ref q.2.1, ⟨fun i H' hi g => ⟨g, by rw [hl]; simpa using hi⟩, fun H' g => ⟨g, by rw [hl]; simp⟩, fun i H' x H'' _ _ y => y⟩, fun H' B' m Z l z so st => l.rd h1.1 h1.2 dcT_tbl h2, ?_⟩
  rintro i H' x H'' B' m Z l z so st hi g ⟨rfl, q, hq, rfl⟩
  have hi' : i < es.length := by simpa using hi
  obtain ⟨q', e1, e2⟩ := DVk.get (i := i) (e := es[i]) h3 (List.getElem?_eq_getElem hi')
  rw [hq] at e1
  cases e1
  exact ⟨Le.refl, so, .d es[i].1, by simp [hi'], .d (DV.mz l z e2)⟩
end
end Wy
set_option Elab.async false
set_option linter.all false
set_option maxRecDepth 100000
set_option maxHeartbeats 4000000
/-! W8: sources of walks; targets; list comprehensions. -/
namespace Wy
open PySem PySem.Spec PyProof.Rows L2
/-! ### sources -/
section
variable {X : Cx} {E : XK} {tg a b e : Expr} {fa fb : FE} {pos : Pos}
def seqIt (w : W) (m1 : Mu) : R ItS := match w with
  | .d (.list ds) => .ok ⟨ds.map .d, none⟩ m1
  | .d (.tuple ds) => .ok ⟨ds.map .d, none⟩ m1
  | .d (.dict es) => .ok ⟨es.map fun e => .d e.1, none⟩ m1
  | .wt ws => .ok ⟨ws, none⟩ m1
  | .loc n => match m1[n]? with
    | some (.lst ds) => .ok ⟨ds.map .d, some (n, .lst ds)⟩ m1
    | _ => .bad
  | _ => .bad
def fSeq (f : FE) : FI := fun r m => (f r m).bind seqIt
theorem wi_seq (h : WE X E e fa) : WI X E tg e (fSeq fa) := by
  constructor
  rintro pins s σ H Q I ⟨Z, B, r, m, sl, so, q⟩
  unfold fSeq at q
  cases ef : fa r m with
  | bad => rw [ef] at q; exact q.elim
  | exn x m1 =>
    rw [ef] at q
    exact (pi_list (tg := tg) h).run pins s σ H Q I ⟨Z, B, r, m, sl, so, by rw [ef]; exact q⟩
  | ok w m1 =>
    rw [ef] at q
    replace q : Post (RI (plX X Z)) (plX X Z) E B H (seqIt w m1) Q := q
    unfold seqIt at q
    split at q
    · rename_i ds
      refine (pi_list (tg := tg) h).run pins s σ H Q I ⟨Z, B, r, m, sl, so, ?_⟩
      rw [ef]
      intro v H' B' l s' wv
      cases wv with
      | d dv => cases dv with
        | lst h1 h2 => exact ⟨_, rfl, ⟨_, h1.sq⟩, q _ H' B' l s' (it_lst h1 h2.ws)⟩
    · rename_i ds
      refine (pi_tup (tg := tg) h).run pins s σ H Q I ⟨Z, B, r, m, sl, so, ?_⟩
      rw [ef]
      intro v H' B' l s' wv
      cases wv with
      | d dv => cases dv with
        | tup h1 h2 => exact ⟨_, rfl, ⟨_, h1.sq⟩, q _ H' B' l s' (it_tup h1.s h2.ws)⟩
    · rename_i es
      refine (pi_dct (tg := tg) h).run pins s σ H Q I ⟨Z, B, r, m, sl, so, ?_⟩
      rw [ef]
      intro v H' B' l s' wv
      cases wv with
      | d dv => cases dv with
        | dct h1 h2 h3 h4 h5 h6 => exact ⟨_, _, _, rfl, h4, h2, q _ H' B' l s' (it_dct h1 h2 h3)⟩
    · rename_i ws
      refine (pi_tup (tg := tg) h).run pins s σ H Q I ⟨Z, B, r, m, sl, so, ?_⟩
      rw [ef]
      intro v H' B' l s' wv
      cases wv with
      | wt h1 h2 => exact ⟨_, rfl, ⟨_, h1.sq⟩, q _ H' B' l s' (it_tup h1 h2)⟩
    · rename_i n
      split at q
      · rename_i ds e1
        refine (pi_list (tg := tg) h).run pins s σ H Q I ⟨Z, B, r, m, sl, so, ?_⟩
        rw [ef]
        intro v H' B' l s' wv
        cases wv with
        | loc hb =>
          obtain ⟨o, ho, rr⟩ := s'.obj hb
          rw [e1] at ho
          cases ho
          obtain ⟨xs, h1, h2⟩ := rr
          exact ⟨_, rfl, ⟨xs, .inl (.inl h1)⟩, q _ H' B' l s' (it_loc hb)⟩
      · exact q.elim
    · exact q.elim
def fRng1 (f : FE) : FI := fun r m => (f r m).bind fun w m1 => match w with
  | .d (.int n) => if -(2 ^ 62) ≤ n ∧ n < 2 ^ 62 then .ok ⟨rangeW 0 n.toNat, none⟩ m1 else .bad
  | _ => .bad
theorem wi_rng1 {p : Pos} (ha : WE X E a fa) (hg : Gl X "range") (hm : X.mg "range" = none) (hs : starEach [a] X.env = [(false, eval a X.env)] := by rfl) : WI X E tg (.Call (.Name "range" p) [a] [] pos) (fRng1 fa) :=
  ⟨fun pins s σ H Q I ⟨Z, B, r, m, sl, so, q⟩ => (pi_range1 hg hm (pa_cons ha pa_nil hs) hs).run pins s σ H Q I
    ⟨Z, B, r, m, sl, so, q.step fun w m1 x H1 B1 l1 s1 r1 q1 => by
      split at q1
      · rename_i n
        split at q1
        · rename_i z
          cases r1 with
          | d r1 => exact ⟨n, by rw [int_inv r1], z.1, z.2, Post.done (RelG := RI (plX X Z)) q1 s1 it_rng⟩
        · exact q1.elim
      · exact q1.elim⟩⟩
/-- the items of a sequence that stays -/
def seqW : W → Option (List W)
  | .d (.list ds) => some (ds.map .d)
  | .d (.tuple ds) => some (ds.map .d)
  | .wt ws => some ws
  | _ => none
def isL : W → Bool
  | .d (.list _) => true
  | _ => false
theorem seq_of {p : Pl} {H : Hp} {B : List Addr} {v : V} {w : W} {ws : List W} (h : WV p H B v w) (e : seqW w = some ws) : ∃ a xs, v = .ref a ∧ ((isL w = true ∧ SqLS p H B a xs) ∨ (isL w = false ∧ SqTS p H B a xs)) ∧ WVs p H B xs ws := by
  unfold seqW at e
  split at e
  · cases e
    cases h with
    | d h => cases h with
      | lst h1 h2 => exact ⟨_, _, rfl, .inl ⟨rfl, h1⟩, h2.ws⟩
  · cases e
    cases h with
    | d h => cases h with
      | tup h1 h2 => exact ⟨_, _, rfl, .inr ⟨rfl, h1.s⟩, h2.ws⟩
  · cases e
    cases h with
    | wt h1 h2 => exact ⟨_, _, rfl, .inr ⟨rfl, h1⟩, h2⟩
  · cases e
def fEnum (f : FE) : FI := fun r m => (f r m).bind fun w m1 => match seqW w with
  | some ws => .ok ⟨enumW ws, none⟩ m1
  | none => .bad
theorem wi_enum {p tpos : Pos} {elts : List Expr} {kk : Nat} (ha : WE X E a fa) (hg : Gl X "enumerate") (hm : X.mg "enumerate" = none) (hs : starEach [a] X.env = [(false, eval a X.env)] := by rfl) : WI X E (.Tuple elts kk tpos) (.Call (.Name "enumerate" p) [a] [] pos) (fEnum fa) :=
  ⟨fun pins s σ H Q I ⟨Z, B, r, m, sl, so, q⟩ => (pi_enA hg hm (pa_cons ha pa_nil hs) hs).run pins s σ H Q I
    ⟨Z, B, r, m, sl, so, q.step fun w m1 x H1 B1 l1 s1 r1 q1 => by
      cases e : seqW w with
      | none => rw [e] at q1; exact q1.elim
      | some ws =>
        rw [e] at q1
        obtain ⟨a', xs, rfl, h, h2⟩ := seq_of r1 e
        rcases h with ⟨_, h⟩ | ⟨_, h⟩
        · exact ⟨a', xs, rfl, .inl ⟨h.sq, Post.done (RelG := RI (plX X Z)) q1 s1 (it_enL h h2)⟩⟩
        · exact ⟨a', xs, rfl, .inr ⟨h.sq, Post.done (RelG := RI (plX X Z)) q1 s1 (it_enT h h2)⟩⟩⟩⟩
def fZip (f g : FE) : FI := fun r m => (f r m).bind fun w m1 => (g r m1).bind fun u m2 => match seqW w, seqW u with
  | some ws, some us => if isL w = isL u then .ok ⟨zipW ws us, none⟩ m2 else .bad
  | _, _ => .bad
theorem wi_zip {p tpos : Pos} {elts : List Expr} {kk : Nat} (ha : WE X E a fa) (hb : WE X E b fb) (hg : Gl X "zip") (hm : X.mg "zip" = none) (hs : starEach [a, b] X.env = (false, eval a X.env) :: starEach [b] X.env := by rfl) (hs2 : starEach [b] X.env = (false, eval b X.env) :: starEach [] X.env := by rfl) (hpl : (backTo pos (starEach [b] X.env)).any (·.1) = false := by rfl) :
    WI X E (.Tuple elts kk tpos) (.Call (.Name "zip" p) [a, b] [] pos) (fZip fa fb) :=
  ⟨fun pins s σ H Q I ⟨Z, B, r, m, sl, so, q⟩ => (RZ.pi_zipA hg hm (pa_cons ha (pa_cons hb pa_nil hs2) hs) hs hpl).run pins s σ H Q I
    ⟨Z, B, r, m, sl, so, q.step fun w m1 x H1 B1 l1 s1 r1 q1 => ⟨Z, B1, r, m1, sl.mono l1, s1, q1.step fun u m2 y H2 B2 l2 s2 r2 q2 => by
      split at q2
      · rename_i ws us e1 e2
        split at q2
        · rename_i z
          obtain ⟨a1, xs, rfl, h, h2⟩ := seq_of (r1.mono l2) e1
          obtain ⟨a2, ys, rfl, k, k2⟩ := seq_of r2 e2
          rcases h with ⟨i1, h⟩ | ⟨i1, h⟩ <;> rcases k with ⟨i2, k⟩ | ⟨i2, k⟩
          · exact ⟨a1, a2, xs, ys, rfl, .inl ⟨h.sq, k.sq, Post.done (RelG := RI (plX X Z)) q2 s2 (it_zpL h h2 k k2)⟩⟩
          · rw [i1, i2] at z; cases z
          · rw [i1, i2] at z; cases z
          · exact ⟨a1, a2, xs, ys, rfl, .inr ⟨h.sq, k.sq, Post.done (RelG := RI (plX X Z)) q2 s2 (it_zpT h h2 k k2)⟩⟩
        · exact q2.elim
      · exact q2.elim⟩⟩⟩
end
/-! ### targets -/
inductive Pat where
  | nm (i : Nat)
  | tp (ps : List Pat)
mutual
def patG (K : PySem.W.Frag) : Pat → TG
  | .nm i => gName i
  | .tp ps => gTup K ps.length (patGs K ps)
def patGs (K : PySem.W.Frag) : List Pat → TGs
  | [] => gNil
  | t :: ts => gCons (patG K t) (patGs K ts)
end
def tupW : W → Option (List W)
  | .d (.tuple ds) => some (ds.map .d)
  | .wt ws => some ws
  | _ => none
mutual
def patF : Pat → W → Rh → Option Rh
  | .nm i, w, r => some (r.set i (some w))
  | .tp ps, w, r => match tupW w with
    | some ws => patFs ps ws r
    | none => none
def patFs : List Pat → List W → Rh → Option Rh
  | [], [], r => some r
  | t :: ts, w :: ws, r => (patF t w r).bind fun r' => patFs ts ws r'
  | _, _, _ => none
end
mutual
def patIn (vs : List Nat) : Pat → Bool
  | .nm i => vs.contains i
  | .tp ps => patsIn vs ps
def patsIn (vs : List Nat) : List Pat → Bool
  | [] => true
  | t :: ts => patIn vs t && patsIn vs ts
end
def wipeR (r : Rh) : List Nat → Rh
  | [] => r
  | v :: vs => (wipeR r vs).set v none
theorem wipe_set {σ : Xs} {i : Nat} {v : Option V} : ∀ {vs : List Nat}, i ∈ vs → wipe (σ.set i v) vs = wipe σ vs
  | [], h => by cases h
  | j :: vs, h => by
    unfold wipe
    by_cases e : j = i
    · subst e
      have go : ∀ us : List Nat, (wipe (σ.set j v) us).set j none = (wipe σ us).set j none := by
        intro us
        induction us with
        | nil => exact List.set_set ..
        | cons u us ih =>
          unfold wipe
          by_cases e : u = j
          · subst e
            rw [ih]
          · rw [List.set_comm _ _ e, ih, List.set_comm _ _ e]
      exact go vs
    · rcases List.mem_cons.mp h with q | q
      · exact absurd q.symm e
      · rw [wipe_set q]
theorem wipe_wipe {σ : Xs} {vs : List Nat} : wipe (wipe σ vs) vs = wipe σ vs := by
  have go : ∀ us : List Nat, (∀ u ∈ us, u ∈ vs) → wipe (wipe σ us) vs = wipe σ vs := by
    intro us
    induction us with
    | nil => exact fun _ => rfl
    | cons u us ih =>
      intro h
      show wipe ((wipe σ us).set u none) vs = _
      rw [wipe_set (h u List.mem_cons_self)]
      exact ih fun x hx => h x (List.mem_cons_of_mem _ hx)
  exact go vs fun _ h => h
theorem Sl.wipe {p : Pl} {H : Hp} {B : List Addr} {σ : Xs} {r : Rh} (s : Sl p H B σ r) : ∀ vs : List Nat, Sl p H B (L2.wipe σ vs) (wipeR r vs)
  | [] => s
  | v :: vs => by
    have ih := Sl.wipe s vs
    refine ⟨by show ((L2.wipe σ vs).set v none).length = ((wipeR r vs).set v none).length; rw [List.length_set, List.length_set, ih.len], fun j y e => ?_⟩
    have e' : ((wipeR r vs).set v none)[j]? = some (some y) := e
    show ∃ u, ((L2.wipe σ vs).set v none)[j]? = some (some u) ∧ _
    by_cases q : v = j
    · subst q
      by_cases z : v < (wipeR r vs).length
      · rw [List.getElem?_set_self z] at e'; cases e'
      · rw [List.getElem?_eq_none (by simpa using z)] at e'; cases e'
    · rw [List.getElem?_set_ne q] at e' ⊢
      exact ih.at_ j y e'
theorem tup_of {p : Pl} {H : Hp} {B : List Addr} {v : V} {w : W} {ws : List W} (h : WV p H B v w) (e : tupW w = some ws) : ∃ a xs, v = .ref a ∧ SqTS p H B a xs ∧ WVs p H B xs ws := by
  unfold tupW at e
  split at e
  · cases e
    cases h with
    | d h => cases h with
      | tup h1 h2 => exact ⟨_, _, rfl, h1.s, h2.ws⟩
  · cases e
    cases h with
    | wt h1 h2 => exact ⟨_, _, rfl, h1, h2⟩
  · cases e
theorem patFs_len : ∀ {ps : List Pat} {ws : List W} {r r' : Rh}, patFs ps ws r = some r' → ws.length = ps.length
  | [], [], _, _, _ => rfl
  | [], _ :: _, _, _, h => by simp [patFs] at h
  | _ :: _, [], _, _, h => by simp [patFs] at h
  | t :: ts, w :: ws, r, r', h => by
    rw [patFs] at h
    obtain ⟨r1, _, h2⟩ := Option.bind_eq_some_iff.mp h
    rw [List.length_cons, List.length_cons, patFs_len h2]
mutual
theorem pat_ok {p : Pl} {H : Hp} {B : List Addr} {vs : List Nat} : ∀ (pt : Pat) {v : V} {w : W} {σ : Xs} {r r' : Rh} {Q : Xs → Hp → Prop}, patIn vs pt = true → Sl p H B σ r → WV p H B v w → patF pt w r = some r' →
    (∀ σ', Sl p H B σ' r' → wipe σ' vs = wipe σ vs → Q σ' H) → patG p.K pt v σ H Q
  | .nm i, v, w, σ, r, r', Q, hi, sl, wv, e, k => by
    rw [patF] at e
    cases e
    have hi' : i ∈ vs := by rw [patIn] at hi; simpa using hi
    rw [patG]
    exact k _ (sl.set wv) (wipe_set hi')
  | .tp ps, v, w, σ, r, r', Q, hi, sl, wv, e, k => by
    rw [patF] at e
    cases et : tupW w with
    | none => rw [et] at e; cases e
    | some ws =>
      rw [et] at e
      obtain ⟨a, xs, rfl, h1, h2⟩ := tup_of wv et
      rw [patG]
      exact ⟨a, xs, rfl, h1.sq, by rw [h2.length]; exact patFs_len e, pats_ok ps (by rw [patIn] at hi; exact hi) sl h2 e k⟩
theorem pats_ok {p : Pl} {H : Hp} {B : List Addr} {vs : List Nat} : ∀ (ps : List Pat) {xs : List V} {ws : List W} {σ : Xs} {r r' : Rh} {Q : Xs → Hp → Prop}, patsIn vs ps = true → Sl p H B σ r → WVs p H B xs ws → patFs ps ws r = some r' →
    (∀ σ', Sl p H B σ' r' → wipe σ' vs = wipe σ vs → Q σ' H) → patGs p.K ps xs σ H Q
  | [], xs, ws, σ, r, r', Q, hi, sl, wv, e, k => by
    cases wv with
    | nil => rw [patFs] at e; cases e; rw [patGs]; exact ⟨rfl, k _ sl rfl⟩
    | cons _ _ => simp [patFs] at e
  | t :: ts, xs, ws, σ, r, r', Q, hi, sl, wv, e, k => by
    cases wv with
    | nil => simp [patFs] at e
    | cons h1 h2 =>
      rw [patFs] at e
      obtain ⟨r1, e1, e2⟩ := Option.bind_eq_some_iff.mp e
      rw [patsIn, Bool.and_eq_true] at hi
      rw [patGs]
      exact ⟨_, _, rfl, pat_ok t hi.1 sl h1 e1 fun σ1 s1 z1 => pats_ok ts hi.2 s1 h2 e2 fun σ2 s2 z2 => k σ2 s2 (z2.trans z1)⟩
end
/-! ### comprehensions -/
def R.nx {α : Type} : R α → R α
  | .ok a m => .ok a m
  | _ => .bad
def compF (src : Option (Nat × Ob)) (asg : W → Option Rh) (body : Rh → List PyData → Mu → R (List PyData)) : List W → List PyData → Mu → R (List PyData)
  | [], acc, m => if stands src m = true then .ok acc m else .bad
  | w :: ws, acc, m => if stands src m = true then (match asg w with
    | some r2 => (body r2 acc m).bind fun acc' m' => compF src asg body ws acc' m'
    | none => .bad) else .bad
def elemF (ft : FT) (fe : FE) (r : Rh) (acc : List PyData) (m : Mu) : R (List PyData) := (ft r m).nx.bind fun k m1 => if k = true then (fe r m1).nx.bind fun x m2 => (match x with
    | .d y => if acc.length < 1000000 then .ok (acc ++ [y]) m2 else .bad
    | _ => .bad) else .ok acc m1
def fComp (fi : FI) (pt : Pat) (vs : List Nat) (ft : FT) (fe : FE) : FE := fun r m => (fi r m).bind fun its m1 =>
  (compF its.src (fun w => patF pt w (wipeR r vs)) (elemF ft fe) its.items [] m1).nx.bind fun acc m2 => .ok (.d (.list acc)) m2
def bodyF2 (ft : FT) (fi1 : FI) (pt1 : Pat) (vs1 : List Nat) (ft1 : FT) (fe : FE) (r2 : Rh) (acc : List PyData) (m : Mu) : R (List PyData) := (ft r2 m).nx.bind fun k m1 => if k = true then (fi1 r2 m1).nx.bind fun its1 m2 =>
    compF its1.src (fun w => patF pt1 w (wipeR r2 vs1)) (elemF ft1 fe) its1.items acc m2 else .ok acc m1
def fComp2 (fi : FI) (pt : Pat) (vs : List Nat) (ft : FT) (fi1 : FI) (pt1 : Pat) (vs1 : List Nat) (ft1 : FT) (fe : FE) : FE := fun r m => (fi r m).bind fun its m1 =>
  (compF its.src (fun w => patF pt w (wipeR r vs)) (bodyF2 ft fi1 pt1 vs1 ft1 fe) its.items [] m1).nx.bind fun acc m2 => .ok (.d (.list acc)) m2
/-- a walk, by what each turn is to do -/
theorem walk_W {J : It} {n : Nat} {G : Hp → Prop} {Y : Nat → Hp → V → Hp → Prop} (w : Walk J n G Y) {Fin : Hp → Prop} (step : V → Hp → (Hp → Prop) → Prop) (Pv : Nat → Hp → Prop) (H0 : Hp) (h0 : Pv 0 H0) (hG : ∀ i H, i ≤ n → Pv i H → G H)
    (hs : ∀ i x H H', i < n → Pv i H → Y i H x H' → step x H' (Pv (i + 1))) (hd : ∀ H, Pv n H → Fin H) :
    ∃ W : Nat → Nat → Hp → Prop, (∃ m, W 0 m H0) ∧ ∀ i m H, W i m H → (J.stop i H ∧ Fin H) ∨ (J.go i H ∧ ∃ Nx : Hp → Prop, (∀ H', Nx H' → ∃ m', m' < m ∧ W (i + 1) m' H') ∧ ∀ x H', J.yld i H x H' → step x H' Nx) := by
  refine ⟨fun i m H => m = n - i ∧ i ≤ n ∧ Pv i H, ⟨n, by simp, Nat.zero_le _, h0⟩, ?_⟩
  rintro i m H ⟨rfl, hi, p⟩
  have g := hG i H hi p
  by_cases hlt : i < n
  · exact .inr ⟨w.goes i H hlt g, Pv (i + 1), fun H' p' => ⟨n - (i + 1), by omega, rfl, hlt, p'⟩, fun x H' y => hs i x H H' hlt p (w.yields i H x H' hlt g y)⟩
  · obtain rfl : i = n := by omega
    exact .inl ⟨w.stops H g, hd H p⟩
/-- the list that is made stands at D -/
structure CW (p : Pl) (B1 : List Addr) (H1 : Hp) (D : Addr) (acc : List PyData) (m : Mu) (B : List Addr) (H : Hp) : Prop where
  le : Le B1 H1 B H
  out : D ∉ B
  at_ : ∃ xs, H D = some (.lst xs) ∧ DVs (p.at (D :: p.Z)) H B xs acc
  so : So (p.at (D :: p.Z)) H B m
section
variable {p : Pl} {B1 B : List Addr} {H1 H : Hp} {D : Addr} {acc : List PyData} {m : Mu}
theorem hid_new (hD : H1 D = none) : Hid p H1 (D :: p.Z) := fun a h => by
  rcases List.mem_cons.mp h with e | e
  · exact .inr (by rw [e]; exact hD)
  · exact .inl e
theorem CW.new (so : So p H1 B1 m) (hD : H1 D = none) : CW p B1 H1 D [] m B1 (upd H1 D (.lst [])) := by
  have o := so.out hD
  refine ⟨le_laid hD, o.1, ⟨[], upd_same, .nil⟩, so.tb.laid hD (fun _ z => nomatch z) (fun _ h => .inl h), so.len, so.nd, fun a h => ?_, fun n a x h1 h2 => ?_⟩
  · rcases List.mem_cons.mp h with e | e
    · rw [e]
      exact ⟨by rw [upd_same]; exact (fun z => nomatch z), o.1⟩
    · exact ⟨(le_laid (B := B1) hD).trk a (so.hid a e).1, (so.hid a e).2⟩
  · have ne : a ≠ D := fun z => by subst z; exact so.trk (List.mem_of_getElem? h1) hD
    have r := so.ob n a x h1 h2
    cases x with
    | lst ds =>
      obtain ⟨xs, h3, h4⟩ := r
      exact ⟨xs, by rw [upd_ne ne]; exact h3, DVs.mz (le_laid hD).z (hid_new hD) h4⟩
    | dct ds =>
      obtain ⟨xs, h3, h4, h5⟩ := r
      exact ⟨xs, by rw [upd_ne ne]; exact h3, DVk.mz (le_laid hD).z (hid_new hD) h4, h5⟩
    | dci es =>
      obtain ⟨vs, h3, h4, h5⟩ := r
      exact ⟨vs, by rw [upd_ne ne]; exact h3, DVi.mz (le_laid hD).z (hid_new hD) h4, h5⟩
    | dcv es =>
      obtain ⟨n', q, h2, h3, h4, h5⟩ := r
      exact ⟨n', q, h2, by rw [upd_ne ne]; exact h3, DWk.mz (le_laid hD).z (hid_new hD) h4, h5⟩
    | ins x fs =>
      obtain ⟨q, h3, h4⟩ := r
      exact ⟨q, by rw [upd_ne ne]; exact h3, DVs.mz (le_laid hD).z (hid_new hD) h4⟩
theorem sub_at {Z : List Addr} (h : ∀ a ∈ p.Z, a ∈ Z) : Sub p B (p.at Z) B := ⟨fun _ q => ⟨q.1, fun z => q.2 (h _ z)⟩, rfl, rfl, rfl⟩
theorem So.less {Z : List Addr} (h : ∀ a ∈ p.Z, a ∈ Z) (so : So (p.at Z) H B m) : So p H B m := by
  refine ⟨so.tb, so.len, so.nd, fun a q => so.hid a (h a q), fun n a x h1 h2 => ?_⟩
  have r := so.ob n a x h1 h2
  cases x with
  | lst ds => obtain ⟨xs, h3, h4⟩ := r; exact ⟨xs, h3, h4.sub (sub_at h)⟩
  | dct ds => obtain ⟨xs, h3, h4, h5⟩ := r; exact ⟨xs, h3, h4.sub (sub_at h), h5⟩
  | dci es => obtain ⟨vs, h3, h4, h5⟩ := r; exact ⟨vs, h3, h4.sub (sub_at h), h5⟩
  | dcv es => obtain ⟨n', q, h2, h3, h4, h5⟩ := r; exact ⟨n', q, h2, h3, h4.sub (sub_at h) (fun _ _ z => z), h5⟩
  | ins x fs => obtain ⟨q, h3, h4⟩ := r; exact ⟨q, h3, h4.sub (sub_at h)⟩
theorem CW.done (so : So p H1 B1 m') (hD : H1 D = none) (c : CW p B1 H1 D acc m B H) : So p H B m ∧ WV p H B (.ref D) (.d (.list acc)) := by
  obtain ⟨xs, h1, h2⟩ := c.at_
  refine ⟨c.so.less fun a h => List.mem_cons_of_mem _ h, .d (.lst ⟨⟨c.out, ?_⟩, .inl h1⟩ (h2.sub (sub_at fun a h => List.mem_cons_of_mem _ h)))⟩
  exact (so.out hD).2
/-- the world goes on beside D -/
theorem CW.go {B' : List Addr} {H' : Hp} {m' : Mu} (hD : H1 D = none) (c : CW p B1 H1 D acc m B H) (l : Le B H B' H') (so : So (p.at (D :: p.Z)) H' B' m') : CW p B1 H1 D acc m' B' H' := by
  obtain ⟨xs, h1, h2⟩ := c.at_
  exact ⟨c.le.trans l, (so.hid D List.mem_cons_self).2, ⟨xs, l.keep D _ c.out (fun _ z => nomatch z) h1, h2.mono l⟩, so⟩
theorem codeN_lst {c U : Addr} {q : Str} {xs : List V} : Wt.CodeN c q U ≠ .lst xs := fun e => by
  unfold Wt.CodeN at e
  cases e
theorem GoodT.over {P : Addr} {xs ys : List V} (g : GoodT H B P) (h : H D = some (.lst xs)) : GoodT (upd H D (.lst ys)) B P := g.step (fun ps e => by
    by_cases z : P = D
    · subst z; rw [upd_same] at e; cases e
    · rw [upd_ne z] at e; exact e) (fun T qs e => by
    have ne : T ≠ D := fun z => by rw [z, h] at e; cases e
    rw [upd_ne ne]; exact e) fun c _ _ e n => by
    have ne : c ≠ D := fun z => by
      rw [z, h] at e
      exact codeN_lst (Option.some.inj e).symm
    exact ⟨by rw [upd_ne ne]; exact e, n⟩
theorem GoodT.add {P : Addr} {xs : List V} (g : GoodT H B P) (h : H D = some (.lst xs)) : GoodT H (B ++ [D]) P := g.step (fun _ e => e) (fun _ _ e => e) fun c _ _ e n => by
    have ne : c ≠ D := fun z => by
      rw [z, h] at e
      exact codeN_lst (Option.some.inj e).symm
    exact ⟨e, fun z => (List.mem_append.mp z).elim n fun z => ne (by simpa using z)⟩
/-- one item more -/
theorem CW.add {y : V} {d : PyData} (hD : H1 D = none) (c : CW p B1 H1 D acc m B H) (hy : DV (p.at (D :: p.Z)) H B y d) : ∃ xs, H D = some (.lst xs) ∧ xs.length = acc.length ∧ CW p B1 H1 D (acc ++ [d]) m B (upd H D (.lst (xs ++ [y]))) := by
  obtain ⟨xs, h1, h2⟩ := c.at_
  have hoff : ∀ a, Off (p.at (D :: p.Z)) B a → a ≠ D := fun a o e => o.2 (by rw [e]; exact List.mem_cons_self)
  have up : ∀ (a : Addr) (u : HO), Off (p.at (D :: p.Z)) B a → Rd H a u → Rd (upd H D (.lst (xs ++ [y]))) a u := fun a u o r => by
    have ne := hoff a o
    rcases r with r | ⟨o', r⟩
    · exact .inl (by rw [upd_ne ne]; exact r)
    · exact .inr ⟨o', by rw [upd_ne ne]; exact r⟩
  have lst : ∀ {a : Addr} {zs : List V}, SqLS (p.at (D :: p.Z)) H B a zs → SqLS (p.at (D :: p.Z)) (upd H D (.lst (xs ++ [y]))) B a zs := fun h => ⟨h.1, up _ _ h.1 h.2⟩
  have tup : ∀ {a : Addr} {zs : List V}, SqTS (p.at (D :: p.Z)) H B a zs → SqTS (p.at (D :: p.Z)) (upd H D (.lst (xs ++ [y]))) B a zs := fun h => by
    rcases h with h | h
    · exact .inl ⟨h.1, up _ _ h.1 h.2⟩
    · exact .inr h
  have tupK : ∀ {a : Addr} {zs : List V}, SqTK (p.at (D :: p.Z)) H B a zs → SqTK (p.at (D :: p.Z)) (upd H D (.lst (xs ++ [y]))) B a zs := fun h => by
    rcases h with ⟨h, o, d, r⟩ | h
    · exact .inl ⟨h, o, d, by rw [upd_ne (hoff _ h)]; exact r⟩
    · exact .inr h
  have dv : (∀ v x, DV (p.at (D :: p.Z)) H B v x → DV (p.at (D :: p.Z)) (upd H D (.lst (xs ++ [y]))) B v x) := by
    intro v x h
    exact DV.rec (motive_1 := fun v x _ => DV (p.at (D :: p.Z)) (upd H D (.lst (xs ++ [y]))) B v x) (motive_2 := fun v x _ => DVs (p.at (D :: p.Z)) (upd H D (.lst (xs ++ [y]))) B v x) (motive_3 := fun v x _ => DVk (p.at (D :: p.Z)) (upd H D (.lst (xs ++ [y]))) B v x)
      .non (fun b => .bl b) (fun i => .int i) (fun x => .str x) (fun h _ r => .lst (lst h) r) (fun h _ r => .tup (tupK h) r) (fun h r _ s z n k => .dct h (up _ _ h r) k s z n) .nil (fun _ _ h r => .cons h r) .nil (fun e k z _ _ _ a v r => .cons e k z a v r) h
  have dvs : ∀ {v : List V} {x : List PyData}, DVs (p.at (D :: p.Z)) H B v x → DVs (p.at (D :: p.Z)) (upd H D (.lst (xs ++ [y]))) B v x := by
    intro v x h
    induction v generalizing x with
    | nil => cases h; exact .nil
    | cons v vs ih => cases h with
      | cons h r => exact .cons (dv _ _ h) (ih r)
  have dvk : ∀ {v : List (NestedKey × Addr × V)} {x : List (PyData × PyData)}, DVk (p.at (D :: p.Z)) H B v x → DVk (p.at (D :: p.Z)) (upd H D (.lst (xs ++ [y]))) B v x := by
    intro v x h
    induction v generalizing x with
    | nil => cases h; exact .nil
    | cons v vs ih => cases h with
      | cons e k z a v r => exact .cons e k z (dv _ _ a) (dv _ _ v) (ih r)
  refine ⟨xs, h1, h2.length, ⟨⟨fun a o ha hk r => ?_, fun a h => ?_, c.le.ext⟩, c.out, ⟨_, upd_same, (dvs h2).append (.cons (dv _ _ hy) .nil)⟩, c.so.tb.over h1, c.so.len, c.so.nd, fun a h => ⟨?_, (c.so.hid a h).2⟩, fun n a x e1 e2 => ?_⟩⟩
  · have ne : a ≠ D := fun e => by subst e; rw [hD] at r; cases r
    rw [upd_ne ne]
    exact c.le.keep a o ha hk r
  · by_cases e : a = D
    · subst e; rw [upd_same]; exact fun z => nomatch z
    · rw [upd_ne e]; exact c.le.trk a h
  · by_cases e : a = D
    · subst e; rw [upd_same]; exact fun z => nomatch z
    · rw [upd_ne e]; exact (c.so.hid a h).1
  · have ne : a ≠ D := fun e => by subst e; exact c.out (List.mem_of_getElem? e1)
    have r := c.so.ob n a x e1 e2
    cases x with
    | lst ds => obtain ⟨zs, h3, h4⟩ := r; exact ⟨zs, by rw [upd_ne ne]; exact h3, dvs h4⟩
    | dct ds => obtain ⟨zs, h3, h4, h5⟩ := r; exact ⟨zs, by rw [upd_ne ne]; exact h3, dvk h4, h5⟩
    | dci es =>
      have car : Car (p.at (D :: p.Z)) H (upd H D (.lst (xs ++ [y]))) B := ⟨dv, fun _ _ h => tup h, up⟩
      obtain ⟨vs, h3, h4, h5⟩ := r
      exact ⟨vs, by rw [upd_ne ne]; exact h3, car.dvi h4, h5⟩
    | dcv es =>
      have car : Car (p.at (D :: p.Z)) H (upd H D (.lst (xs ++ [y]))) B := ⟨dv, fun _ _ h => tup h, up⟩
      obtain ⟨n', q, h2, h3, h4, h5⟩ := r
      exact ⟨n', q, h2, by rw [upd_ne ne]; exact h3, car.dwk h4, h5⟩
    | ins x fs => obtain ⟨q, h3, h4⟩ := r; exact ⟨q, by rw [upd_ne ne]; exact h3, dvs h4⟩
end
end Wy
set_option Elab.async false
set_option linter.all false
set_option maxRecDepth 100000
set_option maxHeartbeats 4000000
/-! W9: list comprehensions; statements; loops; a def. -/
namespace Wy
open PySem PySem.Spec PyProof.Rows L2
section
variable {X : Cx} {E : XK} {p : Pl} {B1 B : List Addr} {H1 H : Hp} {D : Addr} {acc : List PyData} {m : Mu}
/-- the element, and what is kept of it -/
theorem elem_step {X : Cx} {Z : List Addr} (hD : H1 D = none) {ft : FT} {fe : FE} {σ : Xs} {r : Rh} {k : List PyData → Mu → R (List PyData)} {P : R (List PyData) → Prop} {Nx : Hp → Prop} (hb : ¬ P .bad) (hx : ∀ x m, ¬ P (.exn x m)) (c : CW (plX X Z) B1 H1 D acc m B H) (sl : Sl (plX X (D :: Z)) H B σ r)
    (q : P ((elemF ft fe r acc m).bind k)) (nx : ∀ acc' m' B' H', CW (plX X Z) B1 H1 D acc' m' B' H' → LeZ (D :: Z) B H B' H' → P (k acc' m') → Nx H') :
    rd RT X E0 ft σ H fun b H3 => if b = true then rd RE X E0 fe σ H3 fun y H4 => ∃ ac, H4 D = some (.lst ac) ∧ ac.length < sizeLine ∧ Nx (upd H4 D (.lst (ac ++ [y]))) else Nx H3 := by
  refine ⟨D :: Z, B, r, m, sl, c.so, ?_⟩
  unfold elemF at q
  cases e1 : ft r m with
  | bad => rw [e1] at q; exact (hb q).elim
  | exn x m1 => rw [e1] at q; exact (hb q).elim
  | ok b m1 =>
    rw [e1] at q
    rintro b' H3 B3 l3 s3 rfl
    have c3 := c.go hD l3 s3
    cases b' with
    | false => exact iteF (nx acc m1 B3 H3 c3 l3.z q)
    | true =>
      refine iteT ⟨D :: Z, B3, r, m1, sl.mono l3, s3, ?_⟩
      replace q : P (((fe r m1).nx.bind fun x m2 => (match x with
        | .d y => if acc.length < 1000000 then .ok (acc ++ [y]) m2 else .bad
        | _ => .bad : R (List PyData))).bind k) := q
      cases e2 : fe r m1 with
      | bad => rw [e2] at q; exact (hb q).elim
      | exn x m2 => rw [e2] at q; exact (hb q).elim
      | ok w m2 =>
        rw [e2] at q
        intro y H4 B4 l4 s4 wv
        have c4 := c3.go hD l4 s4
        cases wv with
        | d dv =>
          rename_i d
          replace q : P ((if acc.length < 1000000 then R.ok (acc ++ [d]) m2 else .bad).bind k) := q
          by_cases z : acc.length < 1000000
          · rw [if_pos z] at q
            obtain ⟨xs, h1, h2, c5⟩ := c4.add hD dv
            exact ⟨xs, h1, by rw [h2]; exact Nat.lt_of_lt_of_le z mil, nx _ _ _ _ c5 (LeZ.trans (l3.trans l4).z ⟨fun a u _ hz _ rr => by rw [upd_ne fun e => hz (by rw [e]; exact List.mem_cons_self)]; exact rr, fun a ha => by
              by_cases e : a = D
              · subst e; rw [upd_same]; exact fun z => nomatch z
              · rw [upd_ne e]; exact ha, [], by simp, fun _ h => nomatch h⟩) q⟩
          · rw [if_neg z] at q
            exact (hb q).elim
        | loc _ => exact (hb q).elim
        | wt _ _ => exact (hb q).elim
        | di _ _ _ _ _ => exact (hb q).elim
        | dv _ _ _ _ _ _ _ => exact (hb q).elim
/-- a walk that makes the list at D -/
theorem comp_walk {X : Cx} {Z : List Addr} {K : Type} {J : It} {its : ItS} {H0 : Hp} {B0 : List Addr} {Z0 : List Addr} (it : ItOk (plX X Z0) J H0 B0 its) (hD : H1 D = none) (hl0 : ∀ H B, Le B1 H1 B H → True)
    {asg : W → Option Rh} {body : Rh → List PyData → Mu → R (List PyData)} {k : List PyData → Mu → R (List PyData)} {P : R (List PyData) → Prop} {Fin : Hp → Prop} (step : V → Hp → (Hp → Prop) → Prop)
    (hb : ¬ P .bad) (Ok : List Addr → Hp → Prop) (hok : ∀ B H B' H', Ok B H → Le B H B' H' → D ∉ B → Ok B' H') (hokD : ∀ B H xs, Ok B H → H D ≠ none → Ok B (upd H D xs))
    (hle : ∀ B H, Ok B H → LeZ Z0 B0 H0 B H ∧ Hid (plX X Z0) H0 (D :: Z))
    (acc0 : List PyData) (m0 : Mu) (Bs : List Addr) (Hs : Hp) (c0 : CW (plX X Z) B1 H1 D acc0 m0 Bs Hs) (ok0 : Ok Bs Hs) (q0 : P ((compF its.src asg body its.items acc0 m0).bind k))
    (hstep : ∀ (i : Nat) (w : W) (x : V) (acc : List PyData) (m : Mu) (B : List Addr) (H : Hp) (r2 : Rh) (k' : List PyData → Mu → R (List PyData)) (Nx : Hp → Prop), CW (plX X Z) B1 H1 D acc m B H → Ok B H → WV ((plX X Z).at (D :: Z)) H B x w → asg w = some r2 → P ((body r2 acc m).bind k') →
      (∀ acc' m' B' H', CW (plX X Z) B1 H1 D acc' m' B' H' → Ok B' H' → P (k' acc' m') → Nx H') → step x H Nx)
    (hfin : ∀ acc m B H, CW (plX X Z) B1 H1 D acc m B H → Ok B H → P (k acc m) → Fin H) :
    ∃ W : Nat → Nat → Hp → Prop, (∃ m, W 0 m Hs) ∧ ∀ i m H, W i m H → (J.stop i H ∧ Fin H) ∨ (J.go i H ∧ ∃ Nx : Hp → Prop, (∀ H', Nx H' → ∃ m', m' < m ∧ W (i + 1) m' H') ∧ ∀ x H', J.yld i H x H' → step x H' Nx) := by
  obtain ⟨G, Y, wk, hG, hY⟩ := it.ex
  refine walk_W wk step (fun i H => ∃ acc m B, CW (plX X Z) B1 H1 D acc m B H ∧ Ok B H ∧ P ((compF its.src asg body (its.items.drop i) acc m).bind k)) Hs ⟨acc0, m0, Bs, c0, ok0, by rw [List.drop_zero]; exact q0⟩ ?_ ?_ ?_
  · rintro i H hi ⟨acc, m, B, c, o, q⟩
    have st : stands its.src m = true := by
      cases e : stands its.src m with
      | true => rfl
      | false =>
        cases ed : its.items.drop i with
        | nil => rw [ed] at q; simp only [compF, e] at q; exact (hb q).elim
        | cons w ws => rw [ed] at q; simp only [compF, e] at q; exact (hb q).elim
    exact hG H B m (D :: Z) (hle B H o).1 (hle B H o).2 c.so st
  · rintro i x H H' hi ⟨acc, m, B, c, o, q⟩ y
    have ed : its.items.drop i = its.items[i] :: its.items.drop (i + 1) := List.drop_eq_getElem_cons hi
    rw [ed] at q
    have st : stands its.src m = true := by
      cases e : stands its.src m with
      | true => rfl
      | false => simp only [compF, e] at q; exact (hb q).elim
    rw [compF, if_pos st] at q
    obtain ⟨l', s', w, e1, wv⟩ := hY i H x H' B m (D :: Z) (hle B H o).1 (hle B H o).2 c.so st hi (hG H B m (D :: Z) (hle B H o).1 (hle B H o).2 c.so st) y
    have e2 : its.items[i] = w := by
      rw [List.getElem?_eq_getElem hi] at e1
      exact Option.some.inj e1
    rw [e2] at q
    cases ea : asg w with
    | none => rw [ea] at q; exact (hb q).elim
    | some r2 =>
      rw [ea] at q
      refine hstep i w x acc m B H' r2 (fun acc' m' => (compF its.src asg body (its.items.drop (i + 1)) acc' m').bind k) _ (c.go hD l' s') (hok B H B H' o l' c.out) wv ea ?_ fun acc' m' B' H'' c' o' q' => ⟨acc', m', B', c', o', q'⟩
      have asc : ∀ {α β γ : Type} (x : R α) (f : α → Mu → R β) (g : β → Mu → R γ), (x.bind f).bind g = x.bind fun a m => (f a m).bind g := fun x f g => by cases x <;> rfl
      rw [← asc]
      exact q
  · rintro H ⟨acc, m, B, c, o, q⟩
    rw [List.drop_length] at q
    rw [compF] at q
    cases e : stands its.src m with
    | true => rw [if_pos e] at q; exact hfin acc m B H c o q
    | false => simp only [e] at q; exact (hb q).elim
end
section
variable {X : Cx} {E : XK} {elt tg iter tg1 iter1 : Expr} {ifs ifs1 : List Expr} {scope : Scope} {own : List (Str × Nat)} {pos : Pos} {fi fi1 : FI} {pt pt1 : Pat} {ft ft1 : FT} {fe : FE} {vs1 : List Nat}
def WTs (X : Cx) (E : XK) (ifs : List Expr) (f : FT) : Prop := PTs X ifs (rd RT X E f)
def fYes : FT := fun _ m => .ok true m
theorem wts_nil : WTs X E [] fYes := ⟨fun pins s σ H Q I ⟨Z, B, r, m, sl, so, q⟩ => pts_nil.run pins s σ H Q I (Post.done (RelG := RT (plX X Z)) q so rfl)⟩
theorem wts_one {c : Expr} (h : WT X E c ft) : WTs X E [c] ft := pts_one h
abbrev Blk (X : Cx) (scope : Scope) (s : Shared) (H : Hp) (C : Addr) (cl : List (Str × Addr)) (fp : List Addr) : Cx := X.blk s H scope (compEnvC scope cl C X.env) fp
def WP (X : Cx) (tg : Expr) (pt : Pat) : Prop := PG X tg (patG X.K pt)
/-- a comprehension's reading, from what it is wanted for -/
theorem comp_read {σ : Xs} {H : Hp} {Qd : V → Hp → Prop} {Fin : List PyData → Mu → Addr → List Addr → Hp → Prop} {vs : List Nat} {g : R (List PyData) → R W} (hpt : patIn vs pt = true)
    (h : ∃ Z B r m, Sl (plX X Z) H B σ r ∧ So (plX X Z) H B m ∧ PostE (plX X Z) E B H ((fi r m).bind fun its m1 => g (compF its.src (fun w => patF pt w (wipeR r vs)) (elemF ft fe) its.items [] m1)) Qd)
    (hg1 : g .bad = .bad) (hg2 : ∀ x m, g (.exn x m) = .bad)
    (hg3 : ∀ Z B1 H1 D acc m B H0 m1, So (plX X Z) H1 B1 m1 → H1 D = none → CW (plX X Z) B1 H1 D acc m B H0 → PostE (plX X Z) E B1 H1 (g (.ok acc m)) Qd → Qd (.ref D) H0) :
    tLc (rd RI X E fi) (patG X.K pt) (rd RT X E0 ft) (rd RE X E0 fe) vs σ H Qd := by
  obtain ⟨Z, B, r, m, sl, so, q⟩ := h
  refine ⟨Z, B, r, m, sl, so, q.step fun its m1 J H1 B1 l1 s1 itok q1 => fun D hD => ?_⟩
  have hb : ¬ PostE (plX X Z) E B1 H1 (g .bad) Qd := by rw [hg1]; exact fun z => z
  have hx : ∀ x m, ¬ PostE (plX X Z) E B1 H1 (g (.exn x m)) Qd := fun x m => by rw [hg2]; exact fun z => z
  have kid : ∀ x : R (List PyData), x.bind (fun a m => .ok a m) = x := fun x => by cases x <;> rfl
  have hDH : H D = none := Classical.byContradiction fun e => l1.trk D e hD
  refine comp_walk (K := Unit) (P := fun x => PostE (plX X Z) E B1 H1 (g x) Qd) (k := fun a m => .ok a m) (asg := fun w => patF pt w (wipeR r vs)) (body := elemF ft fe) itok hD (fun _ _ _ => trivial) (fun x H' Nx => patG X.K pt x (wipe σ vs) H' fun σ2 H2 => wipe σ2 vs = wipe σ vs ∧ rd RT X E0 ft σ2 H2 fun b H3 =>
    if b = true then rd RE X E0 fe σ2 H3 fun y H4 => ∃ acc, H4 D = some (.lst acc) ∧ acc.length < sizeLine ∧ Nx (upd H4 D (.lst (acc ++ [y]))) else Nx H3) hb (fun B' H' => Le B1 H1 B' H') (fun B H B' H' o l _ => o.trans l) ?_ (fun B' H' o => ⟨o.z, hid_new hD⟩) [] m1 B1 _ (CW.new s1 hD) (le_laid hD) (by rw [kid]; exact q1) ?_ ?_
  · intro B' H' xs o hn
    refine ⟨fun a o' ha hk rr => ?_, fun a ha => ?_, o.ext⟩
    · have ne : a ≠ D := fun e => by subst e; rw [hD] at rr; cases rr
      rw [upd_ne ne]
      exact o.keep a o' ha hk rr
    · by_cases e : a = D
      · subst e; rw [upd_same]; exact fun z => nomatch z
      · rw [upd_ne e]; exact o.trk a ha
  · intro i w x acc m2 B2 H2 r2 k' Nx c o wv ea q2 nx
    have sl2 : Sl (plX X (D :: Z)) H2 B2 (wipe σ vs) (wipeR r vs) := by
      refine Sl.wipe ⟨sl.len, fun j y e => ?_⟩ vs
      obtain ⟨v, e1, e2⟩ := sl.at_ j y e
      exact ⟨v, e1, WV.mz (l1.trans o).z (hid_new hDH) e2⟩
    refine pat_ok (p := plX X (D :: Z)) (vs := vs) pt hpt sl2 wv ea fun σ' sl' hw => ⟨by rw [hw, wipe_wipe], ?_⟩
    exact elem_step (P := fun x => PostE (plX X Z) E B1 H1 (g x) Qd) (k := k') hD hb hx c sl' q2 fun acc' m' B' H' c' _ q' => nx acc' m' B' H' c' c'.le q'
  · intro acc m2 B2 H2 c o q2
    exact hg3 Z B1 H1 D acc m2 B2 H2 m1 s1 hD c q2
theorem we_comp (hc : X.calm = true) (hN : X.N.Nodup) (hi : WI X E tg iter fi) (ok : BlkOk X.N X.env.scope scope own) (hpt : patIn (own.map (·.2)) pt = true)
    (hg : ∀ s H C cl fp, WP (Blk X scope s H C cl fp) tg pt) (ht : ∀ s H C cl fp, WTs (Blk X scope s H C cl fp) E0 ifs ft) (he : ∀ s H C cl fp, WE (Blk X scope s H C cl fp) E0 elt fe) (hs : ∀ x, foldedSetIterable iter X.env x = pure x := by intro _; rfl) :
    WE X E (.ListComp elt [⟨tg, iter, ifs, 0⟩] scope pos) (fComp fi pt (own.map (·.2)) ft fe) :=
  ⟨fun pins s σ H Q I h => (pe_lc (g := patG X.K pt) (tt := rd RT X E0 ft) (te := rd RE X E0 fe) hc hN hi ok hg ht he hs).run pins s σ H Q I (comp_read (fi := fi) (pt := pt) (ft := ft) (fe := fe) (g := fun x => x.nx.bind fun acc m2 => R.ok (W.d (PyData.list acc)) m2) (Fin := fun _ _ _ _ _ => True) hpt h rfl (fun _ _ => rfl) fun Z B1 H1 D acc m B H0 m1 so hD c q => by
    obtain ⟨s2, wv⟩ := c.done so hD
    exact q _ H0 B c.le s2 wv)⟩
end
end Wy
set_option Elab.async false
set_option linter.all false
set_option maxRecDepth 100000
set_option maxHeartbeats 4000000
/-! W10: statements. -/
namespace Wy
open PySem PySem.Spec PyProof.Rows L2
def R.toS {α : Type} : R α → (α → Mu → SR) → SR
  | .ok a m, k => k a m
  | .exn x m, _ => .exn x m
  | .bad, _ => .bad
def SR.andThen : SR → FS → SR
  | .next r m, f => f r m
  | .ret k w m, _ => .ret k w m
  | .brk r m, _ => .brk r m
  | .cnt r m, _ => .cnt r m
  | .exn x m, _ => .exn x m
  | .bad, _ => .bad
def PostS (p : Pl) (E : XK) (B : List Addr) (H : Hp) (x : SR) (D : Ends) : Prop :=
  match x with
  | .next r m => ∀ σ' H' B', Le B H B' H' → So p H' B' m → Sl p H' B' σ' r → D.nx σ' H'
  | .ret _ w m => ∀ v H' B', Le B H B' H' → So p H' B' m → WV p H' B' v w → D.rt v H'
  | .brk r m => ∀ σ' H' B', Le B H B' H' → So p H' B' m → Sl p H' B' σ' r → D.bk σ' H'
  | .cnt r m => ∀ σ' H' B', Le B H B' H' → So p H' B' m → Sl p H' B' σ' r → D.ct σ' H'
  | .exn x m => ∀ cls d H' B', Le B H B' H' → So p H' B' m → XnR p x cls d H' → E cls d H'
  | .bad => False
def rdS (X : Cx) (E : XK) (f : FS) : TS := fun D σ H => ∃ Z B r m, Sl (plX X Z) H B σ r ∧ So (plX X Z) H B m ∧ PostS (plX X Z) E B H (f r m) D
def WS (X : Cx) (E : XK) (st : Stmt) (f : FS) : Prop := PS X st (rdS X E f)
def WSs (X : Cx) (E : XK) (sts : List Stmt) (f : FS) : Prop := PSs X sts (rdS X E f)
section
variable {α β : Type} {RelA : Hp → List Addr → β → α → Prop} {p : Pl} {E : XK} {B B1 : List Addr} {H H1 : Hp} {Q1 : β → Hp → Prop} {D : Ends}
theorem PostS.mono {x : SR} (l : Le B H B1 H1) (h : PostS p E B H x D) : PostS p E B1 H1 x D := by
  cases x with
  | next r m => exact fun σ' H' B' l2 s q => h σ' H' B' (l.trans l2) s q
  | ret k r m => exact fun σ' H' B' l2 s q => h σ' H' B' (l.trans l2) s q
  | brk r m => exact fun σ' H' B' l2 s q => h σ' H' B' (l.trans l2) s q
  | cnt r m => exact fun σ' H' B' l2 s q => h σ' H' B' (l.trans l2) s q
  | exn x m => exact fun c d H' B' l2 s q => h c d H' B' (l.trans l2) s q
  | bad => exact h
theorem PostS.step {x : R α} {g : α → Mu → SR} (h : PostS p E B H (x.toS g) D) (k : ∀ a m1 b H1 B1, Le B H B1 H1 → So p H1 B1 m1 → RelA H1 B1 b a → PostS p E B1 H1 (g a m1) D → Q1 b H1) : Post RelA p E B H x Q1 := by
  cases x with
  | ok a m => exact fun b H' B' l s q => k a m b H' B' l s q (h.mono l)
  | exn x m => exact h
  | bad => exact h
theorem PostS.next {r : Rh} {m : Mu} {σ : Xs} (h : PostS p E B H (.next r m) D) (s : So p H B m) (sl : Sl p H B σ r) : D.nx σ H := h σ H B Le.refl s sl
/-- the end behind the first part -/
theorem PostS.seq {x : SR} {f : FS} {nx : Xs → Hp → Prop} (h : PostS p E B H (x.andThen f) D) (k : ∀ r m σ' H' B', Le B H B' H' → So p H' B' m → Sl p H' B' σ' r → PostS p E B' H' (f r m) D → nx σ' H') : PostS p E B H x { D with nx := nx } := by
  cases x with
  | next r m => exact fun σ' H' B' l s sl => k r m σ' H' B' l s sl (PostS.mono l h)
  | ret k r m => exact h
  | brk r m => exact h
  | cnt r m => exact h
  | exn x m => exact h
  | bad => exact h
end
section
variable {X : Cx} {E : XK} {st : Stmt} {rest : List Stmt} {f g : FS} {e : Expr} {fe : FE} {pos : Pos}
def fNext : FS := fun r m => .next r m
def fThen (f g : FS) : FS := fun r m => (f r m).andThen g
theorem wss_nil : WSs X E [] fNext := ⟨fun pins s σ H D I ⟨Z, B, r, m, sl, so, q⟩ => pss_nil.run pins s σ H D I (PostS.next q so sl)⟩
theorem wss_cons (h1 : WS X E st f) (h2 : WSs X E rest g) : WSs X E (st :: rest) (fThen f g) :=
  ⟨fun pins s σ H D I ⟨Z, B, r, m, sl, so, q⟩ => (pss_cons h1 h2).run pins s σ H D I ⟨Z, B, r, m, sl, so, q.seq fun r' m' σ' H' B' l s' sl' q' => ⟨Z, B', r', m', sl', s', q'⟩⟩⟩
theorem wss_one (h1 : WS X E st f) : WSs X E [st] f := pss_one h1
def fDrop (fe : FE) : FS := fun r m => (fe r m).toS fun _ m1 => .next r m1
theorem ws_expr (he : WE X E e fe) (hs : swapsWith e none pos.line X.env = pure false := by rfl) : WS X E (.Expr e pos) (fDrop fe) :=
  ⟨fun pins s σ H D I ⟨Z, B, r, m, sl, so, q⟩ => (ps_expr he hs).run pins s σ H D I ⟨Z, B, r, m, sl, so, PostS.step q fun a m1 b H1 B1 l1 s1 r1 q1 => PostS.next q1 s1 (sl.mono l1)⟩⟩
def fRet (k : Bool) (fe : FE) : FS := fun r m => (fe r m).toS fun w m1 => .ret k w m1
theorem ws_ret (k : Bool) (he : WE X E e fe) : WS X E (.Return (some e) pos) (fRet k fe) :=
  ⟨fun pins s σ H D I ⟨Z, B, r, m, sl, so, q⟩ => (ps_ret he).run pins s σ H D I ⟨Z, B, r, m, sl, so, PostS.step q fun a m1 b H1 B1 l1 s1 r1 q1 => q1 b H1 B1 Le.refl s1 r1⟩⟩
def fIfS (ft : FT) (f g : FS) : FS := fun r m => (ft r m).toS fun k m1 => match k with
  | true => f r m1
  | false => g r m1
theorem ws_if {c : Expr} {a b : List Stmt} {ft : FT} (hc : WT X E c ft) (ha : WSs X E a f) (hb : WSs X E b g) : WS X E (.If c a b pos) (fIfS ft f g) :=
  ⟨fun pins s σ H D I ⟨Z, B, r, m, sl, so, q⟩ => (ps_if hc ha hb).run pins s σ H D I ⟨Z, B, r, m, sl, so, PostS.step q fun k m1 b H1 B1 l1 s1 r1 q1 => by
    have e : b = k := r1
    subst e
    cases b with
    | true => exact ⟨Z, B1, r, m1, sl.mono l1, s1, q1⟩
    | false => exact ⟨Z, B1, r, m1, sl.mono l1, s1, q1⟩⟩⟩
/-! ### targets -/
mutual
theorem pat_to {p : Pl} {H : Hp} {B : List Addr} : ∀ (pt : Pat) {v : V} {w : W} {σ : Xs} {r r' : Rh} {Q : Xs → Hp → Prop}, Sl p H B σ r → WV p H B v w → patF pt w r = some r' →
    (∀ σ', Sl p H B σ' r' → Q σ' H) → patG p.K pt v σ H Q
  | .nm i, v, w, σ, r, r', Q, sl, wv, e, k => by
    rw [patF] at e
    cases e
    rw [patG]
    exact k _ (sl.set wv)
  | .tp ps, v, w, σ, r, r', Q, sl, wv, e, k => by
    rw [patF] at e
    cases et : tupW w with
    | none => rw [et] at e; cases e
    | some ws =>
      rw [et] at e
      obtain ⟨a, xs, rfl, h1, h2⟩ := tup_of wv et
      rw [patG]
      exact ⟨a, xs, rfl, h1.sq, by rw [h2.length]; exact patFs_len e, pats_to ps sl h2 e k⟩
theorem pats_to {p : Pl} {H : Hp} {B : List Addr} : ∀ (ps : List Pat) {xs : List V} {ws : List W} {σ : Xs} {r r' : Rh} {Q : Xs → Hp → Prop}, Sl p H B σ r → WVs p H B xs ws → patFs ps ws r = some r' →
    (∀ σ', Sl p H B σ' r' → Q σ' H) → patGs p.K ps xs σ H Q
  | [], xs, ws, σ, r, r', Q, sl, wv, e, k => by
    cases wv with
    | nil => rw [patFs] at e; cases e; rw [patGs]; exact ⟨rfl, k _ sl⟩
    | cons _ _ => simp [patFs] at e
  | t :: ts, xs, ws, σ, r, r', Q, sl, wv, e, k => by
    cases wv with
    | nil => simp [patFs] at e
    | cons h1 h2 =>
      rw [patFs] at e
      obtain ⟨r1, e1, e2⟩ := Option.bind_eq_some_iff.mp e
      rw [patGs]
      exact ⟨_, _, rfl, pat_to t sl h1 e1 fun σ1 s1 => pats_to ts s1 h2 e2 k⟩
end
def fSet (i : Nat) (fe : FE) : FS := fun r m => (fe r m).toS fun w m1 => .next (r.set i (some w)) m1
theorem ws_set {i : Nat} {x : Str} {pos' : Pos} (hN : X.N.Nodup) (hi : X.N[i]? = some x) (hx : Loc X.env.scope x) (he : WE X E e fe) (hs : swapsWith e (some (.Name x pos')) pos.line X.env = pure false := by rfl) (hf : X.fn x = true ∨ X.env.scope.names.lookup x = some .local := by first | exact .inl rfl | exact .inr rfl | assumption) :
    WS X E (.Assign [.Name x pos'] e pos) (fSet i fe) :=
  ⟨fun pins s σ H D I ⟨Z, B, r, m, sl, so, q⟩ => (ps_set hN hi hx he hs hf).run pins s σ H D I ⟨Z, B, r, m, sl, so, PostS.step q fun w m1 b H1 B1 l1 s1 r1 q1 => PostS.next q1 s1 ((sl.mono l1).set r1)⟩⟩
def fAsg (pt : Pat) (fe : FE) : FS := fun r m => (fe r m).toS fun w m1 => match patF pt w r with
  | some r2 => .next r2 m1
  | none => .bad
theorem ws_asg {tg : Expr} {pt : Pat} (he : WE X E e fe) (hg : WP X tg pt) (hs : swapsWithSole [tg] e pos.line X.env = pure false := by rfl) (hw : swappedStores [tg] e X.env = pure none := by rfl)
    (h1 : (assignEach [tg] X.env).map (·.2) = [assign tg X.env] := by rfl) : WS X E (.Assign [tg] e pos) (fAsg pt fe) :=
  ⟨fun pins s σ H D I ⟨Z, B, r, m, sl, so, q⟩ => (ps_asg he hg hs hw h1).run pins s σ H D I ⟨Z, B, r, m, sl, so, PostS.step q fun w m1 b H1 B1 l1 s1 r1 q1 => by
    cases e : patF pt w r with
    | none => rw [e] at q1; exact q1.elim
    | some r2 =>
      rw [e] at q1
      exact pat_to (p := plX X Z) pt (sl.mono l1) r1 e fun σ' sl' => PostS.next q1 s1 sl'⟩⟩
def fPar (i j : Nat) (fa : FA) : FS := fun r m => (fa r m).toS fun ws m1 => match ws with
  | [u, w] => .next ((r.set i (some u)).set j (some w)) m1
  | _ => .bad
def fPar3 (i j k : Nat) (fa : FA) : FS := fun r m => (fa r m).toS fun ws m1 => match ws with
  | [u, w, z] => .next (((r.set i (some u)).set j (some w)).set k (some z)) m1
  | _ => .bad
theorem wp_nm {i : Nat} {x : Str} (hN : X.N.Nodup) (hi : X.N[i]? = some x) (hx : Loc X.env.scope x) (hf : X.fn x = true ∨ X.env.scope.names.lookup x = some .local := by first | exact .inl rfl | exact .inr rfl | assumption) : WP X (.Name x pos) (.nm i) := by
  unfold WP
  rw [patG]
  exact pg_name hN hi hx hf
def WPs (X : Cx) (es : List Expr) (ps : List Pat) : Prop := PGs X es (patGs X.K ps)
theorem wps_nil : WPs X [] [] := by
  unfold WPs
  rw [patGs]
  exact pgs_nil
theorem wps_cons {es : List Expr} {pt : Pat} {ps : List Pat} (h1 : WP X e pt) (h2 : WPs X es ps) (hs : (assignEach (e :: es) X.env).map (·.2) = assign e X.env :: (assignEach es X.env).map (·.2) := by rfl) : WPs X (e :: es) (pt :: ps) := by
  unfold WPs
  rw [patGs]
  exact pgs_cons h1 h2 hs
theorem wp_tp {es : List Expr} {k : Nat} {ps : List Pat} (hc : X.calm = true) (h : WPs X es ps)
    (hn : (assignEach es X.env).length = ps.length := by rfl) (hst : (assignEach es X.env).findIdx? (·.1) = none := by rfl) : WP X (.Tuple es k pos) (.tp ps) := by
  unfold WP
  rw [patG]
  exact pg_tup hc h hn hst
/-! ### while -/
def whileF (ft : FT) (fb : FS) : Nat → Rh → Mu → SR
  | 0, _, _ => .bad
  | n + 1, r, m => (ft r m).toS fun k m1 => match k with
    | true => match fb r m1 with
      | .next r2 m2 => whileF ft fb n r2 m2
      | .cnt r2 m2 => whileF ft fb n r2 m2
      | .brk r2 m2 => .next r2 m2
      | .ret k w m2 => .ret k w m2
      | .exn x m2 => .exn x m2
      | .bad => .bad
    | false => .next r m1
theorem ws_while {c : Expr} {body : List Stmt} {ft : FT} (n : Nat) (hp : PassesOwn (model X.prog X.w) X.A X.env X.xe) (hc : WT X E c ft) (hb : WSs X E body f) : WS X E (.While c body [] pos) (whileF ft f n) := by
  refine ⟨fun pins s σ H D I ⟨Z, B, r, m, sl, so, q⟩ => (ps_while hp hc hb).run pins s σ H D I ?_⟩
  refine ⟨fun n σ H => ∃ r μ B, Sl (plX X Z) H B σ r ∧ So (plX X Z) H B μ ∧ PostS (plX X Z) E B H (whileF ft f n r μ) D, ⟨n, r, m, B, sl, so, q⟩, ?_⟩
  rintro n σ H ⟨r, μ, B, sl, so, q⟩
  cases n with
  | zero => exact q.elim
  | succ n =>
    rw [whileF] at q
    refine ⟨Z, B, r, μ, sl, so, PostS.step q fun k m1 b H1 B1 l1 s1 r1 q1 => ?_⟩
    have e : b = k := r1
    subst e
    cases b with
    | false =>
      rw [if_neg Bool.false_ne_true]
      exact PostS.next q1 s1 (sl.mono l1)
    | true =>
      rw [if_pos rfl]
      refine ⟨fun σ' H' => ∃ r μ B, Sl (plX X Z) H' B σ' r ∧ So (plX X Z) H' B μ ∧ PostS (plX X Z) E B H' (whileF ft f n r μ) D, fun σ' H' h => ⟨n, Nat.lt_succ_self n, h⟩, Z, B1, r, m1, sl.mono l1, s1, ?_⟩
      dsimp only at q1
      cases ef : f r m1 with
      | next r2 m2 => rw [ef] at q1; exact fun σ' H' B' l s sl => ⟨r2, m2, B', sl, s, PostS.mono l q1⟩
      | cnt r2 m2 => rw [ef] at q1; exact fun σ' H' B' l s sl => ⟨r2, m2, B', sl, s, PostS.mono l q1⟩
      | brk r2 m2 => rw [ef] at q1; exact q1
      | ret k w m2 => rw [ef] at q1; exact q1
      | exn x m2 => rw [ef] at q1; exact q1
      | bad => rw [ef] at q1; exact q1.elim
/-! ### for -/
def forF (src : Option (Nat × Ob)) (pt : Pat) (fb : FS) : List W → Rh → Mu → SR
  | [], r, m => if stands src m = true then .next r m else .bad
  | w :: ws, r, m => if stands src m = true then (match patF pt w r with
    | some r2 => match fb r2 m with
      | .next r3 m3 => forF src pt fb ws r3 m3
      | .cnt r3 m3 => forF src pt fb ws r3 m3
      | .brk r3 m3 => .next r3 m3
      | .ret k w m3 => .ret k w m3
      | .exn x m3 => .exn x m3
      | .bad => .bad
    | none => .bad) else .bad
def fFor (fi : FI) (pt : Pat) (fb : FS) : FS := fun r m => (fi r m).toS fun its m1 => forF its.src pt fb its.items r m1
theorem ws_for {tg iter : Expr} {body : List Stmt} {fi : FI} {pt : Pat} (hp : PassesOwn (model X.prog X.w) X.A X.env X.xe) (hc : X.calm = true) (hi : WI X E tg iter fi) (hg : WP X tg pt) (hb : WSs X E body f)
    (hs : ∀ x, foldedSetIterable iter X.env x = pure x := by intro _; rfl) : WS X E (.For tg iter body [] pos) (fFor fi pt f) := by
  refine ⟨fun pins s σ H D I ⟨Z, B, r, m, sl, so, q⟩ => (ps_for hp hc hi hg hb hs).run pins s σ H D I ?_⟩
  refine ⟨Z, B, r, m, sl, so, PostS.step q fun its m1 J H1 B1 l1 s1 itok q1 => ?_⟩
  obtain ⟨G, Y, wk, hG, hY⟩ := itok.ex
  have hid : ∀ (H : Hp), Hid (plX X Z) H Z := fun H a h => .inl h
  have stn : ∀ {ws : List W} {r : Rh} {μ : Mu} {B : List Addr} {H : Hp}, PostS (plX X Z) E B H (forF its.src pt f ws r μ) D → stands its.src μ = true := by
    intro ws r μ B H q
    cases e : stands its.src μ with
    | true => rfl
    | false => cases ws <;> (simp only [forF, e] at q; exact q.elim)
  refine ⟨fun i k σ H => k = its.items.length - i ∧ i ≤ its.items.length ∧ ∃ r μ B, Le B1 H1 B H ∧ Sl (plX X Z) H B σ r ∧ So (plX X Z) H B μ ∧ PostS (plX X Z) E B H (forF its.src pt f (its.items.drop i) r μ) D, ⟨its.items.length, by simp, Nat.zero_le _, r, m1, B1, Le.refl, sl.mono l1, s1, by rw [List.drop_zero]; exact q1⟩, ?_⟩
  rintro i k σ H ⟨rfl, hi, r, μ, B, le, sl, so, q⟩
  have st := stn q
  have g := hG H B μ Z le.z (hid _) so st
  by_cases hlt : i < its.items.length
  · refine .inr ⟨wk.goes i H hlt g, fun σ' H' => ∃ r μ B, Le B1 H1 B H' ∧ Sl (plX X Z) H' B σ' r ∧ So (plX X Z) H' B μ ∧ PostS (plX X Z) E B H' (forF its.src pt f (its.items.drop (i + 1)) r μ) D, fun σ' H' h => ⟨_, by omega, rfl, hlt, h⟩, fun x H' y => ?_⟩
    obtain ⟨l', s', w, e1, wv⟩ := hY i H x H' B μ Z le.z (hid _) so st hlt g (wk.yields i H x H' hlt g y)
    have e2 : its.items[i] = w := by
      rw [List.getElem?_eq_getElem hlt] at e1
      exact Option.some.inj e1
    rw [List.drop_eq_getElem_cons hlt, e2, forF, if_pos st] at q
    cases ep : patF pt w r with
    | none => rw [ep] at q; exact q.elim
    | some r2 =>
      rw [ep] at q
      refine pat_to (p := plX X Z) pt (sl.mono l') wv ep fun σ' sl' => ⟨Z, B, r2, μ, sl', s', ?_⟩
      have q' := q.mono l'
      dsimp only at q'
      cases ef : f r2 μ with
      | next r2 m2 => rw [ef] at q'; exact fun σ' H' B' l s sl => ⟨r2, m2, B', le.trans (l'.trans l), sl, s, PostS.mono l q'⟩
      | cnt r2 m2 => rw [ef] at q'; exact fun σ' H' B' l s sl => ⟨r2, m2, B', le.trans (l'.trans l), sl, s, PostS.mono l q'⟩
      | brk r2 m2 => rw [ef] at q'; exact q'
      | ret k w m2 => rw [ef] at q'; exact q'
      | exn x m2 => rw [ef] at q'; exact q'
      | bad => rw [ef] at q'; exact q'.elim
  · obtain rfl : i = its.items.length := by omega
    rw [List.drop_length, forF, if_pos st] at q
    exact .inl ⟨wk.stops H g, PostS.next q so sl⟩
/-! ### name = [..] on one line -/
theorem ws_setLc {i : Nat} {y : Str} {py : Pos} {elt tg iter : Expr} {ifs : List Expr} {scope : Scope} {own : List (Str × Nat)} {spos : Pos} {fi : FI} {pt : Pat} {ft : FT} (hc : X.calm = true) (hN : X.N.Nodup) (hy : X.N[i]? = some y) (hyl : X.env.scope.names.lookup y = some .local)
    (hsw : swapsWith (.ListComp elt [⟨tg, iter, ifs, 0⟩] scope pos) (some (.Name y py)) spos.line X.env = pure true) (hi : WI X E tg iter fi) (ok : BlkOk X.N X.env.scope scope own) (hpt : patIn (own.map (·.2)) pt = true)
    (hg : ∀ s H C cl fp, WP (Blk X scope s H C cl fp) tg pt) (ht : ∀ s H C cl fp, WTs (Blk X scope s H C cl fp) E0 ifs ft) (he : ∀ s H C cl fp, WE (Blk X scope s H C cl fp) E0 elt fe) (hs : ∀ x, foldedSetIterable iter X.env x = pure x := by intro _; rfl) :
    WS X E (.Assign [.Name y py] (.ListComp elt [⟨tg, iter, ifs, 0⟩] scope pos) spos) (fSet i (fComp fi pt (own.map (·.2)) ft fe)) :=
  ⟨fun pins s σ H D I ⟨Z, B, r, m, sl, so, q⟩ => (ps_setLc (g := patG X.K pt) (tt := rd RT X E0 ft) (te := rd RE X E0 fe) hc hN hy hyl hsw hi ok hg ht he hs).run pins s σ H D I (comp_read (fi := fi) (pt := pt) (ft := ft) (fe := fe) (g := fun x => x.nx.bind fun acc m2 => R.ok (W.d (PyData.list acc)) m2) (Fin := fun _ _ _ _ _ => True) hpt
    ⟨Z, B, r, m, sl, so, PostS.step q fun w m1 b H1 B1 l1 s1 r1 q1 => (show gName i b σ H1 D.nx from PostS.next q1 s1 ((sl.mono l1).set r1))⟩ rfl (fun _ _ => rfl) fun Z B1 H1 D' acc m B H0 m1 so hD c q => by
    obtain ⟨s2, wv⟩ := c.done so hD
    exact q _ H0 B c.le s2 wv)⟩
end
end Wy
set_option Elab.async false
set_option linter.all false
set_option maxRecDepth 100000
set_option maxHeartbeats 4000000
/-! W11: what changes the store. -/
namespace Wy
open PySem PySem.Spec PyProof.Rows L2
/-! ### dicts -/
theorem dcT_ok {P : Program} {w : World} {H : Hp} {h : Heap} {a : Addr} {kvs : List (NestedKey × Addr × V)} {xs : List (NestedKey × Addr × Value)} (d : h.DictOfH (nestedKind P w) a xs) (p : Paired R3 kvs xs) {o : Obj} (ho : h.get? a = some o) : ObjOk P w H h a (dcT P w a o kvs) := by
  obtain ⟨o', es, ep, e1, e2, e3, e4, _, _⟩ := d
  rw [ho] at e1
  cases e1
  refine ⟨⟨es, ep, ho, e2, e3, by rw [e4]; exact ents_to p⟩, ⟨o, ho⟩, fun h1 h2 ⟨es, ep, e1, e2, e3, e4⟩ k => ⟨es, ep, k o e1, e2, e3, e4⟩⟩
def putV (kvs : List (NestedKey × Addr × V)) (k : NestedKey) (a : Addr) (v : V) : List (NestedKey × Addr × V) := if (kvs.any fun p => decide (p.1 = k)) = true then kvs.map fun p => if p.1 = k then (p.1, p.2.1, v) else p else kvs ++ [(k, a, v)]
theorem putV_len (kvs : List (NestedKey × Addr × V)) (k : NestedKey) (a : Addr) (v : V) : (putV kvs k a v).length ≤ kvs.length + 1 := by
  unfold putV
  split <;> simp
theorem putV_nd {kvs : List (NestedKey × Addr × V)} {k : NestedKey} {a : Addr} {v : V} (h : (kvs.map (·.1)).Nodup) : ((putV kvs k a v).map (·.1)).Nodup := by
  unfold putV
  split
  · rw [List.map_map]
    have e : (fun p : NestedKey × Addr × V => p.1) ∘ (fun p => if p.1 = k then (p.1, p.2.1, v) else p) = (·.1) := by
      funext p
      simp only [Function.comp]
      split <;> rfl
    rw [e]
    exact h
  · rename_i z
    rw [List.map_append, List.nodup_append]
    refine ⟨h, by simp, fun x hx y hy e => z ?_⟩
    have ey : y = k := by simpa using hy
    obtain ⟨q, hq, e2⟩ := List.mem_map.mp hx
    exact List.any_eq_true.mpr ⟨q, hq, by simp [e2, e, ey]⟩
theorem r3_any {k : NestedKey} : ∀ {kvs : List (NestedKey × Addr × V)} {xs : List (NestedKey × Addr × Value)}, Paired R3 kvs xs → (kvs.any fun p => decide (p.1 = k)) = (atKey xs k).isSome
  | _, _, .nil => rfl
  | _ :: _, (k', a', v') :: _, .cons h t => by
    have ih := r3_any (k := k) t
    rw [List.any_cons, ih, h.1]
    unfold atKey
    rw [List.find?_cons]
    by_cases q : k' = k <;> simp [q]
theorem r3_put {k : NestedKey} {a : Addr} {v : V} {u : Value} (r : RelV v u) {kvs : List (NestedKey × Addr × V)} {xs : List (NestedKey × Addr × Value)} (p : Paired R3 kvs xs) : Paired R3 (putV kvs k a v) (storedH xs k a u) := by
  unfold putV storedH
  rw [r3_any p]
  split <;> rename_i h_if
  · clear h_if
    induction p with
    | nil => exact .nil
    | @cons x y _ _ h t ih =>
      refine .cons ?_ ih
      obtain ⟨h1, h2, h3⟩ := h
      unfold putAt
      dsimp only
      rw [h1]
      by_cases q : y.1 = k
      · rw [if_pos q, if_pos q]
        exact ⟨rfl, h2, r⟩
      · rw [if_neg q, if_neg q]
        exact ⟨h1, h2, h3⟩
  · clear h_if
    induction p with
    | nil => exact .cons ⟨rfl, rfl, r⟩ .nil
    | cons h t ih => exact .cons h ih
theorem dk_any {p : Pl} {H : Hp} {B : List Addr} {k : PyData} : ∀ {kvs : List (NestedKey × Addr × V)} {es : List (PyData × PyData)}, DVk p H B kvs es → (kvs.any fun q => decide (q.1 = keyOf k)) = dhas es k
  | _, _, .nil => rfl
  | _, _, .cons e _ _ _ _ t => by
    have ih := dk_any (k := k) t
    unfold dhas at ih ⊢
    rw [List.any_cons, List.any_cons, ih, e]
theorem dk_put {p : Pl} {H : Hp} {B : List Addr} {k x : PyData} {a : Addr} {v : V} (hk : keyable k = true) (hd : (keyOf k).depth ≤ 8) (ha : DV p H B (.ref a) k) (hv : DV p H B v x) {kvs : List (NestedKey × Addr × V)} {es : List (PyData × PyData)} (h : DVk p H B kvs es) : DVk p H B (putV kvs (keyOf k) a v) (dput es k x) := by
  unfold putV dput
  rw [dk_any h]
  split
  · have go : ∀ {kvs : List (NestedKey × Addr × V)} {es : List (PyData × PyData)}, DVk p H B kvs es → DVk p H B (kvs.map fun p => if p.1 = keyOf k then (p.1, p.2.1, v) else p) (es.map fun p => if keyOf p.1 = keyOf k then (p.1, x) else p) := by
      intro kvs
      induction kvs with
      | nil => intro es h; cases h; exact .nil
      | cons q kvs ih =>
        intro es h
        cases h with
        | @cons k' a' v' _ kd vd es' e1 e2 e3 e4 e5 t =>
          rw [List.map_cons, List.map_cons]
          dsimp only
          by_cases z : k' = keyOf k
          · rw [if_pos z, if_pos (by rw [← e1]; exact z)]
            exact .cons e1 e2 e3 e4 hv (ih t)
          · rw [if_neg z, if_neg (by rw [← e1]; exact z)]
            exact .cons e1 e2 e3 e4 e5 (ih t)
    exact go h
  · have go : ∀ {kvs : List (NestedKey × Addr × V)} {es : List (PyData × PyData)}, DVk p H B kvs es → DVk p H B (kvs ++ [(keyOf k, a, v)]) (es ++ [(k, x)]) := by
      intro kvs
      induction kvs with
      | nil => intro es h; cases h; exact .cons rfl hk hd ha hv .nil
      | cons q kvs ih =>
        intro es h
        cases h with
        | cons e1 e2 e3 e4 e5 t => exact .cons e1 e2 e3 e4 e5 (ih t)
    exact go h
section
variable {X : Cx} {E : XK} {e : Expr} {fe : FE} {pos : Pos}
end
/-! ### o[i] = x -/
def ihas (es : List (Int × PyData)) (j : Int) : Bool := es.any fun e => decide (e.1 = j)
def iput (es : List (Int × PyData)) (j : Int) (y : PyData) : List (Int × PyData) := if ihas es j = true then es.map fun e => if e.1 = j then (e.1, y) else e else es ++ [(j, y)]
def iputV (vs : List (Int × V)) (j : Int) (y : V) : List (Int × V) := if (vs.any fun e => decide (e.1 = j)) = true then vs.map fun e => if e.1 = j then (e.1, y) else e else vs ++ [(j, y)]
section
variable {p : Pl} {H : Hp} {B : List Addr}
theorem DVi.length : ∀ {vs : List (Int × V)} {es : List (Int × PyData)}, DVi p H B vs es → vs.length = es.length
  | _, _, .nil => rfl
  | _, _, .cons _ t => by rw [List.length_cons, List.length_cons, t.length]
theorem DVi.keys : ∀ {vs : List (Int × V)} {es : List (Int × PyData)}, DVi p H B vs es → vs.map (·.1) = es.map (·.1)
  | _, _, .nil => rfl
  | _, _, .cons _ t => by rw [List.map_cons, List.map_cons, t.keys]
theorem DVi.any {vs : List (Int × V)} {es : List (Int × PyData)} (h : DVi p H B vs es) (j : Int) : (vs.any fun e => decide (e.1 = j)) = ihas es j := by
  unfold ihas
  have h1 : (vs.any fun e => decide (e.1 = j)) = (vs.map (·.1)).any fun k => decide (k = j) := by rw [List.any_map]; rfl
  have h2 : (es.any fun e => decide (e.1 = j)) = (es.map (·.1)).any fun k => decide (k = j) := by rw [List.any_map]; rfl
  rw [h1, h2, h.keys]
theorem DVi.over {j : Int} {v : V} {y : PyData} (hv : DV p H B v y) : ∀ {vs : List (Int × V)} {es : List (Int × PyData)}, DVi p H B vs es → DVi p H B (vs.map fun e => if e.1 = j then (e.1, v) else e) (es.map fun e => if e.1 = j then (e.1, y) else e)
  | _, _, .nil => .nil
  | (k, u) :: vs, (_, d) :: es, .cons h t => by
    rw [List.map_cons, List.map_cons]
    by_cases z : k = j
    · rw [if_pos z, if_pos z]; exact .cons hv (t.over hv)
    · rw [if_neg z, if_neg z]; exact .cons h (t.over hv)
theorem DVi.app {j : Int} {v : V} {y : PyData} (hv : DV p H B v y) : ∀ {vs : List (Int × V)} {es : List (Int × PyData)}, DVi p H B vs es → DVi p H B (vs ++ [(j, v)]) (es ++ [(j, y)])
  | _, _, .nil => .cons hv .nil
  | _, _, .cons h t => .cons h (t.app hv)
theorem DVi.put {vs : List (Int × V)} {es : List (Int × PyData)} (h : DVi p H B vs es) {j : Int} {v : V} {y : PyData} (hv : DV p H B v y) : DVi p H B (iputV vs j v) (iput es j y) := by
  unfold iputV iput
  rw [h.any]
  split
  · exact h.over hv
  · exact h.app hv
end
def stW (o i x : W) (m : Mu) : Option Mu := match o, i, x with
  | .loc n, .d k, .d y => match m[n]? with
    | some (.lst ds) => match k with
      | .int j => (ixN ds.length j).map fun t => m.set n (.lst (ds.set t y))
      | _ => none
    | some (.dct es) => if okKey k = true ∧ es.length < 1000000 then some (m.set n (.dct (dput es k y))) else none
    | _ => none
  | _, _, _ => none
/-- the store's own writing -/
def tSt (X : Cx) : TSet := fun o i v H Q => ∃ Z B m wo wi wx m', So (plX X Z) H B m ∧ WV (plX X Z) H B o wo ∧ WV (plX X Z) H B i wi ∧ WV (plX X Z) H B v wx ∧ stW wo wi wx m = some m' ∧ ∀ H', Le B H B H' → So (plX X Z) H' B m' → Q H'
theorem set_st {X : Cx} (hu : X.A.units + 65 < cLine) : PSet X (tSt X) := by
  rintro pins s σ H o i v ov iv u Q I ro ri rv ⟨Z, B, m, wo, wi, wx, m', so, ho, hi, hx, e, q⟩
  unfold stW at e
  split at e
  · rename_i n k y
    cases ho with
    | @loc _ a hb =>
      cases hx with
      | d hx =>
        cases hi with
        | d hi =>
          obtain ⟨ob, e1, rr⟩ := so.obj hb
          rw [e1] at e
          cases ob with
          | lst ds =>
            dsimp only at e
            split at e
            · rename_i j
              obtain ⟨t, e2, e3⟩ := Option.map_eq_some_iff.mp e
              obtain ⟨xs, h1, h2⟩ := rr
              subst e3
              refine set_list pins s σ H _ _ v ov iv u Q I ro ri rv ⟨a, xs, j, t, rfl, int_inv hi, h1, by rw [h2.length]; exact e2, q _ (le_set (List.mem_of_getElem? hb)) (so.set hb ⟨_, upd_same, ?_⟩)⟩
              exact DVs.mono (le_set (List.mem_of_getElem? hb)) (h2.set hx t)
            · cases e
          | dct es =>
            dsimp only at e
            split at e
            · rename_i z
              cases e
              obtain ⟨⟨o0, kvs⟩, h1, h2, h3, h4, h5⟩ := rr
              have okk := z.1
              obtain ⟨ka, rfl, rfl, ki⟩ := key_is I hi z.1 ri
              unfold okKey at okk
              simp only [Bool.and_eq_true, decide_eq_true_eq] at okk
              obtain ⟨xs, d1, d2⟩ := dict_at I (.inl h1) h2 h5
              cases ro
              have hl : kvs.length = es.length := by
                have : ∀ {kvs : List (NestedKey × Addr × V)} {es : List (PyData × PyData)}, DVk (plX X Z) H B kvs es → kvs.length = es.length := by
                  intro kvs
                  induction kvs with
                  | nil => intro es h; cases h; rfl
                  | cons q kvs ih => intro es h; cases h with
                    | cons _ _ _ _ _ t => rw [List.length_cons, List.length_cons, ih t]
                exact this h2
              refine wpAny_setItem_heap (knd := knX X) (by show X.A.units + 1 + 8 < cLine; omega) ki d1 (fun h' d3 sb => ?_) (by rw [← r3_len d2]; exact h4)
              obtain ⟨o1, eo⟩ : ∃ o1, h'.get? a = some o1 := let ⟨o, _, _, e, _⟩ := d3; ⟨o, e⟩
              refine ⟨upd H a (dcT X.prog X.w a o1 (putV kvs (keyOf k) ka v)), ?_, q _ (le_set (List.mem_of_getElem? hb)) (so.set hb ⟨(o1, putV kvs (keyOf k) ka v), upd_same, ?_, h3, ?_, putV_nd h5⟩)⟩
              · refine I.write (x := a) (e := a) (by rw [h1]; trivial) (.inl rfl) (fun b u hb q => (sb.2 b hb).trans q) ?_ (dcT_ok d3 (r3_put rv d2) eo)
                obtain ⟨o, _, _, e, _⟩ := d3
                exact ⟨o, e⟩
              · exact DVk.mono (le_set (List.mem_of_getElem? hb)) (dk_put okk.1.1 okk.1.2 hi hx h2)
              · have := putV_len kvs (keyOf k) ka v
                have := mil
                show (putV kvs (keyOf k) ka v).length ≤ sizeLine
                omega
            · cases e
          | dcv es => cases e
          | dci es => cases e
          | ins _ _ => cases e
  · cases e
section
variable {X : Cx} {E : XK} {e o i : Expr} {fe fo fi : FE} {pos : Pos}
def fSt (fe fo fi : FE) : FS := fun r m => (fe r m).toS fun x m1 => (fo r m1).toS fun o m2 => (fi r m2).toS fun i m3 => match stW o i x m3 with
  | some m4 => .next r m4
  | none => .bad
theorem ws_st {tpos : Pos} (hu : X.A.units + 65 < cLine) (he : WE X E e fe) (ho : WE X E o fo) (hi : WE X E i fi)
    (ha : ∀ v, assign (.Subscript o i tpos) X.env v = (do
      let ov ← holding [v] (eval o X.env)
      let iv ← holding [v, ov] (eval i X.env)
      standAt tpos
      holding [v, ov, iv] (setItem ov iv v)
      release [v, ov, iv] []) := by intro _; rfl)
    (hs : swapsWithSole [.Subscript o i tpos] e pos.line X.env = pure false := by rfl) (hw : swappedStores [.Subscript o i tpos] e X.env = pure none := by rfl)
    (h1 : (assignEach [.Subscript o i tpos] X.env).map (·.2) = [assign (.Subscript o i tpos) X.env] := by rfl) : WS X E (.Assign [.Subscript o i tpos] e pos) (fSt fe fo fi) := by
  refine ⟨fun pins s σ H D I ⟨Z, B, r, m, sl, so, q⟩ => (ps_asg he (pg_sub ho hi (set_st hu) ha) hs hw h1).run pins s σ H D I ⟨Z, B, r, m, sl, so, PostS.step q fun x m1 xv H1 B1 l1 s1 r1 q1 => ?_⟩⟩
  refine ⟨Z, B1, r, m1, sl.mono l1, s1, PostS.step q1 fun ow m2 ov H2 B2 l2 s2 r2 q2 => ?_⟩
  refine ⟨Z, B2, r, m2, sl.mono (l1.trans l2), s2, PostS.step q2 fun iw m3 iv H3 B3 l3 s3 r3 q3 => ?_⟩
  cases es : stW ow iw x m3 with
  | none => rw [es] at q3; exact q3.elim
  | some m4 =>
    rw [es] at q3
    exact ⟨Z, B3, m3, ow, iw, x, m4, s3, r2.mono l3, r3, r1.mono (l2.trans l3), es, fun H' l s => q3 σ H' B3 l s (sl.mono (l1.trans (l2.trans (l3.trans l))))⟩
/-! ### x += .. -/
/-! ### o.append(x) -/
end
end Wy
set_option Elab.async false
set_option linter.all false
set_option maxRecDepth 100000
set_option maxHeartbeats 4000000
/-! W12: a def as a function. -/
namespace Wy
open PySem PySem.Spec PyProof.Rows L2
mutual
/-- a value as it leaves the def: what the def has made is data from here on -/
def frzW (base : Nat) (m : Mu) : W → Option W
  | .d x => some (.d x)
  | .loc n => if n < base then some (.loc n) else match m[n]? with
    | some (.dci es) => some (.di es)
    | _ => (dr m (.loc n)).map .d
  | .wt ws => (frzWs base m ws).map W.wt
  | .di es => some (.di es)
  | .dv ks ws => (frzWs base m ws).map (.dv ks)
def frzWs (base : Nat) (m : Mu) : List W → Option (List W)
  | [] => some []
  | w :: ws => (frzW base m w).bind fun x => (frzWs base m ws).map fun xs => x :: xs
end
section
variable {p : Pl} {H H' : Hp} {B B' : List Addr} {m m' : Mu}
theorem Le.pre (l : Le B H B' H') {n : Nat} (h : n < B.length) : B'[n]? = B[n]? := by
  obtain ⟨C, rfl, _⟩ := l.ext
  rw [List.getElem?_append_left h]
theorem Le.subB (l : Le B H B' H') : Sub p B p B' := .b fun b h => by
  obtain ⟨C, rfl, _⟩ := l.ext
  exact List.mem_append_left _ h
/-- no dict with values that are places -/
def flatO : Ob → Bool
  | .dcv _ => false
  | _ => true
theorem ObR.sub' {a : Addr} {o : Ob} (s : Sub p B p B') (f : flatO o = true) (h : ObR p H B' a o) : ObR p H B a o := by
  cases o with
  | lst ds => obtain ⟨xs, h, d⟩ := h; exact ⟨xs, h, d.sub s⟩
  | dct ds => obtain ⟨xs, h, d, z⟩ := h; exact ⟨xs, h, d.sub s, z⟩
  | dci es => obtain ⟨vs, h, d, z⟩ := h; exact ⟨vs, h, d.sub s, z⟩
  | dcv es => cases f
  | ins x fs => obtain ⟨q, h, d⟩ := h; exact ⟨q, h, d.sub s⟩
theorem ObR.cut {n k : Nat} {a : Addr} {o : Ob} {B1 : List Addr} (sb : Sub p B1 p B') (up : ∀ (j : Nat) (a : Addr), j < k → B'[j]? = Option.some a → B1[j]? = Option.some a) (nd : B'.Nodup) (hk : n < k) (hn : B'[n]? = Option.some a) (h : ObR p H B' a o) : ObR p H B1 a o := by
  cases o with
  | lst ds => exact h.sub' sb rfl
  | dct ds => exact h.sub' sb rfl
  | dci es => exact h.sub' sb rfl
  | ins x fs => exact h.sub' sb rfl
  | dcv es =>
    obtain ⟨n', q, h2, h3, h4, h5⟩ := h
    have e : n' = n := by
      obtain ⟨j1, j2⟩ := List.getElem?_eq_some_iff.mp h2
      obtain ⟨i1, i2⟩ := List.getElem?_eq_some_iff.mp hn
      exact (List.getElem_inj nd).mp (j2.trans i2.symm)
    subst e
    exact ⟨n', q, up _ _ hk hn, h3, h4.cutb sb (fun j b hj z => up j b (by omega) z), h5⟩
theorem Le.cut (l : Le B H B' H') : Le B H B H' := by
  refine ⟨fun a o h n e => l.keep a o h n e, l.trk, [], by simp, fun _ h => nomatch h⟩
theorem So.cut (l : Le B H B' H') (s : So p H' B' m') : So p H' B (m'.take B.length) := by
  obtain ⟨C, e, _⟩ := l.ext
  have hl : B.length ≤ m'.length := by rw [← s.len, e, List.length_append]; omega
  refine ⟨s.tb.less fun a h => by rw [e]; exact List.mem_append_left _ h, by rw [List.length_take]; omega, ?_, fun a h => ⟨(s.hid a h).1, fun z => (s.hid a h).2 (by rw [e]; exact List.mem_append_left _ z)⟩, fun n a o h1 h2 => ?_⟩
  · have := s.nd
    rw [e] at this
    exact (List.nodup_append.mp this).1
  · have hn := (List.getElem?_eq_some_iff.mp h1).1
    rw [List.getElem?_take_of_lt hn] at h2
    exact (s.ob n a o (by rw [l.pre hn]; exact h1) h2).cut (k := B.length) l.subB (fun j b hj z => by rw [← l.pre hj]; exact z) s.nd hn (by rw [l.pre hn]; exact h1)
theorem made_out (l : Le B H B' H') (s : So p H' B' m') {n : Nat} {a : Addr} (h : B'[n]? = some a) (hn : B.length ≤ n) : Off p B a := by
  obtain ⟨C, e, _⟩ := l.ext
  refine ⟨fun z => ?_, fun z => (s.hid a z).2 (List.mem_of_getElem? h)⟩
  have nd := s.nd
  rw [e] at nd h
  rw [List.getElem?_append_right hn] at h
  exact (List.nodup_append.mp nd).2.2 a z a (List.mem_of_getElem? h) rfl
mutual
theorem frz_ok (l : Le B H B' H') (s : So p H' B' m') : ∀ {v : V} {w w' : W}, WV p H' B' v w → frzW B.length m' w = some w' → WV p H' B v w'
  | _, _, _, .d h, e => by
    rw [frzW] at e
    cases e
    exact .d (h.sub l.subB)
  | _, _, w', .loc (n := n) (a := a) h, e => by
    rw [frzW] at e
    by_cases z : n < B.length
    · rw [if_pos z] at e
      cases e
      exact .loc (by rw [← l.pre z]; exact h)
    · rw [if_neg z] at e
      obtain ⟨o, e3, r⟩ := s.obj h
      have off := made_out l s h (by omega)
      rw [e3] at e
      by_cases zi : ∃ es, o = .dci es
      · obtain ⟨es, rfl⟩ := zi
        cases e
        obtain ⟨⟨o0, vs⟩, h1, h2, h3, h4⟩ := r
        exact .di off (.inl h1) (h2.sub l.subB) h3 h4
      replace e : (dr m' (.loc n)).map W.d = some w' := by
        cases o with
        | dci es => exact (zi ⟨_, rfl⟩).elim
        | _ => exact e
      obtain ⟨x, e1, e2⟩ := Option.map_eq_some_iff.mp e
      subst e2
      have e1 : (match m'[n]? with | some (.lst ds) => some (PyData.list ds) | some (.dct es) => some (.dict es) | _ => none) = some x := e1
      rw [e3] at e1
      cases o with
      | lst ds =>
        cases e1
        obtain ⟨xs, h1, h2⟩ := r
        exact .d (.lst ⟨off, .inl h1⟩ (h2.sub l.subB))
      | dct es =>
        cases e1
        obtain ⟨kvs, h1, h2, h3, h4⟩ := r
        exact .d (.dct off (.inl h1) (h2.sub l.subB) h3 h4.1 h4.2)
      | dci _ => cases e1
      | dcv _ => cases e1
      | ins _ _ => cases e1
  | _, _, w', .wt h r, e => by
    rw [frzW] at e
    obtain ⟨xs, e1, e2⟩ := Option.map_eq_some_iff.mp e
    subst e2
    exact .wt (h.sub l.subB) (frzs_ok l s r e1)
  | _, _, w', .di h r k s1 z1, e => by
    rw [frzW] at e
    cases e
    exact .di (l.subB.off _ h) r (DVi.sub l.subB k) s1 z1
  | _, _, w', .dv h r k ws s1 z1 nd, e => by
    rw [frzW] at e
    obtain ⟨xs, e1, e2⟩ := Option.map_eq_some_iff.mp e
    subst e2
    exact .dv (l.subB.off _ h) r (k.sub l.subB) (frzs_ok l s ws e1) s1 z1 nd
theorem frzs_ok (l : Le B H B' H') (s : So p H' B' m') : ∀ {v : List V} {w w' : List W}, WVs p H' B' v w → frzWs B.length m' w = some w' → WVs p H' B v w'
  | _, _, _, .nil, e => by
    rw [frzWs] at e
    cases e
    exact .nil
  | _, _, _, .cons h t, e => by
    rw [frzWs] at e
    obtain ⟨x, e1, e2⟩ := Option.bind_eq_some_iff.mp e
    obtain ⟨xs, e3, e4⟩ := Option.map_eq_some_iff.mp e2
    subst e4
    exact .cons (frz_ok l s h e1) (frzs_ok l s t e3)
end
end
/-- a value leaves the def (keep: what it has made may be changed still) -/
def finW (keep : Bool) (base : Nat) (w : W) (m : Mu) : R W := match keep, w with
  | true, .loc n => if n < base then .ok (.loc n) (m.take base) else match m[n]? with
    | some o => if flatO o = true then .ok (.loc base) (m.take base ++ [o]) else .bad
    | none => .bad
  | true, .wt [.loc n, .d x] => if n < base then .bad else match m[n]? with
    | some o => if flatO o = true then .ok (.wt [.loc base, .d x]) (m.take base ++ [o]) else .bad
    | none => .bad
  | _, w => match frzW base m w with
    | some w' => .ok w' (m.take base)
    | none => .bad
def startR (n : Nat) (ws : List W) : Rh := ws.map some ++ List.replicate (n - ws.length) none
def fnF (n : Nat) (fs : FS) : Fn := fun ws m => match fs (startR n ws) m with
  | .next _ m' => .ok (.d .none) (m'.take m.length)
  | .ret keep w m' => finW keep m.length w m'
  | .exn x m' => .exn x (m'.take m.length)
  | _ => .bad
/-- one thing that the def has made stands in the store of the caller -/
theorem fin_made {p : Pl} {B B' : List Addr} {H H' : Hp} {m' : Mu} {n : Nat} {a : Addr} {o : Ob} (l : Le B H B' H') (s : So p H' B' m') (h : B'[n]? = some a) (z : ¬ n < B.length) (r : ObR p H' B' a o) (f : flatO o = true) :
    Le B H (B ++ [a]) H' ∧ So p H' (B ++ [a]) (m'.take B.length ++ [o]) ∧ Sub p (B ++ [a]) p B' := by
  have off := made_out l s h (by omega)
  have sc := s.cut l
  have sbm : ∀ b ∈ B ++ [a], b ∈ B' := fun b hb => by
    obtain ⟨C, eC, _⟩ := l.ext
    rcases List.mem_append.mp hb with hb | hb
    · rw [eC]; exact List.mem_append_left _ hb
    · rw [show b = a by simpa using hb]; exact List.mem_of_getElem? h
  have sb : Sub p (B ++ [a]) p B' := .b sbm
  refine ⟨⟨l.keep, l.trk, [a], rfl, fun b hb => ?_⟩, ⟨s.tb.less sbm, ?_, ?_, ?_, ?_⟩, sb⟩
  · obtain ⟨C, eC, hC⟩ := l.ext
    rw [show b = a by simpa using hb]
    rw [eC, List.getElem?_append_right (by omega)] at h
    exact hC a (List.mem_of_getElem? h)
  · have := sc.len
    rw [List.length_append, List.length_append]
    simp only [List.length_singleton]
    omega
  · rw [List.nodup_append]
    refine ⟨sc.nd, by simp, fun x hx y hy e => ?_⟩
    rw [show y = a by simpa using hy] at e
    exact off.1 (e ▸ hx)
  · intro b hb
    refine ⟨(s.hid b hb).1, fun z => ?_⟩
    rcases List.mem_append.mp z with z | z
    · exact (sc.hid b hb).2 z
    · rw [show b = a by simpa using z] at hb
      exact off.2 hb
  · intro k b x h1 h2
    by_cases zk : k < B.length
    · rw [List.getElem?_append_left zk] at h1
      rw [List.getElem?_append_left (by rw [← sc.len]; exact zk), List.getElem?_take_of_lt zk] at h2
      exact (s.ob k b x (by rw [l.pre zk]; exact h1) h2).cut (k := B.length) sb (fun j b hj z => by rw [List.getElem?_append_left hj, ← l.pre hj]; exact z) s.nd zk (by rw [l.pre zk]; exact h1)
    · rw [List.getElem?_append_right (by omega)] at h1
      rw [List.getElem?_append_right (by rw [← sc.len]; omega), ← sc.len] at h2
      have hz : k - B.length = 0 := by
        have := (List.getElem?_eq_some_iff.mp h1).1
        simp at this; omega
      rw [hz] at h1 h2
      simp at h1 h2
      subst h1; subst h2
      exact r.sub' sb f
theorem fin_ok {p : Pl} {E : XK} {B B' : List Addr} {H H' : Hp} {m m' : Mu} {keep : Bool} {w : W} {v : V} {Q : VK} (so : So p H B m) (q : PostE p E B H (finW keep m.length w m') Q) (l : Le B H B' H') (s : So p H' B' m') (hv : WV p H' B' v w) : Q v H' := by
  rw [← so.len] at q
  have go : PostE p E B H (match frzW B.length m' w with | some w' => .ok w' (m'.take B.length) | none => .bad) Q → Q v H' := fun q => by
    cases e : frzW B.length m' w with
    | none => rw [e] at q; exact q.elim
    | some w' =>
      rw [e] at q
      exact q v H' B l.cut (s.cut l) (frz_ok l s hv e)
  unfold finW at q
  split at q
  · rename_i n
    by_cases z : n < B.length
    · rw [if_pos z] at q
      cases hv with
      | loc h => exact q _ H' B l.cut (s.cut l) (.loc (by rw [← l.pre z]; exact h))
    · rw [if_neg z] at q
      cases hv with
      | @loc _ a h =>
        obtain ⟨o, e, r⟩ := s.obj h
        rw [e] at q
        dsimp only at q
        have f : flatO o = true := Classical.byContradiction fun f => by rw [if_neg f] at q; exact q.elim
        rw [if_pos f] at q
        obtain ⟨l2, s2, _⟩ := fin_made l s h z r f
        exact q _ H' (B ++ [a]) l2 s2 (.loc (by simp))
  · rename_i n x
    by_cases z : n < B.length
    · rw [if_pos z] at q; exact q.elim
    · rw [if_neg z] at q
      cases hv with
      | wt hq hr =>
        cases hr with
        | cons h1 ht =>
          cases ht with
          | cons h2 ht =>
            cases ht
            cases h1 with
            | @loc _ a h =>
              obtain ⟨o, e, r⟩ := s.obj h
              rw [e] at q
              dsimp only at q
              have f : flatO o = true := Classical.byContradiction fun f => by rw [if_neg f] at q; exact q.elim
              rw [if_pos f] at q
              obtain ⟨l2, s2, sb⟩ := fin_made l s h z r f
              cases h2 with
              | d h2 => exact q _ H' (B ++ [a]) l2 s2 (.wt (hq.sub sb) (.cons (.loc (by simp)) (.cons (.d (h2.sub sb)) .nil)))
  · exact go q
theorem sl_start {p : Pl} {H : Hp} {B : List Addr} {N : List Str} {vs : List V} {ws : List W} (h : WVs p H B vs ws) : Sl p H B (start N vs) (startR N.length ws) := by
  have go : ∀ {vs : List V} {ws : List W} (n : Nat), WVs p H B vs ws → ∀ (i : Nat) (x : W), (ws.map some ++ List.replicate n none)[i]? = some (some x) → ∃ v, (vs.map some ++ List.replicate n none)[i]? = some (some v) ∧ WV p H B v x := by
    intro vs
    induction vs with
    | nil =>
      intro ws n h i x e
      cases h
      simp only [List.map_nil, List.nil_append] at e
      exact absurd (List.mem_of_getElem? e) (by simp)
    | cons v vs ih =>
      intro ws n h i x e
      cases h with
      | cons h t =>
        cases i with
        | zero =>
          simp at e
          subst e
          exact ⟨v, by simp, h⟩
        | succ i =>
          obtain ⟨u, a, b⟩ := ih n t i x (by simpa using e)
          exact ⟨u, by simpa using a, b⟩
  refine ⟨?_, fun i x e => ?_⟩
  · simp [L2.start, startR, h.length]
  · unfold L2.start startR at *
    rw [h.length]
    exact go _ h i x e
abbrev FnP (K : PySem.W.Frag) (x : Str) (st : Stmt) (f : Addr) (fd : FuncData) : Prop := FunD K x x (defArgs st) (defBody st) (defScope st) [] [] f fd
/-- a def's body from its call -/
theorem fn_end {X : Cx} {N : List Str} {n : Nat} {fs : FS} {vs : List V} {H : Hp} {Q : VK} {E : XK} (h : spW X.prog X.w X.K X.mg n (fnF N.length fs) vs H Q E) : rdS X E fs { nx := fun _ H' => Q .non H', rt := Q } (start N vs) H := by
  obtain ⟨_, Z, B, m, ws, so, wv, q⟩ := h
  refine ⟨Z, B, startR N.length ws, m, sl_start wv, so, ?_⟩
  unfold fnF at q
  cases e : fs (startR N.length ws) m with
  | next r m' =>
    rw [e] at q
    intro σ' H' B' l s sl
    have q' := q .non H' B l.cut
    rw [← so.len] at q'
    exact q' (s.cut l) (.d .non)
  | ret keep x m' =>
    rw [e] at q
    intro v H' B' l s hv
    exact fin_ok so q l s hv
  | brk r m' => rw [e] at q; exact q.elim
  | cnt r m' => rw [e] at q; exact q.elim
  | exn x m' =>
    rw [e] at q
    intro cls d H' B' l s hx
    have q' := q cls d H' B l.cut
    rw [← so.len] at q'
    exact q' (s.cut l) hx
  | bad => rw [e] at q; exact q.elim
/-- a def, by its body's function -/
theorem fn_ok {P : Program} {w : World} {K : PySem.W.Frag} {mg : Str → Option Value} {base : Heap} {x : Str} {st : Stmt} {f : Addr} {fd : FuncData} {N ps : List Str} {k : Nat} {fs : FS} (n : Nat) (l : Nat) (F : FnP K x st f fd) (S : FnScope N ps (defScope st)) (hn : ps.length = n) (hl : N.length = l)
    (hb : ∀ (cdv : Value) (A : Around) (outer : List Env) (s : Shared) (H : Hp) (E : XK), Room k (A.deeper (envOfC x (defScope st) s.heap.objs.size f cdv)) →
      WSs (cxOf (L2N.CX P w) P w K mg base N x (defScope st) f cdv A outer s H E) E (defBody st) fs) : FnOk P w K mg base (L2N.CX P w) (k + 1) f fd ps (spW P w K mg n (fnF l fs)) := by
  subst hn hl
  exact F.ok S (fun vs H Q E h => h.1) fun cdv A outer s H vs Q E hr h => ⟨_, hb cdv A outer s H E hr, fn_end h⟩
/-- where nothing is let out -/
theorem passLN {X : Cx} : Passes (L2N.CX X.prog X.w) X E0 := fun _ _ _ _ _ _ _ h => by
  obtain ⟨_, _, _, _, _, _, _, _, _, _, _, _, z⟩ := h
  exact z.elim
/-! ### in a def's body -/
section
variable {P : Program} {w : World} {K : PySem.W.Frag} {mg : Str → Option Value} {base : Heap} {N : List Str} {qual : Str} {scope : Scope} {f : Addr} {cdv : Value} {A : Around} {outer : List Env} {s : Shared} {H : Hp} {E : XK}
theorem own_of : PassesOwn (model P w) (cxOf (L2N.CX P w) P w K mg base N qual scope f cdv A outer s H E).A (cxOf (L2N.CX P w) P w K mg base N qual scope f cdv A outer s H E).env (cxOf (L2N.CX P w) P w K mg base N qual scope f cdv A outer s H E).xe := passes_of rfl
theorem tk_of : L2N.Takes (cxOf (L2N.CX P w) P w K mg base N qual scope f cdv A outer s H E) (fun cls d _ H => E cls d H) := L2N.takes_of rfl rfl rfl rfl
theorem pass_of : Passes (L2N.CX P w) (cxOf (L2N.CX P w) P w K mg base N qual scope f cdv A outer s H E) E := L2N.passes_call tk_of fun _ _ _ _ h => h
end
end Wy
set_option Elab.async false
set_option linter.all false
set_option maxRecDepth 100000
set_option maxHeartbeats 4000000
/-! W13: calls by names; constants of the top; a list many times; raise; comprehensions of two. -/
namespace Wy
open PySem PySem.Spec PyProof.Rows L2
/-- what is known of a def behind the top -/
structure Cal (P : Program) (w : World) (K : PySem.W.Frag) (mg : Str → Option Value) (base : Heap) (k n : Nat) (x : Str) (F : Fn) : Prop where
  ex : ∃ (f : Addr) (fd : FuncData) (ps : List Str), FnOk P w K mg base (L2N.CX P w) k f fd ps (spW P w K mg n F) ∧ mg x = some (.ref f) ∧ PySem.W.keepIn K (.ref f) = true ∧ Binds K fd ps []
section
variable {X : Cx} {E : XK} {e : Expr} {es : List Expr} {pos : Pos}
theorem we_callC {k n : Nat} {F : Fn} {x : Str} {p : Pos} {fs : FA} (C : Cal X.prog X.w X.K X.mg X.base k n x F) (hr : Room k X.A) (hg : Gl X x)
    (hx : Passes (L2N.CX X.prog X.w) X E) (ha : WA X E (e :: es) fs) (hdb : (x == ("__debug__" : Str)) = false := by decide) (he : starEach (e :: es) X.env = (false, eval e X.env) :: starEach es X.env := by rfl) (hpl : (backTo pos (starEach es X.env)).any (·.1) = false := by rfl) :
    WE X E (.Call (.Name x p) (e :: es) [] pos) (fCall n F fs) := by
  obtain ⟨f, fd, ps, h1, h2, h3, h4⟩ := C.ex
  exact we_call h1 hr hg h2 h3 h4 hx ha hdb he hpl
/-- a constant of the top -/
structure Glo (K : PySem.W.Frag) (mg : Str → Option Value) (x : Str) (d : PyData) : Prop where
  ex : ∃ (v : V) (u : Value), mg x = some u ∧ RelV v u ∧ ∀ (P : Program) (w : World) (Z : List Addr) (H : Hp) (B : List Addr), DV ⟨P, w, K, mg, Z⟩ H B v d
theorem we_glo {x : Str} {d : PyData} (g : Glo X.K X.mg x d) (hg : Gl X x) (hd : (x == ("__debug__" : Str)) = false := by decide) : WE X E (.Name x pos) (fC d) := by
  obtain ⟨v, u, h1, h2, h3⟩ := g.ex
  exact we_cst (pe_glob hg h1 h2 hd) fun Z H B => h3 _ _ _ _ _
/-! ### a list many times -/
def gMul (a b : W) (m : Mu) : R W := match a with
  | .loc n => match m[n]?, b with
    | some (.lst ds), .d (.int k) => if k ≤ 1000 ∧ -1000 ≤ k ∧ ds.length ≤ 1000 then .ok (.d (.list (List.replicate k.toNat ds).flatten)) m else .bad
    | _, _ => .bad
  | a => gMulI a b m
theorem ow_mul : OpW X E (binaryOp .Mult) gMul := by
  rintro pins s σ H x y v u Q I rx ry ⟨Z, B, m, a, b, so, ha, hb, q⟩
  unfold gMul at q
  split at q
  · rename_i n
    split at q
    · rename_i ds k em
      split at q
      · rename_i z
        cases ha with
        | @loc _ a h =>
          obtain ⟨o, e, r⟩ := so.obj h
          rw [em] at e
          cases e
          obtain ⟨xs, h1, h2⟩ := r
          cases hb with
          | d hb =>
            have hm := mil
            have hk : k.toNat ≤ 1000 := by omega
            have hl : xs.length * k.toNat ≤ 1000000 := by
              rw [h2.length]
              calc ds.length * k.toNat ≤ 1000 * 1000 := Nat.mul_le_mul z.2.2 hk
                _ = 1000000 := rfl
            refine op_rep pins s σ H _ y v u Q I rx ry ⟨a, k, xs, rfl, int_inv hb, h1, by omega, by omega, by omega, fun p hp => ?_⟩
            have go : ∀ j : Nat, DVs (plX X Z) H B (List.replicate j xs).flatten (List.replicate j ds).flatten := by
              intro j
              induction j with
              | zero => exact .nil
              | succ j ih =>
                rw [List.replicate_succ, List.replicate_succ, List.flatten_cons, List.flatten_cons]
                exact h2.append ih
            exact Post.fresh q so hp (.d (DV.topL so hp (go _)))
      · exact q.elim
    · exact q.elim
  · exact ow_mulI pins s σ H x y v u Q I rx ry ⟨Z, B, m, a, b, so, ha, hb, q⟩
/-! ### raise -/
def fRaise (c : Str) : FS := fun _ m => .exn ⟨c, none⟩ m
/-- an error's class behind the top -/
structure Ecl (K : PySem.W.Frag) (mg : Str → Option Value) (x : Str) : Prop where
  ex : ∃ (C : Addr) (bmB : List Value) (Bn newId initId : String), ExcBaseFacts Bn newId initId bmB ∧ PySem.W.excIn K C bmB newId = true ∧ mg x = some (.ref C) ∧ PySem.W.keepIn K (.ref C) = true ∧
    PySem.W.subIn K (.ref C) (.type "BaseException") = some true ∧ PySem.W.typeIn K (.ref C) = some (.type "type")
theorem ws_raise {x m : Str} {j : Nat} {p p2 p3 : Pos} (g : Ecl X.K X.mg x) (hc : X.calm = true) (tk : L2N.Takes X (fun cls d _ H => E cls d H)) (hg : Gl X x) (hdb : (x == ("__debug__" : Str)) = false := by decide) :
    WS X E (.Raise (some (.Call (.Name x p) [.Constant (.str m) j p2] [] p3)) none pos) (fRaise x) := by
  obtain ⟨C, bmB, Bn, newId, initId, h1, h2, h3, h4, h5, h6⟩ := g.ex
  exact ⟨fun pins s σ H D I ⟨Z, B, r, μ, sl, so, q⟩ => (L2N.ps_raise hc tk (L2N.pmk_own h1 h2 h3 h4 (raises_own h5 h6) hg hdb)).run pins s σ H D I (q (.ref C) none H B Le.refl so ⟨⟨C, h3, rfl⟩, rfl⟩)⟩
end
end Wy
set_option Elab.async false
set_option linter.all false
set_option maxRecDepth 100000
set_option maxHeartbeats 4000000
/-! W14: more tests; comprehensions of two. -/
namespace Wy
open PySem PySem.Spec PyProof.Rows L2
section
variable {X : Cx} {E : XK} {e a b c : Expr} {fa fb fc f : FE} {pos : Pos}
theorem wt_notN {j p} (h : WE X E e f) : WT X E (.Compare e [.IsNot] [.Constant .none j p] pos) (fTb (fNotN f)) := ⟨fun pins s σ H Q I ⟨Z, B, r, m, sl, so, q⟩ => (pt_cmp (pc_notN h) rfl).run pins s σ H Q I (by
  unfold fTb fNotN at q
  refine ⟨Z, B, r, m, sl, so, ?_⟩
  cases ef : f r m with
  | bad => rw [ef] at q; exact q.elim
  | exn x m1 => rw [ef] at q; exact q
  | ok w m1 =>
    rw [ef] at q
    intro v H' B' l s r1
    refine ⟨_, rfl, ?_⟩
    have q' : Post (RT (plX X Z)) (plX X Z) E B H (.ok (!isNon w) m1) Q := q
    rw [isNon_of r1]
    exact q' _ H' B' l s rfl)⟩
end
/-! ### [.. for .. for ..] -/
section
variable {X : Cx} {E : XK} {elt tg iter tg1 iter1 : Expr} {ifs ifs1 : List Expr} {scope : Scope} {own : List (Str × Nat)} {pos : Pos} {fi fi1 : FI} {pt pt1 : Pat} {ft ft1 : FT} {fe : FE} {vs1 : List Nat}
theorem comp2_read {σ : Xs} {H : Hp} {Qd : V → Hp → Prop} {vs vs1 : List Nat} {g : R (List PyData) → R W} (hpt : patIn vs pt = true) (hpt1 : patIn vs1 pt1 = true)
    (h : ∃ Z B r m, Sl (plX X Z) H B σ r ∧ So (plX X Z) H B m ∧ PostE (plX X Z) E B H ((fi r m).bind fun its m1 => g (compF its.src (fun w => patF pt w (wipeR r vs)) (bodyF2 ft fi1 pt1 vs1 ft1 fe) its.items [] m1)) Qd)
    (hg1 : g .bad = .bad) (hg2 : ∀ x m, g (.exn x m) = .bad)
    (hg3 : ∀ Z B1 H1 D acc m B H0 m1, So (plX X Z) H1 B1 m1 → H1 D = none → CW (plX X Z) B1 H1 D acc m B H0 → PostE (plX X Z) E B1 H1 (g (.ok acc m)) Qd → Qd (.ref D) H0) :
    tLc2 (rd RI X E fi) (patG X.K pt) (rd RT X E0 ft) (rd RI X E0 fi1) (patG X.K pt1) (rd RT X E0 ft1) (rd RE X E0 fe) vs vs1 σ H Qd := by
  obtain ⟨Z, B, r, m, sl, so, q⟩ := h
  refine ⟨Z, B, r, m, sl, so, q.step fun its m1 J H1 B1 l1 s1 itok q1 => fun D hD => ?_⟩
  have hb : ¬ PostE (plX X Z) E B1 H1 (g .bad) Qd := by rw [hg1]; exact fun z => z
  have hx : ∀ x m, ¬ PostE (plX X Z) E B1 H1 (g (.exn x m)) Qd := fun x m => by rw [hg2]; exact fun z => z
  have kid : ∀ x : R (List PyData), x.bind (fun a m => .ok a m) = x := fun x => by cases x <;> rfl
  have asc : ∀ {α β γ : Type} (x : R α) (f : α → Mu → R β) (g : β → Mu → R γ), (x.bind f).bind g = x.bind fun a m => (f a m).bind g := fun x f g => by cases x <;> rfl
  have hDH : H D = none := Classical.byContradiction fun e => l1.trk D e hD
  have hokD : ∀ (B' : List Addr) (H' : Hp) (xs : HO), Le B1 H1 B' H' → H' D ≠ none → Le B1 H1 B' (upd H' D xs) := by
    intro B' H' xs o hn
    refine ⟨fun a o' ha hk rr => ?_, fun a ha => ?_, o.ext⟩
    · have ne : a ≠ D := fun e => by subst e; rw [hD] at rr; cases rr
      rw [upd_ne ne]
      exact o.keep a o' ha hk rr
    · by_cases e : a = D
      · subst e; rw [upd_same]; exact fun z => nomatch z
      · rw [upd_ne e]; exact o.trk a ha
  refine comp_walk (K := Unit) (P := fun x => PostE (plX X Z) E B1 H1 (g x) Qd) (k := fun a m => .ok a m) (asg := fun w => patF pt w (wipeR r vs)) (body := bodyF2 ft fi1 pt1 vs1 ft1 fe) itok hD (fun _ _ _ => trivial)
    (fun x H' Nx => patG X.K pt x (wipe σ vs) H' fun σ2 H2 => wipe σ2 vs = wipe σ vs ∧ rd RT X E0 ft σ2 H2 fun b H3 =>
      if b = true then rd RI X E0 fi1 σ2 H3 fun J1 H4 => ∃ W1 : Nat → Nat → Hp → Prop, (∃ m, W1 0 m H4) ∧ ∀ j k H, W1 j k H →
        (J1.stop j H ∧ Nx H) ∨ (J1.go j H ∧ ∃ Nx1 : Hp → Prop, (∀ H', Nx1 H' → ∃ k', k' < k ∧ W1 (j + 1) k' H') ∧ ∀ x H', J1.yld j H x H' → patG X.K pt1 x (wipe σ2 vs1) H' fun σ3 H5 => wipe σ3 vs1 = wipe σ2 vs1 ∧ rd RT X E0 ft1 σ3 H5 fun b H6 =>
          if b = true then rd RE X E0 fe σ3 H6 fun y H7 => ∃ acc, H7 D = some (.lst acc) ∧ acc.length < sizeLine ∧ Nx1 (upd H7 D (.lst (acc ++ [y]))) else Nx1 H6)
      else Nx H3) hb (fun B' H' => Le B1 H1 B' H') (fun B H B' H' o l _ => o.trans l) (fun B' H' xs o hn => hokD B' H' xs o hn) (fun B' H' o => ⟨o.z, hid_new hD⟩) [] m1 B1 _ (CW.new s1 hD) (le_laid hD) (by rw [kid]; exact q1) ?_ ?_
  · intro i w x acc m2 B2 H2 r2 k' Nx c o wv ea q2 nx
    have sl2 : Sl (plX X (D :: Z)) H2 B2 (wipe σ vs) (wipeR r vs) := by
      refine Sl.wipe ⟨sl.len, fun j y e => ?_⟩ vs
      obtain ⟨v, e1, e2⟩ := sl.at_ j y e
      exact ⟨v, e1, WV.mz (l1.trans o).z (hid_new hDH) e2⟩
    refine pat_ok (p := plX X (D :: Z)) (vs := vs) pt hpt sl2 wv ea fun σ' sl' hw => ⟨by rw [hw, wipe_wipe], ?_⟩
    refine ⟨D :: Z, B2, r2, m2, sl', c.so, ?_⟩
    unfold bodyF2 at q2
    cases e1 : ft r2 m2 with
    | bad => rw [e1] at q2; exact (hb q2).elim
    | exn y m3 => rw [e1] at q2; exact (hb q2).elim
    | ok b m3 =>
      rw [e1] at q2
      rintro b' H3 B3 l3 s3 rfl
      have c3 := c.go hD l3 s3
      cases b' with
      | false => exact iteF (nx acc m3 B3 H3 c3 (o.trans l3) q2)
      | true =>
        refine iteT ⟨D :: Z, B3, r2, m3, sl'.mono l3, s3, ?_⟩
        replace q2 : PostE (plX X Z) E B1 H1 (g (((fi1 r2 m3).nx.bind fun its1 m2 => compF its1.src (fun w => patF pt1 w (wipeR r2 vs1)) (elemF ft1 fe) its1.items acc m2).bind k')) Qd := q2
        cases e2 : fi1 r2 m3 with
        | bad => rw [e2] at q2; exact (hb q2).elim
        | exn y m4 => rw [e2] at q2; exact (hb q2).elim
        | ok its1 m4 =>
          rw [e2] at q2
          intro J1 H4 B4 l4 s4 it1
          have c4 := c3.go hD l4 s4
          have o4 := o.trans (l3.trans l4)
          refine comp_walk (X := X) (Z := Z) (Z0 := D :: Z) (B1 := B1) (H1 := H1) (K := Unit) (P := fun x => PostE (plX X Z) E B1 H1 (g x) Qd) (k := k') (asg := fun w => patF pt1 w (wipeR r2 vs1)) (body := elemF ft1 fe) it1 hD (fun _ _ _ => trivial)
            (fun x H' Nx1 => patG X.K pt1 x (wipe σ' vs1) H' fun σ3 H5 => wipe σ3 vs1 = wipe σ' vs1 ∧ rd RT X E0 ft1 σ3 H5 fun b H6 =>
              if b = true then rd RE X E0 fe σ3 H6 fun y H7 => ∃ acc, H7 D = some (.lst acc) ∧ acc.length < sizeLine ∧ Nx1 (upd H7 D (.lst (acc ++ [y]))) else Nx1 H6) hb
            (fun B' H' => Le B1 H1 B' H' ∧ LeZ (D :: Z) B4 H4 B' H') (fun B H B' H' o l _ => ⟨o.1.trans l, o.2.trans l.z⟩) ?_ (fun B' H' o => ⟨o.2, fun a h => .inl h⟩) acc m4 B4 H4 c4 ⟨o4, Le.refl.z⟩ q2 ?_ (fun acc' m' B' H' c' o' q' => nx acc' m' B' H' c' o'.1 q')
          · intro B' H' xs o' hn
            refine ⟨hokD B' H' xs o'.1 hn, fun a u ha hz hk rr => ?_, fun a ha => ?_, o'.2.ext⟩
            · have ne : a ≠ D := fun e => hz (by rw [e]; exact List.mem_cons_self)
              rw [upd_ne ne]
              exact o'.2.keep a u ha hz hk rr
            · by_cases e : a = D
              · subst e; rw [upd_same]; exact fun z => nomatch z
              · rw [upd_ne e]; exact o'.2.trk a ha
          · intro i1 w1 x1 acc1 m5 B5 H5 r3 k1 Nx1 c5 o5 wv1 ea1 q5 nx1
            have sl3 : Sl (plX X (D :: Z)) H5 B5 (wipe σ' vs1) (wipeR r2 vs1) := by
              refine Sl.wipe ⟨sl'.len, fun j y e => ?_⟩ vs1
              obtain ⟨v, e1, e2⟩ := sl'.at_ j y e
              have e3 := (e2.mono l3).mono l4
              exact ⟨v, e1, WV.mz (p := plX X (D :: Z)) o5.2 (fun a h => .inl h) e3⟩
            refine pat_ok (p := plX X (D :: Z)) (vs := vs1) pt1 hpt1 sl3 wv1 ea1 fun σ3 sl3' hw3 => ⟨by rw [hw3, wipe_wipe], ?_⟩
            exact elem_step (P := fun x => PostE (plX X Z) E B1 H1 (g x) Qd) (k := k1) hD hb hx c5 sl3' q5 fun acc' m' B' H' c' lz q' => nx1 acc' m' B' H' c' ⟨c'.le, o5.2.trans lz⟩ q'
  · intro acc m2 B2 H2 c o q2
    exact hg3 Z B1 H1 D acc m2 B2 H2 m1 s1 hD c q2
theorem we_comp2 (hc : X.calm = true) (hN : X.N.Nodup) (hi : WI X E tg iter fi) (ok : BlkOk X.N X.env.scope scope own) (hv : ∀ i ∈ vs1, i ∈ own.map (·.2)) (hpt : patIn (own.map (·.2)) pt = true) (hpt1 : patIn vs1 pt1 = true)
    (hg : ∀ s H C cl fp, WP (Blk X scope s H C cl fp) tg pt) (ht : ∀ s H C cl fp, WTs (Blk X scope s H C cl fp) E0 ifs ft) (hi1 : ∀ s H C cl fp, WI (Blk X scope s H C cl fp) E0 tg1 iter1 fi1)
    (hg1 : ∀ s H C cl fp, WP (Blk X scope s H C cl fp) tg1 pt1) (ht1 : ∀ s H C cl fp, WTs (Blk X scope s H C cl fp) E0 ifs1 ft1) (he : ∀ s H C cl fp, WE (Blk X scope s H C cl fp) E0 elt fe)
    (hs : ∀ x, foldedSetIterable iter X.env x = pure x := by intro _; rfl) (hs1 : ∀ env x, foldedSetIterable iter1 env x = pure x := by intro _ _; rfl) :
    WE X E (.ListComp elt [⟨tg, iter, ifs, 0⟩, ⟨tg1, iter1, ifs1, 0⟩] scope pos) (fComp2 fi pt (own.map (·.2)) ft fi1 pt1 vs1 ft1 fe) :=
  ⟨fun pins s σ H Q I h => (pe_lc2 (g := patG X.K pt) (tt := rd RT X E0 ft) (wi1 := rd RI X E0 fi1) (g1 := patG X.K pt1) (tt1 := rd RT X E0 ft1) (te := rd RE X E0 fe) hc hN hi ok hv hg ht hi1 hg1 ht1 he hs hs1).run pins s σ H Q I (comp2_read (fi := fi) (pt := pt) (ft := ft) (fi1 := fi1) (pt1 := pt1) (ft1 := ft1) (fe := fe) (g := fun x => x.nx.bind fun acc m2 => R.ok (W.d (PyData.list acc)) m2) hpt hpt1 h rfl (fun _ _ => rfl) fun Z B1 H1 D acc m B H0 m1 so hD c q => by
    obtain ⟨s2, wv⟩ := c.done so hD
    exact q _ H0 B c.le s2 wv)⟩
end
end Wy
set_option Elab.async false
set_option linter.all false
set_option maxRecDepth 100000
set_option maxHeartbeats 4000000
/-! WS1: small sets of keys in tuples of any depth. -/
namespace Wy
open PySem PySem.Spec PyProof.Rows L2
mutual
/-- no texts within -/
def numy : NestedKey → Bool
  | .none => true
  | .num _ => true
  | .text _ => false
  | .tup ks => numys ks
def numys : List NestedKey → Bool
  | [] => true
  | k :: ks => numy k && numys ks
end
section
variable {P : Program} {w : World} {A : Around} {E : Value → Shared → Prop} {s : Shared}
/-- a question asked of v within n levels is answered by b -/
def Says (P : Program) (w : World) (f : Nat → Value → Sem Bool) (b : Bool) (n : Nat) (s : Shared) (v : Value) : Prop := ∀ (A : Around) (E : Value → Shared → Prop) (Q : Bool → Shared → Prop), Q b s → wpAny (model P w) A (f n v) Q E s
theorem cls_tup {n : Nat} {a : Addr} {o : Obj} {vs : Array Value} {m : Nat} (ho : s.heap.get? a = some o) (hc : o.cls = .type "tuple") (hd : o.data = .seq vs m) (hq : ∀ v ∈ vs.toList, Says P w ofAClassStatement false n s v) : Says P w ofAClassStatement false (n + 1) s (.ref a) := fun A E Q h => by
  have hT : s.TypeIs (.ref a) "tuple" := ⟨o, ho, hc⟩
  unfold ofAClassStatement
  refine wpAny_bind (wpAny_typeOf hT ?_)
  dsimp only
  have et : (("tuple" : String) == "tuple") = true := by decide
  simp only [et, if_true, Bool.not_true, Bool.false_eq_true, if_false]
  try refine wpAny_bind (wpAny_pure ?_)
  try simp only [Bool.not_true, Bool.false_eq_true, if_false]
  refine wpAny_bind (wpAny_seqItems ho hd ?_)
  dsimp only
  refine wpAny_bind ?_
  show wpAny _ _ (forIn vs _ _) _ _ s
  rw [← Array.forIn_toList]
  refine wpAny_forIn_list _ (fun l st s' => (st.1 = none ∧ s' = s) ∧ ∀ v ∈ l, Says P w ofAClassStatement false n s v) _ ?_ ?_ _ _ ⟨⟨rfl, rfl⟩, hq⟩
  · rintro v l st s' ⟨⟨q1, rfl⟩, q2⟩
    refine wpAny_bind (q2 v List.mem_cons_self _ _ _ ?_)
    simp only [Bool.false_eq_true, if_false]
    exact wpAny_pure ⟨⟨rfl, rfl⟩, fun u hu => q2 u (List.mem_cons_of_mem _ hu)⟩
  · rintro ⟨r1, r2⟩ s' ⟨⟨q1, rfl⟩, _⟩
    simp only at q1
    subst q1
    exact wpAny_pure h
theorem hbv_tup {n : Nat} {a : Addr} {o : Obj} {vs : Array Value} {m : Nat} (ho : s.heap.get? a = some o) (hc : o.cls = .type "tuple") (hd : o.data = .seq vs m) (hq : ∀ v ∈ vs.toList, Says P w hashByValue true n s v) : Says P w hashByValue true (n + 1) s (.ref a) := fun A E Q h => by
  have hT : s.TypeIs (.ref a) "tuple" := ⟨o, ho, hc⟩
  unfold hashByValue
  refine wpAny_bind (wpAny_specialOf hT F.slot_tuple_hash.lookup ?_)
  refine wpAny_bind (wpAny_seqItems ho hd ?_)
  refine wpAny_bind ?_
  show wpAny _ _ (forIn vs _ _) _ _ s
  rw [← Array.forIn_toList]
  refine wpAny_forIn_list _ (fun l st s' => (st.1 = none ∧ s' = s) ∧ ∀ v ∈ l, Says P w hashByValue true n s v) _ ?_ ?_ _ _ ⟨⟨rfl, rfl⟩, hq⟩
  · rintro v l st s' ⟨⟨q1, rfl⟩, q2⟩
    refine wpAny_bind (q2 v List.mem_cons_self _ _ _ ?_)
    simp only [Bool.not_true, Bool.false_eq_true, if_false]
    exact wpAny_pure ⟨⟨rfl, rfl⟩, fun u hu => q2 u (List.mem_cons_of_mem _ hu)⟩
  · rintro ⟨r1, r2⟩ s' ⟨⟨q1, rfl⟩, _⟩
    simp only at q1
    subst q1
    exact wpAny_pure h
mutual
theorem says_key : ∀ (k : NestedKey) (v : Value) (n : Nat) (s : Shared), NestedIs s.heap k v → k.depth ≤ n → numy k = true → Says P w ofAClassStatement false n s v ∧ Says P w hashByValue true n s v
  | .none, _, n, s, x, _, _ => by
    cases x
    exact ⟨fun A E Q h => by cases n <;> exact wpAny_pure h, fun A E Q h => by cases n <;> exact wpAny_pure h⟩
  | .num i, _, n, s, x, _, _ => by
    cases x <;> exact ⟨fun A E Q h => by cases n <;> exact wpAny_pure h, fun A E Q h => by cases n <;> exact wpAny_pure h⟩
  | .text y, _, n, s, x, _, hn => by simp [numy] at hn
  | .tup ks, _, n, s, x, hd, hn => by
    cases x with
    | tup hg hc hd2 hk =>
      simp only [NestedKey.depth] at hd
      cases n with
      | zero => omega
      | succ n =>
        have q := says_keys ks _ n s hk (by omega) (by simpa [numy] using hn)
        exact ⟨cls_tup hg hc hd2 fun v hv => (q v hv).1, hbv_tup hg hc hd2 fun v hv => (q v hv).2⟩
theorem says_keys : ∀ (ks : List NestedKey) (vs : List Value) (n : Nat) (s : Shared), NestedAll s.heap ks vs → NestedKey.depthAll ks ≤ n → numys ks = true → ∀ v ∈ vs, Says P w ofAClassStatement false n s v ∧ Says P w hashByValue true n s v
  | [], _, n, s, x, _, _, v, hv => by cases x; cases hv
  | k :: ks, _, n, s, x, hd, hn, v, hv => by
    cases x with
    | cons x1 x2 =>
      simp only [NestedKey.depthAll] at hd
      have hn' := Bool.and_eq_true_iff.mp (show (numy k && numys ks) = true from by simpa [numys] using hn)
      rcases List.mem_cons.mp hv with e | hv
      · rw [e]; exact says_key k _ n s x1 (by omega) hn'.1
      · exact says_keys ks _ n s x2 (by omega) hn'.2 v hv
end
/-- the tuple at a is the key k, without texts -/
structure KA (P : Program) (w : World) (h : Heap) (k : NestedKey) (a : Addr) : Prop where
  is : (nestedKind P w).is h k a
  nm : numy k = true
theorem KA.keep {h h' : Heap} {k : NestedKey} {a : Addr} (x : KA P w h k a) (e : ∀ b o, h.get? b = some o → h'.get? b = some o) : KA P w h' k a := ⟨⟨NestedIs.at (fun b o _ _ q _ => e b o q) k _ x.is.1, x.is.2⟩, x.nm⟩
theorem KA.but {h h' : Heap} {k : NestedKey} {a b : Addr} {o : Obj} {es : Array (Int × Value)} {ep : Nat} {t : SetTable} (x : KA P w h k a) (ho : h.get? b = some o) (hd : o.data = .set es ep t) (e : Heap.SameBut b h h') : KA P w h' k a :=
  ⟨⟨NestedIs.at (fun c u vs n q dq => by
    have ne : c ≠ b := fun z => by
      subst z
      rw [ho] at q
      cases q
      rw [hd] at dq
      cases dq
    rw [e.2 c ne]; exact q) k _ x.is.1, x.is.2⟩, x.nm⟩
abbrev hsh (w : World) (k : NestedKey) : Int := NestedKey.hash w k
theorem search_quiet {k : NestedKey} {b : Addr} {Q : Bool → Shared → Prop} (hk : KA P w s.heap k b) {ys : List Value} (hy : ∀ y ∈ ys, ∃ k' c, y = Value.ref c ∧ KA P w s.heap k' c) (h : Q false s) :
    wpAny (model P w) A (searchCouldBeSeen (.ref b) ys) Q E s := by
  unfold searchCouldBeSeen
  refine wpAny_bind ?_
  refine wpAny_forIn_list _ (fun l st s' => (st.1 = none ∧ s' = s) ∧ ∀ y ∈ l, ∃ k' c, y = Value.ref c ∧ KA P w s.heap k' c) _ ?_ ?_ _ _ ⟨⟨rfl, rfl⟩, hy⟩
  · rintro v l st s' ⟨⟨q1, rfl⟩, q2⟩
    obtain ⟨k', c, rfl, hc⟩ := q2 v List.mem_cons_self
    have tl := fun u hu => q2 u (List.mem_cons_of_mem _ hu)
    dsimp only
    by_cases z : (b == c || (carriedByValue (.ref b) && carriedByValue (.ref c))) = true
    · exact wp_if_pos z (wpAny_pure ⟨⟨rfl, rfl⟩, tl⟩)
    · refine wp_if_neg z ?_
      refine wpAny_bind ((nestedKind P w).quiet hk.is ?_)
      simp only [Bool.not_true, Bool.false_eq_true, if_false]
      refine wpAny_bind ((nestedKind P w).quiet hc.is ?_)
      simp only [Bool.not_true, Bool.false_eq_true, if_false]
      refine wpAny_bind ((says_key (P := P) (w := w) _ _ 8 _ hk.is.1 hk.is.2 hk.nm).1 _ _ _ ?_)
      simp only [Bool.false_eq_true, if_false]
      refine wpAny_bind ((says_key (P := P) (w := w) _ _ 8 _ hc.is.1 hc.is.2 hc.nm).1 _ _ _ ?_)
      simp only [Bool.false_eq_true, if_false]
      exact wpAny_pure ⟨⟨rfl, rfl⟩, tl⟩
  · rintro ⟨r1, r2⟩ s' ⟨⟨q1, rfl⟩, _⟩
    simp only at q1
    subst q1
    exact wpAny_pure h
end
end Wy
set_option Elab.async false
set_option linter.all false
set_option maxRecDepth 100000
set_option maxHeartbeats 4000000
/-! WS2: the small table; a search; one key more. -/
namespace Wy
open PySem PySem.Spec PyProof.Rows L2
section
variable {P : Program} {w : World} {A : Around} {E : Value → Shared → Prop} {s : Shared}
def rowN (w : World) (q : Addr × NestedKey) : Int × Value := (hsh w q.2, Value.ref q.1)
structure SetN (P : Program) (w : World) (h : Heap) (a : Addr) (L : List (Addr × NestedKey)) (es : Array (Int × Value)) (ep : Nat) (t : SetTable) : Prop where
  ob : ∃ o, h.get? a = some o ∧ o.ExactSet ∧ o.data = .set es ep t
  rows : es.toList = L.map (rowN w)
  tab : TabOk t (L.map fun q => hsh w q.2)
  nd : (L.map (·.2)).Nodup
  ka : ∀ q ∈ L, KA P w h q.2 q.1
  plain : t.plain = true
  led : w.params.followText "set-order" = true ∨ t.led = true
  m7 : t.mask = 7
  few : L.length ≤ 4
variable {a : Addr} {L : List (Addr × NestedKey)} {es : Array (Int × Value)} {ep : Nat} {t : SetTable}
theorem SetN.size (R : SetN P w s.heap a L es ep t) : es.size = L.length := by
  have h := congrArg List.length R.rows
  simpa using h
theorem SetN.place (R : SetN P w s.heap a L es ep t) : t.place.size = L.length := by
  have h := R.tab.sz
  simpa using h
theorem SetN.fits (R : SetN P w s.heap a L es ep t) : t.fits es.size = true := by
  have h1 := R.place
  have h2 := R.size
  have h3 := R.few
  unfold SetTable.fits SetTable.fill
  rw [R.tab.dm, Bool.and_eq_true, beq_iff_eq, decide_eq_true_eq, R.m7]
  show t.place.size = es.size ∧ t.place.size + 0 ≤ 7
  omega
theorem SetN.at_ (R : SetN P w s.heap a L es ep t) {i : Nat} {q : Addr × NestedKey} (h : L[i]? = some q) : es[i]? = some (rowN w q) := by
  rw [← Array.getElem?_toList, R.rows, List.getElem?_map, h]
  rfl
theorem SetN.stays (R : SetN P w s.heap a L es ep t) : ¬ t.gaveWay = true := by
  unfold SetTable.gaveWay
  rw [R.m7]
  decide
/-- the state of the search behind c steps -/
abbrev stp (t : SetTable) (h : Int) (c : Nat) : SetTable.Probe := nth t.mask (runAt t.mask (SetTable.bits h % (t.mask + 1)) (SetTable.bits h)) c
theorem stp_dummy (t : SetTable) (h : Int) (c : Nat) : (stp t h c).dummy = none := by
  have go : ∀ (n : Nat) (p : SetTable.Probe), p.dummy = none → (nth t.mask p n).dummy = none := by
    intro n
    induction n with
    | zero => exact fun p e => e
    | succ n ih =>
      intro p e
      refine ih (adv t.mask p) ?_
      unfold adv
      split <;> exact e
  exact go c _ rfl
theorem stp_go (t : SetTable) (h : Int) (c q : Nat) : nth t.mask (stp t h c) q = stp t h (c + q) := (nth_add t.mask c _ q).symm
theorem set_search (R : SetN P w s.heap a L es ep t) {x : Addr} {k : NestedKey} (hx : KA P w s.heap k x) (hu : A.units + 8 < cLine) {K : Nat} (hKf : K < 10 * SetTable.turns t.mask)
    (hK : way t.mask (hsh w k) K ∉ t.place.toList) (hKb : ∀ c, c < K → way t.mask (hsh w k) c ∈ t.place.toList) {Q : SetFound → Shared → Prop}
    (hin : k ∈ L.map (·.2) → Q (.there none) s) (hout : k ∉ L.map (·.2) → Q (.free (way t.mask (hsh w k) K) false) s) :
    ∀ (f c : Nat) (stand : Option SetTable.Probe), stand.getD (t.probeStart (hsh w k)) = stp t (hsh w k) c → c ≤ K → K - c < f →
      (∀ (i : Nat) q, L[i]? = some q → q.2 = k → ∃ c', c ≤ c' ∧ c' < K ∧ t.place.toList[i]? = some (way t.mask (hsh w k) c')) →
      wpAny (model P w) A (setSearchFrom a (.ref x) (hsh w k) true f stand) Q E s
  | 0, c, stand, _, _, hf, _ => absurd hf (Nat.not_lt_zero _)
  | f + 1, c, stand, hst, hc, hf, hre => by
    obtain ⟨o, ho, hex, hd⟩ := R.ob
    rw [setSearchFrom_succ]
    refine wpAny_bind (wpAny_setState_of ho hd R.fits ?_)
    dsimp only
    refine wp_if_neg R.stays ?_
    try refine wpAny_bind (wpAny_pure ?_)
    have e1 : ∀ q, (nth t.mask (stp t (hsh w k) c) q).j = way t.mask (hsh w k) (c + q) := fun q => congrArg SetTable.Probe.j (stp_go t (hsh w k) c q)
    have spec := go_spec t R.tab.ris R.tab.dm (fun i => (es[i]?.map (·.1)).getD 0) (hsh w k) (10 * SetTable.turns t.mask) (K - c) _ (stp_dummy t (hsh w k) c) (by omega)
      (fun q hq => by rw [e1]; exact hKb (c + q) (by omega)) (by rw [e1, show c + (K - c) = K by omega]; exact hK)
    have hashAt : ∀ (i : Nat) q, L[i]? = some q → (fun i => (es[i]?.map (·.1)).getD 0) i = hsh w q.2 := fun i q hq => by
      show (es[i]?.map (·.1)).getD 0 = _
      rw [R.at_ hq]
      rfl
    rcases spec with ⟨q, i, hq, hi, hh, hno, hpr⟩ | ⟨hno, hpr⟩
    · have hpr' : t.probe (fun i => (es[i]?.map (·.1)).getD 0) (hsh w k) (stand.getD (t.probeStart (hsh w k))) = some (.candidate (way t.mask (hsh w k) (c + q)) i (stp t (hsh w k) (c + (q + 1)))) := by
        rw [hst, ← e1, ← stp_go]
        exact hpr
      rw [hpr']
      dsimp only
      rw [e1] at hi
      have hil : i < L.length := by
        have h1 := (List.getElem?_eq_some_iff.mp hi).1
        rw [Array.length_toList, R.place] at h1
        exact h1
      have hp : L[i]? = some L[i] := List.getElem?_eq_getElem hil
      generalize L[i] = p at hp
      have hmem : p ∈ L := List.mem_of_getElem? hp
      have hpk := R.ka p hmem
      have rest : wpAny (model P w) A (searchRest a (.ref x) (hsh w k) true f es t (way t.mask (hsh w k) (c + q)) i (stp t (hsh w k) (c + (q + 1)))) Q E s := by
        unfold searchRest
        rw [R.at_ hp]
        dsimp only [rowN]
        refine wpAny_bind (wpAny_holding ((nestedKind P w).eqBool (by exact hu) hpk.is hx.is ?_))
        refine wpAny_bind (wpAny_setState_of ho hd R.fits ?_)
        dsimp only
        by_cases hkk : p.2 = k
        · refine wp_if_pos (by simp [hkk]) ?_
          exact wpAny_pure (hin (List.mem_map.mpr ⟨p, hmem, hkk⟩))
        · refine wp_if_neg (by simp [hkk]) ?_
          try refine wpAny_bind (wpAny_pure ?_)
          rw [sameMem]
          dsimp only
          have hsl : t.slot (way t.mask (hsh w k) (c + q)) = .live i := slot_live R.tab.ris hi
          simp only [if_true, hsl, R.at_ hp, rowN]
          refine wpAny_bind (wpAny_isSame_ref_self (wpAny_bind (wpAny_pure ?_)))
          simp only [if_true]
          refine wp_if_neg (by simp [hkk]) ?_
          refine set_search R hx hu hKf hK hKb hin hout f (c + (q + 1)) _ rfl (by omega) (by omega) fun i0 p0 h0 hk0 => ?_
          obtain ⟨c', a1, a2, a3⟩ := hre i0 p0 h0 hk0
          refine ⟨c', ?_, a2, a3⟩
          rcases Nat.lt_trichotomy c' (c + q) with z | z | z
          · exact absurd ((hashAt i0 p0 h0).trans (congrArg (hsh w) hk0)) (hno (c' - c) i0 (by omega) (by rw [e1, show c + (c' - c) = c' by omega]; exact a3))
          · exfalso
            rw [z] at a3
            have s0 := slot_live R.tab.ris a3
            rw [hsl] at s0
            injection s0 with s0
            rw [← s0, hp] at h0
            exact hkk ((congrArg Prod.snd (Option.some.inj h0)).trans hk0)
          · omega
      by_cases hl : t.led = true
      · refine wp_if_neg (by simp [hl]) ?_
        try refine wpAny_bind (wpAny_pure ?_)
        exact rest
      · refine wp_if_pos (by simp [hl]) ?_
        refine wpAny_bind (search_quiet hx (fun y hy => ?_) ?_)
        · obtain ⟨e, he, ee⟩ := List.mem_map.mp hy
          have he1 : e ∈ es ∧ e.1 = hsh w k := by simpa using he
          have he2 : e ∈ es.toList := by simpa using he1.1
          rw [R.rows] at he2
          obtain ⟨p2, hp2, e2⟩ := List.mem_map.mp he2
          exact ⟨p2.2, p2.1, by rw [← ee, ← e2]; rfl, R.ka p2 hp2⟩
        · refine wp_if_neg (by decide) ?_
          try refine wpAny_bind (wpAny_pure ?_)
          exact rest
    · have hpr' : t.probe (fun i => (es[i]?.map (·.1)).getD 0) (hsh w k) (stand.getD (t.probeStart (hsh w k))) = some (.empty (way t.mask (hsh w k) K) none) := by
        have e2 : way t.mask (hsh w k) K = (nth t.mask (stp t (hsh w k) c) (K - c)).j := by rw [e1, show c + (K - c) = K by omega]
        rw [hst, e2]
        exact hpr
      rw [hpr']
      dsimp only
      refine wpAny_pure (hout fun hm => ?_)
      obtain ⟨p0, h0, hk0⟩ := List.mem_map.mp hm
      obtain ⟨i0, h00⟩ := List.mem_iff_getElem?.mp h0
      obtain ⟨c', a1, a2, a3⟩ := hre i0 p0 h00 hk0
      exact hno (c' - c) i0 (by omega) (by rw [e1, show c + (c' - c) = c' by omega]; exact a3) ((hashAt i0 p0 h00).trans (congrArg (hsh w) hk0))
theorem set_seek (R : SetN P w s.heap a L es ep t) {x : Addr} {k : NestedKey} (hx : KA P w s.heap k x) (hu : A.units + 8 < cLine) {Q : SetFound → Shared → Prop}
    (hin : k ∈ L.map (·.2) → Q (.there none) s)
    (hout : ∀ K, k ∉ L.map (·.2) → way t.mask (hsh w k) K ∉ t.place.toList → (∀ c, c < K → way t.mask (hsh w k) c ∈ t.place.toList) → Q (.free (way t.mask (hsh w k) K) false) s) :
    wpAny (model P w) A (setSearch a (.ref x) (hsh w k) true) Q E s := by
  obtain ⟨K, hKf, hK, hKb⟩ := R.tab.first (by rw [List.length_map, R.m7]; have := R.few; omega) (hsh w k)
  have hbig : K < 100000 := by
    have : 10 * SetTable.turns t.mask ≤ 1420 := by
      unfold SetTable.turns
      rw [R.m7]
      omega
    omega
  unfold setSearch
  refine set_search R hx hu hKf hK hKb hin (fun hn => hout K hn hK hKb) 100000 0 none rfl (Nat.zero_le _) (by omega) fun i q hq hk => ?_
  have hi : (L.map fun q => hsh w q.2)[i]? = some (hsh w k) := by rw [List.getElem?_map, hq, ← hk]; rfl
  have hil : i < t.place.toList.length := by
    rw [Array.length_toList, R.place]
    exact (List.getElem?_eq_some_iff.mp hq).1
  have hj := List.getElem?_eq_getElem hil
  obtain ⟨c, hc, e⟩ := R.tab.before hK hi hj
  exact ⟨c, Nat.zero_le _, hc, by rw [hj, e]⟩
theorem set_add (R : SetN P w s.heap a L es ep t) {x : Addr} {k : NestedKey} (hx : KA P w s.heap k x) (hu : A.units + 8 < cLine) (hfew : L.length + 1 ≤ 4) {Q : Bool → Shared → Prop}
    (hQ : ∀ b h' L' es' ep' t', Heap.SameBut a s.heap h' → SetN P w h' a L' es' ep' t' → (k ∈ L.map (·.2) → L' = L) → (k ∉ L.map (·.2) → L'.Perm ((x, k) :: L)) → Q b { s with heap := h' }) :
    wpAny (model P w) A (setAddHashed a (.ref x) (hsh w k)) Q E s := by
  obtain ⟨o, ho, hex, hd⟩ := R.ob
  have hsl := R.size
  unfold setAddHashed
  refine wpAny_holding ?_
  rw [show (100000 : Nat) = 99999 + 1 from rfl, setAddHashedIn_succ]
  refine wpAny_bind (wpAny_setState_of ho hd R.fits ?_)
  dsimp only
  refine wp_if_neg (by simp [byScan, Value.scannable]) ?_
  try refine wpAny_bind (wpAny_pure ?_)
  refine wpAny_bind (set_seek R hx hu (fun hm => ?_) fun K hm hK hb => ?_)
  · dsimp only
    exact wpAny_pure (hQ false s.heap L es ep t (Heap.SameBut.refl a s.heap) R (fun _ => rfl) fun z => absurd hm z)
  · dsimp only
    refine wpAny_bind (wpAny_setState_of ho hd R.fits ?_)
    dsimp only
    obtain ⟨q1, q2, q3, q4, q5, q6, q7, q8, q9⟩ := R.tab.put hK hb
    have hp1 : (t.put (way t.mask (hsh w k) K)).1.plain = true := by rw [q6]; exact R.plain
    generalize hpt : t.put (way t.mask (hsh w k) K) = pt at q1 q3 q4 q5 q6 q7 q8 q9 hp1 ⊢
    obtain ⟨t1, p⟩ := pt
    dsimp only at q1 q3 q4 q5 q6 q7 q8 q9 hp1 ⊢
    subst q1
    have hbv := (says_key (P := P) (w := w) _ _ 8 s hx.is.1 hx.is.2 hx.nm).2
    first
      | (refine wpAny_bind ?_; refine wp_if_pos hp1 ?_; refine hbv _ _ _ ?_)
      | refine wp_if_pos hp1 (wpAny_bind (hbv _ _ _ ?_))
    simp only [if_true]
    generalize hpp : SetTable.below t.place (way t.mask (hsh w k) K) = p at q2 q3 ⊢
    have hin : (SetTable.insertAt es p (hsh w k, Value.ref x)).toList = (L.take p ++ (x, k) :: L.drop p).map (rowN w) := by
      rw [SetTable.toList_insertAt, R.rows, List.map_append, List.map_cons, List.map_take, List.map_drop]
      rfl
    have pm : (L.take p ++ (x, k) :: L.drop p).Perm ((x, k) :: L) := by
      have h : (L.take p ++ (x, k) :: L.drop p).Perm ((x, k) :: (L.take p ++ L.drop p)) := List.perm_middle
      rw [List.take_append_drop] at h
      exact h
    have hlen : (L.take p ++ (x, k) :: L.drop p).length = L.length + 1 := pm.length_eq
    have hhs : (L.take p ++ (x, k) :: L.drop p).map (fun q => hsh w q.2) = (L.map fun q => hsh w q.2).take p ++ hsh w k :: (L.map fun q => hsh w q.2).drop p := by
      rw [List.map_append, List.map_cons, List.map_take, List.map_drop]
    rw [← hhs] at q3
    have nd1 : ((L.take p ++ (x, k) :: L.drop p).map (·.2)).Nodup := by
      refine (pm.map (·.2)).nodup_iff.mpr ?_
      rw [List.map_cons]
      exact List.nodup_cons.mpr ⟨hm, R.nd⟩
    have hes : (SetTable.insertAt es p (hsh w k, Value.ref x)).size = L.length + 1 := by
      have h := congrArg List.length hin
      rw [Array.length_toList, List.length_map, hlen] at h
      exact h
    generalize SetTable.insertAt es p (hsh w k, Value.ref x) = es1 at hin hes ⊢
    generalize L.take p ++ (x, k) :: L.drop p = L1 at pm hlen q3 nd1 hin
    refine wpAny_bind (wpAny_storeSet_of ho hd ?_ (by rw [hes, sizeLine_eq]; omega))
    have sb : Heap.SameBut a s.heap (s.heap.update a (Obj.putSet es1 t1)) := Heap.SameBut.update ..
    have ho1 := store_at (es' := es1) (t' := t1) ho hd
    generalize s.heap.update a (Obj.putSet es1 t1) = h1 at sb ho1 ⊢
    have ka1 : ∀ q ∈ L1, KA P w h1 q.2 q.1 := fun q hq => by
      rcases List.mem_cons.mp (pm.mem_iff.mp hq) with e | hq
      · rw [e]; exact hx.but ho hd sb
      · exact (R.ka q hq).but ho hd sb
    have nf : ¬ t1.tooFull = true := by
      unfold SetTable.tooFull
      rw [decide_eq_true_eq, q9, List.length_map, q4, R.m7]
      omega
    first
      | refine wp_if_neg (by simp [nf]) ?_
      | (refine wpAny_bind ?_; refine wp_if_neg (by simp [nf]) ?_; refine wpAny_pure ?_)
    exact wpAny_pure (hQ true h1 L1 es1 (ep + 1) t1 sb ⟨⟨_, ho1, ⟨hex.1, hex.2.1, hex.2.2⟩, rfl⟩, hin, q3, nd1, ka1, hp1, by rw [q5]; exact R.led, by rw [q4]; exact R.m7, by rw [hlen]; exact hfew⟩ (fun z => absurd z hm) fun _ => pm)
theorem SetN.keep {h h' : Heap} (R : SetN P w h a L es ep t) (e : ∀ o, h.get? a = some o → h'.get? a = some o) (ks : ∀ q ∈ L, KA P w h' q.2 q.1) : SetN P w h' a L es ep t := by
  obtain ⟨o, ho, r⟩ := R.ob
  exact ⟨⟨o, e o ho, r⟩, R.rows, R.tab, R.nd, ks, R.plain, R.led, R.m7, R.few⟩
abbrev newSet (w : World) : Obj := { cls := .type "set", dict := none, data := .set #[] 0 (.fresh 0 0 (!w.params.followText "set-order")) }
theorem setN_new {h : Heap} (ho : h.get? a = some (newSet w)) : SetN P w h a [] #[] 0 (.fresh 0 0 (!w.params.followText "set-order")) where
  ob := ⟨_, ho, ⟨rfl, rfl, rfl⟩, rfl⟩
  rows := rfl
  tab := ⟨List.Pairwise.nil, rfl, rfl, .inl rfl, fun x hx => (by cases hx), fun i h j hi => (by simp at hi)⟩
  nd := List.nodup_nil
  ka := fun q hq => (by cases hq)
  plain := rfl
  led := by
    show _ ∨ (!w.params.followText "set-order") = true
    cases w.params.followText "set-order"
    · exact .inr rfl
    · exact .inl rfl
  m7 := rfl
  few := by decide
end
end Wy
set_option Elab.async false
set_option linter.all false
set_option maxRecDepth 100000
set_option maxHeartbeats 4000000
/-! WS3: set(xs) for at most four keys; sorted of it. -/
namespace Wy
open PySem PySem.Spec PyProof.Rows L2
/-- what the set has of the first i -/
structure Has (ks : List (Addr × NestedKey)) (i : Nat) (L : List (Addr × NestedKey)) : Prop where
  sub : ∀ q ∈ L, q ∈ ks.take i
  all : ∀ q ∈ ks.take i, q.2 ∈ L.map (·.2)
  len : L.length ≤ i
theorem Has.zero (ks : List (Addr × NestedKey)) : Has ks 0 [] := ⟨fun q h => (by cases h), fun q h => (by simp at h), Nat.le_refl _⟩
theorem Has.step {ks L L' : List (Addr × NestedKey)} {i : Nat} {x : Addr × NestedKey} (g : Has ks i L) (h : ks[i]? = some x) (c1 : x.2 ∈ L.map (·.2) → L' = L) (c2 : x.2 ∉ L.map (·.2) → L'.Perm (x :: L)) : Has ks (i + 1) L' := by
  have tk : ks.take (i + 1) = ks.take i ++ [x] := by rw [List.take_succ, h]; rfl
  by_cases c : x.2 ∈ L.map (·.2)
  · rw [c1 c]
    refine ⟨fun q hq => by rw [tk]; exact List.mem_append_left _ (g.sub q hq), fun q hq => ?_, Nat.le_succ_of_le g.len⟩
    rw [tk] at hq
    rcases List.mem_append.mp hq with z | z
    · exact g.all q z
    · rw [List.mem_singleton.mp z]; exact c
  · have pm := c2 c
    refine ⟨fun q hq => ?_, fun q hq => ?_, by rw [pm.length_eq, List.length_cons]; exact Nat.succ_le_succ g.len⟩
    · rw [tk]
      rcases List.mem_cons.mp (pm.mem_iff.mp hq) with e | z
      · rw [e]; exact List.mem_append_right _ (List.mem_singleton.mpr rfl)
      · exact List.mem_append_left _ (g.sub q z)
    · rw [(pm.map (·.2)).mem_iff, List.map_cons]
      rw [tk] at hq
      rcases List.mem_append.mp hq with z | z
      · exact List.mem_cons_of_mem _ (g.all q z)
      · rw [List.mem_singleton.mp z]; exact List.mem_cons_self
section
variable {P : Program} {w : World} {A : Around} {E : Value → Shared → Prop} {s : Shared}
theorem upd_loop {I : Addr} {fp wr : List Addr} {G : Array GenState → Array GenState → Prop} {n : Nat} {Pv : Nat → Value → Prop} {St : Nat → Shared → Prop} {R : Result → Shared → Prop}
    (W : WalksS P w A.in1 I fp wr G n Pv St) (S : Addr) (hSf : S ∉ fp) (ks : List (Addr × NestedKey)) (hn : n = ks.length) (h4 : ks.length ≤ 4) (hval : ∀ i v, Pv i v → ∃ q, ks[i]? = some q ∧ v = .ref q.1)
    (h0 : Heap) (hk : ∀ q ∈ ks, KA P w h0 q.2 q.1) (hS0 : h0.get? S = none) (hw0 : ∀ b ∈ wr, h0.get? b = none) (hu : A.in1.units + 8 < cLine) :
    ∀ (k i : Nat) (s : Shared), n - i = k → i ≤ n → St i s → (∀ b o, h0.get? b = some o → s.heap.get? b = some o) → (∃ L es ep t, SetN P w s.heap S L es ep t ∧ Has ks i L) →
      (∀ s' L es ep t, Moved (S :: wr) G s s' → SetN P w s'.heap S L es ep t → Has ks n L → (∀ b o, h0.get? b = some o → s'.heap.get? b = some o) → R (.ok (.ret .none)) s') →
      codeAny (model P w) A (.builtin "set.update.loop" ⟨[.ref S, .ref I], []⟩) R s := by
  have hSw : S ∉ wr := fun h => hSf (W.sub _ h)
  have hsub : ∀ b ∈ wr, b ∈ S :: wr := fun b hb => List.mem_cons_of_mem _ hb
  have keepM : ∀ {s s' : Shared}, Moved wr G s s' → (∀ b o, h0.get? b = some o → s.heap.get? b = some o) → ∀ b o, h0.get? b = some o → s'.heap.get? b = some o := fun hm hkp b o e =>
    hm.heap b o (fun hb => by rw [hw0 b hb] at e; cases e) (hkp b o e)
  intro k
  induction k with
  | zero =>
    intro i s hki hi hst hkp hL hR
    obtain ⟨L, es, ep, t, hS, g⟩ := hL
    obtain rfl : i = n := by omega
    refine codeAny_builtin F.entry_set_update_loop ?_
    rw [Around.under_plainId F.plain_set_update_loop _]
    refine wpAny_bind (W.done s _ _ hst fun s' hm => ?_)
    have kp := keepM hm hkp
    refine wpAny_pure (hR s' L es ep t (hm.mono hsub) (hS.keep (fun o e => hm.heap S o hSw e) fun q hq => (hk q ?_).keep kp) g kp)
    exact List.mem_of_mem_take (g.sub q hq)
  | succ k ih =>
    intro i s hki hi hst hkp hL hR
    obtain ⟨L, es, ep, t, hS, g⟩ := hL
    have hlt : i < n := by omega
    refine codeAny_builtin F.entry_set_update_loop ?_
    rw [Around.under_plainId F.plain_set_update_loop _]
    refine wpAny_bind (W.item i s _ _ hlt hst fun v s' hP hst' hm => ?_)
    obtain ⟨q, hq, rfl⟩ := hval i v hP
    have kp := keepM hm hkp
    have hS' : SetN P w s'.heap S L es ep t := hS.keep (fun o e => hm.heap S o hSw e) fun z hz => (hk z (List.mem_of_mem_take (g.sub z hz))).keep kp
    have hx : KA P w s'.heap q.2 q.1 := (hk q (List.mem_of_getElem? hq)).keep kp
    show wpAny _ A.in1 (holding [Value.ref q.1] (setAdd S (.ref q.1)) >>= _) _ _ s'
    refine wpAny_bind (wpAny_holding ?_)
    unfold setAdd
    refine wpAny_holding ?_
    refine wpAny_bind ((nestedKind P w).pyHash (by exact hu) hx.is ?_)
    refine set_add (s := { s' with toks := s'.toks + (nestedKind P w).draws q.2 }) hS' hx hu (by have := g.len; omega) fun b h' L' es' ep' t' hsb hS2 c1 c2 => ?_
    have g' := g.step hq c1 c2
    have kp2 : ∀ b o, h0.get? b = some o → h'.get? b = some o := fun b o e => (hsb.2 b (fun z => by rw [z, hS0] at e; cases e)).trans (kp b o e)
    refine wpAny_pure ⟨plainId_quiet F.plain_set_update_loop _, ih (i + 1) _ (by omega) hlt (W.frame _ s' _ _ hst' (Nat.le_add_right _ _) fun b hb o e => ?_) kp2 ⟨L', es', ep', t', hS2, g'⟩ fun s'' L2 es2 ep2 t2 m2 hS'' g'' kp'' => ?_⟩
    · rw [hsb.2 b (fun z : b = S => hSf (by rw [← z]; exact hb))]
      exact e
    · refine hR s'' L2 es2 ep2 t2 (Moved.trans W.gtrans ((hm.mono hsub).then_heap (Nat.le_add_right _ _) fun b o hb e => ?_) m2) hS'' g'' kp''
      rw [hsb.2 b (fun z : b = S => hb (by rw [z]; exact List.mem_cons_self))]
      exact e
theorem call_setN {l : Addr} {items : Array Value} (ks : List (Addr × NestedKey)) {Q : Value → Shared → Prop} (hh : A.handled = none) (hl : s.heap.IsList l items) (hit : items.toList = ks.map fun q => Value.ref q.1)
    (hk : ∀ q ∈ ks, KA P w s.heap q.2 q.1) (h4 : ks.length ≤ 4) (hu : A.units + 12 < cLine)
    (h : ∀ (h' : Heap) (tk : Nat) L es ep t, SetN P w h' s.heap.objs.size L es ep t → Has ks ks.length L → (∀ b o, s.heap.get? b = some o → h'.get? b = some o) → Q (.ref s.heap.objs.size) { s with heap := h', toks := tk }) :
    wpAny (model P w) A (call (.type "set") [.ref l]) Q E s := by
  have hisz : items.size = ks.length := by
    have z := congrArg List.length hit
    simpa using z
  obtain ⟨c, tl, hmro⟩ := F.called_set.mro
  have hmade := F.called_set.made
  have hsub := F.called_set.sub
  refine wpAny_call (codeAny_of_tree ?_)
  show wpAny _ _ (callAny (.type "set") _) _ _ _
  refine wpAny_pure ⟨Code.quiet_builtin _ (by decide +kernel), codeAny_builtin F.entry_type_call ?_⟩
  rw [Around.under_plain (weight_type_call_type "set" [.ref l] []) rfl]
  have h1 := F.called_set.notType
  have h2 := F.called_set.canCreate
  have hct := F.typeCall_set_1 (.ref l)
  repeat (any_goals (first | assumption | wp_step))
  refine codeAny_mono (code_set_led1 (.ref l) (E := E) (Q₁ := fun obj s₁ => obj = .ref s.heap.objs.size ∧ s₁ = { s with heap := s.heap.push (newSet w) }) ⟨rfl, rfl⟩) fun r s₁ hr => ?_
  cases r with
  | error e => exact hr
  | ok fl =>
    cases fl with
    | ret obj =>
      obtain ⟨rfl, rfl⟩ := hr
      have hS : (s.heap.push (newSet w)).get? s.heap.objs.size = some (newSet w) := Heap.get?_push_size _ rfl
      have hT : Shared.TypeIs { s with heap := s.heap.push (newSet w) } (.ref s.heap.objs.size) "set" := ⟨_, hS, rfl⟩
      have hli := F.called_set.init.lookup
      have hbi := F.called_set.init.bind (.ref s.heap.objs.size)
      repeat (any_goals (first | assumption | wp_step))
      refine codeAny_mono (codeAny_call_builtin (R := wants (fun r s₂ => r = .none ∧ ∃ h' tk L es ep t, s₂ = { s with heap := h', toks := tk } ∧ SetN P w h' s.heap.objs.size L es ep t ∧ Has ks ks.length L ∧
          (∀ b o, s.heap.get? b = some o → h'.get? b = some o)) E) F.called_set.init.plain F.entry_set_init (check_set_init_1 hT ?_)) fun r₂ s₂ hr₂ => ?_
      · obtain ⟨ol, hol, hcl, nl, hdl⟩ := hl
        obtain ⟨ocls, odict, odata, oslots⟩ := ol
        simp only at hcl hdl
        subst hcl; subst hdl
        have hol' : (s.heap.push (newSet w)).get? l = some { cls := .type "list", dict := odict, data := .seq items nl, slots := oslots } := Heap.get?_push_of_some _ hol
        have hsls := F.sub_list_set
        have hslf := F.sub_list_frozenset
        have hne : (Value.type "list" == Value.type "dict") = false := by decide
        have hl1 : (s.heap.push (newSet w)).IsList l items := ⟨_, hol', rfl, nl, rfl⟩
        unfold Builtin.«set.__init__» noKeywords Builtin.Frozenset.updateFrom
        generalize hPI : pyIter = PI
        wp_walk
        subst hPI
        refine wpAny_pyIter_list hl1 ?_
        refine wpAny_bind (wpAny_runValue ?_)
        have hlS : l < s.heap.objs.size := Heap.lt_size hol
        have hh3 : A.in1.in1.in1.handled = none := by simp [hh]
        have hsz : (s.heap.push (newSet w)).objs.size = s.heap.objs.size + 1 := Heap.size_push ..
        have hneI : l ≠ (s.heap.push (newSet w)).objs.size := by rw [hsz]; exact Nat.ne_of_lt (Nat.lt_succ_of_lt hlS)
        have hSf : s.heap.objs.size ∉ [(s.heap.push (newSet w)).objs.size, l] := by
          rw [hsz]
          simp only [List.mem_cons, List.not_mem_nil, or_false, not_or]
          exact ⟨Nat.ne_of_lt (Nat.lt_succ_self _), Nat.ne_of_gt hlS⟩
        have hval : ∀ (i : Nat) (v : Value), items[i]? = some v → ∃ q, ks[i]? = some q ∧ v = .ref q.1 := fun i v hv => by
          have z : items.toList[i]? = some v := by rw [Array.getElem?_toList]; exact hv
          rw [hit, List.getElem?_map] at z
          obtain ⟨q, e1, e2⟩ := Option.map_eq_some_iff.mp z
          exact ⟨q, e1, e2.symm⟩
        have none_of : ∀ b, s.heap.objs.size ≤ b → s.heap.get? b = none := fun b hb => by
          cases z : s.heap.get? b with
          | none => rfl
          | some o => exact absurd (Nat.lt_of_lt_of_le (Heap.lt_size z) hb) (Nat.lt_irrefl _)
        refine upd_loop ((Walks.list hh3 _ l hneI items).toS) s.heap.objs.size hSf ks hisz h4 hval s.heap hk (none_of _ (Nat.le_refl _)) (fun b hb => none_of b (by
            rw [List.mem_singleton.mp hb, hsz]
            omega)) (by simp only [Around.in1_units]; omega) (items.size - 0) 0 _ (by omega) (Nat.zero_le _)
          ⟨⟨_, Heap.get?_push_size _ rfl, rfl, rfl⟩, (hl1.push _)⟩ (fun b o e => Heap.get?_push_of_some _ (Heap.get?_push_of_some _ e)) ?hS0 ?hR
        case hS0 => exact ⟨[], #[], 0, _, setN_new (Heap.get?_push_of_some _ hS), Has.zero ks⟩
        case hR =>
          intro s' L es ep t hm hS' g' hkp
          obtain ⟨h', g2, d', tk', os'⟩ := s'
          have eg : g2 = s.gens := hm.gens
          have ed : d' = s.drawn := hm.drawn
          have eo : os' = s.os := hm.os
          subst eg; subst ed; subst eo
          refine wpAny_pure ?_
          show wpAny _ _ (ret Value.none) _ _ _
          rw [hisz] at g'
          exact wpAny_pure ⟨rfl, h', tk', L, es, ep, t, rfl, hS', g', hkp⟩
      · cases r₂ with
        | error e => exact hr₂
        | ok fl₂ =>
          cases fl₂ with
          | ret r =>
            obtain ⟨rfl, h', tk, L, es, ep, t, rfl, hS', g', hk'⟩ := hr₂
            repeat (any_goals (first | assumption | wp_step))
            exact h _ _ _ _ _ _ hS' g' hk'
          | _ => exact hr₂.elim
    | _ => exact hr.elim
end
end Wy
set_option Elab.async false
set_option linter.all false
set_option maxRecDepth 100000
set_option maxHeartbeats 4000000
/-! WS4: sorting. -/
namespace Wy
open PySem PySem.Spec PyProof.Rows L2 PySem.W PySem.SeqAt
/-- a list that can be sorted -/
def okSort (ds : List PyData) : Bool := (ds.all fun d => ds.all fun d' => alike d d') && decide (ds.length ≤ 1000) && ds.all (fun d => decide (d.depth ≤ 60)) && ds.all (fun d => d.canLay0) &&
  (ds.all (fun d => match d with | .tuple (_ :: _) => true | _ => false) || ds.all (fun d => match d with | .tuple _ => false | .none => false | _ => true) ||
    (match ds with | .tuple [] :: r => r.all (fun d => match d with | .tuple _ => true | _ => false) | _ => false))
theorem okSort_alike {ds : List PyData} (h : okSort ds = true) : AllAlike ds := by
  unfold okSort at h
  simp only [Bool.and_eq_true] at h
  intro d hd d' hd'
  exact List.all_eq_true.mp (List.all_eq_true.mp h.1.1.1.1 d hd) d' hd'
section
variable {prog : Program} {w : World} {A : Around} {E : Value → Shared → Prop} {s : Shared}
theorem call_tuple_lt {Q : Value → Shared → Prop} {l b : Addr} {items items2 : Array Value} {e r : Nat → Bool} (hl : s.heap.IsTuple l items) (hb : s.heap.IsTuple b items2)
    (he : ∀ j (h1 : j < items.size) (h2 : j < items2.size), EqAt A.in1 s items[j] items2[j] (e j)) (hr : ∀ j (h1 : j < items.size) (h2 : j < items2.size), e j = false → RcLt A.in1 s items[j] items2[j] (r j))
    (h : Q (.bool (firstLt e r (decide (items.size < items2.size)) (List.range (min items.size items2.size)))) s) : wpAny (model prog w) A (call (.builtin "tuple.__lt__") [.ref l, .ref b]) Q E s := by
  obtain ⟨⟨c1, dd, da, sl⟩, ho, hc, n, hd⟩ := id hl
  obtain ⟨⟨c2, dd2, da2, sl2⟩, ho2, hc2, n2, hd2⟩ := id hb
  simp only at hc hd hc2 hd2
  subst hc hd hc2 hd2
  exact call_meets F.slot_tuple_lt ⟨_, ho, rfl⟩ F.entry_tuple_lt (F.args_tuple_lt_2 _ _) (tuple_ltAt l b items items2 n n2 dd dd2 sl sl2 e r) ⟨ho, ho2, he, hr, h⟩
/-- two tuples, as sorting compares keys of one type -/
theorem oneLt_tup {xs ys : List PyData} {a b : Value} {as bs : List Addr} {Q : Bool → Shared → Prop} (ra : Reads s.heap a (.tuple xs) as) (rb : Reads s.heap b (.tuple ys) bs) (hal : alikeAll xs ys = true)
    (hu : A.units + min (PyData.tuple xs).depth (PyData.tuple ys).depth < cLine) (hq : Q (dataLt (.tuple xs) (.tuple ys)) s) : wpAny (model prog w) A (oneLt' true a b) Q E s := by
  cases ra with
  | @tuple l o vs n _ as₁ h1 h2 h3 h4 =>
    cases rb with
    | @tuple l' o' vs' n' _ bs₁ k1 k2 k3 k4 =>
      have n1 : vs.size = xs.length := by simpa using ReadsAll.length _ _ _ h4
      have n2 : vs'.size = ys.length := by simpa using ReadsAll.length _ _ _ k4
      rw [dataLt_tuple, ← firstLt_toks xs ys hal, ← n1, ← n2] at hq
      rw [oneLt'_eq]
      simp only [if_true]
      refine wpAny_bind (wpAny_cRoomFor (room_here hu) ?_)
      refine wpAny_bind (wpAny_callSpecialIfBound?_slot (T := "tuple") ⟨_, h1, h2⟩ F.slot_tuple_lt (call_tuple_lt (e := pairEq xs ys) (r := fun j => dataLt (xs.getD j .none) (ys.getD j .none)) ⟨_, h1, h2, _, h3⟩ ⟨_, k1, k2, _, k3⟩ (fun j j1 j2 => ?_) (fun j j1 j2 hj => ?_) ?_))
      · have := eqAt_alikeAll xs ys A.in1 s vs.toList vs'.toList _ _ h4 k4 hal (room_in hu) j (by simpa using j1) (by simpa using j2)
        simpa using this
      · have := rcLt_alikeAll xs ys A.in1 s vs.toList vs'.toList _ _ h4 k4 hal (room_in hu) j (by simpa using j1) (by simpa using j2) hj
        simpa using this
      · exact wpAny_truthy_bool hq
theorem mapM_by {M : Model} {α β : Type} {f : α → Sem β} (g : α → β) : ∀ (l : List α) {Q : List β → Shared → Prop}, (∀ v ∈ l, ∀ (Q' : β → Shared → Prop), Q' (g v) s → wpAny M A (f v) Q' E s) → Q (l.map g) s → wpAny M A (l.mapM f) Q E s
  | [], Q, _, h => by
    rw [List.mapM_nil]
    exact wpAny_pure h
  | x :: l, Q, hf, h => by
    rw [List.mapM_cons]
    refine wpAny_bind (hf x List.mem_cons_self _ (wpAny_bind ?_))
    exact mapM_by g l (Q := fun bs s' => wpAny M A (pure (g x :: bs)) Q E s') (fun v hv => hf v (List.mem_cons_of_mem _ hv)) (wpAny_pure h)
/-- the first item of the tuple v -/
def firstAt (h : Heap) (v : Value) : Option Value := match v with
  | .ref a => match h.get? a with
    | some o => match o.data with
      | .seq vs _ => vs[0]?
      | _ => none
    | none => none
  | _ => none
theorem first_ok {v : Value} {xs : List PyData} {as : List Addr} {M : Model} (r : Reads s.heap v (.tuple xs) as) {Q : Option Value → Shared → Prop} (q : Q (firstAt s.heap v) s) : wpAny M A (firstOfTuple' v) Q E s := by
  cases r with
  | @tuple a o vs n _ _ h1 h2 h3 h4 =>
    have e : firstAt s.heap (.ref a) = vs[0]? := by
      unfold firstAt
      simp only [h1, h3]
    rw [e] at q
    rw [kas_first_eq]
    refine wpAny_bind (wpAny_typeOf (T := "tuple") ⟨_, h1, h2⟩ ?_)
    rw [if_neg (by decide)]
    exact wpAny_bind (listItems_at h1 h3 (wpAny_pure q))
/-- tuples, an empty one first -/
theorem sorts_empty {vs : List Value} {ds : List PyData} (e : EachIs (fun v d => ∃ as, Reads s.heap v d as) vs (.tuple [] :: ds)) (hal : AllAlike (.tuple [] :: ds)) (ht : ∀ d ∈ ds, ∃ xs, d = .tuple xs) (hu : ∀ d, d ∈ PyData.tuple [] :: ds → A.units + d.depth < cLine) :
    SortsAt prog w A s (dataKind s.heap (.tuple [] :: ds)) vs := by
  have room : ∀ {d d' : PyData}, d ∈ PyData.tuple [] :: ds → A.units + min d.depth d'.depth < cLine := fun {d d'} hd => Nat.lt_of_le_of_lt (Nat.add_le_add_left (Nat.min_le_left _ _) _) (hu d hd)
  have tup : ∀ d ∈ PyData.tuple [] :: ds, ∃ xs, d = .tuple xs := fun d hd => by
    rcases List.mem_cons.mp hd with z | z
    · exact ⟨[], z⟩
    · exact ht d z
  refine ⟨fun v hv => ?_, oneType', fun E x y a b Q ha hb hq => ?_, fun h2 E Q hq => ?_⟩
  · obtain ⟨d, hd, as, r⟩ := e.left v hv
    exact ⟨_, dataKind_some hal hd r⟩
  · obtain ⟨d, as, hd, ra, rfl⟩ := dataKind_inv ha
    obtain ⟨d', as', hd', rb, rfl⟩ := dataKind_inv hb
    rw [keyLt'_oneType]
    have hdd := hal d hd d' hd'
    obtain ⟨xs, rfl⟩ := tup d hd
    obtain ⟨ys, rfl⟩ := tup d' hd'
    exact oneLt_tup ra rb (by simpa [alike] using hdd) (room (d' := .tuple ys) hd) hq
  · cases e with
    | @cons v1 _ rest _ r1 rs =>
      obtain ⟨as1, r1⟩ := r1
      have all1 : ∀ v ∈ v1 :: rest, ∃ xs as, Reads s.heap v (.tuple xs) as := fun v hv => by
        rcases List.mem_cons.mp hv with z | z
        · exact ⟨[], as1, by rw [z]; exact r1⟩
        · obtain ⟨d, hd, as, r⟩ := rs.left v z
          obtain ⟨xs, rfl⟩ := ht d hd
          exact ⟨xs, as, r⟩
      rw [keyKind'_eq, List.mapM_toArray, map_eq_pure_bind]
      refine wpAny_bind (wpAny_bind (mapM_by (firstAt s.heap) _ (fun v hv Q' hq => ?_) (wpAny_pure ?_)))
      · obtain ⟨xs, as, r⟩ := all1 v hv
        exact first_ok r hq
      · have e1 : firstAt s.heap v1 = none := by
          cases r1 with
          | @tuple a o vs n _ _ h1 h2 h3 h4 =>
            have hz : vs.toList = [] := by
              cases q : vs.toList with
              | nil => rfl
              | cons _ _ => rw [q] at h4; cases h4
            unfold firstAt
            simp only [h1, h3]
            rw [← Array.getElem?_toList, hz]
            rfl
        rw [List.map_cons, e1, if_neg (by simp), if_neg (by simp)]
        rw [oneTypeOnly'_eq, List.mapM_toArray, map_eq_pure_bind]
        refine wpAny_bind (wpAny_bind (wpAny_bind (mapM_by (fun _ => Value.type "tuple") _ (fun v hv Q' hq => ?_) (wpAny_pure ?_))))
        · obtain ⟨xs, as, r⟩ := all1 v hv
          exact (looks_reads r).here hq
        · have hall : ((List.map (fun _ => Value.type "tuple") (v1 :: rest)).toArray.all fun x => x == Value.type "tuple") = true := by
            simp only [List.all_toArray, List.all_map, List.all_eq_true]
            intro _ _
            exact beq_self_eq_true _
          have h0 : (List.map (fun _ => Value.type "tuple") (v1 :: rest)).toArray[0]? = some (Value.type "tuple") := by simp
          rw [h0]
          simp only [hall, if_true]
          exact wpAny_pure (wpAny_pure hq)
theorem okSort_at {vs : List Value} {ds : List PyData} (h : okSort ds = true) (e : EachIs (fun v d => ∃ as, Reads s.heap v d as) vs ds) (hu : A.units + 60 < cLine) : SortsAt prog w A s (dataKind s.heap ds) vs := by
  have hal := okSort_alike h
  unfold okSort at h
  simp only [Bool.and_eq_true, Bool.or_eq_true] at h
  have hd : ∀ d, d ∈ ds → A.units + d.depth < cLine := fun d hd => by
    have := of_decide_eq_true (List.all_eq_true.mp h.1.1.2 d hd)
    omega
  rcases h.2 with (k | k) | k
  · refine SortsAt.data e hal (.inl fun d hd => ?_) hd
    have z := List.all_eq_true.mp k d hd
    split at z
    · exact ⟨_, _, rfl⟩
    · cases z
  · refine SortsAt.data e hal (.inr fun d hd => ?_) hd
    have z := List.all_eq_true.mp k d hd
    split at z
    · cases z
    · cases z
    · rename_i n1 n2
      exact ⟨n2, n1⟩
  · split at k
    · refine sorts_empty e hal (fun d hd => ?_) hd
      have z := List.all_eq_true.mp k d hd
      split at z
      · exact ⟨_, rfl⟩
      · cases z
    · cases k
end
end Wy
set_option Elab.async false
set_option linter.all false
set_option maxRecDepth 100000
set_option maxHeartbeats 4000000
/-! W15: sorted; sorted of a set; small things. -/
namespace Wy
open PySem PySem.Spec PyProof.Rows L2 PySem.W PySem.SeqAt
theorem hu5 {k : Nat} {A : Around} (h : Room k A) : A.units + 65 < cLine := by have := h.un; omega
theorem hu4 {k : Nat} {A : Around} (h : Room k A) : A.units + 64 < cLine := by have := h.un; omega
section
variable {P : Program} {w : World} {K : PySem.W.Frag} {mg : Str → Option Value} {base : Heap} {f : Addr} {fd : FuncData}
theorem Cal.mono {k k' n : Nat} {x : Str} {F : Fn} (h : Cal P w K mg base k n x F) (l : k ≤ k') : Cal P w K mg base k' n x F := by
  obtain ⟨f, fd, ps, a, b⟩ := h.ex
  exact ⟨f, fd, ps, a.mono l, b⟩
end
abbrev msD (ds : List PyData) : List PyData := ds.mergeSort (dataLe false id)
def insD (x : PyData) : List PyData → List PyData
  | [] => [x]
  | y :: ys => if dataLe false (id : PyData → PyData) x y = true then x :: y :: ys else y :: insD x ys
/-- sorted, as the kernel can count it out -/
def sortD : List PyData → List PyData
  | [] => []
  | x :: xs => insD x (sortD xs)
theorem dataLe_tot : TotalLe (dataLe false (id : PyData → PyData)) := sortLe_total _ _ _
theorem ins_mem {x z : PyData} : ∀ {ys : List PyData}, z ∈ insD x ys ↔ z = x ∨ z ∈ ys
  | [] => by simp [insD]
  | y :: ys => by
    rw [insD]
    split
    · simp
    · rw [List.mem_cons, ins_mem, List.mem_cons]
      constructor
      · rintro (h | h | h)
        · exact .inr (.inl h)
        · exact .inl h
        · exact .inr (.inr h)
      · rintro (h | h | h)
        · exact .inr (.inl h)
        · exact .inl h
        · exact .inr (.inr h)
theorem ins_pw {x : PyData} : ∀ {ys : List PyData}, ys.Pairwise (fun a b => dataLe false (id : PyData → PyData) a b = true) → (insD x ys).Pairwise (fun a b => dataLe false (id : PyData → PyData) a b = true)
  | [], _ => by simp [insD]
  | y :: ys, h => by
    cases h with
    | cons h1 h2 =>
      rw [insD]
      split
      · rename_i c
        refine .cons (fun z hz => ?_) (.cons h1 h2)
        rcases List.mem_cons.mp hz with e | hz
        · rw [e]; exact c
        · exact dataLe_tot.trans _ _ _ c (h1 z hz)
      · rename_i c
        refine .cons (fun z hz => ?_) (ins_pw h2)
        rcases ins_mem.mp hz with e | hz
        · rw [e]
          exact (dataLe_tot.total y x).resolve_right c
        · exact h1 z hz
theorem ins_rank {x c : PyData} : ∀ ys : List PyData, (insD x ys).filter (sameRank (dataLe false (id : PyData → PyData)) c) = (x :: ys).filter (sameRank (dataLe false (id : PyData → PyData)) c)
  | [] => rfl
  | y :: ys => by
    rw [insD]
    split
    · rfl
    · rename_i h
      rw [List.filter_cons, ins_rank ys, List.filter_cons, List.filter_cons, List.filter_cons]
      by_cases e1 : sameRank (dataLe false (id : PyData → PyData)) c y = true
      · by_cases e2 : sameRank (dataLe false (id : PyData → PyData)) c x = true
        · exfalso
          unfold sameRank at e1 e2
          rw [Bool.and_eq_true] at e1 e2
          exact h (dataLe_tot.trans _ _ _ e2.2 e1.1)
        · rw [if_pos e1, if_neg e2, if_neg e2, if_pos e1]
      · rw [if_neg e1, if_neg e1]
theorem sortD_eq (ds : List PyData) : sortD ds = msD ds := by
  refine sort_unique dataLe_tot ?_ fun c => ?_
  · induction ds with
    | nil => exact .nil
    | cons d ds ih => exact ins_pw ih
  · induction ds with
    | nil => rfl
    | cons d ds ih => rw [sortD, ins_rank, List.filter_cons, List.filter_cons, ih]
/-- a V and its datum, and the value that it is -/
abbrev Rz (p : Pl) (H : Hp) (B : List Addr) : Value → V × PyData → Prop := fun u b => RelV b.1 u ∧ DV p H B b.1 b.2
section
variable {p : Pl} {H : Hp} {B : List Addr}
theorem each_zip : ∀ {xs : List V} {us : List Value} {ds : List PyData}, Vals xs us → DVs p H B xs ds → EachIs (Rz p H B) us (xs.zip ds) ∧ (xs.zip ds).map Prod.snd = ds
  | _, _, _, .nil, .nil => ⟨.nil, rfl⟩
  | _, _, _, .cons r t, .cons d e => by
    obtain ⟨h1, h2⟩ := each_zip t e
    exact ⟨.cons ⟨r, d⟩ h1, by rw [List.zip_cons_cons, List.map_cons, h2]⟩
theorem unzip_each : ∀ {us : List Value} {bs : List (V × PyData)}, EachIs (Rz p H B) us bs → Vals (bs.map Prod.fst) us ∧ DVs p H B (bs.map Prod.fst) (bs.map Prod.snd)
  | _, _, .nil => ⟨.nil, .nil⟩
  | _, _, .cons h t => by
    obtain ⟨h1, h2⟩ := unzip_each t
    exact ⟨.cons h.1 h1, .cons h.2 h2⟩
end
theorem each_in {α β : Type} {R R' : α → β → Prop} : ∀ {as : List α} {bs : List β}, EachIs R as bs → (∀ a b, b ∈ bs → R a b → R' a b) → EachIs R' as bs
  | _, _, .nil, _ => .nil
  | _, _, .cons h t, f => .cons (f _ _ List.mem_cons_self h) (each_in t fun a b hb r => f a b (List.mem_cons_of_mem _ hb) r)
section
variable {X : Cx} {E : XK} {e a b c : Expr} {fa fb fc f : FE} {pos : Pos}
theorem okSort_lay {ds : List PyData} (h : okSort ds = true) : (∀ d ∈ ds, d.canLay0 = true) ∧ ds.length ≤ 1000 := by
  unfold okSort at h
  simp only [Bool.and_eq_true] at h
  exact ⟨fun d hd => List.all_eq_true.mp h.1.2 d hd, of_decide_eq_true h.1.1.1.2⟩
end
/-! ### sorted(set(xs)) -/
def dedupD : List PyData → List PyData
  | [] => []
  | d :: ds => d :: (dedupD ds).filter fun x => !pdb x d
def strictB : List PyData → Bool
  | [] => true
  | d :: ds => ds.all (fun x => dataLt d x) && strictB ds
def okSet (ds : List PyData) : Bool := decide (ds.length ≤ 4) && ds.all (fun d => okKey d && numy (keyOf d)) && ds.all (fun d => ds.all fun d' => !decide (keyOf d = keyOf d') || pdb d d') && okSort ds &&
  ds.all (fun d => match d with | .tuple (_ :: _) => true | _ => false) && strictB (sortD (dedupD ds))
theorem mem_dedup {x : PyData} : ∀ {ds : List PyData}, x ∈ dedupD ds ↔ x ∈ ds
  | [] => by simp [dedupD]
  | d :: ds => by
    rw [dedupD, List.mem_cons, List.mem_cons, List.mem_filter, mem_dedup]
    constructor
    · rintro (h | h)
      · exact .inl h
      · exact .inr h.1
    · rintro (h | h)
      · exact .inl h
      · by_cases e : pdb x d = true
        · exact .inl (pdb_eq _ _ e)
        · exact .inr ⟨h, by simpa using e⟩
theorem nd_dedup : ∀ ds : List PyData, (dedupD ds).Nodup
  | [] => List.nodup_nil
  | d :: ds => by
    rw [dedupD, List.nodup_cons]
    refine ⟨fun h => ?_, (nd_dedup ds).filter _⟩
    have := (List.mem_filter.mp h).2
    rw [pdb_refl] at this
    cases this
theorem strict_pw : ∀ {ds : List PyData}, strictB ds = true → ds.Pairwise fun x y => dataLt x y = true
  | [], _ => .nil
  | d :: ds, h => by
    have h' : ds.all (fun x => dataLt d x) = true ∧ strictB ds = true := by simpa [strictB] using h
    exact .cons (fun x hx => List.all_eq_true.mp h'.1 x hx) (strict_pw h'.2)
/-- a list in strict order is what any arrangement of it is sorted to -/
theorem sort_perm {l m : List PyData} (pm : l.Perm m) (h : strictB (msD m) = true) : msD l = msD m := by
  have pw := strict_pw h
  refine (sort_unique dataLe_tot (sort_pairwise dataLe_tot m) fun c => ?_).symm
  have p2 : (msD m).Perm l := (List.mergeSort_perm m _).trans pm.symm
  -- at most one of a rank
  have one : ∀ k : List PyData, k.Perm (msD m) → (k.filter (sameRank (dataLe false id) c)).length ≤ 1 := by
    intro k hk
    rw [((hk.filter _).length_eq)]
    generalize msD m = z at pw
    clear hk p2 pm h
    induction pw with
    | nil => exact Nat.zero_le _
    | @cons x z hx pz ih =>
      rw [List.filter_cons]
      split
      · rename_i hr
        have em : z.filter (sameRank (dataLe false id) c) = [] := by
          rw [List.filter_eq_nil_iff]
          intro y hy hr2
          unfold sameRank at hr hr2
          rw [Bool.and_eq_true] at hr hr2
          have h1 := dataLe_tot.trans _ _ _ hr2.2 hr.1
          have h2 : dataLe false (id : PyData → PyData) y x = !dataLt x y := rfl
          rw [h2, hx y hy] at h1
          cases h1
        rw [em]
        exact Nat.le_refl _
      · exact ih
  have p3 : ((msD m).filter (sameRank (dataLe false id) c)).Perm (l.filter (sameRank (dataLe false id) c)) := p2.filter _
  have h1 := one (msD m) (List.Perm.refl _)
  have h2 := one l p2.symm
  generalize (msD m).filter (sameRank (dataLe false id) c) = u at p3 h1
  generalize l.filter (sameRank (dataLe false id) c) = v at p3 h2
  match u, v, h1, h2, p3 with
  | [], [], _, _, _ => rfl
  | [x], [y], _, _, p => exact List.perm_singleton.mp p ▸ rfl
  | [], [y], _, _, p => exact absurd p.length_eq (by simp)
  | [x], [], _, _, p => exact absurd p.length_eq (by simp)
theorem reads_key {h : Heap} : (∀ {d : PyData} {v : Value} {as : List Addr}, Reads h v d as → keyable d = true → as = []) := by
  intro d v as r
  refine Reads.rec (motive_1 := fun v d as _ => keyable d = true → as = []) (motive_2 := fun vs ds as _ => keyables ds = true → as = []) (fun _ => rfl) (fun _ _ => rfl) (fun _ _ _ => rfl) (fun _ _ _ => rfl) ?_ ?_ ?_ (fun _ => rfl) ?_ r
  · intro a o vs n xs as h1 h2 h3 h4 ih k
    simp [keyable] at k
  · intro a o vs n xs as h1 h2 h3 h4 ih k
    exact ih (by simpa [keyable] using k)
  · intros
    rename_i k
    simp [keyable] at k
  · intro v vs d ds as bs h1 h2 i1 i2 k
    have k' : keyable d = true ∧ keyables ds = true := by simpa [keyables] using k
    rw [i1 k'.1, i2 k'.2]
    rfl
def unref : Value → Addr
  | .ref a => a
  | _ => 0
section
variable {P : Program} {w : World} {A : Around} {E : Value → Shared → Prop} {s : Shared} {a : Addr} {L : List (Addr × NestedKey)} {es : Array (Int × Value)} {ep : Nat} {t : SetTable}
theorem call_sortedN {Q : Value → Shared → Prop} (R : SetN P w s.heap a L es ep t) (hh : A.handled = none) (D : Addr → PyData) (hD : ∀ q ∈ L, (∃ as, Reads s.heap (.ref q.1) (D q.1) as) ∧ keyable (D q.1) = true ∧ (D q.1).depth ≤ 60 ∧ ∃ x r, D q.1 = .tuple (x :: r))
    (hal : AllAlike (L.map fun q => D q.1)) (hu : A.units + 65 < cLine)
    (hQ : ∀ s' p (out : List Value) (c : Nat) (L1 : List Addr), (∀ b o, s.heap.get? b = some o → s'.heap.get? b = some o) → s'.gens = s.gens → s'.os = s.os → s.heap.objs.size ≤ p →
      s'.heap.get? p = some (seqObj "list" out.toArray c) → L1.Perm (L.map (·.1)) → out = (L1.mergeSort (dataLe false D)).map Value.ref → Q (.ref p) s') :
    wpAny (model P w) A (call (.builtin "sorted") [.ref a]) Q E s := by
  obtain ⟨o, ho, hex, hd⟩ := R.ob
  have hsz := R.size
  have hfew := R.few
  refine Calls.call_function_entry kind_sorted plain_sorted entry_sorted (args_sorted1 _) ?_
  unfold Builtin.«sorted»
  refine wpAny_bind (m := checkCount "sorted" 1 1 _) (wpAny_pure ?_)
  refine wpAny_bind (collect_set (A := A.in1) hh ⟨o, ho, hex.1, hd⟩ R.fits (by unfold scanBound; omega) R.tab.ris R.led fun s1 vs k1 hz g1 o1 pm => ?_)
  have e0 : es.toList.map (·.2) = (L.map (·.1)).map Value.ref := by
    rw [R.rows, List.map_map, List.map_map]
    rfl
  rw [e0] at pm
  have ev : vs = (vs.map unref).map Value.ref := by
    rw [List.map_map]
    refine (List.map_id vs).symm.trans (List.map_congr_left fun v hv => ?_)
    obtain ⟨b, _, e⟩ := List.mem_map.mp (pm.mem_iff.mp hv)
    rw [← e]
    rfl
  have p1 : (vs.map unref).Perm (L.map (·.1)) := by
    have z := pm.map unref
    rw [List.map_map] at z
    have e : (L.map (·.1)).map (unref ∘ Value.ref) = L.map (·.1) := (List.map_congr_left fun _ _ => rfl).trans (List.map_id _)
    rw [e] at z
    exact z
  generalize vs.map unref = L1 at ev p1
  have hvl : L1.length ≤ 4 := by rw [p1.length_eq, List.length_map]; exact hfew
  have hlen : vs.length ≤ 4 := by rw [ev, List.length_map]; exact hvl
  refine wpAny_bind (wpAny_newList ?_ (by rw [sizeLine_eq]; omega))
  have hoL : (s1.heap.push (seqObj "list" vs.toArray 0)).get? s1.heap.objs.size = some (seqObj "list" vs.toArray 0) := Heap.get?_push_size _ rfl
  have mem : ∀ b ∈ L1, ∃ q ∈ L, q.1 = b := fun b hb => by
    obtain ⟨q, hq, e⟩ := List.mem_map.mp (p1.mem_iff.mp hb)
    exact ⟨q, hq, e⟩
  have eR : EachIs (fun (v : Value) (b : Addr) => v = .ref b) vs L1 := by
    rw [ev]
    have go : ∀ L1 : List Addr, EachIs (fun (v : Value) (b : Addr) => v = .ref b) (L1.map Value.ref) L1 := by
      intro L1
      induction L1 with
      | nil => exact .nil
      | cons b L1 ih => exact .cons rfl ih
    exact go L1
  have eD : EachIs (fun v b => ∃ as, Reads (s1.heap.push (seqObj "list" vs.toArray 0)) v (D b) as ∧ s1.heap.objs.size ∉ as) vs L1 := each_in eR fun v b hb e => by
    obtain ⟨q, hq, rfl⟩ := mem b hb
    obtain ⟨⟨as, r⟩, k, _⟩ := hD q hq
    subst e
    refine ⟨as, PyProof.Rows.Reads.keeps (fun c u z => Heap.get?_push_of_some _ (k1 c u z)) r, ?_⟩
    rw [reads_key r k]
    simp
  have al1 : AllAlike (L1.map D) := fun d hd d' hd' => by
    obtain ⟨b, hb, rfl⟩ := List.mem_map.mp hd
    obtain ⟨b', hb', rfl⟩ := List.mem_map.mp hd'
    obtain ⟨q, hq, rfl⟩ := mem b hb
    obtain ⟨q', hq', rfl⟩ := mem b' hb'
    exact hal _ (List.mem_map.mpr ⟨q, hq, rfl⟩) _ (List.mem_map.mpr ⟨q', hq', rfl⟩)
  have st : Sortable (L1.map D) := .inl fun d hd => by
    obtain ⟨b, hb, rfl⟩ := List.mem_map.mp hd
    obtain ⟨q, hq, rfl⟩ := mem b hb
    exact (hD q hq).2.2.2
  refine wpAny_bind (wpAny_holding (list_sort_data (s := { s1 with heap := s1.heap.push (seqObj "list" vs.toArray 0) }) (enc := D) hoL eR eD al1 st (by rw [sizeLine_eq]; omega) (fun b hb => ?_) fun out ol oe => ?_))
  · obtain ⟨q, hq, rfl⟩ := mem b hb
    have := (hD q hq).2.2.1
    simp only [Around.in1_units]
    omega
  · obtain ⟨c, hc⟩ := sortedHeap_at (vs := vs) (out := out.toArray) hoL
    have eo : out = (L1.mergeSort (dataLe false D)).map Value.ref := by
      have go : ∀ {out : List Value} {z : List Addr}, EachIs (fun (v : Value) (b : Addr) => v = .ref b) out z → out = z.map Value.ref := by
        intro out z oe
        induction oe with
        | nil => rfl
        | cons h t ih => rw [List.map_cons, h, ih]
      exact go oe
    refine wpAny_pure ⟨_, rfl, hQ _ s1.heap.objs.size out c L1 (fun b u e => ?_) g1 o1 hz hc p1 eo⟩
    have q := k1 b u e
    have hlt := Heap.lt_size q
    show (sortedHeap (s1.heap.push (seqObj "list" vs.toArray 0)) s1.heap.objs.size vs out.toArray).get? b = some u
    rw [sortedHeap_old (Nat.ne_of_lt hlt) (by rw [size_push']; exact Nat.lt_succ_of_lt hlt)]
    exact Heap.get?_push_of_some _ q
end
section
variable {X : Cx} {E : XK} {a : Expr} {fa : FE} {pos : Pos}
def fSortedSet (f : FE) : FE := fun r m => (f r m).bind fun w m1 => match fix m1 w with
  | some (.list ds) => if okSet ds = true then .ok (.d (.list (sortD (dedupD ds)))) m1 else .bad
  | _ => .bad
theorem okSet_of {ds : List PyData} (h : okSet ds = true) : ds.length ≤ 4 ∧ (∀ d ∈ ds, okKey d = true ∧ numy (keyOf d) = true) ∧ (∀ d ∈ ds, ∀ d' ∈ ds, keyOf d = keyOf d' → d = d') ∧ okSort ds = true ∧ (∀ d ∈ ds, ∃ x r, d = .tuple (x :: r)) ∧ strictB (sortD (dedupD ds)) = true := by
  unfold okSet at h
  simp only [Bool.and_eq_true] at h
  refine ⟨of_decide_eq_true h.1.1.1.1.1, fun d hd => ?_, fun d hd d' hd' e => ?_, h.1.1.2, fun d hd => ?_, h.2⟩
  · have z := List.all_eq_true.mp h.1.1.1.1.2 d hd
    rw [Bool.and_eq_true] at z
    exact z
  · have z := List.all_eq_true.mp (List.all_eq_true.mp h.1.1.1.2 d hd) d' hd'
    rw [Bool.or_eq_true] at z
    rcases z with z | z
    · rw [decide_eq_true e] at z
      cases z
    · exact pdb_eq _ _ z
  · have z := List.all_eq_true.mp h.1.2 d hd
    split at z
    · exact ⟨_, _, rfl⟩
    · cases z
def unV : V → Addr
  | .ref a => a
  | _ => 0
/-- the keys of a list of tuples -/
def keysIn (zs : List V) (ds : List PyData) : List (Addr × NestedKey) := (zs.zip ds).map fun b => (unV b.1, keyOf b.2)
theorem we_sortedSet {p p2 pos2 : Pos} (hc : X.calm = true) (hu : X.A.units + 65 < cLine) (ha : WE X E a fa) (hg : Gl X "sorted") (hm : X.mg "sorted" = none) (hg2 : Gl X "set") (hm2 : X.mg "set" = none) (na : starEach [a] X.env = (false, eval a X.env) :: starEach [] X.env := by rfl) :
    WE X E (.Call (.Name "sorted" p) [.Call (.Name "set" p2) [a] [] pos2] [] pos) (fSortedSet fa) := by
  refine ⟨fun pins s σ H Q I ⟨Z, B, r, m, sl, so, q⟩ => ?_⟩
  refine Call_ (ld_blt I hg hm (by rfl) ?_)
  refine PyProof.Rows.callWith_builtin1 (PyProof.Rows.args_cons ?_ rfl) rfl rfl
  refine Call_ (ld_blt I hg2 hm2 PyProof.Rows.boot_set ?_)
  have h0 : rd RE X E fa σ H (fun x H1 => ∃ Z B m1 w1, So (plX X Z) H1 B m1 ∧ WV (plX X Z) H1 B x w1 ∧ PostE (plX X Z) E B H1 (match fix m1 w1 with
      | some (.list ds) => if okSet ds = true then .ok (.d (.list (sortD (dedupD ds)))) m1 else .bad
      | _ => .bad) Q) := ⟨Z, B, r, m, sl, so, Post.step q fun w1 m1 x H1 B1 l1 s1 r1 q1 => ⟨Z, B1, m1, w1, s1, r1, q1⟩⟩
  refine PyProof.Rows.callWith_type1 (PyProof.Rows.args_cons (thn (ha.run pins s σ H _ I h0) fun v s1 ⟨x, H1, I1, r1, Z, B1, m1, w1, so1, wv, q1⟩ => PyProof.Rows.args_nil ?_) na) na rfl
  split at q1
  · rename_i ds ef
    split at q1
    · rename_i z
      obtain ⟨l, zs, rfl, hl, hd⟩ := wv.items so1 ef
      obtain ⟨z1, z2, z3, z4, z5, z6⟩ := okSet_of z
      rw [sortD_eq] at q1 z6
      cases (show v = Value.ref l from r1)
      obtain ⟨its, rv, pl, hz⟩ := I1.list (.inl hl)
      obtain ⟨e1, e2⟩ := each_zip rv hd
      -- the keys and where they stand
      have each : ∀ {us : List Value} {bs : List (V × PyData)}, EachIs (Rz (plX X Z) H1 B1) us bs → (∀ b ∈ bs, b.2 ∈ ds) → us = bs.map (fun b => Value.ref (unV b.1)) ∧ ∀ b ∈ bs, ∃ t, b.1 = .ref t ∧ KA X.prog X.w s1.heap (keyOf b.2) t ∧ (∃ as, Reads s1.heap (.ref t) b.2 as) ∧ DV (plX X Z) H1 B1 (.ref t) b.2 := by
        intro us bs e
        induction e with
        | nil => exact fun _ => ⟨rfl, fun b hb => by cases hb⟩
        | @cons u b us bs h t ih =>
          intro hb
          obtain ⟨i1, i2⟩ := ih fun b' hb' => hb b' (List.mem_cons_of_mem _ hb')
          have hm := hb b List.mem_cons_self
          obtain ⟨t0, rfl, et, ki⟩ := key_is I1 h.2 (z2 _ hm).1 h.1
          obtain ⟨as, rr⟩ := Dp.reads I1 b.2 b.1 _ (h.2.dp ((okSort_lay z4).1 _ hm)) h.1
          refine ⟨by rw [List.map_cons, ← i1, et]; rfl, fun b' hb' => ?_⟩
          rcases List.mem_cons.mp hb' with e | hb'
          · rw [e]
            exact ⟨t0, et, ⟨ki, (z2 _ hm).2⟩, ⟨as, rr⟩, by rw [← et]; exact h.2⟩
          · exact i2 b' hb'
      obtain ⟨ei, hb⟩ := each e1 fun b hb => by rw [← e2]; exact List.mem_map.mpr ⟨b, hb, rfl⟩
      have hlen : (zs.zip ds).length = ds.length := by rw [← e2, List.length_map, e2]
      have hk : ∀ q ∈ keysIn zs ds, KA X.prog X.w s1.heap q.2 q.1 := fun q hq => by
        obtain ⟨b, hb1, e⟩ := List.mem_map.mp hq
        obtain ⟨t, e1, k, _⟩ := hb b hb1
        rw [← e, e1]
        exact k
      refine call_setN (keysIn zs ds) (I1.ok.hd hc) pl.isList (by rw [show its.toArray.toList = its from by simp]; unfold keysIn; rw [List.map_map]; exact ei) hk (by unfold keysIn; rw [List.length_map, hlen]; exact z1) (by omega) fun h' tk L es ep t R hs kp => ?_
      refine PyProof.Rows.args_nil ?_
      have I2 : Inv X pins σ H1 { s1 with heap := h', toks := tk } := I1.kept kp
      -- what stands at an address
      have hk1 : (keysIn zs ds).take (keysIn zs ds).length = keysIn zs ds := List.take_length
      have hsub : ∀ q ∈ L, ∃ b ∈ zs.zip ds, q = (unV b.1, keyOf b.2) := fun q hq => by
        have := hs.sub q hq
        rw [hk1] at this
        obtain ⟨b, hb1, e⟩ := List.mem_map.mp this
        exact ⟨b, hb1, e.symm⟩
      have hat : ∀ q ∈ L, ∃ d ∈ ds, keyOf d = q.2 ∧ (∃ as, Reads s1.heap (.ref q.1) d as) ∧ DV (plX X Z) H1 B1 (.ref q.1) d := fun q hq => by
        obtain ⟨b, hb1, e⟩ := hsub q hq
        obtain ⟨t, e1, _, k2, k3⟩ := hb b hb1
        rw [e1] at e
        refine ⟨b.2, by rw [← e2]; exact List.mem_map.mpr ⟨b, hb1, rfl⟩, by rw [e], by rw [e]; exact k2, by rw [e]; exact k3⟩
      have D0 : ∀ b : Addr, ∃ d : PyData, ∀ q ∈ L, q.1 = b → d ∈ ds ∧ keyOf d = q.2 ∧ (∃ as, Reads s1.heap (.ref b) d as) ∧ DV (plX X Z) H1 B1 (.ref b) d := fun b => by
        by_cases h : ∃ q ∈ L, q.1 = b
        · obtain ⟨q, hq, rfl⟩ := h
          obtain ⟨d, h1, h2, h3, h4⟩ := hat q hq
          refine ⟨d, fun q' hq' e => ⟨h1, ?_, h3, h4⟩⟩
          have a1 := (R.ka q hq).is
          have a2 := (R.ka q' hq').is
          rw [e] at a2
          rw [h2]
          exact (nestedKind X.prog X.w).inj a1 a2
        · exact ⟨.none, fun q hq e => absurd ⟨q, hq, e⟩ h⟩
      obtain ⟨D, hD⟩ : ∃ D : Addr → PyData, ∀ b, ∀ q ∈ L, q.1 = b → D b ∈ ds ∧ keyOf (D b) = q.2 ∧ (∃ as, Reads s1.heap (.ref b) (D b) as) ∧ DV (plX X Z) H1 B1 (.ref b) (D b) := ⟨fun b => Classical.choose (D0 b), fun b => Classical.choose_spec (D0 b)⟩
      have hDL : ∀ q ∈ L, D q.1 ∈ ds ∧ keyOf (D q.1) = q.2 ∧ (∃ as, Reads s1.heap (.ref q.1) (D q.1) as) ∧ DV (plX X Z) H1 B1 (.ref q.1) (D q.1) := fun q hq => hD q.1 q hq rfl
      have kab : ∀ d ∈ ds, keyable d = true := fun d hd => by
        have := (z2 d hd).1
        unfold okKey at this
        simp only [Bool.and_eq_true] at this
        exact this.1.1
      have dep : ∀ d ∈ ds, d.depth ≤ 60 := fun d hd => by
        have z4' := z4
        unfold okSort at z4'
        simp only [Bool.and_eq_true] at z4'
        exact of_decide_eq_true (List.all_eq_true.mp z4'.1.1.2 d hd)
      have al : AllAlike (L.map fun q => D q.1) := fun d hd d' hd' => by
        obtain ⟨q, hq, rfl⟩ := List.mem_map.mp hd
        obtain ⟨q', hq', rfl⟩ := List.mem_map.mp hd'
        exact okSort_alike z4 _ (hDL q hq).1 _ (hDL q' hq').1
      refine call_sortedN (s := { s1 with heap := h', toks := tk }) R (I1.ok.hd hc) D (fun q hq => ?_) al hu fun s' p out c L1 kp2 g o hp hg pm eo => ?_
      · obtain ⟨k1, k2, ⟨as, k3⟩, k4⟩ := hDL q hq
        exact ⟨⟨as, PyProof.Rows.Reads.keeps kp k3⟩, kab _ k1, dep _ k1, z5 _ k1⟩
      · have hn : H1 p = none := I2.hok.fresh hp
        -- the data in the set are the list's, each once
        have pD : (L1.map D).Perm (dedupD ds) := by
          refine (pm.map D).trans ?_
          rw [List.map_map]
          have ndL : (L.map (D ∘ (·.1))).Nodup := by
            have : (L.map (D ∘ (·.1))).map keyOf = L.map (·.2) := by
              rw [List.map_map]
              exact List.map_congr_left fun q hq => (hDL q hq).2.1
            have nd2 : ((L.map (D ∘ (·.1))).map keyOf).Nodup := by rw [this]; exact R.nd
            have h3 : (L.map (D ∘ (·.1))).Pairwise fun x y => keyOf x ≠ keyOf y := List.pairwise_map.mp nd2
            exact h3.imp fun hne e => hne (congrArg keyOf e)
          refine (List.perm_ext_iff_of_nodup ndL (nd_dedup ds)).mpr fun d => ?_
          rw [mem_dedup]
          constructor
          · intro h
            obtain ⟨q, hq, rfl⟩ := List.mem_map.mp h
            exact (hDL q hq).1
          · intro hd
            have hq0 : ∃ b ∈ zs.zip ds, b.2 = d := by
              rw [← e2] at hd
              obtain ⟨b, h1, h2⟩ := List.mem_map.mp hd
              exact ⟨b, h1, h2⟩
            obtain ⟨b, hb1, rfl⟩ := hq0
            have hin : (unV b.1, keyOf b.2) ∈ (keysIn zs ds).take (keysIn zs ds).length := by
              rw [hk1]
              exact List.mem_map.mpr ⟨b, hb1, rfl⟩
            obtain ⟨q, hq, eq⟩ := List.mem_map.mp (hs.all _ hin)
            obtain ⟨k1, k2, _⟩ := hDL q hq
            refine List.mem_map.mpr ⟨q, hq, ?_⟩
            exact z3 _ k1 _ hd (k2.trans eq)
        have eS : (L1.mergeSort (dataLe false D)).map D = msD (dedupD ds) := by
          rw [sort_maps (r := dataLe false D) (s := dataLe false id) D (l := L1) (fun a _ b _ => rfl)]
          exact sort_perm pD z6
        have mem : ∀ b ∈ L1.mergeSort (dataLe false D), ∃ q ∈ L, q.1 = b := fun b hb => by
          have := (List.mergeSort_perm L1 (dataLe false D)).mem_iff.mp hb
          obtain ⟨q, hq, e⟩ := List.mem_map.mp (pm.mem_iff.mp this)
          exact ⟨q, hq, e⟩
        have hlen2 : (L1.mergeSort (dataLe false D)).length ≤ 4 := by
          rw [List.length_mergeSort, pm.length_eq, List.length_map]
          exact R.few
        generalize L1.mergeSort (dataLe false D) = L2' at eo eS mem hlen2
        have dvs : DVs (plX X Z) H1 B1 (L2'.map V.ref) (L2'.map D) ∧ Vals (L2'.map V.ref) out := by
          rw [eo]
          have go : ∀ l : List Addr, (∀ b ∈ l, ∃ q ∈ L, q.1 = b) → DVs (plX X Z) H1 B1 (l.map V.ref) (l.map D) ∧ Vals (l.map V.ref) (l.map Value.ref) := by
            intro l
            induction l with
            | nil => exact fun _ => ⟨.nil, .nil⟩
            | cons b l ih =>
              intro hm
              obtain ⟨i1, i2⟩ := ih fun b hb => hm b (List.mem_cons_of_mem _ hb)
              obtain ⟨q, hq, rfl⟩ := hm b List.mem_cons_self
              exact ⟨.cons (hDL q hq).2.2.2 i1, .cons (show RelV (.ref q.1) (.ref q.1) from rfl) i2⟩
          exact go L2' mem
        rw [eS] at dvs
        have J : Inv X pins σ (upd H1 p (.lst (L2'.map V.ref))) { ({ s1 with heap := h', toks := tk } : Shared) with heap := s'.heap, gens := s'.gens, drawn := s'.drawn, toks := s'.toks } :=
          I2.call (ch := []) (Un.laid kp2 hp hn) (I2.hok.laid kp2 hp ⟨by rw [List.length_map]; exact le1000 (by omega), out, c, dvs.2, hg⟩) (by rw [g]; exact I2.bare) (fun _ z => nomatch z)
        have es' : s' = { ({ s1 with heap := h', toks := tk } : Shared) with heap := s'.heap, gens := s'.gens, drawn := s'.drawn, toks := s'.toks } := by
          cases s'
          cases o
          rfl
        rw [es']
        exact ⟨.ref p, _, J, rfl, Post.fresh q1 so1 hn (.d (DV.topL so1 hn dvs.1))⟩
    · exact q1.elim
  · exact q1.elim
end
end Wy
set_option Elab.async false
set_option linter.all false
set_option maxRecDepth 100000
set_option maxHeartbeats 4000000
/-! W16: the head: facts by names, tuples of the top too. -/
namespace Wy
open PySem PySem.Spec PyProof.Rows L2
/-- a tuple of the top: its name, its texts -/
abbrev Tb : Type := Str × List He.Dv
/-- no list stands behind the top -/
def noL (K : PySem.W.Frag) : Bool := K.all fun p => !(p.2.cls == Value.type "list")
/-- the object at x has no dict -/
def noDB (K : PySem.W.Frag) (x : Str) : Bool := match K.lookup (He.ga K x) with
  | some o => o.dict.isNone
  | none => false
def exW (tb : List Tb) (more : PySem.W.Frag → Bool) (K : PySem.W.Frag) : Bool := noL K && (tb.all (fun p => (He.Fa.glo p.1).ok K && (He.tupB K p.1 p.2 && noDB K p.1)) && more K)
section
variable {tb : List Tb} {more : PySem.W.Frag → Bool} {K : PySem.W.Frag}
theorem exW_t (c : exW tb more K = true) (i : Nat) {x : Str} {vs : List He.Dv} (h : tb[i]? = some (x, vs) := by rfl) : (He.Fa.glo x).ok K = true ∧ He.tupB K x vs = true ∧ noDB K x = true := by
  have z := (List.all_eq_true.mp (Bool.and_eq_true_iff.mp (Bool.and_eq_true_iff.mp c).2).1 (x, vs) (List.mem_of_getElem? h))
  rw [Bool.and_eq_true, Bool.and_eq_true] at z
  exact z
theorem exW_n (c : exW tb more K = true) : noL K = true := (Bool.and_eq_true_iff.mp c).1
theorem exW_m (c : exW tb more K = true) : more K = true := (Bool.and_eq_true_iff.mp (Bool.and_eq_true_iff.mp c).2).2
theorem lookup_mem {α β : Type} [BEq α] [LawfulBEq α] {a : α} {b : β} : ∀ {l : List (α × β)}, l.lookup a = some b → (a, b) ∈ l
  | (c, d) :: l, h => by
    rw [List.lookup_cons] at h
    cases e : a == c with
    | true =>
      rw [e] at h
      cases h
      rw [beq_iff_eq.mp e]
      exact List.mem_cons_self
    | false =>
      rw [e] at h
      exact List.mem_cons_of_mem _ (lookup_mem h)
theorem noL_rd {H : Hp} {a : Addr} {xs : List V} (n : noL K = true) (h : SqL K H a xs) : Rd H a (.lst xs) := by
  rcases h with h | ⟨o, its, k, h1, h2, _⟩
  · exact h
  · exfalso
    have := List.all_eq_true.mp n _ (lookup_mem h1)
    rw [h2] at this
    simp at this
end
/-- a tuple of texts of the top, as a constant -/
theorem glo_texts {K : PySem.W.Frag} {h : Heap} {mg : Str → Option Value} (KX : K.In h) (G : h.Ns mainGlobals mg) {x : Str} {ts : List Str} (c : (He.Fa.glo x).ok K = true ∧ He.tupB K x (ts.map He.Dv.str) = true ∧ noDB K x = true) : Glo K mg x (.tuple (ts.map PyData.str)) := by
  refine ⟨.ref (He.ga K x), _, He.glo_ok KX G c.1, rfl, fun P w Z H B => ?_⟩
  have ht := He.tupB_ok c.2.1 (fun _ => none)
  have e : (ts.map He.Dv.str).map (He.Dv.v K) = ts.map V.str := by rw [List.map_map]; rfl
  rw [e] at ht
  have hq : SqTK ⟨P, w, K, mg, Z⟩ H B (He.ga K x) (ts.map V.str) := by
    rcases ht with ⟨h | ⟨o, h⟩⟩ | h
    · cases h
    · cases h
    · obtain ⟨o, its, n, h1, h2⟩ := h
      have d := c.2.2
      unfold noDB at d
      rw [h1] at d
      exact .inr ⟨o, its, n, h1, Option.isNone_iff_eq_none.mp d, h2⟩
  refine .tup hq ?_
  have go : ∀ ts : List Str, DVs ⟨P, w, K, mg, Z⟩ H B (ts.map V.str) (ts.map PyData.str) := by
    intro ts
    induction ts with
    | nil => exact .nil
    | cons t ts ih => exact .cons (.str t) ih
  exact go ts
theorem ecl_of {K : PySem.W.Frag} {h : Heap} {mg : Str → Option Value} (KX : K.In h) (G : h.Ns mainGlobals mg) {x : Str} (c : (He.Fa.glo x).ok K = true) (e : (He.Fa.exc x).ok K = true) : Ecl K mg x := by
  obtain ⟨c1, c2, c3, c4⟩ := He.exc_ok e
  exact ⟨_, _, _, _, _, PySem.F.excBase_ValueError, c1, He.glo_ok KX G c, c2, c3, c4⟩
/-! ### the law's def -/
/-- nothing is let out -/
theorem FnOk.conv {P : Program} {w : World} {K : PySem.W.Frag} {mg : Str → Option Value} {base : Heap} {k : Nat} {f : Addr} {fd : FuncData} {ps : List Str} {sA sB : Sp} (F : FnOk P w K mg base (L2N.CX P w) k f fd ps sA) (hl : ∀ vs H Q E, sB vs H Q E → vs.length = ps.length)
    (h : ∀ vs H Q E, sB vs H Q E → sA vs H Q fun _ _ _ => False) : FnOk P w K mg base CX0 k f fd ps sB := by
  refine ⟨hl, fun A outer s H args us vs Q E hr he hb hv hs => ?_⟩
  refine codeAny_mono (F.run A outer s H args us vs Q _ hr he hb hv (h vs H Q E hs)) fun r s' hr => ?_
  cases r with
  | ok fl => cases fl <;> exact hr
  | error e =>
    obtain ⟨_, _, _, _, _, _, _, _, _, _, _, _, z⟩ := hr
    exact z.elim
def spLaw (K : PySem.W.Frag) (n : Nat) : Sp := fun vs H Q _ => ∃ (a : Addr) (ns : List Int), vs = [.ref a] ∧ Rd H a (.lst (ns.map V.int)) ∧ ns.length ≤ n ∧ H (tabL K) = some (.tbl #[]) ∧ ∀ H', Q (.bl true) H'
/-- a def that knows the law's table -/
def spWT (P : Program) (w : World) (K : PySem.W.Frag) (mg : Str → Option Value) (n : Nat) (F : Fn) : Sp := fun vs H Q E => (∃ ps, H (tabL K) = some (.tbl ps)) ∧ spW P w K mg n F vs H Q E
theorem goodT_nil {H : Hp} {B : List Addr} {P : Addr} (h : H P = some (.tbl #[])) : GoodT H B P := fun ps e => by
  rw [h] at e
  cases e
  exact ⟨True.intro, fun pos cv z => nomatch z⟩
theorem law_ok {P : Program} {w : World} {K : PySem.W.Frag} {mg : Str → Option Value} {base : Heap} {k n : Nat} {f : Addr} {fd : FuncData} {x : Str} {F : Fn} (C : FnOk P w K mg base (L2N.CX P w) k f fd [x] (spWT P w K mg 1 F))
    (h : ∀ ns : List Int, ns.length ≤ n → F [.d (.list (ns.map PyData.int))] [] = .ok (.d (.bool true)) []) : FnOk P w K mg base CX0 k f fd [x] (spLaw K n) := by
  refine FnOk.conv C (fun vs H Q E h => ?_) fun vs H Q E hs => ?_
  · obtain ⟨a, ns, rfl, _⟩ := h
    rfl
  · obtain ⟨a, ns, rfl, hr, hl, hT, hq⟩ := hs
    refine ⟨⟨_, hT⟩, rfl, [], [], [], [.d (.list (ns.map PyData.int))], ⟨goodT_nil hT, rfl, List.nodup_nil, fun a h => (by cases h), fun n a o h => (by simp at h)⟩, .cons (.d (.lst ⟨⟨by simp, by simp⟩, hr⟩ ?_)) .nil, ?_⟩
    · have go : ∀ ns : List Int, DVs ⟨P, w, K, mg, []⟩ H [] (ns.map V.int) (ns.map PyData.int) := by
        intro ns
        induction ns with
        | nil => exact .nil
        | cons t ts ih => exact .cons (.int t) ih
      exact go ns
    · rw [h ns hl]
      intro v H' B' l s wv
      rw [bl_inv wv]
      exact hq H'
/-- a def, by its body's function; the law's table is known within -/
theorem fn_okT {P : Program} {w : World} {K : PySem.W.Frag} {mg : Str → Option Value} {base : Heap} {x : Str} {st : Stmt} {f : Addr} {fd : FuncData} {N ps : List Str} {k : Nat} {fs : FS} (n : Nat) (l : Nat) (F : FnP K x st f fd) (S : FnScope N ps (defScope st)) (hn : ps.length = n) (hl : N.length = l)
    (hb : ∀ (cdv : Value) (A : Around) (outer : List Env) (s : Shared) (H : Hp) (E : XK), (∃ qs, H (tabL K) = some (.tbl qs)) → PySem.W.codeIn K cdv x = true → (∃ oc od dV kV doc pm an ct osl, K.lookup f = some ⟨oc, od, .func (PySem.W.fnOf x x (defArgs st) (defBody st) (defScope st) dV kV doc pm an cdv ct), osl⟩) → Room k (A.deeper (envOfC x (defScope st) s.heap.objs.size f cdv)) →
      WSs (cxOf (L2N.CX P w) P w K mg base N x (defScope st) f cdv A outer s H E) E (defBody st) fs) : FnOk P w K mg base (L2N.CX P w) (k + 1) f fd ps (spWT P w K mg n (fnF l fs)) := by
  subst hn hl
  obtain ⟨oc, od, dV, kV, doc, pm, an, cdv, ct, osl, rfl, lk, hcd, _, _⟩ := F.ex
  refine fn_of lk hcd S (fun vs H Q E h => h.2.1) fun A outer s H vs Q E hr h => ⟨_, hb cdv A outer s H E h.1 hcd ⟨_, _, _, _, _, _, _, _, _, lk⟩ hr, fn_end h.2⟩
end Wy
set_option Elab.async false
set_option linter.all false
set_option maxRecDepth 100000
set_option maxHeartbeats 4000000
/-! T1: a walk over zip of two lists, while an exception is handled. -/
namespace Wt
open PySem PySem.Spec PyProof.Rows HotX
section
variable {prog : Program} {w : World} {A : Around} {E : Value → Shared → Prop} {s : Shared}
/-- the list's iterator is at its end: StopIteration, its context is the handled one -/
theorem over_hot {x1 it l : Addr} {i : Nat} {items : Array Value} {Q : Value → Shared → Prop} (hot : HotAt A x1 s.heap) (nx : x1 ≠ it) (hit : s.heap.IsListIter it l i) (hl : s.heap.IsList l items) (hx : items[i]? = none)
    (hE : ∀ h' e, Heap.ExtBut it s.heap h' → (∃ o, h'.get? e = some o ∧ o.cls = .type "StopIteration") → E (.ref e) { s with heap := h' }) :
    wpAny (model prog w) A (Builtin.SmallTypes.nextOf (.ref it)) Q E s := by
  obtain ⟨oi, goi, _, doi⟩ := id hit
  obtain ⟨oll, gol, _, nl, dol⟩ := hl
  obtain ⟨hh, o1, vs1, g1, d1, c1⟩ := hot
  unfold Builtin.SmallTypes.nextOf
  refine wpAny_bind (wpAny_callSpecial?_slot (name := Str.ofString "__next__") hit.typeIs slot_listiter_next (wpAny_call_entry slot_listiter_next hit.typeIs entry_listiter_next ?_ (args_listiter_next _)))
  refine wpAny_bind (m := field (.ref it) 0) (wpAny_field goi doi (x := .ref l) rfl ?_)
  rw [show (Value.ref l == Value.none) = false from rfl]
  refine wpAny_bind (m := field (.ref it) 1) (wpAny_field goi doi (x := .int i 0) rfl ?_)
  refine wpAny_bind (m := seqItems? (.ref l)) (wpAny_seqItems gol dol ?_)
  simp only [Int.toNat_natCast, hx]
  refine wpAny_bind (wpAny_rule (wpAny_bind (wpAny_setField goi doi (by simp) ?_)))
  refine wpAny_bind (m := newExc (.type "StopIteration") []) ?_
  simp only [newTuple, newExc]
  refine wpAny_bind (wpAny_newObj_type ?_ (by size_fits))
  refine wpAny_bind (m := firstArgMember _ _) (wpAny_of_eq (a := Value.none) (by first | rfl | (simp only [firstArgMember]; rfl)) (wpAny_newObj_type ?_ (by size_fits)))
  have sb := (Heap.SameBut.update (h := s.heap) (a := it) (f := Obj.mapFields (·.setIfInBounds 0 Value.none))).extBut
  generalize s.heap.update it (Obj.mapFields (·.setIfInBounds 0 Value.none)) = h1 at sb
  have kp : ∀ (o2 o3 : Obj) (b : Addr) (o : Obj), b ≠ it → s.heap.get? b = some o → ((h1.push o2).push o3).get? b = some o := fun o2 o3 b o hb e => Heap.get?_push_of_some _ (Heap.get?_push_of_some _ (sb b o hb e))
  refine raiseNew_hot ⟨hh, o1, vs1, kp _ _ x1 o1 nx g1, d1, c1⟩ (Nat.ne_of_lt (Heap.lt_size (Heap.get?_push_of_some _ (sb x1 o1 nx g1)))) (Heap.get?_push_size _ rfl) rfl (by first | (simp; done) | (simp; omega)) ?_
  refine hE _ _ (fun b o hb e => ?_) ⟨_, Heap.get?_update_self _ (Heap.get?_push_size _ rfl) rfl, rfl⟩
  rw [Heap.get?_update_other _ _ (Nat.ne_of_gt (Heap.lt_size (Heap.get?_push_of_some _ (sb b o hb e))))]
  exact kp _ _ b o hb e
end
end Wt
set_option Elab.async false
set_option linter.all false
set_option maxRecDepth 100000
set_option maxHeartbeats 4000000
/-! T2: zip of two lists, while an exception is handled. -/
namespace Wt
open PySem PySem.Spec PyProof.Rows HotX L2 L2H
theorem draws_hot {prog : Program} {w : World} {A : Around} {x1 it l : Addr} {o1 : Obj} {vs1 : Array Value} (hh : A.handled = some (.ref x1)) (d1 : o1.data = .fields vs1) (c1 : vs1[2]? = some .none) (hne : l ≠ it) (nx : x1 ≠ it) (items : Array Value) :
    Draws prog w A it [it, l, x1] items.size (fun i v => items[i]? = some v) (fun i h => h.IsListIter it l i ∧ h.IsList l items ∧ h.get? x1 = some o1) where
  live := fun _ _ ⟨⟨o, ho, _⟩, _⟩ => ⟨o, ho⟩
  frame := fun _ _ _ ⟨a, b, c⟩ k => ⟨a.at fun o e => k it (by simp) o e, b.at fun o e => k l (by simp) o e, k x1 (by simp) _ c⟩
  item := fun i s Q E lt ⟨a, b, c⟩ q => wpAny_nextOf_list_item a b (x := items[i]) (by simp [lt]) fun h' a' sb => q _ h' s.toks (by simp [lt]) ⟨a', b.extBut sb.extBut hne, sb.extBut _ _ nx c⟩ sb
  done := fun s Q E ⟨a, b, c⟩ q => over_hot ⟨hh, o1, vs1, c, d1, c1⟩ nx a b (by simp) q
/-- the lists at a and b, the items in new pairs, as many as both have -/
def ItzH (K : PySem.W.Frag) (a b : Addr) : It :=
  ⟨fun i H => ∃ (xs ys : List V) (x y : V), SqL K H a xs ∧ SqL K H b ys ∧ xs[i]? = some x ∧ ys[i]? = some y,
    fun i H v H' => ∃ T x y, v = .ref T ∧ H T = none ∧ H' = upd H T (.tup [x, y]) ∧ (∀ xs, SqL K H a xs → xs[i]? = some x) ∧ ∀ ys, SqL K H b ys → ys[i]? = some y,
    fun i H => ∃ xs ys : List V, SqL K H a xs ∧ SqL K H b ys ∧ (i ≤ xs.length ∧ i ≤ ys.length) ∧ (i = xs.length ∨ i = ys.length)⟩
/-- the handled exception is held -/
def HotP (X : Cx) (pins : List (Addr × Obj)) : Prop := ∃ p, Hot1 X.A p ∧ p ∈ X.pn ++ pins
/-- what a walk's turns do, while an exception is handled -/
structure TurnP (P : Program) (w : World) (K : PySem.W.Frag) (tg : Expr) (J : It) (fp : List Addr) (it : Addr) (tn : Nat → Heap → Prop) : Prop where
  mem : it ∈ fp
  obj : ∀ i h, tn i h → ∀ b ∈ fp, ∃ o, h.get? b = some o ∧ ∀ v, o.data ≠ .cell v
  keep : ∀ i h h', tn i h → (∀ b ∈ fp, ∀ o, h.get? b = some o → h'.get? b = some o) → tn i h'
  item : ∀ (X : Cx), X.prog = P → X.w = w → X.K = K → ∀ (i : Nat) (pins : List (Addr × Obj)) (s : Shared) (σ : L2.St) (H : Hp) (E : Value → Shared → Prop), HotP X pins → Inv X pins σ H s → (∀ b ∈ fp, FpOk X pins H b) → tn i s.heap → J.go i H →
    wpAny (model P w) X.A (pyNext (.ref it)) (fun r s1 => ∃ u, r = some u ∧ wpAny (model P w) X.A (letOwnedTupleGo tg (.ref it) u) (fun _ s2 => ∃ x H', Inv X pins σ H' s2 ∧ L2.RelV x u ∧ J.yld i H x H' ∧ tn (i + 1) s2.heap ∧ ∀ b ∈ fp, H' b = none) E s1) E s
  done : ∀ (X : Cx), X.prog = P → X.w = w → X.K = K → ∀ (i : Nat) (pins : List (Addr × Obj)) (s : Shared) (σ : L2.St) (H : Hp) (E : Value → Shared → Prop), HotP X pins → Inv X pins σ H s → (∀ b ∈ fp, FpOk X pins H b) → tn i s.heap → J.stop i H →
    wpAny (model P w) X.A (pyNext (.ref it)) (fun r s1 => r = none ∧ Inv X pins σ H s1) E s
  self : ∀ (A : Around) (i : Nat) (s : Shared) (Q : Value → Shared → Prop) (E : Value → Shared → Prop), tn i s.heap → Q (.ref it) s → wpAny (model P w) A (pyIter (.ref it)) Q E s
variable {P : Program} {w : World} {K : PySem.W.Frag}
theorem turn_zipH {elts : List Expr} {kk : Nat} {tpos : Pos} {a b z TI TO i1 i2 : Addr} (D : ZipApart z TI TO i1 i2 a b) :
    TurnP P w K (.Tuple elts kk tpos) (ItzH K a b) [z, TI, TO, i1, i2] z (fun i h => (IsZip h z TI TO .none ∧ IsPair h TI (.ref i1) (.ref i2)) ∧ (∃ x y, IsPair h TO x y) ∧ h.IsListIter i1 a i ∧ h.IsListIter i2 b i) where
  mem := List.mem_cons_self
  obj := by
    rintro i h ⟨⟨gz, gI⟩, ⟨x, y, gO⟩, ⟨p1, f1, _, t1⟩, ⟨p2, f2, _, t2⟩⟩ c hc
    simp only [List.mem_cons, List.not_mem_nil, or_false] at hc
    rcases hc with rfl | rfl | rfl | rfl | rfl
    · exact ⟨_, gz, fun v e => nomatch e⟩
    · exact ⟨_, gI, fun v e => nomatch e⟩
    · exact ⟨_, gO, fun v e => nomatch e⟩
    · exact ⟨p1, f1, fun v e => by rw [t1] at e; cases e⟩
    · exact ⟨p2, f2, fun v e => by rw [t2] at e; cases e⟩
  keep := by
    rintro i h h' ⟨⟨gz, gI⟩, ⟨x, y, gO⟩, g1, g2⟩ k
    exact ⟨⟨k z (by simp) _ gz, k TI (by simp) _ gI⟩, ⟨x, y, k TO (by simp) _ gO⟩, g1.at fun o e => k i1 (by simp) o e, g2.at fun o e => k i2 (by simp) o e⟩
  item := by
    rintro X rfl rfl rfl i pins s σ H E hc I hf ⟨⟨gz, gI⟩, ⟨x0, y0, gO⟩, g1, g2⟩ ⟨xs, ys, x, y, sx, sy, ex, ey⟩
    obtain ⟨ua, va, pa, _⟩ := I.list sx
    obtain ⟨ub, vb, pb, _⟩ := I.list sy
    obtain ⟨u, eu, ru⟩ := va.get ex
    obtain ⟨v, ev, rv⟩ := vb.get ey
    have zl := Heap.lt_size gz
    refine wpAny_pyNext_zip_item D gz gI gO g1 g2 pa.isList pb.isList (by simpa using eu) (by simpa using ev) fun h1 z1 O1 l1 l2 T1 _ k => ?_
    refine ⟨_, rfl, wpAny_letOwnedTupleGo_zip (s := { s with heap := h1 }) z1 fun h2 z2 sb => ?_⟩
    have T2 : h2.get? s.heap.objs.size = some { cls := .type "tuple", data := .seq #[u, v] } := (sb.2 _ (Nat.ne_of_gt zl)).trans T1
    have new : ObjOk X.prog X.w (upd H s.heap.objs.size (.tup [x, y])) h2 s.heap.objs.size (.tup [x, y]) := ⟨by show 2 ≤ sizeLine; decide, [u, v], .cons ru (.cons rv .nil), ⟨_, T2, rfl, _, rfl⟩⟩
    have J : Inv X pins σ (upd H s.heap.objs.size (.tup [x, y])) { s with heap := h2 } := I.turnedNew (t' := s.toks) (ch := [z, TI, TO, i1, i2]) (fun c o nc e => by
      simp only [List.mem_cons, List.not_mem_nil, or_false, not_or] at nc
      exact (sb.2 c nc.1).trans (k c o nc.1 nc.2.2.1 nc.2.2.2.1 nc.2.2.2.2 e)) hf (Nat.le_refl _) new
    refine ⟨.ref s.heap.objs.size, _, J, rfl, ⟨_, x, y, rfl, I.hok.fresh (Nat.le_refl _), rfl, fun l hl => by rw [I.list_inj hl sx]; exact ex, fun l hl => by rw [I.list_inj hl sy]; exact ey⟩, ⟨⟨z2, (sb.2 _ D.TIz).trans (k _ _ D.TIz D.TITO D.TIi1 D.TIi2 gI)⟩, ⟨u, v, (sb.2 _ D.TOz).trans O1⟩, l1.at fun o e => (sb.2 _ D.i1z).trans e, l2.at fun o e => (sb.2 _ D.i2z).trans e⟩, fun c hcm => ?_⟩
    have lt : c < s.heap.objs.size := by
      have hcm' := hcm
      simp only [List.mem_cons, List.not_mem_nil, or_false] at hcm'
      rcases hcm' with rfl | rfl | rfl | rfl | rfl
      · exact zl
      · exact Heap.lt_size gI
      · exact Heap.lt_size gO
      · obtain ⟨_, e, _⟩ := g1; exact Heap.lt_size e
      · obtain ⟨_, e, _⟩ := g2; exact Heap.lt_size e
    rw [upd_ne (Nat.ne_of_lt lt)]
    exact (hf c hcm).1
  done := by
    rintro X rfl rfl rfl i pins s σ H E hc I hf ⟨⟨gz, gI⟩, ⟨x0, y0, gO⟩, g1, g2⟩ ⟨xs, ys, sx, sy, le, stop⟩
    obtain ⟨ua, va, pa, _⟩ := I.list sx
    obtain ⟨ub, vb, pb, _⟩ := I.list sy
    have e1 := va.length
    have e2 := vb.length
    obtain ⟨p, ⟨hh, v1, d1, c1⟩, hp⟩ := hc
    have pin := I.pin p hp
    have off : ∀ c ∈ [z, TI, TO, i1, i2], p.1 ≠ c := fun c hc e => by
      have := (hf c hc).2.2.2.2.2 p hp
      exact this e
    have D1 := draws_hot (prog := X.prog) (w := X.w) (A := X.A.in1) (it := i1) (l := a) hh d1 c1 D.l1i1 (off i1 (by simp)) ua.toArray
    have D2 := draws_hot (prog := X.prog) (w := X.w) (A := X.A.in1) (it := i2) (l := b) hh d1 c1 D.l2i2 (off i2 (by simp)) ub.toArray
    have S : ZipSep2 z TI TO i1 i2 [i1, a, p.1] [i2, b, p.1] := by
      refine ⟨D.TIz, D.TOz, D.TITO, D.TIi1, by simp, ?_, ?_, D.TIi2, by simp, ?_, ?_, ?_, ?_⟩ <;> intro q <;> simp only [List.mem_cons, List.not_mem_nil, or_false] at q <;> rcases q with q | q | q
      · exact D.i1z q.symm
      · exact D.l1z q.symm
      · exact off z (by simp) q.symm
      · exact D.TOi1 q
      · exact D.l1TO q.symm
      · exact off TO (by simp) q.symm
      · exact D.i2z q.symm
      · exact D.l2z q.symm
      · exact off z (by simp) q.symm
      · exact D.TOi2 q
      · exact D.l2TO q.symm
      · exact off TO (by simp) q.symm
      · exact D.i12 q
      · exact D.l2i1 q.symm
      · exact off i1 (by simp) q.symm
      · exact D.i12 q.symm
      · exact D.l1i2 q.symm
      · exact off i2 (by simp) q.symm
    refine wpAny_pyNext_zipD2_end S D1 D2 gz gI gO ⟨g1, pa.isList, pin.1⟩ ⟨g2, pb.isList, pin.1⟩ (by simp; omega) (by simp; omega) (by simp; omega) fun h' tk k => ⟨rfl, I.turnedL (t' := tk) (ch := [z, TI, TO, i1, i2]) (fun c o nc e => ?_) hf⟩
    simp only [List.mem_cons, List.not_mem_nil, or_false, not_or] at nc
    exact k c o nc.1 nc.2.2.1 nc.2.2.2.1 nc.2.2.2.2 e
  self := fun A i s Q E st h => wpAny_pyIter_zip st.1.1 h
def iZipH (K : PySem.W.Frag) (ta : TA) : TI := fun σ H R => ta σ H fun vs H1 => ∃ a b xs ys, vs = [.ref a, .ref b] ∧ SqL K H1 a xs ∧ SqL K H1 b ys ∧ R (ItzH K a b) H1
def PIEP (X : Cx) (pins : List (Addr × Obj)) (σ : L2.St) (tg : Expr) (R : It → Hp → Prop) (itv : Value) (s2 : Shared) : Prop :=
  ∃ (it : Addr) (fp : List Addr) (tn : Nat → Heap → Prop) (J : It) (H' : Hp), itv = .ref it ∧ Inv X pins σ H' s2 ∧ TurnP X.prog X.w X.K tg J fp it tn ∧ tn 0 s2.heap ∧ (∀ b ∈ fp, FpOk X pins H' b) ∧ R J H'
structure PIP (X : Cx) (tg iter : Expr) (wi : TI) : Prop where
  run : ∀ (pins : List (Addr × Obj)) (s : Shared) (σ : L2.St) (H : Hp) (R : It → Hp → Prop), Inv X pins σ H s → wi σ H R →
    wpAny (model X.prog X.w) X.A (eval iter X.env) (fun v s1 => wpAny (model X.prog X.w) X.A (pyIter v) (PIEP X pins σ tg R) X.xe s1) X.xe s
theorem pi_zipP {X : Cx} {e e2 : Expr} {ta : TA} {p pos tpos : Pos} {elts : List Expr} {kk : Nat} (hg : Gl X "zip") (hm : X.mg "zip" = none) (ha : PA X [e, e2] ta)
    (hs : starEach [e, e2] X.env = (false, eval e X.env) :: starEach [e2] X.env := by rfl) (hpl : (backTo pos (starEach [e2] X.env)).any (·.1) = false := by rfl) : PIP X (.Tuple elts kk tpos) (.Call (.Name "zip" p) [e, e2] [] pos) (iZipH X.K ta) := by
  refine ⟨fun pins s σ H R I h => Call_ (ld_blt I hg hm PyProof.Rows.boot_zip (PyProof.Rows.callWith_type1 (thn (ha.run pos pins s σ H _ I h) ?_) hs hpl))⟩
  rintro us s1 ⟨vs, H1, I1, r1, a, b, xs, ys, rfl, sx, sy, q⟩
  obtain _ | ⟨r, _ | ⟨r', rr⟩⟩ := r1
  cases rr
  cases r
  cases r'
  obtain ⟨ua, _, pa, _⟩ := I1.list sx
  obtain ⟨ub, _, pb, _⟩ := I1.list sy
  refine call_zip_2 pa.isList pb.isList fun h' gz gI gO g1 g2 _ k => wpAny_pyIter_zip gz ?_
  have le : ∀ c ∈ [s1.heap.objs.size + 4, s1.heap.objs.size + 2, s1.heap.objs.size + 3, s1.heap.objs.size, s1.heap.objs.size + 1], s1.heap.objs.size ≤ c := fun c hc => by
    simp only [List.mem_cons, List.not_mem_nil, or_false] at hc
    omega
  exact ⟨s1.heap.objs.size + 4, _, _, _, H1, rfl, I1.kept (t' := s1.toks) k, turn_zipH (PySem.W.ktu_apart s1.heap.objs.size a b pa.lt pb.lt), ⟨⟨gz, gI⟩, ⟨_, _, gO⟩, g1, g2⟩, fun c hc => I1.fpOk (le c hc) (I1.hok.fresh (le c hc)), q⟩
end Wt
set_option Elab.async false
set_option linter.all false
set_option maxRecDepth 100000
set_option maxHeartbeats 4000000
/-! T3: a list comprehension, while an exception is handled. -/
namespace Wt
open PySem PySem.Spec PyProof.Rows HotX L2 L2H
variable {X : Cx}
/-- the context of a block, the handled exception held -/
abbrev blkH (X : Cx) (s : Shared) (H : Hp) (scope : Scope) (ce : Env) (fp : List Addr) (ph : Addr × Obj) : Cx := { X.blk s H scope ce fp with pn := [ph] }
theorem lc_hot {pins : List (Addr × Obj)} {s : Shared} {σ : L2.St} {H : Hp} {Q : VK} {elt tg iter : Expr} {ifs : List Expr} {scope : Scope} {own : List (Str × Nat)} {pos pos2 : Pos} {wi : TI} {g : TG} {tt : TT} {te : TE} {use : Option (Value → Sem Unit)} {Qf : Value → Shared → Prop}
    {ph : Addr × Obj} (h1 : Hot1 X.A ph) (hph : ph ∈ X.pn ++ pins) (hN : X.N.Nodup) (I : Inv X pins σ H s) (hi : PIP X tg iter wi) (ok : BlkOk X.N X.env.scope scope own)
    (hg : ∀ (s : Shared) (H : Hp) (C : Addr) (cl : List (Str × Addr)) (fp : List Addr), PG (blkH X s H scope (compEnvC scope cl C X.env) fp ph) tg g)
    (ht : ∀ (s : Shared) (H : Hp) (C : Addr) (cl : List (Str × Addr)) (fp : List Addr), PTs (blkH X s H scope (compEnvC scope cl C X.env) fp ph) ifs tt)
    (he : ∀ (s : Shared) (H : Hp) (C : Addr) (cl : List (Str × Addr)) (fp : List Addr), PE (blkH X s H scope (compEnvC scope cl C X.env) fp ph) elt te)
    (hs : ∀ x, foldedSetIterable iter X.env x = pure x) (h : tLc wi g tt te (own.map (·.2)) σ H Q)
    (fin : ∀ D C s' m H', Inv X pins σ H' s' → Q (.ref D) H' → s'.heap.Ns C m → FpOk X pins H' C → compPost (model X.prog X.w) X.A X.xe use Qf (.ref D) C (.ok .next) s') :
    wpAny (model X.prog X.w) X.A (comprehension (.ListComp elt [⟨tg, iter, ifs, 0⟩] scope pos) scope X.env pos2 (newList []) false (eval iter X.env) use) Qf X.xe s := by
  have fr : ∀ y ∈ scope.names, y.2 = .free → ∃ c, X.env.cells.lookup y.1 = some c := fun y hy e => (ok.free y hy e).elim (fun k => I.ok.has _ (.inl k)) fun k => I.ok.has _ (.inr k)
  refine wpAny_comprehension_free (use := use) rfl hs (closure_ok fr) ok.kind (fun y hy e => by rw [ok.uniq y hy, e]) (thn (hi.run pins s σ H _ I h) fun xv s1 hx => thn hx ?_)
  rintro itv s2 ⟨it, fp, tn, J, H2, rfl, I2, T, st2, f2, q⟩
  refine wpAny_newObj_type (newEnv_comp ?_) (by show 0 ≤ sizeLine; decide)
  obtain ⟨D, hD⟩ : ∃ D, D = s2.heap.objs.size := ⟨_, rfl⟩
  rw [← hD]
  have nD : H2 D = none := I2.hok.fresh (Nat.le_of_eq hD.symm)
  obtain ⟨W, ⟨m0, w0⟩, turn⟩ := q D nD
  obtain ⟨s3, hs3⟩ : ∃ z : Shared, z = { s2 with heap := s2.heap.push { cls := .type "list", data := .seq ([] : List Value).toArray } } := ⟨_, rfl⟩
  rw [← hs3]
  have e3 : s3.heap = s2.heap.push { cls := .type "list", data := .seq ([] : List Value).toArray } := by rw [hs3]
  have I3 : Inv X pins σ (upd H2 D (.lst [])) s3 := by
    rw [hs3]
    exact I2.laid (t' := s2.toks) (fun b o e => Heap.get?_push_of_some _ e) (Nat.le_of_eq hD.symm) ⟨Nat.zero_le _, [], 0, .nil, by rw [hD]; exact Heap.get?_push_size _ rfl⟩
  have f3 : ∀ b ∈ fp, FpOk X pins (upd H2 D (.lst [])) b ∧ b < s3.heap.objs.size := fun b hb => by
    obtain ⟨o, e, _⟩ := T.obj _ _ st2 b hb
    have lt := Heap.lt_size e
    exact ⟨⟨by rw [upd_ne (by rw [hD]; exact Nat.ne_of_lt lt)]; exact (f2 b hb).1, (f2 b hb).2⟩, by rw [e3, Heap.size_push]; exact Nat.lt_succ_of_lt lt⟩
  have st3 : tn 0 s3.heap := T.keep _ _ _ st2 fun b _ o e => by rw [e3]; exact Heap.get?_push_of_some _ e
  have I4 := block_start I3 ok hN f3
  have pin3 := I3.pin ph hph
  obtain ⟨cl, hcl⟩ : ∃ z, z = cellsFrom (s3.heap.objs.size + 1) scope.names (cloFrom X.env.cells scope.names []) := ⟨_, rfl⟩
  rw [← hcl] at I4
  have pg := hg s3 (upd H2 D (.lst [])) s3.heap.objs.size cl fp
  have pt := ht s3 (upd H2 D (.lst [])) s3.heap.objs.size cl fp
  have pe := he s3 (upd H2 D (.lst [])) s3.heap.objs.size cl fp
  show codeAny _ _ (.compStart (.ListComp elt [⟨tg, iter, ifs, 0⟩] scope pos) 0 (.ref it) (.ref D) (compEnvC scope (cellsFrom (s3.heap.objs.size + 1) scope.names (cloFrom X.env.cells scope.names [])) s3.heap.objs.size X.env)) (compPost (model X.prog X.w) X.A X.xe use Qf (.ref D) s3.heap.objs.size) { s3 with heap := pushCells (s3.heap.push { cls := .type "dict", data := .dict #[] }) scope.names }
  rw [← hcl]
  have nf : ∀ b ∈ fp, (upd H2 D (.lst [])) b = none := fun b hb => (f3 b hb).1.1
  obtain ⟨ce, hce⟩ : ∃ z, z = compEnvC scope cl s3.heap.objs.size X.env := ⟨_, rfl⟩
  rw [← hce] at I4 pg pt pe ⊢
  have cL : ce.locals = s3.heap.objs.size := by rw [hce]; rfl
  generalize upd H2 D (.lst []) = H3 at I3 I4 pg pt pe w0 nf f3 pin3
  obtain ⟨s4, hs4⟩ : ∃ z : Shared, z = { s3 with heap := pushCells (s3.heap.push { cls := .type "dict", data := .dict #[] }) scope.names } := ⟨_, rfl⟩
  rw [← hs4] at I4 ⊢
  have up4 : ∀ b o, s3.heap.get? b = some o → s4.heap.get? b = some o := fun b o e => by rw [hs4]; exact pushCells_keeps _ _ _ _ (Heap.get?_push_of_some _ e)
  have st4 : tn 0 s4.heap := T.keep _ _ _ st3 fun b _ o e => up4 b o e
  have I4 : Inv (blkH X s3 H3 scope ce fp ph) [] (wipe σ (own.map (·.2))) H3 s4 := by
    have ok' := I4.ok
    refine ⟨⟨ok'.mod, ok'.kind, ok'.glob, ok'.blt, ok'.above, ok'.inj, ok'.has, ok'.cab, ok'.hd, ok'.frames, ok'.stk, ok'.exf, ok'.bs, ok'.bsz, ok'.noex, ok'.exfs, ok'.funs, ok'.frf⟩, I4.os, I4.bare, I4.base, I4.loc, I4.cell, I4.free, I4.freeC, fun p hp => ?_, I4.hok, I4.len⟩
    have e : p = ph := by simpa using hp
    rw [e]
    refine ⟨up4 _ _ pin3.1, pin3.2.1, fun z => ?_, fun z => ?_, pin3.2.2.2.2⟩
    · have z' : ph.1 = ce.locals := z
      rw [cL] at z'
      exact absurd (Heap.lt_size pin3.1) (by rw [z']; exact Nat.lt_irrefl _)
    · rcases List.mem_cons.mp (I3.stkSub _ z) with e | e
      · exact pin3.2.2.1 e
      · exact pin3.2.2.2.1 e
  have hb : HotP (blkH X s3 H3 scope ce fp ph) [] := ⟨ph, h1, by simp⟩
  have nph : ∀ b ∈ fp, ph.1 ≠ b := fun b hb e => (f3 b hb).1.2.2.2.2.2 ph hph e
  have stat : ∀ {σ' : L2.St} {H' : Hp} {s' : Shared}, Inv (blkH X s3 H3 scope ce fp ph) [] σ' H' s' → (∀ b ∈ fp, H' b = none) → ∀ b ∈ fp, FpOk (blkH X s3 H3 scope ce fp ph) [] H' b := fun {σ' H' s'} I' hn b hb =>
    ⟨hn b hb, (I'.ok.exf b hb).1, I'.ok.exfs b hb, .inl hb, fun x c e => (I'.ok.exf b hb).2 x c e, fun p hp => by
      have : p = ph := by simpa using hp
      rw [this]; exact nph b hb⟩
  have loop : codeAny (model X.prog X.w) X.A (.compLoop (.ListComp elt [⟨tg, iter, ifs, 0⟩] scope pos) 0 (.ref it) (.ref D) ce) (compPost (model X.prog X.w) X.A X.xe use Qf (.ref D) s3.heap.objs.size) s4 := by
    refine compLoop_any (fun n s' => ∃ i H', Inv (blkH X s3 H3 scope ce fp ph) [] (wipe σ (own.map (·.2))) H' s' ∧ tn i s'.heap ∧ (∀ b ∈ fp, H' b = none) ∧ W i n H') ?_ m0 ⟨0, H3, I4, st4, nf, w0⟩
    rintro n s5 ⟨i, H5, I5, st5, n5, w5⟩
    rcases turn i n H5 w5 with ⟨stop, qq⟩ | ⟨go, Nx, hNx, step⟩
    · refine thnF (T.done (blkH X s3 H3 scope ce fp ph) rfl rfl rfl i [] s5 _ H5 (fun _ _ => False) hb I5 (stat I5 n5) st5 stop) ?_
      rintro r s6 ⟨rfl, I6⟩
      have I7 : Inv X pins σ H5 s6 := I3.call' (ch := fp) I6.os I6.base I6.hok I6.bare fun b hb => have z := (f3 b hb).1; ⟨z.2.2.2.1, z.2.1, z.2.2.2.2.1, z.2.2.2.2.2⟩
      have nC : H5 s3.heap.objs.size = none := by rw [← cL]; exact I6.free
      obtain ⟨m, hn, _⟩ := I6.loc
      exact fin D s3.heap.objs.size s6 m H5 I7 qq (by rw [← cL]; exact hn) (I3.fpOk (Nat.le_refl _) nC)
    · refine thnF (T.item (blkH X s3 H3 scope ce fp ph) rfl rfl rfl i [] s5 _ H5 (fun _ _ => False) hb I5 (stat I5 n5) st5 go) ?_
      rintro r s6 ⟨u, rfl, h6⟩
      refine thnF h6 ?_
      rintro _ s7 ⟨x, H7, I7, r7, y7, st7, n7⟩
      have J7 := I7.pinned (stat I7 n7) (T.obj _ _ st7)
      refine thnF (pg.run _ s7 _ H7 x u _ J7 r7 (step x H7 y7)) ?_
      rintro _ s8 ⟨σ8, H8, I8, hw8, q8⟩
      refine thnF (pt.run _ s8 σ8 H8 _ I8 q8) ?_
      rintro b s9 ⟨H9, I9, q9⟩
      have again : ∀ {s' : Shared} {H' : Hp}, Inv (blkH X s3 H3 scope ce fp ph) ([] ++ pinsAt fp s7.heap) σ8 H' s' → Nx H' → ∃ m, m < n ∧ ∃ i H', Inv (blkH X s3 H3 scope ce fp ph) [] (wipe σ (own.map (·.2))) H' s' ∧ tn i s'.heap ∧ (∀ b ∈ fp, H' b = none) ∧ W i m H' := fun {s' H'} I' nx => by
        obtain ⟨m', hm, w'⟩ := hNx H' nx
        have held : ∀ b ∈ fp, ∀ o, s7.heap.get? b = some o → s'.heap.get? b = some o ∧ H' b = none := fun b hb o e =>
          have z := I'.pin (b, o) (List.mem_append_right _ (List.mem_append_right _ (mem_pinsAt hb e)))
          ⟨z.1, z.2.1⟩
        refine ⟨m', hm, i + 1, H', (I'.unpinned (pins := [])).weak (by rw [← hw8, wipe_length]) (fun j v e => ?_), T.keep _ _ _ st7 fun b hb o e => (held b hb o e).1, fun b hb => ?_, w'⟩
        · rw [← hw8] at e
          exact (wipe_some e).1
        · obtain ⟨o, e, _⟩ := T.obj _ _ st7 b hb
          exact (held b hb o e).2
      cases b with
      | false =>
        rw [if_neg (by simp)] at q9 ⊢
        exact again I9 q9
      | true =>
        rw [if_pos rfl] at q9 ⊢
        refine thnF (pe.run _ s9 σ8 H9 _ I9 q9) ?_
        rintro z s10 ⟨yv, H10, I10, r10, acc, hD10, hz10, nx⟩
        exact app_ok (X := blkH X s3 H3 scope ce fp ph) I10 hD10 hz10 r10 fun s11 I11 => again I11 nx
  exact codeAny_compStart_list loop (T.self X.A 0 _ _ _ st4 loop)
theorem pe_lcP {elt tg iter : Expr} {ifs : List Expr} {scope : Scope} {own : List (Str × Nat)} {pos : Pos} {wi : TI} {g : TG} {tt : TT} {te : TE} {ph : Addr × Obj} (h1 : Hot1 X.A ph) (hph : ph ∈ X.pn) (hN : X.N.Nodup) (hi : PIP X tg iter wi) (ok : BlkOk X.N X.env.scope scope own)
    (hg : ∀ (s : Shared) (H : Hp) (C : Addr) (cl : List (Str × Addr)) (fp : List Addr), PG (blkH X s H scope (compEnvC scope cl C X.env) fp ph) tg g)
    (ht : ∀ (s : Shared) (H : Hp) (C : Addr) (cl : List (Str × Addr)) (fp : List Addr), PTs (blkH X s H scope (compEnvC scope cl C X.env) fp ph) ifs tt)
    (he : ∀ (s : Shared) (H : Hp) (C : Addr) (cl : List (Str × Addr)) (fp : List Addr), PE (blkH X s H scope (compEnvC scope cl C X.env) fp ph) elt te)
    (hs : ∀ x, foldedSetIterable iter X.env x = pure x := by intro _; rfl) : PE X (.ListComp elt [⟨tg, iter, ifs, 0⟩] scope pos) (tLc wi g tt te (own.map (·.2))) := by
  refine ⟨fun pins s σ H Q I h => ?_⟩
  rw [eval_ListComp]
  refine lc_hot h1 (List.mem_append_left _ hph) hN I hi ok hg ht he hs h fun D C s' m H' I' q hn f => ⟨m, hn, fun h'' sb => ?_⟩
  exact ⟨.ref D, H', I'.turned (t' := s'.toks) (fun b o hb e => (sb.2 b hb).trans e) f.1 f.2.1 f.2.2.2.1 f.2.2.2.2.1 f.2.2.2.2.2, rfl, q⟩
end Wt
set_option Elab.async false
set_option linter.all false
set_option maxRecDepth 100000
set_option maxHeartbeats 4000000
/-! T4: isinstance of the exception that is held; a def called within an except clause, with it. -/
namespace Wt
open PySem PySem.Spec PyProof.Rows HotX L2 L2H
theorem call_isP {X : Cx} {a D : Addr} {oe : Obj} (hp : (a, oe) ∈ X.pn) (C : ExcC X.K D) (hz : oe.cls = .ref D ∧ oe.dict = none) (hf : ∃ vs, oe.data = .fields vs) : CallR X (.builtin "isinstance") (rIsE X.K D a) := by
  rintro pins s σ H xs us Q I r ⟨c, cv, b, rfl, hcv, e, q⟩
  obtain _ | ⟨rx, _ | ⟨rt, rr⟩⟩ := r
  cases rr
  cases rx
  cases hcv _ rt
  obtain ⟨get, _⟩ := I.pin (a, oe) (List.mem_append_left _ hp)
  have J : PySem.W.InstAt s.heap a oe D none := by
    obtain ⟨oc, od, oda, osl⟩ := oe
    obtain ⟨vs, hv⟩ := hf
    obtain ⟨h1, h2⟩ := hz
    cases h1
    cases h2
    cases hv
    exact ⟨get, rfl, rfl, trivial⟩
  exact PySem.W.kia_one (PySem.W.handS_kitx_exc C.hg C.hk C.hs C.hd C.ha C.hn C.ht C.hm) I.kIn J e (fun z => nomatch z) fun tk => ⟨.bl b, H, I.kept (t' := tk) fun _ _ z => z, rfl, q⟩
/-- a promise that speaks of the handled exception too -/
abbrev SpP := Addr × Obj → Sp
structure FnP (P : Program) (w : World) (K : PySem.W.Frag) (mg : Str → Option Value) (base : Heap) (CX : CXT) (k : Nat) (f : Addr) (fd : FuncData) (ps : List Str) (sp : SpP) : Prop where
  len : ∀ p vs H Q E, sp p vs H Q E → vs.length = ps.length
  run : ∀ (A : Around) (outer : List Env) (s : Shared) (H : Hp) (args : Args) (us : List Value) (vs : List V) (Q : VK) (E : XK) (p : Addr × Obj), RoomH k A → Hot1 A p → PinOk outer H s p → Env0 P w K mg base A outer s H → BindsTo s fd args (ps.zip us) →
    Vals vs us → sp p vs H Q E → codeAny (model P w) A (.call (.ref f) args) (CR CX outer P w H s Q E) s
theorem fn_ofP {CX : CXT} {P : Program} {w : World} {K : PySem.W.Frag} {mg : Str → Option Value} {base : Heap} {k : Nat} {f : Addr} {name qual : Str} {params : Arguments} {body : List Stmt} {scope : Scope} {dV kV doc pm cdv ct oc : Value} {an od : Option Addr}
    {osl : Array (Option Value)} {N ps : List Str} {sp : SpP} (lk : K.lookup f = some ⟨oc, od, .func (PySem.W.fnOf name qual params body scope dV kV doc pm an cdv ct), osl⟩) (hcd : PySem.W.codeIn K cdv qual = true) (S : FnScope N ps scope)
    (len : ∀ p vs H Q E, sp p vs H Q E → vs.length = ps.length)
    (hbody : ∀ (A : Around) (outer : List Env) (s : Shared) (H : Hp) (vs : List V) (Q : VK) (E : XK) (p : Addr × Obj), Hot1 A p → RoomH k (A.deeper (envOfC qual scope s.heap.objs.size f cdv)) → sp p vs H Q E →
      ∃ t, PSs (cxH CX P w K mg base N qual scope f cdv A outer s H E p) body t ∧ t { nx := fun _ H' => Q .non H', rt := Q } (L2.start N vs) H) :
    FnP P w K mg base CX (k + 1) f (PySem.W.fnOf name qual params body scope dV kV doc pm an cdv ct) ps sp := by
  refine ⟨len, fun A outer s H args us vs Q E p hr hot hpin e0 hb r hsp => ?_⟩
  have kin : K.In s.heap := PySem.W.Frag.In.keeps e0.mod.kin fun b o e => (e0.bs b o e).1
  have hk : ∀ y ∈ ps.zip us, scope.names.lookup y.1 = some .local ∨ (scope.names.lookup y.1 = some .cell ∧ ((cellsFrom (s.heap.objs.size + 1) scope.names []).lookup y.1).isSome = true) := by
    rintro ⟨n, v⟩ hy
    exact (S.par n (List.of_mem_zip hy).1).elim .inl fun q => .inr ⟨q, PySem.W.cellsFrom_some _ _ _ (.inl q)⟩
  refine codeAny_call_function hr.depth (kin _ _ lk) rfl S.co S.gen rfl (PySem.W.codeRec_of kin hcd) (hb _ _ _ _ (wpAny_newFunctionEnv_cells S.kind hk ?_))
  rintro env rfl s1 x
  obtain ⟨t, ht, hq⟩ := hbody A outer s H vs Q E p hot (hr.deeper _) hsp
  refine ⟨(e0.mod.nolimit.keeps fun b o e => (e0.bs b o e).1).keeps x.toInCall.keep, codeAny_func (wpAny_mono (ht.run [] s1 (L2.start N vs) H _ (inv_startH S hpin e0 (len _ _ _ _ _ hsp) r x) hq) ?_ fun e s' z => z)⟩
  rintro fl s' z
  cases fl with
  | ret u => obtain ⟨v, σ', H', J, rv, q⟩ := z; exact ⟨v, H', J.os, J.bare, J.base, J.hok, rv, q⟩
  | next => obtain ⟨σ', H', J, q⟩ := z; exact ⟨V.non, H', J.os, J.bare, J.base, J.hok, rfl, q⟩
  | brk => obtain ⟨_, _, _, q⟩ := z; exact q.elim
  | cont => obtain ⟨_, _, _, q⟩ := z; exact q.elim
section
variable {X : Cx} {CX : CXT} {k : Nat} {f : Addr} {fd : FuncData} {ps : List Str} {sp : SpP} {E : L2.St → XK} {x : Str} {q pos : Pos} {e : Expr} {es : List Expr} {t : TA} {p : Addr × Obj}
theorem pe_callP (F : FnP X.prog X.w X.K X.mg X.base CX k f fd ps sp) (hr : RoomH k X.A) (hot : Hot1 X.A p) (hp : p ∈ X.pn) (hg : Gl X x) (hm : X.mg x = some (.ref f)) (hk : PySem.W.keepIn X.K (.ref f) = true) (hb : L2.Binds X.K fd ps []) (hx : ∀ σ, PassesAt CX X σ (E σ))
    (ha : PA X (e :: es) t) (hdb : (x == ("__debug__" : Str)) = false := by decide) (he : starEach (e :: es) X.env = (false, eval e X.env) :: starEach es X.env := by rfl) (hpl : (backTo pos (starEach es X.env)).any (·.1) = false := by rfl) :
    PE X (.Call (.Name x q) (e :: es) [] pos) (fun σ H Q => t σ H fun vs H1 => sp p vs H1 Q (E σ)) := by
  refine ⟨fun pins s σ H Q I h => wpAny_Call_Name_kw (ld_glob I hg hm (PySem.W.callWith_K (h₀ := X.base) I.ok.mod.kin hk (thn (ha.run pos pins s σ H _ I h) ?_) he hpl) hdb)⟩
  rintro us s1 ⟨vs, H1, I1, r, z⟩
  refine ⟨I1.kIn, ?_⟩
  have b := hb s1 us I1.kIn (by rw [List.append_nil, ← r.length]; exact F.len _ _ _ _ _ z)
  rw [List.append_nil] at b
  obtain ⟨p1, p2, p3, p4, p5⟩ := I1.pin p (List.mem_append_left _ hp)
  refine wpAny_call (codeAny_mono (F.run X.A X.stack s1 H1 ⟨us, []⟩ us vs Q (E σ) p hr hot ⟨p1, p2, fun hm => (List.mem_cons.mp (I1.stkSub p.1 hm)).elim p3 p4, p5⟩ I1.env0 b r z) ?_)
  rintro r' s' z'
  cases r' with
  | error e => exact hx σ pins H1 s1 e s' I1 z'
  | ok fl => cases fl with
    | ret u => exact I1.after z'
    | next => exact z'.elim
    | brk => exact z'.elim
    | cont => exact z'.elim
end
end Wt
set_option Elab.async false
set_option linter.all false
set_option maxRecDepth 100000
set_option maxHeartbeats 4000000
/-! T5: a, b = a tuple, while an exception is handled. -/
namespace Wt
open PySem PySem.Spec PyProof.Rows HotX L2 L2H
section
variable {prog : Program} {w : World} {A : Around} {E : Value → Shared → Prop} {s : Shared}
theorem tup_over {x1 it t : Addr} {i : Nat} {items : Array Value} {Q : Option Value → Shared → Prop} (hot : HotAt A x1 s.heap) (nx : x1 ≠ it) (hit : s.heap.IsTupleIter it t i) (ht : s.heap.IsTuple t items) (hx : items[i]? = none)
    (hQ : ∀ h', Heap.ExtBut it s.heap h' → Q none { s with heap := h' }) : wpAny (model prog w) A (pyNext (.ref it)) Q E s := by
  obtain ⟨oi, goi, _, doi⟩ := id hit
  obtain ⟨oll, gol, _, nl, dol⟩ := ht
  obtain ⟨hh, o1, vs1, g1, d1, c1⟩ := hot
  unfold pyNext
  refine wpAny_bind (wpAny_attempt (wpAny_callSpecial?_slot (name := Str.ofString "__next__") hit.typeIs F.slot_tuple_iterator_next (wpAny_call_entry F.slot_tuple_iterator_next hit.typeIs F.entry_tuple_iterator_next ?_ (F.args_tuple_iterator_next_1 _))))
  refine wpAny_bind (m := field (.ref it) 0) (wpAny_field goi doi (x := .ref t) rfl ?_)
  rw [show (Value.ref t == Value.none) = false from rfl]
  refine wpAny_bind (m := field (.ref it) 1) (wpAny_field goi doi (x := .int i 0) rfl ?_)
  refine wpAny_bind (m := seqItems? (.ref t)) (wpAny_seqItems gol dol ?_)
  simp only [Int.toNat_natCast, hx]
  refine wpAny_bind (wpAny_rule (wpAny_bind (wpAny_setField goi doi (by simp) ?_)))
  refine wpAny_bind (m := newExc (.type "StopIteration") []) ?_
  simp only [newTuple, newExc]
  refine wpAny_bind (wpAny_newObj_type ?_ (by size_fits))
  refine wpAny_bind (m := firstArgMember _ _) (wpAny_of_eq (a := Value.none) (by first | rfl | (simp only [firstArgMember]; rfl)) (wpAny_newObj_type ?_ (by size_fits)))
  have sb := (Heap.SameBut.update (h := s.heap) (a := it) (f := Obj.mapFields (·.setIfInBounds 0 Value.none))).extBut
  generalize s.heap.update it (Obj.mapFields (·.setIfInBounds 0 Value.none)) = h1 at sb
  have kp : ∀ (o2 o3 : Obj) (b : Addr) (o : Obj), b ≠ it → s.heap.get? b = some o → ((h1.push o2).push o3).get? b = some o := fun o2 o3 b o hb e => Heap.get?_push_of_some _ (Heap.get?_push_of_some _ (sb b o hb e))
  refine raiseNew_hot ⟨hh, o1, vs1, kp _ _ x1 o1 nx g1, d1, c1⟩ (Nat.ne_of_lt (Heap.lt_size (Heap.get?_push_of_some _ (sb x1 o1 nx g1)))) (Heap.get?_push_size _ rfl) rfl (by first | (simp; done) | (simp; omega)) ?_
  refine wpAny_bind (wpAny_isInstance (T := "StopIteration") (b := true) ⟨_, Heap.get?_update_self _ (Heap.get?_push_size _ rfl) rfl, rfl⟩ isSubtype_stop (wpAny_pure (hQ _ fun b o hb e => ?_)))
  rw [Heap.get?_update_other _ _ (Nat.ne_of_gt (Heap.lt_size (Heap.get?_push_of_some _ (sb b o hb e))))]
  exact kp _ _ b o hb e
theorem items_hot {x1 t : Addr} {items : Array Value} {Q : List Value → Shared → Prop} (hot : HotAt A x1 s.heap) (ht : s.heap.IsTuple t items)
    (hQ : ∀ h', Heap.ExtBut s.heap.objs.size s.heap h' → Q items.toList { s with heap := h' }) : wpAny (model prog w) A (unpackItems (.ref t) items.size none) Q E s := by
  obtain ⟨hh, o1, vs1, g1, d1, c1⟩ := hot
  have tn : t ≠ s.heap.objs.size := by obtain ⟨o, ho, _⟩ := ht; exact Nat.ne_of_lt (Heap.lt_size ho)
  have xn : x1 ≠ s.heap.objs.size := Nat.ne_of_lt (Heap.lt_size g1)
  unfold unpackItems
  refine wpAny_bind ?_
  unfold notIterableAtAll
  refine wpAny_bind (wpAny_specialOf ht.typeIs F.slot_tuple_iter.lookup (wpAny_pure ?_))
  simp only [Bool.false_eq_true, if_false]
  refine wpAny_bind (wpAny_holding (wpAny_pyIter_tuple ht ?_))
  refine wpAny_bind (wpAny_holding (wpAny_draw_tuple tn items.size 0 _ _ ⟨_, Heap.get?_push_size _ rfl, rfl, rfl⟩ (ht.push _) (by omega) fun h₁ hit₁ hs₁ => ?_))
  rw [show List.take items.size (List.drop 0 items.toList) = items.toList from by rw [List.drop_zero]; exact List.take_of_length_le (by simp), if_neg (by simp)]
  refine wpAny_bind (wpAny_holding (tup_over (x1 := x1) ⟨hh, o1, vs1, hs₁.extBut x1 o1 xn (Heap.get?_push_of_some _ g1), d1, c1⟩ xn hit₁ ((ht.push _).extBut hs₁.extBut tn) (by simp) fun h₂ he₂ => ?_))
  simp only [Option.isSome_none, Bool.false_eq_true, if_false]
  exact wpAny_pure (hQ h₂ fun b o hb e => he₂ b o hb (hs₁.extBut b o hb (Heap.get?_push_of_some _ e)))
end
variable {X : Cx}
theorem pg_tupP {es : List Expr} {k : Nat} {t : TGs} {n : Nat} {pos : Pos} {ph : Addr × Obj} (h1 : Hot1 X.A ph) (hph : ph ∈ X.pn) (h : PGs X es t)
    (hn : (assignEach es X.env).length = n := by rfl) (hst : (assignEach es X.env).findIdx? (·.1) = none := by rfl) : PG X (.Tuple es k pos) (gTup X.K n t) := by
  constructor
  rintro pins s σ H v u Q I r ⟨a, xs, rfl, hq, hl, hw⟩
  cases r
  obtain ⟨its, rv, ht, _⟩ := I.tuple hq
  obtain ⟨hh, v1, d1, c1⟩ := h1
  rw [arm_assign_Tuple]
  refine wpAny_bind (wpAny_standAt ?_)
  unfold unpack
  rw [show (assignEach es X.env).length = its.toArray.size from by simp [hn, ← hl, rv.length], hst]
  refine wpAny_bind (wpAny_holding (items_hot ⟨hh, ph.2, v1, (I.pin ph (List.mem_append_left _ hph)).1, d1, c1⟩ ht fun h' hx => ?_))
  have I1 : Inv X pins σ H { s with heap := h' } := I.kept (t' := s.toks) fun b o e => hx b o (Nat.ne_of_lt (Heap.lt_size e)) e
  exact h.run pins _ σ H xs _ Q I1 (by simpa using rv) hw
end Wt
set_option Elab.async false
set_option linter.all false
set_option maxRecDepth 100000
set_option maxHeartbeats 4000000
/-! T6: _law_kin: the kinds of an error, as words. -/
namespace Wt
open PySem PySem.Spec PyProof.Rows HotX L2 L2H
def Grow (H H' : Hp) : Prop := ∀ b o, H b = some o → H' b = some o
theorem Grow.refl (H : Hp) : Grow H H := fun _ _ h => h
theorem Grow.trans {H H1 H2 : Hp} (a : Grow H H1) (b : Grow H1 H2) : Grow H H2 := fun c o h => b c o (a c o h)
theorem Grow.new {H : Hp} {p : Addr} {o : HO} (h : H p = none) : Grow H (upd H p o) := fun b u e => by
  rw [upd_ne (fun z => by rw [z, h] at e; cases e)]
  exact e
/-- the class of the error, asked for another one -/
structure Ask (K : PySem.W.Frag) (D : Addr) (c : V) (b : Bool) : Prop where
  ex : ∃ cv, (∀ u, RelV c u → u = cv) ∧ PySem.W.kitOne K (.ref D) cv = some b
abbrev tIs (K : PySem.W.Frag) (D a : Addr) (c : V) : TE := tCB (rIsE K D a) (tCons (tVar 0) (tCons (tC c) tNil))
section
variable {K : PySem.W.Frag} {D a : Addr}
theorem is_ok {c : V} {b : Bool} (k : Ask K D c b) {σ : L2.St} {H : Hp} {Q : VK} (h0 : σ[0]? = some (some (.ref a))) (q : Q (.bl b) H) : tIs K D a c σ H Q := by
  obtain ⟨cv, k1, k2⟩ := k.ex
  exact ⟨.ref a, h0, c, cv, b, rfl, k1, k2, q⟩
abbrev tIs3 (K : PySem.W.Frag) (D a : Addr) (c1 c2 c3 : V) : TE := tLst (tCons (tIs K D a c1) (tCons (tIs K D a c2) (tCons (tIs K D a c3) tNil)))
theorem is3_ok {c1 c2 c3 : V} {b1 b2 b3 : Bool} (k1 : Ask K D c1 b1) (k2 : Ask K D c2 b2) (k3 : Ask K D c3 b3) {σ : L2.St} {H : Hp} {Q : VK} (h0 : σ[0]? = some (some (.ref a)))
    (q : ∀ p, H p = none → Q (.ref p) (upd H p (.lst [.bl b1, .bl b2, .bl b3]))) : tIs3 K D a c1 c2 c3 σ H Q :=
  is_ok k1 h0 (is_ok k2 h0 (is_ok k3 h0 ⟨by show 3 ≤ sizeLine; decide, q⟩))
theorem cat3_ok {c1 c2 c3 : V} {b1 b2 b3 : Bool} (k1 : Ask K D c1 b1) (k2 : Ask K D c2 b2) (k3 : Ask K D c3 b3) {σ : L2.St} {H : Hp} {Q : VK} {l : Addr} {xs : List V} (h0 : σ[0]? = some (some (.ref a))) (h1 : σ[1]? = some (some (.ref l))) (hl : H l = some (.lst xs)) (hz : xs.length ≤ 100)
    (q : ∀ H' p, Grow H H' → H' p = some (.lst (xs ++ [.bl b1, .bl b2, .bl b3])) → Q (.ref p) H') : tOp rCat (tVar 1) (tIs3 K D a c1 c2 c3) σ H Q := by
  refine ⟨.ref l, h1, is3_ok k1 k2 k3 h0 fun p np => ⟨l, p, xs, _, rfl, rfl, Grow.new np _ _ hl, upd_same, ?_, fun r nr => q _ _ ((Grow.new np).trans (Grow.new nr)) upd_same⟩⟩
  have : sizeLine ≥ 1000 := by decide
  show xs.length + 3 ≤ sizeLine
  omega
theorem cat1_ok {c1 : V} {b1 : Bool} (k1 : Ask K D c1 b1) {σ : L2.St} {H : Hp} {Q : VK} {l : Addr} {xs : List V} (h0 : σ[0]? = some (some (.ref a))) (h1 : σ[1]? = some (some (.ref l))) (hl : H l = some (.lst xs)) (hz : xs.length ≤ 100)
    (q : ∀ H' p, Grow H H' → H' p = some (.lst (xs ++ [.bl b1])) → Q (.ref p) H') : tOp rCat (tVar 1) (tLst (tCons (tIs K D a c1) tNil)) σ H Q := by
  refine ⟨.ref l, h1, is_ok k1 h0 ⟨by show 1 ≤ sizeLine; decide, fun p np => ⟨l, p, xs, _, rfl, rfl, Grow.new np _ _ hl, upd_same, ?_, fun r nr => q _ _ ((Grow.new np).trans (Grow.new nr)) upd_same⟩⟩⟩
  have : sizeLine ≥ 1000 := by decide
  show xs.length + 1 ≤ sizeLine
  omega
/-- the names whose flag is set -/
def pick (ns : List Str) (bs : List Bool) : List Str := ((ns.zip bs).filter (·.2)).map (·.1)
theorem pick_snoc {ns : List Str} {bs : List Bool} {i : Nat} {n : Str} {b : Bool} (hn : ns[i]? = some n) (hb : bs[i]? = some b) : pick (ns.take (i + 1)) (bs.take (i + 1)) = pick (ns.take i) (bs.take i) ++ if b = true then [n] else [] := by
  have e1 : ns.take (i + 1) = ns.take i ++ [n] := by rw [List.take_add_one, hn]; rfl
  have e2 : bs.take (i + 1) = bs.take i ++ [b] := by rw [List.take_add_one, hb]; rfl
  have l1 := (List.getElem?_eq_some_iff.mp hn).1
  have l2 := (List.getElem?_eq_some_iff.mp hb).1
  unfold pick
  rw [e1, e2, List.zip_append (by rw [List.length_take, List.length_take]; omega), List.filter_append, List.map_append]
  cases b <;> rfl
theorem pick_len (ns : List Str) (bs : List Bool) : (pick ns bs).length ≤ ns.length := by
  unfold pick
  rw [List.length_map]
  refine Nat.le_trans (List.length_filter_le _ _) ?_
  rw [List.length_zip]
  omega
theorem sq_of {H : Hp} {p : Addr} {xs : List V} (h : H p = some (.lst xs)) : SqL K H p xs := .inl (.inl h)
/-- ' '.join([n for n, g in zip(names.split(' '), kinds) if g]) -/
theorem join_ok {names sep : Str} {ns : List Str} {bs : List Bool} {l : Addr} {v0 : Option V} {H : Hp} {Q : VK} (hsep : (sep.length == 0) = false) (hsz : names.length + 2 ≤ sizeLine) (hs : Txt.split names sep = ns) (hl : H l = some (.lst (bs.map V.bl))) (hnb : ns.length = bs.length) (hn : ns.length ≤ 100)
    (hj : ((pick ns bs).map (·.length)).sum + (pick ns bs).length * sep.length ≤ 16777216) (q : ∀ H', Grow H H' → Q (.str (Txt.join sep (pick ns bs))) H') :
    tM1 (fun x xs H Q => ∃ a p, ∃ ys : List Str, x = .str a ∧ xs = [.ref p] ∧ (SqL K H p (ys.map V.str) ∨ SqT K H p (ys.map V.str)) ∧ (ys.map (·.length)).sum + ys.length * a.length ≤ 16777216 ∧ Q (.str (Txt.join a ys)) H) (tC (.str sep))
      (tLc (iZipH K (tCons (tM1 (fun x xs H Q => ∃ a b, x = .str a ∧ xs = [.str b] ∧ (b.length == 0) = false ∧ a.length + 2 ≤ sizeLine ∧ rNewStrs (Txt.split a b) H Q) (tVar 2) (tC (.str sep))) (tCons (tVar 1) tNil))) (gTup K 2 (gCons (gName 3) (gCons (gName 4) gNil))) (tB (tVar 4)) (tVar 3) [3, 4])
      [v0, some (.ref l), some (.str names), none, none] H Q := by
  refine ⟨⟨sep, rfl⟩, .str names, rfl, ⟨names, rfl⟩, names, sep, rfl, rfl, hsep, hsz, fun z nz => ?_⟩
  rw [hs]
  have g0 := Grow.new (o := .lst (ns.map V.str)) nz
  refine ⟨.ref l, rfl, z, l, ns.map V.str, bs.map V.bl, rfl, sq_of upd_same, sq_of (g0 _ _ hl), fun Dd nD => ?_⟩
  generalize hH1 : upd H z (.lst (ns.map V.str)) = H1 at g0 nD
  have hz : H1 z = some (.lst (ns.map V.str)) := by rw [← hH1]; exact upd_same
  refine ⟨fun i m H2 => m = ns.length - i ∧ i ≤ ns.length ∧ Grow H1 H2 ∧ H2 Dd = some (.lst ((pick (ns.take i) (bs.take i)).map V.str)), ⟨ns.length, rfl, Nat.zero_le _, Grow.new nD, upd_same⟩, ?_⟩
  rintro i m H2 ⟨rfl, hi, g2, hD⟩
  have hz2 := g2 _ _ hz
  have hl2 := g2 _ _ (g0 _ _ hl)
  by_cases lt : i < ns.length
  · have en : ns[i]? = some ns[i] := List.getElem?_eq_getElem lt
    have ltb : i < bs.length := by omega
    obtain ⟨bv, eb⟩ : ∃ bv, bs[i]? = some bv := ⟨_, List.getElem?_eq_getElem ltb⟩
    refine .inr ⟨⟨_, _, .str ns[i], .bl bv, sq_of hz2, sq_of hl2, by rw [List.getElem?_map, en]; rfl, by rw [List.getElem?_map, eb]; rfl⟩, fun H' => Grow H1 H' ∧ H' Dd = some (.lst ((pick (ns.take (i + 1)) (bs.take (i + 1))).map V.str)), fun H' h => ⟨ns.length - (i + 1), by omega, rfl, lt, h⟩, ?_⟩
    rintro x H3 ⟨T, xa, ya, rfl, nT, rfl, f1, f2⟩
    have e1 := f1 _ (sq_of hz2)
    have e2 := f2 _ (sq_of hl2)
    rw [List.getElem?_map, en] at e1
    rw [List.getElem?_map, eb] at e2
    cases e1
    cases e2
    have gT := Grow.new (o := .tup [.str ns[i], .bl bv]) nT
    refine ⟨T, _, rfl, .inl (.inl upd_same), rfl, .str ns[i], _, rfl, .bl bv, _, rfl, rfl, rfl, .bl bv, rfl, bv, rfl, ?_⟩
    have ps := pick_snoc en eb
    cases bv with
    | false =>
      rw [if_neg (by simp), List.append_nil] at ps
      simp only [Bool.false_eq_true, if_false]
      refine ⟨g2.trans gT, ?_⟩
      rw [ps]
      exact gT _ _ hD
    | true =>
      rw [if_pos rfl] at ps
      simp only [if_true]
      have pl := pick_len (ns.take i) (bs.take i)
      rw [List.length_take] at pl
      refine ⟨.str ns[i], rfl, _, gT _ _ hD, ?_, fun b o e => ?_, ?_⟩
      · rw [List.length_map]
        have : sizeLine ≥ 1000 := by decide
        omega
      · rw [upd_ne (fun z => by rw [z, nD] at e; cases e)]
        exact gT b o (g2 b o e)
      · rw [upd_same, ps, List.map_append]
        rfl
  · have e : i = ns.length := by omega
    subst e
    rw [List.take_length, hnb, List.take_length] at hD
    exact .inl ⟨⟨_, _, sq_of hz2, sq_of hl2, by simp; omega, by simp⟩, sep, Dd, pick ns bs, rfl, rfl, .inl (sq_of hD), hj, q H2 (g0.trans g2)⟩
end
end Wt
set_option Elab.async false
set_option linter.all false
set_option maxRecDepth 100000
set_option maxHeartbeats 4000000
/-! T7: what _law_kin answers. -/
namespace Wt
open PySem PySem.Spec PyProof.Rows HotX L2 L2H
section
variable {K : PySem.W.Frag} {D a : Addr}
abbrev tCat3 (K : PySem.W.Frag) (D a : Addr) (c1 c2 c3 : V) : TE := tOp rCat (tVar 1) (tIs3 K D a c1 c2 c3)
abbrev tJoin (K : PySem.W.Frag) (sep : Str) : TE := tM1 (fun x xs H Q => ∃ a p, ∃ ys : List Str, x = .str a ∧ xs = [.ref p] ∧ (SqL K H p (ys.map V.str) ∨ SqT K H p (ys.map V.str)) ∧ (ys.map (·.length)).sum + ys.length * a.length ≤ 16777216 ∧ Q (.str (Txt.join a ys)) H) (tC (.str sep))
      (tLc (iZipH K (tCons (tM1 (fun x xs H Q => ∃ a b, x = .str a ∧ xs = [.str b] ∧ (b.length == 0) = false ∧ a.length + 2 ≤ sizeLine ∧ rNewStrs (Txt.split a b) H Q) (tVar 2) (tC (.str sep))) (tCons (tVar 1) tNil))) (gTup K 2 (gCons (gName 3) (gCons (gName 4) gNil))) (tB (tVar 4)) (tVar 3) [3, 4])
abbrev tKin (K : PySem.W.Frag) (D a : Addr) (c1 c2 c3 c4 c5 c6 c7 c8 c9 c10 c11 c12 c13 : V) (names sep : Str) : TS :=
  tSeq (tAsg (tIs3 K D a c1 c2 c3) (gName 1)) (tSeq (tAsg (tCat3 K D a c4 c5 c6) (gName 1)) (tSeq (tAsg (tCat3 K D a c7 c8 c9) (gName 1)) (tSeq (tAsg (tCat3 K D a c10 c11 c12) (gName 1)) (tSeq (tAsg (tOp rCat (tVar 1) (tLst (tCons (tIs K D a c13) tNil))) (gName 1)) (tSeq (tAsg (tC (.str names)) (gName 2)) (tRet (tJoin K sep)))))))
structure Asks (K : PySem.W.Frag) (D : Addr) (c1 c2 c3 c4 c5 c6 c7 c8 c9 c10 c11 c12 c13 : V) (bs : List Bool) : Prop where
  ex : ∃ b1 b2 b3 b4 b5 b6 b7 b8 b9 b10 b11 b12 b13, bs = [b1, b2, b3, b4, b5, b6, b7, b8, b9, b10, b11, b12, b13] ∧ Ask K D c1 b1 ∧ Ask K D c2 b2 ∧ Ask K D c3 b3 ∧ Ask K D c4 b4 ∧ Ask K D c5 b5 ∧ Ask K D c6 b6 ∧ Ask K D c7 b7 ∧ Ask K D c8 b8 ∧ Ask K D c9 b9 ∧ Ask K D c10 b10 ∧ Ask K D c11 b11 ∧ Ask K D c12 b12 ∧ Ask K D c13 b13
theorem seq_asg {te : TE} {i : Nat} {u : TS} {D : Ends} {σ : L2.St} {H : Hp} (h : te σ H fun x H1 => u D (σ.set i (some x)) H1) : tSeq (tAsg te (gName i)) u D σ H := h
theorem kin_ans {c1 c2 c3 c4 c5 c6 c7 c8 c9 c10 c11 c12 c13 : V} {bs : List Bool} (A : Asks K D c1 c2 c3 c4 c5 c6 c7 c8 c9 c10 c11 c12 c13 bs) {names sep : Str} {ns : List Str} (hsep : (sep.length == 0) = false) (hsz : names.length + 2 ≤ sizeLine) (hs : Txt.split names sep = ns) (hn : ns.length = 13)
    (hj : ((pick ns bs).map (·.length)).sum + (pick ns bs).length * sep.length ≤ 16777216) {nx : L2.St → Hp → Prop} {H : Hp} {Q : VK} (q : ∀ H', Grow H H' → Q (.str (Txt.join sep (pick ns bs))) H') :
    tKin K D a c1 c2 c3 c4 c5 c6 c7 c8 c9 c10 c11 c12 c13 names sep { nx := nx, rt := Q } [some (.ref a), none, none, none, none] H := by
  obtain ⟨b1, b2, b3, b4, b5, b6, b7, b8, b9, b10, b11, b12, b13, e, k1, k2, k3, k4, k5, k6, k7, k8, k9, k10, k11, k12, k13⟩ := A.ex
  refine seq_asg (is3_ok (σ := [some (.ref a), none, none, none, none]) k1 k2 k3 rfl fun p1 n1 => ?_)
  refine seq_asg (cat3_ok (σ := [some (.ref a), some (.ref p1), none, none, none]) k4 k5 k6 rfl rfl upd_same (by simp) fun H2 p2 g2 h2 => ?_)
  refine seq_asg (cat3_ok (σ := [some (.ref a), some (.ref p2), none, none, none]) k7 k8 k9 rfl rfl h2 (by simp) fun H3 p3 g3 h3 => ?_)
  refine seq_asg (cat3_ok (σ := [some (.ref a), some (.ref p3), none, none, none]) k10 k11 k12 rfl rfl h3 (by simp) fun H4 p4 g4 h4 => ?_)
  refine seq_asg (cat1_ok (σ := [some (.ref a), some (.ref p4), none, none, none]) k13 rfl rfl h4 (by simp) fun H5 p5 g5 h5 => ?_)
  have h5' : H5 p5 = some (.lst (bs.map V.bl)) := by rw [h5, e]; rfl
  refine seq_asg (te := tC (.str names)) ?_
  exact join_ok (v0 := some (.ref a)) hsep hsz hs h5' (by rw [hn, e]; rfl) (by omega) hj fun H6 g6 => q H6 ((Grow.new n1).trans (g2.trans (g3.trans (g4.trans (g5.trans g6)))))
end
end Wt
set_option Elab.async false
set_option linter.all false
set_option maxRecDepth 100000
set_option maxHeartbeats 4000000
/-! T8: try, with several clauses 'except x as n'. -/
namespace Wt
open PySem PySem.Spec PyProof.Rows HotX L2 L2H
/-- one clause: the class, the slot of its name, its suite -/
structure Cl where
  c : Value
  i : Nat
  ts : Addr → Value → Option Addr → TS
/-- what the clauses wish of an exception of the body -/
def wCl (K : PySem.W.Frag) (Wout : WX) (D : Ends) : List Cl → WX
  | [] => Wout
  | k :: r => fun cls d σ H => ∃ b, PySem.W.exmOne K cls k.c = some b ∧
      (b = true → ∀ a, H a = none → k.ts a cls d { nx := fun σ' H' => D.nx (σ'.set k.i none) H', rt := D.rt, bk := fun σ' H' => D.bk (σ'.set k.i none) H', ct := fun σ' H' => D.ct (σ'.set k.i none) H' } (σ.set k.i (some (.ref a))) H) ∧
      (b = false → wCl K Wout D r cls d σ H)
inductive ClOk (X : Cx) : List ExceptHandler → List Cl → Prop
  | nil : ClOk X [] []
  | cons {x n : Str} {c : Value} {i : Nat} {ts : Addr → Value → Option Addr → TS} {b₀ : Stmt} {suite : List Stmt} {np p2 : Pos} {hds : List ExceptHandler} {l : List Cl} (hc : Names X x c) (hi : X.N[i]? = some n) (hl : X.env.kindOf n = some .local)
      (hsu : ∀ (a : Addr) (oe : Obj) (cls : Value) (d : Option Addr) (pn : List (Addr × Obj)), L2N.Zn cls d oe → (∃ vs, oe.data = .fields vs) → PSs (X.suite a ((a, oe) :: pn)) (b₀ :: suite) (ts a cls d)) (r : ClOk X hds l) :
      ClOk X (.ExceptHandler (some (.Name x np)) (some n) (b₀ :: suite) p2 :: hds) (⟨c, i, ts⟩ :: l)
section
variable {X : Cx} {body : List Stmt} {h₀ : ExceptHandler} {hds : List ExceptHandler} {l : List Cl} {pos : Pos} {tb : WX → TS} {Wout : WX}
theorem ps_try_cls (hs : X.stack = X.env :: X.outer) (hf : X.env.frame = some X.env.locals) (hN : X.N.Nodup) (tk : L2N.Takes X Wout)
    (hb : ∀ (W : WX) (pn : List (Addr × Obj)) (xe : Value → Shared → Prop), L2N.Takes (X.tr pn xe) W → PSs (X.tr pn xe) body (tb W)) (hh : ClOk X (h₀ :: hds) l) :
    PS X (.Try body (h₀ :: hds) [] [] pos) (fun D σ H => tb (wCl X.K Wout D l) D σ H) := by
  constructor
  intro pins s σ H D I h
  have fr0 : X.A.frames = some (X.env :: X.outer) := I.ok.frames.trans (congrArg some hs)
  refine wpAny_Try_except (wpAny_mono ((hb (wCl X.K Wout D l) (X.pn ++ pins) (fun e s₁ => wpAny (model X.prog X.w) X.A (noteFrame e X.env) (fun _ s₂ => wpAny (model X.prog X.w) X.A (setFlight e none) (fun _ s₃ => wpAny (model X.prog X.w) X.A (handleBy e X.env (h₀ :: hds)) (SP X pins D) X.xe s₃) X.xe s₂) X.xe s₁) ?_).run [] s σ H D (I.toTry _) h) ?_ fun e s1 z => z)
  rotate_left
  · rintro f s1 z
    cases f with
    | next => obtain ⟨σ1, H1, J, q⟩ := z; exact wpAny_execs_nil ⟨σ1, H1, J.ofTry I.ok, q⟩
    | ret u => obtain ⟨v, σ1, H1, J, r, q⟩ := z; exact ⟨v, σ1, H1, J.ofTry I.ok, r, q⟩
    | brk => obtain ⟨σ1, H1, J, q⟩ := z; exact ⟨σ1, H1, J.ofTry I.ok, q⟩
    | cont => obtain ⟨σ1, H1, J, q⟩ := z; exact ⟨σ1, H1, J.ofTry I.ok, q⟩
  rintro u s' ⟨a, B, sI, pins', σ', H', cls, d, rfl, J', nb, up, sky, na, os, ag, w⟩
  have J : Inv X pins σ' H' sI := J'.ofTry I.ok
  rw [show (X.tr (X.pn ++ pins) _).stack = X.env :: X.outer from hs] at sky
  refine L2N.Sky.land L2N.Zn.steady fr0 hf sky fun h3 fl3 up3 => ?_
  have J3 : Inv X pins σ' H' { s' with heap := h3 } := J.landed nb fl3.1 (up.trans up3) os ag
  obtain ⟨o3, vs3, g3, z3, d3⟩ := fl3.there
  have away : a ∉ frs (X.env :: X.outer) := fun hm => by
    obtain ⟨_, o', e', ne⟩ := fl3.2.2.1.mem hm
    cases g3.symm.trans e'
    exact ne _ d3
  have nL : a ≠ X.env.locals := fun e => away (List.mem_filterMap.mpr ⟨X.env, List.mem_cons_self, by rw [hf, e]⟩)
  have nF : a ∉ X.fs := fun hm => by
    obtain ⟨e, he, q⟩ := List.mem_filterMap.mp hm
    exact away (List.mem_filterMap.mpr ⟨e, List.mem_cons_of_mem _ he, q⟩)
  have S3 := J3.suite g3 d3 na nL nF
  suffices all : ∀ {hs' : List ExceptHandler} {l' : List Cl}, ClOk X hs' l' → wCl X.K Wout D l' cls d σ' H' → wpAny (model X.prog X.w) X.A (handleBy (.ref a) X.env hs') (SP X pins D) X.xe { s' with heap := h3 } from all hh w
  intro hs' l' hk
  induction hk with
  | nil =>
    intro w
    refine wpAny_handleBy_nil ?_
    obtain ⟨_, _, _, oe, vs, T, oT, ts', ge, ze, de, f1, _⟩ := id fl3
    unfold PySem.passOn
    refine wpAny_bind (wpAny_field ge de f1 ?_)
    rw [show (Value.ref T == Value.none) = false from rfl]
    have last : wpAny (model X.prog X.w) X.A (setFlight (.ref a) X.env.frame) (fun _ s4 => wpAny (model X.prog X.w) X.A (throw (.ref a) : Sem Flow) (SP X pins D) X.xe s4) X.xe { s' with heap := h3 } := by
      rw [hf]
      exact HandSPX.setFlight_upZ fl3 fun h4 hh4 up4 => wpAny_throw (tk _ _ ⟨a, B, sI, pins, σ', H', cls, d, rfl, J, nb, (up.trans up3).trans up4, .inr (.inr (by rw [hs]; exact hh4)), na, os, ag, w⟩)
    first
      | exact wpAny_bind (wpAny_pure (wpAny_bind last))
      | exact wpAny_bind last
  | @cons x n c i ts b₀ suite np p2 hds2 l2 hc hi hl hsu r ih =>
    rintro ⟨b, eb, yes, no⟩
    have LT : PySem.W.Looks (model X.prog X.w) h3 (typeOf (.ref a)) cls := fun A Q E s k q => wpAny_typeOf_ref (k _ _ g3) (by rw [z3.1]; exact q)
    have LM := PySem.W.exm_one (M := model X.prog X.w) J3.kIn LT eb
    have test : ∀ {Q : Value → Shared → Prop} {E : Value → Shared → Prop}, Q c { s' with heap := h3 } → wpAny (model X.prog X.w) (X.A.mark (some (.ref a))) (eval (.Name x np) X.env) Q E { s' with heap := h3 } := fun {Q E} q => by
      obtain ⟨hg, hd, hm | ⟨hm, hv, hn⟩⟩ := hc
      · exact ld_glob (X := X.suite a ((a, o3) :: (X.pn ++ pins))) S3 hg hm q hd
      · exact ld_blt (X := X.suite a ((a, o3) :: (X.pn ++ pins))) S3 hg hm hv q hn hd
    refine wpAny_handleBy_cons (codeAny_handlers_test (test (LM.here ?_))) (by intro q; cases q)
    cases b with
    | false =>
      show wpAny _ X.A (handleBy (.ref a) X.env hds2) _ _ _
      exact ih (no rfl)
    | true =>
      refine codeAny_handlers_suite_as (HandSPX.lands_againZ fl3 fun h4 fl4 up4 => ?_)
      have J4 : Inv X pins σ' H' { s' with heap := h4 } := J.landed nb fl4.1 ((up.trans up3).trans up4) os ag
      obtain ⟨o4, vs4, g4, z4, d4⟩ := fl4.there
      refine store_ok (X := X.suite a ((a, o4) :: (X.pn ++ pins))) (v := .ref a) (J4.suite g4 d4 na nL nF) hN hi (.inl hl) rfl (fun s5 S5 => ?_) (.inr hl)
      refine wpAny_mono ((hsu a o4 cls d (X.pn ++ pins) z4 ⟨_, d4⟩).run [] s5 _ H' _ S5 (yes rfl a na)) ?_ fun _ _ z => z.elim
      rintro f s6 z
      have away2 : ∀ {σ6 : L2.St} {H6 : Hp} {Q : Shared → Prop}, Inv (X.suite a ((a, o4) :: (X.pn ++ pins))) [] σ6 H6 s6 → (∀ s7, Inv X pins (σ6.set i none) H6 s7 → Q s7) → wpAny (model X.prog X.w) X.A (do bindName X.env n .none; unbindBehindTheSuite X.env n p2) (fun _ s7 => Q s7) X.xe s6 :=
        fun {σ6 H6 Q} S6 q => gone_ok (S6.unsuite I.ok) hN hi hl q
      cases f with
      | next => obtain ⟨σ6, H6, S6, q6⟩ := z; exact away2 S6 fun s7 J7 => ⟨_, _, J7, q6⟩
      | brk => obtain ⟨σ6, H6, S6, q6⟩ := z; exact away2 S6 fun s7 J7 => ⟨_, _, J7, q6⟩
      | cont => obtain ⟨σ6, H6, S6, q6⟩ := z; exact away2 S6 fun s7 J7 => ⟨_, _, J7, q6⟩
      | ret u => obtain ⟨v6, σ6, H6, S6, r6, q6⟩ := z; exact away2 S6 fun s7 J7 => ⟨_, _, _, J7, r6, q6⟩
end
end Wt
set_option Elab.async false
set_option linter.all false
set_option maxRecDepth 100000
set_option maxHeartbeats 4000000
/-! T9: x(lambda: e), errors with their context told. -/
namespace Wt
open PySem PySem.Spec PyProof.Rows HotX L2 L2H LamX
/-- the context of the lambda's body -/
abbrev lamCxN (X : Cx) (A : Around) (outer : List Env) (s : Shared) (H : Hp) (E : XK) (scope : Scope) (f c' : Addr) : Cx :=
  (lamCx X A outer s H E scope f c').tr [] fun e s' => wpAny (model X.prog X.w) (A.deeper (lamEnv X scope s.heap.objs.size f c')) (leaving (lamEnv X scope s.heap.objs.size f c') e) (fun _ s'' => L2N.CX X.prog X.w outer H s E e s'') (fun e' s'' => L2N.CX X.prog X.w outer H s E e' s'') s'
theorem among_more {pos : Pos} {c : Value} (more : List Value) (l : List Value) (h : TriplesOk l) (hc : codeAmong pos l = some c) : codeAmong pos (l ++ more) = some c := by
  fun_induction TriplesOk l with
  | case1 => simp [codeAmong] at hc
  | case2 a t b u x rest ih =>
    simp only [List.cons_append, codeAmong] at hc ⊢
    split at hc
    · rename_i q
      rw [if_pos q]
      exact hc
    · rename_i q
      rw [if_neg q]
      exact ih h hc
  | case3 l h1 h2 => exact h.elim
/-- the code object at c is told by the table at P -/
def InTab (H : Hp) (P : Addr) (pos : Pos) (c : Addr) : Prop := ∃ qs more : Array Value, H P = some (.tbl (qs ++ more)) ∧ TriplesOk qs.toList ∧ codeAmong pos qs.toList = some (.ref c)
theorem InTab.later {H H' : Hp} {P : Addr} {pos : Pos} {c : Addr} (i : InTab H P pos c) (h : ∀ b ps, H b = some (.tbl ps) → ∃ more, H' b = some (.tbl (ps ++ more))) : InTab H' P pos c := by
  obtain ⟨qs, m1, h1, h2, h3⟩ := i
  obtain ⟨more, h4⟩ := h _ _ h1
  exact ⟨qs, m1 ++ more, by rw [h4, Array.append_assoc], h2, h3⟩
theorem InTab.at {H : Hp} {P : Addr} {pos : Pos} {c : Addr} (i : InTab H P pos c) : ∃ qs, H P = some (.tbl qs) ∧ codeAmong pos qs.toList = some (.ref c) := by
  obtain ⟨qs, m1, h1, h2, h3⟩ := i
  exact ⟨_, h1, by rw [Array.toList_append]; exact among_more _ _ h2 h3⟩
section
variable {X : Cx} {pins : List (Addr × Obj)} {σ : L2.St} {H HZ : Hp} {s s1 : Shared}
theorem pe_actN {CXg : CXT} {Eg : XK} {Ng : List Str} {qg : Str} {sg : Scope} {g f c' : Addr} {cdg pm ctv : Value} {params : Arguments} {body : Expr} {scope : Scope} {k i : Nat} {a : Str} {pn : List (Addr × Obj)} {xe : Value → Shared → Prop} {W : WX} {E : XK} {tb : TE} {p1 p2 : Pos}
    (I : Inv X pins σ H s) (L : LamS X.env.scope scope) (hf : s.heap.get? f = some (PySem.W.kla_obj "<lambda>" (X.env.qual ++ "<lambda>") params body scope (cloFrom X.env.cells scope.names []) pm c' ctv)) (hfn : H f = none) (hfr : f ∉ frs X.stack)
    (hbind : bindArgs (PySem.W.kla_fn "<lambda>" (X.env.qual ++ "<lambda>") params body scope (cloFrom X.env.cells scope.names []) pm (.ref c') ctv) ⟨[], []⟩ = pure [])
    (tk : L2N.Takes ((cxOf CXg X.prog X.w X.K X.mg X.base Ng qg sg g cdg X.A X.stack s H Eg).tr pn xe) W) (hW : ∀ cls d σ' H', E cls d H' → W cls d σ' H') (hr : Room (k + 1) (X.A.deeper (envOfC qg sg s.heap.objs.size g cdg)))
    {lpos : Pos} {Pt : Addr} (hin : InTab H Pt lpos c') (hbody : ∀ (A : Around) (outer : List Env) (s : Shared) (H : Hp), Room k (A.deeper (lamEnv X scope s.heap.objs.size f c')) → InTab H Pt lpos c' → PE (lamCxN X A outer s H E scope f c') body tb)
    (hN : Ng[i]? = some a) (hv : Vis sg a) (hd : (a == ("__debug__" : Str)) = false := by decide) (hcd : (a == ("__classdict__" : Str)) = false := by decide) :
    PE ((cxOf CXg X.prog X.w X.K X.mg X.base Ng qg sg g cdg X.A X.stack s H Eg).tr pn xe) (.Call (.Name a p1) [] [] p2) (fun σZ HZ Q => σZ[i]? = some (some (.ref f)) ∧ CodeA HZ c' (X.env.qual ++ "<lambda>") ∧ tb σ HZ Q) := by
  constructor
  rintro pinsZ sZ σZ HZ Q IZ ⟨hs, hc, ht⟩
  refine wpAny_Call_Name_kw (thn ((pe_var (pos := p1) (i := i) hN hv hd hcd).run pinsZ sZ σZ HZ (fun v H1 => v = .ref f ∧ H1 = HZ) IZ ⟨.ref f, hs, rfl, rfl⟩) ?_)
  rintro u s1 ⟨v, H1, I1, r1, rfl, rfl⟩
  cases r1
  have gf := I1.base.keep f _ hf hfn hfr (fun z => nomatch (show f ∈ ([] : List Addr) from z))
  refine PySem.W.callWith_F0 ⟨_, _, _, _, gf⟩ ?_
  have hrec := codeA_at I1.hok hc
  refine wpAny_call (codeAny_mono (c := .call (.ref f) ⟨[], []⟩) (R := CR (L2N.CX X.prog X.w) (envOfC qg sg s.heap.objs.size g cdg :: X.stack) X.prog X.w H1 s1 Q E) ?_ ?_)
  · refine PySem.W.kla_callFunE hr.depth gf rfl L.co L.gen rfl hrec ?_
    rw [hbind]
    refine wpAny_pure (wpAny_newFunctionEnv (fun y hy => (L.own y hy).2) (fun y hy => absurd hy (by simp)) (fun h₁ hns hsb => ⟨I1.nolimit.fresh _ hsb, ?_⟩) L.kind)
    have up : ∀ b o, s1.heap.get? b = some o → h₁.get? b = some o := fun b o e => hsb.extBut b o (Nat.ne_of_lt (Heap.lt_size e)) (Heap.get?_push_of_some _ e)
    have J0 : Inv (lamCx X (X.A.deeper (envOfC qg sg s.heap.objs.size g cdg)) (envOfC qg sg s.heap.objs.size g cdg :: X.stack) s1 H1 E scope f c') [] σ H1 { s1 with heap := h₁, toks := s1.toks + ([] : List (Str × Value)).length } := lam_start2 I L I1.env0 hr.hd I1.base hns up
    refine PySem.W.kla_codeExpr (env := lamEnv X scope s1.heap.objs.size f c') (wpAny_mono ((hbody (X.A.deeper (envOfC qg sg s.heap.objs.size g cdg)) (envOfC qg sg s.heap.objs.size g cdg :: X.stack) s1 H1 (hr.deeper _) (hin.later I1.base.tbls)).run [] _ σ H1 Q (J0.toTry _) ht) ?_ fun e s' z => z)
    rintro v s' ⟨w', H', J', rv, q⟩
    exact ⟨w', H', J'.os, J'.bare, J'.base, J'.hok, rv, q⟩
  · rintro r s' z
    cases r with
    | error e => exact L2N.passes_call tk hW pinsZ σZ H1 s1 e s' I1 z
    | ok fl => cases fl with
      | ret u => exact I1.after z
      | next => exact z.elim
      | brk => exact z.elim
      | cont => exact z.elim
end
/-- the def that calls what it got -/
def GivesN (X : Cx) (Ng : List Str) (x : Str) (sg : Scope) (g : Addr) (cdg : Value) (bg : List Stmt) (a : Str) (q : Str) (TT : (XK → Hp → VK → Prop) → Hp → VK → Prop) : Prop :=
  ∀ (f c' : Addr) (s : Shared) (H : Hp) (Q : VK) (tl : XK → Hp → VK → Prop), Room 1 (X.A.deeper (envOfC x sg s.heap.objs.size g cdg)) →
    (∀ (W : WX) (pn : List (Addr × Obj)) (xe : Value → Shared → Prop) (E : XK) (p1 p2 : Pos), L2N.Takes ((cxOf C8.CX0 X.prog X.w X.K X.mg X.base Ng x sg g cdg X.A X.stack s H C8.E0).tr pn xe) W → (∀ cls d σ H', E cls d H' → W cls d σ H') →
      PE ((cxOf C8.CX0 X.prog X.w X.K X.mg X.base Ng x sg g cdg X.A X.stack s H C8.E0).tr pn xe) (.Call (.Name a p1) [] [] p2) (fun σZ HZ Q => σZ[0]? = some (some (.ref f)) ∧ CodeA HZ c' q ∧ tl E HZ Q)) →
    CodeA H c' q → TT tl H Q →
    ∃ t, PSs (cxOf C8.CX0 X.prog X.w X.K X.mg X.base Ng x sg g cdg X.A X.stack s H C8.E0).nox bg t ∧ t { nx := fun _ H' => Q .non H', rt := Q } (L2.start Ng [.ref f]) H
end Wt
set_option Elab.async false
set_option linter.all false
set_option maxRecDepth 100000
set_option maxHeartbeats 4000000
/-! T10: _law_try: what it answers. -/
namespace Wt
open PySem PySem.Spec PyProof.Rows HotX L2 L2H LamX
/-- what _law_kin promises: A tells the words of a class -/
def kinSp (K : PySem.W.Frag) (A : Addr → Str → Prop) : SpP := fun p vs H Q _ => ∃ D kin, vs = [.ref p.1] ∧ ExcC K D ∧ (p.2.cls = .ref D ∧ p.2.dict = none) ∧ (∃ us, p.2.data = .fields us) ∧ A D kin ∧ ∀ H', Grow H H' → Q (.str kin) H'
/-- an error that _law_try answers by words -/
def tryE (K : PySem.W.Frag) (A : Addr → Str → Prop) (cT cI cE : Value) (Q : VK) : XK := fun cls d H => ∃ D kin, cls = .ref D ∧ d = none ∧ ExcC K D ∧ PySem.W.exmOne K cls cT = some false ∧ PySem.W.exmOne K cls cI = some false ∧ PySem.W.exmOne K cls cE = some true ∧ A D kin ∧
  ∀ H', Grow H H' → Q (.str kin) H'
def TTry (K : PySem.W.Frag) (A : Addr → Str → Prop) (cT cI cE : Value) (told : Str) : (XK → Hp → VK → Prop) → Hp → VK → Prop := fun tl H Q =>
  tl (tryE K A cT cI cE Q) H fun v H' => 2 ≤ sizeLine ∧ ∀ q, H' q = none → Q (.ref q) (upd H' q (.tup [.str told, v]))
abbrev nTry : List Str := ["_law_call_so", "_law_found", "_law_e"]
theorem pe_pre {X : Cx} {e : Expr} {t u : TE} (h : PE X e t) (hu : ∀ σ H Q, u σ H Q → t σ H Q) : PE X e u := ⟨fun pins s σ H Q I z => h.run pins s σ H Q I (hu σ H Q z)⟩
theorem ps_len {X : Cx} {st : Stmt} {t : TS} (h : PS X st t) : PS X st (fun D σ H => σ.length = X.N.length → t D σ H) := ⟨fun pins s σ H D I z => h.run pins s σ H D I (z I.len)⟩
theorem nTry_nodup : nTry.Nodup := by decide
section
variable {X : Cx}
theorem takesN0 : L2N.Takes X (fun _ _ _ _ => False) := fun _ _ x => by
  obtain ⟨_, _, _, _, _, _, _, _, _, _, _, _, _, _, _, _, z⟩ := x
  exact z.elim
end
end Wt
set_option Elab.async false
set_option linter.all false
set_option maxRecDepth 100000
set_option maxHeartbeats 4000000
/-! U1: _law_kin as a def. -/
namespace Wt
open PySem PySem.Spec PyProof.Rows HotX L2 L2H
/-- the classes by their names -/
structure Kinds (mg : Str → Option Value) (a1 a2 a3 a4 a5 a6 a7 a8 a9 a10 a11 a12 : Addr) : Prop where
  h1 : mg "InvalidHouse" = some (.ref a1)
  h2 : mg "InvalidErrand" = some (.ref a2)
  h3 : mg "InvalidState" = some (.ref a3)
  h4 : mg "InvalidWish" = some (.ref a4)
  h5 : mg "InvalidRun" = some (.ref a5)
  h6 : mg "InvalidOption" = some (.ref a6)
  h7 : mg "InvalidPaper" = some (.ref a7)
  h8 : mg "InvalidIndex" = some (.ref a8)
  h9 : mg "Unlike" = some (.ref a9)
  h10 : mg "NothingToUndo" = some (.ref a10)
  h11 : mg "TooMany" = some (.ref a11)
  h12 : mg "InvalidText" = some (.ref a12)
  hv : mg "ValueError" = none
  hi : mg "isinstance" = none
  hz : mg "zip" = none
/-- the words of an error of class D -/
def kinA (K : PySem.W.Frag) (a1 a2 a3 a4 a5 a6 a7 a8 a9 a10 a11 a12 : Addr) (D : Addr) (kin : Str) : Prop := ∃ bs : List Bool, Asks K D (.ref a1) (.ref a2) (.ref a3) (.ref a4) (.ref a5) (.ref a6) (.ref a7) (.ref a8) (.ref a9) (.ref a10) (.ref a11) (.ref a12) (.ty "ValueError") bs ∧
  ((pick (Txt.split "house errand state wish run option paper index unlike undo many text +" " ") bs).map (·.length)).sum + (pick (Txt.split "house errand state wish run option paper index unlike undo many text +" " ") bs).length * (" " : Str).length ≤ 16777216 ∧
  kin = Txt.join " " (pick (Txt.split "house errand state wish run option paper index unlike undo many text +" " ") bs)
end Wt
set_option Elab.async false
set_option linter.all false
set_option maxRecDepth 100000
set_option maxHeartbeats 4000000
/-! T11: a lambda is made: exactly what becomes of the heap; x(lambda: e) by it. -/
namespace Wt
open PySem PySem.Spec PyProof.Rows HotX L2 L2H LamX
/-- the table at P tells one more code object, or all is as it was -/
def Made (H : Hp) (P : Addr) (q : Str) (ps : Array Value) (H1 : Hp) : Prop := H1 = H ∨ ∃ (a T : Addr) (pos : Pos), H a = none ∧ H T = none ∧ a ≠ T ∧ H1 = grown H P ps pos a q T
/-- what the table tells -/
def Tells (H : Hp) (q : Str) (ps : Array Value) : Prop := TriplesOk ps.toList ∧ ∀ (pos : Pos) (cv : Value), codeAmong pos ps.toList = some cv → ∃ a, cv = .ref a ∧ CodeA H a q
section
variable {X : Cx} {pins : List (Addr × Obj)} {σ : L2.St} {H : Hp} {s : Shared}
theorem bm_at {h : Heap} {mg : Str → Option Value} {P P1 : Addr} {ps : Array Value} (b : h.BuiltinsAt mg P) (e : h.get? P1 = some (PySem.W.tabObj ps)) : h.BuiltinsAt mg P1 := by
  obtain ⟨bm, o, h1, h2, h3, _, h5, h6, r⟩ := b
  refine ⟨bm, o, h1, h2, h3, fun z => ?_, h5, h6, r⟩
  rw [z, e] at h5
  cases h5
  cases h6
theorem gP_at {h : Heap} {mg : Str → Option Value} {P1 : Addr} {ps : Array Value} (g : h.Ns mainGlobals mg) (e : h.get? P1 = some (PySem.W.tabObj ps)) : mainGlobals ≠ P1 := fun z => by
  obtain ⟨o, es, ep, ho, hd, _⟩ := g
  rw [z, e] at ho
  cases ho
  cases hd
theorem lam_at {c P : Addr} {ps : Array Value} {params : Arguments} {body : Expr} {scope : Scope} {pos : Pos} {E Q : Value → Shared → Prop} (I : Inv X pins σ H s) (hC : PySem.W.CodeHd s.heap c P) (bP : s.heap.BuiltinsAt X.mg P) (hcode : X.env.code = .ref c) (hP : H P = some (.tbl ps)) (hps : Tells H (X.env.qual ++ "<lambda>") ps)
    (hdef : defaultsOf params X.env = ([], [])) (hfree : ∀ y ∈ scope.names, y.2 = .free → ∃ b, X.env.cells.lookup y.1 = some b)
    (go : ∀ (g a : Addr) (pm ctv : Value) (H1 : Hp) (s1 : Shared), Inv X pins σ H1 s1 → Made H P (X.env.qual ++ "<lambda>") ps H1 → s1.heap.get? g = some (PySem.W.kla_obj "<lambda>" (X.env.qual ++ "<lambda>") params body scope (cloFrom X.env.cells scope.names []) pm a ctv) → H1 g = none → g ∉ frs X.stack →
      InTab H1 P pos a → CodeA H1 a (X.env.qual ++ "<lambda>") → Q (.ref g) s1) :
    wpAny (model X.prog X.w) X.A (eval (.Lambda params body scope pos) X.env) Q E s := by
  have far : ∀ g, s.heap.objs.size ≤ g → g ∉ frs X.stack := fun g hg z => (List.mem_cons.mp (I.stkSub _ z)).elim (fun e => by
    have lt := I.lt
    rw [← e] at lt
    exact absurd (Nat.lt_of_lt_of_le lt hg) (Nat.lt_irrefl _)) (I.nofs hg)
  have sP : s.heap.get? P = some { cls := .none, data := .fields ps } := I.hok P _ hP
  have gl := I.mod.glob.keeps I.bk
  refine PySem.W.kla_eval hdef ?_
  cases hc : codeAmong pos ps.toList with
  | some cv =>
    obtain ⟨a, rfl, ha⟩ := hps.2 pos cv hc
    refine PySem.W.kla_makeFunctionHit (P := P) (ps := ps) (mg := X.mg) (c := c) (closure_ok hfree) I.ok.glob gl hcode hC sP hps.1 hc bP fun ctv h' tk hx hsz => ?_
    exact go h'.objs.size a _ ctv H _ (I.kept (t' := tk) fun b o e => Heap.get?_push_of_some _ (hx b o e)) (.inl rfl) (Heap.get?_push_size _ rfl) (I.hok.fresh hsz) (far _ hsz) ⟨ps, #[], by simpa using hP, hps.1, hc⟩ ha
  | none =>
    refine mk_new (P := P) (ps := ps) (mg := X.mg) (c := c) (closure_ok hfree) I.ok.glob gl hcode hC sP hps.1 hc (gP_at gl sP) bP fun a T ctv h' tk hx a1 a2 t1 t2 hr hC2 hT2 hP2 => ?_
    have na : H a = none := I.hok.fresh a1
    have nT : H T = none := I.hok.fresh t1
    have aT : a ≠ T := by
      obtain ⟨_, _, _, _, _, _, _, _, _, _, _, _, _, _, _, _, _, _, z⟩ := hC2
      exact z
    have sz : s.heap.objs.size ≤ h'.objs.size := Nat.le_trans a1 (Nat.le_of_lt a2)
    have eL : (ps ++ #[rawInt pos.line, rawInt pos.col, .ref a]).toList = ps.toList ++ [rawInt pos.line, rawInt pos.col, .ref a] := by simp
    refine go h'.objs.size a _ ctv _ _ (inv_grown (t' := tk) (h' := h'.push (PySem.W.kla_obj "<lambda>" (X.env.qual ++ "<lambda>") params body scope (cloFrom X.env.cells scope.names []) ((X.mg "__name__").getD .none) a ctv)) I hP
      (fun b o hb e => Heap.get?_push_of_some _ (hx b o hb e)) (Heap.get?_push_of_some _ hP2) a1 t1 (hC2.keeps fun b o e => Heap.get?_push_of_some _ e) (hr.push _) (Heap.get?_push_of_some _ hT2)) (.inr ⟨a, T, pos, na, nT, aT, rfl⟩) (Heap.get?_push_size _ rfl) ?_ (far _ sz) ⟨_, #[], by rw [Array.append_empty]; exact grown_P (ne_of_none hP nT) (ne_of_none hP na), by rw [eL]; exact TriplesOk_snoc _ _ _ _ hps.1, by rw [eL]; exact codeAmong_snoc _ hps.1 hc⟩ ⟨T, grown_a aT⟩
    rw [grown_ne (Nat.ne_of_gt (Nat.lt_of_lt_of_le (Heap.lt_size sP) sz)) (Nat.ne_of_gt a2) (Nat.ne_of_gt t2)]
    exact I.hok.fresh sz
theorem lam_made {c P : Addr} {ps : Array Value} {params : Arguments} {body : Expr} {scope : Scope} {pos : Pos} {E Q : Value → Shared → Prop} (I : Inv X pins σ H s) (TB : TabB X.base X.mg c P) (hcode : X.env.code = .ref c) (hP : H P = some (.tbl ps)) (hps : Tells H (X.env.qual ++ "<lambda>") ps)
    (hdef : defaultsOf params X.env = ([], [])) (hfree : ∀ y ∈ scope.names, y.2 = .free → ∃ b, X.env.cells.lookup y.1 = some b)
    (go : ∀ (g a : Addr) (pm ctv : Value) (H1 : Hp) (s1 : Shared), Inv X pins σ H1 s1 → Made H P (X.env.qual ++ "<lambda>") ps H1 → s1.heap.get? g = some (PySem.W.kla_obj "<lambda>" (X.env.qual ++ "<lambda>") params body scope (cloFrom X.env.cells scope.names []) pm a ctv) → H1 g = none → g ∉ frs X.stack →
      InTab H1 P pos a → CodeA H1 a (X.env.qual ++ "<lambda>") → Q (.ref g) s1) :
    wpAny (model X.prog X.w) X.A (eval (.Lambda params body scope pos) X.env) Q E s :=
  lam_at I (TB.code.keeps I.bk) (TB.bm.keeps I.bk) hcode hP hps hdef hfree go
end
/-- x(lambda: e), e read by t -/
def tLamP (P : Addr) (q : Str) (TT : (XK → Hp → VK → Prop) → Hp → VK → Prop) (t : XK → TE) : TE := fun σ H Q => ∃ ps, H P = some (.tbl ps) ∧ Tells H q ps ∧ ∀ H1, Made H P q ps H1 → TT (fun E H' Q' => t E σ H' Q') H1 Q
section
variable {X : Cx}
theorem pe_lamP {TT : (XK → Hp → VK → Prop) → Hp → VK → Prop} {x a : Str} {g c P : Addr} {k : Nat} {pg : Arguments} {bg : List Stmt} {sg : Scope} {dV kV doc pm cdv ct oc : Value} {an od : Option Addr} {osl : Array (Option Value)} {Ng : List Str}
    {params : Arguments} {body : Expr} {scope : Scope} {t : XK → TE} {p lpos pos : Pos} (hg : Gl X x) (hm : X.mg x = some (.ref g)) (hk : PySem.W.keepIn X.K (.ref g) = true)
    (lk : X.K.lookup g = some ⟨oc, od, .func (PySem.W.fnOf x x pg bg sg dV kV doc pm an cdv ct), osl⟩) (hcg : PySem.W.codeIn X.K cdv x = true) (hb : L2.Binds X.K (PySem.W.fnOf x x pg bg sg dV kV doc pm an cdv ct) [a] []) (Sg : FnScope Ng [a] sg) (hNg : Ng[0]? = some a) (hva : Vis sg a)
    (hG : GivesN X Ng x sg g cdv bg a (X.env.qual ++ "<lambda>") TT)
    (TB : TabB X.base X.mg c P) (hcode : X.env.code = .ref c) (hr : Room (k + 2) X.A) (L : LamS X.env.scope scope) (hdef : defaultsOf params X.env = ([], []))
    (hbind : ∀ (q : Str) (cl : List (Str × Addr)) (pm cv ctv : Value), bindArgs (PySem.W.kla_fn "<lambda>" q params body scope cl pm cv ctv) ⟨[], []⟩ = pure [])
    (hbody : ∀ (A : Around) (outer : List Env) (s : Shared) (H : Hp) (E : XK) (f c' : Addr), Room k (A.deeper (lamEnv X scope s.heap.objs.size f c')) → InTab H P lpos c' → PE (lamCxN X A outer s H E scope f c') body (t E))
    (hdb : (x == ("__debug__" : Str)) = false := by decide) (hd : (a == ("__debug__" : Str)) = false := by decide) (hcd : (a == ("__classdict__" : Str)) = false := by decide) :
    PE X (.Call (.Name x p) [.Lambda params body scope lpos] [] pos) (tLamP P (X.env.qual ++ "<lambda>") TT t) := by
  constructor
  rintro pins s σ H Q I ⟨ps, hP, hps, h⟩
  refine wpAny_Call_Name_kw (ld_glob I hg hm (PySem.W.callWith_K (h₀ := X.base) I.ok.mod.kin hk ?_ (by rfl) (by rfl)) hdb)
  show wpAny _ _ (spliced ((false, eval (.Lambda params body scope lpos) X.env) :: backTo pos (starEach [] X.env))) _ _ s
  refine Calls.spliced_cons (lam_made I TB hcode hP hps hdef (L.has I.ok) fun f c' pm' ctv H1 s' I1 eN gf hfn hfr hat hco => Calls.spliced_nil ⟨I1.kIn, ?_⟩)
  refine wpAny_call (codeAny_mono (c := .call (.ref g) ⟨[.ref f], []⟩) (R := CR C8.CX0 X.stack X.prog X.w H1 s' Q C8.E0) (run_ofS (N := Ng) (ps := [a]) (us := [.ref f]) (vs := [.ref f]) lk hcg Sg hr I1.env0 (hb s' [.ref f] I1.kIn rfl) (.cons rfl .nil) rfl fun hr' => ?_) ?_)
  · obtain ⟨t', ht', hq'⟩ := hG f c' s' H1 Q (fun E H' Q' => t E σ H' Q') (hr'.mono (by omega)) (fun W pn xe E p1 p2 tk hW => pe_actN (i := 0) I1 L gf hfn hfr (hbind _ _ _ _ _) tk hW hr' hat (fun A outer s H hr2 hi => hbody A outer s H E f c' hr2 hi) hNg hva hd hcd) hco (h H1 eN)
    exact ⟨t', ht'.nox, hq'⟩
  · rintro r s2 z
    cases r with
    | error e => exact (show False from z).elim
    | ok fl => cases fl with
      | ret u => exact I1.after z
      | next => exact z.elim
      | brk => exact z.elim
      | cont => exact z.elim
end
end Wt
set_option Elab.async false
set_option linter.all false
set_option maxRecDepth 100000
set_option maxHeartbeats 4000000
/-! W17: _law_try(lambda: e). -/
namespace Wy
open PySem PySem.Spec PyProof.Rows L2 LamX Wt
section
variable {p : Pl} {H H1 : Hp} {B : List Addr} {m : Mu} {ps : Array Value}
theorem GoodT.tells {P : Addr} (g : GoodT H B P) (h : H P = some (.tbl ps)) : Tells H lamQ ps := ⟨(g ps h).1, fun pos cv hc => let ⟨c, T, a, b, _⟩ := (g ps h).2 pos cv hc; ⟨c, a, T, b⟩⟩
theorem InT.tells {T : Addr} {qs : Array Value} (g : InT H B T) (h : H T = some (.tbl qs)) : Tells H lamI qs := by
  obtain ⟨qs', h1, h2, h3⟩ := g
  rw [h] at h1
  cases h1
  exact ⟨h2, fun pos cv hc => let ⟨c, U, a, b, _⟩ := h3 pos cv hc; ⟨c, a, U, b⟩⟩
theorem made_keep {P : Addr} {q : Str} (M : Made H P q ps H1) (hP : H P = some (.tbl ps)) : ∀ a o, (∀ qs, o ≠ .tbl qs) → H a = some o → H1 a = some o := fun a o n e => by
  rcases M with rfl | ⟨c, T, pos, hc, hT, _, rfl⟩
  · exact e
  · rw [grown_ne (fun z => n ps (by rw [z, hP] at e; exact (Option.some.inj e).symm)) (ne_of_none e hc) (ne_of_none e hT)]
    exact e
/-- other tables stay -/
theorem made_tbl {P : Addr} {q : Str} (M : Made H P q ps H1) {a : Addr} {qs : Array Value} (na : a ≠ P) (e : H a = some (.tbl qs)) : H1 a = some (.tbl qs) := by
  rcases M with rfl | ⟨c, T, pos, hc, hT, _, rfl⟩
  · exact e
  · rw [grown_ne na (ne_of_none e hc) (ne_of_none e hT)]
    exact e
theorem made_le {P : Addr} {q : Str} (M : Made H P q ps H1) (hP : H P = some (.tbl ps)) : Le B H B H1 := ⟨fun a o _ n e => made_keep M hP a o n e, fun a h => (by
    rcases M with rfl | ⟨c, T, pos, hc, hT, cT, rfl⟩
    · exact h
    · by_cases z1 : a = T
      · rw [z1, grown_T]; exact fun z => nomatch z
      · by_cases z2 : a = c
        · rw [z2, grown_a cT]; exact fun z => nomatch z
        · by_cases z3 : a = P
          · rw [z3, grown_P (ne_of_none hP hT) (ne_of_none hP hc)]; exact fun z => nomatch z
          · rw [grown_ne z3 z2 z1]; exact h), [], by simp, fun _ h => nomatch h⟩
/-- code objects stand where they stood -/
theorem InT.made {P T : Addr} {q : Str} (g : InT H B T) (M : Made H P q ps H1) (hP : H P = some (.tbl ps)) (n : T ≠ P) : InT H1 B T := by
  obtain ⟨qs, h1, h2, h3⟩ := g
  refine ⟨qs, made_tbl M n h1, h2, fun pos cv h => ?_⟩
  obtain ⟨c, U, e1, e2, e3⟩ := h3 pos cv h
  exact ⟨c, U, e1, made_keep M hP c _ codeN_ne e2, e3⟩
theorem So.made (so : So p H B m) (M : Made H (tabL p.K) lamQ ps H1) (hP : H (tabL p.K) = some (.tbl ps)) : So p H1 B m := by
  have l : Le B H B H1 := made_le M hP
  refine ⟨?_, so.len, so.nd, fun a h => ⟨l.trk a (so.hid a h).1, (so.hid a h).2⟩, fun n a o h1 h2 => ?_⟩
  · obtain ⟨t, a⟩ := so.tb ps hP
    have old : ∀ (pos : Pos) (cv : Value), codeAmong pos ps.toList = some cv → ∃ c T, cv = .ref c ∧ H1 c = some (Wt.CodeN c lamQ T) ∧ c ∉ B ∧ T ≠ tabL p.K ∧ InT H1 B T := fun pos cv h => by
      obtain ⟨d, T, e1, e2, e3, nP, e4⟩ := a pos cv h
      exact ⟨d, T, e1, made_keep M hP d _ codeN_ne e2, e3, nP, e4.made M hP nP⟩
    rcases id M with rfl | ⟨c, T, pos, hc, hT, cT, rfl⟩
    · exact so.tb
    · have nPc : tabL p.K ≠ c := ne_of_none hP hc
      have nPT : tabL p.K ≠ T := ne_of_none hP hT
      intro qs e
      rw [grown_P nPT nPc] at e
      cases e
      have eL : (ps ++ #[rawInt pos.line, rawInt pos.col, .ref c]).toList = ps.toList ++ [rawInt pos.line, rawInt pos.col, .ref c] := by simp
      refine ⟨by rw [eL]; exact PySem.TriplesOk_snoc _ _ _ _ t, fun pos' cv h => ?_⟩
      rw [eL] at h
      rcases among_app _ t h with z | z
      · exact old pos' cv z
      · exact ⟨c, T, z, grown_a cT, (so.out hc).1, nPT.symm, #[], grown_T, True.intro, fun pos cv h => nomatch h⟩
  · have r := so.ob n a o h1 h2
    cases hH : H a with
    | none => exact absurd hH r.some
    | some u => exact r.mono l (by rw [hH]; exact made_keep M hP a u (r.tbl hH) hH)
theorem InT.grown_ {T : Addr} {qs : Array Value} (so : So p H B m) (g : InT H B T) (M : Made H T lamI qs H1) (hT : H T = some (.tbl qs)) : InT H1 B T := by
  obtain ⟨qs', h1, h2, h3⟩ := id g
  rw [hT] at h1
  cases h1
  have old : ∀ (pos : Pos) (cv : Value), codeAmong pos qs.toList = some cv → ∃ c U, cv = .ref c ∧ H1 c = some (Wt.CodeN c lamI U) ∧ c ∉ B := fun pos cv h => by
    obtain ⟨c, U, e1, e2, e3⟩ := h3 pos cv h
    exact ⟨c, U, e1, made_keep M hT c _ codeN_ne e2, e3⟩
  rcases id M with rfl | ⟨c, U, pos, hc, hU, cU, rfl⟩
  · exact g
  · have eL : (qs ++ #[rawInt pos.line, rawInt pos.col, .ref c]).toList = qs.toList ++ [rawInt pos.line, rawInt pos.col, .ref c] := by simp
    refine ⟨_, grown_P (ne_of_none hT hU) (ne_of_none hT hc), by rw [eL]; exact PySem.TriplesOk_snoc _ _ _ _ h2, fun pos' cv h => ?_⟩
    rw [eL] at h
    rcases among_app _ h2 h with z | z
    · exact old pos' cv z
    · exact ⟨c, U, z, grown_a cU, (so.out hc).1⟩
/-- a lambda is made within a lambda -/
theorem So.madeI {T : Addr} {qs : Array Value} (so : So p H B m) (M : Made H T lamI qs H1) (hT : H T = some (.tbl qs)) (nT : T ≠ tabL p.K) : So p H1 B m := by
  have l : Le B H B H1 := made_le M hT
  refine ⟨fun ps e => ?_, so.len, so.nd, fun a h => ⟨l.trk a (so.hid a h).1, (so.hid a h).2⟩, fun n a o h1 h2 => ?_⟩
  · have e0 : H (tabL p.K) = some (.tbl ps) ∨ H (tabL p.K) = none := by
      rcases id M with rfl | ⟨c, U, pos, hc, hU, cU, rfl⟩
      · exact .inl e
      · by_cases z1 : tabL p.K = U
        · exact .inr (by rw [z1]; exact hU)
        · by_cases z2 : tabL p.K = c
          · exact .inr (by rw [z2]; exact hc)
          · rw [grown_ne nT.symm z2 z1] at e
            exact .inl e
    rcases e0 with e0 | e0
    rotate_left
    · rcases id M with rfl | ⟨c, U, pos, hc, hU, cU, rfl⟩
      · rw [e0] at e; cases e
      · by_cases z1 : tabL p.K = U
        · rw [z1, grown_T] at e
          cases e
          exact ⟨True.intro, fun pos cv h => nomatch h⟩
        · by_cases z2 : tabL p.K = c
          · rw [z2, grown_a cU] at e
            exact absurd (Option.some.inj e) (codeN_ne ps)
          · rw [grown_ne nT.symm z2 z1, e0] at e
            cases e
    · obtain ⟨t, a⟩ := so.tb ps e0
      refine ⟨t, fun pos cv h => ?_⟩
      obtain ⟨d, U, e1, e2, e3, nP, e4⟩ := a pos cv h
      refine ⟨d, U, e1, made_keep M hT d _ codeN_ne e2, e3, nP, ?_⟩
      by_cases z : U = T
      · rw [z] at e4 ⊢
        exact e4.grown_ so M hT
      · exact e4.made M hT z
  · have r := so.ob n a o h1 h2
    cases hH : H a with
    | none => exact absurd hH r.some
    | some u => exact r.mono l (by rw [hH]; exact made_keep M hT a u (r.tbl hH) hH)
theorem grow_le (g : Grow H H1) : Le B H B H1 := ⟨fun a o _ _ e => g a o e, fun a h => (by
    cases e : H a with
    | none => exact absurd e h
    | some o => rw [g a o e]; exact fun z => nomatch z), [], by simp, fun _ h => nomatch h⟩
theorem So.grow (so : So p H B m) (g : Grow H H1) (hP : H (tabL p.K) ≠ none) : So p H1 B m := by
  have l : Le B H B H1 := grow_le g
  refine ⟨so.tb.step (fun ps e => ?_) (fun T qs e => g T _ e) fun c _ _ e n => ⟨g c _ e, n⟩, so.len, so.nd, fun a h => ⟨l.trk a (so.hid a h).1, (so.hid a h).2⟩, fun n a o h1 h2 => ?_⟩
  · cases e2 : H (tabL p.K) with
    | none => exact absurd e2 hP
    | some o => rw [g _ o e2] at e; exact e
  · have r := so.ob n a o h1 h2
    cases hH : H a with
    | none => exact absurd hH r.some
    | some u => exact r.mono l (by rw [hH]; exact g a u hH)
end
/-- where the law's lambdas are made -/
structure LawX (X : Cx) : Prop where
  code : ∃ c, TabB X.base X.mg c (tabL X.K) ∧ X.env.code = .ref c
  tab : ∃ qs, X.H_0 (tabL X.K) = some (.tbl qs)
  qual : X.env.qual ++ "<lambda>" = lamQ
/-- the classes of errors, and their words -/
structure TryK (K : PySem.W.Frag) (mg : Str → Option Value) (A : Addr → Str → Prop) (cT cI cE : Value) (kinds : List (Str × Str)) : Prop where
  all : ∀ x kin, kinds.lookup x = some kin → ∀ C, mg x = some (.ref C) → ExcC K C ∧ PySem.W.exmOne K (.ref C) cT = some false ∧ PySem.W.exmOne K (.ref C) cI = some false ∧ PySem.W.exmOne K (.ref C) cE = some true ∧ A C kin
/-- _law_try, as it stands behind the top -/
structure TryX (X : Cx) (kinds : List (Str × Str)) : Prop where
  ex : ∃ (g : Addr) (oc : Value) (od : Option Addr) (pg : Arguments) (bg : List Stmt) (sg : Scope) (dV kV doc pm : Value) (an : Option Addr) (cdv ct : Value) (osl : Array (Option Value)) (A : Addr → Str → Prop) (cT cI cE : Value),
    X.mg "_law_try" = some (.ref g) ∧ PySem.W.keepIn X.K (.ref g) = true ∧ X.K.lookup g = some ⟨oc, od, .func (PySem.W.fnOf "_law_try" "_law_try" pg bg sg dV kV doc pm an cdv ct), osl⟩ ∧ PySem.W.codeIn X.K cdv "_law_try" = true ∧
    L2.Binds X.K (PySem.W.fnOf "_law_try" "_law_try" pg bg sg dV kV doc pm an cdv ct) ["_law_call_so"] [] ∧ FnScope nTry ["_law_call_so"] sg ∧ Vis sg "_law_call_so" ∧ GivesN X nTry "_law_try" sg g cdv bg "_law_call_so" lamQ (TTry X.K A cT cI cE "told") ∧ TryK X.K X.mg A cT cI cE kinds
section
variable {X : Cx} {E : XK}
theorem pass_lam {A : Around} {outer : List Env} {s : Shared} {H : Hp} {scope : Scope} {f' c' : Addr} : Passes (L2N.CX X.prog X.w) (lamCxN X A outer s H E scope f' c') E :=
  L2N.passes_call (W := fun cls d _ H => E cls d H) (L2N.takes_of rfl rfl rfl rfl) fun _ _ _ _ h => h
end
end Wy
set_option Elab.async false
set_option linter.all false
set_option maxRecDepth 100000
set_option maxHeartbeats 4000000
/-! W18: what is asked of K for _law_try. -/
namespace Wy
open PySem PySem.Spec PyProof.Rows L2 LamX Wt
def kNames : List Str := ["InvalidHouse", "InvalidErrand", "InvalidState", "InvalidWish", "InvalidRun", "InvalidOption", "InvalidPaper", "InvalidIndex", "Unlike", "NothingToUndo", "TooMany", "InvalidText"]
def kWords : List Str := Txt.split "house errand state wish run option paper index unlike undo many text +" " "
/-- is the class D one of c? -/
def ksB (K : PySem.W.Frag) (D : Addr) (c : Value) : Bool := (PySem.W.kitOne K (.ref D) c).isSome
def kbB (K : PySem.W.Frag) (D : Addr) (c : Value) : Bool := (PySem.W.kitOne K (.ref D) c).getD false
theorem ksB_ok {K : PySem.W.Frag} {D : Addr} {c : Value} (h : ksB K D c = true) : PySem.W.kitOne K (.ref D) c = some (kbB K D c) := by
  unfold ksB at h
  unfold kbB
  cases e : PySem.W.kitOne K (.ref D) c with
  | none => rw [e] at h; cases h
  | some b => rfl
def kVals (K : PySem.W.Frag) : List Value := [.ref (He.ga K "InvalidHouse"), .ref (He.ga K "InvalidErrand"), .ref (He.ga K "InvalidState"), .ref (He.ga K "InvalidWish"), .ref (He.ga K "InvalidRun"), .ref (He.ga K "InvalidOption"), .ref (He.ga K "InvalidPaper"), .ref (He.ga K "InvalidIndex"), .ref (He.ga K "Unlike"), .ref (He.ga K "NothingToUndo"), .ref (He.ga K "TooMany"), .ref (He.ga K "InvalidText"), .type "ValueError"]
/-- the class D as an exception's -/
def excB (K : PySem.W.Frag) (D : Addr) : Bool :=
  He.eqO (PySem.W.findIn K (.ref D) "__getattribute__") (some (some (.builtin "BaseException.__getattribute__"))) && (He.eqO (PySem.W.findIn K (.ref D) "__getattr__") (some none) && (decide (PySem.W.subIn K (.ref D) (.type "BaseException") = some true) && (PySem.W.hasDictIn K D &&
    (He.eqO (PySem.W.findIn K (.ref D) "__class__") (some (some (.builtin "object.__class__"))) && (He.eqO (PySem.W.specialIn K (.builtin "object.__class__") "__get__") (some (some (.builtin "getset_descriptor.__get__"))) && (decide (PySem.W.takesIn K (.builtin "object.__class__") = some true) && decide (PySem.W.mroIn K D (.type "object") = some true)))))))
theorem excB_ok {K : PySem.W.Frag} {D : Addr} (h : excB K D = true) : ExcC K D := by
  obtain ⟨h1, h⟩ := He.ba h
  obtain ⟨h2, h⟩ := He.ba h
  obtain ⟨h3, h⟩ := He.ba h
  obtain ⟨h4, h⟩ := He.ba h
  obtain ⟨h5, h⟩ := He.ba h
  obtain ⟨h6, h⟩ := He.ba h
  obtain ⟨h7, h8⟩ := He.ba h
  exact ⟨He.eqO_ok h1, He.eqO_ok h2, of_decide_eq_true h3, h4, He.eqO_ok h5, He.eqO_ok h6, of_decide_eq_true h7, of_decide_eq_true h8⟩
/-- the class x is told by the words kin -/
def kindB (K : PySem.W.Frag) (x kin : Str) : Bool :=
  (He.Fa.glo x).ok K && (excB K (He.ga K x) && ((kVals K).all (ksB K (He.ga K x)) && (decide (((pick kWords ((kVals K).map (kbB K (He.ga K x)))).map (·.length)).sum + (pick kWords ((kVals K).map (kbB K (He.ga K x)))).length * (" " : Str).length ≤ 16777216) &&
    (decide (kin = Txt.join " " (pick kWords ((kVals K).map (kbB K (He.ga K x))))) && (decide (PySem.W.exmOne K (.ref (He.ga K x)) (.ref (He.ga K "TooMany")) = some false) && (decide (PySem.W.exmOne K (.ref (He.ga K x)) (.ref (He.ga K "InvalidText")) = some false) &&
      decide (PySem.W.exmOne K (.ref (He.ga K x)) (.ref (He.ga K "ErrandError")) = some true)))))))
def moreTry (kinds : List (Str × Str)) (K : PySem.W.Frag) : Bool := kNames.all (fun x => (He.Fa.glo x).ok K) && ((He.Fa.glo "ErrandError").ok K && ((He.Fa.free "ValueError").ok K && ((He.Fa.free "isinstance").ok K && ((He.Fa.free "zip").ok K && kinds.all fun p => kindB K p.1 p.2))))
abbrev kindA (K : PySem.W.Frag) : Addr → Str → Prop := kinA K (He.ga K "InvalidHouse") (He.ga K "InvalidErrand") (He.ga K "InvalidState") (He.ga K "InvalidWish") (He.ga K "InvalidRun") (He.ga K "InvalidOption") (He.ga K "InvalidPaper") (He.ga K "InvalidIndex") (He.ga K "Unlike") (He.ga K "NothingToUndo") (He.ga K "TooMany") (He.ga K "InvalidText")
abbrev KindsK (K : PySem.W.Frag) (mg : Str → Option Value) : Prop := Kinds mg (He.ga K "InvalidHouse") (He.ga K "InvalidErrand") (He.ga K "InvalidState") (He.ga K "InvalidWish") (He.ga K "InvalidRun") (He.ga K "InvalidOption") (He.ga K "InvalidPaper") (He.ga K "InvalidIndex") (He.ga K "Unlike") (He.ga K "NothingToUndo") (He.ga K "TooMany") (He.ga K "InvalidText")
section
variable {K : PySem.W.Frag} {h : Heap} {mg : Str → Option Value} {kinds : List (Str × Str)}
theorem kinds_ok (KX : K.In h) (G : h.Ns mainGlobals mg) (c : moreTry kinds K = true) : KindsK K mg := by
  obtain ⟨c1, c⟩ := He.ba c
  obtain ⟨c2, c⟩ := He.ba c
  obtain ⟨c3, c⟩ := He.ba c
  obtain ⟨c4, c⟩ := He.ba c
  obtain ⟨c5, _⟩ := He.ba c
  have g : ∀ x ∈ kNames, mg x = some (.ref (He.ga K x)) := fun x hx => He.glo_ok KX G (List.all_eq_true.mp c1 x hx)
  exact ⟨g _ (by simp [kNames]), g _ (by simp [kNames]), g _ (by simp [kNames]), g _ (by simp [kNames]), g _ (by simp [kNames]), g _ (by simp [kNames]), g _ (by simp [kNames]), g _ (by simp [kNames]), g _ (by simp [kNames]), g _ (by simp [kNames]), g _ (by simp [kNames]), g _ (by simp [kNames]), He.free_ok KX G c3, He.free_ok KX G c4, He.free_ok KX G c5⟩
theorem errand_ok (KX : K.In h) (G : h.Ns mainGlobals mg) (c : moreTry kinds K = true) : mg "ErrandError" = some (.ref (He.ga K "ErrandError")) := He.glo_ok KX G (He.ba (He.ba c).2).1
theorem tryK_ok (KX : K.In h) (G : h.Ns mainGlobals mg) (c : moreTry kinds K = true) : TryK K mg (kindA K) (.ref (He.ga K "TooMany")) (.ref (He.ga K "InvalidText")) (.ref (He.ga K "ErrandError")) kinds := by
  obtain ⟨_, c⟩ := He.ba c
  obtain ⟨_, c⟩ := He.ba c
  obtain ⟨_, c⟩ := He.ba c
  obtain ⟨_, c⟩ := He.ba c
  obtain ⟨_, c⟩ := He.ba c
  refine ⟨fun x kin e C hC => ?_⟩
  have k := List.all_eq_true.mp c (x, kin) (lookup_mem e)
  obtain ⟨k1, k⟩ := He.ba k
  obtain ⟨k2, k⟩ := He.ba k
  obtain ⟨k3, k⟩ := He.ba k
  obtain ⟨k4, k⟩ := He.ba k
  obtain ⟨k5, k⟩ := He.ba k
  obtain ⟨k6, k⟩ := He.ba k
  obtain ⟨k7, k8⟩ := He.ba k
  have e1 : mg x = some (.ref (He.ga K x)) := He.glo_ok KX G k1
  rw [hC] at e1
  cases e1
  have ask : ∀ (v : V) (cv : Value), (∀ u, RelV v u → u = cv) → cv ∈ kVals K → Ask K (He.ga K x) v (kbB K (He.ga K x) cv) := fun v cv h1 h2 => ⟨cv, h1, ksB_ok (List.all_eq_true.mp k3 cv h2)⟩
  have rr : ∀ (a : Addr) (u : Value), RelV (.ref a) u → u = .ref a := fun a u h => h
  refine ⟨excB_ok k2, of_decide_eq_true k6, of_decide_eq_true k7, of_decide_eq_true k8, (kVals K).map (kbB K (He.ga K x)), ⟨_, _, _, _, _, _, _, _, _, _, _, _, _, rfl, ?_, ?_, ?_, ?_, ?_, ?_, ?_, ?_, ?_, ?_, ?_, ?_, ?_⟩, of_decide_eq_true k4, of_decide_eq_true k5⟩
  all_goals first
    | exact ask _ _ (rr _) (by simp [kVals])
    | exact ask _ _ (fun u h => h) (by simp [kVals])
end
end Wy
set_option Elab.async false
set_option linter.all false
set_option maxRecDepth 100000
set_option maxHeartbeats 4000000
/-! W19: isinstance with two types; what is never reached. -/
namespace Wy
open PySem PySem.Spec PyProof.Rows L2
section
variable {X : Cx} {E : XK} {a : Expr} {fa : FE} {pos : Pos}
end
end Wy
set_option Elab.async false
set_option linter.all false
set_option maxRecDepth 100000
set_option maxHeartbeats 4000000
/-! W20: x[::-1] by values. -/
namespace Wy
open PySem PySem.Spec PyProof.Rows L2
section
variable {prog : Program} {w : World} {A : Around} {E : Value → Shared → Prop} {s : Shared}
end
end Wy
set_option Elab.async false
set_option linter.all false
set_option maxRecDepth 100000
set_option maxHeartbeats 4000000
/-! W21: x[::-1]; list(x) that is changed; tuple * int; sorted(set(..)) of ints. -/
namespace Wy
open PySem PySem.Spec PyProof.Rows L2
section
variable {X : Cx} {E : XK} {a : Expr} {fa : FE} {pos : Pos}
/-! ### x[::-1] -/
/-! ### list(x), changed -/
/-! ### tuple * int -/
theorem DVs.repl {p : Pl} {H : Hp} {B : List Addr} {xs : List V} {ds : List PyData} (h : DVs p H B xs ds) : ∀ j : Nat, DVs p H B (List.replicate j xs).flatten (List.replicate j ds).flatten
  | 0 => .nil
  | j + 1 => by
    rw [List.replicate_succ, List.replicate_succ, List.flatten_cons, List.flatten_cons]
    exact h.append (h.repl j)
/-! ### sorted(set(..)) of ints -/
end
end Wy
set_option Elab.async false
set_option linter.all false
set_option maxRecDepth 100000
set_option maxHeartbeats 4000000
/-! W22: sorted(set(..)) of a tuple of keys. -/
namespace Wy
open PySem PySem.Spec PyProof.Rows L2
section
variable {P : Program} {w : World} {A : Around} {E : Value → Shared → Prop} {s : Shared}
end
open PySem.W PySem.SeqAt
section
variable {X : Cx} {E : XK} {a : Expr} {fa : FE} {pos : Pos}
end
end Wy
set_option Elab.async false
set_option linter.all false
set_option maxRecDepth 100000
set_option maxHeartbeats 4000000
/-! W23: texts: walks over their signs, join, split, str(int), int(text), f'..'. -/
namespace Wy
open PySem PySem.Spec PyProof.Rows L2
/-! ### the signs of a text -/
section
variable {p : Pl} {H H1 : Hp} {B B1 : List Addr} {m : Mu}
end
section
variable {X : Cx} {E : XK} {tg a b e : Expr} {fa fb : FE} {pos : Pos}
/-! ### join, split -/
/-! ### str(int), int(text) -/
/-! ### f'text{int}' -/
/-- a whole number of the top, as a constant -/
theorem glo_int {K : PySem.W.Frag} {h : Heap} {mg : Str → Option Value} (KX : K.In h) (G : h.Ns mainGlobals mg) {x : Str} {i : Int} (c : (He.Fa.int x i).ok K = true) : Glo K mg x (.int i) := by
  obtain ⟨t, e⟩ := He.int_ok KX G c
  exact ⟨.int i, _, e, ⟨t, rfl⟩, fun P w Z H B => .int i⟩
/-- a statement of which nothing is said -/
theorem ws_bad {st : Stmt} : WS X E st (fun _ _ => .bad) := ⟨fun pins s σ H D I ⟨Z, B, r, m, sl, so, q⟩ => q.elim⟩
end
end Wy
set_option Elab.async false
set_option linter.all false
set_option maxRecDepth 100000
set_option maxHeartbeats 4000000
/-! W24: a, b, .. = a list. -/
namespace Wy
open PySem PySem.Spec PyProof.Rows L2
section
variable {X : Cx} {E : XK} {e : Expr} {fe : FE} {pos p2 : Pos}
end
end Wy
set_option Elab.async false
set_option linter.all false
set_option maxRecDepth 100000
set_option maxHeartbeats 4000000
/-! W25: dict comprehensions (keys: tuples). -/
namespace Wy
open PySem PySem.Spec PyProof.Rows L2
/-- what a turn does to the dict at D, by the pair -/
abbrev TDs := Addr → V → V → Hp → (Hp → Prop) → Prop
section
variable {X : Cx} {kx vx tg iter : Expr} {ifs : List Expr} {scope : Scope} {own : List (Str × Nat)} {pos : Pos} {wi : TI} {g : TG} {tt : TT} {tk tv : TE} {ts : TDs}
end
/-! ### the dict that is made stands in the store -/
/-! ### {k: v for ..} -/
end Wy
set_option Elab.async false
set_option linter.all false
set_option maxRecDepth 100000
set_option maxHeartbeats 4000000
/-! W26: dict(..) of a list of pairs whose keys are tuples. -/
namespace Wy
open PySem PySem.Spec PyProof.Rows L2
section
variable {X : Cx} {E : XK} {pins : List (Addr × Obj)} {σ : Xs} {H : Hp} {s : Shared} {Z B : List Addr}
end
end Wy
set_option Elab.async false
set_option linter.all false
set_option maxRecDepth 100000
set_option maxHeartbeats 4000000
namespace Wy
open PySem PySem.Spec PyProof.Rows L2
def g_WHO : PyData := .tuple [.str "me", .str "they"]
def b_is_within : FS := (fRet false (fAndV (fIsi "int" (fVar 0)) (fAndV (fNotV (fIsi "bool" (fVar 0))) (fChain (gO cLe) (gO cLe) (fVar 1) (fVar 0) (fVar 2)))))
def f_is_within : Fn := fnF 3 (b_is_within)
def b_has_items : FS := (fRet false (fAndV (fIsi "tuple" (fVar 0)) (fChain (gO cLe) (gO cLe) (fVar 1) (fBi gLen (fCons (fVar 0) fNil)) (fVar 2))))
def f_has_items : Fn := fnF 3 (b_has_items)
def b_are_states : FS := (fThen (fIfS (fOrT (fNotT (fTb (fCall 3 f_has_items (fCons (fVar 1) (fCons (fC (.int 1)) (fCons (fVar 0) fNil)))))) (fNotT (fTb (fBi gAll (fCons (fComp (fSeq (fVar 1)) (.nm 2) [2] fYes (fCall 3 f_is_within (fCons (fVar 2) (fCons (fC (.int 0)) (fCons (fBin gSub (fVar 0) (fC (.int 1))) fNil))))) fNil))))) (fRet false (fC (.bool false))) fNext)
  (fRet false (fBi gAll (fCons (fComp (fZip (fVar 1) (fSl (fVar 1) (fPart (fC (.int 1))) fNoP)) (.tp [(.nm 2), (.nm 3)]) [2, 3] fYes (fBin (gO cLt) (fVar 2) (fVar 3))) fNil))))
def f_are_states : Fn := fnF 4 (b_are_states)
def b_is_option : FS := (fThen (fIfS (fOrT (fNotT (fTb (fCall 3 f_has_items (fCons (fVar 3) (fCons (fC (.int 4)) (fCons (fC (.int 4)) fNil)))))) (fNotT (fTb (fCall 2 f_are_states (fCons (fVar 0) (fCons (fBin gIx (fVar 3) (fC (.int 0))) fNil)))))) (fRet false (fC (.bool false))) fNext)
  (fRet false (fAndV (fCall 3 f_is_within (fCons (fBin gIx (fVar 3) (fC (.int 1))) (fCons (fC (.int (-1))) (fCons (fBin gSub (fVar 1) (fC (.int 1))) fNil)))) (fAndV (fCall 3 f_is_within (fCons (fBin gIx (fVar 3) (fC (.int 2))) (fCons (fC (.int 0)) (fCons (fBin gSub (fVar 0) (fC (.int 1))) fNil)))) (fCall 3 f_is_within (fCons (fBin gIx (fVar 3) (fC (.int 3))) (fCons (fC (.int 0)) (fCons (fVar 2) fNil))))))))
def f_is_option : Fn := fnF 4 (b_is_option)
def b_is_line : FS := (fThen (fIfS (fOrT (fNotT (fTb (fCall 3 f_has_items (fCons (fVar 3) (fCons (fC (.int 2)) (fCons (fC (.int 2)) fNil)))))) (fOrT (fNotT (fTb (fIsi "str" (fBin gIx (fVar 3) (fC (.int 0)))))) (fTb (fBin gNotIn (fBin gIx (fVar 3) (fC (.int 0))) (fC g_WHO))))) (fRet false (fC (.bool false))) fNext)
  (fThen (fIfS (fOrT (fNotT (fTb (fCall 3 f_has_items (fCons (fBin gIx (fVar 3) (fC (.int 1))) (fCons (fC (.int 1)) (fCons (fC (.int 3)) fNil)))))) (fNotT (fTb (fBi gAll (fCons (fComp (fSeq (fBin gIx (fVar 3) (fC (.int 1)))) (.nm 4) [4] fYes (fCall 4 f_is_option (fCons (fVar 0) (fCons (fVar 1) (fCons (fVar 2) (fCons (fVar 4) fNil)))))) fNil))))) (fRet false (fC (.bool false))) fNext)
  (fRet false (fBi gAll (fCons (fComp (fZip (fBin gIx (fVar 3) (fC (.int 1))) (fSl (fBin gIx (fVar 3) (fC (.int 1))) (fPart (fC (.int 1))) fNoP)) (.tp [(.nm 4), (.nm 5)]) [4, 5] fYes (fBin (gO cLt) (fVar 4) (fVar 5))) fNil)))))
def f_is_line : Fn := fnF 6 (b_is_line)
def b_is_house_value : FS := (fThen (fIfS (fOrT (fNotT (fTb (fCall 3 f_has_items (fCons (fVar 0) (fCons (fC (.int 2)) (fCons (fC (.int 2)) fNil)))))) (fOrT (fNotT (fTb (fCall 3 f_is_within (fCons (fBin gIx (fVar 0) (fC (.int 0))) (fCons (fC (.int 2)) (fCons (fC (.int 3)) fNil)))))) (fNotT (fTb (fCall 3 f_has_items (fCons (fBin gIx (fVar 0) (fC (.int 1))) (fCons (fC (.int 1)) (fCons (fC (.int 3)) fNil)))))))) (fRet false (fC (.bool false))) fNext)
  (fThen (fAsg (.tp [(.nm 1), (.nm 2)]) (fVar 0))
  (fThen (fIfS (fNotT (fTb (fBi gAll (fCons (fComp (fSeq (fVar 2)) (.nm 3) [3] fYes (fCall 3 f_has_items (fCons (fVar 3) (fCons (fC (.int 1)) (fCons (fC (.int 3)) fNil))))) fNil)))) (fRet false (fC (.bool false))) fNext)
  (fRet false (fBi gAll (fCons (fComp2 (fSeq (fVar 2)) (.nm 3) [3, 4] fYes (fSeq (fVar 3)) (.nm 4) [4] fYes (fCall 4 f_is_line (fCons (fVar 1) (fCons (fBi gLen (fCons (fVar 2) fNil)) (fCons (fBi gLen (fCons (fVar 3) fNil)) (fCons (fVar 4) fNil)))))) fNil))))))
def f_is_house_value : Fn := fnF 5 (b_is_house_value)
def b_open_options : FS := (fThen (fSet 4 (fBin gIx (fBin gIx (fBin gIx (fBin gIx (fVar 0) (fC (.int 1))) (fVar 1)) (fVar 2)) (fC (.int 1))))
  (fRet false (fComp (fEnum (fVar 4)) (.tp [(.nm 5), (.nm 6)]) [5, 6] (fTb (fBin gIn (fVar 3) (fBin gIx (fVar 6) (fC (.int 0))))) (fVar 5))))
def f_open_options : Fn := fnF 7 (b_open_options)
def b_need_house : FS := (fIfS (fNotT (fTb (fCall 1 f_is_house_value (fCons (fVar 0) fNil)))) (fRaise "InvalidHouse") fNext)
def f_need_house : Fn := fnF 1 (b_need_house)
def b_need_errand : FS := (fIfS (fNotT (fTb (fCall 3 f_is_within (fCons (fVar 1) (fCons (fC (.int 0)) (fCons (fBin gSub (fBi gLen (fCons (fBin gIx (fVar 0) (fC (.int 1))) fNil)) (fC (.int 1))) fNil)))))) (fRaise "InvalidErrand") fNext)
def f_need_errand : Fn := fnF 2 (b_need_errand)
def b_need_begin : FS := (fThen (fDrop (fCall 1 f_need_house (fCons (fVar 0) fNil)))
  (fThen (fDrop (fCall 2 f_need_errand (fCons (fVar 0) (fCons (fVar 1) fNil))))
  (fIfS (fNotT (fTb (fCall 3 f_is_within (fCons (fVar 2) (fCons (fC (.int 0)) (fCons (fBin gSub (fBin gIx (fVar 0) (fC (.int 0))) (fC (.int 1))) fNil)))))) (fRaise "InvalidState") fNext)))
def f_need_begin : Fn := fnF 3 (b_need_begin)
def b__law_deck : FS := (fThen (fIfS (fTb (fBin (gO cGe) (fVar 0) (fBin gPow (fC (.int 10)) (fC (.int 18))))) (fRet true (fLstN (fCons (fBin gSub (fVar 0) (fBin gPow (fC (.int 10)) (fC (.int 18)))) (fCons (fBin gMod (fVar 0) (fC (.int 2147483579))) (fCons (fVar 1) fNil))))) fNext)
  (fRet true (fLstN (fCons (fC (.int 0)) (fCons (fBin gMod (fVar 0) (fC (.int 2147483579))) (fCons (fVar 1) fNil))))))
def f__law_deck : Fn := fnF 2 (b__law_deck)
def b__law_pick : FS := (fThen (fIfS (fTb (fBin (gO cGt) (fBin gIx (fVar 0) (fC (.int 0))) (fC (.int 1)))) (fThen (fSet 2 (fBin gMod (fBi gInt (fCons (fBin gIx (fVar 0) (fC (.int 0))) fNil)) (fVar 1)))
  (fThen (fSt (fBin gFdiv (fBin gIx (fVar 0) (fC (.int 0))) (fVar 1)) (fVar 0) (fC (.int 0)))
  (fRet false (fVar 2)))) fNext)
  (fThen (fSt (fBin gAdd (fBin gIx (fVar 0) (fC (.int 2))) (fC (.int 1))) (fVar 0) (fC (.int 2)))
  (fThen (fSet 3 (fBin gMod (fBin gPow (fBin gAdd (fBin gIx (fVar 0) (fC (.int 1))) (fBin gMul (fC (.int 15485867)) (fBin gIx (fVar 0) (fC (.int 2))))) (fC (.int 5))) (fC (.int 2147483647))))
  (fThen (fSet 2 (fBin gFdiv (fBin gMod (fBin gPow (fBin gAdd (fVar 3) (fBin gMul (fC (.int 7919)) (fBin gIx (fVar 0) (fC (.int 2))))) (fC (.int 3))) (fC (.int 2147483629))) (fC (.int 32))))
  (fRet false (fBin gMod (fBi gInt (fCons (fVar 2) fNil)) (fVar 1)))))))
def f__law_pick : Fn := fnF 4 (b__law_pick)
def b__law_one : FS := (fRet false (fBin gIx (fVar 1) (fCall 2 f__law_pick (fCons (fVar 0) (fCons (fBi gLen (fCons (fVar 1) fNil)) fNil)))))
def f__law_one : Fn := fnF 2 (b__law_one)
def b__law_wish : FS := (fThen (fSet 2 (fCall 2 f__law_pick (fCons (fVar 0) (fCons (fVar 1) fNil))))
  (fRet false (fBi gTuple (fCons (fComp (fRng1 (fVar 1)) (.nm 3) [3] (fOrT (fTb (fBin gEq (fVar 3) (fVar 2))) (fTb (fBin gEq (fCall 2 f__law_pick (fCons (fVar 0) (fCons (fC (.int 3)) fNil))) (fC (.int 0))))) (fVar 3)) fNil))))
def f__law_wish : Fn := fnF 4 (b__law_wish)
def b__law_option : FS := (fThen (fSet 5 (fIf (fTb (fBin (gO cGt) (fCall 2 f__law_pick (fCons (fVar 0) (fCons (fC (.int 3)) fNil))) (fC (.int 0)))) (fTupR (fVar 1)) (fCall 2 f__law_wish (fCons (fVar 0) (fCons (fVar 1) fNil)))))
  (fThen (fSet 6 (fIf (fTb (fBin gEq (fCall 2 f__law_pick (fCons (fVar 0) (fCons (fC (.int 3)) fNil))) (fC (.int 0)))) (fCall 2 f__law_pick (fCons (fVar 0) (fCons (fVar 2) fNil))) (fC (.int (-1)))))
  (fThen (fSet 7 (fIf (fTb (fBin (gO cGt) (fCall 2 f__law_pick (fCons (fVar 0) (fCons (fC (.int 5)) fNil))) (fC (.int 0)))) (fBin gAdd (fBin gAdd (fVar 4) (fC (.int 1))) (fCall 2 f__law_pick (fCons (fVar 0) (fCons (fBin gSub (fVar 3) (fVar 4)) fNil)))) (fCall 2 f__law_pick (fCons (fVar 0) (fCons (fBin gAdd (fVar 3) (fC (.int 1))) fNil)))))
  (fRet false (fTup (fCons (fVar 5) (fCons (fVar 6) (fCons (fCall 2 f__law_pick (fCons (fVar 0) (fCons (fVar 1) fNil))) (fCons (fVar 7) fNil)))))))))
def f__law_option : Fn := fnF 8 (b__law_option)
def b__law_line : FS := (fThen (fSet 5 (fComp (fRng1 (fBin gAdd (fC (.int 1)) (fCall 2 f__law_pick (fCons (fVar 0) (fCons (fC (.int 3)) fNil))))) (.nm 6) [6] fYes (fCall 5 f__law_option (fCons (fVar 0) (fCons (fVar 1) (fCons (fVar 2) (fCons (fVar 3) (fCons (fVar 4) fNil))))))))
  (fRet false (fTup (fCons (fCall 2 f__law_one (fCons (fVar 0) (fCons (fLst (fCons (fC (.str "me")) (fCons (fC (.str "they")) fNil))) fNil))) (fCons (fBi gTuple (fCons (fSortedSet (fVar 5)) fNil)) fNil)))))
def f__law_line : Fn := fnF 7 (b__law_line)
def b__law_house : FS := (fThen (fAsg (.tp [(.nm 3), (.nm 4)]) (fTup (fCons (fBin gAdd (fC (.int 2)) (fCall 2 f__law_pick (fCons (fVar 0) (fCons (fC (.int 2)) fNil)))) (fCons (fBin gAdd (fC (.int 1)) (fCall 2 f__law_pick (fCons (fVar 0) (fCons (fVar 1) fNil)))) fNil))))
  (fThen (fSet 5 (fTup fNil))
  (fThen (fFor (fRng1 (fVar 4)) (.nm 6) (fThen (fSet 7 (fBin gAdd (fC (.int 1)) (fCall 2 f__law_pick (fCons (fVar 0) (fCons (fVar 2) fNil)))))
  (fSet 5 (fBin gAdd (fVar 5) (fTup (fCons (fBi gTuple (fCons (fComp (fRng1 (fVar 7)) (.nm 8) [8] fYes (fCall 5 f__law_line (fCons (fVar 0) (fCons (fVar 3) (fCons (fVar 4) (fCons (fVar 7) (fCons (fVar 8) fNil))))))) fNil)) fNil))))))
  (fRet false (fTup (fCons (fVar 3) (fCons (fVar 5) fNil)))))))
def f__law_house : Fn := fnF 9 (b__law_house)
def g_MOST_STEPS : PyData := .int 100
end Wy
set_option Elab.async false
set_option linter.all false
set_option maxRecDepth 100000
set_option maxHeartbeats 4000000
/-! M0: what the combinators come to; walks. -/
namespace Wy
open PySem PySem.Spec PyProof.Rows L2
section
variable {α β : Type}
@[simp] theorem bind_ok (a : α) (m : Mu) (f : α → Mu → R β) : (R.ok a m).bind f = f a m := rfl
@[simp] theorem bind_exn (x : Xn) (m : Mu) (f : α → Mu → R β) : (R.exn x m : R α).bind f = .exn x m := rfl
@[simp] theorem bind_bad (f : α → Mu → R β) : (R.bad : R α).bind f = .bad := rfl
@[simp] theorem toS_ok (a : α) (m : Mu) (f : α → Mu → SR) : (R.ok a m).toS f = f a m := rfl
@[simp] theorem nx_ok (a : α) (m : Mu) : (R.ok a m).nx = .ok a m := rfl
@[simp] theorem then_next (r : Rh) (m : Mu) (f : FS) : (SR.next r m).andThen f = f r m := rfl
@[simp] theorem then_ret (k : Bool) (w : W) (m : Mu) (f : FS) : (SR.ret k w m).andThen f = .ret k w m := rfl
/-- by a truth value -/
def onB (w : W) (k : Bool → R β) : R β := match w with
  | .d (.bool b) => k b
  | _ => .bad
@[simp] theorem onB_d (b : Bool) (k : Bool → R β) : onB (.d (.bool b)) k = k b := rfl
end
section
variable {r : Rh} {m : Mu} {fa fb fc f : FE} {ta : FT}
theorem fTb_eq : fTb f r m = (f r m).bind fun w m1 => onB w fun k => .ok k m1 := by
  unfold fTb onB
  congr 1
theorem fChain_eq {g g' : W → W → Mu → R W} : fChain g g' fa fb fc r m = (fa r m).bind fun a m1 => (fb r m1).bind fun b m2 => (g a b m2).bind fun k m3 => onB k fun k => bif k then (fc r m3).bind fun c m4 => g' b c m4 else .ok (.d (.bool false)) m3 := by
  unfold fChain onB
  congr 1
  funext a m1
  congr 1
  funext b m2
  congr 1
  funext k m3
  (cases k with
    | d x => cases x with
      | bool b => cases b <;> rfl
      | _ => rfl
    | _ => rfl)
theorem fAndV_eq : fAndV fa fb r m = (fa r m).bind fun w m1 => onB w fun k => bif k then fb r m1 else .ok (.d (.bool false)) m1 := by
  unfold fAndV onB
  congr 1
  funext a m1
  (cases a with
    | d x => cases x with
      | bool b => cases b <;> rfl
      | _ => rfl
    | _ => rfl)
theorem fOrV_eq : fOrV fa fb r m = (fa r m).bind fun w m1 => onB w fun k => bif k then .ok (.d (.bool true)) m1 else fb r m1 := by
  unfold fOrV onB
  congr 1
  funext a m1
  (cases a with
    | d x => cases x with
      | bool b => cases b <;> rfl
      | _ => rfl
    | _ => rfl)
theorem fNotV_eq : fNotV fa r m = (fa r m).bind fun w m1 => onB w fun k => .ok (.d (.bool (!k))) m1 := by
  unfold fNotV onB
  congr 1
theorem fIfS_eq {f g : FS} : fIfS ta f g r m = (ta r m).toS fun k m1 => bif k then f r m1 else g r m1 := by
  unfold fIfS
  congr 1
@[simp] theorem cond_ok {b : Bool} {x y : W} {m : Mu} : (bif b then R.ok x m else R.ok y m) = R.ok (bif b then x else y) m := by cases b <;> rfl
@[simp] theorem cond_bl {b x y : Bool} : (bif b then W.d (.bool x) else W.d (.bool y)) = W.d (.bool (bif b then x else y)) := by cases b <;> rfl
end
theorem fnF_ret {n : Nat} {fs : FS} {ws : List W} {m : Mu} {x : PyData} (h : fs (startR n ws) m = .ret false (.d x) m) : fnF n fs ws m = .ok (.d x) m := by
  unfold fnF
  rw [h]
  simp [finW, frzW]
theorem fnF_next {n : Nat} {fs : FS} {ws : List W} {m : Mu} {r : Rh} (h : fs (startR n ws) m = .next r m) : fnF n fs ws m = .ok (.d .none) m := by
  unfold fnF
  rw [h]
  simp
@[simp] theorem lt_i (a b : Int) : pLt (.int a) (.int b) = decide (a < b) := rfl
theorem nlt (a b : Int) : (!decide (a < b)) = decide (b ≤ a) := by
  by_cases h : a < b
  · rw [decide_eq_true h, decide_eq_false (by omega)]; rfl
  · rw [decide_eq_false h, decide_eq_true (by omega)]; rfl
/-! ### operations at hand -/
section
variable {m : Mu} {i j : Int}
@[simp] theorem e_lt : gO cLt (.d (.int i)) (.d (.int j)) m = .ok (.d (.bool (decide (i < j)))) m := rfl
@[simp] theorem e_gt : gO cGt (.d (.int i)) (.d (.int j)) m = .ok (.d (.bool (decide (j < i)))) m := rfl
@[simp] theorem e_le : gO cLe (.d (.int i)) (.d (.int j)) m = .ok (.d (.bool (decide (i ≤ j)))) m := by rw [← nlt]; rfl
@[simp] theorem e_ge : gO cGe (.d (.int i)) (.d (.int j)) m = .ok (.d (.bool (decide (j ≤ i)))) m := by rw [← nlt]; rfl
@[simp] theorem e_add : gAdd (.d (.int i)) (.d (.int j)) m = .ok (.d (.int (i + j))) m := rfl
@[simp] theorem e_sub : gSub (.d (.int i)) (.d (.int j)) m = .ok (.d (.int (i - j))) m := rfl
theorem e_mod (h : 0 < j) : gMod (.d (.int i)) (.d (.int j)) m = .ok (.d (.int (i % j))) m := by
  show (if cMod i j = true then _ else _) = _
  rw [if_pos (show cMod i j = true from decide_eq_true h)]
theorem e_fdiv (h : 0 < j) (h2 : j < 1073741824) : gFdiv (.d (.int i)) (.d (.int j)) m = .ok (.d (.int (i / j))) m := by
  show (if cDiv i j = true then _ else _) = _
  rw [if_pos (show cDiv i j = true from decide_eq_true ⟨h, h2⟩)]
theorem e_pow (h : 0 ≤ j) (h2 : j ≤ 1000000) (h3 : i.natAbs < 2 ^ 64) : gPow (.d (.int i)) (.d (.int j)) m = .ok (.d (.int (i ^ j.toNat))) m := by
  show (if cPow i j = true then _ else _) = _
  rw [if_pos (show cPow i j = true from decide_eq_true ⟨h, h2, h3⟩)]
theorem e_mul (h : -(2 ^ 64) < i) (h2 : i < 2 ^ 64) : gMul (.d (.int i)) (.d (.int j)) m = .ok (.d (.int (i * j))) m := by
  show (if cMul i j = true then _ else _) = _
  rw [if_pos (show cMul i j = true from Bool.or_eq_true_iff.mpr (.inl (decide_eq_true ⟨h, h2⟩)))]
@[simp] theorem e_int : gInt [.d (.int i)] m = .ok (.d (.int i)) m := rfl
theorem atN {α : Type} {xs : List α} {n : Nat} {x : α} (h : xs[n]? = some x) : atI xs (n : Int) = some x := by
  have l := (List.getElem?_eq_some_iff.mp h).1
  unfold atI ixN
  rw [if_pos (Int.natCast_nonneg n), if_pos (by omega)]
  simpa using h
@[simp] theorem at0 {α : Type} {x : α} {xs : List α} : atI (x :: xs) 0 = some x := atN (n := 0) rfl
@[simp] theorem at1 {α : Type} {x y : α} {xs : List α} : atI (x :: y :: xs) 1 = some y := atN (n := 1) rfl
@[simp] theorem at2 {α : Type} {x y z : α} {xs : List α} : atI (x :: y :: z :: xs) 2 = some z := atN (n := 2) rfl
@[simp] theorem at3 {α : Type} {x y z u : α} {xs : List α} : atI (x :: y :: z :: u :: xs) 3 = some u := atN (n := 3) rfl
theorem ix_loc {n : Nat} {ds : List PyData} {x : PyData} (h : m[n]? = some (.lst ds)) (h2 : atI ds i = some x) : gIx (.loc n) (.d (.int i)) m = .ok (.d x) m := by
  simp [gIx, on2, dr, h, pIx, h2]
theorem ix_tup {ds : List PyData} {x : PyData} (h2 : atI ds i = some x) : gIx (.d (.tuple ds)) (.d (.int i)) m = .ok (.d x) m := by
  simp [gIx, on2, dr, pIx, h2]
theorem ix_lst {ds : List PyData} {x : PyData} (h2 : atI ds i = some x) : gIx (.d (.list ds)) (.d (.int i)) m = .ok (.d x) m := by
  simp [gIx, on2, dr, pIx, h2]
@[simp] theorem tup0 {x : PyData} {xs : List PyData} : gIx (.d (.tuple (x :: xs))) (.d (.int 0)) m = .ok (.d x) m := ix_tup at0
@[simp] theorem tup1 {x y : PyData} {xs : List PyData} : gIx (.d (.tuple (x :: y :: xs))) (.d (.int 1)) m = .ok (.d y) m := ix_tup at1
@[simp] theorem tup2 {x y z : PyData} {xs : List PyData} : gIx (.d (.tuple (x :: y :: z :: xs))) (.d (.int 2)) m = .ok (.d z) m := ix_tup at2
@[simp] theorem tup3 {x y z u : PyData} {xs : List PyData} : gIx (.d (.tuple (x :: y :: z :: u :: xs))) (.d (.int 3)) m = .ok (.d u) m := ix_tup at3
@[simp] theorem len_tup {ds : List PyData} : gLen [.d (.tuple ds)] m = .ok (.d (.int ds.length)) m := rfl
@[simp] theorem len_lst {ds : List PyData} : gLen [.d (.list ds)] m = .ok (.d (.int ds.length)) m := rfl
@[simp] theorem len_dct {ds : List (PyData × PyData)} : gLen [.d (.dict ds)] m = .ok (.d (.int ds.length)) m := rfl
theorem st_loc {n : Nat} {ds : List PyData} {t : Nat} {y : PyData} (h : m[n]? = some (.lst ds)) (h2 : ixN ds.length i = some t) : stW (.loc n) (.d (.int i)) (.d y) m = some (m.set n (.lst (ds.set t y))) := by
  simp [stW, h, h2]
end
section
variable {m : Mu}
@[simp] theorem ty_int {i : Int} : tyOf m (.d (.int i)) = some "int" := rfl
@[simp] theorem ty_bool {i : Bool} : tyOf m (.d (.bool i)) = some "bool" := rfl
@[simp] theorem ty_str {i : Str} : tyOf m (.d (.str i)) = some "str" := rfl
@[simp] theorem ty_tup {i : List PyData} : tyOf m (.d (.tuple i)) = some "tuple" := rfl
@[simp] theorem ty_lst {i : List PyData} : tyOf m (.d (.list i)) = some "list" := rfl
@[simp] theorem ty_non : tyOf m (.d .none) = some "NoneType" := rfl
@[simp] theorem ty_wt {ws : List W} : tyOf m (.wt ws) = some "tuple" := rfl
end
@[simp] theorem allD_nil : allD [] = some [] := rfl
@[simp] theorem allD_d {x : PyData} {r : List W} : allD (.d x :: r) = (allD r).map (x :: ·) := rfl
/-! ### walks -/
section
variable {β : Type} {asg : W → Option Rh} {ft : FT} {fe : FE} {m : Mu}
theorem comp_of (e : β → W) (p : β → Bool) (g : β → PyData) : ∀ (xs : List β) (acc : List PyData), (∀ x ∈ xs, ∃ r2, asg (e x) = some r2 ∧ ft r2 m = .ok (p x) m ∧ (p x = true → fe r2 m = .ok (.d (g x)) m)) → acc.length + xs.length ≤ 1000000 →
    compF none asg (elemF ft fe) (xs.map e) acc m = .ok (acc ++ (xs.filter p).map g) m
  | [], acc, _, _ => by simp [compF, stands]
  | x :: xs, acc, h, hl => by
    obtain ⟨r2, h1, h2, h3⟩ := h x List.mem_cons_self
    rw [List.map_cons, compF]
    simp only [stands, if_true, h1]
    have hl' : acc.length < 1000000 := by simp at hl; omega
    cases hp : p x with
    | false =>
      have e1 : elemF ft fe r2 acc m = .ok acc m := by simp [elemF, h2, hp]
      rw [e1, bind_ok, comp_of e p g xs acc (fun y hy => h y (List.mem_cons_of_mem _ hy)) (by simp at hl; omega)]
      simp [hp]
    | true =>
      have e1 : elemF ft fe r2 acc m = .ok (acc ++ [g x]) m := by simp [elemF, h2, hp, h3 hp, hl']
      rw [e1, bind_ok, comp_of e p g xs (acc ++ [g x]) (fun y hy => h y (List.mem_cons_of_mem _ hy)) (by simp at hl ⊢; omega)]
      simp [hp]
/-- a walk that may change the store -/
theorem comp_inv {body : Rh → List PyData → Mu → R (List PyData)} (e : β → W) (I : List β → List PyData → Mu → Prop) : ∀ (xs : List β) (acc : List PyData) (m : Mu), I xs acc m →
    (∀ x xs acc m, I (x :: xs) acc m → ∃ r2, asg (e x) = some r2 ∧ ∃ acc' m', body r2 acc m = .ok acc' m' ∧ I xs acc' m') → ∃ acc' m', compF none asg body (xs.map e) acc m = .ok acc' m' ∧ I [] acc' m'
  | [], acc, m, h, _ => ⟨acc, m, by simp [compF, stands], h⟩
  | x :: xs, acc, m, h, st => by
    obtain ⟨r2, h1, acc1, m1, h2, h3⟩ := st x xs acc m h
    obtain ⟨acc2, m2, h4, h5⟩ := comp_inv e I xs acc1 m1 h3 st
    refine ⟨acc2, m2, ?_, h5⟩
    rw [List.map_cons, compF]
    simp only [stands, if_true, h1, h2, bind_ok]
    exact h4
theorem for_inv {pt : Pat} {fb : FS} (e : β → W) (I : List β → Rh → Mu → Prop) : ∀ (xs : List β) (r : Rh) (m : Mu), I xs r m →
    (∀ x xs r m, I (x :: xs) r m → ∃ r2, patF pt (e x) r = some r2 ∧ ∃ r3 m3, (fb r2 m = .next r3 m3 ∨ fb r2 m = .cnt r3 m3) ∧ I xs r3 m3) → ∃ r' m', forF none pt fb (xs.map e) r m = .next r' m' ∧ I [] r' m'
  | [], r, m, h, _ => ⟨r, m, by simp [forF, stands], h⟩
  | x :: xs, r, m, h, st => by
    obtain ⟨r2, h1, r3, m3, h2, h3⟩ := st x xs r m h
    obtain ⟨r4, m4, h4, h5⟩ := for_inv e I xs r3 m3 h3 st
    refine ⟨r4, m4, ?_, h5⟩
    rw [List.map_cons, forF]
    simp only [stands, if_true, h1]
    rcases h2 with h2 | h2 <;> (rw [h2]; exact h4)
end
/-! ### the checks -/
theorem v_is_within (v lo hi : Int) (m : Mu) : f_is_within [.d (.int v), .d (.int lo), .d (.int hi)] m = .ok (.d (.bool (decide (lo ≤ v) && decide (v ≤ hi)))) m := by
  refine fnF_ret ?_
  unfold b_is_within
  simp [fVar, fC, fNil, fCons, fTup, fLst, fLstN, fBin, fChain_eq, fTb_eq, fAndT, fOrT, fNotT, fAndV_eq, fOrV_eq, fNotV_eq, fIf, fIsN, fNotN, fIsi, fCall, fBi, fRet, fSet, fAsg, fPar, fPar3, fIfS_eq, fThen, fDrop, fNext, fSt, startR, subTy, kBl, mkT]
  try trace_state
  try (cases decide (lo ≤ v) <;> rfl)
theorem v_has_items (ds : List PyData) (lo hi : Int) (m : Mu) : f_has_items [.d (.tuple ds), .d (.int lo), .d (.int hi)] m = .ok (.d (.bool (decide (lo ≤ ds.length) && decide ((ds.length : Int) ≤ hi)))) m := by
  refine fnF_ret ?_
  unfold b_has_items
  simp [fVar, fC, fNil, fCons, fTup, fLst, fLstN, fBin, fChain_eq, fTb_eq, fAndT, fOrT, fNotT, fAndV_eq, fOrV_eq, fNotV_eq, fIf, fIsN, fNotN, fIsi, fCall, fBi, fRet, fSet, fAsg, fPar, fPar3, fIfS_eq, fThen, fDrop, fNext, fSt, startR, subTy, kBl, mkT]
  try trace_state
  try (cases decide (lo ≤ (ds.length : Int)) <;> rfl)
end Wy
set_option Elab.async false
set_option linter.all false
set_option maxRecDepth 100000
set_option maxHeartbeats 4000000
/-! M1: the deck. -/
namespace Wy
open PySem PySem.Spec PyProof.Rows L2
abbrev deckO (d0 d1 d2 : Int) : Ob := .lst [.int d0, .int d1, .int d2]
/-- the deck at n -/
structure Dk (m : Mu) (n : Nat) (b : Int) : Prop where
  ex : ∃ d0 d1 d2, m[n]? = some (deckO d0 d1 d2) ∧ 0 ≤ d1 ∧ d1 < 2147483648 ∧ 0 ≤ d2 ∧ d2 ≤ b
theorem fnF_retM {n : Nat} {fs : FS} {ws : List W} {m m' : Mu} {x : PyData} (h : fs (startR n ws) m = .ret false (.d x) m') (l : m'.length = m.length) : fnF n fs ws m = .ok (.d x) m' := by
  unfold fnF
  rw [h]
  simp [finW, frzW, ← l]
theorem v_pick {m : Mu} {n : Nat} {b s : Int} (h : Dk m n b) (hb : b ≤ 1073741824) (h1 : 1 ≤ s) (h2 : s ≤ 1000000) :
    ∃ v o, f__law_pick [.loc n, .d (.int s)] m = .ok (.d (.int v)) (m.set n o) ∧ 0 ≤ v ∧ v < s ∧ Dk (m.set n o) n (b + 1) := by
  obtain ⟨d0, d1, d2, hm, a1, a2, a3, a4⟩ := h.ex
  have hn : n < m.length := (List.getElem?_eq_some_iff.mp hm).1
  by_cases c : 1 < d0
  · refine ⟨d0 % s, deckO (d0 / s) d1 d2, fnF_retM ?_ (by simp), Int.emod_nonneg _ (by omega), Int.emod_lt_of_pos _ (by omega), ⟨d0 / s, d1, d2, by simp [hn], a1, a2, a3, by omega⟩⟩
    have e0 : gIx (.loc n) (.d (.int 0)) m = .ok (.d (.int d0)) m := ix_loc hm at0
    have e1 : gMod (.d (.int d0)) (.d (.int s)) m = .ok (.d (.int (d0 % s))) m := e_mod (by omega)
    have e2 : gFdiv (.d (.int d0)) (.d (.int s)) m = .ok (.d (.int (d0 / s))) m := e_fdiv (by omega) (by omega)
    have e3 : stW (.loc n) (.d (.int 0)) (.d (.int (d0 / s))) m = some (m.set n (deckO (d0 / s) d1 d2)) := st_loc hm (t := 0) rfl
    unfold b__law_pick
    simp [fVar, fC, fNil, fCons, fTup, fLst, fLstN, fBin, fChain_eq, fTb_eq, fAndT, fOrT, fNotT, fAndV_eq, fOrV_eq, fNotV_eq, fIf, fIsN, fNotN, fIsi, fCall, fBi, fRet, fSet, fAsg, fPar, fPar3, fIfS_eq, fThen, fDrop, fNext, fSt, startR, subTy, kBl, mkT, e0, e1, e2, e3, c]
  · have z0 : 0 ≤ d1 + 15485867 * (d2 + 1) := by omega
    have z1 : (d1 + 15485867 * (d2 + 1)).natAbs < 2 ^ 64 := by omega
    let nu := (d1 + 15485867 * (d2 + 1)) ^ 5 % 2147483647
    have nu0 : 0 ≤ nu := Int.emod_nonneg _ (by decide)
    have nu1 : nu < 2147483647 := Int.emod_lt_of_pos _ (by decide)
    have z2 : (nu + 7919 * (d2 + 1)).natAbs < 2 ^ 64 := by omega
    let fo := (nu + 7919 * (d2 + 1)) ^ 3 % 2147483629 / 32
    refine ⟨fo % s, deckO d0 d1 (d2 + 1), fnF_retM ?_ (by simp), Int.emod_nonneg _ (by omega), Int.emod_lt_of_pos _ (by omega), ⟨d0, d1, d2 + 1, by simp [hn], a1, a2, by omega, by omega⟩⟩
    have hm' : (m.set n (deckO d0 d1 (d2 + 1)))[n]? = some (deckO d0 d1 (d2 + 1)) := by simp [hn]
    have e0 : gIx (.loc n) (.d (.int 0)) m = .ok (.d (.int d0)) m := ix_loc hm at0
    have e2 : gIx (.loc n) (.d (.int 2)) m = .ok (.d (.int d2)) m := ix_loc hm at2
    have e3 : stW (.loc n) (.d (.int 2)) (.d (.int (d2 + 1))) m = some (m.set n (deckO d0 d1 (d2 + 1))) := st_loc hm (t := 2) rfl
    generalize m.set n (deckO d0 d1 (d2 + 1)) = m' at hm' e3 ⊢
    have e4 : gIx (.loc n) (.d (.int 1)) m' = .ok (.d (.int d1)) m' := ix_loc hm' at1
    have e5 : gIx (.loc n) (.d (.int 2)) m' = .ok (.d (.int (d2 + 1))) m' := ix_loc hm' at2
    have e6 : gMul (.d (.int 15485867)) (.d (.int (d2 + 1))) m' = .ok (.d (.int (15485867 * (d2 + 1)))) m' := e_mul (by decide) (by decide)
    have e7 : gPow (.d (.int (d1 + 15485867 * (d2 + 1)))) (.d (.int 5)) m' = .ok (.d (.int ((d1 + 15485867 * (d2 + 1)) ^ 5))) m' := e_pow (by decide) (by decide) z1
    have e8 : gMod (.d (.int ((d1 + 15485867 * (d2 + 1)) ^ 5))) (.d (.int 2147483647)) m' = .ok (.d (.int nu)) m' := e_mod (by decide)
    have e9 : gMul (.d (.int 7919)) (.d (.int (d2 + 1))) m' = .ok (.d (.int (7919 * (d2 + 1)))) m' := e_mul (by decide) (by decide)
    have e10 : gPow (.d (.int (nu + 7919 * (d2 + 1)))) (.d (.int 3)) m' = .ok (.d (.int ((nu + 7919 * (d2 + 1)) ^ 3))) m' := e_pow (by decide) (by decide) z2
    have e11 : gMod (.d (.int ((nu + 7919 * (d2 + 1)) ^ 3))) (.d (.int 2147483629)) m' = .ok (.d (.int ((nu + 7919 * (d2 + 1)) ^ 3 % 2147483629))) m' := e_mod (by decide)
    have e12 : gFdiv (.d (.int ((nu + 7919 * (d2 + 1)) ^ 3 % 2147483629))) (.d (.int 32)) m' = .ok (.d (.int fo)) m' := e_fdiv (by decide) (by decide)
    have e13 : gMod (.d (.int fo)) (.d (.int s)) m' = .ok (.d (.int (fo % s))) m' := e_mod (by omega)
    unfold b__law_pick
    simp [fVar, fC, fNil, fCons, fTup, fLst, fLstN, fBin, fChain_eq, fTb_eq, fAndT, fOrT, fNotT, fAndV_eq, fOrV_eq, fNotV_eq, fIf, fIsN, fNotN, fIsi, fCall, fBi, fRet, fSet, fAsg, fPar, fPar3, fIfS_eq, fThen, fDrop, fNext, fSt, startR, subTy, kBl, mkT, e0, e2, e3, e4, e5, e6, e7, e8, e9, e10, e11, e12, e13, c]
end Wy
set_option Elab.async false
set_option linter.all false
set_option maxRecDepth 100000
set_option maxHeartbeats 4000000
/-! M2: wishes, options, lines, houses that the law draws. -/
namespace Wy
open PySem PySem.Spec PyProof.Rows L2 PySem.W
/-- m is m0 but for the deck at n -/
structure Dm (m0 m : Mu) (n : Nat) (b : Int) : Prop where
  ch : ∃ o, m = m0.set n o
  dk : Dk m n b
theorem Dm.mono {m0 m : Mu} {n : Nat} {b b' : Int} (h : Dm m0 m n b) (l : b ≤ b') : Dm m0 m n b' := by
  obtain ⟨d0, d1, d2, e, a1, a2, a3, a4⟩ := h.dk.ex
  exact ⟨h.ch, ⟨d0, d1, d2, e, a1, a2, a3, by omega⟩⟩
theorem Dm.len {m0 m : Mu} {n : Nat} {b : Int} (h : Dm m0 m n b) : m.length = m0.length := by
  obtain ⟨o, rfl⟩ := h.ch
  simp
theorem Dm.self {m : Mu} {n : Nat} {b : Int} (h : Dk m n b) : Dm m m n b := by
  refine ⟨?_, h⟩
  obtain ⟨d0, d1, d2, e, _⟩ := h.ex
  refine ⟨_, (List.set_getElem_self (i := n) (List.getElem?_eq_some_iff.mp e).1).symm⟩
theorem Dm.trans {m0 m m' : Mu} {n : Nat} {b b' : Int} (h : Dm m0 m n b) (h' : Dm m m' n b') : Dm m0 m' n b' := by
  obtain ⟨o, rfl⟩ := h.ch
  obtain ⟨o', rfl⟩ := h'.ch
  exact ⟨⟨o', by simp⟩, h'.dk⟩
theorem pickD {m0 m : Mu} {n : Nat} {b s : Int} (h : Dm m0 m n b) (hb : b ≤ 1073741824) (h1 : 1 ≤ s) (h2 : s ≤ 1000000) :
    ∃ v m', f__law_pick [.loc n, .d (.int s)] m = .ok (.d (.int v)) m' ∧ 0 ≤ v ∧ v < s ∧ Dm m0 m' n (b + 1) := by
  obtain ⟨v, o, e, a1, a2, a3⟩ := v_pick h.dk hb h1 h2
  exact ⟨v, _, e, a1, a2, h.trans ⟨⟨o, rfl⟩, a3⟩⟩
/-- some of the states 0 .. k - 1, rising -/
structure Wish (k : Int) (ns : List Int) : Prop where
  ne : ns ≠ []
  up : ns.Pairwise (· < ·)
  bd : ∀ x ∈ ns, 0 ≤ x ∧ x < k
abbrev dI (ns : List Int) : List PyData := ns.map PyData.int
@[simp] theorem e_eqI {i j : Int} {m : Mu} : gEq (.d (.int i)) (.d (.int j)) m = .ok (.d (.bool (i == j))) m := rfl
@[simp] theorem e_neI {i j : Int} {m : Mu} : gNe (.d (.int i)) (.d (.int j)) m = .ok (.d (.bool (!(i == j)))) m := rfl
@[simp] theorem e_tupL {ds : List PyData} {m : Mu} : gTuple [.d (.list ds)] m = .ok (.d (.tuple ds)) m := rfl
theorem range_items (k : Int) : rangeW 0 k.toNat = (List.range k.toNat).map fun i : Nat => W.d (.int (i : Int)) := by
  unfold rangeW
  exact List.map_congr_left fun i _ => by rw [Int.zero_add]
theorem rng1 {f : FE} {r : Rh} {m m' : Mu} {k : Int} (h : f r m = .ok (.d (.int k)) m') (h1 : 0 ≤ k) (h2 : k ≤ 1000000) : fRng1 f r m = .ok ⟨(List.range k.toNat).map fun i : Nat => W.d (.int (i : Int)), none⟩ m' := by
  unfold fRng1
  rw [h, bind_ok, ← range_items]
  show (if -(2 ^ 62) ≤ k ∧ k < 2 ^ 62 then _ else _) = _
  rw [if_pos (by omega)]
theorem v_wish {m0 m : Mu} {n : Nat} {b k : Int} (D : Dm m0 m n b) (hb : b ≤ 1000000000) (h1 : 1 ≤ k) (h2 : k ≤ 1000) :
    ∃ ns m', f__law_wish [.loc n, .d (.int k)] m = .ok (.d (.tuple (dI ns))) m' ∧ Wish k ns ∧ Dm m0 m' n (b + 1 + k) := by
  obtain ⟨f, m1, e1, a1, a2, D1⟩ := pickD D (by omega) h1 (by omega)
  obtain ⟨acc, m2, hc, ns, rfl, up, bd, hin, D2⟩ := comp_inv (asg := fun w => patF (.nm 3) w [some (.loc n), some (.d (.int k)), some (.d (.int f)), none])
    (body := elemF (fOrT (fTb (fBin gEq (fVar 3) (fVar 2))) (fTb (fBin gEq (fCall 2 f__law_pick (fCons (fVar 0) (fCons (fC (.int 3)) fNil))) (fC (.int 0))))) (fVar 3)) (fun i : Nat => W.d (.int (i : Int)))
    (fun rest acc m => ∃ ns : List Int, acc = dI ns ∧ ns.Pairwise (· < ·) ∧ (∀ x ∈ ns, (0 ≤ x ∧ x < k) ∧ ∀ y ∈ rest, x < (y : Int)) ∧ (f ∈ ns ∨ ∃ y ∈ rest, (y : Int) = f) ∧ rest.Pairwise (· < ·) ∧ (∀ y ∈ rest, (y : Int) < k) ∧ ns.length + rest.length ≤ 1000 ∧ Dm m0 m n (b + 1 + (k - rest.length)))
    (List.range k.toNat) [] m1 ⟨[], rfl, .nil, fun x h => (by cases h), .inr ⟨f.toNat, by simp; omega, by omega⟩, List.pairwise_lt_range, fun y h => (by have := List.mem_range.mp h; omega), by simp; omega, by simp only [List.length_range]; exact D1.mono (by omega)⟩
    (fun x xs acc m ⟨ns, ea, up, bd, hf, rs, rb, hl, D⟩ => by
      subst ea
      refine ⟨[some (.loc n), some (.d (.int k)), some (.d (.int f)), some (.d (.int (x : Int)))], rfl, ?_⟩
      have hxk : (x : Int) < k := rb x List.mem_cons_self
      have hx : ∀ y ∈ ns, y < (x : Int) := fun y hy => (bd y hy).2 x List.mem_cons_self
      have upx : (ns ++ [(x : Int)]).Pairwise (· < ·) := List.pairwise_append.mpr ⟨up, by simp, fun y hy z hz => by rw [List.mem_singleton.mp hz]; exact hx y hy⟩
      have bdx : ∀ z ∈ ns ++ [(x : Int)], (0 ≤ z ∧ z < k) ∧ ∀ y ∈ xs, z < (y : Int) := fun z hz => by
        rcases List.mem_append.mp hz with hz | hz
        · exact ⟨(bd z hz).1, fun y hy => (bd z hz).2 y (List.mem_cons_of_mem _ hy)⟩
        · rw [List.mem_singleton.mp hz]
          refine ⟨⟨by omega, hxk⟩, fun y hy => ?_⟩
          have := (List.pairwise_cons.mp rs).1 y hy
          omega
      have rs' := (List.pairwise_cons.mp rs).2
      have rb' : ∀ y ∈ xs, (y : Int) < k := fun y hy => rb y (List.mem_cons_of_mem _ hy)
      have hln : (dI ns).length < 1000000 := by
        simp only [List.length_map, List.length_cons] at hl ⊢
        omega
      have hlc : ((x :: xs).length : Int) = xs.length + 1 := by simp
      by_cases c : (x : Int) = f
      · refine ⟨dI (ns ++ [(x : Int)]), m, ?_, ns ++ [(x : Int)], rfl, upx, bdx, .inl (by simp [c]), rs', rb', by simp at hl ⊢; omega, D.mono (by omega)⟩
        unfold elemF
        simp [fVar, fC, fNil, fCons, fTup, fLst, fLstN, fBin, fChain_eq, fTb_eq, fAndT, fOrT, fNotT, fAndV_eq, fOrV_eq, fNotV_eq, fIf, fIsN, fNotN, fIsi, fCall, fBi, fRet, fSet, fAsg, fPar, fPar3, fIfS_eq, fThen, fDrop, fNext, fSt, startR, subTy, kBl, mkT, c]
        simpa using hln
      · have hbk : b + 1 + (k - ((x :: xs).length : Int)) ≤ 1073741824 := by omega
        obtain ⟨v, m', e, v1, v2, D'⟩ := pickD D hbk (s := 3) (by omega) (by omega)
        have ftv : ∀ q, elemF (fOrT (fTb (fBin gEq (fVar 3) (fVar 2))) (fTb (fBin gEq (fCall 2 f__law_pick (fCons (fVar 0) (fCons (fC (.int 3)) fNil))) (fC (.int 0))))) (fVar 3) [some (.loc n), some (.d (.int k)), some (.d (.int f)), some (.d (.int (x : Int)))] q m = (if v = 0 then (if q.length < 1000000 then .ok (q ++ [.int (x : Int)]) m' else .bad) else .ok q m') := fun q => by
          unfold elemF
          simp [fVar, fC, fNil, fCons, fTup, fLst, fLstN, fBin, fChain_eq, fTb_eq, fAndT, fOrT, fNotT, fAndV_eq, fOrV_eq, fNotV_eq, fIf, fIsN, fNotN, fIsi, fCall, fBi, fRet, fSet, fAsg, fPar, fPar3, fIfS_eq, fThen, fDrop, fNext, fSt, startR, subTy, kBl, mkT, c, e]
        by_cases c2 : v = 0
        · refine ⟨dI (ns ++ [(x : Int)]), m', ?_, ns ++ [(x : Int)], rfl, upx, bdx, ?_, rs', rb', by simp at hl ⊢; omega, D'.mono (by omega)⟩
          · rw [ftv, if_pos c2, if_pos hln]
            simp
          · rcases hf with hf | ⟨y, hy, ey⟩
            · exact .inl (List.mem_append_left _ hf)
            · rcases List.mem_cons.mp hy with e | hy
              · rw [e] at ey; exact absurd ey c
              · exact .inr ⟨y, hy, ey⟩
        · refine ⟨dI ns, m', by rw [ftv, if_neg c2], ns, rfl, up, fun z hz => ⟨(bd z hz).1, fun y hy => (bd z hz).2 y (List.mem_cons_of_mem _ hy)⟩, ?_, rs', rb', by simp at hl ⊢; omega, D'.mono (by omega)⟩
          rcases hf with hf | ⟨y, hy, ey⟩
          · exact .inl hf
          · rcases List.mem_cons.mp hy with e | hy
            · rw [e] at ey; exact absurd ey c
            · exact .inr ⟨y, hy, ey⟩)
  have hf : f ∈ ns := by
    rcases hin with h | ⟨y, hy, _⟩
    · exact h
    · cases hy
  refine ⟨ns, m2, fnF_retM ?_ (D2.2.2.2.len.trans D.len.symm), ⟨fun e => (by rw [e] at hf; cases hf), up, fun x hx => (bd x hx).1⟩, D2.2.2.2.mono (by simp)⟩
  unfold b__law_wish
  have er := rng1 (f := fVar 1) (r := [some (.loc n), some (.d (.int k)), some (.d (.int f)), none]) (m := m1) (m' := m1) (k := k) rfl (by omega) (by omega)
  simp [fVar, fC, fNil, fCons, fTup, fLst, fLstN, fBin, fChain_eq, fTb_eq, fAndT, fOrT, fNotT, fAndV_eq, fOrV_eq, fNotV_eq, fIf, fIsN, fNotN, fIsi, fCall, fBi, fRet, fSet, fAsg, fPar, fPar3, fIfS_eq, fThen, fDrop, fNext, fSt, startR, subTy, kBl, mkT, e1, fComp, er, wipeR, hc]
structure Opt where
  need : List Int
  side : Int
  st : Int
  go : Int
def eO (o : Opt) : PyData := .tuple [.tuple (dI o.need), .int o.side, .int o.st, .int o.go]
structure OptOk (s many lines : Int) (o : Opt) : Prop where
  need : Wish s o.need
  side : -1 ≤ o.side ∧ o.side < many
  st : 0 ≤ o.st ∧ o.st < s
  go : 0 ≤ o.go ∧ o.go ≤ lines
theorem wish_all {k : Int} (h : 1 ≤ k) : Wish k ((List.range k.toNat).map fun i : Nat => (i : Int)) := by
  refine ⟨fun e => ?_, ?_, fun x hx => ?_⟩
  · have := congrArg List.length e
    simp at this
    omega
  · rw [List.pairwise_map]
    exact List.pairwise_lt_range.imp fun h => by omega
  · obtain ⟨i, hi, rfl⟩ := List.mem_map.mp hx
    have := List.mem_range.mp hi
    omega
theorem tupR {f : FE} {r : Rh} {m m' : Mu} {k : Int} (h : f r m = .ok (.d (.int k)) m') (h1 : 0 ≤ k) (h2 : k ≤ 1000) : fTupR f r m = .ok (.d (.tuple (dI ((List.range k.toNat).map fun i : Nat => (i : Int))))) m' := by
  unfold fTupR
  rw [h, bind_ok]
  dsimp only
  rw [if_pos (by omega)]
  show _ = R.ok (W.d (.tuple (((List.range k.toNat).map fun i : Nat => (i : Int)).map PyData.int))) m'
  rw [List.map_map]
  rfl
theorem v_option {m0 m : Mu} {n : Nat} {b s many lines at_ : Int} (D : Dm m0 m n b) (hb : b ≤ 900000000) (hs : 1 ≤ s ∧ s ≤ 1000) (hm : 1 ≤ many ∧ many ≤ 1000) (hl : lines ≤ 1000) (ha : 0 ≤ at_ ∧ at_ < lines) :
    ∃ o m', f__law_option [.loc n, .d (.int s), .d (.int many), .d (.int lines), .d (.int at_)] m = .ok (.d (eO o)) m' ∧ OptOk s many lines o ∧ Dm m0 m' n (b + 10 + s) := by
  have hA : ∃ ns m1, fIf (fTb (fBin (gO cGt) (fCall 2 f__law_pick (fCons (fVar 0) (fCons (fC (.int 3)) fNil))) (fC (.int 0)))) (fTupR (fVar 1)) (fCall 2 f__law_wish (fCons (fVar 0) (fCons (fVar 1) fNil)))
      [some (.loc n), some (.d (.int s)), some (.d (.int many)), some (.d (.int lines)), some (.d (.int at_)), none, none, none] m = .ok (.d (.tuple (dI ns))) m1 ∧ Wish s ns ∧ Dm m0 m1 n (b + 2 + s) := by
    obtain ⟨v, m1, e, a1, a2, D1⟩ := pickD D (s := 3) (by omega) (by omega) (by omega)
    by_cases c : 0 < v
    · refine ⟨_, m1, ?_, wish_all hs.1, D1.mono (by omega)⟩
      have et := tupR (f := fVar 1) (r := [some (.loc n), some (.d (.int s)), some (.d (.int many)), some (.d (.int lines)), some (.d (.int at_)), none, none, none]) (m := m1) (m' := m1) (k := s) rfl (by omega) (by omega)
      simp [fVar, fC, fNil, fCons, fTup, fLst, fLstN, fBin, fChain_eq, fTb_eq, fAndT, fOrT, fNotT, fAndV_eq, fOrV_eq, fNotV_eq, fIf, fIsN, fNotN, fIsi, fCall, fBi, fRet, fSet, fAsg, fPar, fPar3, fIfS_eq, fThen, fDrop, fNext, fSt, startR, subTy, kBl, mkT, e, c, et]
    · obtain ⟨ns, m2, e2, w, D2⟩ := v_wish D1 (by omega) hs.1 hs.2
      refine ⟨ns, m2, ?_, w, D2.mono (by omega)⟩
      simp [fVar, fC, fNil, fCons, fTup, fLst, fLstN, fBin, fChain_eq, fTb_eq, fAndT, fOrT, fNotT, fAndV_eq, fOrV_eq, fNotV_eq, fIf, fIsN, fNotN, fIsi, fCall, fBi, fRet, fSet, fAsg, fPar, fPar3, fIfS_eq, fThen, fDrop, fNext, fSt, startR, subTy, kBl, mkT, e, e2, c]
  obtain ⟨ns, m1, e1, w1, D1⟩ := hA
  have hB : ∃ sd m2, fIf (fTb (fBin gEq (fCall 2 f__law_pick (fCons (fVar 0) (fCons (fC (.int 3)) fNil))) (fC (.int 0)))) (fCall 2 f__law_pick (fCons (fVar 0) (fCons (fVar 2) fNil))) (fC (.int (-1)))
      [some (.loc n), some (.d (.int s)), some (.d (.int many)), some (.d (.int lines)), some (.d (.int at_)), some (.d (.tuple (dI ns))), none, none] m1 = .ok (.d (.int sd)) m2 ∧ (-1 ≤ sd ∧ sd < many) ∧ Dm m0 m2 n (b + 4 + s) := by
    obtain ⟨v, m2, e, a1, a2, D2⟩ := pickD D1 (s := 3) (by omega) (by omega) (by omega)
    by_cases c : v = 0
    · obtain ⟨v2, m3, e2, a3, a4, D3⟩ := pickD D2 (s := many) (by omega) (by omega) (by omega)
      refine ⟨v2, m3, ?_, ⟨by omega, a4⟩, D3.mono (by omega)⟩
      simp [fVar, fC, fNil, fCons, fTup, fLst, fLstN, fBin, fChain_eq, fTb_eq, fAndT, fOrT, fNotT, fAndV_eq, fOrV_eq, fNotV_eq, fIf, fIsN, fNotN, fIsi, fCall, fBi, fRet, fSet, fAsg, fPar, fPar3, fIfS_eq, fThen, fDrop, fNext, fSt, startR, subTy, kBl, mkT, e, e2, c]
    · refine ⟨-1, m2, ?_, ⟨by omega, by omega⟩, D2.mono (by omega)⟩
      simp [fVar, fC, fNil, fCons, fTup, fLst, fLstN, fBin, fChain_eq, fTb_eq, fAndT, fOrT, fNotT, fAndV_eq, fOrV_eq, fNotV_eq, fIf, fIsN, fNotN, fIsi, fCall, fBi, fRet, fSet, fAsg, fPar, fPar3, fIfS_eq, fThen, fDrop, fNext, fSt, startR, subTy, kBl, mkT, e, c]
  obtain ⟨sd, m2, e2, w2, D2⟩ := hB
  have hC : ∃ go m3, fIf (fTb (fBin (gO cGt) (fCall 2 f__law_pick (fCons (fVar 0) (fCons (fC (.int 5)) fNil))) (fC (.int 0)))) (fBin gAdd (fBin gAdd (fVar 4) (fC (.int 1))) (fCall 2 f__law_pick (fCons (fVar 0) (fCons (fBin gSub (fVar 3) (fVar 4)) fNil)))) (fCall 2 f__law_pick (fCons (fVar 0) (fCons (fBin gAdd (fVar 3) (fC (.int 1))) fNil)))
      [some (.loc n), some (.d (.int s)), some (.d (.int many)), some (.d (.int lines)), some (.d (.int at_)), some (.d (.tuple (dI ns))), some (.d (.int sd)), none] m2 = .ok (.d (.int go)) m3 ∧ (0 ≤ go ∧ go ≤ lines) ∧ Dm m0 m3 n (b + 6 + s) := by
    obtain ⟨v, m3, e, a1, a2, D3⟩ := pickD D2 (s := 5) (by omega) (by omega) (by omega)
    by_cases c : 0 < v
    · obtain ⟨v2, m4, e2, a3, a4, D4⟩ := pickD D3 (s := lines - at_) (by omega) (by omega) (by omega)
      refine ⟨at_ + 1 + v2, m4, ?_, ⟨by omega, by omega⟩, D4.mono (by omega)⟩
      simp [fVar, fC, fNil, fCons, fTup, fLst, fLstN, fBin, fChain_eq, fTb_eq, fAndT, fOrT, fNotT, fAndV_eq, fOrV_eq, fNotV_eq, fIf, fIsN, fNotN, fIsi, fCall, fBi, fRet, fSet, fAsg, fPar, fPar3, fIfS_eq, fThen, fDrop, fNext, fSt, startR, subTy, kBl, mkT, e, e2, c]
    · obtain ⟨v2, m4, e2, a3, a4, D4⟩ := pickD D3 (s := lines + 1) (by omega) (by omega) (by omega)
      refine ⟨v2, m4, ?_, ⟨a3, by omega⟩, D4.mono (by omega)⟩
      simp [fVar, fC, fNil, fCons, fTup, fLst, fLstN, fBin, fChain_eq, fTb_eq, fAndT, fOrT, fNotT, fAndV_eq, fOrV_eq, fNotV_eq, fIf, fIsN, fNotN, fIsi, fCall, fBi, fRet, fSet, fAsg, fPar, fPar3, fIfS_eq, fThen, fDrop, fNext, fSt, startR, subTy, kBl, mkT, e, e2, c]
  obtain ⟨go, m3, e3, w3, D3⟩ := hC
  obtain ⟨st, m4, e4, a3, a4, D4⟩ := pickD D3 (s := s) (by omega) (by omega) (by omega)
  refine ⟨⟨ns, sd, st, go⟩, m4, fnF_retM ?_ (D4.len.trans D.len.symm), ⟨w1, w2, ⟨a3, a4⟩, w3⟩, D4.mono (by omega)⟩
  unfold b__law_option
  simp only [fThen, fSet, startR, List.length_cons, List.length_nil, List.map_cons, List.map_nil, List.replicate, List.cons_append, List.nil_append, Nat.reduceAdd, Nat.reduceSub, e1, toS_ok, then_next, List.set_cons_succ, List.set_cons_zero, e2, e3]
  simp [fVar, fC, fNil, fCons, fTup, fLst, fLstN, fBin, fChain_eq, fTb_eq, fAndT, fOrT, fNotT, fAndV_eq, fOrV_eq, fNotV_eq, fIf, fIsN, fNotN, fIsi, fCall, fBi, fRet, fSet, fAsg, fPar, fPar3, fIfS_eq, fThen, fDrop, fNext, fSt, startR, subTy, kBl, mkT, e4, eO]
end Wy
set_option Elab.async false
set_option linter.all false
set_option maxRecDepth 100000
set_option maxHeartbeats 4000000
/-! M3: options sorted; lines. -/
namespace Wy
open PySem PySem.Spec PyProof.Rows L2 PySem.W
theorem toks_nil : keyToksAll [] = [.inl 0] := by rw [keyToksAll]
theorem toks_cons (x : PyData) (xs : List PyData) : keyToksAll (x :: xs) = .inl 1 :: (keyToks x ++ keyToksAll xs) := by rw [keyToksAll]
theorem toks_int (i : Int) : keyToks (.int i) = [.inl i] := by rw [keyToks]
theorem toks_tup (xs : List PyData) : keyToks (.tuple xs) = keyToksAll xs := by rw [keyToks]
theorem toks_ints : ∀ (ns ks : List Int) (r r' : List (Int ⊕ List Nat)), keyToksAll (dI ns) ++ r = keyToksAll (dI ks) ++ r' → ns = ks ∧ r = r'
  | [], [], r, r', h => by
    rw [show dI [] = [] from rfl, toks_nil] at h
    exact ⟨rfl, List.append_cancel_left h⟩
  | [], k :: ks, r, r', h => by
    rw [show dI [] = [] from rfl, show dI (k :: ks) = .int k :: dI ks from rfl, toks_nil, toks_cons] at h
    simp at h
  | n :: ns, [], r, r', h => by
    rw [show dI [] = [] from rfl, show dI (n :: ns) = .int n :: dI ns from rfl, toks_nil, toks_cons] at h
    simp at h
  | n :: ns, k :: ks, r, r', h => by
    rw [show dI (n :: ns) = .int n :: dI ns from rfl, show dI (k :: ks) = .int k :: dI ks from rfl, toks_cons, toks_cons, toks_int, toks_int] at h
    simp at h
    obtain ⟨e1, e2⟩ := h
    obtain ⟨e3, e4⟩ := toks_ints ns ks r r' e2
    exact ⟨by rw [e1, e3], e4⟩
theorem toks_opt {o o' : Opt} (h : keyToks (eO o) = keyToks (eO o')) : o = o' := by
  unfold eO at h
  simp only [toks_tup, toks_cons, toks_int, List.cons_append, List.nil_append, List.append_assoc, List.cons.injEq, true_and] at h
  obtain ⟨e1, e2⟩ := toks_ints _ _ _ _ h
  simp only [List.cons.injEq, Sum.inl.injEq, true_and, and_true] at e2
  cases o; cases o'
  simp_all
theorem keys_ints : ∀ ns : List Int, keysOf (dI ns) = ns.map NestedKey.num
  | [] => by simp [keysOf]
  | n :: ns => by
    rw [show dI (n :: ns) = .int n :: dI ns from rfl, keysOf, keys_ints ns, keyOf]
    rfl
theorem key_opt (o : Opt) : keyOf (eO o) = .tup [.tup (o.need.map NestedKey.num), .num o.side, .num o.st, .num o.go] := by
  unfold eO
  simp only [keyOf, keysOf, keys_ints]
theorem num_inj : ∀ {a b : List Int}, a.map NestedKey.num = b.map NestedKey.num → a = b
  | [], [], _ => rfl
  | [], _ :: _, h => by cases h
  | _ :: _, [], h => by cases h
  | x :: a, y :: b, h => by
    rw [List.map_cons, List.map_cons] at h
    injection h with h1 h2
    injection h1 with h1
    rw [h1, num_inj h2]
theorem key_opt_inj {o o' : Opt} (h : keyOf (eO o) = keyOf (eO o')) : o = o' := by
  rw [key_opt, key_opt] at h
  simp only [NestedKey.tup.injEq, List.cons.injEq, NestedKey.num.injEq, and_true] at h
  obtain ⟨h1, h2, h3, h4⟩ := h
  have := num_inj h1
  cases o; cases o'
  simp_all
theorem keyables_ints : ∀ ns : List Int, keyables (dI ns) = true
  | [] => by simp [keyables]
  | n :: ns => by
    rw [show dI (n :: ns) = .int n :: dI ns from rfl, keyables, keyable, keyables_ints ns]
    rfl
theorem depth_nums : ∀ ns : List Int, NestedKey.depthAll (ns.map NestedKey.num) = 0
  | [] => rfl
  | n :: ns => by
    rw [List.map_cons, NestedKey.depthAll, depth_nums ns]
    rfl
theorem numys_nums : ∀ ns : List Int, numys (ns.map NestedKey.num) = true
  | [] => by simp [numys]
  | n :: ns => by
    rw [List.map_cons, numys, numys_nums ns, numy]
    rfl
theorem okKey_opt (o : Opt) : okKey (eO o) = true ∧ numy (keyOf (eO o)) = true := by
  refine ⟨?_, ?_⟩
  · unfold okKey
    rw [key_opt]
    simp [eO, keyable, keyables, keyables_ints, NestedKey.depth, NestedKey.depthAll, depth_nums]
  · rw [key_opt]
    simp [numy, numys, numys_nums]
theorem alike_ints' : ∀ ns ks : List Int, alikeAll (dI ns) (dI ks) = true
  | [], _ => by simp [alikeAll]
  | _ :: _, [] => by simp [alikeAll]
  | n :: ns, k :: ks => by
    rw [show dI (n :: ns) = .int n :: dI ns from rfl, show dI (k :: ks) = .int k :: dI ks from rfl, alikeAll, alike, alike_ints' ns ks]
    rfl
theorem alike_opt (o o' : Opt) : alike (eO o) (eO o') = true := by
  simp [eO, alike, alikeAll, alike_ints']
theorem depth_intsD : ∀ ns : List Int, PyData.depthAll (dI ns) = 0
  | [] => rfl
  | n :: ns => by
    rw [show dI (n :: ns) = .int n :: dI ns from rfl, PyData.depthAll, depth_intsD ns]
    rfl
theorem lay_ints : ∀ ns : List Int, PyData.canLayAll0 (dI ns) = true
  | [] => rfl
  | n :: ns => by
    rw [show dI (n :: ns) = .int n :: dI ns from rfl, PyData.canLayAll0, lay_ints ns]
    rfl
theorem depth_opt (o : Opt) : (eO o).depth = 2 := by
  simp [eO, PyData.depth, PyData.depthAll, depth_intsD]
theorem lay_opt (o : Opt) : (eO o).canLay0 = true := by
  simp [eO, PyData.canLay0, PyData.canLayAll0, lay_ints]
/-- sorted, each once: strictly rising -/
theorem strict_of {ds : List PyData} (nd : ds.Nodup) (inj : ∀ x ∈ ds, ∀ y ∈ ds, keyToks x = keyToks y → x = y) : strictB (sortD ds) = true := by
  have pm : (sortD ds).Perm ds := by rw [sortD_eq]; exact List.mergeSort_perm ds _
  have pw := sort_pairwise dataLe_tot ds
  rw [show ds.mergeSort (dataLe false id) = sortD ds from (sortD_eq ds).symm] at pw
  have nd' := pm.nodup_iff.mpr nd
  have inj' : ∀ x ∈ sortD ds, ∀ y ∈ sortD ds, keyToks x = keyToks y → x = y := fun x hx y hy => inj x (pm.mem_iff.mp hx) y (pm.mem_iff.mp hy)
  generalize sortD ds = l at pw nd' inj'
  induction l with
  | nil => rfl
  | cons a l ih =>
    cases pw with
    | cons h1 h2 =>
      obtain ⟨n1, n2⟩ := List.nodup_cons.mp nd'
      have t := ih h2 n2 fun x hx y hy => inj' x (List.mem_cons_of_mem _ hx) y (List.mem_cons_of_mem _ hy)
      rw [strictB, t, Bool.and_true]
      refine List.all_eq_true.mpr fun x hx => ?_
      have le := h1 x hx
      have e1 : dataLe false (id : PyData → PyData) a x = !dataLt x a := rfl
      rw [e1] at le
      cases c : dataLt a x with
      | true => rfl
      | false =>
        have c2 : dataLt x a = false := by simpa using le
        have := (listOrd itemOrd).total (keyToks a) (keyToks x) c c2
        exact absurd (inj' a List.mem_cons_self x (List.mem_cons_of_mem _ hx) this) fun e => n1 (e ▸ hx)
theorem okSet_opts {os : List Opt} (h : os.length ≤ 4) : okSet (os.map eO) = true := by
  have all : ∀ {p : PyData → Bool}, (∀ o, p (eO o) = true) → (os.map eO).all p = true := fun h => by
    rw [List.all_map]
    exact List.all_eq_true.mpr fun o _ => h o
  unfold okSet okSort
  simp only [Bool.and_eq_true, Bool.or_eq_true]
  refine ⟨⟨⟨⟨⟨by simpa using h, all fun o => ?_⟩, all fun o => all fun o' => ?_⟩, ⟨⟨⟨all fun o => all fun o' => alike_opt o o', by simp; omega⟩, all fun o => by rw [depth_opt]; rfl⟩, all lay_opt⟩, .inl (.inl (all fun o => rfl))⟩, all fun o => rfl⟩, ?_⟩
  · rw [(okKey_opt o).1, (okKey_opt o).2]
    rfl
  · by_cases e : keyOf (eO o) = keyOf (eO o')
    · rw [key_opt_inj e, pdb_refl, Bool.or_true]
    · rw [decide_eq_false e]
      rfl
  · refine strict_of (nd_dedup _) fun x hx y hy e => ?_
    obtain ⟨o, _, rfl⟩ := List.mem_map.mp (mem_dedup.mp hx)
    obtain ⟨o', _, rfl⟩ := List.mem_map.mp (mem_dedup.mp hy)
    rw [toks_opt e]
structure Ln where
  me : Bool
  opts : List Opt
def whoD (b : Bool) : PyData := if b = true then .str "me" else .str "they"
def eL (l : Ln) : PyData := .tuple [whoD l.me, .tuple (l.opts.map eO)]
structure LnOk (s many lines : Int) (l : Ln) : Prop where
  ne : l.opts ≠ []
  few : l.opts.length ≤ 3
  ok : ∀ o ∈ l.opts, OptOk s many lines o
  up : strictB (l.opts.map eO) = true
/-- the options as the line has them -/
theorem set_opts {os : List Opt} (h : os.length ≤ 4) (hn : os ≠ []) : ∃ os', sortD (dedupD (os.map eO)) = os'.map eO ∧ os' ≠ [] ∧ os'.length ≤ os.length ∧ (∀ o ∈ os', o ∈ os) ∧ strictB (os'.map eO) = true := by
  have ok := (okSet_of (okSet_opts h)).2.2.2.2.2
  have pm : (sortD (dedupD (os.map eO))).Perm (dedupD (os.map eO)) := by rw [sortD_eq]; exact List.mergeSort_perm _ _
  have mem : ∀ x ∈ sortD (dedupD (os.map eO)), ∃ o ∈ os, eO o = x := fun x hx => List.mem_map.mp (mem_dedup.mp (pm.mem_iff.mp hx))
  have hl : (sortD (dedupD (os.map eO))).length ≤ os.length := by
    rw [pm.length_eq]
    have : ∀ ds : List PyData, (dedupD ds).length ≤ ds.length := by
      intro ds
      induction ds with
      | nil => exact Nat.le_refl _
      | cons d ds ih =>
        rw [dedupD, List.length_cons, List.length_cons]
        have := List.length_filter_le (fun x => !pdb x d) (dedupD ds)
        omega
    have := this (os.map eO)
    rwa [List.length_map] at this
  have he : sortD (dedupD (os.map eO)) ≠ [] := fun e => by
    have := pm.length_eq
    rw [e] at this
    cases os with
    | nil => exact hn rfl
    | cons o os => simp [dedupD] at this
  generalize sortD (dedupD (os.map eO)) = l at ok mem hl he
  have : ∃ os' : List Opt, l = os'.map eO ∧ ∀ o ∈ os', o ∈ os := by
    clear ok hl he pm
    induction l with
    | nil => exact ⟨[], rfl, fun o h => (by cases h)⟩
    | cons x l ih =>
      obtain ⟨os', e, h⟩ := ih fun y hy => mem y (List.mem_cons_of_mem _ hy)
      obtain ⟨o, ho, e2⟩ := mem x List.mem_cons_self
      refine ⟨o :: os', by rw [List.map_cons, e2, e], fun o' h' => ?_⟩
      rcases List.mem_cons.mp h' with z | z
      · rw [z]; exact ho
      · exact h o' z
  obtain ⟨os', rfl, hm⟩ := this
  exact ⟨os', rfl, fun e => he (by rw [e]; rfl), by rwa [List.length_map] at hl, hm, ok⟩
end Wy
set_option Elab.async false
set_option linter.all false
set_option maxRecDepth 100000
set_option maxHeartbeats 4000000
/-! M4: lines, houses. -/
namespace Wy
open PySem PySem.Spec PyProof.Rows L2 PySem.W
theorem v_one {m0 m : Mu} {n : Nat} {b : Int} {xs : List PyData} (D : Dm m0 m n b) (hb : b ≤ 1073741824) (h1 : xs ≠ []) (h2 : xs.length ≤ 1000) :
    ∃ x m', f__law_one [.loc n, .d (.list xs)] m = .ok (.d x) m' ∧ x ∈ xs ∧ Dm m0 m' n (b + 1) := by
  have hp : 0 < xs.length := List.length_pos_iff.mpr h1
  obtain ⟨v, m1, e, a1, a2, D1⟩ := pickD D (s := (xs.length : Int)) hb (by omega) (by omega)
  obtain ⟨k, rfl⟩ : ∃ k : Nat, v = (k : Int) := ⟨v.toNat, by omega⟩
  have hk : k < xs.length := by omega
  refine ⟨xs[k], m1, fnF_retM ?_ (D1.len.trans D.len.symm), List.getElem_mem hk, D1⟩
  have ei : gIx (.d (.list xs)) (.d (.int (k : Int))) m1 = .ok (.d xs[k]) m1 := ix_lst (atN (by simp [hk]))
  unfold b__law_one
  simp [fVar, fC, fNil, fCons, fTup, fLst, fLstN, fBin, fChain_eq, fTb_eq, fAndT, fOrT, fNotT, fAndV_eq, fOrV_eq, fNotV_eq, fIf, fIsN, fNotN, fIsi, fCall, fBi, fRet, fSet, fAsg, fPar, fPar3, fIfS_eq, fThen, fDrop, fNext, fSt, startR, subTy, kBl, mkT, e, ei]
theorem e_sset {f : FE} {r : Rh} {m m' : Mu} {ds : List PyData} (h : f r m = .ok (.d (.list ds)) m') (ok : okSet ds = true) : fSortedSet f r m = .ok (.d (.list (sortD (dedupD ds)))) m' := by
  unfold fSortedSet
  rw [h, bind_ok]
  simp [fix, ok]
theorem v_line {m0 m : Mu} {n : Nat} {b s many lines at_ : Int} (D : Dm m0 m n b) (hb : b ≤ 800000000) (hs : 1 ≤ s ∧ s ≤ 1000) (hm : 1 ≤ many ∧ many ≤ 1000) (hl : lines ≤ 1000) (ha : 0 ≤ at_ ∧ at_ < lines) :
    ∃ l m', f__law_line [.loc n, .d (.int s), .d (.int many), .d (.int lines), .d (.int at_)] m = .ok (.d (eL l)) m' ∧ LnOk s many lines l ∧ Dm m0 m' n (b + 10000) := by
  obtain ⟨v, m1, e1, a1, a2, D1⟩ := pickD D (s := 3) (by omega) (by omega) (by omega)
  obtain ⟨acc, m2, hc, os, rfl, hlen, hok, D2⟩ := comp_inv (asg := fun w => patF (.nm 6) w [some (.loc n), some (.d (.int s)), some (.d (.int many)), some (.d (.int lines)), some (.d (.int at_)), none, none])
    (body := elemF fYes (fCall 5 f__law_option (fCons (fVar 0) (fCons (fVar 1) (fCons (fVar 2) (fCons (fVar 3) (fCons (fVar 4) fNil))))))) (fun i : Nat => W.d (.int (i : Int)))
    (fun rest acc m => ∃ os : List Opt, acc = os.map eO ∧ os.length + rest.length = (1 + v).toNat ∧ (∀ o ∈ os, OptOk s many lines o) ∧ Dm m0 m n (b + 1 + os.length * 2000))
    (List.range (1 + v).toNat) [] m1 ⟨[], rfl, by simp, fun o h => (by cases h), by simpa using D1⟩
    (fun x xs acc m ⟨os, ea, hlen, hok, D⟩ => by
      subst ea
      refine ⟨[some (.loc n), some (.d (.int s)), some (.d (.int many)), some (.d (.int lines)), some (.d (.int at_)), none, some (.d (.int (x : Int)))], rfl, ?_⟩
      simp only [List.length_cons] at hlen
      obtain ⟨o, m', e, ok, D'⟩ := v_option D (by omega) hs hm hl ha
      refine ⟨(os ++ [o]).map eO, m', ?_, os ++ [o], rfl, by simp; omega, fun z hz => ?_, D'.mono (by simp; omega)⟩
      · have hlt : os.length < 1000000 := by omega
        unfold elemF fYes
        simp [fVar, fC, fNil, fCons, fTup, fLst, fLstN, fBin, fChain_eq, fTb_eq, fAndT, fOrT, fNotT, fAndV_eq, fOrV_eq, fNotV_eq, fIf, fIsN, fNotN, fIsi, fCall, fBi, fRet, fSet, fAsg, fPar, fPar3, fIfS_eq, fThen, fDrop, fNext, fSt, startR, subTy, kBl, mkT, e]
        exact hlt
      · rcases List.mem_append.mp hz with hz | hz
        · exact hok z hz
        · rw [List.mem_singleton.mp hz]; exact ok)
  simp only [List.length_nil, Nat.add_zero] at hlen
  have hne : os ≠ [] := fun e => by rw [e] at hlen; simp at hlen; omega
  have h4 : os.length ≤ 4 := by omega
  obtain ⟨os', es, ne', lf, mem', up⟩ := set_opts h4 hne
  obtain ⟨x, m3, e3, hx, D3⟩ := v_one D2 (xs := [.str "me", .str "they"]) (by omega) (by simp) (by simp)
  have hw : ∃ bb, x = whoD bb := by
    simp at hx
    rcases hx with h | h
    · exact ⟨true, h⟩
    · exact ⟨false, h⟩
  obtain ⟨bb, rfl⟩ := hw
  refine ⟨⟨bb, os'⟩, m3, fnF_retM ?_ (D3.len.trans D.len.symm), ⟨ne', show os'.length ≤ 3 by omega, fun o h => hok o (mem' o h), up⟩, D3.mono (by omega)⟩
  have er : fRng1 (fBin gAdd (fC (.int 1)) (fCall 2 f__law_pick (fCons (fVar 0) (fCons (fC (.int 3)) fNil)))) [some (.loc n), some (.d (.int s)), some (.d (.int many)), some (.d (.int lines)), some (.d (.int at_)), none, none] m = .ok ⟨(List.range (1 + v).toNat).map fun i : Nat => W.d (.int (i : Int)), none⟩ m1 := by
    refine rng1 ?_ (by omega) (by omega)
    simp [fVar, fC, fNil, fCons, fTup, fLst, fLstN, fBin, fChain_eq, fTb_eq, fAndT, fOrT, fNotT, fAndV_eq, fOrV_eq, fNotV_eq, fIf, fIsN, fNotN, fIsi, fCall, fBi, fRet, fSet, fAsg, fPar, fPar3, fIfS_eq, fThen, fDrop, fNext, fSt, startR, subTy, kBl, mkT, e1]
  have ess := e_sset (f := fVar 5) (r := [some (.loc n), some (.d (.int s)), some (.d (.int many)), some (.d (.int lines)), some (.d (.int at_)), some (.d (.list (os.map eO))), none]) (m := m3) (m' := m3) rfl (okSet_opts h4)
  rw [es] at ess
  unfold b__law_line
  simp [fVar, fC, fNil, fCons, fTup, fLst, fLstN, fBin, fChain_eq, fTb_eq, fAndT, fOrT, fNotT, fAndV_eq, fOrV_eq, fNotV_eq, fIf, fIsN, fNotN, fIsi, fCall, fBi, fRet, fSet, fAsg, fPar, fPar3, fIfS_eq, fThen, fDrop, fNext, fSt, startR, subTy, kBl, mkT, fComp, er, wipeR, hc, e3, ess, eL]
structure Hs where
  s : Int
  es : List (List Ln)
def eE (ls : List Ln) : PyData := .tuple (ls.map eL)
def eH (h : Hs) : PyData := .tuple [.int h.s, .tuple (h.es.map eE)]
structure HsOk (most wide : Int) (h : Hs) : Prop where
  s : 2 ≤ h.s ∧ h.s ≤ 3
  ne : h.es ≠ []
  few : (h.es.length : Int) ≤ most
  errand : ∀ ls ∈ h.es, ls ≠ [] ∧ (ls.length : Int) ≤ wide ∧ ∀ l ∈ ls, LnOk h.s h.es.length ls.length l
@[simp] theorem e_addT {xs ys : List PyData} {m : Mu} (h : xs.length + ys.length ≤ 1000000) : gAdd (.d (.tuple xs)) (.d (.tuple ys)) m = .ok (.d (.tuple (xs ++ ys))) m := by
  show (if xs.length + ys.length ≤ 1000000 then _ else _) = _
  rw [if_pos h]
@[simp] theorem e_addL {xs ys : List PyData} {m : Mu} (h : xs.length + ys.length ≤ 1000000) : gAdd (.d (.list xs)) (.d (.list ys)) m = .ok (.d (.list (xs ++ ys))) m := by
  show (if xs.length + ys.length ≤ 1000000 then _ else _) = _
  rw [if_pos h]
theorem e_pat_nm {i : Nat} {w : W} {r : Rh} : patF (.nm i) w r = some (r.set i (some w)) := rfl
@[simp] theorem e_patsN {r : Rh} : patFs [] [] r = some r := rfl
@[simp] theorem e_patsC {t : Pat} {ts : List Pat} {w : W} {ws : List W} {r : Rh} : patFs (t :: ts) (w :: ws) r = (patF t w r).bind fun r' => patFs ts ws r' := rfl
@[simp] theorem e_pat_tp {ps : List Pat} {ds : List PyData} {r : Rh} : patF (.tp ps) (.d (.tuple ds)) r = patFs ps (ds.map W.d) r := rfl
@[simp] theorem e_pat_wt {ps : List Pat} {ws : List W} {r : Rh} : patF (.tp ps) (.wt ws) r = patFs ps ws r := rfl
theorem v_house {m0 m : Mu} {n : Nat} {b most wide : Int} (D : Dm m0 m n b) (hb : b ≤ 700000000) (hm : 1 ≤ most ∧ most ≤ 50) (hw : 1 ≤ wide ∧ wide ≤ 50) :
    ∃ h m', f__law_house [.loc n, .d (.int most), .d (.int wide)] m = .ok (.d (eH h)) m' ∧ HsOk most wide h ∧ Dm m0 m' n (b + 100000000) := by
  obtain ⟨v1, m1, e1, a1, a2, D1⟩ := pickD D (s := 2) (by omega) (by omega) (by omega)
  obtain ⟨v2, m2, e2, a3, a4, D2⟩ := pickD D1 (s := most) (by omega) (by omega) (by omega)
  obtain ⟨r', m3, hf, es, x6, x7, x8, rfl, hlen, hok, D3⟩ := for_inv (pt := .nm 6) (fb := (fThen (fSet 7 (fBin gAdd (fC (.int 1)) (fCall 2 f__law_pick (fCons (fVar 0) (fCons (fVar 2) fNil)))))
  (fSet 5 (fBin gAdd (fVar 5) (fTup (fCons (fBi gTuple (fCons (fComp (fRng1 (fVar 7)) (.nm 8) [8] fYes (fCall 5 f__law_line (fCons (fVar 0) (fCons (fVar 3) (fCons (fVar 4) (fCons (fVar 7) (fCons (fVar 8) fNil))))))) fNil)) fNil)))))) (fun i : Nat => W.d (.int (i : Int)))
    (fun rest r m => ∃ (es : List (List Ln)) (x6 x7 x8 : Option W), r = [some (.loc n), some (.d (.int most)), some (.d (.int wide)), some (.d (.int (2 + v1))), some (.d (.int (1 + v2))), some (.d (.tuple (es.map eE))), x6, x7, x8] ∧ es.length + rest.length = (1 + v2).toNat ∧
      (∀ ls ∈ es, ls ≠ [] ∧ (ls.length : Int) ≤ wide ∧ ∀ l ∈ ls, LnOk (2 + v1) (1 + v2) ls.length l) ∧ Dm m0 m n (b + 2 + es.length * 1000001))
    (List.range (1 + v2).toNat) [some (.loc n), some (.d (.int most)), some (.d (.int wide)), some (.d (.int (2 + v1))), some (.d (.int (1 + v2))), some (.d (.tuple [])), none, none, none] m2
    ⟨[], none, none, none, rfl, by simp, fun l h => (by cases h), by simpa using D2.mono (by omega)⟩
    (fun x xs r m ⟨es, x6, x7, x8, er, hlen, hok, D⟩ => by
      subst er
      refine ⟨_, rfl, ?_⟩
      simp only [List.length_cons] at hlen
      obtain ⟨v, m1, e, b1, b2, D1⟩ := pickD D (s := wide) (by omega) (by omega) (by omega)
      obtain ⟨acc, m2, hc, ls, rfl, hl2, hk, D2⟩ := comp_inv (asg := fun w => patF (.nm 8) w [some (.loc n), some (.d (.int most)), some (.d (.int wide)), some (.d (.int (2 + v1))), some (.d (.int (1 + v2))), some (.d (.tuple (es.map eE))), some (.d (.int (x : Int))), some (.d (.int (1 + v))), none])
        (body := elemF fYes (fCall 5 f__law_line (fCons (fVar 0) (fCons (fVar 3) (fCons (fVar 4) (fCons (fVar 7) (fCons (fVar 8) fNil))))))) (fun i : Nat => W.d (.int (i : Int)))
        (fun rest acc m => ∃ ls : List Ln, acc = ls.map eL ∧ ls.length + rest.length = (1 + v).toNat ∧ (∀ l ∈ ls, LnOk (2 + v1) (1 + v2) (1 + v) l) ∧ (∀ y ∈ rest, (y : Int) < 1 + v) ∧ Dm m0 m n (b + 3 + es.length * 1000001 + ls.length * 10000))
        (List.range (1 + v).toNat) [] m1 ⟨[], rfl, by simp, fun l h => (by cases h), fun y hy => (by have := List.mem_range.mp hy; omega), by simpa using D1.mono (by omega)⟩
        (fun y ys acc m ⟨ls, ea, hl2, hk, hy, D⟩ => by
          subst ea
          refine ⟨_, rfl, ?_⟩
          simp only [List.length_cons] at hl2
          have hyv := hy y List.mem_cons_self
          obtain ⟨l, m', e, ok, D'⟩ := v_line D (by omega) (s := 2 + v1) (many := 1 + v2) (lines := 1 + v) (at_ := (y : Int)) (by omega) (by omega) (by omega) (by omega)
          refine ⟨(ls ++ [l]).map eL, m', ?_, ls ++ [l], rfl, by simp; omega, fun z hz => ?_, fun z hz => hy z (List.mem_cons_of_mem _ hz), D'.mono (by simp; omega)⟩
          · have hlt : ls.length < 1000000 := by omega
            unfold elemF fYes
            simp [fVar, fC, fNil, fCons, fTup, fLst, fLstN, fBin, fChain_eq, fTb_eq, fAndT, fOrT, fNotT, fAndV_eq, fOrV_eq, fNotV_eq, fIf, fIsN, fNotN, fIsi, fCall, fBi, fRet, fSet, fAsg, fPar, fPar3, fIfS_eq, fThen, fDrop, fNext, fSt, startR, subTy, kBl, mkT, e]
            exact hlt
          · rcases List.mem_append.mp hz with hz | hz
            · exact hk z hz
            · rw [List.mem_singleton.mp hz]; exact ok)
      simp only [List.length_nil, Nat.add_zero] at hl2
      have D2' := D2.2
      have el : ((ls.length : Nat) : Int) = 1 + v := by omega
      refine ⟨_, m2, .inl ?_, es ++ [ls], some (.d (.int (x : Int))), some (.d (.int (1 + v))), x8, rfl, by simp; omega, fun z hz => ?_, D2'.mono (by simp; omega)⟩
      · have er : fRng1 (fVar 7) [some (.loc n), some (.d (.int most)), some (.d (.int wide)), some (.d (.int (2 + v1))), some (.d (.int (1 + v2))), some (.d (.tuple (es.map eE))), some (.d (.int (x : Int))), some (.d (.int (1 + v))), x8] m1 = .ok ⟨(List.range (1 + v).toNat).map fun i : Nat => W.d (.int (i : Int)), none⟩ m1 := rng1 rfl (by omega) (by omega)
        have ea : gAdd (.d (.tuple (es.map eE))) (.d (.tuple [.tuple (ls.map eL)])) m2 = .ok (.d (.tuple (es.map eE ++ [.tuple (ls.map eL)]))) m2 := e_addT (by simp; omega)
        simp [fVar, fC, fNil, fCons, fTup, fLst, fLstN, fBin, fChain_eq, fTb_eq, fAndT, fOrT, fNotT, fAndV_eq, fOrV_eq, fNotV_eq, fIf, fIsN, fNotN, fIsi, fCall, fBi, fRet, fSet, fAsg, fPar, fPar3, fIfS_eq, fThen, fDrop, fNext, fSt, startR, subTy, kBl, mkT, e, fComp, er, wipeR, hc, ea, eE]
      · rcases List.mem_append.mp hz with hz | hz
        · exact hok z hz
        · rw [List.mem_singleton.mp hz]
          refine ⟨fun e => by rw [e] at el; simp at el; omega, by omega, fun l hl => ?_⟩
          rw [el]
          exact hk l hl)
  simp only [List.length_nil, Nat.add_zero] at hlen
  have el : ((es.length : Nat) : Int) = 1 + v2 := by omega
  refine ⟨⟨2 + v1, es⟩, m3, fnF_retM ?_ (D3.len.trans D.len.symm), ⟨⟨show 2 ≤ 2 + v1 by omega, show 2 + v1 ≤ 3 by omega⟩, fun e => ?_, show ((es.length : Nat) : Int) ≤ most by omega, fun ls hls => ?_⟩, D3.mono (by omega)⟩
  · have er : fRng1 (fVar 4) [some (.loc n), some (.d (.int most)), some (.d (.int wide)), some (.d (.int (2 + v1))), some (.d (.int (1 + v2))), some (.d (.tuple [])), none, none, none] m2 = .ok ⟨(List.range (1 + v2).toNat).map fun i : Nat => W.d (.int (i : Int)), none⟩ m2 := rng1 rfl (by omega) (by omega)
    unfold b__law_house
    simp [fVar, fC, fNil, fCons, fTup, fLst, fLstN, fBin, fChain_eq, fTb_eq, fAndT, fOrT, fNotT, fAndV_eq, fOrV_eq, fNotV_eq, fIf, fIsN, fNotN, fIsi, fCall, fBi, fRet, fSet, fAsg, fPar, fPar3, fIfS_eq, fThen, fDrop, fNext, fSt, startR, subTy, kBl, mkT, e1, e2, fFor, er, hf, eH, e_pat_nm]
  · rw [show es = [] from e] at el
    simp at el
    omega
  · have := hok ls hls
    rw [← el] at this
    exact this
end Wy
set_option Elab.async false
set_option linter.all false
set_option maxRecDepth 100000
set_option maxHeartbeats 4000000
/-! M5: the checks say yes. -/
namespace Wy
open PySem PySem.Spec PyProof.Rows L2 PySem.W
theorem wish_len {k : Int} : ∀ {ns : List Int} {a : Int}, ns.Pairwise (· < ·) → (∀ x ∈ ns, a ≤ x ∧ x < k) → a ≤ k → (ns.length : Int) ≤ k - a
  | [], a, _, _, h => by simp; omega
  | n :: ns, a, up, bd, h => by
    obtain ⟨u1, u2⟩ := List.pairwise_cons.mp up
    have hb := bd n List.mem_cons_self
    have := wish_len (a := n + 1) u2 (fun x hx => ⟨by have := u1 x hx; omega, (bd x (List.mem_cons_of_mem _ hx)).2⟩) (by omega)
    simp only [List.length_cons]
    omega
theorem Wish.len {k : Int} {ns : List Int} (w : Wish k ns) (h : 0 ≤ k) : 1 ≤ ns.length ∧ (ns.length : Int) ≤ k := by
  have := wish_len w.up w.bd h
  exact ⟨List.length_pos_iff.mpr w.ne, by omega⟩
theorem e_all {β : Type} (p : β → Bool) (xs : List β) (m : Mu) : gAll [.d (.list (xs.map fun x => .bool (p x)))] m = .ok (.d (.bool (xs.all p))) m := by
  unfold gAll on1
  simp [dr, List.all_map, Function.comp_def]
theorem e_allT {β : Type} (xs : List β) (m : Mu) : gAll [.d (.list (xs.map fun _ => .bool true))] m = .ok (.d (.bool true)) m := by
  rw [e_all (fun _ : β => true), List.all_eq_true.mpr fun _ _ => rfl]
theorem e_seqT {f : FE} {r : Rh} {m m' : Mu} {ds : List PyData} (h : f r m = .ok (.d (.tuple ds)) m') : fSeq f r m = .ok ⟨ds.map W.d, none⟩ m' := by
  unfold fSeq
  rw [h]
  rfl
theorem e_seqL {f : FE} {r : Rh} {m m' : Mu} {ds : List PyData} (h : f r m = .ok (.d (.list ds)) m') : fSeq f r m = .ok ⟨ds.map W.d, none⟩ m' := by
  unfold fSeq
  rw [h]
  rfl
theorem take_tail {α : Type} (ds : List α) : List.take (ds.length - min 1 ds.length) (List.drop (min 1 ds.length) ds) = ds.tail := by
  cases ds with
  | nil => rfl
  | cons d ds => simp
@[simp] theorem e_tail {ds : List PyData} {m : Mu} : gSl (.d (.tuple ds)) (some 1) none m = .ok (.d (.tuple ds.tail)) m := by
  unfold gSl cutA
  simp [dr, HT.sIx, take_tail]
@[simp] theorem e_tailL {ds : List PyData} {m : Mu} : gSl (.d (.list ds)) (some 1) none m = .ok (.d (.list ds.tail)) m := by
  unfold gSl cutA
  simp [dr, HT.sIx, take_tail]
theorem zip_items : ∀ (ds es : List PyData), zipW (ds.map W.d) (es.map W.d) = (ds.zip es).map fun q => W.wt [.d q.1, .d q.2]
  | [], es => by simp [zipW]
  | d :: ds, [] => by simp [zipW]
  | d :: ds, e :: es => by
    have := zip_items ds es
    unfold zipW at *
    simp only [List.map_cons, List.zipWith_cons_cons, List.zip_cons_cons, this]
theorem e_zipT {f g : FE} {r : Rh} {m m1 m2 : Mu} {ds es : List PyData} (h : f r m = .ok (.d (.tuple ds)) m1) (h2 : g r m1 = .ok (.d (.tuple es)) m2) : fZip f g r m = .ok ⟨(ds.zip es).map fun q => W.wt [.d q.1, .d q.2], none⟩ m2 := by
  unfold fZip
  rw [h, bind_ok, h2, bind_ok, ← zip_items]
  rfl
/-- a comprehension over what is not changed -/
theorem e_comp {β : Type} {fi : FI} {pt : Pat} {vs : List Nat} {ft : FT} {fe : FE} {r : Rh} {m m1 : Mu} (e : β → W) (p : β → Bool) (g : β → PyData) (xs : List β) (hi : fi r m = .ok ⟨xs.map e, none⟩ m1)
    (h : ∀ x ∈ xs, ∃ r2, patF pt (e x) (wipeR r vs) = some r2 ∧ ft r2 m1 = .ok (p x) m1 ∧ (p x = true → fe r2 m1 = .ok (.d (g x)) m1)) (hl : xs.length ≤ 1000000) : fComp fi pt vs ft fe r m = .ok (.d (.list ((xs.filter p).map g))) m1 := by
  unfold fComp
  rw [hi, bind_ok, comp_of e p g xs [] h (by simpa using hl)]
  rfl
theorem e_compA {β : Type} {fi : FI} {pt : Pat} {vs : List Nat} {fe : FE} {r : Rh} {m m1 : Mu} (e : β → W) (g : β → PyData) (xs : List β) (hi : fi r m = .ok ⟨xs.map e, none⟩ m1)
    (h : ∀ x ∈ xs, ∃ r2, patF pt (e x) (wipeR r vs) = some r2 ∧ fe r2 m1 = .ok (.d (g x)) m1) (hl : xs.length ≤ 1000000) : fComp fi pt vs fYes fe r m = .ok (.d (.list (xs.map g))) m1 := by
  have := e_comp (vs := vs) (ft := fYes) e (fun _ => true) g xs hi (fun x hx => let ⟨r2, a, b⟩ := h x hx; ⟨r2, a, rfl, fun _ => b⟩) hl
  rw [this, List.filter_eq_self.mpr (fun _ _ => rfl)]
theorem up_zip : ∀ {ns : List Int}, ns.Pairwise (· < ·) → ∀ q ∈ ns.zip ns.tail, q.1 < q.2
  | [], _, q, h => by simp at h
  | [n], _, q, h => by simp at h
  | n :: k :: ns, up, q, h => by
    obtain ⟨u1, u2⟩ := List.pairwise_cons.mp up
    rw [List.tail_cons, List.zip_cons_cons] at h
    rcases List.mem_cons.mp h with e | h
    · rw [e]; exact u1 k List.mem_cons_self
    · exact up_zip u2 q h
theorem v_states {k : Int} {ns : List Int} (w : Wish k ns) (h0 : 0 ≤ k) (hk : k ≤ 1000) (m : Mu) : f_are_states [.d (.int k), .d (.tuple (dI ns))] m = .ok (.d (.bool true)) m := by
  have hl := w.len h0
  have h1 := v_has_items (dI ns) 1 k m
  rw [show ((dI ns).length : Int) = ns.length by simp] at h1
  rw [decide_eq_true (show (1 : Int) ≤ ns.length by omega), decide_eq_true hl.2] at h1
  have h2 : fComp (fSeq (fVar 1)) (.nm 2) [2] fYes (fCall 3 f_is_within (fCons (fVar 2) (fCons (fC (.int 0)) (fCons (fBin gSub (fVar 0) (fC (.int 1))) fNil)))) [some (.d (.int k)), some (.d (.tuple (dI ns))), none, none] m = .ok (.d (.list (ns.map fun _ => .bool true))) m := by
    refine e_compA (fun i : Int => W.d (.int i)) (fun _ => .bool true) ns ?_ (fun x hx => ⟨[some (.d (.int k)), some (.d (.tuple (dI ns))), some (.d (.int x)), none], rfl, ?_⟩) (by omega)
    · rw [e_seqT (ds := dI ns) (m' := m) rfl, List.map_map]
      rfl
    · have := w.bd x hx
      simp [fVar, fC, fNil, fCons, fTup, fLst, fLstN, fBin, fChain_eq, fTb_eq, fAndT, fOrT, fNotT, fAndV_eq, fOrV_eq, fNotV_eq, fIf, fIsN, fNotN, fIsi, fCall, fBi, fRet, fSet, fAsg, fPar, fPar3, fIfS_eq, fThen, fDrop, fNext, fSt, startR, subTy, kBl, mkT, v_is_within, this.1, show x ≤ k - 1 by omega]
  have h3 : fComp (fZip (fVar 1) (fSl (fVar 1) (fPart (fC (.int 1))) fNoP)) (.tp [(.nm 2), (.nm 3)]) [2, 3] fYes (fBin (gO cLt) (fVar 2) (fVar 3)) [some (.d (.int k)), some (.d (.tuple (dI ns))), none, none] m = .ok (.d (.list ((ns.zip ns.tail).map fun _ => .bool true))) m := by
    refine e_compA (fun q : Int × Int => W.wt [.d (.int q.1), .d (.int q.2)]) (fun _ => .bool true) (ns.zip ns.tail) ?_ (fun x hx => ⟨[some (.d (.int k)), some (.d (.tuple (dI ns))), some (.d (.int x.1)), some (.d (.int x.2))], rfl, ?_⟩) (by simp; omega)
    · rw [e_zipT (ds := dI ns) (es := dI ns.tail) (m1 := m) (m2 := m) rfl]
      · unfold dI
        rw [List.zip_map, List.map_map]
        rfl
      · have : (dI ns).tail = dI ns.tail := by cases ns <;> rfl
        show gSl (.d (.tuple (dI ns))) (some 1) none m = _
        rw [e_tail, this]
    · have := up_zip w.up x hx
      simp [fVar, fC, fNil, fCons, fTup, fLst, fLstN, fBin, fChain_eq, fTb_eq, fAndT, fOrT, fNotT, fAndV_eq, fOrV_eq, fNotV_eq, fIf, fIsN, fNotN, fIsi, fCall, fBi, fRet, fSet, fAsg, fPar, fPar3, fIfS_eq, fThen, fDrop, fNext, fSt, startR, subTy, kBl, mkT, ]
      exact this
  refine fnF_ret ?_
  unfold b_are_states
  have a1 := e_allT ns m
  have a2 := e_allT (ns.zip ns.tail) m
  simp [fVar, fC, fNil, fCons, fTup, fLst, fLstN, fBin, fChain_eq, fTb_eq, fAndT, fOrT, fNotT, fAndV_eq, fOrV_eq, fNotV_eq, fIf, fIsN, fNotN, fIsi, fCall, fBi, fRet, fSet, fAsg, fPar, fPar3, fIfS_eq, fThen, fDrop, fNext, fSt, startR, subTy, kBl, mkT, h1, h2, h3, a1, a2]
end Wy
set_option Elab.async false
set_option linter.all false
set_option maxRecDepth 100000
set_option maxHeartbeats 4000000
/-! M6: options, lines, houses are recognized. -/
namespace Wy
open PySem PySem.Spec PyProof.Rows L2 PySem.W
theorem v_opt_ok {s many lines : Int} {o : Opt} (h : OptOk s many lines o) (hs : 0 ≤ s ∧ s ≤ 1000) (m : Mu) : f_is_option [.d (.int s), .d (.int many), .d (.int lines), .d (eO o)] m = .ok (.d (.bool true)) m := by
  have h1 : f_has_items [.d (eO o), .d (.int 4), .d (.int 4)] m = .ok (.d (.bool true)) m := v_has_items _ 4 4 m
  have h2 := v_states h.need hs.1 hs.2 m
  have i0 : gIx (.d (eO o)) (.d (.int 0)) m = .ok (.d (.tuple (dI o.need))) m := tup0
  have i1 : gIx (.d (eO o)) (.d (.int 1)) m = .ok (.d (.int o.side)) m := tup1
  have i2 : gIx (.d (eO o)) (.d (.int 2)) m = .ok (.d (.int o.st)) m := tup2
  have i3 : gIx (.d (eO o)) (.d (.int 3)) m = .ok (.d (.int o.go)) m := tup3
  refine fnF_ret ?_
  unfold b_is_option
  have g1 := h.side
  have g2 := h.st
  have g3 := h.go
  simp [fVar, fC, fNil, fCons, fTup, fLst, fLstN, fBin, fChain_eq, fTb_eq, fAndT, fOrT, fNotT, fAndV_eq, fOrV_eq, fNotV_eq, fIf, fIsN, fNotN, fIsi, fCall, fBi, fRet, fSet, fAsg, fPar, fPar3, fIfS_eq, fThen, fDrop, fNext, fSt, startR, subTy, kBl, mkT, h1, h2, i0, i1, i2, i3, v_is_within, g1.1, show o.side ≤ many - 1 by omega, g2.1, show o.st ≤ s - 1 by omega, g3.1, g3.2]
theorem ltOk_opt (a b : Opt) : okLt (eO a) (eO b) = true := by
  show ltOk (eO a) (eO b) = true
  unfold ltOk
  rw [alike_opt, lay_opt, lay_opt, depth_opt]
  rfl
theorem e_ltO {a b : Opt} (m : Mu) : gO cLt (.d (eO a)) (.d (eO b)) m = .ok (.d (.bool (dataLt (eO a) (eO b)))) m := by
  show (if okLt (eO a) (eO b) = true then kBl (pLt (eO a) (eO b)) m else .bad) = _
  rw [if_pos (ltOk_opt a b)]
  rfl
theorem strict_zip : ∀ {os : List Opt}, strictB (os.map eO) = true → ∀ q ∈ os.zip os.tail, dataLt (eO q.1) (eO q.2) = true
  | [], _, q, h => by simp at h
  | [o], _, q, h => by simp at h
  | o :: p :: os, st, q, h => by
    have st' : ((p :: os).map eO).all (fun x => dataLt (eO o) x) = true ∧ strictB ((p :: os).map eO) = true := by
      rw [List.map_cons, strictB, Bool.and_eq_true] at st
      exact st
    rw [List.tail_cons, List.zip_cons_cons] at h
    rcases List.mem_cons.mp h with e | h
    · rw [e]
      exact List.all_eq_true.mp st'.1 _ List.mem_cons_self
    · exact strict_zip st'.2 q h
theorem who_in (b : Bool) (m : Mu) : gNotIn (.d (whoD b)) (.d g_WHO) m = .ok (.d (.bool false)) m := by
  cases b <;> kernel_rfl
theorem v_line_ok {s many lines : Int} {l : Ln} (h : LnOk s many lines l) (hs : 0 ≤ s ∧ s ≤ 1000) (m : Mu) : f_is_line [.d (.int s), .d (.int many), .d (.int lines), .d (eL l)] m = .ok (.d (.bool true)) m := by
  have hl : 1 ≤ l.opts.length := List.length_pos_iff.mpr h.ne
  have hf := h.few
  have h1 : f_has_items [.d (eL l), .d (.int 2), .d (.int 2)] m = .ok (.d (.bool true)) m := v_has_items _ 2 2 m
  have h2 : f_has_items [.d (.tuple (l.opts.map eO)), .d (.int 1), .d (.int 3)] m = .ok (.d (.bool true)) m := by
    rw [v_has_items, List.length_map, decide_eq_true (show (1 : Int) ≤ l.opts.length by omega), decide_eq_true (show (l.opts.length : Int) ≤ 3 by omega)]
    rfl
  have i0 : gIx (.d (eL l)) (.d (.int 0)) m = .ok (.d (whoD l.me)) m := tup0
  have i1 : gIx (.d (eL l)) (.d (.int 1)) m = .ok (.d (.tuple (l.opts.map eO))) m := tup1
  have iw : tyOf m (.d (whoD l.me)) = some "str" := by cases l.me <;> rfl
  have wi := who_in l.me m
  have h3 : fComp (fSeq (fBin gIx (fVar 3) (fC (.int 1)))) (.nm 4) [4] fYes (fCall 4 f_is_option (fCons (fVar 0) (fCons (fVar 1) (fCons (fVar 2) (fCons (fVar 4) fNil))))) [some (.d (.int s)), some (.d (.int many)), some (.d (.int lines)), some (.d (eL l)), none, none] m = .ok (.d (.list (l.opts.map fun _ => .bool true))) m := by
    refine e_compA (fun o : Opt => W.d (eO o)) (fun _ => .bool true) l.opts ?_ (fun x hx => ⟨[some (.d (.int s)), some (.d (.int many)), some (.d (.int lines)), some (.d (eL l)), some (.d (eO x)), none], rfl, ?_⟩) (by omega)
    · rw [e_seqT (ds := l.opts.map eO) (m' := m) (by simp [fVar, fC, fNil, fCons, fTup, fLst, fLstN, fBin, fChain_eq, fTb_eq, fAndT, fOrT, fNotT, fAndV_eq, fOrV_eq, fNotV_eq, fIf, fIsN, fNotN, fIsi, fCall, fBi, fRet, fSet, fAsg, fPar, fPar3, fIfS_eq, fThen, fDrop, fNext, fSt, startR, subTy, kBl, mkT, i1]), List.map_map]
      rfl
    · simp [fVar, fC, fNil, fCons, fTup, fLst, fLstN, fBin, fChain_eq, fTb_eq, fAndT, fOrT, fNotT, fAndV_eq, fOrV_eq, fNotV_eq, fIf, fIsN, fNotN, fIsi, fCall, fBi, fRet, fSet, fAsg, fPar, fPar3, fIfS_eq, fThen, fDrop, fNext, fSt, startR, subTy, kBl, mkT, v_opt_ok (h.ok x hx) hs]
  have h4 : fComp (fZip (fBin gIx (fVar 3) (fC (.int 1))) (fSl (fBin gIx (fVar 3) (fC (.int 1))) (fPart (fC (.int 1))) fNoP)) (.tp [(.nm 4), (.nm 5)]) [4, 5] fYes (fBin (gO cLt) (fVar 4) (fVar 5)) [some (.d (.int s)), some (.d (.int many)), some (.d (.int lines)), some (.d (eL l)), none, none] m = .ok (.d (.list ((l.opts.zip l.opts.tail).map fun _ => .bool true))) m := by
    refine e_compA (fun q : Opt × Opt => W.wt [.d (eO q.1), .d (eO q.2)]) (fun _ => .bool true) (l.opts.zip l.opts.tail) ?_ (fun x hx => ⟨[some (.d (.int s)), some (.d (.int many)), some (.d (.int lines)), some (.d (eL l)), some (.d (eO x.1)), some (.d (eO x.2))], rfl, ?_⟩) (by simp; omega)
    · rw [e_zipT (ds := l.opts.map eO) (es := l.opts.tail.map eO) (m1 := m) (m2 := m) (by simp [fVar, fC, fNil, fCons, fTup, fLst, fLstN, fBin, fChain_eq, fTb_eq, fAndT, fOrT, fNotT, fAndV_eq, fOrV_eq, fNotV_eq, fIf, fIsN, fNotN, fIsi, fCall, fBi, fRet, fSet, fAsg, fPar, fPar3, fIfS_eq, fThen, fDrop, fNext, fSt, startR, subTy, kBl, mkT, i1])]
      · rw [List.zip_map, List.map_map]
        rfl
      · have : (l.opts.map eO).tail = l.opts.tail.map eO := by cases l.opts <;> rfl
        have e1 : fBin gIx (fVar 3) (fC (.int 1)) [some (.d (.int s)), some (.d (.int many)), some (.d (.int lines)), some (.d (eL l)), none, none] m = .ok (.d (.tuple (l.opts.map eO))) m := by simp [fVar, fC, fNil, fCons, fTup, fLst, fLstN, fBin, fChain_eq, fTb_eq, fAndT, fOrT, fNotT, fAndV_eq, fOrV_eq, fNotV_eq, fIf, fIsN, fNotN, fIsi, fCall, fBi, fRet, fSet, fAsg, fPar, fPar3, fIfS_eq, fThen, fDrop, fNext, fSt, startR, subTy, kBl, mkT, i1]
        unfold fSl
        rw [e1, bind_ok]
        show gSl (.d (.tuple (l.opts.map eO))) (some 1) none m = _
        rw [e_tail, this]
    · have := strict_zip h.up x hx
      simp [fVar, fC, fNil, fCons, fTup, fLst, fLstN, fBin, fChain_eq, fTb_eq, fAndT, fOrT, fNotT, fAndV_eq, fOrV_eq, fNotV_eq, fIf, fIsN, fNotN, fIsi, fCall, fBi, fRet, fSet, fAsg, fPar, fPar3, fIfS_eq, fThen, fDrop, fNext, fSt, startR, subTy, kBl, mkT, e_ltO]
      exact this
  have a1 := e_allT l.opts m
  have a2 := e_allT (l.opts.zip l.opts.tail) m
  refine fnF_ret ?_
  unfold b_is_line
  simp [fVar, fC, fNil, fCons, fTup, fLst, fLstN, fBin, fChain_eq, fTb_eq, fAndT, fOrT, fNotT, fAndV_eq, fOrV_eq, fNotV_eq, fIf, fIsN, fNotN, fIsi, fCall, fBi, fRet, fSet, fAsg, fPar, fPar3, fIfS_eq, fThen, fDrop, fNext, fSt, startR, subTy, kBl, mkT, h1, h2, h3, h4, a1, a2, i0, i1, iw, wi]
end Wy
set_option Elab.async false
set_option linter.all false
set_option maxRecDepth 100000
set_option maxHeartbeats 4000000
/-! M7: houses are recognized; what is needed is there. -/
namespace Wy
open PySem PySem.Spec PyProof.Rows L2 PySem.W
section
variable {β γ : Type} {pt pt1 : Pat} {vs vs1 : List Nat} {fi fi1 : FI} {fe : FE} {r : Rh} {m : Mu} {asg : W → Option Rh}
theorem comp2_of (e : β → W) (e1 : γ → W) (ys : β → List γ) (g : β → γ → PyData) : ∀ (xs : List β) (acc : List PyData), (∀ x ∈ xs, ∃ r2, asg (e x) = some r2 ∧ fi1 r2 m = .ok ⟨(ys x).map e1, none⟩ m ∧ ∀ y ∈ ys x, ∃ r3, patF pt1 (e1 y) (wipeR r2 vs1) = some r3 ∧ fe r3 m = .ok (.d (g x y)) m) →
    acc.length + (xs.flatMap fun x => (ys x).map (g x)).length ≤ 1000000 → compF none asg (bodyF2 fYes fi1 pt1 vs1 fYes fe) (xs.map e) acc m = .ok (acc ++ xs.flatMap fun x => (ys x).map (g x)) m
  | [], acc, _, _ => by simp [compF, stands]
  | x :: xs, acc, h, hl => by
    obtain ⟨r2, h1, h2, h3⟩ := h x List.mem_cons_self
    rw [List.flatMap_cons, List.length_append, List.length_map] at hl
    rw [List.map_cons, compF]
    simp only [stands, if_true, h1]
    have e1' : bodyF2 fYes fi1 pt1 vs1 fYes fe r2 acc m = .ok (acc ++ (ys x).map (g x)) m := by
      unfold bodyF2
      simp only [fYes, nx_ok, bind_ok, if_true, h2]
      have := comp_of (asg := fun w => patF pt1 w (wipeR r2 vs1)) (ft := fYes) (fe := fe) (m := m) e1 (fun _ => true) (g x) (ys x) acc (fun y hy => let ⟨r3, a, b⟩ := h3 y hy; ⟨r3, a, rfl, fun _ => b⟩) (by omega)
      rw [List.filter_eq_self.mpr (fun _ _ => rfl)] at this
      exact this
    rw [e1', bind_ok, comp2_of e e1 ys g xs (acc ++ (ys x).map (g x)) (fun y hy => h y (List.mem_cons_of_mem _ hy)) (by rw [List.length_append, List.length_map]; omega)]
    simp
theorem e_comp2A (e : β → W) (e1 : γ → W) (xs : List β) (ys : β → List γ) (g : β → γ → PyData) (hi : fi r m = .ok ⟨xs.map e, none⟩ m)
    (h : ∀ x ∈ xs, ∃ r2, patF pt (e x) (wipeR r vs) = some r2 ∧ fi1 r2 m = .ok ⟨(ys x).map e1, none⟩ m ∧ ∀ y ∈ ys x, ∃ r3, patF pt1 (e1 y) (wipeR r2 vs1) = some r3 ∧ fe r3 m = .ok (.d (g x y)) m) (hl : (xs.flatMap fun x => (ys x).map (g x)).length ≤ 1000000) :
    fComp2 fi pt vs fYes fi1 pt1 vs1 fYes fe r m = .ok (.d (.list (xs.flatMap fun x => (ys x).map (g x)))) m := by
  unfold fComp2
  rw [hi, bind_ok, comp2_of e e1 ys g xs [] h (by simpa using hl)]
  rfl
end
theorem e_allF {l : List PyData} (h : ∀ x ∈ l, x = .bool true) (m : Mu) : gAll [.d (.list l)] m = .ok (.d (.bool true)) m := by
  have : l = l.map fun _ => .bool true := by
    refine (List.map_id l).symm.trans (List.map_congr_left fun x hx => h x hx)
  rw [this]
  exact e_allT l m
theorem flat_len {α β : Type} (f : α → List β) (k : Nat) : ∀ xs : List α, (∀ x ∈ xs, (f x).length ≤ k) → (xs.flatMap f).length ≤ xs.length * k
  | [], _ => by simp
  | x :: xs, h => by
    rw [List.flatMap_cons, List.length_append, List.length_cons, Nat.succ_mul]
    have := flat_len f k xs fun y hy => h y (List.mem_cons_of_mem _ hy)
    have := h x List.mem_cons_self
    omega
theorem v_house_ok {h : Hs} (ok : HsOk 3 3 h) (m : Mu) : f_is_house_value [.d (eH h)] m = .ok (.d (.bool true)) m := by
  have hs := ok.s
  have hn : 1 ≤ h.es.length := List.length_pos_iff.mpr ok.ne
  have hf := ok.few
  have h1 : f_has_items [.d (eH h), .d (.int 2), .d (.int 2)] m = .ok (.d (.bool true)) m := v_has_items _ 2 2 m
  have h2 : f_is_within [.d (.int h.s), .d (.int 2), .d (.int 3)] m = .ok (.d (.bool true)) m := by
    rw [v_is_within, decide_eq_true hs.1, decide_eq_true hs.2]
    rfl
  have h3 : f_has_items [.d (.tuple (h.es.map eE)), .d (.int 1), .d (.int 3)] m = .ok (.d (.bool true)) m := by
    rw [v_has_items, List.length_map, decide_eq_true (show (1 : Int) ≤ h.es.length by omega), decide_eq_true hf]
    rfl
  have i0 : gIx (.d (eH h)) (.d (.int 0)) m = .ok (.d (.int h.s)) m := tup0
  have i1 : gIx (.d (eH h)) (.d (.int 1)) m = .ok (.d (.tuple (h.es.map eE))) m := tup1
  have hp : patF (.tp [.nm 1, .nm 2]) (.d (eH h)) [some (.d (eH h)), none, none, none, none] = some [some (.d (eH h)), some (.d (.int h.s)), some (.d (.tuple (h.es.map eE))), none, none] := rfl
  have h4 : fComp (fSeq (fVar 2)) (.nm 3) [3] fYes (fCall 3 f_has_items (fCons (fVar 3) (fCons (fC (.int 1)) (fCons (fC (.int 3)) fNil)))) [some (.d (eH h)), some (.d (.int h.s)), some (.d (.tuple (h.es.map eE))), none, none] m = .ok (.d (.list (h.es.map fun _ => .bool true))) m := by
    refine e_compA (fun ls : List Ln => W.d (eE ls)) (fun _ => .bool true) h.es ?_ (fun x hx => ⟨[some (.d (eH h)), some (.d (.int h.s)), some (.d (.tuple (h.es.map eE))), some (.d (eE x)), none], rfl, ?_⟩) (by omega)
    · rw [e_seqT (ds := h.es.map eE) (m' := m) rfl, List.map_map]
      rfl
    · obtain ⟨b1, b2, _⟩ := ok.errand x hx
      have b3 : 1 ≤ x.length := List.length_pos_iff.mpr b1
      have : f_has_items [.d (eE x), .d (.int 1), .d (.int 3)] m = .ok (.d (.bool true)) m := by
        unfold eE
        rw [v_has_items, List.length_map, decide_eq_true (show (1 : Int) ≤ x.length by omega), decide_eq_true b2]
        rfl
      simp [fVar, fC, fNil, fCons, fTup, fLst, fLstN, fBin, fChain_eq, fTb_eq, fAndT, fOrT, fNotT, fAndV_eq, fOrV_eq, fNotV_eq, fIf, fIsN, fNotN, fIsi, fCall, fBi, fRet, fSet, fAsg, fPar, fPar3, fIfS_eq, fThen, fDrop, fNext, fSt, startR, subTy, kBl, mkT, this]
  have h5 : fComp2 (fSeq (fVar 2)) (.nm 3) [3, 4] fYes (fSeq (fVar 3)) (.nm 4) [4] fYes (fCall 4 f_is_line (fCons (fVar 1) (fCons (fBi gLen (fCons (fVar 2) fNil)) (fCons (fBi gLen (fCons (fVar 3) fNil)) (fCons (fVar 4) fNil))))) [some (.d (eH h)), some (.d (.int h.s)), some (.d (.tuple (h.es.map eE))), none, none] m = .ok (.d (.list (h.es.flatMap fun x => x.map fun _ => .bool true))) m := by
    refine e_comp2A (fun ls : List Ln => W.d (eE ls)) (fun l : Ln => W.d (eL l)) h.es (fun ls => ls) (fun _ _ => .bool true) ?_ (fun x hx => ⟨[some (.d (eH h)), some (.d (.int h.s)), some (.d (.tuple (h.es.map eE))), some (.d (eE x)), none], rfl, ?_, fun y hy => ⟨[some (.d (eH h)), some (.d (.int h.s)), some (.d (.tuple (h.es.map eE))), some (.d (eE x)), some (.d (eL y))], rfl, ?_⟩⟩) ?_
    · rw [e_seqT (ds := h.es.map eE) (m' := m) rfl, List.map_map]
      rfl
    · rw [e_seqT (ds := x.map eL) (m' := m) rfl, List.map_map]
      rfl
    · obtain ⟨b1, b2, b3⟩ := ok.errand x hx
      have b4 := v_line_ok (b3 y hy) ⟨by omega, by omega⟩ m
      have l1 : gLen [.d (eE x)] m = .ok (.d (.int x.length)) m := by
        unfold eE
        rw [len_tup, List.length_map]
      simp [fVar, fC, fNil, fCons, fTup, fLst, fLstN, fBin, fChain_eq, fTb_eq, fAndT, fOrT, fNotT, fAndV_eq, fOrV_eq, fNotV_eq, fIf, fIsN, fNotN, fIsi, fCall, fBi, fRet, fSet, fAsg, fPar, fPar3, fIfS_eq, fThen, fDrop, fNext, fSt, startR, subTy, kBl, mkT, b4, l1]
    · have := flat_len (fun x : List Ln => x.map fun _ => PyData.bool true) 3 h.es fun x hx => by
        have := (ok.errand x hx).2.1
        simp
        omega
      omega
  have a1 := e_allT h.es m
  have a2 : gAll [.d (.list (h.es.flatMap fun x => x.map fun _ => .bool true))] m = .ok (.d (.bool true)) m := e_allF (fun x hx => by
    obtain ⟨y, _, hy⟩ := List.mem_flatMap.mp hx
    obtain ⟨_, _, e⟩ := List.mem_map.mp hy
    exact e.symm) m
  refine fnF_ret ?_
  unfold b_is_house_value
  simp [fVar, fC, fNil, fCons, fTup, fLst, fLstN, fBin, fChain_eq, fTb_eq, fAndT, fOrT, fNotT, fAndV_eq, fOrV_eq, fNotV_eq, fIf, fIsN, fNotN, fIsi, fCall, fBi, fRet, fSet, fAsg, fPar, fPar3, fIfS_eq, fThen, fDrop, fNext, fSt, startR, subTy, kBl, mkT, h1, h2, h3, h4, h5, a1, a2, i0, i1, hp]
theorem v_need_house {h : Hs} (ok : HsOk 3 3 h) (m : Mu) : f_need_house [.d (eH h)] m = .ok (.d .none) m := by
  refine fnF_next (r := [some (.d (eH h))]) ?_
  unfold b_need_house
  simp [fVar, fC, fNil, fCons, fTup, fLst, fLstN, fBin, fChain_eq, fTb_eq, fAndT, fOrT, fNotT, fAndV_eq, fOrV_eq, fNotV_eq, fIf, fIsN, fNotN, fIsi, fCall, fBi, fRet, fSet, fAsg, fPar, fPar3, fIfS_eq, fThen, fDrop, fNext, fSt, startR, subTy, kBl, mkT, v_house_ok ok]
theorem v_need_errand {h : Hs} (ok : HsOk 3 3 h) {e : Int} (he : 0 ≤ e ∧ e < h.es.length) (m : Mu) : f_need_errand [.d (eH h), .d (.int e)] m = .ok (.d .none) m := by
  have i1 : gIx (.d (eH h)) (.d (.int 1)) m = .ok (.d (.tuple (h.es.map eE))) m := tup1
  refine fnF_next (r := [some (.d (eH h)), some (.d (.int e))]) ?_
  unfold b_need_errand
  simp [fVar, fC, fNil, fCons, fTup, fLst, fLstN, fBin, fChain_eq, fTb_eq, fAndT, fOrT, fNotT, fAndV_eq, fOrV_eq, fNotV_eq, fIf, fIsN, fNotN, fIsi, fCall, fBi, fRet, fSet, fAsg, fPar, fPar3, fIfS_eq, fThen, fDrop, fNext, fSt, startR, subTy, kBl, mkT, v_is_within, i1, he.1, show e ≤ (h.es.length : Int) - 1 by omega]
theorem v_need_begin {h : Hs} (ok : HsOk 3 3 h) {e s : Int} (he : 0 ≤ e ∧ e < h.es.length) (hs : 0 ≤ s ∧ s < h.s) (m : Mu) : f_need_begin [.d (eH h), .d (.int e), .d (.int s)] m = .ok (.d .none) m := by
  have i0 : gIx (.d (eH h)) (.d (.int 0)) m = .ok (.d (.int h.s)) m := tup0
  refine fnF_next (r := [some (.d (eH h)), some (.d (.int e)), some (.d (.int s))]) ?_
  unfold b_need_begin
  simp [fVar, fC, fNil, fCons, fTup, fLst, fLstN, fBin, fChain_eq, fTb_eq, fAndT, fOrT, fNotT, fAndV_eq, fOrV_eq, fNotV_eq, fIf, fIsN, fNotN, fIsi, fCall, fBi, fRet, fSet, fAsg, fPar, fPar3, fIfS_eq, fThen, fDrop, fNext, fSt, startR, subTy, kBl, mkT, v_is_within, i0, v_need_house ok, v_need_errand ok he, hs.1, show s ≤ h.s - 1 by omega]
end Wy
set_option Elab.async false
set_option linter.all false
set_option maxRecDepth 100000
set_option maxHeartbeats 4000000
/-! M8: nodes, wishes. -/
namespace Wy
open PySem PySem.Spec PyProof.Rows L2 PySem.W
theorem enum_items (ds : List PyData) : enumW (ds.map W.d) = ds.zipIdx.map fun q => W.wt [.d (.int (q.2 : Int)), .d q.1] := by
  refine List.ext_getElem? fun i => ?_
  by_cases hi : i < ds.length
  · have h1 : (ds.map W.d)[i]? = some (W.d ds[i]) := by simp [hi]
    rw [enumW_at h1]
    simp [hi, mkT]
  · rw [List.getElem?_eq_none (by rw [enumW_len]; simp; omega), List.getElem?_eq_none (by simp; omega)]
theorem e_enumT {f : FE} {r : Rh} {m m' : Mu} {ds : List PyData} (h : f r m = .ok (.d (.tuple ds)) m') : fEnum f r m = .ok ⟨ds.zipIdx.map fun q => W.wt [.d (.int (q.2 : Int)), .d q.1], none⟩ m' := by
  unfold fEnum
  rw [h, bind_ok, ← enum_items]
  rfl
theorem zipIdx_map {α β : Type} (f : α → β) : ∀ (xs : List α) (k : Nat), (xs.map f).zipIdx k = (xs.zipIdx k).map fun q => (f q.1, q.2)
  | [], k => rfl
  | x :: xs, k => by
    rw [List.map_cons, List.zipIdx_cons, List.zipIdx_cons, List.map_cons, zipIdx_map f xs (k + 1)]
/-- a place: errand, line, state -/
structure Nd where
  e : Nat
  a : Nat
  s : Nat
def eN (n : Nd) : PyData := .tuple [.int (n.e : Int), .int (n.a : Int), .int (n.s : Int)]
/-- the store of a def: what was there, a list, more -/
def St1 (m0 : Mu) (ob : Ob) (m : Mu) : Prop := ∃ g, m = m0 ++ ob :: g
theorem St1.at_ {m0 m : Mu} {ob : Ob} (h : St1 m0 ob m) : m[m0.length]? = some ob := by
  obtain ⟨g, rfl⟩ := h
  simp
theorem St1.take {m0 m : Mu} {ob : Ob} (h : St1 m0 ob m) : m.take m0.length = m0 := by
  obtain ⟨g, rfl⟩ := h
  simp
theorem St1.lt {m0 m : Mu} {ob : Ob} (h : St1 m0 ob m) : m0.length < m.length := by
  obtain ⟨g, rfl⟩ := h
  simp
theorem St1.app {m0 m : Mu} {ob x : Ob} (h : St1 m0 ob m) : St1 m0 ob (m ++ [x]) := by
  obtain ⟨g, rfl⟩ := h
  exact ⟨g ++ [x], by simp⟩
theorem St1.set {m0 m : Mu} {ob ob' : Ob} (h : St1 m0 ob m) : St1 m0 ob' (m.set m0.length ob') := by
  obtain ⟨g, rfl⟩ := h
  exact ⟨g, by simp⟩
/-- what a house has at most (a line may be without options) -/
structure LnB (l : Ln) : Prop where
  few : l.opts.length ≤ 3
structure HsB (h : Hs) : Prop where
  s : 2 ≤ h.s ∧ h.s ≤ 3
  few : (h.es.length : Int) ≤ 3
  errand : ∀ ls ∈ h.es, True ∧ (ls.length : Int) ≤ 3 ∧ ∀ l ∈ ls, LnB l
theorem HsOk.b {h : Hs} (ok : HsOk 3 3 h) : HsB h := ⟨ok.s, ok.few, fun ls hl => ⟨trivial, (ok.errand ls hl).2.1, fun l h2 => ⟨((ok.errand ls hl).2.2 l h2).few⟩⟩⟩
end Wy
set_option Elab.async false
set_option linter.all false
set_option maxRecDepth 100000
set_option maxHeartbeats 4000000
/-! M9: the law's nodes; wishes. -/
namespace Wy
open PySem PySem.Spec PyProof.Rows L2 PySem.W
theorem at_zipIdx {α : Type} {q : α × Nat} {xs : List α} (h : q ∈ xs.zipIdx) : xs[q.2]? = some q.1 := by
  have := List.mem_zipIdx_iff_getElem?.mp h
  simpa using this
theorem k_set {i : Nat} {fe : FE} {r : Rh} {m m1 : Mu} {w : W} (h : fe r m = .ok w m1) : fSet i fe r m = .next (r.set i (some w)) m1 := by
  unfold fSet
  rw [h]
  rfl
theorem k_bin {g : W → W → Mu → R W} {fa fb : FE} {r : Rh} {m m1 m2 : Mu} {a b : W} {x : R W} (h1 : fa r m = .ok a m1) (h2 : fb r m1 = .ok b m2) (h3 : g a b m2 = x) : fBin g fa fb r m = x := by
  unfold fBin
  rw [h1, bind_ok, h2, bind_ok, h3]
theorem k_var {i : Nat} {r : Rh} {m : Mu} {w : W} (h : r[i]? = some (some w)) : fVar i r m = .ok w m := by
  unfold fVar
  rw [h]
theorem k_for {fi : FI} {pt : Pat} {fb : FS} {r : Rh} {m m1 : Mu} {its : ItS} {x : SR} (h : fi r m = .ok its m1) (h2 : forF its.src pt fb its.items r m1 = x) : fFor fi pt fb r m = x := by
  unfold fFor
  rw [h, toS_ok, h2]
theorem k_then {f g : FS} {r r1 : Rh} {m m1 : Mu} {x : SR} (h : f r m = .next r1 m1) (h2 : g r1 m1 = x) : fThen f g r m = x := by
  unfold fThen
  rw [h, then_next, h2]
end Wy
set_option Elab.async false
set_option linter.all false
set_option maxRecDepth 100000
set_option maxHeartbeats 4000000
/-! M10: wishes. -/
namespace Wy
open PySem PySem.Spec PyProof.Rows L2 PySem.W
def eW (ns : List Int) : PyData := .tuple (dI ns)
/-- one state more -/
def more (acc : List (List Int)) (st : Int) : List (List Int) := acc ++ acc.map (· ++ [st])
end Wy
set_option Elab.async false
set_option linter.all false
set_option maxRecDepth 100000
set_option maxHeartbeats 4000000
/-! M11: options at a place; who chooses; keys. -/
namespace Wy
open PySem PySem.Spec PyProof.Rows L2 PySem.W
theorem shaped_ints (ns : List Int) : SeqAt.shaped (.tuple (dI ns)) = true := by
  unfold SeqAt.shaped
  simp [PyData.canLay0, PyData.depth, depth_intsD, lay_ints]
theorem shaped_int (i : Int) : SeqAt.shaped (.int i) = true := rfl
/-- st is one of ns -/
def hasI (ns : List Int) (st : Int) : Bool := ns.any fun n => n == st
theorem e_inI {st : Int} {ns : List Int} {m : Mu} : gIn (.d (.int st)) (.d (.tuple (dI ns))) m = .ok (.d (.bool (hasI ns st))) m := by
  have h : pIn (.int st) (.tuple (dI ns)) = some (hasI ns st) := by
    unfold pIn
    simp only [shaped_int, shaped_ints, Bool.and_self, if_true]
    congr 1
    unfold hasI
    induction ns with
    | nil => rfl
    | cons n ns ih =>
      rw [show dI (n :: ns) = .int n :: dI ns from rfl, List.any_cons, ih]
      rfl
  show (match pIn (.int st) (.tuple (dI ns)) with | some k => kBl k m | none => .bad) = _
  rw [h]
/-- a line of the house -/
theorem e_house {h : Hs} {e a : Nat} {ls : List Ln} {l : Ln} (he : h.es[e]? = some ls) (ha : ls[a]? = some l) (m : Mu) :
    gIx (.d (eH h)) (.d (.int 1)) m = .ok (.d (.tuple (h.es.map eE))) m ∧ gIx (.d (.tuple (h.es.map eE))) (.d (.int (e : Int))) m = .ok (.d (eE ls)) m ∧ gIx (.d (eE ls)) (.d (.int (a : Int))) m = .ok (.d (eL l)) m ∧
      gIx (.d (eL l)) (.d (.int 1)) m = .ok (.d (.tuple (l.opts.map eO))) m ∧ gIx (.d (eL l)) (.d (.int 0)) m = .ok (.d (whoD l.me)) m :=
  ⟨tup1, ix_tup (atN (by simp [he])), ix_tup (atN (by simp [ha])), tup1, tup0⟩
theorem v_open {h : Hs} {e a : Nat} {ls : List Ln} {l : Ln} {st : Int} (he : h.es[e]? = some ls) (ha : ls[a]? = some l) (hf : l.opts.length ≤ 1000) (m : Mu) :
    f_open_options [.d (eH h), .d (.int (e : Int)), .d (.int (a : Int)), .d (.int st)] m = .ok (.d (.list ((l.opts.zipIdx.filter fun q => hasI q.1.need st).map fun q => .int (q.2 : Int)))) m := by
  obtain ⟨i1, i2, i3, i4, _⟩ := e_house he ha m
  have hi := e_enumT (f := fVar 4) (r := [some (.d (eH h)), some (.d (.int (e : Int))), some (.d (.int (a : Int))), some (.d (.int st)), some (.d (.tuple (l.opts.map eO))), none, none]) (m := m) (m' := m) (ds := l.opts.map eO) rfl
  rw [zipIdx_map, List.map_map] at hi
  have hc := e_comp (pt := .tp [.nm 5, .nm 6]) (vs := [5, 6]) (ft := fTb (fBin gIn (fVar 3) (fBin gIx (fVar 6) (fC (.int 0))))) (fe := fVar 5) (m := m) (m1 := m) (fun q : Opt × Nat => W.wt [.d (.int (q.2 : Int)), .d (eO q.1)]) (fun q => hasI q.1.need st) (fun q => .int (q.2 : Int)) l.opts.zipIdx hi
    (fun q _ => ⟨[some (.d (eH h)), some (.d (.int (e : Int))), some (.d (.int (a : Int))), some (.d (.int st)), some (.d (.tuple (l.opts.map eO))), some (.d (.int (q.2 : Int))), some (.d (eO q.1))], rfl, by
      have i0 : gIx (.d (eO q.1)) (.d (.int 0)) m = .ok (.d (.tuple (dI q.1.need))) m := tup0
      simp [fVar, fC, fNil, fCons, fTup, fLst, fLstN, fBin, fChain_eq, fTb_eq, fAndT, fOrT, fNotT, fAndV_eq, fOrV_eq, fNotV_eq, fIf, fIsN, fNotN, fIsi, fCall, fBi, fRet, fSet, fAsg, fPar, fPar3, fIfS_eq, fThen, fDrop, fNext, fSt, startR, subTy, kBl, mkT, i0, e_inI], fun _ => rfl⟩) (by simp; omega)
  refine fnF_ret ?_
  unfold b_open_options
  refine k_then (r1 := [some (.d (eH h)), some (.d (.int (e : Int))), some (.d (.int (a : Int))), some (.d (.int st)), some (.d (.tuple (l.opts.map eO))), none, none]) (m1 := m) ?_ ?_
  · simp [fVar, fC, fNil, fCons, fTup, fLst, fLstN, fBin, fChain_eq, fTb_eq, fAndT, fOrT, fNotT, fAndV_eq, fOrV_eq, fNotV_eq, fIf, fIsN, fNotN, fIsi, fCall, fBi, fRet, fSet, fAsg, fPar, fPar3, fIfS_eq, fThen, fDrop, fNext, fSt, startR, subTy, kBl, mkT, i1, i2, i3, i4]
  · unfold fRet
    rw [hc]
    rfl
end Wy
set_option Elab.async false
set_option linter.all false
set_option maxRecDepth 100000
set_option maxHeartbeats 4000000
/-! M12: one option wins. -/
namespace Wy
open PySem PySem.Spec PyProof.Rows L2 PySem.W
end Wy
set_option Elab.async false
set_option linter.all false
set_option maxRecDepth 100000
set_option maxHeartbeats 4000000
/-! M13: the law's word for one option. -/
namespace Wy
open PySem PySem.Spec PyProof.Rows L2 PySem.W
theorem k_thenR {f g : FS} {r : Rh} {m m1 : Mu} {k : Bool} {w : W} (h : f r m = .ret k w m1) : fThen f g r m = .ret k w m1 := by
  unfold fThen
  rw [h, then_ret]
theorem shapedL (ns : List Int) : SeqAt.shaped (.list (dI ns)) = true := by
  unfold SeqAt.shaped
  simp [PyData.canLay0, PyData.depth, depth_intsD, lay_ints]
end Wy
set_option Elab.async false
set_option linter.all false
set_option maxRecDepth 100000
set_option maxHeartbeats 4000000
/-! M14: a node wins: the program's word, the law's word. -/
namespace Wy
open PySem PySem.Spec PyProof.Rows L2 PySem.W
end Wy
set_option Elab.async false
set_option linter.all false
set_option maxRecDepth 100000
set_option maxHeartbeats 4000000
/-! M15: the law's word for a node. -/
namespace Wy
open PySem PySem.Spec PyProof.Rows L2 PySem.W
/-- how many of os win -/
def good (p : Opt → Bool) (os : List Opt) : Nat := (os.filter p).length
end Wy
set_option Elab.async false
set_option linter.all false
set_option maxRecDepth 100000
set_option maxHeartbeats 4000000
/-! M16: rounds. -/
namespace Wy
open PySem PySem.Spec PyProof.Rows L2 PySem.W
abbrev Pr := Nd × List Int
/-- one try -/
noncomputable def tryP (good : List Pr → Pr → Bool) (ps : List Pr) (p : Pr) : List Pr := open Classical in if p ∈ ps then ps else if good ps p = true then ps ++ [p] else ps
noncomputable def roundP (good : List Pr → Pr → Bool) (all ps : List Pr) : List Pr := all.foldl (tryP good) ps
/-- distinct, and of all -/
structure SubP (all ps : List Pr) : Prop where
  nd : ps.Nodup
  sub : ∀ p ∈ ps, p ∈ all
theorem SubP.tryP {good : List Pr → Pr → Bool} {all ps : List Pr} {p : Pr} (h : SubP all ps) (hp : p ∈ all) : SubP all (tryP good ps p) := by
  unfold Wy.tryP
  split
  · exact h
  · rename_i hn
    split
    · refine ⟨List.nodup_append.mpr ⟨h.nd, by simp, fun a ha b hb e => ?_⟩, fun q hq => ?_⟩
      · rw [List.mem_singleton.mp hb] at e
        exact hn (e ▸ ha)
      · rcases List.mem_append.mp hq with hq | hq
        · exact h.sub q hq
        · rw [List.mem_singleton.mp hq]; exact hp
    · exact h
theorem SubP.round {good : List Pr → Pr → Bool} {all : List Pr} : ∀ {l ps : List Pr}, SubP all ps → (∀ p ∈ l, p ∈ all) → SubP all (roundP good l ps)
  | [], _, h, _ => h
  | p :: l, ps, h, hl => SubP.round (ps := Wy.tryP good ps p) (h.tryP (hl p List.mem_cons_self)) fun q hq => hl q (List.mem_cons_of_mem _ hq)
theorem nodup_len {α : Type} : ∀ {l D : List α}, l.Nodup → (∀ x ∈ l, x ∈ D) → l.length ≤ D.length
  | [], _, _, _ => Nat.zero_le _
  | x :: l, D, hn, hs => by
    obtain ⟨h1, h2⟩ := List.nodup_cons.mp hn
    obtain ⟨A, B, rfl⟩ := List.append_of_mem (hs x List.mem_cons_self)
    have : l.length ≤ (A ++ B).length := nodup_len h2 fun y hy => by
      have := hs y (List.mem_cons_of_mem _ hy)
      rcases List.mem_append.mp this with z | z
      · exact List.mem_append_left _ z
      · rcases List.mem_cons.mp z with e | z
        · rw [e] at hy; exact absurd hy h1
        · exact List.mem_append_right _ z
    rw [List.length_append] at this
    rw [List.length_cons, List.length_append, List.length_cons]
    omega
theorem SubP.len {all ps : List Pr} (h : SubP all ps) : ps.length ≤ all.length := nodup_len h.nd h.sub
end Wy
set_option Elab.async false
set_option linter.all false
set_option maxRecDepth 100000
set_option maxHeartbeats 4000000
/-! M17: one try, in the program and in the law. -/
namespace Wy
open PySem PySem.Spec PyProof.Rows L2 PySem.W
end Wy
set_option Elab.async false
set_option linter.all false
set_option maxRecDepth 100000
set_option maxHeartbeats 4000000
/-! M18: the table, in the program and in the law. -/
namespace Wy
open PySem PySem.Spec PyProof.Rows L2 PySem.W
end Wy
set_option Elab.async false
set_option linter.all false
set_option maxRecDepth 100000
set_option maxHeartbeats 4000000
/-! M19: the table, in the program and in the law. -/
namespace Wy
open PySem PySem.Spec PyProof.Rows L2 PySem.W
theorem k_nil {r : Rh} {m : Mu} : fNil r m = .ok [] m := rfl
theorem k_cons {f : FE} {g : FA} {r : Rh} {m m1 m2 : Mu} {w : W} {ws : List W} (h1 : f r m = .ok w m1) (h2 : g r m1 = .ok ws m2) : fCons f g r m = .ok (w :: ws) m2 := by
  unfold fCons
  rw [h1, bind_ok, h2, bind_ok]
end Wy
set_option Elab.async false
set_option linter.all false
set_option maxRecDepth 100000
set_option maxHeartbeats 4000000
/-! M20: the program's table. -/
namespace Wy
open PySem PySem.Spec PyProof.Rows L2 PySem.W
end Wy
set_option Elab.async false
set_option linter.all false
set_option maxRecDepth 100000
set_option maxHeartbeats 4000000
/-! M21: a line of another chooser. -/
namespace Wy
open PySem PySem.Spec PyProof.Rows L2 PySem.W
end Wy
set_option Elab.async false
set_option linter.all false
set_option maxRecDepth 100000
set_option maxHeartbeats 4000000
/-! M22: with_line, with_other, _law_put_line. -/
namespace Wy
open PySem PySem.Spec PyProof.Rows L2 PySem.W
theorem k_tup {fa : FA} {r : Rh} {m m1 : Mu} {ws : List W} (h : fa r m = .ok ws m1) (hl : ws.length ≤ 1000) : fTup fa r m = .ok (mkT ws) m1 := by
  unfold fTup
  rw [h, bind_ok, if_pos hl]
theorem k_ret {k : Bool} {fe : FE} {r : Rh} {m m1 : Mu} {w : W} (h : fe r m = .ok w m1) : fRet k fe r m = .ret k w m1 := by
  unfold fRet
  rw [h, toS_ok]
theorem lt_of_at {α : Type} {xs : List α} {i : Nat} {x : α} (h : xs[i]? = some x) : i < xs.length := (List.getElem?_eq_some_iff.mp h).1
end Wy
set_option Elab.async false
set_option linter.all false
set_option maxRecDepth 100000
set_option maxHeartbeats 4000000
/-! M23: turning_lines. -/
namespace Wy
open PySem PySem.Spec PyProof.Rows L2 PySem.W
end Wy
set_option Elab.async false
set_option linter.all false
set_option maxRecDepth 100000
set_option maxHeartbeats 4000000
/-! M24: turning_lines. -/
namespace Wy
open PySem PySem.Spec PyProof.Rows L2 PySem.W
end Wy
set_option Elab.async false
set_option linter.all false
set_option maxRecDepth 100000
set_option maxHeartbeats 4000000
/-! M25: a new deck; _law_same of like data. -/
namespace Wy
open PySem PySem.Spec PyProof.Rows L2 PySem.W
theorem fnF_retN {n : Nat} {fs : FS} {ws : List W} {m : Mu} {o : Ob} (h : fs (startR n ws) m = .ret true (.loc m.length) (m ++ [o])) (f : flatO o = true := by rfl) : fnF n fs ws m = .ok (.loc m.length) (m ++ [o]) := by
  unfold fnF
  rw [h]
  simp [finW, f]
theorem v_deck (c t : Int) (ht : 0 ≤ t) (m : Mu) : ∃ o, f__law_deck [.d (.int c), .d (.int t)] m = .ok (.loc m.length) (m ++ [o]) ∧ Dk (m ++ [o]) m.length t := by
  have e1 : gPow (.d (.int 10)) (.d (.int 18)) m = .ok (.d (.int (10 ^ 18))) m := e_pow (by decide) (by decide) (by decide)
  have e2 : gMod (.d (.int c)) (.d (.int 2147483579)) m = .ok (.d (.int (c % 2147483579))) m := e_mod (by decide)
  have q1 : 0 ≤ c % 2147483579 := Int.emod_nonneg _ (by decide)
  have q2 : c % 2147483579 < 2147483579 := Int.emod_lt_of_pos _ (by decide)
  have e3 : gO cGe (.d (.int c)) (.d (.int (10 ^ 18))) m = .ok (.d (.bool (decide ((10 : Int) ^ 18 ≤ c)))) m := e_ge
  by_cases h : (10 : Int) ^ 18 ≤ c
  · rw [decide_eq_true h] at e3
    refine ⟨deckO (c - 10 ^ 18) (c % 2147483579) t, fnF_retN ?_, ⟨_, _, _, by simp; rfl, q1, by omega, ht, Int.le_refl _⟩⟩
    unfold b__law_deck
    have p1 : fIfS (fTb (fBin (gO cGe) (fVar 0) (fBin gPow (fC (.int 10)) (fC (.int 18))))) (fRet true (fLstN (fCons (fBin gSub (fVar 0) (fBin gPow (fC (.int 10)) (fC (.int 18)))) (fCons (fBin gMod (fVar 0) (fC (.int 2147483579))) (fCons (fVar 1) fNil))))) fNext (startR 2 [.d (.int c), .d (.int t)]) m = .ret true (.loc m.length) (m ++ [deckO (c - 10 ^ 18) (c % 2147483579) t]) := by
      have a1 : fBin gPow (fC (.int 10)) (fC (.int 18)) (startR 2 [.d (.int c), .d (.int t)]) m = .ok (.d (.int (10 ^ 18))) m := k_bin rfl rfl e1
      have a2 := k_bin (fa := fVar 0) (r := startR 2 [.d (.int c), .d (.int t)]) (m1 := m) (a := .d (.int c)) rfl a1 e3
      have a3 := k_bin (g := gSub) (fa := fVar 0) (r := startR 2 [.d (.int c), .d (.int t)]) (m1 := m) (a := .d (.int c)) rfl a1 (e_sub (m := m))
      have a4 : fBin gMod (fVar 0) (fC (.int 2147483579)) (startR 2 [.d (.int c), .d (.int t)]) m = .ok (.d (.int (c % 2147483579))) m := k_bin rfl rfl e2
      have a5 := k_cons a3 (k_cons a4 (k_cons (f := fVar 1) (m1 := m) (w := .d (.int t)) rfl k_nil))
      rw [fIfS_eq, fTb_eq, a2]
      simp only [bind_ok, onB_d, toS_ok, cond_true]
      refine k_ret ?_
      unfold fLstN
      rw [a5]
      rfl
    exact k_thenR p1
  · rw [decide_eq_false h] at e3
    refine ⟨deckO 0 (c % 2147483579) t, fnF_retN ?_, ⟨_, _, _, by simp; rfl, q1, by omega, ht, Int.le_refl _⟩⟩
    unfold b__law_deck
    have a1 : fBin gPow (fC (.int 10)) (fC (.int 18)) (startR 2 [.d (.int c), .d (.int t)]) m = .ok (.d (.int (10 ^ 18))) m := k_bin rfl rfl e1
    have a2 := k_bin (fa := fVar 0) (r := startR 2 [.d (.int c), .d (.int t)]) (m1 := m) (a := .d (.int c)) rfl a1 e3
    have a4 : fBin gMod (fVar 0) (fC (.int 2147483579)) (startR 2 [.d (.int c), .d (.int t)]) m = .ok (.d (.int (c % 2147483579))) m := k_bin rfl rfl e2
    have a5 := k_cons (f := fC (.int 0)) (r := startR 2 [.d (.int c), .d (.int t)]) (m1 := m) (w := .d (.int 0)) rfl (k_cons a4 (k_cons (f := fVar 1) (m1 := m) (w := .d (.int t)) rfl k_nil))
    refine k_then (r1 := startR 2 [.d (.int c), .d (.int t)]) (m1 := m) ?_ (k_ret ?_)
    · rw [fIfS_eq, fTb_eq, a2]
      rfl
    · unfold fLstN
      rw [a5]
      rfl
/-! ### the same -/
theorem k_call1 {F : Fn} {f1 : FE} {r : Rh} {m m1 : Mu} {w1 : W} {x : R W} (h1 : f1 r m = .ok w1 m1) (h : F [w1] m1 = x) : fCall 1 F (fCons f1 fNil) r m = x := by
  unfold fCall
  rw [k_cons h1 k_nil, bind_ok, ← h]
  rfl
theorem k_call2 {F : Fn} {f1 f2 : FE} {r : Rh} {m m1 m2 : Mu} {w1 w2 : W} {x : R W} (h1 : f1 r m = .ok w1 m1) (h2 : f2 r m1 = .ok w2 m2) (h : F [w1, w2] m2 = x) : fCall 2 F (fCons f1 (fCons f2 fNil)) r m = x := by
  unfold fCall
  rw [k_cons h1 (k_cons h2 k_nil), bind_ok, ← h]
  rfl
theorem k_call3 {F : Fn} {f1 f2 f3 : FE} {r : Rh} {m m1 m2 m3 : Mu} {w1 w2 w3 : W} {x : R W} (h1 : f1 r m = .ok w1 m1) (h2 : f2 r m1 = .ok w2 m2) (h3 : f3 r m2 = .ok w3 m3) (h : F [w1, w2, w3] m3 = x) : fCall 3 F (fCons f1 (fCons f2 (fCons f3 fNil))) r m = x := by
  unfold fCall
  rw [k_cons h1 (k_cons h2 (k_cons h3 k_nil)), bind_ok, ← h]
  rfl
theorem k_call4 {F : Fn} {f1 f2 f3 f4 : FE} {r : Rh} {m m1 m2 m3 m4 : Mu} {w1 w2 w3 w4 : W} {x : R W} (h1 : f1 r m = .ok w1 m1) (h2 : f2 r m1 = .ok w2 m2) (h3 : f3 r m2 = .ok w3 m3) (h4 : f4 r m3 = .ok w4 m4) (h : F [w1, w2, w3, w4] m4 = x) : fCall 4 F (fCons f1 (fCons f2 (fCons f3 (fCons f4 fNil)))) r m = x := by
  unfold fCall
  rw [k_cons h1 (k_cons h2 (k_cons h3 (k_cons h4 k_nil))), bind_ok, ← h]
  rfl
theorem k_len {f1 : FE} {r : Rh} {m m1 : Mu} {ds : List PyData} (h1 : f1 r m = .ok (.d (.tuple ds)) m1) : fBi gLen (fCons f1 fNil) r m = .ok (.d (.int ds.length)) m1 := by
  unfold fBi
  rw [k_cons h1 k_nil, bind_ok]
  rfl
theorem Dm.new {m : Mu} {o : Ob} {t : Int} (h : Dk (m ++ [o]) m.length t) : Dm (m ++ [o]) (m ++ [o]) m.length t := Dm.self h
theorem HsOk.three {most wide : Int} {h : Hs} (ok : HsOk most wide h) (h1 : most ≤ 3) (h2 : wide ≤ 3) : HsOk 3 3 h := by
  refine ⟨ok.s, ok.ne, by have := ok.few; omega, fun ls hl => ?_⟩
  obtain ⟨a, b, c⟩ := ok.errand ls hl
  exact ⟨a, by omega, c⟩
theorem cutL (ds : List PyData) (a : Nat) (m : Mu) : gSl (.d (.list ds)) none (some (a : Int)) m = .ok (.d (.list (ds.take a))) m := by
  show R.ok (W.d (.list (cutA ds none (some (a : Int))))) m = _
  unfold cutA
  rw [HT.sIx_nat, HT.sIx_none]
  congr 3
  show List.take (min a ds.length - 0) ds = _
  rw [Nat.sub_zero, ← List.take_take, List.take_length]
theorem e_cells (ns : List Int) (k : Nat) (hl : ns.length ≤ 63) {r : Rh} {m : Mu} (h : r[0]? = some (some (.d (.list (ns.map .int))))) :
    fSeq (fSl (fBin gAdd (fLst (fCons (fC (.int 0)) fNil)) (fVar 0)) fNoP (fPart (fC (.int (k : Int))))) r m = .ok ⟨((0 :: ns).take k).map (fun c : Int => W.d (.int c)), none⟩ m := by
  have a1 : fBin gAdd (fLst (fCons (fC (.int 0)) fNil)) (fVar 0) r m = .ok (.d (.list ((0 :: ns).map .int))) m := by
    refine k_bin (a := .d (.list [.int 0])) (m1 := m) rfl (k_var h) (e_addL ?_)
    rw [List.length_map]
    simp
    omega
  have hmm : ((0 :: ns).take k).map (fun c : Int => W.d (.int c)) = (((0 :: ns).map PyData.int).take k).map W.d := by
    rw [← List.map_take, List.map_map]
    rfl
  rw [hmm]
  refine e_seqL ?_
  unfold fSl fNoP fPart
  rw [a1]
  exact cutL _ k m
end Wy
set_option Elab.async false
set_option linter.all false
set_option maxRecDepth 100000
set_option maxHeartbeats 4000000
/-! M31: a house without an option. -/
namespace Wy
open PySem PySem.Spec PyProof.Rows L2 PySem.W
/-- an option of a line of an errand -/
structure Tr where
  e : Nat
  a : Nat
  k : Nat
deriving DecidableEq
def eT (t : Tr) : PyData := .tuple [.int (t.e : Int), .int (t.a : Int), .int (t.k : Int)]
end Wy
set_option Elab.async false
set_option linter.all false
set_option maxRecDepth 100000
set_option maxHeartbeats 4000000
/-! M32: all options of a house. -/
namespace Wy
open PySem PySem.Spec PyProof.Rows L2 PySem.W
end Wy
set_option Elab.async false
set_option linter.all false
set_option maxRecDepth 100000
set_option maxHeartbeats 4000000
/-! M40: the houses that are written out. -/
namespace Wy
open PySem PySem.Spec PyProof.Rows L2 PySem.W
instance decWish (k : Int) (ns : List Int) : Decidable (Wish k ns) := decidable_of_iff (ns ≠ [] ∧ ns.Pairwise (· < ·) ∧ ∀ x ∈ ns, 0 ≤ x ∧ x < k) ⟨fun ⟨a, b, c⟩ => ⟨a, b, c⟩, fun ⟨a, b, c⟩ => ⟨a, b, c⟩⟩
instance decOptOk (s many lines : Int) (o : Opt) : Decidable (OptOk s many lines o) := decidable_of_iff (Wish s o.need ∧ (-1 ≤ o.side ∧ o.side < many) ∧ (0 ≤ o.st ∧ o.st < s) ∧ (0 ≤ o.go ∧ o.go ≤ lines)) ⟨fun ⟨a, b, c, d⟩ => ⟨a, b, c, d⟩, fun ⟨a, b, c, d⟩ => ⟨a, b, c, d⟩⟩
theorem emp_iff {α : Type} {l : List α} : l.isEmpty = false ↔ l ≠ [] := by cases l <;> simp
instance decLnOk (s many lines : Int) (l : Ln) : Decidable (LnOk s many lines l) := decidable_of_iff (l.opts.isEmpty = false ∧ l.opts.length ≤ 3 ∧ (∀ o ∈ l.opts, OptOk s many lines o) ∧ strictB (l.opts.map eO) = true)
  ⟨fun ⟨a, b, c, d⟩ => ⟨emp_iff.mp a, b, c, d⟩, fun ⟨a, b, c, d⟩ => ⟨emp_iff.mpr a, b, c, d⟩⟩
instance decHsOk (most wide : Int) (h : Hs) : Decidable (HsOk most wide h) := decidable_of_iff ((2 ≤ h.s ∧ h.s ≤ 3) ∧ h.es.isEmpty = false ∧ (h.es.length : Int) ≤ most ∧ ∀ ls ∈ h.es, ls.isEmpty = false ∧ (ls.length : Int) ≤ wide ∧ ∀ l ∈ ls, LnOk h.s h.es.length ls.length l)
  ⟨fun ⟨a, b, c, d⟩ => ⟨a, emp_iff.mp b, c, fun ls hl => ⟨emp_iff.mp (d ls hl).1, (d ls hl).2⟩⟩, fun ⟨a, b, c, d⟩ => ⟨a, emp_iff.mpr b, c, fun ls hl => ⟨emp_iff.mpr (d ls hl).1, (d ls hl).2⟩⟩⟩
def oO (need : List Int) (side st go : Int) : Opt := ⟨need, side, st, go⟩
def lMe (os : List Opt) : Ln := ⟨true, os⟩
def lTh (os : List Opt) : Ln := ⟨false, os⟩
def lOver : Ln := lTh [oO [0, 1] (-1) 0 1, oO [0, 1] (-1) 1 1]
def hA : Hs := ⟨2, [[lMe [oO [0, 1] 1 0 1], lTh [oO [0] (-1) 0 2, oO [1] (-1) 1 0]], [lTh [oO [0] (-1) 0 1, oO [0] (-1) 1 1], lMe [oO [0, 1] (-1) 0 2, oO [1] 1 1 2]]]⟩
def hB : Hs := ⟨2, [[lMe [oO [0, 1] 1 0 1], lMe [oO [0] (-1) 1 2, oO [1] (-1) 1 2]], [lOver]]⟩
def hC : Hs := ⟨2, [[lOver], [lOver, lMe [oO [0] (-1) 0 2, oO [1] (-1) 1 2]]]⟩
def hD : Hs := ⟨2, [[lTh [oO [0] (-1) 1 1, oO [0] 0 0 1]]]⟩
end Wy
set_option Elab.async false
set_option linter.all false
set_option maxRecDepth 100000
set_option maxHeartbeats 4000000
/-! M33: what least_bans finds. -/
namespace Wy
open PySem PySem.Spec PyProof.Rows L2 PySem.W
def eB (ts : List Tr) : PyData := .tuple (ts.map eT)
/-! the data -/
end Wy
set_option Elab.async false
set_option linter.all false
set_option maxRecDepth 100000
set_option maxHeartbeats 4000000
/-! M34: least_bans. -/
namespace Wy
open PySem PySem.Spec PyProof.Rows L2 PySem.W
theorem k_if {ft : FT} {f g : FS} {r : Rh} {m m1 : Mu} {b : Bool} {x : SR} (h : ft r m = .ok b m1) (h2 : (bif b then f r m1 else g r m1) = x) : fIfS ft f g r m = x := by
  rw [fIfS_eq, h, toS_ok]
  exact h2
theorem k_tb {fe : FE} {r : Rh} {m m1 : Mu} {b : Bool} (h : fe r m = .ok (.d (.bool b)) m1) : fTb fe r m = .ok b m1 := by
  rw [fTb_eq, h]
  rfl
theorem k_and {f g : FT} {r : Rh} {m m1 : Mu} {a b : Bool} (h1 : f r m = .ok a m1) (h2 : a = true → g r m1 = .ok b m1) : fAndT f g r m = .ok (a && b) m1 := by
  unfold fAndT
  rw [h1, bind_ok]
  cases a with
  | false => rfl
  | true => simpa using h2 rfl
theorem k_not {f : FT} {r : Rh} {m m1 : Mu} {a : Bool} (h1 : f r m = .ok a m1) : fNotT f r m = .ok (!a) m1 := by
  unfold fNotT
  rw [h1]
  rfl
def rB (h : Hs) (e st : Int) (w : List Int) (x4 x5 x6 x7 x8 x9 : Option W) : Rh := [some (.d (eH h)), some (.d (.int e)), some (.d (.int st)), some (.d (eW w)), x4, x5, x6, x7, x8, x9]
section
variable {h : Hs} {e st : Int} {w : List Int} {x4 x6 x7 x8 x9 : Option W} {m0 m : Mu}
end
end Wy
set_option Elab.async false
set_option linter.all false
set_option maxRecDepth 100000
set_option maxHeartbeats 4000000
/-! M35: what the law of options to be forbidden holds against it. -/
namespace Wy
open PySem PySem.Spec PyProof.Rows L2 PySem.W
section
variable {a0 a1 a2 x10 x11 x12 x13 x14 x15 x16 x17 : Option W} {h : Hs} {e st : Int} {w : List Int} {m0 m : Mu}
end
/-! the two are the same -/
end Wy
set_option Elab.async false
set_option linter.all false
set_option maxRecDepth 100000
set_option maxHeartbeats 4000000
/-! M36: one cell. -/
namespace Wy
open PySem PySem.Spec PyProof.Rows L2 PySem.W
section
variable {a0 a1 a2 x9 x10 x11 x12 x13 x14 x15 x16 x17 : Option W} {h : Hs} {e st : Int} {w : List Int} {m : Mu}
theorem k_ifE {ft : FT} {f g : FE} {r : Rh} {m m1 : Mu} {b : Bool} {x : R W} (h : ft r m = .ok b m1) (h2 : (bif b then f r m1 else g r m1) = x) : fIf ft f g r m = x := by
  unfold fIf
  rw [h, bind_ok]
  cases b <;> exact h2
end
end Wy
set_option Elab.async false
set_option linter.all false
set_option maxRecDepth 100000
set_option maxHeartbeats 4000000
/-! M42: sorted lists of the same things are the same; the begins and wishes of an errand that are won. -/
namespace Wy
open PySem PySem.Spec PyProof.Rows L2 PySem.W
section
variable {α : Type} {f : α → PyData}
end
end Wy
set_option Elab.async false
set_option linter.all false
set_option maxRecDepth 100000
set_option maxHeartbeats 4000000
/-! M50: what is recognized, of any data: the program's word. -/
namespace Wy
open PySem PySem.Spec PyProof.Rows L2 PySem.W
/-! ### data of a bounded form -/
def scal : PyData → Bool
  | .none => true
  | .bool _ => true
  | .int _ => true
  | .str x => PyData.strOk x
  | _ => false
def tame (L : Nat) : Nat → PyData → Bool
  | 0, x => scal x
  | k + 1, x => match x with
    | .tuple xs => decide (xs.length ≤ L) && xs.all (tame L k)
    | .list xs => decide (xs.length ≤ L) && xs.all (tame L k)
    | x => scal x
theorem tame_scal {L k : Nat} {x : PyData} (h : scal x = true) : tame L k x = true := by
  cases k with
  | zero => exact h
  | succ k => cases x <;> first | exact h | cases h
theorem tame_tup {L k : Nat} {xs : List PyData} : tame L (k + 1) (.tuple xs) = true ↔ xs.length ≤ L ∧ ∀ x ∈ xs, tame L k x = true := by
  show (decide (xs.length ≤ L) && xs.all (tame L k)) = true ↔ _
  rw [Bool.and_eq_true, decide_eq_true_iff, List.all_eq_true]
theorem tame_lst {L k : Nat} {xs : List PyData} : tame L (k + 1) (.list xs) = true ↔ xs.length ≤ L ∧ ∀ x ∈ xs, tame L k x = true := by
  show (decide (xs.length ≤ L) && xs.all (tame L k)) = true ↔ _
  rw [Bool.and_eq_true, decide_eq_true_iff, List.all_eq_true]
theorem tame_mono {L L' : Nat} (hl : L ≤ L') : ∀ {k k' : Nat} {x : PyData}, k ≤ k' → tame L k x = true → tame L' k' x = true
  | 0, k', x, _, h => tame_scal h
  | k + 1, 0, x, hk, h => by omega
  | k + 1, k' + 1, x, hk, h => by
    have hk' : k ≤ k' := by omega
    cases x with
    | tuple xs => exact tame_tup.mpr ⟨Nat.le_trans (tame_tup.mp h).1 hl, fun y hy => tame_mono hl hk' ((tame_tup.mp h).2 y hy)⟩
    | list xs => exact tame_lst.mpr ⟨Nat.le_trans (tame_lst.mp h).1 hl, fun y hy => tame_mono hl hk' ((tame_lst.mp h).2 y hy)⟩
    | _ => exact h
def Tm (x : PyData) : Prop := tame 20 20 x = true
def nd1 : PyData → Bool
  | .dict _ => false
  | _ => true
theorem tame_nd {L k : Nat} {x : PyData} (h : tame L k x = true) : nd1 x = true := by
  cases x with
  | dict _ => cases k <;> cases h
  | _ => rfl
theorem Tm.nd {x : PyData} (h : Tm x) : nd1 x = true := tame_nd h
theorem Tm.tup {xs : List PyData} (h : Tm (.tuple xs)) : xs.length ≤ 20 ∧ ∀ x ∈ xs, Tm x :=
  ⟨(tame_tup.mp h).1, fun x hx => tame_mono (Nat.le_refl _) (by decide) ((tame_tup.mp h).2 x hx)⟩
theorem tame_lay {L : Nat} : ∀ {k : Nat} {x : PyData}, tame L k x = true → x.canLay0 = true ∧ x.depth ≤ k
  | 0, x, h => by
    cases x with
    | str x => exact ⟨by rw [PyData.canLay0]; exact h, Nat.le_of_eq (by simp [PyData.depth])⟩
    | none => exact ⟨by simp [PyData.canLay0], Nat.le_of_eq (by simp [PyData.depth])⟩
    | bool _ => exact ⟨by simp [PyData.canLay0], Nat.le_of_eq (by simp [PyData.depth])⟩
    | int _ => exact ⟨by simp [PyData.canLay0], Nat.le_of_eq (by simp [PyData.depth])⟩
    | _ => cases h
  | k + 1, x, h => by
    have go : ∀ xs : List PyData, (∀ x ∈ xs, tame L k x = true) → PyData.canLayAll0 xs = true ∧ PyData.depthAll xs ≤ k := by
      intro xs
      induction xs with
      | nil => exact fun _ => ⟨by simp [PyData.canLayAll0], by simp [PyData.depthAll]⟩
      | cons y ys ih =>
        intro hy
        obtain ⟨a1, a2⟩ := ih fun z hz => hy z (List.mem_cons_of_mem _ hz)
        obtain ⟨b1, b2⟩ := tame_lay (hy y List.mem_cons_self)
        refine ⟨by rw [PyData.canLayAll0, a1, b1]; rfl, ?_⟩
        rw [PyData.depthAll]
        omega
    cases x with
    | tuple xs =>
      obtain ⟨a1, a2⟩ := go xs (tame_tup.mp h).2
      exact ⟨by rw [PyData.canLay0]; exact a1, by rw [PyData.depth]; omega⟩
    | list xs =>
      obtain ⟨a1, a2⟩ := go xs (tame_lst.mp h).2
      exact ⟨by rw [PyData.canLay0]; exact a1, by rw [PyData.depth]; omega⟩
    | str x => exact ⟨by rw [PyData.canLay0]; exact h, by simp [PyData.depth]⟩
    | none => exact ⟨by simp [PyData.canLay0], by simp [PyData.depth]⟩
    | bool _ => exact ⟨by simp [PyData.canLay0], by simp [PyData.depth]⟩
    | int _ => exact ⟨by simp [PyData.canLay0], by simp [PyData.depth]⟩
    | dict _ => cases h
theorem Tm.shaped {x : PyData} (h : Tm x) : SeqAt.shaped x = true := by
  obtain ⟨a, b⟩ := tame_lay h
  unfold SeqAt.shaped
  rw [a, decide_eq_true (by omega)]
  rfl
/-! ### single tests -/
section
variable {r : Rh} {m m1 : Mu}
theorem k_andV {fa fb : FE} {a : Bool} {x : R W} (h1 : fa r m = .ok (.d (.bool a)) m1) (h2 : (bif a then fb r m1 else .ok (.d (.bool false)) m1) = x) : fAndV fa fb r m = x := by
  rw [fAndV_eq, h1, bind_ok, onB_d, h2]
theorem k_notV {fa : FE} {a : Bool} (h1 : fa r m = .ok (.d (.bool a)) m1) : fNotV fa r m = .ok (.d (.bool (!a))) m1 := by
  rw [fNotV_eq, h1, bind_ok, onB_d]
/-- what kind a datum is of -/
def isK (T : String) (x : PyData) : Bool := match x with
  | .none => subTy "NoneType" T
  | .bool _ => subTy "bool" T
  | .int _ => subTy "int" T
  | .str _ => subTy "str" T
  | .list _ => subTy "list" T
  | .tuple _ => subTy "tuple" T
  | .dict _ => false
theorem k_isi {T : String} {f : FE} {x : PyData} (h : f r m = .ok (.d x) m1) (hx : nd1 x = true) : fIsi T f r m = .ok (.d (.bool (isK T x))) m1 := by
  unfold fIsi
  rw [h, bind_ok]
  cases x <;> first | rfl | cases hx
end
def isW (lo hi : Int) : PyData → Bool
  | .int v => decide (lo ≤ v) && decide (v ≤ hi)
  | _ => false
def hasT (lo hi : Int) : PyData → Bool
  | .tuple xs => decide (lo ≤ xs.length) && decide ((xs.length : Int) ≤ hi)
  | _ => false
theorem w_within {x : PyData} (hx : nd1 x = true) (lo hi : Int) (m : Mu) : f_is_within [.d x, .d (.int lo), .d (.int hi)] m = .ok (.d (.bool (isW lo hi x))) m := by
  cases x with
  | int v => exact v_is_within v lo hi m
  | dict _ => cases hx
  | _ =>
    refine fnF_ret (k_ret ?_)
    refine k_andV (k_isi (f := fVar 0) rfl rfl) ?_
    first
      | rfl
      | exact k_andV (k_notV (k_isi (f := fVar 0) rfl rfl)) rfl
theorem w_has {x : PyData} (hx : nd1 x = true) (lo hi : Int) (m : Mu) : f_has_items [.d x, .d (.int lo), .d (.int hi)] m = .ok (.d (.bool (hasT lo hi x))) m := by
  cases x with
  | tuple v => exact v_has_items v lo hi m
  | dict _ => cases hx
  | _ =>
    refine fnF_ret (k_ret ?_)
    exact k_andV (k_isi (f := fVar 0) rfl rfl) rfl
/-! ### some states -/
/-! ### an option -/
end Wy
set_option Elab.async false
set_option linter.all false
set_option maxRecDepth 100000
set_option maxHeartbeats 4000000
/-! M51: lines and houses, of any data: the program's word. -/
namespace Wy
open PySem PySem.Spec PyProof.Rows L2 PySem.W
theorem k_bi1 {g : List W → Mu → R W} {f : FE} {r : Rh} {m m1 : Mu} {w : W} {x : R W} (h : f r m = .ok w m1) (hg : g [w] m1 = x) : fBi g (fCons f fNil) r m = x := by
  unfold fBi
  rw [k_cons h k_nil, bind_ok, hg]
/-! ### strict order -/
/-! ### me, they -/
/-! ### a line -/
/-! ### a house -/
end Wy
set_option Elab.async false
set_option linter.all false
set_option maxRecDepth 100000
set_option maxHeartbeats 4000000
/-! W60: objects of own classes: fields, methods, properties, making. -/
namespace Wy
open PySem PySem.Spec PyProof.Rows L2
/-! ### fields -/
def putS (f : Str) (d : PyData) : List (Str × PyData) → List (Str × PyData)
  | [] => [(f, d)]
  | (g, x) :: r => if g = f then (g, d) :: r else (g, x) :: putS f d r
section
variable {p : Pl} {H : Hp} {B : List Addr} {f : Str}
theorem look_cons {α : Type} {g : Str} {x : α} {r : List (Str × α)} : List.lookup f ((g, x) :: r) = if f = g then some x else List.lookup f r := by
  rw [List.lookup_cons]
  by_cases c : f = g
  · rw [if_pos c, beq_iff_eq.mpr c]
  · rw [if_neg c, beq_eq_false_iff_ne.mpr c]
theorem fld_at : ∀ {fs : List (Str × PyData)} {vs : List V} {d : PyData}, DVs p H B vs (fs.map (·.2)) → fs.lookup f = some d → ∃ v, ((fs.map (·.1)).zip vs).lookup f = some v ∧ DV p H B v d
  | [], _, _, _, e => by cases e
  | (g, x) :: fs, _, d, .cons (v := v) h t, e => by
    rw [look_cons] at e
    rw [List.map_cons, List.zip_cons_cons, look_cons]
    by_cases c : f = g
    · rw [if_pos c] at e ⊢
      cases e
      exact ⟨v, rfl, h⟩
    · rw [if_neg c] at e ⊢
      exact fld_at t e
theorem fld_no : ∀ {fs : List (Str × PyData)} {vs : List V}, DVs p H B vs (fs.map (·.2)) → fs.lookup f = none → ((fs.map (·.1)).zip vs).lookup f = none
  | [], _, _, _ => rfl
  | (g, x) :: fs, _, .cons (v := v) h t, e => by
    rw [look_cons] at e
    rw [List.map_cons, List.zip_cons_cons, look_cons]
    by_cases c : f = g
    · rw [if_pos c] at e
      cases e
    · rw [if_neg c] at e ⊢
      exact fld_no t e
theorem fld_put {y : V} {d : PyData} (hy : DV p H B y d) : ∀ {fs : List (Str × PyData)} {vs : List V}, DVs p H B vs (fs.map (·.2)) → ∃ vs', putF f y ((fs.map (·.1)).zip vs) = ((putS f d fs).map (·.1)).zip vs' ∧ DVs p H B vs' ((putS f d fs).map (·.2))
  | [], _, .nil => ⟨[y], rfl, .cons hy .nil⟩
  | (g, x) :: fs, _, .cons (v := v) (vs := vs) h t => by
    rw [List.map_cons, List.zip_cons_cons, putF, putS]
    by_cases c : g = f
    · rw [if_pos c, if_pos c]
      exact ⟨y :: vs, rfl, .cons hy t⟩
    · rw [if_neg c, if_neg c]
      obtain ⟨vs', e, r⟩ := fld_put hy t
      exact ⟨v :: vs', by rw [e]; rfl, .cons h r⟩
theorem fld_len {fs : List (Str × PyData)} {vs : List V} (h : DVs p H B vs (fs.map (·.2))) : ((fs.map (·.1)).zip vs).length = fs.length := by
  have := h.length
  rw [List.length_map] at this
  rw [List.length_zip, List.length_map, this, Nat.min_self]
end
/-- the object of class x that a value is, with its fields -/
def insAt (m : Mu) (x : Str) : W → Option (Nat × List (Str × PyData))
  | .loc n => match m[n]? with
    | some (.ins y fs) => if y = x then some (n, fs) else none
    | _ => none
  | _ => none
theorem ins_of {p : Pl} {H : Hp} {B : List Addr} {m : Mu} {v : V} {w : W} {x : Str} {n : Nat} {fs : List (Str × PyData)} (so : So p H B m) (h : WV p H B v w) (e : insAt m x w = some (n, fs)) :
    ∃ a dx vs, v = .ref a ∧ w = .loc n ∧ B[n]? = some a ∧ m[n]? = some (.ins x fs) ∧ H a = some (.ins (He.ga p.K x) dx ((fs.map (·.1)).zip vs)) ∧ DVs p H B vs (fs.map (·.2)) := by
  cases h with
  | @loc n' a hb =>
    obtain ⟨o, e1, r⟩ := so.obj hb
    unfold insAt at e
    dsimp only at e
    rw [e1] at e
    cases o with
    | ins y gs =>
      dsimp only at e
      split at e
      · rename_i z
        subst z
        cases e
        obtain ⟨⟨dx, vs⟩, h1, h2⟩ := r
        exact ⟨a, dx, vs, rfl, rfl, hb, e1, h1, h2⟩
      · cases e
    | _ => cases e
  | _ => cases e
section
variable {X : Cx} {E : XK} {e o : Expr} {es : List Expr} {fe fo fv : FE} {fa : FA} {pos : Pos} {x f nm : Str}
/-! ### reading a field, storing it -/
def fFld (x f : Str) (fe : FE) : FE := fun r m => (fe r m).bind fun w m1 => match insAt m1 x w with
  | some (_, fs) => match fs.lookup f with
    | some d => .ok (.d d) m1
    | none => .bad
  | none => .bad
theorem we_fld (c : Cls X.K (He.ga X.K x)) (na : NoAttr X.K (He.ga X.K x) f) (he : WE X E e fe) (hb : attributeBase e f X.env (eval e X.env) = eval e X.env := by rfl) : WE X E (.Attribute e f pos) (fFld x f fe) :=
  ⟨fun pins s σ H Q I ⟨Z, B, r, m, sl, so, q⟩ => (pe_fld he hb).run pins s σ H Q I ⟨Z, B, r, m, sl, so, q.step fun w m1 v H1 B1 l1 s1 r1 q1 => by
    try dsimp only at q1
    split at q1
    · rename_i n fs ei
      obtain ⟨a, dx, vs, rfl, rfl, hb, hm, h1, h2⟩ := ins_of s1 r1 ei
      try dsimp only at q1
      split at q1
      · rename_i d ed
        obtain ⟨v', e1, e2⟩ := fld_at h2 ed
        exact ⟨a, _, dx, _, v', rfl, h1, c, na, e1, Post.done q1 s1 (.d e2)⟩
      · exact q1.elim
    · exact q1.elim⟩⟩
def fSetF (x f : Str) (fo fv : FE) : FS := fun r m => (fv r m).toS fun y m1 => (fo r m1).toS fun o m2 => match y, insAt m2 x o with
  | .d d, some (n, fs) => if fs.length < 1000 then .next r (m2.set n (.ins x (putS f d fs))) else .bad
  | _, _ => .bad
theorem ws_setf {pos' : Pos} (c : Cls X.K (He.ga X.K x)) (na : NoAttr X.K (He.ga X.K x) f) (ho : WE X E o fo) (hv : WE X E e fv) (hs : swapsWith e (some (.Attribute o f pos')) pos.line X.env = pure false := by rfl) :
    WS X E (.Assign [.Attribute o f pos'] e pos) (fSetF x f fo fv) := by
  refine ⟨fun pins s σ H D I ⟨Z, B, r, m, sl, so, q⟩ => (ps_fld ho hv hs).run pins s σ H D I ⟨Z, B, r, m, sl, so, PostS.step q fun y m1 yv H1 B1 l1 s1 r1 q1 => ?_⟩⟩
  refine ⟨Z, B1, r, m1, sl.mono l1, s1, PostS.step q1 fun ow m2 ov H2 B2 l2 s2 r2 q2 => ?_⟩
  try dsimp only at q2
  split at q2
  · rename_i d n fs ei
    obtain ⟨a, dx, vs, rfl, rfl, hb, hm, h1, h2⟩ := ins_of s2 r2 ei
    split at q2
    · rename_i hl
      cases r1 with
      | d hd =>
        have hd2 := hd.mono l2
        obtain ⟨vs', e1, e2⟩ := fld_put (f := f) hd2 h2
        refine ⟨a, _, dx, _, rfl, h1, c, na, by rw [fld_len h2]; exact hl, ?_⟩
        have ls : Le B2 H2 B2 (upd H2 a (.ins (He.ga X.K x) dx (putF f yv ((fs.map (·.1)).zip vs)))) := le_set (List.mem_of_getElem? hb)
        exact q2 σ _ B2 ls (s2.set hb ⟨(dx, vs'), by rw [upd_same, e1], e2.mono ls⟩) (sl.mono (l1.trans (l2.trans ls)))
    · exact q2.elim
  · exact q2.elim
/-! ### methods -/
structure CalM (P : Program) (w : World) (K : PySem.W.Frag) (mg : Str → Option Value) (base : Heap) (k n : Nat) (x nm : Str) (F : Fn) : Prop where
  ex : ∃ (f : Addr) (fd : FuncData) (ps : List Str), FnOk P w K mg base (L2N.CX P w) k f fd ps (spW P w K mg n F) ∧ Meth K (He.ga K x) nm f ∧ Binds K fd ps []
def fMth (x nm : Str) (n : Nat) (F : Fn) (fo : FE) (fa : FA) : FE := fun r m => (fo r m).bind fun o m1 => match insAt m1 x o with
  | some (j, fs) => if (fs.lookup nm).isNone = true then (fa r m1).bind fun ws m2 => if ws.length + 1 = n then F (.loc j :: ws) m2 else .bad else .bad
  | none => .bad
theorem we_meth {k n : Nat} {F : Fn} {apos : Pos} {pl : Sem Bool} (M : CalM X.prog X.w X.K X.mg X.base k n x nm F) (c : Cls X.K (He.ga X.K x)) (hr : Room k X.A) (hx : Passes (L2N.CX X.prog X.w) X E) (ho : WE X E o fo) (ha : WA X E (e :: es) fa)
    (hst : starEach (e :: es) X.env = (false, eval e X.env) :: starEach es X.env := by rfl) (hpl : (backTo pos (starEach es X.env)).any (·.1) = false := by rfl)
    (ht : eval (.Call (.Attribute o nm apos) (e :: es) [] pos) X.env = (do
      let ov ← eval o X.env
      standAt apos.atName
      let (f, first) ← holding [ov] (getMethod ov nm pl)
      callWith pos f first (backTo pos (starEach (e :: es) X.env)) (backToKw pos (keywordEach [] X.env))) := by rfl) :
    WE X E (.Call (.Attribute o nm apos) (e :: es) [] pos) (fMth x nm n F fo fa) := by
  obtain ⟨g, fd, ps, FO, hm, hb⟩ := M.ex
  refine ⟨fun pins s σ H Q I ⟨Z, B, r, m, sl, so, q⟩ => (pe_meth ho c hm FO hr hb .nil hx ha hst hpl ht).run pins s σ H Q I ⟨Z, B, r, m, sl, so, q.step fun w m1 v H1 B1 l1 s1 r1 q1 => ?_⟩⟩
  try dsimp only at q1
  split at q1
  · rename_i j fs ei
    obtain ⟨a, dx, vs, rfl, rfl, hb, hm, h1, h2⟩ := ins_of s1 r1 ei
    split at q1
    · rename_i hl
      refine ⟨a, dx, _, rfl, h1, fld_no h2 (Option.isNone_iff_eq_none.mp hl), Z, B1, r, m1, sl.mono l1, s1, q1.step fun ws m2 xs H2 B2 l2 s2 r2 q2 => ?_⟩
      try dsimp only at q2
      split at q2
      · rename_i z
        show spW _ _ _ _ n F (V.ref a :: (xs ++ [])) H2 Q E
        rw [List.append_nil]
        exact ⟨by rw [List.length_cons, r2.length]; exact z, Z, B2, m2, .loc j :: ws, s2, .cons (.loc (l2.at_ hb)) r2, q2⟩
      · exact q2.elim
    · exact q1.elim
  · exact q1.elim
theorem we_meth0 {k n : Nat} {F : Fn} {apos : Pos} {pl : Sem Bool} (M : CalM X.prog X.w X.K X.mg X.base k n x nm F) (c : Cls X.K (He.ga X.K x)) (hr : Room k X.A) (hx : Passes (L2N.CX X.prog X.w) X E) (ho : WE X E o fo)
    (ht : eval (.Call (.Attribute o nm apos) [] [] pos) X.env = (do
      let ov ← eval o X.env
      standAt apos.atName
      let (f, first) ← holding [ov] (getMethod ov nm pl)
      callWith pos f first (backTo pos (starEach [] X.env)) (backToKw pos (keywordEach [] X.env))) := by rfl) :
    WE X E (.Call (.Attribute o nm apos) [] [] pos) (fMth x nm n F fo fNil) := by
  obtain ⟨g, fd, ps, FO, hm, hb⟩ := M.ex
  refine ⟨fun pins s σ H Q I ⟨Z, B, r, m, sl, so, q⟩ => (pe_meth0 ho c hm FO hr hb .nil hx ht).run pins s σ H Q I ⟨Z, B, r, m, sl, so, q.step fun w m1 v H1 B1 l1 s1 r1 q1 => ?_⟩⟩
  try dsimp only at q1
  split at q1
  · rename_i j fs ei
    obtain ⟨a, dx, vs, rfl, rfl, hb, hm, h1, h2⟩ := ins_of s1 r1 ei
    split at q1
    · rename_i hl
      replace q1 : PostE (plX X Z) E B1 H1 (if ([] : List W).length + 1 = n then F (.loc j :: []) m1 else .bad) Q := q1
      split at q1
      · rename_i z
        exact ⟨a, dx, _, rfl, h1, fld_no h2 (Option.isNone_iff_eq_none.mp hl), z, Z, B1, m1, [.loc j], s1, .cons (.loc hb) .nil, q1⟩
      · exact q1.elim
    · exact q1.elim
  · exact q1.elim
/-! ### properties -/
structure CalP (P : Program) (w : World) (K : PySem.W.Frag) (mg : Str → Option Value) (base : Heap) (k : Nat) (x nm : Str) (F : Fn) : Prop where
  ex : ∃ (p f : Addr) (fd : FuncData) (ps : List Str), FnOk P w K mg base (L2N.CX P w) k f fd ps (spW P w K mg 1 F) ∧ PropOf K (He.ga K x) nm p f ∧ Binds K fd ps []
/-- nothing may fly out -/
def noX (r : R W) : R W := match r with
  | .exn _ _ => .bad
  | r => r
theorem noX_post {p : Pl} {E : XK} {B : List Addr} {H : Hp} {r : R W} {Q : VK} (h : PostE p E B H (noX r) Q) : PostE p E0 B H r Q := by
  cases r with
  | ok a m => exact h
  | exn x m => exact h.elim
  | bad => exact h.elim
def fProp (x : Str) (F : Fn) (fe : FE) : FE := fun r m => (fe r m).bind fun w m1 => match insAt m1 x w with
  | some (j, _) => noX (F [.loc j] m1)
  | none => .bad
theorem we_prop {k : Nat} {F : Fn} (M : CalP X.prog X.w X.K X.mg X.base k x nm F) (c : Cls X.K (He.ga X.K x)) (hr : Room (k + 1) X.A) (he : WE X E e fe) (hb : attributeBase e nm X.env (eval e X.env) = eval e X.env := by rfl) :
    WE X E (.Attribute e nm pos) (fProp x F fe) := by
  obtain ⟨p, g, fd, ps, FO, hp, hbi⟩ := M.ex
  refine ⟨fun pins s σ H Q I ⟨Z, B, r, m, sl, so, q⟩ => (pe_prop (E := E0) he c hp FO hr hbi .nil passLN hb).run pins s σ H Q I ⟨Z, B, r, m, sl, so, q.step fun w m1 v H1 B1 l1 s1 r1 q1 => ?_⟩⟩
  try dsimp only at q1
  split at q1
  · rename_i j fs ei
    obtain ⟨a, dx, vs, rfl, rfl, hb, hm, h1, h2⟩ := ins_of s1 r1 ei
    exact ⟨a, dx, _, rfl, h1, rfl, Z, B1, m1, [.loc j], s1, .cons (.loc hb) .nil, noX_post q1⟩
  · exact q1.elim
/-! ### a new object -/
structure CalK (P : Program) (w : World) (K : PySem.W.Frag) (mg : Str → Option Value) (base : Heap) (k n : Nat) (x : Str) (F : Fn) : Prop where
  ex : ∃ (f : Addr) (fd : FuncData) (ps : List Str), FnOk P w K mg base (L2N.CX P w) k f fd ps (spW P w K mg n F) ∧ Mk K (He.ga K x) f ∧ Binds K fd ps [] ∧ mg x = some (.ref (He.ga K x))
def fMake (x : Str) (n : Nat) (F : Fn) (fa : FA) : FE := fun r m => (fa r m).bind fun ws m1 => if ws.length + 1 = n then (F (.loc m1.length :: ws) (m1 ++ [.ins x []])).bind fun v m2 => match v with
    | .d .none => .ok (.loc m1.length) m2
    | _ => .bad else .bad
theorem we_make {k n : Nat} {F : Fn} {p : Pos} (M : CalK X.prog X.w X.K X.mg X.base k n x F) (hr : Room (k + 1) X.A) (hg : Gl X x) (hx : Passes (L2N.CX X.prog X.w) X E) (ha : WA X E (e :: es) fa)
    (hdb : (x == ("__debug__" : Str)) = false := by decide) (he : starEach (e :: es) X.env = (false, eval e X.env) :: starEach es X.env := by rfl) (hpl : (backTo pos (starEach es X.env)).any (·.1) = false := by rfl) :
    WE X E (.Call (.Name x p) (e :: es) [] pos) (fMake x n F fa) := by
  obtain ⟨g, fd, ps, FO, MK, hb, hm⟩ := M.ex
  refine ⟨fun pins s σ H Q I ⟨Z, B, r, m, sl, so, q⟩ => (pe_make MK FO hr hg hm hb .nil hx ha hdb he hpl).run pins s σ H Q I ⟨Z, B, r, m, sl, so, q.step fun ws m1 vs H1 B1 l1 s1 r1 q1 => ?_⟩⟩
  intro xa dx hxa hdx ne
  try dsimp only at q1
  split at q1
  · rename_i z
    have nx : (upd H1 dx (.own xa)) xa = none := by
      rw [upd_ne (Ne.symm ne)]
      exact hxa
    have sA : So (plX X Z) (upd H1 dx (.own xa)) B1 m1 := s1.laid hdx
    have sB : So (plX X Z) (upd (upd H1 dx (.own xa)) xa (.ins (He.ga X.K x) dx [])) (B1 ++ [xa]) (m1 ++ [.ins x []]) := sA.new nx ⟨(dx, []), upd_same, .nil⟩
    have lA : Le B1 H1 B1 (upd H1 dx (.own xa)) := le_laid hdx
    have lB : Le B1 (upd H1 dx (.own xa)) (B1 ++ [xa]) (upd (upd H1 dx (.own xa)) xa (.ins (He.ga X.K x) dx [])) := le_new nx
    have lAB := lA.trans lB
    have at_ : (B1 ++ [xa])[m1.length]? = some xa := by
      rw [← s1.len]
      simp
    show spW _ _ _ _ n F (V.ref xa :: (vs ++ [])) _ _ E
    rw [List.append_nil]
    refine ⟨by rw [List.length_cons, r1.length]; exact z, Z, _, _, .loc m1.length :: ws, sB, .cons (.loc at_) (r1.mono lAB), ?_⟩
    refine (Post.mono lAB q1).step fun v m2 b H2 B2 l2 s2 r2 q2 => ?_
    try dsimp only at q2
    split at q2
    · cases r2 with
      | d h => cases h with
        | non => exact ⟨rfl, Post.done q2 s2 (.loc (l2.at_ at_))⟩
    · exact q2.elim
  · exact q1.elim
end
end Wy
set_option Elab.async false
set_option linter.all false
set_option maxRecDepth 100000
set_option maxHeartbeats 4000000
/-! W61: += , == , len, isinstance of objects by their own methods. -/
namespace Wy
open PySem PySem.Spec PyProof.Rows L2
/-! ### the operator that changes its object -/
theorem fills_in {M : Model} {h : Heap} {K : PySem.W.Frag} {C f : Addr} {cd : ClassData} {rest : List Value} {add : Bool} (X : K.In h) (hc : PySem.W.clsIn K C = some cd) (hm : cd.mro = .ref C :: rest) (hs : PySem.W.findIn K (.ref C) "__iadd__" = some (some (.ref f))) : PySem.W.Looks M h (fillsInplaceSlot (.ref C) "add" add) true := by
  intro A Q E s k q
  unfold fillsInplaceSlot
  refine wpAny_bind ((PySem.W.looks_clsIn X hc).andThen (f := fun cd => pure cd.mro) .now A _ E s k ?_)
  rw [hm, List.anyM_cons]
  refine wpAny_bind (wpAny_bind (PySem.W.looks_findIn X hs A _ E s k ?_))
  dsimp only
  rw [if_pos (show (!ownNameWrapper (.ref f) _) = true from rfl)]
  refine wpAny_pure ?_
  rw [if_pos rfl]
  exact wpAny_pure q
theorem iop_own {prog : Program} {w : World} {A : Around} {E : Value → Shared → Prop} {s : Shared} {K : PySem.W.Frag} {a C f : Addr} {ox : Obj} {od : Option Obj} {b : Value} {Q : Value → Shared → Prop} (X : K.In s.heap) (I : PySem.W.InstAt s.heap a ox C od) (hc : PySem.W.selfFirst K C = true)
    (hs : PySem.W.findIn K (.ref C) "__iadd__" = some (some (.ref f))) (hf : PySem.W.isFn K (.ref f) = true) (h : wpAny (model prog w) A (call (.ref f) [.ref a, b]) (PySem.W.CmpBack Q) E s) : wpAny (model prog w) A (inplaceOp .Add (.ref a) b) Q E s := by
  obtain ⟨cd, hcd, hm⟩ := PySem.W.any_some hc
  obtain ⟨rest, hm⟩ : ∃ rest, cd.mro = .ref C :: rest := by
    cases q : cd.mro with
    | nil => rw [q] at hm; cases hm
    | cons a r =>
      rw [q, List.head?_cons] at hm
      exact ⟨r, by cases (beq_iff_eq.mp hm); rfl⟩
  unfold inplaceOp
  refine wpAny_holding (wpAny_bind (I.type.here (wpAny_bind ((fills_in X hcd hm hs).here ?_))))
  rw [if_pos rfl]
  refine wpAny_bind (m := tryMethod (.ref a) _ b) ?_
  unfold tryMethod
  refine wpAny_bind (PySem.W.special_fn X I hs (beq_iff_eq.mp hf) (wpAny_mono h (fun v s' hv => ?_) fun _ _ e => e))
  cases v with
  | notImplemented => exact hv.elim
  | _ => exact wpAny_pure (show wpAny (model prog w) A (pure _) Q E s' from wpAny_pure hv)
/-- what a def gives is not NotImplemented -/
theorem ep_back {X : Cx} {pins : List (Addr × Obj)} {σ : Xs} {Q : VK} {A : Around} {E : Value → Shared → Prop} {s : Shared} {m : Sem Value} (h : wpAny (model X.prog X.w) A m (EP X pins σ Q) E s) : wpAny (model X.prog X.w) A m (PySem.W.CmpBack (EP X pins σ Q)) E s :=
  wpAny_mono h (fun v s' ⟨x, H, I, r, q⟩ => by
    cases v with
    | notImplemented => cases x <;> first | (cases r; done) | (obtain ⟨_, z⟩ := r; cases z)
    | _ => exact ⟨x, H, I, r, q⟩) fun _ _ z => z
section
variable {X : Cx} {E : XK} {e : Expr} {fe : FE} {x : Str} {pos : Pos}
def gOwn (x : Str) (F : Fn) (a b : W) (m : Mu) : R W := match insAt m x a with
  | some (j, _) => F [.loc j, b] m
  | none => .bad
theorem iop_obj {k : Nat} {F : Fn} (M : CalM X.prog X.w X.K X.mg X.base k 2 x "__iadd__" F) (hc : PySem.W.selfFirst X.K (He.ga X.K x) = true) (hr : Room k X.A) (hx : Passes (L2N.CX X.prog X.w) X E) :
    PIp X .Add (fun v u H Q => ∃ Z B m a b, So (plX X Z) H B m ∧ WV (plX X Z) H B v a ∧ WV (plX X Z) H B u b ∧ PostE (plX X Z) E B H (gOwn x F a b m) Q) := by
  obtain ⟨g, fd, ps, FO, hm, hbi⟩ := M.ex
  rintro pins s σ H v u vv uu Q I rv ru ⟨Z, B, m, a, b, so, wa, wb, q⟩
  unfold gOwn at q
  split at q
  · rename_i j fs ei
    obtain ⟨ad, dx, vs, rfl, rfl, hb, hm1, h1, h2⟩ := ins_of so wa ei
    cases rv
    obtain ⟨mA, O, _⟩ := ins_get I.hok h1
    obtain ⟨od, J, _⟩ := O.look
    refine iop_own I.kIn J hc hm.at_ hm.fn (ep_back (run_fn (vs := [.ref ad, u]) (us := [.ref ad, uu]) FO hr hbi .nil hx I (.cons rfl (.cons ru .nil)) ?_))
    rw [List.append_nil]
    exact ⟨rfl, Z, B, m, [.loc j, b], so, .cons (.loc hb) (.cons wb .nil), q⟩
  · exact q.elim
def fAugO (i : Nat) (g : W → W → Mu → R W) (fe : FE) : FS := fun r m => match r[i]? with
  | some (some w) => (fe r m).toS fun y m1 => (g w y m1).toS fun z m2 => .next (r.set i (some z)) m2
  | _ => .bad
theorem ws_augO {i k : Nat} {F : Fn} {y : Str} {pos' : Pos} (M : CalM X.prog X.w X.K X.mg X.base k 2 x "__iadd__" F) (hc : PySem.W.selfFirst X.K (He.ga X.K x) = true) (hr : Room k X.A) (hx : Passes (L2N.CX X.prog X.w) X E) (hN : X.N.Nodup) (hi : X.N[i]? = some y) (hy : Loc X.env.scope y) (he : WE X E e fe)
    (hf : X.fn y = true ∨ X.env.scope.names.lookup y = some .local := by first | exact .inl rfl | exact .inr rfl | assumption) : WS X E (.AugAssign (.Name y pos') .Add e pos) (fAugO i (gOwn x F) fe) := by
  refine ⟨fun pins s σ H D I ⟨Z, B, r, m, sl, so, q⟩ => (ps_aug (op := .Add) hN hi hy he (iop_obj (E := E) M hc hr hx) hf).run pins s σ H D I ?_⟩
  unfold fAugO at q
  split at q
  · rename_i w er
    obtain ⟨v, e1, wv⟩ := sl.at_ i w er
    refine ⟨v, e1, Z, B, r, m, sl, so, PostS.step q fun y m1 yv H1 B1 l1 s1 r1 q1 => ?_⟩
    refine ⟨Z, B1, m1, w, y, s1, wv.mono l1, r1, PostS.step q1 fun z m2 zv H2 B2 l2 s2 r2 q2 => ?_⟩
    exact q2 _ H2 B2 Le.refl s2 ((sl.mono (l1.trans l2)).set r2)
  · exact q.elim
/-! ### == -/
def gEqO (x : Str) (F : Fn) (a b : W) (m : Mu) : R W := match insAt m x a, insAt m x b with
  | some (j, _), some (i, _) => F [.loc j, .loc i] m
  | _, _ => .bad
theorem ow_eqO {k : Nat} {F : Fn} (M : CalM X.prog X.w X.K X.mg X.base k 2 x "__eq__" F) (hr : Room k X.A) (hx : Passes (L2N.CX X.prog X.w) X E) : OpW X E (compareOp .Eq) (gEqO x F) := by
  obtain ⟨g, fd, ps, FO, hm, hbi⟩ := M.ex
  rintro pins s σ H v u vv uu Q I rv ru ⟨Z, B, m, a, b, so, wa, wb, q⟩
  unfold gEqO at q
  split at q
  · rename_i j fs i gs ei ej
    obtain ⟨ad, dx, vs, rfl, rfl, hb, hm1, h1, h2⟩ := ins_of so wa ei
    obtain ⟨ad2, dx2, vs2, rfl, rfl, hb2, hm2, k1, k2⟩ := ins_of so wb ej
    cases rv
    cases ru
    obtain ⟨mA, O, _⟩ := ins_get I.hok h1
    obtain ⟨od, J, _⟩ := O.look
    obtain ⟨mB, O2, _⟩ := ins_get I.hok k1
    obtain ⟨od2, J2, _⟩ := O2.look
    obtain ⟨mm, hF⟩ := I.fr
    show wpAny (model X.prog X.w) X.A (richCompare .Eq (.ref ad) (.ref ad2)) (EP X pins σ Q) X.xe s
    refine PySem.W.cmp_K (op := .Eq) (tb := .ref (He.ga X.K x)) hr.units0 hF I.ok.mod.kin J J2.type (by simp [PySem.W.notFirst]) hm.at_ hm.fn (ep_back (run_fn (vs := [.ref ad, .ref ad2]) (us := [.ref ad, .ref ad2]) FO hr hbi .nil hx I (.cons rfl (.cons rfl .nil)) ?_))
    rw [List.append_nil]
    exact ⟨rfl, Z, B, m, [.loc j, .loc i], so, .cons (.loc hb) (.cons (.loc hb2) .nil), q⟩
  · exact q.elim
/-! ### len -/
def gLenO (x : Str) (F : Fn) (ws : List W) (m : Mu) : R W := match ws with
  | [w] => (match insAt m x w with
    | some (j, _) => (F [.loc j] m).bind fun v m1 => match v with
      | .d (.int i) => if 0 ≤ i ∧ i < 4611686018427387904 then .ok (.d (.int i)) m1 else .bad
      | _ => .bad
    | none => gLen [w] m)
  | _ => .bad
theorem cw_lenO {k : Nat} {F : Fn} (M : CalM X.prog X.w X.K X.mg X.base k 1 x "__len__" F) (hr : Room (k + 1) X.A) (hx2 : Passes (L2N.CX X.prog X.w) X E) : CallW X E (.builtin "len") (gLenO x F) := by
  obtain ⟨g, fd, ps, FO, hm, hbi⟩ := M.ex
  rintro pins s σ H xs us Q I r ⟨Z, B, m, ws, so, hw, q⟩
  unfold gLenO at q
  split at q
  · rename_i w
    split at q
    · rename_i j fs ei
      obtain ⟨v, rfl, wv⟩ := wvs1 hw
      obtain ⟨ad, dx, vs, rfl, rfl, hb, hm1, h1, h2⟩ := ins_of so wv ei
      cases r with
      | cons r0 rt =>
        cases rt
        cases r0
        obtain ⟨mA, O, _⟩ := ins_get I.hok h1
        obtain ⟨od, J, _⟩ := O.look
        obtain ⟨mm, hF⟩ := I.fr
        have hsp : spW X.prog X.w X.K X.mg 1 F [.ref ad] H (fun z H' => ∃ i, z = .int i ∧ (0 ≤ i ∧ i < 4611686018427387904) ∧ Q (.int i) H') E := by
          refine ⟨rfl, Z, B, m, [.loc j], so, .cons (.loc hb) .nil, q.step fun v m1 zv H1 B1 l1 s1 r1 q1 => ?_⟩
          try dsimp only at q1
          split at q1
          · split at q1
            · rename_i i z
              cases r1 with
              | d h => exact ⟨_, int_inv h, z, Post.done q1 s1 (.d (.int _))⟩
            · exact q1.elim
          · exact q1.elim
        have hl := FO.len _ _ _ _ hsp
        refine PySem.W.len_K hF I.ok.mod.kin J hm.at_ hm.fn (wpAny_call (codeAny_mono (FO.run X.A.in1 X.stack s H ⟨[.ref ad], []⟩ [.ref ad] [.ref ad] _ E hr.in1 I.env0.in1 (by
          have := hbi s [.ref ad] I.kIn (by simpa using hl)
          simpa using this) (.cons rfl .nil) hsp) fun res s' hq => ?_))
        cases res with
        | error er => exact hx2 pins σ H s er s' I hq
        | ok fl =>
          cases fl with
          | ret u =>
            obtain ⟨z, H', I3, rv, i, rfl, hi, q3⟩ := I.after hq
            obtain ⟨t, rfl⟩ := rv
            exact ⟨⟨hi.1, by omega⟩, .int i, H', I3.tok _, ⟨_, rfl⟩, q3⟩
          | next => exact False.elim hq
          | brk => exact False.elim hq
          | cont => exact False.elim hq
    · exact cw_len pins s σ H xs us Q I r ⟨Z, B, m, [w], so, hw, q⟩
  · exact q.elim
/-! ### isinstance -/
def fIsO (x : Str) (fe : FE) : FE := fun r m => (fe r m).bind fun w m1 => match insAt m1 x w with
  | some _ => .ok (.d (.bool true)) m1
  | none => .bad
theorem we_isO {p p2 : Pos} (c : C8.InsC X.K (He.ga X.K x)) (hg : Gl X "isinstance") (hm : X.mg "isinstance" = none) (hgx : Gl X x) (hmx : X.mg x = some (.ref (He.ga X.K x))) (he : WE X E e fe) (hdb : (x == ("__debug__" : Str)) = false := by decide)
    (hs : starEach [e, .Name x p2] X.env = (false, eval e X.env) :: starEach [.Name x p2] X.env := by rfl) (hpl : (backTo pos (starEach [.Name x p2] X.env)).any (·.1) = false := by rfl) :
    WE X E (.Call (.Name "isinstance" p) [e, .Name x p2] [] pos) (fIsO x fe) := by
  refine ⟨fun pins s σ H Q I ⟨Z, B, r, m, sl, so, q⟩ => (pe_callB (C8.call_isC c) hg hm (by rfl) (pa_cons he (pa_cons (pe_glob (v := .ref (He.ga X.K x)) (pos := p2) hgx hmx rfl hdb) pa_nil) hs) (by decide) (by decide) hs hpl).run pins s σ H Q I ⟨Z, B, r, m, sl, so, q.step fun w m1 v H1 B1 l1 s1 r1 q1 => ?_⟩⟩
  try dsimp only at q1
  split at q1
  · rename_i z ei
    obtain ⟨n, fs⟩ := z
    obtain ⟨ad, dx, vs, rfl, rfl, hb, hm1, h1, h2⟩ := ins_of s1 r1 ei
    exact ⟨ad, dx, _, rfl, h1, Post.done q1 s1 (.d (.bl _))⟩
  · exact q1.elim
end
end Wy
set_option Elab.async false
set_option linter.all false
set_option maxRecDepth 100000
set_option maxHeartbeats 4000000
/-! W62: a class's defs, by their bodies' functions. -/
namespace Wy
open PySem PySem.Spec PyProof.Rows L2
/-- a def of a class: its name, its qualified name -/
abbrev FnM (K : PySem.W.Frag) (nm qual : Str) (st : Stmt) (f : Addr) (fd : FuncData) : Prop := FunD K nm qual (defArgs st) (defBody st) (defScope st) [] [] f fd
theorem fn_okQ {P : Program} {w : World} {K : PySem.W.Frag} {mg : Str → Option Value} {base : Heap} {nm qual : Str} {st : Stmt} {f : Addr} {fd : FuncData} {N ps : List Str} {k : Nat} {fs : FS} (n : Nat) (l : Nat) (F : FnM K nm qual st f fd) (S : FnScope N ps (defScope st)) (hn : ps.length = n) (hl : N.length = l)
    (hb : ∀ (cdv : Value) (A : Around) (outer : List Env) (s : Shared) (H : Hp) (E : XK), Room k (A.deeper (envOfC qual (defScope st) s.heap.objs.size f cdv)) →
      WSs (cxOf (L2N.CX P w) P w K mg base N qual (defScope st) f cdv A outer s H E) E (defBody st) fs) : FnOk P w K mg base (L2N.CX P w) (k + 1) f fd ps (spW P w K mg n (fnF l fs)) := by
  subst hn hl
  exact F.ok S (fun vs H Q E h => h.1) fun cdv A outer s H vs Q E hr h => ⟨_, hb cdv A outer s H E hr, fn_end h⟩
/-- a statement of a class's body -/
def clsBody : Stmt → List Stmt
  | .ClassDef _ _ _ body _ _ _ _ _ _ _ => body
  | _ => []
end Wy
set_option Elab.async false
set_option linter.all false
set_option maxRecDepth 100000
set_option maxHeartbeats 4000000
/-! W27: d.get(k, x) with keys that are tuples; xs.pop(). -/
namespace Wy
open PySem PySem.Spec PyProof.Rows L2
section
variable {X : Cx} {E : XK} {o e : Expr} {es : List Expr} {fo : FE} {fa : FA} {apos cpos : Pos}
end
end Wy
set_option Elab.async false
set_option linter.all false
set_option maxRecDepth 100000
set_option maxHeartbeats 4000000
/-! W28: d == {}. -/
namespace Wy
open PySem PySem.Spec PyProof.Rows L2
section
variable {X : Cx} {E : XK}
end
end Wy
set_option Elab.async false
set_option linter.all false
set_option maxRecDepth 100000
set_option maxHeartbeats 4000000
/-! W29: d.update(e), both dicts of the def's own, keys: tuples. -/
namespace Wy
open PySem PySem.Spec PyProof.Rows L2
section
variable {X : Cx} {E : XK} {o e : Expr} {es : List Expr} {fo : FE} {fa : FA} {apos cpos : Pos}
end
end Wy
set_option Elab.async false
set_option linter.all false
set_option maxRecDepth 100000
set_option maxHeartbeats 4000000
/-! W30: an own __init__ that says super().__init__(text) and then keeps its argument (raw). -/
namespace Wy
open PySem PySem.Spec PyProof.Rows PySem.W PySem.Calls PySem.HandSPX
section
variable {prog : Program} {w : World} {A : Around} {R : Result → Shared → Prop} {hp : Heap} {gn : Array GenState} {dr : Drawn} {tk : Nat} {os : OsState} {K : PySem.W.Frag} {mg mb : Str → Option Value}
variable {name qual msg fld : Str} {params : Arguments} {body : List Stmt} {scope : Scope} {dV kV doc pm ct oc : Value} {an od : Option Addr} {osl : Array (Option Value)} {f cc cda a C t0 : Addr} {args : Args} {u : Value}
variable {nm q : Str} {N : Addr} {bs bm : List Value} {sn : List Str} {sub : List Value} {ab : Bool} {col : Option Bool} {dd : Option Addr} {k0 k1 k2 k3 k5 : Option Value}
theorem init_raw (X : K.In hp) (hg : hp.Ns mainGlobals mg) (hb : hp.Ns builtinsNs mb) (hms : mg "super" = none) (hsb : mb "super" = some (.type "super")) (lim : hp.NoLimit) (hroom : A.depth < recursionLimit)
    (ho : K.lookup f = some ⟨oc, od, .func (ksFn name qual params body scope dV kV doc pm an (.ref cda) ct cc), osl⟩) (hcd : codeIn K (.ref cda) qual = true)
    (hbind : BindsTo ⟨hp, gn, dr, tk, os⟩ (ksFn name qual params body scope dV kV doc pm an (.ref cda) ct cc) args [("self", .ref a), (fld, u)]) (hfs : fld ≠ "self") (hfd : (fld == ("__debug__" : Str)) = false)
    (hloc1 : scope.names.lookup ("self" : Str) = some .local) (hloc2 : scope.names.lookup fld = some .local) (hkc : scope.names.lookup ("__class__" : Str) = some .free) (hks : scope.names.lookup ("super" : Str) = some .globalImplicit)
    (hcell : ∀ x ∈ scope.names, x.2 ≠ .cell) (hco : scope.isCoroutine = false) (hgen : scope.isGenerator = false) (hk : scope.kind = .function)
    {ar : Arg} (hpar : (params.posonlyargs ++ params.args).head? = some ar) (har : ar.arg = "self")
    {p0 p1 p2 p3 p4 p5 p6 p7 p8 p9 : Pos} {j : Nat}
    (hbody : body = [.Expr (.Call (.Attribute (.Call (.Name "super" p0) [] [] p1) "__init__" p2) [.Constant (.str msg) j p3] [] p4) p5, .Assign [.Attribute (.Name "self" p6) fld p7] (.Name fld p8) p9])
    (hcall : ∀ env : Env, eval (.Call (.Attribute (.Call (.Name "super" p0) [] [] p1) "__init__" p2) [.Constant (.str msg) j p3] [] p4) env = (do
      let ov ← attributeBase (.Call (.Name "super" p0) [] [] p1) "__init__" env (eval (.Call (.Name "super" p0) [] [] p1) env)
      standAt p2.atName
      let (f, first) ← holding [ov] (getMethod ov "__init__" (pure false))
      callWith p4 f first (backTo p4 (starEach [.Constant (.str msg) j p3] env)) []))
    {cl ccl : Value} {cld cdd : Option Addr} {csl ccs : Array (Option Value)} {vs : Array Value} {file : Str} {tf : Tok}
    (hcellK : K.lookup cc = some ⟨cl, cld, .cell (some (.ref C)), csl⟩) (hcode : K.lookup cda = some ⟨ccl, cdd, .fields vs, ccs⟩) (hvs : vs[2]? = some (.str file tf)) (hfile : ((prog.main.file : Str) == file) = true) (htop : (prog.main.scope.names.lookup ("super" : Str)).isSome = false)
    (hC : K.lookup C = some (excClassObj nm q C N bs bm true sn sub ab col dd k0 k1 k2 k3 k5 "ValueError.__new__")) (hbm : refsVE bm = true) (hopq : nsIn K cStatics "thirdparty.any" = some none)
    (hal : alongIn K "__init__" bm = some (some (.builtin "ValueError.__init__"))) (hsa : findIn K (.ref C) "__setattr__" = some (some (.builtin "object.__setattr__"))) (hno : findIn K (.ref C) fld = some none)
    (ha : hp.get? a = some (HandSPX.excO C t0)) (hKa : K.lookup a = none)
    (h : ∀ h' tk' t1 dx, (∀ b o, b ≠ a → hp.get? b = some o → h'.get? b = some o) → hp.get? dx = none → dx ≠ a → h'.get? a = some { cls := .ref C, dict := some dx, data := .fields #[.ref t1, .none, .none, .none, .bool false, .none] } →
      h'.Ns1 dx (fun y => if y = fld then some u else none) → R (.ok (.ret .none)) ⟨h', gn, dr, tk', os⟩) :
    codeAny (model prog w) A (.call (.ref f) args) R ⟨hp, gn, dr, tk, os⟩ := by
  subst hbody
  have haC : a ≠ C := by
    rintro rfl
    have e := X _ _ hC
    rw [ha] at e
    cases e
  refine ks_codeAny_call_defAt (fd := ksFn name qual params _ scope dV kV doc pm an (.ref cda) ct cc) (body := _) hroom (X _ _ ho) rfl lim (codeRec_of X hcd) rfl hbind hcell (fun x hx => ?_) (fun h0 hns k0 => ?_) hco hgen hk
  · simp only [List.mem_cons, List.not_mem_nil, or_false] at hx
    rcases hx with rfl | rfl
    · exact hloc1
    · exact hloc2
  have X0 : K.In h0 := X.keeps k0
  refine ks_wpAt_execs_cons (ks_wpAt_Expr_any (ks_wpAt_MethodCall (pl := pure false) ?_ (hcall _)) ?_ ?_)
  · have ha0 := k0 _ _ ha
    have hsub : mroIn K C (.ref C) = some true := by
      unfold mroIn clsIn
      rw [hC]
      simp
    refine ks_wpAt_super_base (env := ksEnv qual scope hp.objs.size f (.ref cda) cc) hks hkc rfl rfl (X0 _ _ ho) rfl hpar rfl (X0 _ _ hcode) rfl hvs hfile htop ?_
    refine ks_loadName_global hk hks (loadGlobal_builtin (env := ksEnv qual scope hp.objs.size f (.ref cda) cc) (hg.keeps k0) hms (hb.keeps k0) hsb ⟨rfl, ?_⟩)
    refine wpAny_loadName_free hk hkc rfl ⟨_, X0 _ _ hcellK, rfl⟩ ?_
    rw [har]
    refine wpAny_loadName_local hk hloc1 hns (v := .ref a) ?_ ?_
    · have e : (("self" : Str) == fld) = false := beq_eq_false_iff_ne.mpr fun e => hfs e.symm
      show List.lookup _ [(fld, u), ("self", Value.ref a)] = _
      simp [List.lookup, e]
    refine ks_wpAny_isType_cls (X0 _ _ hC) rfl ⟨rfl, ?_⟩
    refine ks_wpAny_call_super (X0 _ _ hC) rfl ha0 rfl (fun c e => by cases e) (looks_mroIn X0 hsub) (fun h1 e1 k1 => ?_)
    have X1 : K.In h1 := X0.keeps k1
    have ha1 := k1 _ _ ha0
    have hns1 : h1.Ns hp.objs.size (fun x => [(("self" : Str), Value.ref a), (fld, u)].reverse.lookup x) := by
      obtain ⟨o, es, ep, e, r⟩ := hns
      exact ⟨o, es, ep, k1 _ _ e, r⟩
    have hve : mroIn K C (.type "ValueError") = some true := by
      unfold mroIn clsIn
      rw [hC]
      have hv2 : (Value.ref C :: bm).contains (.type "ValueError") = true := (refsVE_contains "ValueError" (.ref C :: bm) (show refsVE (.ref C :: bm) = true from hbm)).trans (by decide +kernel)
      rw [Option.bind_some, hv2]
      rfl
    have IA : InstAt h1 a (HandSPX.excO C t0) C none := ⟨ha1, rfl, rfl, trivial⟩
    have hcl : clsIn K C = some { name := nm, bases := bs, mro := .ref C :: bm, ns := N, qualname := q, hasDict := true, slotNames := sn, subclasses := sub, abstract := ab, collection := col, hasDel := false } := by unfold clsIn; rw [hC] <;> rfl
    refine kxs_getMethod kxs_ValueError (so := h0.objs.size) e1 (looks_opaque X1 hopq) (l₀ := .ref C :: bm) ((looks_clsIn X1 hcl).andThen .now) (l := bm) (by simp) X1 hal (IA.type.andThen (looks_mroIn X1 hve)) haC rfl ?_
    have k2 : ∀ b o, h1.get? b = some o → (h1.push (kxs_mw "ValueError.__init__" a)).get? b = some o := fun b o e => Heap.get?_push_of_some _ e
    have hu2 : (h1.push (kxs_mw "ValueError.__init__" a)).get? h1.objs.size = some (kxs_mw "ValueError.__init__" a) := Heap.get?_push_size _ rfl
    have X2 : K.In (h1.push (kxs_mw "ValueError.__init__" a)) := X1.keeps k2
    have ha2 := k2 _ _ ha1
    generalize h1.push (kxs_mw "ValueError.__init__" a) = h2 at k2 hu2 X2 ha2 ⊢
    show wpAny _ _ (callWith p4 (.ref h1.objs.size) [] _ []) _ _ _
    refine kxs_callWith (i := "ValueError.__init__") (x := a) rfl ?_
    refine evalArgs_plain (Calls.spliced_cons ?_)
    show wpAny _ _ (eval (.Constant (.str msg) j p3) (ksEnv qual scope hp.objs.size f (.ref cda) cc)) _ _ _
    refine Calls.Constant_str (Calls.spliced_nil ⟨hu2, ?_⟩)
    refine wpAny_call (codeAny_of_tree ?_)
    show wpAny _ _ (callAny (.ref h1.objs.size) ⟨[_], []⟩) _ _ _
    simp only [callAny]
    refine wpAny_bind (wpAny_load hu2 ?_)
    simp only [kxs_mw, show (Value.type "method-wrapper" == Value.type "method" || Value.type "method-wrapper" == Value.type "builtin_function_or_method" || Value.type "method-wrapper" == Value.type "method-wrapper") = true by decide, if_true]
    refine KFB.if_so (by decide) ?_
    refine wpAny_bind (check_bound_init PySem.F.excBase_ValueError.toExcCallFacts (X2 _ _ hC) ha2 rfl ?_)
    refine wpAny_bind (wpAny_pure (wpAny_pure ⟨plainId_quiet PySem.F.excBase_ValueError.init.plain _, codeAny_builtin PySem.F.excBase_ValueError.initEntry ?_⟩))
    refine exc_init_tree (cls := .ref C) (t0 := t0) (dv := none) (c2 := .none) (c3 := .none) (b4 := .bool false) ha2 (by show 1 ≤ sizeLine; rw [sizeLine_eq]; omega) fun h3 k3 ha3 _ => ?_
    have hns3 : h3.Ns hp.objs.size (fun x => [(("self" : Str), Value.ref a), (fld, u)].reverse.lookup x) := by
      obtain ⟨o, es, ep, e, r⟩ := hns1
      have ne : hp.objs.size ≠ a := fun z => Nat.lt_irrefl _ (by have := Heap.lt_size ha; rw [← z] at this; exact this)
      exact ⟨o, es, ep, k3 _ _ ne (k2 _ _ e), r⟩
    have k30 : ∀ b o, b ≠ a → hp.get? b = some o → h3.get? b = some o := fun b o n e => k3 b o n (k2 _ _ (k1 _ _ (k0 _ _ e)))
    have X3 : K.In h3 := fun b o e => k30 b o (fun z => by rw [z, hKa] at e; cases e) (X b o e)
    refine ks_wpAt_execs_cons (ks_wpAt_Assign_Attr ?_ ?_)
    · refine wpAt_of_wpAny (wpAny_Name (wpAny_loadName_local hk hloc2 hns3 (v := u) ?_ ?_) hfd)
      · show List.lookup _ [(fld, u), ("self", Value.ref a)] = _
        simp [List.lookup]
      refine wpAny_Name (wpAny_loadName_local hk hloc1 hns3 (v := .ref a) ?_ ?_) (by decide)
      · have e : (("self" : Str) == fld) = false := beq_eq_false_iff_ne.mpr fun e => hfs e.symm
        show List.lookup _ [(fld, u), ("self", Value.ref a)] = _
        simp [List.lookup, e]
      refine PySem.W.set_plain X3 (ox := { cls := .ref C, dict := none, data := .fields #[.ref h2.objs.size, .none, .none, .none, .bool false, .none] }) (od := none) ⟨ha3, rfl, rfl, trivial⟩ hsa ?_
      refine exc_osa X3 ha3 hcl (show refsVE (.ref C :: bm) = true from hbm) rfl hno (fun h4 tk4 dx k4 dn dne hx hn => ?_)
      refine wpAt_of_wpAny (wpAny_execs_nil ?_)
      refine h h4 tk4 _ dx (fun b o n e => k4 b o n (k30 b o n e)) ?_ dne hx hn
      cases z : hp.get? dx with
      | none => rfl
      | some o => exact absurd (Heap.lt_size (k30 dx o dne z)) (Nat.not_lt.mpr dn)
    · rfl
  · show interactive (ksEnv qual scope hp.objs.size f (.ref cda) cc) = false
    unfold interactive
    simp [hk]
  · rfl
end
end Wy
set_option Elab.async false
set_option linter.all false
set_option maxRecDepth 100000
set_option maxHeartbeats 4000000
/-! W31: such an __init__ as a def of the hand layer. -/
namespace Wy
open PySem PySem.Spec PyProof.Rows PySem.W L2
/-- what the written part says of the class at C and its __init__ at f -/
structure IniC (P : Program) (K : PySem.W.Frag) (C f : Addr) (fd : FuncData) (msg fld : Str) : Prop where
  ex : ∃ (name qual : Str) (params : Arguments) (body : List Stmt) (scope : Scope) (dV kV doc pm ct oc : Value) (an od : Option Addr) (osl : Array (Option Value)) (cc cda : Addr) (nm q : Str) (N : Addr) (bs bm : List Value) (sn : List Str) (sub : List Value) (ab : Bool) (col : Option Bool) (dd : Option Addr) (k0 k1 k2 k3 k5 : Option Value)
    (ar : Arg) (p0 p1 p2 p3 p4 p5 p6 p7 p8 p9 : Pos) (j : Nat) (cl ccl : Value) (cld cdd : Option Addr) (csl ccs : Array (Option Value)) (vs : Array Value) (file : Str) (tf : Tok),
    fd = ksFn name qual params body scope dV kV doc pm an (.ref cda) ct cc ∧ K.lookup f = some ⟨oc, od, .func fd, osl⟩ ∧ codeIn K (.ref cda) qual = true ∧ fld ≠ "self" ∧ (fld == ("__debug__" : Str)) = false ∧
    scope.names.lookup ("self" : Str) = some .local ∧ scope.names.lookup fld = some .local ∧ scope.names.lookup ("__class__" : Str) = some .free ∧ scope.names.lookup ("super" : Str) = some .globalImplicit ∧
    (∀ x ∈ scope.names, x.2 ≠ .cell) ∧ scope.isCoroutine = false ∧ scope.isGenerator = false ∧ scope.kind = .function ∧ (params.posonlyargs ++ params.args).head? = some ar ∧ ar.arg = "self" ∧
    body = [.Expr (.Call (.Attribute (.Call (.Name "super" p0) [] [] p1) "__init__" p2) [.Constant (.str msg) j p3] [] p4) p5, .Assign [.Attribute (.Name "self" p6) fld p7] (.Name fld p8) p9] ∧
    (∀ env : Env, eval (.Call (.Attribute (.Call (.Name "super" p0) [] [] p1) "__init__" p2) [.Constant (.str msg) j p3] [] p4) env = (do
      let ov ← attributeBase (.Call (.Name "super" p0) [] [] p1) "__init__" env (eval (.Call (.Name "super" p0) [] [] p1) env)
      standAt p2.atName
      let (f, first) ← holding [ov] (getMethod ov "__init__" (pure false))
      callWith p4 f first (backTo p4 (starEach [.Constant (.str msg) j p3] env)) [])) ∧
    K.lookup cc = some ⟨cl, cld, .cell (some (.ref C)), csl⟩ ∧ K.lookup cda = some ⟨ccl, cdd, .fields vs, ccs⟩ ∧ vs[2]? = some (.str file tf) ∧ ((P.main.file : Str) == file) = true ∧ (P.main.scope.names.lookup ("super" : Str)).isSome = false ∧
    K.lookup C = some (excClassObj nm q C N bs bm true sn sub ab col dd k0 k1 k2 k3 k5 "ValueError.__new__") ∧ PySem.HandSPX.refsVE bm = true ∧ nsIn K cStatics "thirdparty.any" = some none ∧
    alongIn K "__init__" bm = some (some (.builtin "ValueError.__init__")) ∧ findIn K (.ref C) "__setattr__" = some (some (.builtin "object.__setattr__")) ∧ findIn K (.ref C) fld = some none
def spIni (C : Addr) (fld : Str) : Sp := fun vs H Q _ => ∃ (a : Addr) (y : V), vs = [.ref a, y] ∧ H a = some (exo a C none) ∧ ∀ dx, H dx = none → dx ≠ a → Q .non (upd (upd H dx (exd dx [(fld, y)])) a (exo a C (some dx)))
theorem boot_super : bootBuiltins "super" = some (.type "super") := by decide +kernel
theorem ok_there {P : Program} {w : World} {H : Hp} {h : Heap} {a : Addr} {o : HO} (x : ObjOk P w H h a o) : ∃ u, h.get? a = some u := by
  cases o with
  | ext p => obtain ⟨_, e, _⟩ := x; exact e
  | tup xs => obtain ⟨_, _, _, ⟨u, e, _⟩⟩ := x; exact ⟨u, e⟩
  | ins C dx fs => obtain ⟨_, _, _, e, _⟩ := x; exact ⟨_, e⟩
  | frz ob u => exact ⟨_, x.1⟩
  | own y => obtain ⟨_, e⟩ := x; exact ⟨_, e⟩
  | xd fs => obtain ⟨_, ⟨_, _, _, e, _⟩, _⟩ := x; exact ⟨_, e⟩
  | rng lo hi => obtain ⟨_, _, _, e⟩ := x; exact ⟨_, e⟩
  | lst xs => obtain ⟨_, _, _, _, e⟩ := x; exact ⟨_, e⟩
  | set S n => obtain ⟨o, _, _, _, e, _⟩ := x; exact ⟨_, e⟩
  | met f y => exact ⟨_, (show h.get? a = some _ from x)⟩
  | tbl ps => exact ⟨_, (show h.get? a = some _ from x)⟩
  | _ => obtain ⟨_, _, _, _, o, _, _, e, _⟩ := x; exact ⟨_, e⟩
theorem ini_ok {P : Program} {w : World} {K : PySem.W.Frag} {mg : Str → Option Value} {base : Heap} {CX : CXT} {k : Nat} {f C : Addr} {fd : FuncData} {msg fld : Str} (T : IniC P K C f fd msg fld) (hms : mg "super" = none) :
    FnOk P w K mg base CX (k + 1) f fd ["self", fld] (spIni C fld) := by
  refine ⟨fun vs H Q E ⟨_, _, e, _⟩ => by rw [e]; rfl, fun A outer s H args us vs Q E hr e0 hb r hsp => ?_⟩
  obtain ⟨a, y, rfl, hHa, q⟩ := hsp
  obtain ⟨name, qual, params, body, scope, dV, kV, doc, pm, ct, oc, an, od, osl, cc, cda, nm, qn, N, bs, bm, sn, sub, ab, col, dd, k0, k1, k2, k3, k5, ar, p0, p1, p2, p3, p4, p5, p6, p7, p8, p9, j, cl, ccl, cld, cdd, csl, ccs, vsx, file, tf,
    rfl, t1, t2, t3, t4, t5, t6, t7, t8, t9, t10, t11, t12, t13, t14, t15, t16, t17, t18, t19, t20, t21, t22, t23, t24, t25, t26, t27⟩ := T.ex
  obtain ⟨u1, us1, e1, r1, r2⟩ : ∃ u1 us1, us = [u1, us1] ∧ RelV (.ref a) u1 ∧ RelV y us1 := by
    cases r with
    | cons r1 r => cases r with
      | cons r2 r => cases r; exact ⟨_, _, rfl, r1, r2⟩
  subst e1
  cases r1
  obtain ⟨hp, gn, dr, tk, os⟩ := s
  have kp : ∀ b o, base.get? b = some o → hp.get? b = some o := fun b o e => (e0.bs b o e).1
  obtain ⟨mb, b1, b2⟩ := e0.mod.blt
  obtain ⟨t0, ha⟩ := exo_at e0.hok hHa
  have hKa : K.lookup a = none := by
    cases z : K.lookup a with
    | none => rfl
    | some o =>
      have := (e0.bs a o (e0.mod.kin a o z)).2
      rw [hHa] at this
      cases this
  refine init_raw (a := a) (C := C) (t0 := t0) (u := us1) (mg := mg) (mb := mb) (e0.mod.kin.keeps kp) (e0.mod.glob.keeps kp) (b1.keeps kp) hms ((b2 "super" (by decide)).trans boot_super) (e0.mod.nolimit.keeps kp) hr.depth t1 t2 hb t3 t4 t5 t6 t7 t8 t9 t10 t11 t12 t13 t14 t15 t16 t17 t18 t19 t20 t21 t22 t23 t24 t25 t26 t27 ha hKa fun h' tk' t1' dx kk dn dne hx hn => ?_
  have hnd : H dx = none := by
    cases z : H dx with
    | none => rfl
    | some ho =>
      obtain ⟨o, e⟩ := ok_there (e0.hok dx ho z)
      rw [dn] at e
      cases e
  have na : ∀ {b : Addr}, H b = none → b ≠ a := fun {b} n z => by
    rw [z, hHa] at n
    cases n
  have nd : ∀ {b : Addr} {o : Obj}, hp.get? b = some o → b ≠ dx := fun {b o} e z => by
    rw [z, dn] at e
    cases e
  refine ⟨.non, _, rfl, e0.bare, ?_, ?_, rfl, q dx hnd dne⟩
  · exact {
      keep := fun b o e n _ _ => kk b o (na n) e
      slot := fun b o e n _ _ => ⟨o.slots, kk b o (na n) e⟩
      free := fun b o e n _ => by rw [upd_ne (na n), upd_ne (nd e)]; exact n
      there := fun b o e _ => by
        by_cases hb : b = a
        · exact ⟨_, by rw [hb]; exact hx⟩
        · exact ⟨o, kk b o hb e⟩
      tups := fun b xs e => by rw [upd_ne (at_ne hHa e exo_tup), upd_ne (ne_of_none e hnd)]; exact e
      frzs := fun b o v e => by rw [upd_ne (at_ne hHa e exo_frz), upd_ne (ne_of_none e hnd)]; exact e
      tbls := fun b ps e => ⟨#[], by rw [upd_ne (at_ne hHa e exo_tbl), upd_ne (ne_of_none e hnd), e]; simp⟩ }
  · intro b o e
    by_cases hb : b = a
    · subst hb
      rw [upd_same] at e
      cases e
      exact exo_ok hx
    · rw [upd_ne hb] at e
      by_cases hd : b = dx
      · subst hd
        rw [upd_same] at e
        cases e
        exact exd_ok hn (relO_put (fs := []) r2 fun g => True.intro)
      · rw [upd_ne hd] at e
        exact (e0.hok b o e).stay (fun c v hc z => kk c v (by
            rcases hc with hc | hc
            · rw [hc]
              exact hb
            · exact at_ne hHa hc exo_own) z)
          (fun c hc => by rw [upd_ne (at_ne hHa hc exo_own), upd_ne (ne_of_none hc hnd)]; exact hc) (fun c xs hc => by rw [upd_ne (at_ne hHa hc exo_tup), upd_ne (ne_of_none hc hnd)]; exact hc)
end Wy
set_option Elab.async false
set_option linter.all false
set_option maxRecDepth 100000
set_option maxHeartbeats 4000000
/-! W32: raise C(e), C an own exception with an own __init__ that keeps e in a field. -/
namespace Wy
open PySem PySem.Spec PyProof.Rows L2
section
variable {X : Cx} {E : XK} {e : Expr} {es : List Expr} {ta : TA} {p pos : Pos}
/-- C(e): made with no context -/
theorem pmk_ini {CX : CXT} {x : Str} {C fI : Addr} {k : Nat} {fd : FuncData} {ps : List Str} {sp : Sp} (T : OexC X.K C) (iC : PySem.W.findIn X.K (.ref C) "__init__" = some (some (.ref fI))) (tI : PySem.W.typeIn X.K (.ref fI) = some (.type "function"))
    (F1 : FnOk X.prog X.w X.K X.mg X.base CX k fI fd ps sp) (hr : Room (k + 1) X.A) (hb : Binds X.K fd ps []) (hx : Passes CX X (fun _ _ _ => False)) (hg : Gl X x) (hm : X.mg x = some (.ref C)) (ha : PA X (e :: es) ta)
    (hdb : (x == ("__debug__" : Str)) = false := by decide) (he : starEach (e :: es) X.env = (false, eval e X.env) :: starEach es X.env := by rfl) (hpl : (backTo pos (starEach es X.env)).any (·.1) = false := by rfl) :
    L2N.PMk X (.Call (.Name x p) (e :: es) [] pos) (tMkO C sp [] ta) := by
  intro pins s σ H Q I h
  obtain ⟨nm, q, N, bs, bm, sn, sub, ab, col, dd, k0, k1, k2, k3, k5, hC, hbm⟩ := T.cls
  refine wpAny_Call_Name_kw (ld_glob I hg hm ?_ hdb)
  refine PySem.W.callWith_K (h₀ := X.base) I.ok.mod.kin T.kC (thn (ha.run pos pins s σ H _ I h) fun us sA ⟨vs, HA, IA, rA, hz, qA⟩ => ⟨IA.kIn, ?_⟩) he hpl
  show wpAny _ _ (call (.ref C) us) _ _ _
  obtain ⟨hp, gn, dr, tk, os⟩ := sA
  obtain ⟨a, ea⟩ : ∃ a, hp.objs.size + 1 = a := ⟨_, rfl⟩
  have hsz : hp.objs.size ≤ a := by omega
  have qB := qA a (IA.hok.fresh hsz)
  obtain ⟨hB, eB⟩ : ∃ hB, (hp.push (PySem.W.kdv_tup us)).push (PySem.HandSPX.excO C hp.objs.size) = hB := ⟨_, rfl⟩
  have kk : ∀ b o, hp.get? b = some o → hB.get? b = some o := fun b o z => by rw [← eB]; exact Heap.get?_push_of_some _ (Heap.get?_push_of_some _ z)
  have hget : hB.get? a = some (PySem.HandSPX.excO C hp.objs.size) := by
    rw [← eB, ← ea]
    heap_get
  have IB : Inv X pins σ (upd HA a (exo a C none)) ⟨hB, gn, dr, tk, os⟩ := IA.laid (t' := tk) kk hsz (exo_ok hget)
  have rB : Vals (V.ref a :: (vs ++ [])) (Value.ref a :: (us ++ [])) := .cons rfl (rA.append .nil)
  have hl : (Value.ref a :: us ++ []).length = ps.length := by
    have z := rB.length
    rw [F1.len _ _ _ _ qB] at z
    exact z.symm
  have hus : us.length ≤ sizeLine := by
    rw [← Paired.length rA, sizeLine_eq]
    omega
  rw [← ea] at rB qB IB hl
  rw [← eB] at IB
  refine wpAny_call (PySem.HandSPX.call_own F.excBase_ValueError (fun Y => PySem.HandSPX.refsVE_contains Y bm hbm) (IA.kIn _ _ hC) (PySem.W.looks_findIn IA.kIn iC) (fun self => PySem.W.bind_fn IA.kIn self tI) hus
    (codeAny_mono (F1.run _ X.stack _ _ ⟨Value.ref (hp.objs.size + 1) :: us, []⟩ (Value.ref (hp.objs.size + 1) :: (us ++ [])) _ _ (fun _ _ _ => False) (hr.make C us []) (IB.env0.make C us []) (by have z := hb ⟨(hp.push (PySem.W.kdv_tup us)).push (PySem.HandSPX.excO C hp.objs.size), gn, dr, tk, os⟩ (Value.ref (hp.objs.size + 1) :: us) IB.kIn hl; rw [List.cons_append] at z; exact z) rB qB) fun r s' hq' => ?_))
  cases r with
  | error er => exact hx pins σ _ _ er s' IB hq'
  | ok fl =>
    cases fl with
    | ret u =>
      obtain ⟨v, H2, os2, bare2, un2, hok2, rv, ev, d, fs, xa, xd, hd1, q2⟩ := hq'
      subst ev
      obtain ⟨h2, g2, d2, t2, os'⟩ := s'
      rw [← eB] at kk
      obtain ⟨t0, G, J, kG, ge, hoe, na⟩ := mk_end0 (d2 := d2) (t2 := t2) IA (Nat.le_succ _) kk un2 hok2 os2 bare2 xa xd hd1
      exact ⟨rv, ⟨hp.objs.size + 1, _, _, ⟨G, g2, d2, t2, os'⟩, _, .ref C, some d, rfl, J, kG, ge, hoe, ⟨rfl, rfl, fun vs z => by cases z; rfl⟩, rfl, rfl, na, rfl, bare2, raises_own T.exC T.tyC, q2⟩⟩
    | next => exact False.elim hq'
    | brk => exact False.elim hq'
    | cont => exact False.elim hq'
end
/-- an error's class with an own __init__ that keeps its argument in fld -/
structure EclF (P : Program) (K : PySem.W.Frag) (mg : Str → Option Value) (x fld : Str) : Prop where
  ex : ∃ (C fI : Addr) (fd : FuncData) (msg : Str), OexC K C ∧ PySem.W.findIn K (.ref C) "__init__" = some (some (.ref fI)) ∧ PySem.W.typeIn K (.ref fI) = some (.type "function") ∧ IniC P K C fI fd msg fld ∧ Binds K fd ["self", fld] [] ∧ mg x = some (.ref C) ∧ mg "super" = none
def fRaiseF (c fld : Str) (fe : FE) : FS := fun r m => (fe r m).toS fun w m1 => match w with
  | .d y => .exn ⟨c, some (fld, y)⟩ m1
  | _ => .bad
section
variable {X : Cx} {E : XK} {e : Expr} {fe : FE} {p p3 pos : Pos} {x fld : Str}
theorem ws_raiseF (g : EclF X.prog X.K X.mg x fld) (hc : X.calm = true) (tk : L2N.Takes X (fun cls d _ H => E cls d H)) (hr : Room 2 X.A) (hg : Gl X x) (he : WE X E e fe) (hdb : (x == ("__debug__" : Str)) = false := by decide)
    (hst : starEach (e :: []) X.env = (false, eval e X.env) :: starEach [] X.env := by rfl) (hpl : (backTo p3 (starEach [] X.env)).any (·.1) = false := by rfl) :
    WS X E (.Raise (some (.Call (.Name x p) [e] [] p3)) none pos) (fRaiseF x fld fe) := by
  obtain ⟨C, fI, fd, msg, g1, g2, g3, g4, g5, g6, g7⟩ := g.ex
  refine ⟨fun pins s σ H D I ⟨Z, B, r, m, sl, so, q⟩ => (L2N.ps_raise hc tk (pmk_ini (CX := L2N.CX X.prog X.w) g1 g2 g3 (ini_ok (k := 0) g4 g7) hr g5 passLN hg g6 (pa_cons he pa_nil (hs := hst)) hdb hst hpl)).run pins s σ H D I ?_⟩
  refine ⟨Z, B, r, m, sl, so, PostS.step q fun w m1 v H1 B1 l1 s1 r1 q1 => ?_⟩
  split at q1
  · rename_i y
    cases r1 with
    | d dv =>
      refine ⟨by show 1 ≤ 1000; omega, fun a ha => ⟨a, v, rfl, upd_same, fun dx hdx hne => ⟨rfl, dx, [(fld, v)], upd_same, by rw [upd_ne hne, upd_same], ?_, ?_⟩⟩⟩
      · rw [upd_ne hne] at hdx
        exact hdx
      · rw [upd_ne hne] at hdx
        have eH : upd (del (upd (upd (upd H1 a (exo a C none)) dx (exd dx [(fld, v)])) a (exo a C (some dx))) a) dx (.xd [(fld, v)]) = upd H1 dx (.xd [(fld, v)]) := by
          funext b
          by_cases z : b = dx
          · rw [z, upd_same, upd_same]
          · rw [upd_ne z, upd_ne z]
            by_cases y : b = a
            · rw [y, del_same, ha]
            · rw [del_ne y, upd_ne y, upd_ne z, upd_ne y]
        rw [eH]
        have le := le_laid (B := B1) (o := .xd [(fld, v)]) hdx
        exact q1 (.ref C) (some dx) _ B1 le (s1.laid hdx) ⟨⟨C, g6, rfl⟩, dx, v, rfl, upd_same, (dv.mono le).sub (.b fun b h => absurd h List.not_mem_nil)⟩
  · exact q1.elim
end
end Wy
set_option Elab.async false
set_option linter.all false
set_option maxRecDepth 100000
set_option maxHeartbeats 2000000
/-! W33: what a Boolean of K says of such a class. -/
namespace Wy
open PySem PySem.Spec PyProof.Rows PySem.W L2
theorem hcall_of {p0 p1 p2 p3 p4 : Pos} {j : Nat} {msg : Str} (hline : (p2.endLine == p4.line) = true) (env : Env) : eval (.Call (.Attribute (.Call (.Name "super" p0) [] [] p1) "__init__" p2) [.Constant (.str msg) j p3] [] p4) env = (do
      let ov ← attributeBase (.Call (.Name "super" p0) [] [] p1) "__init__" env (eval (.Call (.Name "super" p0) [] [] p1) env)
      standAt p2.atName
      let (f, first) ← holding [ov] (getMethod ov "__init__" (pure false))
      callWith p4 f first (backTo p4 (starEach [.Constant (.str msg) j p3] env)) []) := by
  have hform : methodCallForm ([Expr.Constant (.str msg) j p3].length + ([] : List Keyword).length) (backTo p4 (starEach [.Constant (.str msg) j p3] env)) (backToKw p4 (keywordEach [] env)) = true := rfl
  have hpos : ∀ b o, methodCallPos b o env p2 p4 = pure p4 := fun b o => by unfold methodCallPos; simp [hline]
  rw [arm_eval_Call]
  unfold methodCall
  simp only [hform, hpos, pure_bind]
  rfl
/-- the class -/
def clsB (K : PySem.W.Frag) (C : Addr) : Bool := match K.lookup C with
  | some ⟨.type "type", _, .cls cd, sl⟩ => (match cd.mro, sl with
    | .ref C' :: bm, ⟨[_, _, _, _, some (.builtin n), _]⟩ => C' == C && (n == "ValueError.__new__" && (!cd.hasDel && (cd.hasDict && (PySem.HandSPX.refsVE bm && decide (alongIn K "__init__" bm = some (some (.builtin "ValueError.__init__")))))))
    | _, _ => false)
  | _ => false
theorem clsB_ok {K : PySem.W.Frag} {C : Addr} (h : clsB K C = true) : ∃ (nm q : Str) (N : Addr) (bs bm : List Value) (sn : List Str) (sub : List Value) (ab : Bool) (col : Option Bool) (dd : Option Addr) (k0 k1 k2 k3 k5 : Option Value),
    K.lookup C = some (excClassObj nm q C N bs bm true sn sub ab col dd k0 k1 k2 k3 k5 "ValueError.__new__") ∧ PySem.HandSPX.refsVE bm = true ∧ alongIn K "__init__" bm = some (some (.builtin "ValueError.__init__")) := by
  unfold clsB at h
  split at h
  · rename_i dd cd sl eK
    split at h
    · rename_i C' bm k0 k1 k2 k3 n k5 e1
      simp only [Bool.and_eq_true, Bool.not_eq_true', decide_eq_true_eq, beq_iff_eq] at h
      obtain ⟨h1, h2, h3, h4, h5, h6⟩ := h
      subst h1 h2
      obtain ⟨nm, bs, mro, ns, qn, hd, sn, sb, ab, col, del⟩ := cd
      dsimp only at e1 h3 h4
      subst e1 h3 h4
      exact ⟨nm, qn, ns, bs, bm, sn, sb, ab, col, dd, k0, k1, k2, k3, k5, eK, h5, h6⟩
    · cases h
  · cases h
/-- its __init__: super().__init__(text), then self.fld = fld -/
def bodyB (fld : Str) (body : List Stmt) : Bool := match body with
  | [.Expr (.Call (.Attribute (.Call (.Name s1 _) [] [] _) s2 p2) [.Constant (.str _) _ _] [] p4) _, .Assign [.Attribute (.Name s3 _) f1 _] (.Name f2 _) _] => s1 == "super" && (s2 == "__init__" && (s3 == "self" && (f1 == fld && (f2 == fld && (p2.endLine == p4.line)))))
  | _ => false
theorem bodyB_ok {fld : Str} {body : List Stmt} (h : bodyB fld body = true) : ∃ (msg : Str) (p0 p1 p2 p3 p4 p5 p6 p7 p8 p9 : Pos) (j : Nat), (p2.endLine == p4.line) = true ∧
    body = [.Expr (.Call (.Attribute (.Call (.Name "super" p0) [] [] p1) "__init__" p2) [.Constant (.str msg) j p3] [] p4) p5, .Assign [.Attribute (.Name "self" p6) fld p7] (.Name fld p8) p9] := by
  unfold bodyB at h
  split at h
  · simp only [Bool.and_eq_true, beq_iff_eq] at h
    obtain ⟨h1, h2, h3, h4, h5, h6⟩ := h
    subst h1 h2 h3 h4 h5
    exact ⟨_, _, _, _, _, _, _, _, _, _, _, _, by simpa using h6, rfl⟩
  · cases h
end Wy
set_option Elab.async false
set_option linter.all false
set_option maxRecDepth 100000
set_option maxHeartbeats 2000000
/-! W34: EclF from a Boolean of K. -/
namespace Wy
open PySem PySem.Spec PyProof.Rows PySem.W L2
def cellB (K : PySem.W.Frag) (C cc : Addr) : Bool := match K.lookup cc with
  | some ⟨_, _, .cell (some (.ref D)), _⟩ => D == C
  | _ => false
theorem cellB_ok {K : PySem.W.Frag} {C cc : Addr} (h : cellB K C cc = true) : ∃ cl cld csl, K.lookup cc = some ⟨cl, cld, .cell (some (.ref C)), csl⟩ := by
  unfold cellB at h
  split at h
  · rename_i cl cld D csl e
    rw [beq_iff_eq] at h
    subst h
    exact ⟨cl, cld, csl, e⟩
  · cases h
def codeB (P : Program) (K : PySem.W.Frag) (cda : Addr) : Bool := match K.lookup cda with
  | some ⟨_, _, .fields vs, _⟩ => (match (vs[2]? : Option Value) with
    | some (.str file _) => (P.main.file : Str) == file
    | _ => false)
  | _ => false
theorem codeB_ok {P : Program} {K : PySem.W.Frag} {cda : Addr} (h : codeB P K cda = true) : ∃ ccl cdd vs ccs file tf, K.lookup cda = some ⟨ccl, cdd, .fields vs, ccs⟩ ∧ vs[2]? = some (.str file tf) ∧ ((P.main.file : Str) == file) = true := by
  unfold codeB at h
  split at h
  · rename_i ccl cdd vs ccs e
    split at h
    · rename_i file tf e2
      exact ⟨ccl, cdd, vs, ccs, file, tf, e, e2, h⟩
    · cases h
  · cases h
def scopeB (fld : Str) (sc : Scope) : Bool := decide (sc.names.lookup ("self" : Str) = some .local) && (decide (sc.names.lookup fld = some .local) && (decide (sc.names.lookup ("__class__" : Str) = some .free) && (decide (sc.names.lookup ("super" : Str) = some .globalImplicit) &&
  (sc.names.all (fun x => decide (x.2 ≠ .cell)) && (!sc.isCoroutine && (!sc.isGenerator && decide (sc.kind = .function)))))))
def parB (fld : Str) (p : Arguments) : Bool := match p with
  | ⟨[], [a, b], none, [], [], none, []⟩ => a.arg == "self" && b.arg == fld
  | _ => false
theorem parB_ok {fld : Str} {p : Arguments} (h : parB fld p = true) : ∃ a b : Arg, p = ⟨[], [a, b], none, [], [], none, []⟩ ∧ a.arg = "self" ∧ b.arg = fld := by
  unfold parB at h
  split at h
  · simp only [Bool.and_eq_true, beq_iff_eq] at h
    exact ⟨_, _, rfl, h.1, h.2⟩
  · cases h
def fnB (P : Program) (K : PySem.W.Frag) (C f : Addr) (fld : Str) : Bool := match K.lookup f with
  | some ⟨_, _, .func ⟨_, qual, params, .stmts body, scope, gl, [(c1, cc)], .none, _, _, _, _, .ref cda, _, bl⟩, _⟩ => c1 == "__class__" && (gl == mainGlobals && (bl == builtinsNs && (codeIn K (.ref cda) qual && (scopeB fld scope && (parB fld params && (bodyB fld body && (cellB K C cc && codeB P K cda)))))))
  | _ => false
def iniB (P : Program) (K : PySem.W.Frag) (x fld : Str) (f : Addr) : Bool := clsB K (He.ga K x) && (fnB P K (He.ga K x) f fld && (He.eqO (findIn K (.ref (He.ga K x)) "__init__") (some (some (.ref f))) && (decide (typeIn K (.ref f) = some (.type "function")) && (decide (typeIn K (.ref (He.ga K x)) = some (.type "type")) && (keepIn K (.ref (He.ga K x)) &&
  (decide (subIn K (.ref (He.ga K x)) (.type "BaseException") = some true) && (He.eqO (findIn K (.ref (He.ga K x)) "__setattr__") (some (some (.builtin "object.__setattr__"))) && (He.eqO (findIn K (.ref (He.ga K x)) fld) (some none) && (decide (nsIn K cStatics "thirdparty.any" = some none) && !(P.main.scope.names.lookup ("super" : Str)).isSome)))))))))
theorem fnB_ok {P : Program} {K : PySem.W.Frag} {C f : Addr} {fld : Str} (h : fnB P K C f fld = true) (hc : clsB K C = true) (n1 : fld ≠ "self") (n2 : (fld == ("__debug__" : Str)) = false) (hopq : nsIn K cStatics "thirdparty.any" = some none) (htop : (P.main.scope.names.lookup ("super" : Str)).isSome = false)
    (hsa : findIn K (.ref C) "__setattr__" = some (some (.builtin "object.__setattr__"))) (hno : findIn K (.ref C) fld = some none)
    (hbind : ∀ (fd : FuncData) (a b : Arg), fd.params = ⟨[], [a, b], none, [], [], none, []⟩ → a.arg = "self" → b.arg = fld → fd.defaults = .none → Binds K fd ["self", fld] []) :
    ∃ (fd : FuncData) (msg : Str), IniC P K C f fd msg fld ∧ Binds K fd ["self", fld] [] := by
  unfold fnB at h
  split at h
  · rename_i oc od nm qual params body scope gl c1 cc kV doc pm an cda ct bl osl e
    simp only [Bool.and_eq_true, beq_iff_eq] at h
    obtain ⟨h1, h2, h3, h4, h5, h6, h7, h8, h9⟩ := h
    subst h1 h2 h3
    obtain ⟨a, b, rfl, pa, pb⟩ := parB_ok h6
    obtain ⟨msg, p0, p1, p2, p3, p4, p5, p6, p7, p8, p9, j, hl, rfl⟩ := bodyB_ok h7
    obtain ⟨cl, cld, csl, e1⟩ := cellB_ok h8
    obtain ⟨ccl, cdd, vs, ccs, file, tf, e2, e3, e4⟩ := codeB_ok h9
    obtain ⟨nm', q, N, bs, bm, sn, sub, ab, col, dd, k0, k1, k2, k3, k5, e5, e6, e7⟩ := clsB_ok hc
    unfold scopeB at h5
    simp only [Bool.and_eq_true, decide_eq_true_eq, Bool.not_eq_true', List.all_eq_true] at h5
    obtain ⟨s1, s2, s3, s4, s5, s6, s7, s8⟩ := h5
    exact ⟨_, msg, ⟨nm, qual, _, _, scope, .none, kV, doc, pm, ct, oc, an, od, osl, cc, cda, nm', q, N, bs, bm, sn, sub, ab, col, dd, k0, k1, k2, k3, k5, a, p0, p1, p2, p3, p4, p5, p6, p7, p8, p9, j, cl, ccl, cld, cdd, csl, ccs, vs, file, tf,
      rfl, e, h4, n1, n2, s1, s2, s3, s4, s5, s6, s7, s8, rfl, pa, rfl, fun env => hcall_of hl env, e1, e2, e3, e4, htop, e5, e6, hopq, e7, hsa, hno⟩, hbind _ a b rfl pa pb rfl⟩
  · cases h
theorem eclF_of {P : Program} {K : PySem.W.Frag} {h : Heap} {mg : Str → Option Value} {x fld : Str} {f : Addr} (KX : K.In h) (G : h.Ns mainGlobals mg) (c : (He.Fa.glo x).ok K = true) (cs : (He.Fa.free "super").ok K = true) (i : iniB P K x fld f = true) (n1 : fld ≠ "self") (n2 : (fld == ("__debug__" : Str)) = false)
    (hbind : ∀ (fd : FuncData) (a b : Arg), fd.params = ⟨[], [a, b], none, [], [], none, []⟩ → a.arg = "self" → b.arg = fld → fd.defaults = .none → Binds K fd ["self", fld] []) : EclF P K mg x fld := by
  unfold iniB at i
  simp only [Bool.and_eq_true, decide_eq_true_eq, Bool.not_eq_true'] at i
  obtain ⟨i1, i2, i3, i4, i5, i6, i7, i8, i9, i10, i11⟩ := i
  obtain ⟨fd, msg, t1, t2⟩ := fnB_ok i2 i1 n1 n2 i10 i11 (He.eqO_ok i8) (He.eqO_ok i9) hbind
  obtain ⟨nm', q, N, bs, bm, sn, sub, ab, col, dd, k0, k1, k2, k3, k5, e5, e6, e7⟩ := clsB_ok i1
  exact ⟨He.ga K x, f, fd, msg, ⟨⟨nm', q, N, bs, bm, sn, sub, ab, col, dd, k0, k1, k2, k3, k5, e5, e6⟩, He.eqO_ok i8, i7, i5, i6⟩, He.eqO_ok i3, i4, t1, t2, He.glo_ok KX G c, He.free_ok KX G cs⟩
theorem binds_two {K : PySem.W.Frag} (fd : FuncData) (a b : Arg) (fld : Str) (hf : ∀ v1 v2 : Value, bindArgs { fd with params := ⟨[], [⟨"self", a.annotation, a.pos⟩, ⟨fld, b.annotation, b.pos⟩], none, [], [], none, []⟩, defaults := .none } ⟨[v1, v2], []⟩ = pure [(("self" : Str), v1), (fld, v2)])
    (h1 : fd.params = ⟨[], [a, b], none, [], [], none, []⟩) (h2 : a.arg = "self") (h3 : b.arg = fld) (h4 : fd.defaults = .none) : Binds K fd ["self", fld] [] := by
  refine Binds.all fun us hl => ?_
  match us, hl with
  | [v1, v2], _ =>
    have k := hf v1 v2
    obtain ⟨nm, q, p, body, sc, gl, cl, de, kd, doc, pm, an, cd, ct, bl⟩ := fd
    obtain ⟨aa, ab, ac⟩ := a
    obtain ⟨ba, bb, bc⟩ := b
    dsimp only at h1 h2 h3 h4 k
    subst h1 h2 h3 h4
    exact k
theorem binds_limit {K : PySem.W.Frag} (fd : FuncData) (a b : Arg) (h1 : fd.params = ⟨[], [a, b], none, [], [], none, []⟩) (h2 : a.arg = "self") (h3 : b.arg = "limit") (h4 : fd.defaults = .none) : Binds K fd ["self", "limit"] [] :=
  binds_two fd a b "limit" (fun v1 v2 => by rfl) h1 h2 h3 h4
end Wy
set_option Elab.async false
set_option linter.all false
set_option maxRecDepth 100000
set_option maxHeartbeats 4000000
/-! W35: _law_kin of an error that has a field. -/
namespace Wt
open PySem PySem.Spec PyProof.Rows HotX L2 L2H LamX
/-- the dict of the error is there -/
abbrev HasD (dd : Addr) (H : Hp) : Prop := ∃ fs, H dd = some (.xd fs)
theorem HasD.grow {dd : Addr} {H H' : Hp} (h : HasD dd H) (g : Grow H H') : HasD dd H' := let ⟨fs, e⟩ := h; ⟨fs, g _ _ e⟩
def rIsG (K : PySem.W.Frag) (D a dd : Addr) : List V → Hp → VK → Prop := fun xs H Q => ∃ (c : V) (cv : Value) (b : Bool), xs = [.ref a, c] ∧ (∀ u, RelV c u → u = cv) ∧ PySem.W.kitOne K (.ref D) cv = some b ∧ HasD dd H ∧ Q (.bl b) H
theorem call_isG {X : Cx} {a D dd : Addr} {oe : Obj} (hp : (a, oe) ∈ X.pn) (C : ExcC X.K D) (hz : oe.cls = .ref D ∧ oe.dict = some dd) (hf : ∃ vs, oe.data = .fields vs) : CallR X (.builtin "isinstance") (rIsG X.K D a dd) := by
  rintro pins s σ H xs us Q I r ⟨c, cv, b, rfl, hcv, e, ⟨fs, ea⟩, q⟩
  obtain _ | ⟨rx, _ | ⟨rt, rr⟩⟩ := r
  cases rr
  cases rx
  cases hcv _ rt
  obtain ⟨get, _⟩ := I.pin (a, oe) (List.mem_append_left _ hp)
  have hx : ObjOk X.prog X.w H s.heap dd (.xd fs) := I.hok dd _ ea
  obtain ⟨mA, hns, hr⟩ := hx
  obtain ⟨od, ho, hl⟩ := lookIn_ns hns
  obtain ⟨vs, hv⟩ := hf
  have J : PySem.W.InstAt s.heap a oe D (some od) := ⟨get, hz.1, by unfold PySem.W.notCls; rw [hv] <;> rfl, by rw [hz.2]; exact ho⟩
  obtain ⟨cd, hc, _⟩ := PySem.W.any_some C.hd
  exact PySem.W.kia_one (PySem.W.kitx_exc (by rw [hc]; rfl) C.hg C.hk C.hs C.ha C.hn C.ht C.hm) I.kIn J e (fun z => nomatch z) fun tk => ⟨.bl b, H, I.kept (t' := tk) fun _ _ z => z, rfl, q⟩
abbrev tIsG (K : PySem.W.Frag) (D a dd : Addr) (c : V) : TE := tCB (rIsG K D a dd) (tCons (tVar 0) (tCons (tC c) tNil))
section
variable {K : PySem.W.Frag} {D a dd : Addr}
theorem isG_ok {c : V} {b : Bool} (k : Ask K D c b) {σ : L2.St} {H : Hp} {Q : VK} (h0 : σ[0]? = some (some (.ref a))) (hd : HasD dd H) (q : Q (.bl b) H) : tIsG K D a dd c σ H Q := by
  obtain ⟨cv, k1, k2⟩ := k.ex
  exact ⟨.ref a, h0, c, cv, b, rfl, k1, k2, hd, q⟩
abbrev tIs3G (K : PySem.W.Frag) (D a dd : Addr) (c1 c2 c3 : V) : TE := tLst (tCons (tIsG K D a dd c1) (tCons (tIsG K D a dd c2) (tCons (tIsG K D a dd c3) tNil)))
theorem is3G_ok {c1 c2 c3 : V} {b1 b2 b3 : Bool} (k1 : Ask K D c1 b1) (k2 : Ask K D c2 b2) (k3 : Ask K D c3 b3) {σ : L2.St} {H : Hp} {Q : VK} (h0 : σ[0]? = some (some (.ref a))) (hd : HasD dd H)
    (q : ∀ p, H p = none → Q (.ref p) (upd H p (.lst [.bl b1, .bl b2, .bl b3]))) : tIs3G K D a dd c1 c2 c3 σ H Q :=
  isG_ok k1 h0 hd (isG_ok k2 h0 hd (isG_ok k3 h0 hd ⟨by show 3 ≤ sizeLine; decide, q⟩))
theorem cat3G_ok {c1 c2 c3 : V} {b1 b2 b3 : Bool} (k1 : Ask K D c1 b1) (k2 : Ask K D c2 b2) (k3 : Ask K D c3 b3) {σ : L2.St} {H : Hp} {Q : VK} {l : Addr} {xs : List V} (h0 : σ[0]? = some (some (.ref a))) (hd : HasD dd H) (h1 : σ[1]? = some (some (.ref l))) (hl : H l = some (.lst xs)) (hz : xs.length ≤ 100)
    (q : ∀ H' p, Grow H H' → H' p = some (.lst (xs ++ [.bl b1, .bl b2, .bl b3])) → Q (.ref p) H') : tOp rCat (tVar 1) (tIs3G K D a dd c1 c2 c3) σ H Q := by
  refine ⟨.ref l, h1, is3G_ok k1 k2 k3 h0 hd fun p np => ⟨l, p, xs, _, rfl, rfl, Grow.new np _ _ hl, upd_same, ?_, fun r nr => q _ _ ((Grow.new np).trans (Grow.new nr)) upd_same⟩⟩
  have : sizeLine ≥ 1000 := by decide
  show xs.length + 3 ≤ sizeLine
  omega
theorem cat1G_ok {c1 : V} {b1 : Bool} (k1 : Ask K D c1 b1) {σ : L2.St} {H : Hp} {Q : VK} {l : Addr} {xs : List V} (h0 : σ[0]? = some (some (.ref a))) (hd : HasD dd H) (h1 : σ[1]? = some (some (.ref l))) (hl : H l = some (.lst xs)) (hz : xs.length ≤ 100)
    (q : ∀ H' p, Grow H H' → H' p = some (.lst (xs ++ [.bl b1])) → Q (.ref p) H') : tOp rCat (tVar 1) (tLst (tCons (tIsG K D a dd c1) tNil)) σ H Q := by
  refine ⟨.ref l, h1, isG_ok k1 h0 hd ⟨by show 1 ≤ sizeLine; decide, fun p np => ⟨l, p, xs, _, rfl, rfl, Grow.new np _ _ hl, upd_same, ?_, fun r nr => q _ _ ((Grow.new np).trans (Grow.new nr)) upd_same⟩⟩⟩
  have : sizeLine ≥ 1000 := by decide
  show xs.length + 1 ≤ sizeLine
  omega
abbrev tCat3G (K : PySem.W.Frag) (D a dd : Addr) (c1 c2 c3 : V) : TE := tOp rCat (tVar 1) (tIs3G K D a dd c1 c2 c3)
abbrev tKinG (K : PySem.W.Frag) (D a dd : Addr) (c1 c2 c3 c4 c5 c6 c7 c8 c9 c10 c11 c12 c13 : V) (names sep : Str) : TS :=
  tSeq (tAsg (tIs3G K D a dd c1 c2 c3) (gName 1)) (tSeq (tAsg (tCat3G K D a dd c4 c5 c6) (gName 1)) (tSeq (tAsg (tCat3G K D a dd c7 c8 c9) (gName 1)) (tSeq (tAsg (tCat3G K D a dd c10 c11 c12) (gName 1)) (tSeq (tAsg (tOp rCat (tVar 1) (tLst (tCons (tIsG K D a dd c13) tNil))) (gName 1)) (tSeq (tAsg (tC (.str names)) (gName 2)) (tRet (tJoin K sep)))))))
theorem kin_ansG {c1 c2 c3 c4 c5 c6 c7 c8 c9 c10 c11 c12 c13 : V} {bs : List Bool} (A : Asks K D c1 c2 c3 c4 c5 c6 c7 c8 c9 c10 c11 c12 c13 bs) {names sep : Str} {ns : List Str} (hsep : (sep.length == 0) = false) (hsz : names.length + 2 ≤ sizeLine) (hs : Txt.split names sep = ns) (hn : ns.length = 13)
    (hj : ((pick ns bs).map (·.length)).sum + (pick ns bs).length * sep.length ≤ 16777216) {nx : L2.St → Hp → Prop} {H : Hp} {Q : VK} (hd : HasD dd H) (q : ∀ H', Grow H H' → Q (.str (Txt.join sep (pick ns bs))) H') :
    tKinG K D a dd c1 c2 c3 c4 c5 c6 c7 c8 c9 c10 c11 c12 c13 names sep { nx := nx, rt := Q } [some (.ref a), none, none, none, none] H := by
  obtain ⟨b1, b2, b3, b4, b5, b6, b7, b8, b9, b10, b11, b12, b13, e, k1, k2, k3, k4, k5, k6, k7, k8, k9, k10, k11, k12, k13⟩ := A.ex
  refine seq_asg (is3G_ok (σ := [some (.ref a), none, none, none, none]) k1 k2 k3 rfl hd fun p1 n1 => ?_)
  have d1 := hd.grow (Grow.new (o := .lst [.bl b1, .bl b2, .bl b3]) n1)
  refine seq_asg (cat3G_ok (σ := [some (.ref a), some (.ref p1), none, none, none]) k4 k5 k6 rfl d1 rfl upd_same (by simp) fun H2 p2 g2 h2 => ?_)
  have d2 := d1.grow g2
  refine seq_asg (cat3G_ok (σ := [some (.ref a), some (.ref p2), none, none, none]) k7 k8 k9 rfl d2 rfl h2 (by simp) fun H3 p3 g3 h3 => ?_)
  have d3 := d2.grow g3
  refine seq_asg (cat3G_ok (σ := [some (.ref a), some (.ref p3), none, none, none]) k10 k11 k12 rfl d3 rfl h3 (by simp) fun H4 p4 g4 h4 => ?_)
  have d4 := d3.grow g4
  refine seq_asg (cat1G_ok (σ := [some (.ref a), some (.ref p4), none, none, none]) k13 rfl d4 rfl h4 (by simp) fun H5 p5 g5 h5 => ?_)
  have h5' : H5 p5 = some (.lst (bs.map V.bl)) := by rw [h5, e]; rfl
  refine seq_asg (te := tC (.str names)) ?_
  exact join_ok (v0 := some (.ref a)) hsep hsz hs h5' (by rw [hn, e]; rfl) (by omega) hj fun H6 g6 => q H6 ((Grow.new n1).trans (g2.trans (g3.trans (g4.trans (g5.trans g6)))))
end
/-- what _law_kin promises of an error with a field -/
def kinSpF (K : PySem.W.Frag) (A : Addr → Str → Prop) : SpP := fun p vs H Q _ => ∃ D dd kin, vs = [.ref p.1] ∧ ExcC K D ∧ (p.2.cls = .ref D ∧ p.2.dict = some dd) ∧ HasD dd H ∧ (∃ us, p.2.data = .fields us) ∧ A D kin ∧ ∀ H', Grow H H' → Q (.str kin) H'
end Wt
set_option Elab.async false
set_option linter.all false
set_option maxRecDepth 100000
set_option maxHeartbeats 4000000
/-! T12: try, except x: without a name, whose suite ends with a bare raise. -/
namespace Wt
open PySem PySem.Spec PyProof.Rows HotX L2 L2H LamX
section
variable {X : Cx} {pins : List (Addr × Obj)} {σ : L2.St} {H : Hp} {s : Shared}
/-- what we don't know of may be left out of the heap -/
theorem inv_hide {G : Heap} {l : List Addr} (I : Inv X pins σ H s) (g : ∀ b, b ∉ l → G.get? b = s.heap.get? b) (hl : ∀ b ∈ l, H b = none ∧ X.s_0.heap.get? b = none ∧ b ≠ X.env.locals ∧ (∀ x c, X.env.cells.lookup x = some c → c ≠ b) ∧ ∀ p ∈ X.pn ++ pins, p.1 ≠ b) :
    Inv X pins σ H { s with heap := G } := by
  have old : ∀ b o, X.s_0.heap.get? b = some o → b ∉ l := fun b o e z => by
    rw [(hl b z).2.1] at e
    cases e
  have trk : ∀ b u, H b = some u → b ∉ l := fun b u e z => by
    rw [(hl b z).1] at e
    cases e
  have nL : X.env.locals ∉ l := fun z => (hl _ z).2.2.1 rfl
  have nC : ∀ x c, X.env.cells.lookup x = some c → c ∉ l := fun x c e z => (hl _ z).2.2.2.1 x c e rfl
  have cellK : ∀ x c, X.env.cells.lookup x = some c → ∀ v, s.heap.IsCell c v → G.IsCell c v := fun x c e v ⟨o, ho, hd⟩ => ⟨o, by rw [g c (nC x c e)]; exact ho, hd⟩
  refine ⟨I.ok, I.os, I.bare, ⟨fun b o e n hb hx => ?_, fun b o e n hb hx => ?_, I.base.free, fun b o e hx => ?_, I.base.tups, I.base.frzs, I.base.tbls⟩, ?_, fun x c e => ?_, I.free, I.freeC, fun p hp => ?_, fun b u e => ?_, I.len⟩
  · rw [g b (old b o e)]; exact I.base.keep b o e n hb hx
  · rw [g b (old b o e)]; exact I.base.slot b o e n hb hx
  · rw [g b (old b o e)]; exact I.base.there b o e hx
  · obtain ⟨m, ⟨o, es, ep, ho, r⟩, hk⟩ := I.loc
    refine ⟨m, ⟨o, es, ep, by rw [g _ nL]; exact ho, r⟩, fun i x v e1 e2 e3 => ?_⟩
    obtain ⟨u, r, l⟩ := hk i x v e1 e2 e3
    refine ⟨u, r, ?_⟩
    rcases l with l | ⟨k, c, e, z⟩
    · exact .inl l
    · exact .inr ⟨k, c, e, cellK x c e _ z⟩
  · obtain ⟨v, z⟩ := I.cell x c e
    exact ⟨v, cellK x c e v z⟩
  · obtain ⟨e, r⟩ := I.pin p hp
    exact ⟨by rw [g p.1 (fun z => (hl _ z).2.2.2.2 p hp rfl)]; exact e, r⟩
  · refine (I.hok b u e).stay (fun c v hc q => ?_) (fun _ q => q) fun _ _ q => q
    rw [g c ?_]
    · exact q
    · rcases hc with z | z
      · rw [z]; exact trk b u e
      · exact trk c _ z
/-- an exception that was caught, and its traceback, are pinned -/
theorem inv_suite2 {a T : Addr} {oe oT : Obj} {vs ts : Array Value} (I : Inv X pins σ H s) (ha : s.heap.get? a = some oe) (hd : oe.data = .fields vs) (na : H a = none) (nL : a ≠ X.env.locals) (nF : a ∉ X.fs)
    (hT : s.heap.get? T = some oT) (hdT : oT.data = .fields ts) (nT : H T = none) (nLT : T ≠ X.env.locals) (nFT : T ∉ X.fs) : Inv (X.suite a ((a, oe) :: (T, oT) :: (X.pn ++ pins))) [] σ H s :=
  ⟨I.ok.suite _ _, I.os, I.bare, I.base, I.loc, I.cell, I.free, I.freeC, fun p hp => by
    have hp' : p ∈ (a, oe) :: (T, oT) :: (X.pn ++ pins) := by rw [List.append_nil] at hp; exact hp
    rcases List.mem_cons.mp hp' with e | h
    · rw [e]; exact ⟨ha, na, nL, nF, fun v z => by have z' : oe.data = .cell v := z; rw [hd] at z'; cases z'⟩
    · rcases List.mem_cons.mp h with e | h
      · rw [e]; exact ⟨hT, nT, nLT, nFT, fun v z => by have z' : oT.data = .cell v := z; rw [hdT] at z'; cases z'⟩
      · exact I.pin p h, I.hok, I.len⟩
end
/-- what the clause 'except x: st; raise' wishes of an exception of the body -/
def wBare (K : PySem.W.Frag) (c : Value) (t : TS) (Wout : WX) : WX := fun cls d σ H => ∃ b, PySem.W.exmOne K cls c = some b ∧
  (b = true → t { nx := fun σ' H' => Wout cls d σ' H', rt := fun _ _ => False } σ H) ∧ (b = false → Wout cls d σ H)
section
variable {X : Cx} {x : Str} {c : Value} {body : List Stmt} {st : Stmt} {np pr pos pos' : Pos} {tb : WX → TS} {t : TS} {Wout : WX}
theorem ps_try_bare (hs : X.stack = X.env :: X.outer) (hf : X.env.frame = some X.env.locals) (hex : X.ex = []) (hc : Names X x c) (hpa : ∀ hd : Option Value, PassesOwnAt (model X.prog X.w) (X.A.mark hd) X.A X.env X.xe) (tk : L2N.Takes X Wout)
    (hb : ∀ (W : WX) (pn : List (Addr × Obj)) (xe : Value → Shared → Prop), L2N.Takes (X.tr pn xe) W → PSs (X.tr pn xe) body (tb W)) (hsu : ∀ (a : Addr) (pn : List (Addr × Obj)) (ph : Addr × Obj), Hot1 (X.suite a pn).A ph → ph ∈ pn → PS (X.suite a pn) st t) :
    PS X (.Try body [.ExceptHandler (some (.Name x np)) none [st, .Raise none none pr] pos'] [] [] pos) (fun D σ H => tb (wBare X.K c t Wout) D σ H) := by
  constructor
  intro pins s σ H D I h
  have fr0 : X.A.frames = some (X.env :: X.outer) := I.ok.frames.trans (congrArg some hs)
  have ok := I.ok
  have hex' : ∀ b, b ∉ X.ex := fun b z => by rw [hex] at z; cases z
  refine wpAny_Try_except (wpAny_mono ((hb (wBare X.K c t Wout) (X.pn ++ pins) (fun e s₁ => wpAny (model X.prog X.w) X.A (noteFrame e X.env) (fun _ s₂ => wpAny (model X.prog X.w) X.A (setFlight e none) (fun _ s₃ => wpAny (model X.prog X.w) X.A (handleBy e X.env [.ExceptHandler (some (.Name x np)) none [st, .Raise none none pr] pos']) (SP X pins D) X.xe s₃) X.xe s₂) X.xe s₁) ?_).run [] s σ H D (I.toTry _) h) ?_ fun e s1 z => z)
  rotate_left
  · rintro f s1 z
    cases f with
    | next => obtain ⟨σ1, H1, J, q⟩ := z; exact wpAny_execs_nil ⟨σ1, H1, J.ofTry I.ok, q⟩
    | ret u => obtain ⟨v, σ1, H1, J, r, q⟩ := z; exact ⟨v, σ1, H1, J.ofTry I.ok, r, q⟩
    | brk => obtain ⟨σ1, H1, J, q⟩ := z; exact ⟨σ1, H1, J.ofTry I.ok, q⟩
    | cont => obtain ⟨σ1, H1, J, q⟩ := z; exact ⟨σ1, H1, J.ofTry I.ok, q⟩
  rintro u s' ⟨a, B, sI, pins', σ', H', cls, d, rfl, J', nb, up, sky, na, os, ag, w⟩
  have J : Inv X pins σ' H' sI := J'.ofTry I.ok
  rw [show (X.tr (X.pn ++ pins) _).stack = X.env :: X.outer from hs] at sky
  refine L2N.Sky.land L2N.Zn.steady fr0 hf sky fun h3 fl3 up3 => ?_
  have J3 : Inv X pins σ' H' { s' with heap := h3 } := J.landed nb fl3.1 (up.trans up3) os ag
  obtain ⟨o3, vs3, g3, z3, d3⟩ := fl3.there
  have nfr : ∀ {h : Heap} {b : Addr} {o : Obj} {vs : Array Value}, h.FunFrames B (X.env :: X.outer) → h.get? b = some o → o.data = .fields vs → b ∉ frs (X.env :: X.outer) := fun {h b o vs} ff e dd hm => by
    obtain ⟨_, o', e', ne⟩ := ff.mem hm
    cases e.symm.trans e'
    exact ne _ dd
  have away := nfr fl3.2.2.1 g3 d3
  have awayL : ∀ {b : Addr}, b ∉ frs (X.env :: X.outer) → b ≠ X.env.locals := fun {b} z e => z (List.mem_filterMap.mpr ⟨X.env, List.mem_cons_self, by rw [hf, e]⟩)
  have awayF : ∀ {b : Addr}, b ∉ frs (X.env :: X.outer) → b ∉ X.fs := fun {b} z hm => by
    obtain ⟨e, he, q⟩ := List.mem_filterMap.mp hm
    exact z (List.mem_filterMap.mpr ⟨e, List.mem_cons_of_mem _ he, q⟩)
  have S3 := J3.suite g3 d3 na (awayL away) (awayF away)
  obtain ⟨b, eb, yes, no⟩ := w
  have LT : PySem.W.Looks (model X.prog X.w) h3 (typeOf (.ref a)) cls := fun A Q E s k q => wpAny_typeOf_ref (k _ _ g3) (by rw [z3.1]; exact q)
  have LM := PySem.W.exm_one (M := model X.prog X.w) J3.kIn LT eb
  have test : ∀ {Q : Value → Shared → Prop} {E : Value → Shared → Prop}, Q c { s' with heap := h3 } → wpAny (model X.prog X.w) (X.A.mark (some (.ref a))) (eval (.Name x np) X.env) Q E { s' with heap := h3 } := fun {Q E} q => by
    obtain ⟨hg, hd, hm | ⟨hm, hv, hn⟩⟩ := hc
    · exact ld_glob (X := X.suite a ((a, o3) :: (X.pn ++ pins))) S3 hg hm q hd
    · exact ld_blt (X := X.suite a ((a, o3) :: (X.pn ++ pins))) S3 hg hm hv q hn hd
  refine wpAny_handleBy_cons (codeAny_handlers_test (test (LM.here ?_))) (by intro q; cases q)
  cases b with
  | false =>
    show wpAny _ X.A (handleBy (.ref a) X.env []) _ _ _
    refine wpAny_handleBy_nil ?_
    obtain ⟨_, _, _, oe, vs, T, oT, ts', ge, ze, de, f1, _⟩ := id fl3
    unfold PySem.passOn
    refine wpAny_bind (wpAny_field ge de f1 ?_)
    rw [show (Value.ref T == Value.none) = false from rfl]
    have last : wpAny (model X.prog X.w) X.A (setFlight (.ref a) X.env.frame) (fun _ s4 => wpAny (model X.prog X.w) X.A (throw (.ref a) : Sem Flow) (SP X pins D) X.xe s4) X.xe { s' with heap := h3 } := by
      rw [hf]
      exact HandSPX.setFlight_upZ fl3 fun h4 hh4 up4 => wpAny_throw (tk _ _ ⟨a, B, sI, pins, σ', H', cls, d, rfl, J, nb, (up.trans up3).trans up4, .inr (.inr (by rw [hs]; exact hh4)), na, os, ag, no rfl⟩)
    first
      | exact wpAny_bind (wpAny_pure (wpAny_bind last))
      | exact wpAny_bind last
  | true =>
    refine codeAny_handlers_suite (HandSPX.lands_againZ fl3 fun h4 fl4 up4 => ?_)
    have J4 : Inv X pins σ' H' { s' with heap := h4 } := J.landed nb fl4.1 ((up.trans up3).trans up4) os ag
    obtain ⟨kb4, ba4, ff4, o4, vs4, T, oT, ts, g4, z4, d4, f4, bT, nTa, gT, dT, t3⟩ := id fl4
    have aT := nfr ff4 gT dT
    have aA := nfr ff4 g4 d4
    have nT : H' T = none := by
      cases e : H' T with
      | none => rfl
      | some o => exact absurd ((J.inGround nb).gone bT) (by rw [e]; exact fun z => nomatch z)
    have S4 := inv_suite2 J4 g4 d4 na (awayL aA) (awayF aA) gT dT nT (awayL aT) (awayF aT)
    refine wpAny_execs_cons (wpAny_mono ((hsu a ((a, o4) :: (T, oT) :: (X.pn ++ pins)) (a, o4) ⟨rfl, vs4, d4, z4.2.2 vs4 d4⟩ List.mem_cons_self).run [] _ σ' H' _ S4 (yes rfl)) ?_ fun _ _ z => z.elim)
    rintro f s6 z
    cases f with
    | ret u => obtain ⟨_, _, _, _, _, q⟩ := z; exact q.elim
    | brk => obtain ⟨_, _, _, q⟩ := z; exact q.elim
    | cont => obtain ⟨_, _, _, q⟩ := z; exact q.elim
    | next =>
      obtain ⟨σ6, H6, S6, q6⟩ := z
      have J6 : Inv X pins σ6 H6 s6 := ⟨ok, S6.os, S6.bare, S6.base, S6.loc, S6.cell, S6.free, S6.freeC, fun p hp => S6.pin p (List.mem_append_left _ (List.mem_cons_of_mem _ (List.mem_cons_of_mem _ hp))), S6.hok, S6.len⟩
      obtain ⟨e1, n1, _, _, c1⟩ := S6.pin (a, o4) (List.mem_append_left _ List.mem_cons_self)
      obtain ⟨e2, n2, _, _, c2⟩ := S6.pin (T, oT) (List.mem_append_left _ (List.mem_cons_of_mem _ List.mem_cons_self))
      obtain ⟨G, G1, G2⟩ := restrict s6.heap fun b => !decide (b = a) && !decide (b = T)
      have offl : ∀ b, b ∉ [a, T] → G.get? b = s6.heap.get? b := fun b hb => G1 b (by
        have h1 : b ≠ a := fun z => hb (by simp [z])
        have h2 : b ≠ T := fun z => hb (by simp [z])
        simp [h1, h2])
      have Ga : G.get? a = none := G2 a (by simp)
      have GT : G.get? T = none := G2 T (by simp)
      have sub : ∀ b o, G.get? b = some o → s6.heap.get? b = some o := fun b o e => by
        by_cases hb : b ∈ [a, T]
        · rcases List.mem_cons.mp hb with z | z
          · rw [z, Ga] at e; cases e
          · have z : b = T := by simpa using z
            rw [z, GT] at e; cases e
        · rw [offl b hb] at e; exact e
      have gone : ∀ b, B.get? b = none → b ∉ frs (X.env :: X.outer) → X.s_0.heap.get? b = none := fun b hb hn => by
        cases e : X.s_0.heap.get? b with
        | none => rfl
        | some o =>
          obtain ⟨o', e'⟩ := J.base.there b o e (hex' b)
          rw [nb b o' e' (by rw [hs]; exact hn)] at hb
          cases hb
      have pinn : ∀ b, B.get? b = none → ∀ p ∈ X.pn ++ pins, p.1 ≠ b := fun b hb p hp z => by
        obtain ⟨p1, p2, p3, p4, p5⟩ := J.pin p hp
        have := nb p.1 p.2 p1 (fun hm => by
          rcases List.mem_cons.mp (J.stkSub _ hm) with z | z
          · exact p3 z
          · exact p4 z)
        rw [z, hb] at this
        cases this
      have cellN : ∀ b o vs, s6.heap.get? b = some o → o.data = .fields vs → ∀ y c, X.env.cells.lookup y = some c → c ≠ b := fun b o vs eo dd y c ey z => by
        obtain ⟨v, oc, h1, h2⟩ := J6.cell y c ey
        rw [z, eo] at h1
        cases h1
        rw [dd] at h2
        cases h2
      have J7 : Inv X pins σ6 H6 { s6 with heap := G } := inv_hide (l := [a, T]) J6 offl fun b hb => by
        rcases List.mem_cons.mp hb with z | z
        · rw [z]; exact ⟨n1, gone a ba4 aA, awayL aA, cellN a o4 vs4 e1 d4, pinn a ba4⟩
        · have z : b = T := by simpa using z
          rw [z]; exact ⟨n2, gone T bT aT, awayL aT, cellN T oT ts e2 dT, pinn T bT⟩
      have flg : HandSPX.FlyingZ (PySem.W.hideAll G (frs X.stack)) (X.env :: X.outer) a (L2N.Zn cls d) s6.heap := by
        refine ⟨fun b o e => sub b o (PySem.W.of_hideAll _ e), ?_, ?_, o4, vs4, T, oT, ts, e1, z4, d4, f4, ?_, nTa, e2, dT, t3⟩
        · cases q : (PySem.W.hideAll G (frs X.stack)).get? a with
          | none => rfl
          | some o => rw [PySem.W.of_hideAll _ q] at Ga; cases Ga
        · rw [← hs]
          exact funFrames_none J6.stack fun b hb => PySem.W.hideAll_none _ hb
        · cases q : (PySem.W.hideAll G (frs X.stack)).get? T with
          | none => rfl
          | some o => rw [PySem.W.of_hideAll _ q] at GT; cases GT
      refine wpAny_execs_cons (PySem.wpAny_Raise_bare ?_)
      unfold PySem.raiseBare raiseStmt
      dsimp only
      refine wpAny_bind (wpAny_handled ?_)
      rw [show (X.A.mark (some (Value.ref a))).handled = some (.ref a) from rfl]
      dsimp only
      refine wpAny_bind (wpAny_rule ?_)
      refine wpAny_bind (wpAny_field e1 d4 f4 ?_)
      rw [show (Value.ref T == Value.none) = false from rfl, hf]
      have last : ∀ {Q : Flow → Shared → Prop}, wpAny (model X.prog X.w) (X.A.mark (some (.ref a))) (setFlight (.ref a) (some X.env.locals)) (fun _ s7 => wpAny (model X.prog X.w) (X.A.mark (some (.ref a))) (throw (.ref a) : Sem Flow) Q (notedBy (model X.prog X.w) (X.A.mark (some (Value.ref a))) X.env fun x s₂ => cameBackBy (model X.prog X.w) X.A X.env X.xe x s₂) s7)
          (notedBy (model X.prog X.w) (X.A.mark (some (Value.ref a))) X.env fun x s₂ => cameBackBy (model X.prog X.w) X.A X.env X.xe x s₂) s6 := fun {Q} =>
        HandSPX.setFlight_upZ flg fun h7 hh7 up7 => wpAny_throw (hpa (some (.ref a)) _ _ (tk _ _ ⟨a, _, { s6 with heap := G }, pins, σ6, H6, cls, d, rfl, J7, fun b o e hb => PySem.W.hideAll_get _ e hb, (Heap.UpToSlots.of_keeps sub).trans up7, .inr (.inr (by rw [hs] at hh7 ⊢; exact hh7)), n1, rfl, J6.bare, q6⟩))
      first
        | exact wpAny_bind (wpAny_pure (wpAny_bind last))
        | exact wpAny_bind last
end
end Wt
set_option Elab.async false
set_option linter.all false
set_option maxRecDepth 100000
set_option maxHeartbeats 4000000
/-! W53: _law_try, TooMany's clause too (printed by mkW53.py). -/
namespace Wt
open PySem PySem.Spec PyProof.Rows HotX L2 L2H LamX
/-- an error that _law_try answers by words, or by words and its line -/
def tryEM (K : PySem.W.Frag) (A : Addr → Str → Prop) (cI cE : Value) (C : Addr) (Q : VK) : XK := fun cls d H => tryE K A (.ref C) cI cE Q cls d H ∨ ∃ (dd : Addr) (kin : Str) (fs : List (Str × V)) (v : V), cls = .ref C ∧ d = some dd ∧ ExcC K C ∧ PySem.W.exmOne K cls (.ref C) = some true ∧ A C kin ∧
  H dd = some (.xd fs) ∧ fs.lookup ("limit" : Str) = some v ∧ ∀ H', Grow H H' → ∀ (ob : Obj) (q : Addr), ob.dict = none → H' q = none → Q (.ref q) (upd H' q (.frz ob (.tup [.str kin, v])))
def TTryM (K : PySem.W.Frag) (A : Addr → Str → Prop) (cI cE : Value) (C : Addr) (told : Str) : (XK → Hp → VK → Prop) → Hp → VK → Prop := fun tl H Q =>
  tl (tryEM K A cI cE C Q) H fun v H' => 2 ≤ sizeLine ∧ ∀ (ob : Obj) (q : Addr), ob.dict = none → H' q = none → Q (.ref q) (upd H' q (.frz ob (.tup [.str told, v])))
section
variable {X : Cx}
theorem try_givesM {x q : Str} {sg : Scope} {g : Addr} {cdg : Value} {A : Addr → Str → Prop} {cI cE : Value} {C : Addr} {told : Str} {k : Nat} {fK : Addr} {fdK : FuncData} {st1 : Stmt} {l1 : List Stmt}
    {j1 j2 j3 j4 : Nat} {p1 p2 p3 p4 p5 p6 p7 p8 p9 p10 p11 p12 p13 p14 p15 p16 p17 p18 p19 p20 p21 p22 p23 r1 r2 r3 r4 r5 r6 r7 r8 : Pos}
    (hl1 : Loc sg "_law_found") (hl1' : sg.names.lookup ("_law_found" : Str) = some .local) (hl2 : Loc sg "_law_e") (hl2' : sg.names.lookup ("_law_e" : Str) = some .local) (hv1 : Vis sg "_law_found") (hv2 : Vis sg "_law_e")
    (hT : sg.names.lookup ("TooMany" : Str) = some .globalImplicit) (hI : sg.names.lookup ("InvalidText" : Str) = some .globalImplicit) (hE : sg.names.lookup ("ErrandError" : Str) = some .globalImplicit) (hK : sg.names.lookup ("_law_kin" : Str) = some .globalImplicit)
    (mT : X.mg "TooMany" = some (.ref C)) (mI : X.mg "InvalidText" = some cI) (mE : X.mg "ErrandError" = some cE) (mK : X.mg "_law_kin" = some (.ref fK)) (hk : PySem.W.keepIn X.K (.ref fK) = true) (hb : L2.Binds X.K fdK ["_law_e"] [])
    (F : FnP X.prog X.w X.K X.mg X.base C8.CX0 1 fK fdK ["_law_e"] (kinSp X.K A)) (FF : FnP X.prog X.w X.K X.mg X.base C8.CX0 1 fK fdK ["_law_e"] (kinSpF X.K A)) (xf : XfC X.K C) (hno : PySem.W.findIn X.K (.ref C) "limit" = some none) :
    GivesN X nTry x sg g cdg [.Assign [.Name "_law_found" p1] (.Constant .none j1 p2) p3,
      .Try [.Assign [.Name "_law_found" p4] (.Tuple [.Constant (.str told) j2 p5, .Call (.Name "_law_call_so" p6) [] [] p7] j3 p8) p9]
        [.ExceptHandler (some (.Name "TooMany" p10)) (some "_law_e") [.Assign [.Name "_law_found" r1] (.Tuple [.Call (.Name "_law_kin" r2) [.Name "_law_e" r3] [] r4, .Attribute (.Name "_law_e" r5) "limit" r6] j4 r7) r8] p11, .ExceptHandler (some (.Name "InvalidText" p12)) (some "_law_e") (st1 :: l1) p13,
          .ExceptHandler (some (.Name "ErrandError" p14)) (some "_law_e") [.Assign [.Name "_law_found" p15] (.Call (.Name "_law_kin" p16) [.Name "_law_e" p17] [] p18) p19] p20] [] [] p21,
      .Return (some (.Name "_law_found" p22)) p23] "_law_call_so" q (TTryM X.K A cI cE C told) := by
  intro f c' s H Q tl hr act hc h
  refine ⟨_, pss_cons (ps_set (X := (cxOf C8.CX0 X.prog X.w X.K X.mg X.base nTry x sg g cdg X.A X.stack s H C8.E0).nox) (i := 1) nTry_nodup rfl hl1 pe_non rfl (.inr hl1')) (pss_cons (ps_try_cls (X := (cxOf C8.CX0 X.prog X.w X.K X.mg X.base nTry x sg g cdg X.A X.stack s H C8.E0).nox)
      (l := [⟨.ref C, 2, fun a cls d D σ H => σ.length = 3 → tAsg (fun σ H Q => ∃ (dd : Addr) (kin : Str) (fs : List (Str × V)) (v : V), (cls = .ref C ∧ d = some dd ∧ ExcC X.K C ∧ A C kin ∧ H dd = some (.xd fs) ∧ fs.lookup ("limit" : Str) = some v ∧ ∀ H', Grow H H' → ∀ (ob : Obj) (q : Addr), ob.dict = none → H' q = none → Q (.ref q) (upd H' q (.frz ob (.tup [.str kin, v])))) ∧ σ[2]? = some (some (.ref a))) (gName 1) D σ H⟩, ⟨cI, 2, fun _ _ _ _ _ _ => False⟩,
        ⟨cE, 2, fun a cls d D σ H => σ.length = 3 → tAsg (fun σ H Q => ∃ D kin, (cls = .ref D ∧ d = none ∧ ExcC X.K D ∧ A D kin ∧ ∀ H', Grow H H' → Q (.str kin) H') ∧ σ[2]? = some (some (.ref a))) (gName 1) D σ H⟩])
      (tb := fun W D σ H => ∃ Ech : XK, (∀ cls d σ' H', Ech cls d H' → W cls d σ' H') ∧ σ[0]? = some (some (.ref f)) ∧ CodeA H c' q ∧ tl Ech H fun v H' => 2 ≤ sizeLine ∧ ∀ (ob : Obj) (q : Addr), ob.dict = none → H' q = none → D.nx (σ.set 1 (some (.ref q))) (upd H' q (.frz ob (.tup [.str told, v]))))
      (Wout := fun _ _ _ _ => False) rfl rfl nTry_nodup takesN0 (fun W pn xe tk => ?_) ?_) (pss_one (ps_ret (pe_var (i := 1) rfl hv1 (by decide) (by decide))))), ?_⟩
  · constructor
    intro pins s' σ H' D I h'
    obtain ⟨Ech, hW, h1, h2, h3⟩ := h'
    have hp := act W pn xe Ech p6 p7 tk hW
    have hq := pss_one (ps_set (pos := p9) (pos' := p4) (i := 1) nTry_nodup rfl hl1 (Wy.pe_tupK (pos := p8) (x1 := j3) (pa_cons (pe_str (x := told) (j := j2) (pos := p5)) (pa_cons hp pa_nil))) rfl (.inr hl1'))
    exact hq.run pins s' σ H' D I ⟨h1, h2, h3⟩
  · refine .cons (x := "TooMany") ⟨hT, by decide, .inl mT⟩ rfl hl2' (fun a oe cls d pn zn hf => ?_) (.cons (x := "InvalidText") ⟨hI, by decide, .inl mI⟩ rfl hl2' (fun _ _ _ _ _ _ _ => ⟨fun _ _ _ _ _ _ z => z.elim⟩)
      (.cons (x := "ErrandError") ⟨hE, by decide, .inl mE⟩ rfl hl2' (fun a oe cls d pn zn hf => ?_) .nil))
    · obtain ⟨us, hus⟩ := hf
      have call := pe_callP (X := (cxOf C8.CX0 X.prog X.w X.K X.mg X.base nTry x sg g cdg X.A X.stack s H C8.E0).nox.suite a ((a, oe) :: pn)) (E := fun _ => C8.E0) (p := (a, oe)) (q := r2) (pos := r4) FF ⟨hr.dp, hr.un⟩ ⟨rfl, us, hus, zn.2.2 us hus⟩ List.mem_cons_self hK mK hk hb (fun _ _ _ _ _ _ _ h => h.elim)
        (pa_cons (pe_var (pos := r3) (x := "_law_e") (i := 2) rfl hv2) pa_nil)
      have att := pe_xf (X := (cxOf C8.CX0 X.prog X.w X.K X.mg X.base nTry x sg g cdg X.A X.stack s H C8.E0).nox) (a := a) (pn := pn) (pos := r6) (n := "limit") (cls := cls) (d := d) xf hno ⟨zn.1, zn.2.1⟩ ⟨us, hus⟩ (pe_var (pos := r5) (x := "_law_e") (i := 2) rfl hv2)
      refine pss_one (ps_len (ps_set (i := 1) nTry_nodup rfl hl1 (pe_pre (Wy.pe_tupK (pos := r7) (x1 := j4) (pa_cons call (pa_cons att pa_nil))) fun σ H Q z => ?_) rfl (.inr hl1')))
      obtain ⟨dd, kin, fs, v, ⟨rfl, rfl, he, hA, hd, hlk, hq⟩, h2⟩ := z
      exact ⟨.ref a, h2, C, dd, kin, rfl, he, ⟨zn.1, zn.2.1⟩, ⟨fs, hd⟩, ⟨us, hus⟩, hA, fun H' g => ⟨.ref a, h2, rfl, rfl, dd, fs, v, rfl, g _ _ hd, hlk, by show 2 ≤ sizeLine; decide, fun ob q nd nq => hq H' g ob q nd nq⟩⟩
    · obtain ⟨us, hus⟩ := hf
      have call := pe_callP (X := (cxOf C8.CX0 X.prog X.w X.K X.mg X.base nTry x sg g cdg X.A X.stack s H C8.E0).nox.suite a ((a, oe) :: pn)) (E := fun _ => C8.E0) (p := (a, oe)) (q := p16) (pos := p18) F ⟨hr.dp, hr.un⟩ ⟨rfl, us, hus, zn.2.2 us hus⟩ List.mem_cons_self hK mK hk hb (fun _ _ _ _ _ _ _ h => h.elim)
        (pa_cons (pe_var (pos := p17) (x := "_law_e") (i := 2) rfl hv2) pa_nil)
      refine pss_one (ps_len (ps_set (i := 1) nTry_nodup rfl hl1 (pe_pre call fun σ H Q z => ?_) rfl (.inr hl1')))
      obtain ⟨D0, kin, ⟨rfl, rfl, he, hA, hq⟩, h2⟩ := z
      exact ⟨.ref a, h2, D0, kin, rfl, he, ⟨zn.1, zn.2.1⟩, ⟨us, hus⟩, hA, hq⟩
  · refine ⟨tryEM X.K A cI cE C Q, fun cls d σ' H' h' => ?_, rfl, hc, ?_⟩
    · rcases h' with h' | h'
      · obtain ⟨D0, kin, rfl, rfl, he, e1, e2, e3, hA, hq⟩ := h'
        refine ⟨false, e1, (fun z => nomatch z), fun _ => ⟨false, e2, (fun z => nomatch z), fun _ => ⟨true, e3, fun _ a na hl => ?_, (fun z => nomatch z)⟩⟩⟩
        obtain _ | ⟨x0, _ | ⟨x1, _ | ⟨x2, _ | ⟨x3, r⟩⟩⟩⟩ := σ' <;> first | (cases hl; done) | skip
        exact ⟨D0, kin, ⟨rfl, rfl, he, hA, fun H'' g => ⟨.str kin, rfl, hq H'' g⟩⟩, rfl⟩
      · obtain ⟨dd, kin, fs, v, rfl, rfl, he, e2, hA, hd, hlk, hq⟩ := h'
        refine ⟨true, e2, fun _ a na hl => ?_, (fun z => nomatch z)⟩
        obtain _ | ⟨x0, _ | ⟨x1, _ | ⟨x2, _ | ⟨x3, r⟩⟩⟩⟩ := σ' <;> first | (cases hl; done) | skip
        exact ⟨dd, kin, fs, v, ⟨rfl, rfl, he, hA, hd, hlk, fun H'' g ob q nd nq => ⟨.ref q, rfl, hq H'' g ob q nd nq⟩⟩, rfl⟩
    · have e : (fun (v : V) (H' : Hp) => 2 ≤ sizeLine ∧ ∀ (ob : Obj) (q : Addr), ob.dict = none → H' q = none → Q (.ref q) (upd H' q (.frz ob (.tup [.str told, v])))) = (fun (v : V) (H' : Hp) => 2 ≤ sizeLine ∧ ∀ (ob : Obj) (q : Addr), ob.dict = none → H' q = none →
          tRet (tVar 1) { nx := fun _ H' => Q .non H', rt := Q } ((List.set (L2.start nTry [V.ref f]) 1 (some V.non)).set 1 (some (V.ref q))) (upd H' q (.frz ob (.tup [.str told, v])))) :=
        funext fun v => funext fun H' => propext ⟨fun ⟨a, b⟩ => ⟨a, fun ob q nd nq => ⟨.ref q, rfl, b ob q nd nq⟩⟩, fun ⟨a, b⟩ => ⟨a, fun ob q nd nq => by
          obtain ⟨w, e, z⟩ := b ob q nd nq
          cases e
          exact z⟩⟩
      unfold TTryM at h
      rw [e] at h
      exact h
end
end Wt
set_option Elab.async false
set_option linter.all false
set_option maxRecDepth 100000
set_option maxHeartbeats 4000000
/-! W54: _law_try(lambda: e), of errors with a limit too (printed by mkW53.py). -/
namespace Wy
open PySem PySem.Spec PyProof.Rows L2 LamX Wt
/-- what _law_try answers: told and the value, or the words of the error, or the words and the line -/
def fTryM (kinds : List (Str × Str)) (kF : Str) (f : FE) : FE := fun r m => match f r m with
  | .ok w m1 => .ok (mkT [.d (.str "told"), w]) m1
  | .exn x m1 => match x.fld with
    | none => (match kinds.lookup x.cls with
      | some kin => .ok (.d (.str kin)) m1
      | none => .bad)
    | some (n, y) => (match y with
      | .int i => (if x.cls = "TooMany" ∧ n = "limit" then .ok (mkT [.d (.str kF), .d (.int i)]) m1 else .bad)
      | _ => .bad)
  | .bad => .bad
/-- the classes of errors, and their words -/
structure TryKM (K : PySem.W.Frag) (mg : Str → Option Value) (A : Addr → Str → Prop) (cI cE : Value) (C : Addr) (kinds : List (Str × Str)) (kF : Str) : Prop where
  all : ∀ x kin, kinds.lookup x = some kin → ∀ C1, mg x = some (.ref C1) → ExcC K C1 ∧ PySem.W.exmOne K (.ref C1) (.ref C) = some false ∧ PySem.W.exmOne K (.ref C1) cI = some false ∧ PySem.W.exmOne K (.ref C1) cE = some true ∧ A C1 kin
  txt : mg "TooMany" = some (.ref C) ∧ ExcC K C ∧ PySem.W.exmOne K (.ref C) (.ref C) = some true ∧ A C kF
theorem tryM_read {X : Cx} {A : Addr → Str → Prop} {cI cE : Value} {C : Addr} {kinds : List (Str × Str)} {kF : Str} {E : XK} {f : FE} {σ : Xs} {H : Hp} {Q : VK} (T : TryKM X.K X.mg A cI cE C kinds kF) (hP : ∃ ps, H (tabL X.K) = some (.tbl ps)) (h : rd RE X E (fTryM kinds kF f) σ H Q) :
    tLamP (tabL X.K) lamQ (TTryM X.K A cI cE C "told") (fun E' => rd RE X E' f) σ H Q := by
  obtain ⟨Z, B, r, m, sl, so, q⟩ := h
  obtain ⟨ps, hP⟩ := hP
  refine ⟨ps, hP, so.tb.tells hP, fun H1 M => ?_⟩
  have l1 : Le B H B H1 := made_le M hP
  have so1 : So (plX X Z) H1 B m := so.made M hP
  have q1 := Post.mono l1 q
  have nP : H1 (tabL X.K) ≠ none := l1.trk _ (by rw [hP]; exact fun z => nomatch z)
  refine ⟨Z, B, r, m, sl.mono l1, so1, ?_⟩
  unfold fTryM at q1
  cases ef : f r m with
  | bad => rw [ef] at q1; exact q1
  | ok w m1 =>
    rw [ef] at q1
    intro v H2 B2 l2 s2 wv
    refine ⟨by decide, fun ob t hd ht => ?_⟩
    exact Post.fresh (q1.mono l2) s2 ht (.mkT (.inl ⟨s2.out ht, ob, hd, upd_same⟩) (.cons (.d (.str _)) (.cons (wv.mono (le_laid ht)) .nil)))
  | exn x m1 =>
    rw [ef] at q1
    intro cls d H2 B2 l2 s2 xr
    obtain ⟨⟨C1, hm, rfl⟩, hd⟩ := xr
    obtain ⟨xc, xf⟩ := x
    cases xf with
    | none =>
      dsimp only at q1 hd hm
      cases hk : kinds.lookup xc with
      | none => rw [hk] at q1; exact q1.elim
      | some kin =>
        rw [hk] at q1
        obtain ⟨k1, k2, k3, k4, k5⟩ := T.all _ _ hk C1 hm
        refine .inl ⟨C1, kin, rfl, hd, k1, k2, k3, k4, k5, fun H3 g => ?_⟩
        have q3 := Post.mono (l2.trans (grow_le g)) q1
        exact Post.done q3 (s2.grow g (l2.trk _ nP)) (.d (.str _))
    | some ny =>
      obtain ⟨n, y⟩ := ny
      dsimp only at q1 hd hm
      split at q1
      · rename_i i
        split at q1
        · rename_i hc
          obtain ⟨rfl, rfl⟩ := hc
          obtain ⟨t0, t1, t3, t4⟩ := T.txt
          rw [t0] at hm
          cases hm
          obtain ⟨dd, v, e1, e2, e3⟩ := hd
          cases e3
          refine .inr ⟨dd, kF, _, _, rfl, e1, t1, t3, t4, e2, rfl, fun H3 g ob t hd ht => ?_⟩
          have q3 := Post.mono (l2.trans (grow_le g)) q1
          have s3 := s2.grow g (l2.trk _ nP)
          exact Post.fresh q3 s3 ht (.mkT (.inl ⟨s3.out ht, ob, hd, upd_same⟩) (.cons (.d (.str _)) (.cons (.d (.int _)) .nil)))
        · exact q1.elim
      · exact q1.elim
/-- _law_try, as it stands behind the top -/
structure TryXM (X : Cx) (kinds : List (Str × Str)) (kF : Str) : Prop where
  ex : ∃ (g : Addr) (oc : Value) (od : Option Addr) (pg : Arguments) (bg : List Stmt) (sg : Scope) (dV kV doc pm : Value) (an : Option Addr) (cdv ct : Value) (osl : Array (Option Value)) (A : Addr → Str → Prop) (cI cE : Value) (C : Addr),
    X.mg "_law_try" = some (.ref g) ∧ PySem.W.keepIn X.K (.ref g) = true ∧ X.K.lookup g = some ⟨oc, od, .func (PySem.W.fnOf "_law_try" "_law_try" pg bg sg dV kV doc pm an cdv ct), osl⟩ ∧ PySem.W.codeIn X.K cdv "_law_try" = true ∧
    L2.Binds X.K (PySem.W.fnOf "_law_try" "_law_try" pg bg sg dV kV doc pm an cdv ct) ["_law_call_so"] [] ∧ FnScope nTry ["_law_call_so"] sg ∧ Vis sg "_law_call_so" ∧ GivesN X nTry "_law_try" sg g cdv bg "_law_call_so" lamQ (TTryM X.K A cI cE C "told") ∧ TryKM X.K X.mg A cI cE C kinds kF
section
variable {X : Cx} {E : XK}
theorem we_tryM {kinds : List (Str × Str)} {kF : Str} {k : Nat} {params : Arguments} {body : Expr} {scope : Scope} {f : FE} {p lpos pos : Pos} (LX : LawX X) (TX : TryXM X kinds kF) (hg : Gl X "_law_try") (hr : Room (k + 2) X.A) (L : LamS X.env.scope scope) (hdef : defaultsOf params X.env = ([], []))
    (hbind : ∀ (q : Str) (cl : List (Str × Addr)) (pm cv ctv : Value), bindArgs (PySem.W.kla_fn "<lambda>" q params body scope cl pm cv ctv) ⟨[], []⟩ = pure [])
    (hbody : ∀ (A : Around) (outer : List Env) (s : Shared) (H : Hp) (E : XK) (f' c' : Addr), Room k (A.deeper (lamEnv X scope s.heap.objs.size f' c')) → InTab H (tabL X.K) lpos c' → WE (lamCxN X A outer s H E scope f' c') E body f) :
    WE X E (.Call (.Name "_law_try" p) [.Lambda params body scope lpos] [] pos) (fTryM kinds kF f) := by
  obtain ⟨g, oc, od, pg, bg, sg, dV, kV, doc, pm, an, cdv, ct, osl, A, cI, cE, C, h1, h2, h3, h4, h5, h6, h7, h8, h9⟩ := TX.ex
  obtain ⟨c, TB, hcode⟩ := LX.code
  obtain ⟨qs, hqs⟩ := LX.tab
  have hq := LX.qual
  have D := pe_lamP (p := p) (lpos := lpos) (pos := pos) (t := fun E' => rd RE X E' f) hg h1 h2 h3 h4 h5 h6 rfl h7 (by rw [hq]; exact h8) TB hcode hr L hdef hbind (fun A outer s H E f' c' hr' hi => hbody A outer s H E f' c' hr' hi)
  rw [hq] at D
  refine ⟨fun pins s σ H Q I z => D.run pins s σ H Q I (tryM_read h9 ?_ z)⟩
  obtain ⟨more, e⟩ := I.base.tbls _ _ hqs
  exact ⟨_, e⟩
end
end Wy
set_option Elab.async false
set_option linter.all false
set_option maxRecDepth 100000
set_option maxHeartbeats 4000000
/-! T13: a lambda with one parameter; o.f as a target. -/
namespace Wt
open PySem PySem.Spec PyProof.Rows HotX L2 L2H LamX
/-- o.f = .. -/
def gFldA (K : PySem.W.Frag) (ta : TE) (f : Str) : TG := fun v σ H Q => ta σ H fun x H2 => ∃ a C dx fs, x = .ref a ∧ H2 a = some (.ins C dx fs) ∧ Cls K C ∧ NoAttr K C f ∧ fs.length < 1000 ∧ Q σ (upd H2 a (.ins C dx (putF f v fs)))
theorem pg_fld {X : Cx} {o : Expr} {f : Str} {pos : Pos} {ta : TE} (ha : PE X o ta) : PG X (.Attribute o f pos) (gFldA X.K ta f) := by
  refine ⟨fun pins s σ H v u Q I r h => ?_⟩
  rw [assign_Attribute]
  refine wpAny_bind (wpAny_holding (thn (ha.run pins s σ H _ I h) fun ov s1 ⟨x, H1, I1, rx, q⟩ => wpAny_bind (wpAny_standAt ?_)))
  obtain ⟨a, C, dx, fs, rfl, e, c, n, l, q⟩ := q
  obtain rfl : ov = Value.ref a := rx
  exact wpAny_bind (wpAny_holding (setattr_ok I1 e c n l r fun s2 I2 => wpAny_release ⟨σ, _, I2, q⟩))
/-- one parameter a, captured names, globals -/
structure LamS1 (sc scope : Scope) (a : Str) : Prop where
  kind : scope.kind = .function
  co : scope.isCoroutine = false
  gen : scope.isGenerator = false
  par : scope.names.lookup a = some .local
  own : ∀ y ∈ scope.names, y.2 ≠ .cell ∧ (y.2 = .local → y.1 = a)
  free : ∀ y ∈ scope.names, y.2 = .free → sc.names.lookup y.1 = some .cell ∨ sc.names.lookup y.1 = some .free
def lamS1B (sc scope : Scope) (a : Str) : Bool :=
  decide (scope.kind = .function) && !scope.isCoroutine && !scope.isGenerator && decide (scope.names.lookup a = some .local) && scope.names.all fun y => !decide (y.2 = .cell) && (!decide (y.2 = .local) || decide (y.1 = a)) && (!decide (y.2 = .free) || decide (sc.names.lookup y.1 = some .cell) || decide (sc.names.lookup y.1 = some .free))
theorem lamS1_by {sc scope : Scope} {a : Str} (h : lamS1B sc scope a = true) : LamS1 sc scope a := by
  unfold lamS1B at h
  simp only [Bool.and_eq_true, Bool.or_eq_true, Bool.not_eq_true', decide_eq_true_eq, decide_eq_false_iff_not, List.all_eq_true] at h
  obtain ⟨⟨⟨⟨h1, h2⟩, h3⟩, h4⟩, h5⟩ := h
  refine ⟨h1, h2, h3, h4, fun y hy => ⟨(h5 y hy).1.1, fun e => (h5 y hy).1.2.elim (fun z => absurd e z) id⟩, fun y hy e => ?_⟩
  rcases (h5 y hy).2 with (z | z) | z
  · exact absurd e z
  · exact .inl z
  · exact .inr z
/-- the context of such a lambda's body -/
abbrev lamCx1 (X : Cx) (A : Around) (outer : List Env) (s : Shared) (H : Hp) (E : XK) (scope : Scope) (f c' : Addr) (a : Str) : Cx := { lamCxN X A outer s H E scope f c' with N := X.N ++ [a] }
section
variable {X : Cx} {pins : List (Addr × Obj)} {σ : L2.St} {H HZ : Hp} {s s1 : Shared}
theorem lam_start1 {A : Around} {outer : List Env} {E : XK} {scope : Scope} {f c' : Addr} {h₁ : Heap} {tk : Nat} {a : Str} {v : V} {u : Value} (I : Inv X pins σ H s) (L : LamS1 X.env.scope scope a) (ha : a ∉ X.N) (e0 : Env0 X.prog X.w X.K X.mg X.base A outer s1 HZ) (hd : A.handled = none)
    (un : Un (frs X.stack) [] H HZ s.heap s1.heap) (rv : L2.RelV v u) (hns : h₁.Ns s1.heap.objs.size fun y => [(a, u)].reverse.lookup y) (kp : ∀ b o, s1.heap.get? b = some o → h₁.get? b = some o) :
    Inv (lamCx1 X A outer s1 HZ E scope f c' a) [] (σ ++ [some v]) HZ { s1 with heap := h₁, toks := tk } := by
  have hfree : ∀ y ∈ scope.names, y.2 = .free → ∃ c, X.env.cells.lookup y.1 = some c := fun y hy e => (L.free y hy e).elim (fun k => I.ok.has _ (.inl k)) fun k => I.ok.has _ (.inr k)
  have cm : ∀ {y c}, (cloFrom X.env.cells scope.names []).lookup y = some c → X.env.cells.lookup y = some c := fun {y c} e => by
    rcases cloFrom_mem (PySem.mem_of_lookup e) with hm | ⟨h1, h2⟩
    · cases hm
    · obtain ⟨c1, hc⟩ := hfree _ h1 rfl
      have hc : X.env.cells.lookup y = some c1 := hc
      have e2 : c = c1 := by
        rw [h2, hc] <;> rfl
      rw [e2]
      exact hc
  have look : ∀ {y}, scope.names.lookup y = some .free → ∃ c, (cloFrom X.env.cells scope.names []).lookup y = some c := fun {y} hl => mem_lookup (cloFrom_has (cells := X.env.cells) (acc := []) (PySem.mem_of_lookup hl))
  have cellK : ∀ {c : Addr} {w : Option Value}, H c = none → s.heap.IsCell c w → h₁.IsCell c w := fun {c w} n ⟨o, ho, hd⟩ => by
    obtain ⟨sl, q⟩ := un.any ho n (by simp)
    exact ⟨_, kp _ _ q, hd⟩
  have noX : ∀ b : Addr, b ∉ (lamCx1 X A outer s1 HZ E scope f c' a).ex := fun b z => absurd (show b ∈ ([] : List Addr) from z) (by simp)
  have ncell : ∀ {y}, scope.names.lookup y ≠ some .cell := fun {y} z => (L.own _ (PySem.mem_of_lookup z)).1 rfl
  refine ⟨⟨e0.mod, L.kind, rfl, rfl, Nat.le_refl _, fun y z c e1 e2 => I.ok.inj y z c (cm e1) (cm e2), fun y hy => ?_, fun y c z _ => ?_, fun _ => hd, Around.frames_deeper e0.frames, .inr ⟨rfl, rfl⟩, fun b z => absurd z (noX b), e0.bs, e0.bsz, fun b _ _ => noX b,
      fun b z => absurd z (noX b), e0.funs, e0.frf⟩,
    rfl, e0.bare, Un.kept kp, ⟨_, hns, fun i y w e1 e2 e3 => ?_⟩, fun y c e => ?_, e0.hok.fresh (Nat.le_refl _), fun y c e => ?_, fun q hq => absurd (show q ∈ ([] : List (Addr × Obj)) ++ [] from hq) (by simp), e0.hok.kept kp, ?_⟩
  · have hy : scope.names.lookup y = some .cell ∨ scope.names.lookup y = some .free := hy
    exact hy.elim (fun z => absurd z ncell) look
  · have z : false = true := z
    cases z
  · have e1 : (X.N ++ [a])[i]? = some y := e1
    have e3 : Vis scope y := e3
    by_cases hi : i < X.N.length
    · rw [List.getElem?_append_left hi] at e1
      rw [List.getElem?_append_left (by rw [I.len]; exact hi)] at e2
      have ya : y ≠ a := fun z => ha (z ▸ List.mem_of_getElem? e1)
      rcases e3 with k | k | k
      · exact absurd ((L.own _ (PySem.mem_of_lookup k)).2 rfl) ya
      · exact absurd k ncell
      · obtain ⟨m, hn, hl⟩ := I.loc
        have hvis : Vis X.env.scope y := (L.free _ (PySem.mem_of_lookup k) rfl).elim (fun k => .inr (.inl k)) (fun k => .inr (.inr k))
        obtain ⟨w', r, q⟩ := hl i y w e1 e2 hvis
        obtain ⟨c2, h2⟩ := look k
        refine ⟨w', r, .inr ⟨.inr k, c2, h2, ?_⟩⟩
        have c1 := cm h2
        rcases q with ⟨k', _⟩ | ⟨_, c3, e', z⟩
        · have k' : X.env.scope.names.lookup y = some .local := k'
          rcases L.free _ (PySem.mem_of_lookup k) rfl with k2 | k2 <;> rw [show X.env.scope.names.lookup y = _ from k2] at k' <;> cases k'
        · rw [c1] at e'
          cases e'
          exact cellK (I.freeC y _ c1) z
    · rw [List.getElem?_append_right (by omega)] at e1
      rw [List.getElem?_append_right (by rw [I.len]; omega)] at e2
      have hz : i - X.N.length = 0 := by
        have := (List.getElem?_eq_some_iff.mp e1).1
        simp at this
        omega
      rw [I.len, hz] at e2
      rw [hz] at e1
      have e1 : a = y := by simpa using e1
      have e2 : v = w := by simpa using e2
      subst e1 e2
      exact ⟨u, rv, .inl ⟨L.par, by simp⟩⟩
  · obtain ⟨w', z⟩ := I.cell y c (cm e)
    exact ⟨w', cellK (I.freeC y c (cm e)) z⟩
  · obtain ⟨w, o, ho, hd⟩ := I.cell y c (cm e)
    exact un.free c o ho (I.freeC y c (cm e)) (by simp)
  · show (σ ++ [some v]).length = (X.N ++ [a]).length
    rw [List.length_append, List.length_append, I.len]
    rfl
end
end Wt
set_option Elab.async false
set_option linter.all false
set_option maxRecDepth 100000
set_option maxHeartbeats 4000000
/-! T14: o.attempt(lambda x: e). -/
namespace Wt
open PySem PySem.Spec PyProof.Rows HotX L2 L2H LamX
abbrev lamO (X : Cx) (params : Arguments) (body : Expr) (scope : Scope) (pm : Value) (c' : Addr) (ctv : Value) : Obj := PySem.W.kla_obj "<lambda>" (X.env.qual ++ "<lambda>") params body scope (cloFrom X.env.cells scope.names []) pm c' ctv
section
variable {X : Cx} {pins : List (Addr × Obj)} {σ : L2.St} {H : Hp} {s : Shared}
/-- f(x) in the def that got the lambda, x a slot of its own -/
theorem pe_act1 {Eo : XK} {Ng : List Str} {qg : Str} {sg : Scope} {g f c' : Addr} {cdg pm ctv : Value} {params : Arguments} {body : Expr} {scope : Scope} {k i j : Nat} {a act slf : Str} {pn : List (Addr × Obj)} {xe : Value → Shared → Prop} {W : WX} {tb : XK → TE} {p1 p2 p3 : Pos}
    (I : Inv X pins σ H s) (L : LamS1 X.env.scope scope a) (ha : a ∉ X.N) (hf : s.heap.get? f = some (lamO X params body scope pm c' ctv)) (hfn : H f = none) (hfr : f ∉ frs X.stack)
    (hbind : ∀ u : Value, bindArgs (PySem.W.kla_fn "<lambda>" (X.env.qual ++ "<lambda>") params body scope (cloFrom X.env.cells scope.names []) pm (.ref c') ctv) ⟨[u], []⟩ = pure [(a, u)])
    (tk : L2N.Takes ((cxOf (L2N.CX X.prog X.w) X.prog X.w X.K X.mg X.base Ng qg sg g cdg X.A X.stack s H Eo).tr pn xe) W) (hr : Room (k + 1) (X.A.deeper (envOfC qg sg s.heap.objs.size g cdg)))
    (hbody : ∀ (A : Around) (outer : List Env) (s : Shared) (H : Hp) (E : XK), Room k (A.deeper (lamEnv X scope s.heap.objs.size f c')) → PE (lamCx1 X A outer s H E scope f c' a) body (tb E))
    (hN : Ng[i]? = some act) (hv : Vis sg act) (hNj : Ng[j]? = some slf) (hvj : Vis sg slf) (hd : (act == ("__debug__" : Str)) = false := by decide) (hcd : (act == ("__classdict__" : Str)) = false := by decide)
    (hdj : (slf == ("__debug__" : Str)) = false := by decide) (hcdj : (slf == ("__classdict__" : Str)) = false := by decide) :
    PE ((cxOf (L2N.CX X.prog X.w) X.prog X.w X.K X.mg X.base Ng qg sg g cdg X.A X.stack s H Eo).tr pn xe) (.Call (.Name act p1) [.Name slf p3] [] p2)
      (fun σZ HZ Q => σZ[i]? = some (some (.ref f)) ∧ CodeA HZ c' (X.env.qual ++ "<lambda>") ∧ ∃ v, σZ[j]? = some (some v) ∧ tb (fun cls d H' => W cls d σZ H') (σ ++ [some v]) HZ Q) := by
  constructor
  rintro pinsZ sZ σZ HZ Q IZ ⟨hs, hc, v, hvv, ht⟩
  refine wpAny_Call_Name_kw (thn ((pe_var (pos := p1) (i := i) hN hv hd hcd).run pinsZ sZ σZ HZ (fun v H1 => v = .ref f ∧ H1 = HZ) IZ ⟨.ref f, hs, rfl, rfl⟩) ?_)
  rintro u s1 ⟨v1, H1, I1, r1, rfl, rfl⟩
  cases r1
  have gf := I1.base.keep f _ hf hfn hfr (fun z => nomatch (show f ∈ ([] : List Addr) from z))
  refine PySem.W.callWith_F (first := []) ⟨_, _, _, _, gf⟩ (thn ((pa_cons (pe_var (pos := p3) (i := j) hNj hvj hdj hcdj) pa_nil).run p2 pinsZ s1 σZ H1 (fun vs H2 => vs = [v] ∧ H2 = H1) I1 ⟨v, hvv, rfl, rfl⟩) ?_) (by rfl) (by rfl)
  rintro us s2 ⟨vs, H2, I2, rv, rfl, rfl⟩
  have gf2 := I2.base.keep f _ hf hfn hfr (fun z => nomatch (show f ∈ ([] : List Addr) from z))
  refine ⟨⟨_, _, _, _, gf2⟩, ?_⟩
  obtain ⟨u, rfl, ru⟩ : ∃ u, us = [u] ∧ L2.RelV v u := by
    cases rv with
    | cons r0 rt =>
      cases rt
      exact ⟨_, rfl, r0⟩
  have hrec := codeA_at I2.hok hc
  refine wpAny_call (codeAny_mono (c := .call (.ref f) ⟨[u], []⟩) (R := CR (L2N.CX X.prog X.w) (envOfC qg sg s.heap.objs.size g cdg :: X.stack) X.prog X.w H2 s2 Q (fun cls d H' => W cls d σZ H')) ?_ ?_)
  · refine PySem.W.kla_callFunE hr.depth gf2 rfl L.co L.gen rfl hrec ?_
    rw [hbind]
    refine wpAny_pure (wpAny_newFunctionEnv (fun y hy => (L.own y hy).1) (fun y hy => ?_) (fun h₁ hns hsb => ⟨I2.nolimit.fresh _ hsb, ?_⟩) L.kind)
    · have e : y = (a, u) := by simpa using hy
      rw [e]
      exact L.par
    have up : ∀ b o, s2.heap.get? b = some o → h₁.get? b = some o := fun b o e => hsb.extBut b o (Nat.ne_of_lt (Heap.lt_size e)) (Heap.get?_push_of_some _ e)
    have J0 := lam_start1 (E := fun cls d H' => W cls d σZ H') (c' := c') (f := f) (tk := s2.toks + ([(a, u)] : List (Str × Value)).length) I L ha I2.env0 hr.hd I2.base ru hns up
    refine PySem.W.kla_codeExpr (env := lamEnv X scope s2.heap.objs.size f c') (wpAny_mono ((hbody (X.A.deeper (envOfC qg sg s.heap.objs.size g cdg)) (envOfC qg sg s.heap.objs.size g cdg :: X.stack) s2 H2 (fun cls d H' => W cls d σZ H') (hr.deeper _)).run [] _ (σ ++ [some v]) H2 Q J0 ht) ?_ fun e s' z => z)
    rintro v s' ⟨w', H', J', rv, q⟩
    exact ⟨w', H', J'.os, J'.bare, J'.base, J'.hok, rv, q⟩
  · rintro r s' z
    cases r with
    | error e => exact tk e s' (L2N.XE.of_call I2 (fun cls d H' h => h) z)
    | ok fl => cases fl with
      | ret u => exact I2.after z
      | next => exact z.elim
      | brk => exact z.elim
      | cont => exact z.elim
end
abbrev tBack (K : PySem.W.Frag) : TS := tAsg (tVar 2) (gTup K 2 (gCons (gFldA K (tVar 0) "now") (gCons (gFldA K (tVar 0) "past") gNil)))
/-- an error flies out of the lambda: where it is the class's, the object at a gets its place back, which the tuple at q keeps -/
def attE (K : PySem.W.Frag) (cE : Value) (a f q : Addr) (E : XK) : XK := fun cls d H => wBare K cE (tBack K) (fun cls d _ H => E cls d H) cls d [some (.ref a), some (.ref f), some (.ref q)] H
theorem attE_of {K : PySem.W.Frag} {cE : Value} {a f q C dx : Addr} {E : XK} {cls : Value} {d : Option Addr} {H : Hp} {fs : List (Str × V)} {ob : Obj} {v1 v2 : V} (c : Cls K C) (nn : NoAttr K C "now") (np : NoAttr K C "past") (h1 : PySem.W.exmOne K cls cE = some true) (h2 : H a = some (.ins C dx fs)) (hl : fs.length < 999)
    (h3 : H q = some (.frz ob (.tup [v1, v2]))) (h : E cls d (upd (upd H a (.ins C dx (putF "now" v1 fs))) a (.ins C dx (putF "past" v2 (putF "now" v1 fs))))) : attE K cE a f q E cls d H := by
  refine ⟨true, h1, fun _ => ⟨.ref q, rfl, q, [v1, v2], rfl, .inl (.inr ⟨ob, h3⟩), rfl, v1, [v2], rfl, .ref a, rfl, a, C, dx, fs, rfl, h2, c, nn, by omega, v2, [], rfl, .ref a, rfl, a, C, dx, _, rfl, upd_same, c, np, ?_, rfl, h⟩, fun z => nomatch z⟩
  have := length_putF ("now" : Str) v1 fs
  omega
/-- what attempt makes of the object at a: its place is kept, and put back where an error flies -/
def TAtt (K : PySem.W.Frag) (a C : Addr) (cE : Value) (tl : XK → Hp → VK → Prop) (E : XK) (H : Hp) (Q : VK) : Prop := ∃ dx fs v1 v2, H a = some (.ins C dx fs) ∧ fs.lookup ("now" : Str) = some v1 ∧ fs.lookup ("past" : Str) = some v2 ∧ ∀ (ob : Obj) (q f : Addr), ob.dict = none → H q = none →
  tl (attE K cE a f q E) (upd H q (.frz ob (.tup [v1, v2]))) Q
abbrev nAtt : List Str := ["self", "action", "kept"]
/-- attempt's body -/
def attBody (p1 p2 p3 p4 p5 p6 p7 p8 p9 p10 p11 p12 p13 p14 p15 p16 p17 p18 p19 p20 p21 p22 : Pos) (j1 j2 : Nat) : List Stmt :=
  [.Assign [.Name "kept" p1] (.Tuple [.Attribute (.Name "self" p2) "now" p3, .Attribute (.Name "self" p4) "past" p5] j1 p6) p7,
    .Try [.Return (some (.Call (.Name "action" p8) [.Name "self" p9] [] p10)) p11] [.ExceptHandler (some (.Name "ErrandError" p12)) none
      [.Assign [.Tuple [.Attribute (.Name "self" p13) "now" p14, .Attribute (.Name "self" p15) "past" p16] j2 p17] (.Name "kept" p18) p19, .Raise none none p20] p21] [] [] p22]
structure AttS (sg : Scope) : Prop where
  S : FnScope nAtt ["self", "action"] sg
  kept : sg.names.lookup ("kept" : Str) = some .local
  slf : Vis sg "self"
  act : Vis sg "action"
  err : sg.names.lookup ("ErrandError" : Str) = some .globalImplicit
/-- where the code object of the maker and its table stand -/
def CodeAt (X : Cx) (H : Hp) (c P : Addr) : Prop := PySem.W.CodeHd X.base c P ∨ ∃ q, H c = some (CodeN c q P)
def tAtt (X : Cx) (C : Addr) (cE : Value) (E : XK) (to' : TE) (tb : XK → TE) : TE := fun σ H Q => to' σ H fun x H0 => (∀ b ps, X.H_0 b = some (.tbl ps) → ∃ more, H0 b = some (.tbl (ps ++ more))) → ∃ a dx fs, x = .ref a ∧ H0 a = some (.ins C dx fs) ∧ fs.lookup ("attempt" : Str) = none ∧ ∃ c P ps, X.env.code = .ref c ∧ CodeAt X H0 c P ∧ H0 P = some (.tbl ps) ∧ Tells H0 (X.env.qual ++ "<lambda>") ps ∧
  ∀ H1, Made H0 P (X.env.qual ++ "<lambda>") ps H1 → TAtt X.K a C cE (fun E' H' Q' => tb E' (σ ++ [some (.ref a)]) H' Q') E H1 Q
section
variable {X : Cx} {E : XK}
theorem pe_att {k : Nat} {C g : Addr} {o : Expr} {to' : TE} {pg : Arguments} {sg : Scope} {dV kV doc pm cdv ct oc cE : Value} {an od : Option Addr} {osl : Array (Option Value)} {qg nm : Str} {params : Arguments} {body : Expr} {scope : Scope} {a : Str} {tb : XK → TE} {apos lpos pos : Pos} {P0 : Addr} {pl : Sem Bool}
    {p1 p2 p3 p4 p5 p6 p7 p8 p9 p10 p11 p12 p13 p14 p15 p16 p17 p18 p19 p20 p21 p22 : Pos} {j1 j2 : Nat} (ho : PE X o to') (c : Cls X.K C) (hm : Meth X.K C "attempt" g) (nn : NoAttr X.K C "now") (np : NoAttr X.K C "past")
    (lk : X.K.lookup g = some ⟨oc, od, .func (PySem.W.fnOf nm qg pg (attBody p1 p2 p3 p4 p5 p6 p7 p8 p9 p10 p11 p12 p13 p14 p15 p16 p17 p18 p19 p20 p21 p22 j1 j2) sg dV kV doc pm an cdv ct), osl⟩) (hcg : PySem.W.codeIn X.K cdv qg = true)
    (hb : L2.Binds X.K (PySem.W.fnOf nm qg pg (attBody p1 p2 p3 p4 p5 p6 p7 p8 p9 p10 p11 p12 p13 p14 p15 p16 p17 p18 p19 p20 p21 p22 j1 j2) sg dV kV doc pm an cdv ct) ["self", "action"] []) (Sg : AttS sg) (mE : X.mg "ErrandError" = some cE) (bm : X.base.BuiltinsAt X.mg P0) (hr : Room (k + 2) X.A) (L : LamS1 X.env.scope scope a) (ha : a ∉ X.N)
    (hdef : defaultsOf params X.env = ([], [])) (hbind : ∀ (u : Value) (q : Str) (cl : List (Str × Addr)) (pm cv ctv : Value), bindArgs (PySem.W.kla_fn "<lambda>" q params body scope cl pm cv ctv) ⟨[u], []⟩ = pure [(a, u)]) (hx : Passes (L2N.CX X.prog X.w) X E)
    (hbody : ∀ (A : Around) (outer : List Env) (s : Shared) (H : Hp) (E : XK) (f c' : Addr), Room k (A.deeper (lamEnv X scope s.heap.objs.size f c')) → PE (lamCx1 X A outer s H E scope f c' a) body (tb E))
    (ht : eval (.Call (.Attribute o "attempt" apos) [.Lambda params body scope lpos] [] pos) X.env = (do
      let ov ← eval o X.env
      standAt apos.atName
      let (f, first) ← holding [ov] (getMethod ov "attempt" pl)
      callWith pos f first (backTo pos (starEach [.Lambda params body scope lpos] X.env)) (backToKw pos (keywordEach [] X.env))) := by rfl) :
    PE X (.Call (.Attribute o "attempt" apos) [.Lambda params body scope lpos] [] pos) (tAtt X C cE E to' tb) := by
  refine ⟨fun pins s σ H Q I h => ?_⟩
  refine PySem.W.methodCall_KW (pl := pl) (thn (ho.run pins s σ H _ I h) fun u s1 ⟨x, H0, I1, rx, h1⟩ => ?_) ht
  obtain ⟨ad, dx, fs, rfl, ea, l, cc, P, ps, hcode, hC, hP, hps, h2⟩ := h1 I1.base.tbls
  obtain rfl : u = Value.ref ad := rx
  refine getmeth_ok I1 ea c hm l ?_
  have sP : s1.heap.get? P = some { cls := .none, data := .fields ps } := I1.hok P _ hP
  have hCs : PySem.W.CodeHd s1.heap cc P := by
    rcases hC with z | ⟨q, z⟩
    · exact z.keeps I1.bk
    · exact (codeN_at I1.hok z).1
  refine PySem.W.callWith_K (first := [.ref ad]) (h₀ := X.base) I1.ok.mod.kin hm.kp ?_ (by rfl) (by rfl)
  show wpAny _ _ (spliced ((false, eval (.Lambda params body scope lpos) X.env) :: backTo pos (starEach [] X.env))) _ _ s1
  refine Calls.spliced_cons (lam_at I1 hCs (bm_at (bm.keeps I1.bk) sP) hcode hP hps hdef (fun y hy e => (L.free y hy e).elim (fun k => I1.ok.has _ (.inl k)) fun k => I1.ok.has _ (.inr k)) fun f c' pm' ctv H1 s' I2 eN gf hfn hfr _ hco => Calls.spliced_nil ⟨I2.kIn, ?_⟩)
  refine wpAny_call (codeAny_mono (c := .call (.ref g) ⟨[.ref ad, .ref f], []⟩) (R := CR (L2N.CX X.prog X.w) X.stack X.prog X.w H1 s' Q E) (run_ofS (N := nAtt) (ps := ["self", "action"]) (us := [.ref ad, .ref f]) (vs := [.ref ad, .ref f]) lk hcg Sg.S hr I2.env0 (hb s' [.ref ad, .ref f] I2.kIn rfl) (.cons rfl (.cons rfl .nil)) rfl fun hr' => ?_) ?_)
  rotate_left
  · rintro r s2 z
    cases r with
    | error e => exact hx pins σ H1 s' e s2 I2 z
    | ok fl => cases fl with
      | ret u => exact I2.after z
      | next => exact z.elim
      | brk => exact z.elim
      | cont => exact z.elim
  have h3 := h2 H1 eN
  have vk : Vis sg "kept" := .inl Sg.kept
  have nd : nAtt.Nodup := by decide
  refine ⟨_, pss_cons (ps_set (i := 2) nd rfl (.inl Sg.kept) (Wy.pe_tupK (pa_cons (pe_fld (pe_var (i := 0) rfl Sg.slf) (by rfl)) (pa_cons (pe_fld (pe_var (i := 0) rfl Sg.slf) (by rfl)) pa_nil))) rfl (.inr Sg.kept))
    (pss_one (ps_try_bare (X := cxOf (L2N.CX X.prog X.w) X.prog X.w X.K X.mg X.base nAtt qg sg g cdv X.A X.stack s' H1 E) (c := cE) (Wout := fun cls d _ H => E cls d H) (t := tBack X.K)
      (tb := fun W => tRet fun σZ HZ Q => σZ[1]? = some (some (.ref f)) ∧ CodeA HZ c' (X.env.qual ++ "<lambda>") ∧ ∃ v, σZ[0]? = some (some v) ∧ tb (fun cls d H' => W cls d σZ H') (σ ++ [some v]) HZ Q)
      rfl rfl rfl ⟨Sg.err, by decide, .inl mE⟩ (fun hd => passesAt_of (K := fun e s'' => L2N.CX X.prog X.w X.stack H1 s' E e s'') rfl hd) (L2N.takes_of rfl rfl rfl rfl)
      (fun W pn xe tk => pss_one (ps_ret (pe_act1 (i := 1) (j := 0) I2 L ha gf hfn hfr (fun u => hbind u _ _ _ _ _) tk hr' (fun A outer s H E hr2 => hbody A outer s H E f c' hr2) rfl Sg.act rfl Sg.slf)))
      (fun a0 pn ph hot hph => ps_asg (pe_var (i := 2) rfl vk) (pg_tupP hot hph (pgs_cons (pg_fld (pe_var (i := 0) rfl Sg.slf)) (pgs_cons (pg_fld (pe_var (i := 0) rfl Sg.slf)) pgs_nil)))))), ?_⟩
  obtain ⟨dx1, fs1, v1, v2, e1, e2, e3, h4⟩ := h3
  refine ⟨.ref ad, rfl, ad, C, dx1, fs1, v1, rfl, e1, c, nn, e2, .ref ad, rfl, ad, C, dx1, fs1, v2, rfl, e1, c, np, e3, (by show 2 ≤ sizeLine; decide), fun ob q hd hq => ?_⟩
  obtain ⟨T, hT⟩ := hco
  exact ⟨rfl, ⟨T, by rw [upd_ne (ne_of_none hT hq)]; exact hT⟩, .ref ad, rfl, h4 ob q f hd hq⟩
end
end Wt
set_option Elab.async false
set_option linter.all false
set_option maxRecDepth 100000
set_option maxHeartbeats 4000000
/-! W63: o.attempt(lambda x: e). -/
namespace Wy
open PySem PySem.Spec PyProof.Rows L2 LamX Wt
/-- the object gets its place back where an error flies out -/
def fAtt (x : Str) (errs : List Str) (fe fl : FE) : FE := fun r m => (fe r m).bind fun w m1 => match insAt m1 x w with
  | some (j, fs) => (match fs.lookup ("attempt" : Str), fs.lookup ("now" : Str), fs.lookup ("past" : Str) with
    | none, some d1, some d2 => (match fl (r ++ [some (.loc j)]) m1 with
      | .ok v m2 => .ok v m2
      | .exn e m2 => if e.cls ∈ errs ∧ e.fld = none then (match insAt m2 x (.loc j) with
          | some (_, gs) => if gs.length < 900 then .exn e ((m2.set j (.ins x (putS "now" d1 gs))).set j (.ins x (putS "past" d2 (putS "now" d1 gs)))) else .bad
          | none => .bad) else .bad
      | .bad => .bad)
    | _, _, _ => .bad)
  | none => .bad
/-- a place where lambdas are made -/
inductive LamM (X : Cx) : Prop
  | law : LawX X → LamM X
  | inner (pos : Pos) (c : Addr) : X.env.code = .ref c → X.env.qual ++ "<lambda>" = lamI → InTab X.H_0 (tabL X.K) pos c → LamM X
theorem Sl.snoc {p : Pl} {H : Hp} {B : List Addr} {σ : L2.St} {r : Rh} {v : V} {w : W} (s : Sl p H B σ r) (h : WV p H B v w) : Sl p H B (σ ++ [some v]) (r ++ [some w]) := by
  refine ⟨by rw [List.length_append, List.length_append, s.len]; rfl, fun i x e => ?_⟩
  by_cases hi : i < r.length
  · rw [List.getElem?_append_left hi] at e
    obtain ⟨u, a, b⟩ := s.at_ i x e
    exact ⟨u, by rw [List.getElem?_append_left (by rw [s.len]; exact hi)]; exact a, b⟩
  · rw [List.getElem?_append_right (by omega)] at e
    have hz : i - r.length = 0 := by
      have := (List.getElem?_eq_some_iff.mp e).1
      simp at this
      omega
    rw [hz] at e
    have e : w = x := by simpa using e
    subst e
    exact ⟨v, by rw [List.getElem?_append_right (by rw [s.len]; omega), s.len, hz]; rfl, h⟩
/-- attempt, as it stands behind the top -/
structure AttX (X : Cx) (x : Str) (errs : List Str) : Prop where
  ex : ∃ (g : Addr) (nm qg : Str) (pg : Arguments) (sg : Scope) (dV kV doc pm cdv ct oc cE : Value) (an od : Option Addr) (osl : Array (Option Value)) (p1 p2 p3 p4 p5 p6 p7 p8 p9 p10 p11 p12 p13 p14 p15 p16 p17 p18 p19 p20 p21 p22 : Pos) (j1 j2 : Nat),
    Cls X.K (He.ga X.K x) ∧ Meth X.K (He.ga X.K x) "attempt" g ∧ NoAttr X.K (He.ga X.K x) "now" ∧ NoAttr X.K (He.ga X.K x) "past" ∧
    X.K.lookup g = some ⟨oc, od, .func (PySem.W.fnOf nm qg pg (attBody p1 p2 p3 p4 p5 p6 p7 p8 p9 p10 p11 p12 p13 p14 p15 p16 p17 p18 p19 p20 p21 p22 j1 j2) sg dV kV doc pm an cdv ct), osl⟩ ∧ PySem.W.codeIn X.K cdv qg = true ∧
    L2.Binds X.K (PySem.W.fnOf nm qg pg (attBody p1 p2 p3 p4 p5 p6 p7 p8 p9 p10 p11 p12 p13 p14 p15 p16 p17 p18 p19 p20 p21 p22 j1 j2) sg dV kV doc pm an cdv ct) ["self", "action"] [] ∧ AttS sg ∧ X.mg "ErrandError" = some cE ∧ X.base.BuiltinsAt X.mg (tabL X.K) ∧
    ∀ y ∈ errs, ∀ C, X.mg y = some (.ref C) → PySem.W.exmOne X.K (.ref C) cE = some true
section
variable {X : Cx} {E : XK} {x : Str} {errs : List Str} {fe fl : FE}
theorem att_read {σ : Xs} {H : Hp} {Q : VK} {cE : Value} (c : Cls X.K (He.ga X.K x)) (nn : NoAttr X.K (He.ga X.K x) "now") (np : NoAttr X.K (He.ga X.K x) "past") (LM : LamM X) (hE : ∀ y ∈ errs, ∀ C, X.mg y = some (.ref C) → PySem.W.exmOne X.K (.ref C) cE = some true)
    (h : rd RE X E (fAtt x errs fe fl) σ H Q) : tAtt X (He.ga X.K x) cE E (rd RE X E fe) (fun E' => rd RE X E' fl) σ H Q := by
  obtain ⟨Z, B, r, m, sl, so, q⟩ := h
  refine ⟨Z, B, r, m, sl, so, q.step fun w m1 v H0 B0 l0 s0 r0 q0 => fun gr => ?_⟩
  try dsimp only at q0
  split at q0
  rotate_left
  · exact q0.elim
  rename_i j fs ei
  obtain ⟨a, dx, vs, rfl, rfl, hb, hm, h1, h2⟩ := ins_of s0 r0 ei
  try dsimp only at q0
  split at q0
  rotate_left
  · exact q0.elim
  rename_i d1 d2 la ln lp
  -- the table
  obtain ⟨cc, P, ps, hcode, hC, hP, hps, made⟩ : ∃ cc P ps, X.env.code = .ref cc ∧ CodeAt X H0 cc P ∧ H0 P = some (.tbl ps) ∧ Tells H0 (X.env.qual ++ "<lambda>") ps ∧ ∀ H1, Made H0 P (X.env.qual ++ "<lambda>") ps H1 → So (plX X Z) H1 B0 m1 := by
    cases LM with
    | law LX =>
      obtain ⟨cc, TB, hcode⟩ := LX.code
      obtain ⟨qs, hqs⟩ := LX.tab
      obtain ⟨more, hP⟩ := gr _ _ hqs
      refine ⟨cc, tabL X.K, _, hcode, .inl TB.code, hP, by rw [LX.qual]; exact s0.tb.tells hP, fun H1 M => ?_⟩
      rw [LX.qual] at M
      exact s0.made M hP
    | inner pos cc hcode hq hi =>
      obtain ⟨qs, hP, hc⟩ := (hi.later gr).at
      obtain ⟨c2, T, e1, e2, e3, nT, qs2, t1, t2, t3⟩ := (s0.tb qs hP).2 pos _ hc
      cases e1
      have iT : InT H0 B0 T := ⟨qs2, t1, t2, t3⟩
      refine ⟨cc, T, qs2, hcode, .inr ⟨_, e2⟩, t1, by rw [hq]; exact iT.tells t1, fun H1 M => ?_⟩
      rw [hq] at M
      exact s0.madeI M t1 nT
  refine ⟨a, dx, _, rfl, h1, fld_no h2 la, cc, P, ps, hcode, hC, hP, hps, fun H1 M => ?_⟩
  have s1 := made H1 M
  have l1 : Le B0 H0 B0 H1 := made_le M hP
  have e1 : H1 a = some (.ins (He.ga X.K x) dx ((fs.map (·.1)).zip vs)) := made_keep M hP a _ (fun _ z => nomatch z) h1
  obtain ⟨v1, f1, g1⟩ := fld_at (h2.mono l1) ln
  obtain ⟨v2, f2, g2⟩ := fld_at (h2.mono l1) lp
  refine ⟨dx, _, v1, v2, e1, f1, f2, fun ob qd f hd hq => ?_⟩
  have l2 : Le B0 H1 B0 (upd H1 qd (.frz ob (.tup [v1, v2]))) := le_laid hq
  have s2 : So (plX X Z) (upd H1 qd (.frz ob (.tup [v1, v2]))) B0 m1 := s1.laid hq
  have l12 := l1.trans l2
  refine ⟨Z, B0, r ++ [some (.loc j)], m1, ((sl.mono l0).mono l12).snoc (.loc hb), s2, ?_⟩
  cases ef : fl (r ++ [some (.loc j)]) m1 with
  | bad => rw [ef] at q0; exact q0.elim
  | ok v m2 => rw [ef] at q0; exact Post.mono l12 q0
  | exn e m2 =>
    rw [ef] at q0
    dsimp only at q0
    intro cls d H3 B3 l3 s3 xr
    split at q0
    rotate_left
    · exact q0.elim
    rename_i hc
    split at q0
    rotate_left
    · exact q0.elim
    rename_i j3 gs ei3
    split at q0
    rotate_left
    · exact q0.elim
    rename_i hl
    have hb3 := l3.at_ hb
    obtain ⟨a3, dx3, us, ea, ew, hb3', hm3, k1, k2⟩ := ins_of s3 (WV.loc hb3) ei3
    cases ea
    cases ew
    obtain ⟨⟨C1, hm1, rfl⟩, hd1⟩ := xr
    rw [hc.2] at hd1
    dsimp only at hd1
    subst hd1
    have t3 : H3 qd = some (.frz ob (.tup [v1, v2])) := l3.keep qd _ (s1.out hq).1 (fun _ z => nomatch z) upd_same
    obtain ⟨vs1, w1, w2⟩ := fld_put (f := "now") ((g1.mono l2).mono l3) k2
    let H4 := upd H3 a (.ins (He.ga X.K x) dx3 (putF "now" v1 ((gs.map (·.1)).zip us)))
    have la4 : Le B3 H3 B3 H4 := le_set (List.mem_of_getElem? hb3)
    have s4 : So (plX X Z) H4 B3 (m2.set j (.ins x (putS "now" d1 gs))) := s3.set hb3 ⟨(dx3, vs1), by rw [upd_same, w1], w2.mono la4⟩
    obtain ⟨vs2, y1, y2⟩ := fld_put (f := "past") (((g2.mono l2).mono l3).mono la4) (w2.mono la4)
    let H5 := upd H4 a (.ins (He.ga X.K x) dx3 (putF "past" v2 (putF "now" v1 ((gs.map (·.1)).zip us))))
    have la5 : Le B3 H4 B3 H5 := le_set (List.mem_of_getElem? hb3)
    have s5 : So (plX X Z) H5 B3 ((m2.set j (.ins x (putS "now" d1 gs))).set j (.ins x (putS "past" d2 (putS "now" d1 gs)))) := s4.set hb3 ⟨(dx3, vs2), by rw [upd_same, ← y1, ← w1], y2.mono la5⟩
    refine attE_of c nn np (hE _ hc.1 C1 hm1) k1 (by rw [fld_len k2]; omega) t3 ?_
    exact q0 (.ref C1) none H5 B3 (l12.trans (l3.trans (la4.trans la5))) s5 ⟨⟨C1, hm1, rfl⟩, by rw [hc.2]⟩
theorem we_att {k : Nat} {o : Expr} {params : Arguments} {body : Expr} {scope : Scope} {a : Str} {apos lpos pos : Pos} {pl : Sem Bool} (AX : AttX X x errs) (LM : LamM X) (ho : WE X E o fe) (hr : Room (k + 2) X.A) (L : LamS1 X.env.scope scope a) (ha : a ∉ X.N)
    (hdef : defaultsOf params X.env = ([], [])) (hbind : ∀ (u : Value) (q : Str) (cl : List (Str × Addr)) (pm cv ctv : Value), bindArgs (PySem.W.kla_fn "<lambda>" q params body scope cl pm cv ctv) ⟨[u], []⟩ = pure [(a, u)]) (hx : Passes (L2N.CX X.prog X.w) X E)
    (hbody : ∀ (A : Around) (outer : List Env) (s : Shared) (H : Hp) (E : XK) (f c' : Addr), Room k (A.deeper (lamEnv X scope s.heap.objs.size f c')) → WE (lamCx1 X A outer s H E scope f c' a) E body fl)
    (ht : eval (.Call (.Attribute o "attempt" apos) [.Lambda params body scope lpos] [] pos) X.env = (do
      let ov ← eval o X.env
      standAt apos.atName
      let (f, first) ← holding [ov] (getMethod ov "attempt" pl)
      callWith pos f first (backTo pos (starEach [.Lambda params body scope lpos] X.env)) (backToKw pos (keywordEach [] X.env))) := by rfl) :
    WE X E (.Call (.Attribute o "attempt" apos) [.Lambda params body scope lpos] [] pos) (fAtt x errs fe fl) := by
  obtain ⟨g, nm, qg, pg, sg, dV, kV, doc, pm, cdv, ct, oc, cE, an, od, osl, p1, p2, p3, p4, p5, p6, p7, p8, p9, p10, p11, p12, p13, p14, p15, p16, p17, p18, p19, p20, p21, p22, j1, j2, h1, h2, h3, h4, h5, h6, h7, h8, h9, h10, h11⟩ := AX.ex
  have D := pe_att (pl := pl) (pos := pos) (tb := fun E' => rd RE X E' fl) ho h1 h2 h3 h4 h5 h6 h7 h8 h9 h10 hr L ha hdef hbind hx (fun A outer s H E f c' hr' => hbody A outer s H E f c' hr') ht
  exact ⟨fun pins s σ H Q I z => D.run pins s σ H Q I (att_read h1 h3 h4 LM h11 z)⟩
end
end Wy
set_option Elab.async false
set_option linter.all false
set_option maxRecDepth 100000
set_option maxHeartbeats 4000000
/-! W65: t.index(x), t a tuple of data. -/
namespace Wy
open PySem PySem.Spec PyProof.Rows L2
section
variable {X : Cx} {E : XK} {a b : Expr} {fa fb : FE}
def rIxT (K : PySem.W.Frag) : V → List V → Hp → VK → Prop := fun x xs H Q => ∃ (p : Addr) (y : V) (d : PyData) (ds : List PyData) (j : Nat) (z : PyData), x = V.ref p ∧ xs = [y] ∧ Dp K H (V.ref p) (.tuple ds) ∧ Dp K H y d ∧
  SeqAt.shaped (.tuple ds) = true ∧ SeqAt.shaped d = true ∧ ds[j]? = some z ∧ PyData.eqv z d = true ∧ (∀ (m : Nat) (z' : PyData), m < j → ds[m]? = some z' → PyData.eqv z' d = false) ∧ Q (.int (j : Nat)) H
theorem mt_ixT (hu : X.A.units + 65 < cLine) : MtR X "tuple.index" (rIxT X.K) := by
  rintro pins s σ H x xs v us Q I rx rxs ⟨p, y, d, ds, j, z, rfl, rfl, hl, hy, sl, sd, hz, he, hno, q⟩
  cases rx
  obtain ⟨u, rfl, ru⟩ : ∃ u, us = [u] ∧ RelV y u := by
    cases rxs with
    | cons r0 rt =>
      cases rt
      exact ⟨_, rfl, r0⟩
  obtain ⟨bs, r1⟩ := Dp.reads I d y u hy ru
  have lay : PyData.canLayAll0 ds = true := by
    have := SeqAt.canLay_of_shaped sl
    simpa [PyData.canLay0] using this
  have room : X.A.units + 1 + min (PyData.depthAll ds) d.depth < cLine := by
    have h1 := SeqAt.depth_of_shaped sd
    have h2 : min (PyData.depthAll ds) d.depth ≤ d.depth := Nat.min_le_right _ _
    omega
  cases hl with
  | tup hq ha =>
    obtain ⟨its, rv, ⟨⟨cls, dd, dt, sls⟩, ho, hc, n, hd⟩, _⟩ := I.tuple hq
    simp only at hc hd
    subst hc hd
    obtain ⟨as, h4⟩ := Dp.readsAll I ds _ its ha rv
    have hn : its.length = ds.length := SeqAt.ReadsAll.length ds its as h4
    have hmap : its.map (SeqAt.readOf s.heap) = ds := SeqAt.readsAll_map ds its as lay h4
    have hj : j < its.toArray.size := by
      have := (List.getElem?_eq_some_iff.mp hz).1
      rw [List.size_toArray, hn]
      exact this
    have item : ∀ (m : Nat) (hm : m < its.toArray.size), ds[m]? = some (SeqAt.readOf s.heap its.toArray[m]) := fun m hm => by
      have hm' : m < its.length := by simpa using hm
      rw [← hmap, List.getElem?_map, List.getElem?_eq_getElem hm']
      simp
    refine call_meets PySem.F.slot_tuple_index ⟨_, ho, rfl⟩ PySem.F.entry_tuple_index (PySem.F.args_tuple_index_2 _ _) (TI.tuple_indexAt p its.toArray n dd sls u (fun w => PyData.eqv (SeqAt.readOf s.heap w) d) j hj ?_ ?_)
      ⟨ho, SeqAt.items_eqAt (vs := its.toArray) (show ReadsAll s.heap its.toArray.toList ds as from h4) r1 lay (SeqAt.canLay_of_shaped sd) room, ⟨.int (j : Nat), H, I.tok _, ⟨_, rfl⟩, q⟩⟩
    · have e := item j hj
      rw [hz] at e
      cases e
      exact he
    · exact fun m hm hmj => hno m _ hmj (item m hm)
/-- o.name(e), o a tuple -/
theorem pe_mT {id : String} {name : Str} {apos pos : Pos} {to' te : TE} {r : V → List V → Hp → VK → Prop} (slot : Slot "tuple" name id) (ty : typeOf (.builtin id) = pure (.type "method_descriptor")) (rule : MtR X id r) (ho : PE X a to') (he : PE X b te)
    (hs : starEach [b] X.env = [(false, eval b X.env)] := by rfl) (hbase : attributeBase a name X.env (eval a X.env) = eval a X.env := by rfl) (hline : (apos.endLine == pos.line) = true := by rfl) :
    PE X (.Call (.Attribute a name apos) [b] [] pos) (fun σ H Q => to' σ H fun x H1 => (∃ Z B p ys, x = .ref p ∧ SqTK (plX X Z) H1 B p ys) ∧ te σ H1 fun y H2 => r x [y] H2 Q) := by
  refine ⟨fun pins s σ H Q I h => ?_⟩
  refine PySem.Call_method1 hbase hs hline (thn (ho.run pins s σ H _ I h) fun v s1 ⟨x, H1, I1, r1, q1⟩ => ?_)
  obtain ⟨⟨Z, B, p, ys, rfl, hq⟩, q1⟩ := q1
  cases r1
  obtain ⟨its, rv, ⟨o, ho1, hc, n, hd⟩, _⟩ := I1.tuple hq.sq
  have nd : ∃ ob, s1.heap.get? p = some ob ∧ ob.dict = none := by
    rcases hq with ⟨_, o2, h2, h3⟩ | ⟨o2, _, _, h1, h2, _⟩
    · obtain ⟨h4, _⟩ := I1.hok p _ h3
      exact ⟨o2, h4, h2⟩
    · exact ⟨o2, I1.kIn _ _ h1, h2⟩
  refine ⟨"tuple", _, F.plainAttrs_tuple, slot, ty, ⟨o, ho1, hc⟩, (fun _ e => by cases e; exact nd), Calls.callWith_builtin rfl (Calls.evalArgs_plain (Calls.spliced_cons ?_))⟩
  exact thn (he.run pins s1 σ H1 _ I1 q1) fun u s2 ⟨y, H2, I2, r2, q2⟩ => Calls.spliced_nil (rule pins s2 σ H2 (.ref p) [y] _ [u] Q I2 (show L2.RelV (.ref p) (.ref p) from rfl) (.cons r2 .nil) q2)
def fIxT (fa fb : FE) : FE := fun r m => (fa r m).bind fun a m1 => match a with
  | .d (.tuple ds) => (fb r m1).bind fun b m2 => (match b with
    | .d d => if SeqAt.shaped (.tuple ds) = true ∧ SeqAt.shaped d = true then (match ds.findIdx? fun z => PyData.eqv z d with
      | some j => .ok (.d (.int j)) m2
      | none => .bad) else .bad
    | _ => .bad)
  | _ => .bad
theorem we_ixT {apos pos : Pos} (hu : X.A.units + 65 < cLine) (ha : WE X E a fa) (hb : WE X E b fb) (hs : starEach [b] X.env = [(false, eval b X.env)] := by rfl) (hbase : attributeBase a "index" X.env (eval a X.env) = eval a X.env := by rfl) (hline : (apos.endLine == pos.line) = true := by rfl) :
    WE X E (.Call (.Attribute a "index" apos) [b] [] pos) (fIxT fa fb) := by
  refine ⟨fun pins s σ H Q I ⟨Z, B, rr, m, sl, so, q⟩ => (pe_mT F.slot_tuple_index F.type_tuple_index (mt_ixT hu) ha hb hs hbase hline).run pins s σ H Q I ⟨Z, B, rr, m, sl, so, q.step fun wa m1 x H1 B1 l1 s1 r1 q1 => ?_⟩⟩
  split at q1
  · rename_i ds
    cases r1 with
    | d r1 =>
      cases r1 with
      | tup hq hv =>
        rename_i p xs
        refine ⟨⟨Z, B1, p, xs, rfl, hq⟩, Z, B1, rr, m1, sl.mono l1, s1, q1.step fun wb m2 y H2 B2 l2 s2 r2 q2 => ?_⟩
        split at q2
        · rename_i d
          split at q2
          · rename_i c
            split at q2
            · rename_i j ej
              cases r2 with
              | d r2 =>
                obtain ⟨hj, h1, h2⟩ := List.findIdx?_eq_some_iff_getElem.mp ej
                have hl : DV (plX X Z) H2 B2 (.ref p) (.tuple ds) := (DV.tup hq hv).mono l2
                refine ⟨p, y, d, ds, j, ds[j], rfl, rfl, hl.dp (SeqAt.canLay_of_shaped c.1), r2.dp (SeqAt.canLay_of_shaped c.2), c.1, c.2, List.getElem?_eq_getElem hj, h1, fun m' z' hm hz => ?_, Post.done q2 s2 (.d (.int _))⟩
                obtain ⟨hz1, rfl⟩ := List.getElem?_eq_some_iff.mp hz
                simpa using h2 m' hm
            · exact q2.elim
          · exact q2.elim
        · exact q2.elim
  · exact q1.elim
end
end Wy
set_option Elab.async false
set_option linter.all false
set_option maxRecDepth 100000
set_option maxHeartbeats 4000000
/-! W55: what is asked of K for _law_try with TooMany's clause (printed by mkW53.py). -/
namespace Wy
open PySem PySem.Spec PyProof.Rows L2 LamX Wt
def iniA (K : PySem.W.Frag) (x : Str) : Addr := match PySem.W.findIn K (.ref (He.ga K x)) "__init__" with
  | some (some (.ref f)) => f
  | _ => 0
abbrev tmA (K : PySem.W.Frag) : Addr := He.ga K "TooMany"
def tmB (K : PySem.W.Frag) (kF : Str) : Bool :=
  excB K (tmA K) && ((kVals K).all (ksB K (tmA K)) && (decide (((pick kWords ((kVals K).map (kbB K (tmA K)))).map (·.length)).sum + (pick kWords ((kVals K).map (kbB K (tmA K)))).length * (" " : Str).length ≤ 16777216) &&
    (decide (kF = Txt.join " " (pick kWords ((kVals K).map (kbB K (tmA K))))) && (decide (True) && (decide (PySem.W.exmOne K (.ref (tmA K)) (.ref (tmA K)) = some true) &&
      (xfB K (tmA K) && He.eqO (PySem.W.findIn K (.ref (tmA K)) "limit") (some none)))))))
def moreTryM (P : Program) (kinds : List (Str × Str)) (kF : Str) (K : PySem.W.Frag) : Bool := moreTry kinds K && (tmB K kF && ((He.Fa.free "super").ok K && iniB P K "TooMany" "limit" (iniA K "TooMany")))
section
variable {P : Program} {K : PySem.W.Frag} {h : Heap} {mg : Str → Option Value} {kinds : List (Str × Str)} {kF : Str}
theorem tm_in (KX : K.In h) (G : h.Ns mainGlobals mg) (c : moreTry kinds K = true) : mg "TooMany" = some (.ref (tmA K)) := (kinds_ok KX G c).h11
theorem xm_ok (c : tmB K kF = true) : XfC K (tmA K) ∧ PySem.W.findIn K (.ref (tmA K)) "limit" = some none := by
  obtain ⟨_, c⟩ := He.ba c
  obtain ⟨_, c⟩ := He.ba c
  obtain ⟨_, c⟩ := He.ba c
  obtain ⟨_, c⟩ := He.ba c
  obtain ⟨_, c⟩ := He.ba c
  obtain ⟨_, c⟩ := He.ba c
  obtain ⟨c1, c2⟩ := He.ba c
  exact ⟨xfB_ok c1, He.eqO_ok c2⟩
theorem tryKM_ok (KX : K.In h) (G : h.Ns mainGlobals mg) (c : moreTry kinds K = true) (t : tmB K kF = true) : TryKM K mg (kindA K) (.ref (He.ga K "InvalidText")) (.ref (He.ga K "ErrandError")) (tmA K) kinds kF := by
  obtain ⟨k2, k⟩ := He.ba t
  obtain ⟨k3, k⟩ := He.ba k
  obtain ⟨k4, k⟩ := He.ba k
  obtain ⟨k5, k⟩ := He.ba k
  obtain ⟨k6, k⟩ := He.ba k
  obtain ⟨k7, _⟩ := He.ba k
  have ask : ∀ (v : V) (cv : Value), (∀ u, RelV v u → u = cv) → cv ∈ kVals K → Ask K (tmA K) v (kbB K (tmA K) cv) := fun v cv h1 h2 => ⟨cv, h1, ksB_ok (List.all_eq_true.mp k3 cv h2)⟩
  have rr : ∀ (a : Addr) (u : Value), RelV (.ref a) u → u = .ref a := fun a u h => h
  refine ⟨(tryK_ok KX G c).all, tm_in KX G c, excB_ok k2, of_decide_eq_true k7, (kVals K).map (kbB K (tmA K)), ⟨_, _, _, _, _, _, _, _, _, _, _, _, _, rfl, ?_, ?_, ?_, ?_, ?_, ?_, ?_, ?_, ?_, ?_, ?_, ?_, ?_⟩, of_decide_eq_true k4, of_decide_eq_true k5⟩
  all_goals first
    | exact ask _ _ (rr _) (by simp [kVals])
    | exact ask _ _ (fun u h => h) (by simp [kVals])
theorem tmF_ok (KX : K.In h) (G : h.Ns mainGlobals mg) (c : moreTryM P kinds kF K = true) : EclF P K mg "TooMany" "limit" := by
  obtain ⟨c1, c⟩ := He.ba c
  obtain ⟨c2, c⟩ := He.ba c
  obtain ⟨c3, c4⟩ := He.ba c
  obtain ⟨c5, _⟩ := He.ba c1
  exact eclF_of KX G (List.all_eq_true.mp c5 "TooMany" (by simp [kNames])) c3 c4 (by decide) (by decide) binds_limit
theorem mtM_1 (c : moreTryM P kinds kF K = true) : moreTry kinds K = true := (He.ba c).1
theorem mtM_2 (c : moreTryM P kinds kF K = true) : tmB K kF = true := (He.ba (He.ba c).2).1
end
end Wy
set_option Elab.async false
set_option linter.all false
set_option maxRecDepth 100000
set_option maxHeartbeats 4000000
/-! W39: the head's hook, the interpreter's own statics held too. -/
namespace Wy
open PySem PySem.Spec PyProof.Rows L2 He
def asY (g : Addr → Option Obj) (n : Nat) : List Addr := He.asD g n ++ [cStatics]
def obsY (n : Nat) (fa : List Fa) (fn : List DefD) (ts : List Tab) (tf : List Defn) (ex : PySem.W.Frag → Bool) (g : Addr → Option Obj) : AlX := (obsT fa fn ts (frT g (asY g n)), ex (frT g (asY g n)) && tabsB g tf (frT g (asY g n)))
theorem saysY_of {n : Nat} {fa : List Fa} {fn : List DefD} {ts : List Tab} {tf : List Defn} {ex : PySem.W.Frag → Bool} {w : World} {h : Heap} (e : obsY n fa fn ts tf ex h.get? = valX fn ts w) : SaysX fa fn ts tf ex w h (frT h.get? (asY h.get? n)) := by
  have e1 : obsT fa fn ts (frT h.get? (asY h.get? n)) = valT fn ts w := congrArg (fun z : AlX => z.1) e
  have e2 : (ex (frT h.get? (asY h.get? n)) && tabsB h.get? tf (frT h.get? (asY h.get? n))) = true := congrArg (fun z : AlX => z.2) e
  obtain ⟨h1, h2⟩ := He.ba e2
  have key : ∀ p ∈ tf, PySem.W.codeHdIn (frT h.get? (asY h.get? n)) (He.cT (frT h.get? (asY h.get? n)) p).1 (He.cT (frT h.get? (asY h.get? n)) p).2 = true ∧ ∃ o, h.get? (He.cT (frT h.get? (asY h.get? n)) p).2 = some o ∧ emptyTab o = true := fun p hp => by
    obtain ⟨h3, h4⟩ := He.ba (List.all_eq_true.mp h2 p hp)
    refine ⟨h3, ?_⟩
    cases q : h.get? (He.cT (frT h.get? (asY h.get? n)) p).2 with
    | none => rw [q] at h4; cases h4
    | some o => rw [q] at h4; exact ⟨o, rfl, h4⟩
  exact ⟨e1, h1, fun p hp => (key p hp).1, fun p hp => by
    obtain ⟨_, o, q, z⟩ := key p hp
    exact frT_none q z, fun p hp => by
    obtain ⟨_, o, q, z⟩ := key p hp
    rw [q, emptyTab_eq z]⟩
end Wy
set_option Elab.async false
set_option linter.all false
set_option maxRecDepth 100000
set_option maxHeartbeats 4000000
/-! W40: sorted(set(x)) of a long tuple of few small ints. -/
namespace Wy
open PySem PySem.Spec PyProof.Rows L2
section
variable {X : Cx} {E : XK} {a : Expr} {fa : FE} {pos : Pos}
end
end Wy
set_option Elab.async false
set_option linter.all false
set_option maxRecDepth 100000
set_option maxHeartbeats 4000000
/-! W41: one sign many times. -/
namespace Wy
open PySem PySem.Spec PyProof.Rows L2
section
variable {X : Cx} {E : XK}
end
end Wy
set_option Elab.async false
set_option linter.all false
set_option maxRecDepth 100000
set_option maxHeartbeats 4000000
/-! W42: max, min, sum of a list of ints. -/
namespace Wy
open PySem PySem.Spec PyProof.Rows L2
section
variable {X : Cx} {E : XK}
end
end Wy
set_option Elab.async false
set_option linter.all false
set_option maxRecDepth 100000
set_option maxHeartbeats 4000000
/-! W64: classes: what is asked of K; the head with getters. -/
namespace Wy
open PySem PySem.Spec PyProof.Rows L2 LamX Wt
/-! ### levels -/
section
variable {P : Program} {w : World} {K : PySem.W.Frag} {mg : Str → Option Value} {base : Heap} {k k' n : Nat} {x nm : Str} {F : Fn}
theorem CalM.mono (h : CalM P w K mg base k n x nm F) (l : k ≤ k') : CalM P w K mg base k' n x nm F := by
  obtain ⟨f, fd, ps, a, b⟩ := h.ex
  exact ⟨f, fd, ps, a.mono l, b⟩
theorem CalP.mono (h : CalP P w K mg base k x nm F) (l : k ≤ k') : CalP P w K mg base k' x nm F := by
  obtain ⟨p, f, fd, ps, a, b⟩ := h.ex
  exact ⟨p, f, fd, ps, a.mono l, b⟩
theorem CalK.mono (h : CalK P w K mg base k n x F) (l : k ≤ k') : CalK P w K mg base k' n x F := by
  obtain ⟨f, fd, ps, a, b⟩ := h.ex
  exact ⟨f, fd, ps, a.mono l, b⟩
end
theorem pass_lam1 {X : Cx} {A : Around} {outer : List Env} {s : Shared} {H : Hp} {E : XK} {scope : Scope} {f' c' : Addr} {a : Str} : Passes (L2N.CX X.prog X.w) (lamCx1 X A outer s H E scope f' c' a) E :=
  L2N.passes_call (W := fun cls d _ H => E cls d H) (L2N.takes_of rfl rfl rfl rfl) fun _ _ _ _ h => h
/-! ### Booleans of K -/
section
variable {K : PySem.W.Frag} {x nm : Str}
/-- the property nm of the class x, its getter -/
def prP (K : PySem.W.Frag) (x nm : Str) : Addr := match PySem.W.findIn K (.ref (He.ga K x)) nm with
  | some (some (.ref p)) => p
  | _ => 0
def prG (K : PySem.W.Frag) (x nm : Str) : Addr := match PySem.W.recIn K (prP K x nm) "property" with
  | some (.ref g :: _) => g
  | _ => 0
def propB (K : PySem.W.Frag) (x nm : Str) : Bool := He.eqO (PySem.W.findIn K (.ref (He.ga K x)) nm) (some (some (.ref (prP K x nm)))) && (He.eqO (PySem.W.specialIn K (.ref (prP K x nm)) "__get__") (some (some (.builtin "property.__get__"))) &&
  (decide (PySem.W.takesIn K (.ref (prP K x nm)) = some true) && (match PySem.W.recIn K (prP K x nm) "property" with
    | some (.ref _ :: _) => true
    | _ => false)))
theorem propB_ok (h : propB K x nm = true) : PropOf K (He.ga K x) nm (prP K x nm) (prG K x nm) := by
  obtain ⟨h1, h⟩ := He.ba h
  obtain ⟨h2, h⟩ := He.ba h
  obtain ⟨h3, h4⟩ := He.ba h
  refine ⟨He.eqO_ok h1, He.eqO_ok h2, of_decide_eq_true h3, ?_⟩
  unfold prG
  split at h4
  · rename_i g rest e
    rw [e]
    exact ⟨rest, rfl⟩
  · cases h4
def insB (K : PySem.W.Frag) (x : Str) : Bool := (He.Fa.cls x).ok K && (He.eqO (PySem.W.findIn K (.ref (He.ga K x)) "__class__") (some (some (.builtin "object.__class__"))) && (He.eqO (PySem.W.specialIn K (.builtin "object.__class__") "__get__") (some (some (.builtin "getset_descriptor.__get__"))) &&
  (decide (PySem.W.takesIn K (.builtin "object.__class__") = some true) && (decide (PySem.W.mroIn K (He.ga K x) (.type "object") = some true) && (decide (PySem.W.kitOne K (.ref (He.ga K x)) (.ref (He.ga K x)) = some true) && PySem.W.selfFirst K (He.ga K x))))))
theorem insB_ok (h : insB K x = true) : C8.InsC K (He.ga K x) ∧ PySem.W.selfFirst K (He.ga K x) = true := by
  obtain ⟨h1, h⟩ := He.ba h
  obtain ⟨h2, h⟩ := He.ba h
  obtain ⟨h3, h⟩ := He.ba h
  obtain ⟨h4, h⟩ := He.ba h
  obtain ⟨h5, h⟩ := He.ba h
  obtain ⟨h6, h7⟩ := He.ba h
  exact ⟨⟨He.cls_ok h1, He.eqO_ok h2, He.eqO_ok h3, of_decide_eq_true h4, of_decide_eq_true h5, of_decide_eq_true h6⟩, h7⟩
/-- what all defs may ask of the class x: fs its fields -/
structure ClsF (K : PySem.W.Frag) (mg : Str → Option Value) (x : Str) (fs : List Str) : Prop where
  ic : C8.InsC K (He.ga K x)
  sf : PySem.W.selfFirst K (He.ga K x) = true
  md : mg x = some (.ref (He.ga K x))
  nt : ∀ f ∈ fs, NoAttr K (He.ga K x) f
theorem ClsF.cl {mg : Str → Option Value} {fs : List Str} (h : ClsF K mg x fs) : Cls K (He.ga K x) := h.ic.cl
def clsFB (x : Str) (fs : List Str) (K : PySem.W.Frag) : Bool := insB K x && ((He.Fa.glo x).ok K && fs.all fun f => (He.Fa.noat x f).ok K)
theorem clsF_ok {h : Heap} {mg : Str → Option Value} {fs : List Str} (KX : K.In h) (G : h.Ns mainGlobals mg) (c : clsFB x fs K = true) : ClsF K mg x fs := by
  obtain ⟨c1, c⟩ := He.ba c
  obtain ⟨c2, c3⟩ := He.ba c
  obtain ⟨i, s⟩ := insB_ok c1
  exact ⟨i, s, He.glo_ok KX G c2, fun f hf => He.noat_ok (List.all_eq_true.mp c3 f hf)⟩
end
/-! ### the head -/
abbrev AlZ : Type := He.AlX × List He.FnW
def okA (pa : List He5.DefA) (K : PySem.W.Frag) : Bool := pa.all fun d => d.ok K
def obsZ (n : Nat) (fa : List He.Fa) (fn : List He.DefD) (ts : List He.Tab) (tf : List He.Defn) (ex : PySem.W.Frag → Bool) (pa : List He5.DefA) (g : Addr → Option Obj) : AlZ := (obsY n fa fn ts tf (fun K => okA pa K && ex K) g, pa.map fun d => He5.fnA (He.frT g (asY g n)) (d.at_ (He.frT g (asY g n))))
structure SaysZ (fa : List He.Fa) (fn : List He.DefD) (ts : List He.Tab) (tf : List He.Defn) (ex : PySem.W.Frag → Bool) (pa : List He5.DefA) (w : World) (h : Heap) (K : PySem.W.Frag) : Prop where
  x : He.SaysX fa fn ts tf (fun K => okA pa K && ex K) w h K
  a : (pa.map fun d => He5.fnA K (d.at_ K)) = pa.map He5.DefA.val
def hookZ (n : Nat) (fa : List He.Fa) (fn : List He.DefD) (ts : List He.Tab) (tf : List He.Defn) (ex : PySem.W.Frag → Bool) (pa : List He5.DefA) : PySem.W.Hook where
  α := AlZ
  obs := fun s => obsZ n fa fn ts tf ex pa s.heap.get?
  val := fun w => (He.valX fn ts w, pa.map He5.DefA.val)
  says := fun w h => ∃ K : PySem.W.Frag, K.In h ∧ SaysZ fa fn ts tf ex pa w h K
  of := fun _ _ e => ⟨_, He.frT_in, saysY_of (congrArg (fun z : AlZ => z.1) e), congrArg (fun z : AlZ => z.2) e⟩
  keeps := fun _ _ _ ⟨K, hK, c⟩ k => ⟨K, PySem.W.Frag.In.keeps hK k, ⟨c.x.t, c.x.more, c.x.hd, c.x.out, fun p hp => k _ _ (c.x.empty p hp)⟩, c.a⟩
theorem obsZ_eq {n : Nat} {fa : List He.Fa} {fn : List He.DefD} {ts : List He.Tab} {tf : List He.Defn} {ex : PySem.W.Frag → Bool} {pa : List He5.DefA} {g : Addr → Option Obj} {s : Shared} (h : ∀ a, g a = s.heap.get? a) : obsZ n fa fn ts tf ex pa g = (hookZ n fa fn ts tf ex pa).obs s := by
  have e : g = s.heap.get? := funext h
  rw [e] <;> rfl
theorem SaysZ.def_ {fa : List He.Fa} {fn : List He.DefD} {ts : List He.Tab} {tf : List He.Defn} {ex : PySem.W.Frag → Bool} {pa : List He5.DefA} {w : World} {h : Heap} {K : PySem.W.Frag} (c : SaysZ fa fn ts tf ex pa w h K) (i : Nat) {d : He5.DefA} (hd : pa[i]? = some d := by rfl) :
    ∃ fd, L2.FunD K d.name d.qual d.params d.body d.scope (d.dvs K) (d.kws K) (d.at_ K) fd := by
  have e2 : (pa.map fun d => He5.fnA K (d.at_ K))[i]? = (pa.map He5.DefA.val)[i]? := by rw [c.a]
  rw [List.getElem?_map, List.getElem?_map, hd] at e2
  exact He5.DefA.funD (Option.some.inj e2) (List.all_eq_true.mp (He.ba c.x.more).1 d (List.mem_of_getElem? hd))
theorem SaysZ.more {fa : List He.Fa} {fn : List He.DefD} {ts : List He.Tab} {tf : List He.Defn} {ex : PySem.W.Frag → Bool} {pa : List He5.DefA} {w : World} {h : Heap} {K : PySem.W.Frag} (c : SaysZ fa fn ts tf ex pa w h K) : ex K = true := (He.ba c.x.more).2
theorem lookup_of {α : Type} {l : List (Str × α)} {y : Str} (h : y ∈ l.map (·.1)) : ∃ a, l.lookup y = some a := by
  induction l with
  | nil => cases h
  | cons p l ih =>
    obtain ⟨z, a⟩ := p
    rw [List.lookup_cons]
    cases e : y == z with
    | true => exact ⟨a, rfl⟩
    | false =>
      rw [List.map_cons, List.mem_cons] at h
      rcases h with h | h
      · exact absurd (beq_iff_eq.mpr h) (by rw [e]; exact fun z => nomatch z)
      · exact ih h
theorem errs_ok {K : PySem.W.Frag} {h : Heap} {mg : Str → Option Value} {kinds : List (Str × Str)} (KX : K.In h) (G : h.Ns mainGlobals mg) (c : moreTry kinds K = true) : ∀ y ∈ kinds.map (·.1), ∀ D, mg y = some (.ref D) → PySem.W.exmOne K (.ref D) (.ref (He.ga K "ErrandError")) = some true := fun y hy D hD => by
  obtain ⟨kin, e⟩ := lookup_of hy
  exact ((tryK_ok KX G c).all y kin e D hD).2.2.2.1
/-- attempt, from its def -/
theorem attX_of {K : PySem.W.Frag} {mg : Str → Option Value} {base : Heap} {x : Str} {fs : List Str} {errs : List Str} {g c : Addr} {fd : FuncData} {pg : Arguments} {sg : Scope} {p1 p2 p3 p4 p5 p6 p7 p8 p9 p10 p11 p12 p13 p14 p15 p16 p17 p18 p19 p20 p21 p22 : Pos} {j1 j2 : Nat} {cE : Value} {qg : Str}
    (F : FunD K "attempt" qg pg (attBody p1 p2 p3 p4 p5 p6 p7 p8 p9 p10 p11 p12 p13 p14 p15 p16 p17 p18 p19 p20 p21 p22 j1 j2) sg [] [] g fd) (hb : Binds K fd ["self", "action"] []) (hm : Meth K (He.ga K x) "attempt" g) (C : ClsF K mg x fs) (h1 : ("now" : Str) ∈ fs) (h2 : ("past" : Str) ∈ fs) (S : AttS sg)
    (mE : mg "ErrandError" = some cE) (TB : LamX.TabB base mg c (tabL K)) (he : ∀ y ∈ errs, ∀ D, mg y = some (.ref D) → PySem.W.exmOne K (.ref D) cE = some true) (X : Cx) (hK : X.K = K) (hmg : X.mg = mg) (hbs : X.base = base) : AttX X x errs := by
  subst hK hmg hbs
  obtain ⟨oc, od, dV, kV, doc, pm, an, cdv, ct, osl, rfl, lk, hcd, _, _⟩ := F.ex
  exact ⟨g, _, _, pg, sg, dV, kV, doc, pm, cdv, ct, oc, cE, an, od, osl, p1, p2, p3, p4, p5, p6, p7, p8, p9, p10, p11, p12, p13, p14, p15, p16, p17, p18, p19, p20, p21, p22, j1, j2, C.cl, hm, C.nt _ h1, C.nt _ h2, lk, hcd, hb, S, mE, TB.bm, he⟩
end Wy
set_option Elab.async false
set_option linter.all false
set_option maxRecDepth 100000
set_option maxHeartbeats 4000000
/-! W66: sorted(t), t a tuple of data. -/
namespace Wy
open PySem PySem.Spec PyProof.Rows L2
section
variable {prog : Program} {w : World} {A : Around} {E : Value → Shared → Prop} {s : Shared}
theorem collect_tup {t : Addr} {vs : List Value} {o : Obj} {n : Nat} {Q : List Value → Shared → Prop} (ho : s.heap.get? t = some o) (hc : o.cls = .type "tuple") (hd : o.data = .seq vs.toArray n) (hl : vs.length ≤ sizeLine)
    (q : Q vs { s with heap := (s.heap.push (seqObj "list" #[] 0)).update s.heap.objs.size (Obj.mapSeq (· ++ vs.toArray)) }) : wpAny (model prog w) A (collect (.ref t)) Q E s := by
  have here : (s.heap.push (seqObj "list" #[] 0)).get? s.heap.objs.size = some (seqObj "list" #[] 0) := Heap.get?_push_size _ rfl
  have there := Heap.get?_push_of_some (h := s.heap) (seqObj "list" #[] 0) ho
  unfold collect
  refine wpAny_bind (wpAny_runValue (codeAny_builtin entry_proto_collect' ?_))
  show wpAny _ _ (do again (.builtin "list.__iadd__" ⟨[← newList [], .ref t], []⟩)) _ _ s
  refine wpAny_bind (wpAny_newList (wpAny_pure ⟨Code.quiet_builtin _ (by decide +kernel), codeAny_builtin entry_list_iadd' ?_⟩))
  show wpAny _ _ (Builtin.List.listExtendWith (.ref s.heap.objs.size) (.ref t) (.ref s.heap.objs.size)) _ _ { s with heap := s.heap.push (seqObj "list" #[] 0) }
  unfold Builtin.List.listExtendWith
  refine wpAny_bind (wpAny_typeOf (T := "tuple") ⟨o, there, hc⟩ ?_)
  rw [if_pos (by rw [show (Value.type "tuple" == Value.type "tuple") = true from rfl]; simp)]
  refine wpAny_bind (listItems_at there hd (wpAny_bind (listItems_at (xs := #[]) (n := 0) here rfl ?_)))
  rw [if_neg (by simp)]
  refine wpAny_bind (listUpdate_at (xs := #[]) (n := 0) here rfl (wpAny_pure ?_) (Nat.zero_le _) (by show (#[] ++ vs.toArray).size ≤ sizeLine + 1; simp only [Array.size_append, List.size_toArray, List.length_nil]; omega))
  refine wpAny_bind (wpAny_load (get?_update_seq here _) ?_)
  show wpAny _ _ (pure ((#[] : Array Value) ++ vs.toArray).toList) Q E _
  rw [show ((#[] : Array Value) ++ vs.toArray).toList = vs by simp]
  exact wpAny_pure q
theorem sorted_tup {κ : PyProof.Rows.KeyKind} {t : Addr} {vs : List Value} {o : Obj} {n : Nat} {Q : Value → Shared → Prop} (ho : s.heap.get? t = some o) (hc : o.cls = .type "tuple") (hd : o.data = .seq vs.toArray n)
    (S : PySem.W.SortsAt prog w A.in1.in1 { s with heap := PySem.W.sortingHeap (PySem.W.copyHeap s.heap vs) (s.heap.objs.size + 1) vs } κ vs) (hL : vs.length ≤ sizeLine)
    (q : Q (.ref (s.heap.objs.size + 1)) { s with heap := sortedAll s.heap vs (PySem.W.sortVals κ false vs vs).toArray }) : wpAny (model prog w) A (call (.builtin "sorted") [.ref t]) Q E s := by
  refine call_function_entry_kw kind_sorted plain_sorted entry_sorted (args_sorted1 _) ?_
  unfold Builtin.«sorted»
  refine wpAny_bind (m := checkCount "sorted" 1 1 _) (wpAny_pure (wpAny_bind (collect_tup ho hc hd hL (wpAny_bind (wpAny_newList ?_ hL)))))
  have sz : ((s.heap.push (seqObj "list" #[] 0)).update s.heap.objs.size (Obj.mapSeq (· ++ vs.toArray))).objs.size = s.heap.objs.size + 1 := by
    rw [Heap.size_update]
    exact Heap.size_push _ _
  show wpAny _ _ _ _ _ { s with heap := PySem.W.copyHeap s.heap vs }
  rw [sz]
  refine wpAny_bind (wpAny_holding (wpAny_call_entry_kw slot_list_sort ⟨_, PySem.W.copyHeap_at s.heap vs, rfl⟩ entry_list_sort ?_ (args_list_sort _)))
  show wpAny (model prog w) A.in1.in1 (Builtin.«list.sort» ⟨[.ref (s.heap.objs.size + 1)], []⟩) _ _ _
  exact wpAny_mono (PySem.W.list_sort_vals (E := fun _ _ => False) (s := { s with heap := PySem.W.copyHeap s.heap vs }) (PySem.W.copyHeap_at s.heap vs) S hL (P := fun f s' => f = .done (.ret .none) ∧ Q (.ref (s.heap.objs.size + 1)) s') ⟨rfl, q⟩) (fun f s' ⟨e, z⟩ => by
    subst e
    exact ⟨_, rfl, wpAny_pure ⟨_, rfl, z⟩⟩) fun _ _ e => e.elim
end
section
open PySem.W PySem.SeqAt
variable {X : Cx} {E : XK}
def gSortedT (ws : List W) (m : Mu) : R W := match ws with
  | [.d (.tuple ds)] => if okSort ds = true then .ok (.d (.list (sortD ds))) m else .bad
  | _ => .bad
theorem cw_sortedT (hc : X.calm = true) (hu : X.A.units + 65 < cLine) : CallW X E (.builtin "sorted") gSortedT := by
  rintro pins s σ H xs us Q I r ⟨Z, B, m, ws, so, hw, q⟩
  unfold gSortedT at q
  split at q
  rotate_left
  · exact q.elim
  rename_i ds
  obtain ⟨x, rfl, ha⟩ := wvs1 hw
  split at q
  rotate_left
  · exact q.elim
  rename_i z
  cases ha with
  | d ha =>
    cases ha with
    | tup hq hd =>
      rename_i t zs
      rw [Vals.ref1 r]
      obtain ⟨its, rv, ⟨o, ho, hoc, n, hod⟩, _⟩ := I.tuple hq.sq
      obtain ⟨e1, e2⟩ := each_zip rv hd
      have er : EachIs (fun v (b : V × PyData) => ∃ as, Reads s.heap v b.2 as) its (zs.zip ds) := each_in e1 fun v b hb rb => by
        have hm : b.2 ∈ ds := by rw [← e2]; exact List.mem_map.mpr ⟨b, hb, rfl⟩
        exact Dp.reads I b.2 b.1 v (rb.2.dp ((okSort_lay z).1 _ hm)) rb.1
      have er' : EachIs (fun v (b : V × PyData) => ∃ as, Reads (sortingHeap (copyHeap s.heap its) (s.heap.objs.size + 1) its) v b.2 as) its (zs.zip ds) := er.mono fun _ _ ⟨as, r⟩ => ⟨as, PyProof.Rows.Reads.keeps (fun _ _ => sorting_copy_old) r⟩
      have hal := okSort_alike z
      have hlen2 := (okSort_lay z).2
      rw [← e2] at hal z
      have hlen : its.length ≤ 1000 := by
        have h1 := rv.length
        have h2 := hd.length
        omega
      refine sorted_tup ho hoc hod (okSort_at (s := { s with heap := sortingHeap (copyHeap s.heap its) (s.heap.objs.size + 1) its }) z (each_map (R := fun v d => ∃ as, Reads (sortingHeap (copyHeap s.heap its) (s.heap.objs.size + 1) its) v d as) Prod.snd er') (by simp only [Around.in1_units]; omega)) (le1000 hlen) ?_
      have eo := sortVals_data false e1 er' hal
      generalize sortVals (dataKind (sortingHeap (copyHeap s.heap its) (s.heap.objs.size + 1) its) ((zs.zip ds).map Prod.snd)) false its its = out at eo ⊢
      obtain ⟨vals, dvs⟩ := unzip_each eo
      rw [sortD_eq] at q
      have ed : ((zs.zip ds).mergeSort (dataLe false Prod.snd)).map Prod.snd = msD ds :=
        (sort_maps (r := dataLe false Prod.snd) (s := dataLe false id) Prod.snd (l := zs.zip ds) (fun a _ b _ => rfl)).trans (by rw [e2])
      rw [ed] at dvs
      obtain ⟨ep, he⟩ := PyProof.Rows.sortedAll_at s.heap its out.toArray
      have hf : H (s.heap.objs.size + 1) = none := I.hok.fresh (Nat.le_succ _)
      have hl2 : (((zs.zip ds).mergeSort (dataLe false Prod.snd)).map Prod.fst).length ≤ sizeLine := by
        rw [List.length_map, List.length_mergeSort]
        refine le1000 ?_
        rw [List.length_zip]
        omega
      exact ⟨.ref _, upd H (s.heap.objs.size + 1) (.lst _), I.laid (t' := s.toks) (fun _ _ => PyProof.Rows.sortedAll_old) (Nat.le_succ _) ⟨hl2, out, ep, vals, he⟩, rfl, Post.fresh q so hf (.d (DV.topL so hf dvs))⟩
end
end Wy
set_option Elab.async false
set_option linter.all false
set_option maxRecDepth 100000
set_option maxHeartbeats 4000000
/-! W67: tuple * int, the new tuple's object known. -/
namespace Wy
open PySem PySem.Spec PyProof.Rows L2
section
variable {X : Cx} {E : XK}
def rMulK (K : PySem.W.Frag) : R2 := fun x y H Q => ∃ a n xs, x = .ref a ∧ y = .int n ∧ SqT K H a xs ∧ 0 < xs.length ∧ 2 ≤ n ∧ n ≤ 1000 ∧ xs.length ≤ 1000 ∧ ∀ (ob : Obj) (p : Addr), ob.dict = none → H p = none → Q (.ref p) (upd H p (.frz ob (.tup (List.replicate n.toNat xs).flatten)))
theorem op_mulK : OpR X (binaryOp .Mult) (rMulK X.K) := by
  rintro pins s σ H x y v u Q I rx ry ⟨a, n, xs, rfl, rfl, hq, pos, n2, n3, len, q⟩
  cases rx
  obtain ⟨tk, rfl⟩ := ry
  obtain ⟨vs, rv, ⟨⟨oc, od, dt, osl⟩, e, ec, m, ed⟩, _⟩ := I.tuple hq
  simp only at ec ed
  subst ec ed
  have lv : vs.length = xs.length := rv.length.symm
  have sz : vs.toArray.size = xs.length := by rw [List.size_toArray, lv]
  have ne : vs.toArray.isEmpty = false := by
    cases vs with
    | nil => rw [List.length_nil] at lv; omega
    | cons _ _ => rfl
  have prod : ((vs.toArray.size : Nat) : Int) * n ≤ 1000000 := by
    rw [sz]
    have : ((xs.length : Nat) : Int) * n ≤ 1000 * n := Int.mul_le_mul_of_nonneg_right (by omega) (by omega)
    omega
  have fl : (List.replicate n.toNat xs).flatten.length ≤ sizeLine := by
    rw [PyProof.Rows.lm_len_rep_flat, sizeLine_eq]
    have : n.toNat * xs.length ≤ 1000 * 1000 := Nat.mul_le_mul (by omega) len
    omega
  have fl2 : (List.replicate n.toNat vs).flatten.length ≤ sizeLine := by
    rw [PyProof.Rows.lm_len_rep_flat, lv, ← PyProof.Rows.lm_len_rep_flat]
    exact fl
  have made := L2.tuple_mulW a vs.toArray m od osl n tk (by rw [decide_eq_false (by omega), decide_eq_false (by omega)]; rfl) (by rw [ne, Bool.false_or]; exact beq_eq_false_iff_ne.mpr (by omega)) (by rw [ne, Bool.or_false]; exact decide_eq_false (by omega)) (by omega)
    (by unfold Builtin.Tuple.tupleTooMany; rw [sizeLine_eq]; exact decide_eq_false (by omega)) (by rw [L2.size_rep, List.size_toArray]; exact fl2)
  have left : s.TypeIs (.ref a) "tuple" := ⟨_, e, rfl⟩
  refine wpAny_binaryOp_repeat_ref (T := "tuple") (U := "int") (by decide) left (fun z => typeIs_int z n tk) L2.noFill_tuple_mul F.fills_int_mul F.slot_int_rmul L2.repeat_tuple F.slot_int_index.lookup ?_
  refine call_meets F.slot_int_rmul (typeIs_int s n tk) F.entry_int_rmul (F.args_int_rmul_2 _ _) (L2.int_rmul_tuple n tk a vs.toArray m od osl) ⟨e, rfl, left, ?_⟩
  refine call_meets F.slot_tuple_mul left F.entry_tuple_mul (F.args_tuple_mul_2 _ _) made ⟨e, ?_⟩
  rw [L2.size_rep]
  have here : (s.heap.push { cls := .type "tuple", data := .seq (List.replicate n.toNat vs).flatten.toArray }).get? s.heap.objs.size = some { cls := .type "tuple", data := .seq (List.replicate n.toNat vs).flatten.toArray } := Heap.get?_push_size _ rfl
  exact ⟨.ref s.heap.objs.size, _, I.laid (t' := s.toks) (o := .frz _ (.tup (List.replicate n.toNat xs).flatten)) (fun b ob z => Heap.get?_push_of_some _ z) (Nat.le_refl _) ⟨here, fl, _, rv.rep n.toNat, _, here, rfl, _, rfl⟩, rfl, q _ _ rfl (I.hok.fresh (Nat.le_refl _))⟩
def gMulK (a b : W) (m : Mu) : R W := match a, b with
  | .d (.tuple ds), .d (.int k) => if 0 < ds.length ∧ 2 ≤ k ∧ k ≤ 1000 ∧ ds.length ≤ 1000 then .ok (.d (.tuple (List.replicate k.toNat ds).flatten)) m else .bad
  | _, _ => .bad
theorem ow_mulK : OpW X E (binaryOp .Mult) gMulK := by
  rintro pins s σ H x y v u Q I rx ry ⟨Z, B, m, a, b, so, ha, hb, q⟩
  unfold gMulK at q
  split at q
  · rename_i ds k
    split at q
    · rename_i z
      cases ha with
      | d ha =>
        cases ha with
        | tup hq hv =>
          cases hb with
          | d hb =>
            have lv := hv.length
            exact op_mulK pins s σ H _ y v u Q I rx ry ⟨_, k, _, rfl, int_inv hb, hq.sq, by omega, z.2.1, z.2.2.1, by omega, fun ob p hd hp => Post.fresh q so hp (.d (.tup (.inl ⟨so.out hp, ob, hd, upd_same⟩) ((hv.repl _).mono (le_laid hp))))⟩
    · exact q.elim
  · exact q.elim
end
end Wy
set_option Elab.async false
set_option linter.all false
set_option maxRecDepth 100000
set_option maxHeartbeats 4000000
namespace Wy
open PySem PySem.Spec PyProof.Rows L2
def kinds : List (Str × Str) := [("InvalidErrand", "errand +"), ("InvalidHouse", "house +"), ("InvalidOption", "option +"), ("InvalidState", "state +"), ("NothingToUndo", "undo +")]
def errs : List Str := kinds.map (·.1)
def kF : Str := "many +"
def b_Day___init__ : FS := (fThen (fDrop (fCall 3 f_need_begin (fCons (fVar 1) (fCons (fVar 2) (fCons (fVar 3) fNil)))))
  (fThen (fSetF "Day" "ground" (fVar 0) (fVar 1))
  (fThen (fSetF "Day" "first" (fVar 0) (fTup (fCons (fVar 3) (fCons (fTup (fCons (fTup (fCons (fVar 2) (fCons (fC (.int 0)) fNil))) fNil)) fNil))))
  (fThen (fSetF "Day" "now" (fVar 0) (fTup fNil))
  (fSetF "Day" "past" (fVar 0) (fTup fNil))))))
def f_Day___init__ : Fn := fnF 4 (b_Day___init__)
def b__law_round : FS := (fThen (fSet 1 (fBin gAdd (fC (.int 2)) (fCall 2 f__law_pick (fCons (fVar 0) (fCons (fC (.int 2)) fNil)))))
  (fThen (fSet 2 (fTupR (fVar 1)))
  (fThen (fSet 3 (fTup (fCons (fCall 2 f__law_one (fCons (fVar 0) (fCons (fLst (fCons (fC (.str "me")) (fCons (fC (.str "they")) fNil))) fNil))) (fCons (fTup (fCons (fTup (fCons (fVar 2) (fCons (fC (.int (-1))) (fCons (fCall 2 f__law_pick (fCons (fVar 0) (fCons (fVar 1) fNil))) (fCons (fC (.int 0)) fNil))))) (fCons (fTup (fCons (fVar 2) (fCons (fC (.int (-1))) (fCons (fC (.int 0)) (fCons (fC (.int 1)) fNil))))) fNil))) fNil))))
  (fThen (fSet 3 (fTup (fCons (fBin gIx (fVar 3) (fC (.int 0))) (fCons (fBi gTuple (fCons (fBi gSortedT (fCons (fBin gIx (fVar 3) (fC (.int 1))) fNil)) fNil)) fNil))))
  (fRet true (fTup (fCons (fMake "Day" 4 f_Day___init__ (fCons (fTup (fCons (fVar 1) (fCons (fTup (fCons (fTup (fCons (fVar 3) fNil)) fNil)) fNil))) (fCons (fC (.int 0)) (fCons (fCall 2 f__law_pick (fCons (fVar 0) (fCons (fVar 1) fNil))) fNil)))) (fCons (fIxT (fBin gIx (fVar 3) (fC (.int 1))) (fTup (fCons (fVar 2) (fCons (fC (.int (-1))) (fCons (fC (.int 0)) (fCons (fC (.int 1)) fNil)))))) fNil))))))))
def f__law_round : Fn := fnF 4 (b__law_round)
def b_Day_place : FS := (fRet false (fIf (fTb (fBin gNe (fVar 1) (fTup fNil))) (fBin gIx (fBin gIx (fVar 1) (fC (.int (-1)))) (fC (.int 1))) (fFld "Day" "first" (fVar 0))))
def f_Day_place : Fn := fnF 2 (b_Day_place)
def b_choices_of : FS := (fThen (fAsg (.tp [(.nm 2), (.nm 3)]) (fVar 1))
  (fRet false (fIf (fTb (fBin gNe (fVar 3) (fTup fNil))) (fCall 4 f_open_options (fCons (fVar 0) (fCons (fBin gIx (fBin gIx (fVar 3) (fC (.int (-1)))) (fC (.int 0))) (fCons (fBin gIx (fBin gIx (fVar 3) (fC (.int (-1)))) (fC (.int 1))) (fCons (fVar 2) fNil))))) (fLst fNil))))
def f_choices_of : Fn := fnF 4 (b_choices_of)
def b_settled : FS := (fThen (whileF (fAndT (fTb (fBin gNe (fVar 1) (fTup fNil))) (fTb (fBin gEq (fBin gIx (fBin gIx (fVar 1) (fC (.int (-1)))) (fC (.int 1))) (fBi gLen (fCons (fBin gIx (fBin gIx (fVar 0) (fC (.int 1))) (fBin gIx (fBin gIx (fVar 1) (fC (.int (-1)))) (fC (.int 0)))) fNil))))) (fSet 1 (fSl (fVar 1) fNoP (fPart (fC (.int (-1)))))) 100000)
  (fRet false (fVar 1)))
def f_settled : Fn := fnF 2 (b_settled)
def b_step : FS := (fThen (fAsg (.tp [(.nm 3), (.nm 4)]) (fVar 1))
  (fThen (fAsg (.tp [(.nm 5), (.nm 6)]) (fBin gIx (fVar 4) (fC (.int (-1)))))
  (fThen (fAsg (.tp [(.nm 7), (.nm 8), (.nm 9), (.nm 10)]) (fBin gIx (fBin gIx (fBin gIx (fBin gIx (fBin gIx (fVar 0) (fC (.int 1))) (fVar 5)) (fVar 6)) (fC (.int 1))) (fVar 2)))
  (fThen (fSet 4 (fBin gAdd (fSl (fVar 4) fNoP (fPart (fC (.int (-1))))) (fTup (fCons (fTup (fCons (fVar 5) (fCons (fVar 10) fNil))) fNil))))
  (fRet false (fTup (fCons (fVar 9) (fCons (fCall 2 f_settled (fCons (fVar 0) (fCons (fIf (fTb (fBin (gO cGe) (fVar 8) (fC (.int 0)))) (fBin gAdd (fVar 4) (fTup (fCons (fTup (fCons (fVar 8) (fCons (fC (.int 0)) fNil))) fNil))) (fVar 4)) fNil))) fNil))))))))
def f_step : Fn := fnF 11 (b_step)
def b_Day_lead : FS := (fThen (fSet 2 (fFld "Day" "now" (fVar 0)))
  (fThen (fFor (fSeq (fVar 1)) (.nm 3) (fThen (fSet 4 (fMth "Day" "place" 2 f_Day_place (fVar 0) (fCons (fVar 2) fNil)))
  (fThen (fIfS (fOrT (fNotT (fTb (fCall 3 f_is_within (fCons (fVar 3) (fCons (fC (.int 0)) (fCons (fC (.int 2)) fNil)))))) (fTb (fBin gNotIn (fVar 3) (fCall 2 f_choices_of (fCons (fFld "Day" "ground" (fVar 0)) (fCons (fVar 4) fNil)))))) (fRaise "InvalidOption") fNext)
  (fSet 2 (fBin gAdd (fVar 2) (fTup (fCons (fTup (fCons (fBin gAdd (fBin gIx (fBin gIx (fVar 4) (fC (.int 1))) (fC (.int (-1)))) (fTup (fCons (fVar 3) fNil))) (fCons (fCall 3 f_step (fCons (fFld "Day" "ground" (fVar 0)) (fCons (fVar 4) (fCons (fVar 3) fNil)))) fNil))) fNil)))))))
  (fThen (fIfS (fTb (fBin (gO cGt) (fBi gLen (fCons (fVar 2) fNil)) (fC g_MOST_STEPS))) (fRaiseF "TooMany" "limit" (fC g_MOST_STEPS)) fNext)
  (fThen (fSetF "Day" "past" (fVar 0) (fBin gAdd (fFld "Day" "past" (fVar 0)) (fTup (fCons (fFld "Day" "now" (fVar 0)) fNil))))
  (fSetF "Day" "now" (fVar 0) (fVar 2))))))
def f_Day_lead : Fn := fnF 5 (b_Day_lead)
def b_Day_choose : FS := (fThen (fDrop (fMth "Day" "lead" 2 f_Day_lead (fVar 0) (fCons (fTup (fCons (fVar 1) fNil)) fNil)))
  (fRet false (fBi gLen (fCons (fBin gIx (fMth "Day" "place" 2 f_Day_place (fVar 0) (fCons (fFld "Day" "now" (fVar 0)) fNil)) (fC (.int 1))) fNil))))
def f_Day_choose : Fn := fnF 2 (b_Day_choose)
def b_Day___len__ : FS := (fRet false (fBi gLen (fCons (fFld "Day" "now" (fVar 0)) fNil)))
def f_Day___len__ : Fn := fnF 1 (b_Day___len__)
def b_Day_stack : FS := (fRet false (fBin gIx (fMth "Day" "place" 2 f_Day_place (fVar 0) (fCons (fFld "Day" "now" (fVar 0)) fNil)) (fC (.int 1))))
def f_Day_stack : Fn := fnF 1 (b_Day_stack)
def b_Day_state : FS := (fRet false (fBin gIx (fMth "Day" "place" 2 f_Day_place (fVar 0) (fCons (fFld "Day" "now" (fVar 0)) fNil)) (fC (.int 0))))
def f_Day_state : Fn := fnF 1 (b_Day_state)
def b_Day___iadd__ : FS := (fThen (fIfS (fNotT (fTb (fIsi "tuple" (fVar 1)))) (fRaise "InvalidOption") fNext)
  (fThen (fDrop (fMth "Day" "lead" 2 f_Day_lead (fVar 0) (fCons (fVar 1) fNil)))
  (fRet false (fVar 0))))
def f_Day___iadd__ : Fn := fnF 2 (b_Day___iadd__)
def b_Day___eq__ : FS := (fThen (fIfS (fNotT (fTb (fIsO "Day" (fVar 1)))) (fun _ _ => .bad) fNext)
  (fRet false (fBin gEq (fTup (fCons (fFld "Day" "ground" (fVar 0)) (fCons (fProp "Day" f_Day_state (fVar 0)) (fCons (fProp "Day" f_Day_stack (fVar 0)) fNil)))) (fTup (fCons (fFld "Day" "ground" (fVar 1)) (fCons (fProp "Day" f_Day_state (fVar 1)) (fCons (fProp "Day" f_Day_stack (fVar 1)) fNil)))))))
def f_Day___eq__ : Fn := fnF 2 (b_Day___eq__)
def b__law_led_on : FS := (fThen (fSet 2 (fVar 0))
  (fThen (fAugO 2 (gOwn "Day" f_Day___iadd__) (fVar 1))
  (fRet false (fBin (gEqO "Day" f_Day___eq__) (fVar 2) (fVar 0)))))
def f__law_led_on : Fn := fnF 3 (b__law_led_on)
def b_Day_undo : FS := (fThen (fIfS (fTb (fBin gEq (fFld "Day" "past" (fVar 0)) (fTup fNil))) (fRaise "NothingToUndo") fNext)
  (fThen (fSetF "Day" "now" (fVar 0) (fBin gIx (fFld "Day" "past" (fVar 0)) (fC (.int (-1)))))
  (fSetF "Day" "past" (fVar 0) (fSl (fFld "Day" "past" (fVar 0)) fNoP (fPart (fC (.int (-1))))))))
def f_Day_undo : Fn := fnF 1 (b_Day_undo)
def b_law : FS := (fThen (fFor (fSeq (fSl (fBin gAdd (fLst (fCons (fC (.int 0)) fNil)) (fVar 0)) fNoP (fPart (fC (.int 8))))) (.nm 1) (fThen (fSet 2 (fCall 2 f__law_deck (fCons (fVar 1) (fCons (fC (.int 23)) fNil))))
  (fThen (fSet 3 (fCall 3 f__law_house (fCons (fVar 2) (fCons (fC (.int 3)) (fCons (fC (.int 3)) fNil)))))
  (fThen (fFor (fSeq (fLst (fCons (fC .none) (fCons (fSl (fVar 3) fNoP (fPart (fC (.int 1)))) (fCons (fBi gList (fCons (fVar 3) fNil)) fNil))))) (.nm 4) (fIfS (fTb (fBin gNe (fTryM kinds kF (fMake "Day" 4 f_Day___init__ (fCons (fVar 4) (fCons (fC .none) (fCons (fC .none) fNil))))) (fC (.str "house +")))) (fRet false (fC (.bool false))) fNext))
  (fThen (fFor (fSeq (fLst (fCons (fC .none) (fCons (fC (.int (-1))) (fCons (fBi gLen (fCons (fBin gIx (fVar 3) (fC (.int 1))) fNil)) (fCons (fC (.bool true)) fNil)))))) (.nm 4) (fIfS (fTb (fBin gNe (fTryM kinds kF (fMake "Day" 4 f_Day___init__ (fCons (fVar 3) (fCons (fVar 4) (fCons (fC .none) fNil))))) (fC (.str "errand +")))) (fRet false (fC (.bool false))) fNext))
  (fThen (fFor (fSeq (fLst (fCons (fC .none) (fCons (fC (.int (-1))) (fCons (fBin gIx (fVar 3) (fC (.int 0))) (fCons (fC (.bool true)) fNil)))))) (.nm 4) (fIfS (fTb (fBin gNe (fTryM kinds kF (fMake "Day" 4 f_Day___init__ (fCons (fVar 3) (fCons (fC (.int 0)) (fCons (fVar 4) fNil))))) (fC (.str "state +")))) (fRet false (fC (.bool false))) fNext))
  (fThen (fAsg (.tp [(.nm 5), (.nm 6)]) (fCall 1 f__law_round (fCons (fVar 2) fNil)))
  (fThen (fSet 7 (fBin gSub (fC (.int 1)) (fVar 6)))
  (fThen (fDrop (fMth "Day" "choose" 2 f_Day_choose (fVar 5) (fCons (fVar 7) fNil)))
  (fThen (fSet 8 (fLst (fCons (fProp "Day" f_Day_state (fVar 5)) (fCons (fProp "Day" f_Day_stack (fVar 5)) (fCons (fBi (gLenO "Day" f_Day___len__) (fCons (fVar 5) fNil)) fNil)))))
  (fThen (fFor (fSeq (fLst (fCons (fTup (fCons (fVar 7) (fCons (fC (.int 2)) fNil))) (fCons (fTup (fCons (fVar 7) (fCons (fC .none) fNil))) (fCons (fTup (fCons (fVar 7) (fCons (fC (.bool true)) fNil))) (fCons (fTup (fCons (fVar 6) (fCons (fVar 6) fNil))) (fCons (fTup (fCons (fVar 7) (fCons (fC (.int (-1))) fNil))) (fCons (fTup (fCons (fVar 7) (fCons (fC (.str "0")) fNil))) fNil)))))))) (.nm 9) (fIfS (fTb (fBin gNe (fTryM kinds kF (fCall 2 f__law_led_on (fCons (fVar 5) (fCons (fVar 9) fNil)))) (fC (.str "option +")))) (fRet false (fC (.bool false))) fNext))
  (fThen (fIfS (fTb (fBin gNe (fTryM kinds kF (fAtt "Day" errs (fVar 5) (fMth "Day" "choose" 2 f_Day_choose (fVar 10) (fCons (fC (.int 2)) fNil)))) (fC (.str "option +")))) (fRet false (fC (.bool false))) fNext)
  (fThen (fIfS (fOrT (fTb (fBin gNe (fTryM kinds kF (fCall 2 f__law_led_on (fCons (fVar 5) (fCons (fC .none) fNil)))) (fC (.str "option +")))) (fTb (fBin gNe (fLst (fCons (fProp "Day" f_Day_state (fVar 5)) (fCons (fProp "Day" f_Day_stack (fVar 5)) (fCons (fBi (gLenO "Day" f_Day___len__) (fCons (fVar 5) fNil)) fNil)))) (fVar 8)))) (fRet false (fC (.bool false))) fNext)
  (fThen (fIfS (fTb (fBin gNe (fTryM kinds kF (fCall 2 f__law_led_on (fCons (fVar 5) (fCons (fBin gMulK (fTup (fCons (fVar 7) fNil)) (fC (.int 100))) fNil)))) (fTup (fCons (fC (.str "many +")) (fCons (fC (.int 100)) fNil))))) (fRet false (fC (.bool false))) fNext)
  (fThen (fIfS (fOrT (fNotT (fTb (fCall 2 f__law_led_on (fCons (fVar 5) (fCons (fBin gMulK (fTup (fCons (fVar 7) fNil)) (fC (.int 99))) fNil))))) (fTb (fBin gNe (fTryM kinds kF (fMth "Day" "choose" 2 f_Day_choose (fVar 5) (fCons (fVar 7) fNil))) (fTup (fCons (fC (.str "many +")) (fCons (fC (.int 100)) fNil)))))) (fRet false (fC (.bool false))) fNext)
  (fThen (fIfS (fOrT (fTb (fNotN (fMth "Day" "undo" 1 f_Day_undo (fVar 5) fNil))) (fOrT (fTb (fNotN (fMth "Day" "undo" 1 f_Day_undo (fVar 5) fNil))) (fTb (fBin gNe (fTryM kinds kF (fMth "Day" "undo" 1 f_Day_undo (fVar 5) fNil)) (fC (.str "undo +")))))) (fRet false (fC (.bool false))) fNext)
  (fIfS (fOrT (fTb (fBin gNe (fBi (gLenO "Day" f_Day___len__) (fCons (fVar 5) fNil)) (fC (.int 0)))) (fTb (fBin gNe (fBi gLen (fCons (fProp "Day" f_Day_stack (fVar 5)) fNil)) (fC (.int 1))))) (fRet false (fC (.bool false))) fNext)))))))))))))))))
  (fRet false (fC (.bool true))))
def f_law : Fn := fnF 10 (b_law)
end Wy
set_option Elab.async false
set_option linter.all false
set_option maxRecDepth 100000
set_option maxHeartbeats 4000000
/-! D1 (from M100): positions: who lies on whom, choices, steps. -/
namespace Wy
open PySem PySem.Spec PyProof.Rows L2 PySem.W
/-! ### small things -/
theorem at_last {α : Type} {xs : List α} {x : α} : atI (xs ++ [x]) (-1) = some x := by
  unfold atI ixN
  rw [if_neg (by decide), if_pos (by rw [List.length_append, List.length_singleton]; omega)]
  have : ((-1 : Int) + ((xs ++ [x]).length : Nat)).toNat = xs.length := by
    rw [List.length_append, List.length_singleton]
    omega
  rw [this]
  simp
theorem tame_shaped {L k : Nat} {x : PyData} (h : tame L k x = true) (hk : k ≤ 60) : SeqAt.shaped x = true := by
  obtain ⟨a, b⟩ := tame_lay h
  unfold SeqAt.shaped
  rw [a, decide_eq_true (by omega)]
  rfl
def Stops (s : SR) : Prop := (∃ x m, s = .exn x m) ∨ ∃ k w m, s = .ret k w m
theorem for_stop {pt : Pat} {fb : FS} {w : W} {ws : List W} {r r2 : Rh} {m : Mu} {s : SR} (h : Stops s) (hp : patF pt w r = some r2) (e : fb r2 m = s) : forF none pt fb (w :: ws) r m = s := by
  rw [forF]
  simp only [stands, if_true, hp]
  rcases h with ⟨x, m', rfl⟩ | ⟨k, w, m', rfl⟩ <;> rw [e]
theorem for_go {pt : Pat} {fb : FS} {w : W} {ws : List W} {r r2 r3 : Rh} {m m3 : Mu} (hp : patF pt w r = some r2) (e : fb r2 m = .next r3 m3) : forF none pt fb (w :: ws) r m = forF none pt fb ws r3 m3 := by
  rw [forF]
  simp only [stands, if_true, hp, e]
theorem for_end {pt : Pat} {fb : FS} {r : Rh} {m : Mu} : forF none pt fb [] r m = .next r m := by
  simp [forF, stands]
theorem snoc {α : Type} {ns : List α} (h : ns ≠ []) : ∃ xs z, ns = xs ++ [z] := ⟨ns.dropLast, ns.getLast h, (List.dropLast_concat_getLast h).symm⟩
theorem cut_init {α : Type} (xs : List α) (x : α) : cutA (xs ++ [x]) none (some (-1)) = xs := by
  unfold cutA
  have h0 : HT.sIx (xs ++ [x]).length 0 none = 0 := rfl
  have h1 : HT.sIx (xs ++ [x]).length (xs ++ [x]).length (some (-1)) = xs.length := by
    unfold HT.sIx
    rw [List.length_append, List.length_singleton]
    show (if (-1 : Int) < 0 then ((-1 : Int) + ((xs.length + 1 : Nat) : Int)).toNat else _) = _
    rw [if_pos (by decide)]
    omega
  rw [h0, h1, List.drop_zero, Nat.sub_zero, List.take_left']
  rfl
theorem w_true {ft : FT} {fb : FS} {n : Nat} {r r2 : Rh} {m m2 : Mu} (h : ft r m = .ok true m) (e : fb r m = .next r2 m2) : whileF ft fb (n + 1) r m = whileF ft fb n r2 m2 := by
  rw [whileF, h, toS_ok]
  show (match fb r m with | .next r2 m2 => whileF ft fb n r2 m2 | .cnt r2 m2 => whileF ft fb n r2 m2 | .brk r2 m2 => .next r2 m2 | .ret k w m2 => .ret k w m2 | .exn x m2 => .exn x m2 | .bad => .bad) = _
  rw [e]
theorem w_false {ft : FT} {fb : FS} {n : Nat} {r : Rh} {m : Mu} (h : ft r m = .ok false m) : whileF ft fb (n + 1) r m = .next r m := by
  rw [whileF, h, toS_ok]
/-! ### positions -/
abbrev Sp := Nat × Nat
structure Ps where
  s : Nat
  k : List Sp
def qD (q : Sp) : PyData := .tuple [.int (q.1 : Int), .int (q.2 : Int)]
abbrev kD (k : List Sp) : PyData := .tuple (k.map qD)
def pD (p : Ps) : PyData := .tuple [.int (p.s : Int), kD p.k]
theorem kD_tame {k : List Sp} (h : k.length ≤ 1000) : tame 1000 2 (kD k) = true := tame_tup.mpr ⟨by rw [List.length_map]; exact h, fun y hy => by
  obtain ⟨q, _, rfl⟩ := List.mem_map.mp hy
  refine tame_tup.mpr ⟨by simp, fun z hz => tame_scal ?_⟩
  simp only [List.mem_cons, List.not_mem_nil, or_false] at hz
  rcases hz with e | e <;> subst e <;> rfl⟩
theorem pD_tame {p : Ps} (h : p.k.length ≤ 1000) : tame 1000 3 (pD p) = true := tame_tup.mpr ⟨by simp, fun z hz => by
  simp only [List.mem_cons, List.not_mem_nil, or_false] at hz
  rcases hz with e | e <;> subst e
  · exact tame_scal rfl
  · exact kD_tame h⟩
def lens (h : Hs) (e : Nat) : Nat := ((h.es[e]?).getD []).length
/-- places that there are -/
def Lie (h : Hs) (k : List Sp) : Prop := ∀ q ∈ k, ∃ ls, h.es[q.1]? = some ls ∧ q.2 ≤ ls.length
def settleR (h : Hs) : List Sp → List Sp
  | [] => []
  | q :: r => bif q.2 == lens h q.1 then settleR h r else q :: r
def settle (h : Hs) (k : List Sp) : List Sp := (settleR h k.reverse).reverse
theorem settleR_suf (h : Hs) : ∀ r : List Sp, ∃ d, r = d ++ settleR h r
  | [] => ⟨[], rfl⟩
  | q :: r => by
    rw [settleR]
    cases q.2 == lens h q.1 with
    | true =>
      obtain ⟨d, e⟩ := settleR_suf h r
      exact ⟨q :: d, congrArg (q :: ·) e⟩
    | false => exact ⟨[], rfl⟩
theorem settle_pre (h : Hs) (k : List Sp) : ∃ d, k = settle h k ++ d := by
  obtain ⟨d, e⟩ := settleR_suf h k.reverse
  refine ⟨d.reverse, ?_⟩
  unfold settle
  rw [← List.reverse_append, ← e, List.reverse_reverse]
theorem settle_len (h : Hs) (k : List Sp) : (settle h k).length ≤ k.length := by
  obtain ⟨d, e⟩ := settle_pre h k
  have := congrArg List.length e
  rw [List.length_append] at this
  omega
theorem settle_lie {h : Hs} {k : List Sp} (L : Lie h k) : Lie h (settle h k) := fun q hq => by
  obtain ⟨d, e⟩ := settle_pre h k
  exact L q (by rw [e]; exact List.mem_append_left _ hq)
theorem settleR_live (h : Hs) : ∀ r : List Sp, ∀ q, (settleR h r).head? = some q → q.2 ≠ lens h q.1
  | [], q, e => by cases e
  | p :: r, q, e => by
    rw [settleR] at e
    cases c : p.2 == lens h p.1 with
    | true => rw [c] at e; exact settleR_live h r q e
    | false =>
      rw [c] at e
      cases e
      exact beq_eq_false_iff_ne.mp c
abbrev condW (i : Nat) : FT := fAndT (fTb (fBin gNe (fVar i) (fTup fNil))) (fTb (fBin gEq (fBin gIx (fBin gIx (fVar i) (fC (.int (-1)))) (fC (.int 1))) (fBi gLen (fCons (fBin gIx (fBin gIx (fVar 0) (fC (.int 1))) (fBin gIx (fBin gIx (fVar i) (fC (.int (-1)))) (fC (.int 0)))) fNil))))
abbrev bodyW (i : Nat) : FS := fSet i (fSl (fVar i) fNoP (fPart (fC (.int (-1)))))
theorem ne_nilK {k : List Sp} (hk : k.length ≤ 1000) (m : Mu) : gNe (.d (kD k)) (.d (.tuple [])) m = .ok (.d (.bool (!k.isEmpty))) m := by
  have hk2 : okEq (kD k) (.tuple []) = true := by
    unfold okEq
    rw [tame_shaped (kD_tame hk) (by decide)]
    rfl
  show (if okEq (kD k) (.tuple []) = true then kBl (!PyData.eqv (kD k) (.tuple [])) m else .bad) = _
  rw [if_pos hk2]
  have : PyData.eqv (kD k) (.tuple []) = k.isEmpty := by
    rw [PyData.eqv]
    cases k <;> simp [PyData.eqvAll]
  rw [this]
theorem last_k (k : List Sp) (q : Sp) (m : Mu) : gIx (.d (kD (k ++ [q]))) (.d (.int (-1))) m = .ok (.d (qD q)) m := ix_tup (by rw [List.map_append]; exact at_last)
theorem len_es {h : Hs} {e : Nat} {ls : List Ln} (he : h.es[e]? = some ls) : lens h e = ls.length := by unfold lens; rw [he]; rfl
theorem ix_es {h : Hs} {e : Nat} {ls : List Ln} (he : h.es[e]? = some ls) (m : Mu) : gIx (.d (eH h)) (.d (.int 1)) m = .ok (.d (.tuple (h.es.map eE))) m ∧ gIx (.d (.tuple (h.es.map eE))) (.d (.int (e : Int))) m = .ok (.d (eE ls)) m := ⟨tup1, ix_tup (atN (by simp [he]))⟩
theorem settle_loop {h : Hs} {i : Nat} {put : List Sp → Rh} {m : Mu} (h0 : ∀ k, (put k)[0]? = some (some (.d (eH h)))) (hi : ∀ k, (put k)[i]? = some (some (.d (kD k)))) (hs : ∀ k k', (put k).set i (some (.d (kD k'))) = put k') :
    ∀ (r : List Sp) (N : Nat), r.length < N → r.length ≤ 1000 → Lie h r.reverse → whileF (condW i) (bodyW i) N (put r.reverse) m = .next (put (settleR h r).reverse) m
  | [], N, hN, _, _ => by
    obtain ⟨N, rfl⟩ : ∃ n, N = n + 1 := ⟨N - 1, by simp at hN; omega⟩
    have q1 : fTb (fBin gNe (fVar i) (fTup fNil)) (put []) m = .ok false m := k_tb (k_bin (b := .d (.tuple [])) (m2 := m) (k_var (hi [])) rfl (ne_nilK (k := []) (by simp) m))
    exact w_false (k_and (b := true) q1 fun z => nomatch z)
  | q :: r, N, hN, hl, L => by
    obtain ⟨N, rfl⟩ : ∃ n, N = n + 1 := ⟨N - 1, by simp at hN; omega⟩
    rw [List.length_cons] at hN hl
    rw [List.reverse_cons] at L ⊢
    obtain ⟨ls, e1, e2⟩ := L q (by simp)
    have ne : (!(r.reverse ++ [q]).isEmpty) = true := by cases r.reverse <;> rfl
    have q1 : fTb (fBin gNe (fVar i) (fTup fNil)) (put (r.reverse ++ [q])) m = .ok true m := by
      have := k_tb (k_bin (g := gNe) (fa := fVar i) (fb := fTup fNil) (r := put (r.reverse ++ [q])) (b := .d (.tuple [])) (m2 := m) (k_var (hi _)) rfl (ne_nilK (k := r.reverse ++ [q]) (by simp; omega) m))
      rw [ne] at this
      exact this
    have l1 : fBin gIx (fVar i) (fC (.int (-1))) (put (r.reverse ++ [q])) m = .ok (.d (qD q)) m := k_bin (m2 := m) (k_var (hi _)) rfl (last_k _ _ m)
    have l2 : fBin gIx (fBin gIx (fVar i) (fC (.int (-1)))) (fC (.int 1)) (put (r.reverse ++ [q])) m = .ok (.d (.int (q.2 : Int))) m := k_bin (m2 := m) l1 rfl tup1
    have l3 : fBin gIx (fBin gIx (fVar i) (fC (.int (-1)))) (fC (.int 0)) (put (r.reverse ++ [q])) m = .ok (.d (.int (q.1 : Int))) m := k_bin (m2 := m) l1 rfl tup0
    obtain ⟨i1, i2⟩ := ix_es e1 m
    have l4 : fBi gLen (fCons (fBin gIx (fBin gIx (fVar 0) (fC (.int 1))) (fBin gIx (fBin gIx (fVar i) (fC (.int (-1)))) (fC (.int 0)))) fNil) (put (r.reverse ++ [q])) m = .ok (.d (.int (ls.length : Int))) m := by
      refine k_bi1 (k_bin (m2 := m) (k_bin (m2 := m) (k_var (h0 _)) rfl i1) l3 i2) ?_
      unfold eE
      rw [len_tup, List.length_map]
    have q2 : fTb (fBin gEq (fBin gIx (fBin gIx (fVar i) (fC (.int (-1)))) (fC (.int 1))) (fBi gLen (fCons (fBin gIx (fBin gIx (fVar 0) (fC (.int 1))) (fBin gIx (fBin gIx (fVar i) (fC (.int (-1)))) (fC (.int 0)))) fNil))) (put (r.reverse ++ [q])) m = .ok (q.2 == lens h q.1) m := by
      have := k_tb (k_bin (g := gEq) (m2 := m) l2 l4 e_eqI)
      rw [show (((q.2 : Nat) : Int) == ((ls.length : Nat) : Int)) = (q.2 == lens h q.1) by rw [len_es e1, Bool.eq_iff_iff, beq_iff_eq, beq_iff_eq]; omega] at this
      exact this
    have q3 := k_and q1 fun _ => q2
    rw [Bool.true_and] at q3
    rw [settleR]
    cases c : q.2 == lens h q.1 with
    | true =>
      rw [c] at q3
      have e3 : bodyW i (put (r.reverse ++ [q])) m = .next (put r.reverse) m := by
        have sl : fSl (fVar i) fNoP (fPart (fC (.int (-1)))) (put (r.reverse ++ [q])) m = .ok (.d (kD r.reverse)) m := by
          unfold fSl
          rw [k_var (hi _), bind_ok]
          show R.ok (W.d (.tuple (cutA ((r.reverse ++ [q]).map qD) none (some (-1))))) m = _
          rw [List.map_append, List.map_singleton, cut_init]
        have := k_set (i := i) sl
        rw [hs] at this
        exact this
      rw [w_true q3 e3]
      exact settle_loop h0 hi hs r N (by omega) (by omega) fun p hp => L p (List.mem_append_left _ hp)
    | false =>
      rw [c] at q3
      rw [w_false q3]
      show SR.next (put (r.reverse ++ [q])) m = .next (put (q :: r).reverse) m
      rw [List.reverse_cons]
theorem v_settled {h : Hs} {k : List Sp} (hk : k.length ≤ 1000) (L : Lie h k) (m : Mu) : f_settled [.d (eH h), .d (kD k)] m = .ok (.d (kD (settle h k))) m := by
  have := settle_loop (h := h) (i := 1) (put := fun k => [some (.d (eH h)), some (.d (kD k))]) (m := m) (fun _ => rfl) (fun _ => rfl) (fun _ _ => rfl) k.reverse 100000 (by rw [List.length_reverse]; omega) (by rw [List.length_reverse]; omega) (by rw [List.reverse_reverse]; exact L)
  rw [List.reverse_reverse] at this
  exact fnF_ret (k_then this (k_ret (k_var rfl)))
/-! ### choices -/
/-- a position of the house, at which the one on top is not at its end -/
structure PsOk (h : Hs) (B : Nat) (p : Ps) : Prop where
  s : (p.s : Int) < h.s
  len : p.k.length ≤ B
  lie : Lie h p.k
  live : ∀ k q, p.k = k ++ [q] → q.2 ≠ lens h q.1
def chS (h : Hs) (p : Ps) : List Nat := match p.k.getLast? with
  | some q => match (h.es[q.1]?).bind fun ls => ls[q.2]? with
    | some l => (l.opts.zipIdx.filter fun z => hasI z.1.need (p.s : Int)).map (·.2)
    | none => []
  | none => []
abbrev nD (ns : List Nat) : List PyData := ns.map fun n : Nat => PyData.int (n : Int)
theorem chS_nil {h : Hs} {p : Ps} (e : p.k = []) : chS h p = [] := by
  unfold chS
  rw [e]
  rfl
theorem at_top {h : Hs} {B : Nat} {p : Ps} (ok : HsOk 3 3 h) (P : PsOk h B p) {k : List Sp} {q : Sp} (e : p.k = k ++ [q]) : ∃ ls l, h.es[q.1]? = some ls ∧ ls[q.2]? = some l ∧ LnOk h.s h.es.length ls.length l ∧ chS h p = (l.opts.zipIdx.filter fun z => hasI z.1.need (p.s : Int)).map (·.2) := by
  obtain ⟨ls, e1, e2⟩ := P.lie q (by rw [e]; simp)
  have e3 := P.live k q e
  rw [len_es e1] at e3
  have hlt : q.2 < ls.length := by omega
  have e4 : ls[q.2]? = some ls[q.2] := List.getElem?_eq_getElem hlt
  refine ⟨ls, ls[q.2], e1, e4, (ok.errand ls (List.mem_of_getElem? e1)).2.2 _ (List.getElem_mem hlt), ?_⟩
  unfold chS
  rw [e, List.getLast?_append]
  show (match (h.es[q.1]?).bind fun ls => ls[q.2]? with | some l => _ | none => []) = _
  rw [e1]
  show (match ls[q.2]? with | some l => _ | none => []) = _
  rw [e4]
theorem nD_map (l : Ln) (s : Int) : nD ((l.opts.zipIdx.filter fun z => hasI z.1.need s).map (·.2)) = (l.opts.zipIdx.filter fun z => hasI z.1.need s).map fun q => PyData.int (q.2 : Int) := by
  unfold nD
  rw [List.map_map]
  rfl
abbrev bCh (F : Fn) : FS := (fThen (fAsg (.tp [(.nm 2), (.nm 3)]) (fVar 1)) (fRet false (fIf (fTb (fBin gNe (fVar 3) (fTup fNil))) (fCall 4 F (fCons (fVar 0) (fCons (fBin gIx (fBin gIx (fVar 3) (fC (.int (-1)))) (fC (.int 0))) (fCons (fBin gIx (fBin gIx (fVar 3) (fC (.int (-1)))) (fC (.int 1))) (fCons (fVar 2) fNil))))) (fLst fNil))))
theorem v_chG {F : Fn} {h : Hs} {B : Nat} (hB : B ≤ 1000) {p : Ps} (ok : HsOk 3 3 h) (P : PsOk h B p) (m : Mu)
    (hF : ∀ (e a : Nat) (ls : List Ln) (l : Ln), h.es[e]? = some ls → ls[a]? = some l → l.opts.length ≤ 1000 → F [.d (eH h), .d (.int (e : Int)), .d (.int (a : Int)), .d (.int (p.s : Int))] m = .ok (.d (.list ((l.opts.zipIdx.filter fun q => hasI q.1.need (p.s : Int)).map fun q => .int (q.2 : Int)))) m) :
    fnF 4 (bCh F) [.d (eH h), .d (pD p)] m = .ok (.d (.list (nD (chS h p)))) m := by
  let r : Rh := [some (.d (eH h)), some (.d (pD p)), some (.d (.int (p.s : Int))), some (.d (kD p.k))]
  have p1 : fAsg (.tp [(.nm 2), (.nm 3)]) (fVar 1) (startR 4 [.d (eH h), .d (pD p)]) m = .next r m := rfl
  have hl := P.len
  have q1 := k_tb (k_bin (g := gNe) (fa := fVar 3) (fb := fTup fNil) (r := r) (b := .d (.tuple [])) (m2 := m) (k_var rfl) rfl (ne_nilK (k := p.k) (by omega) m))
  refine fnF_ret (k_then p1 (k_ret (k_ifE q1 ?_)))
  cases hk : p.k.isEmpty with
  | true =>
    rw [chS_nil (List.isEmpty_iff.mp hk)]
    rfl
  | false =>
    obtain ⟨k, q, e⟩ := snoc (ns := p.k) (fun z => by rw [z] at hk; cases hk)
    obtain ⟨ls, l, e1, e2, lok, e3⟩ := at_top ok P e
    rw [e3, nD_map]
    have l1 : fBin gIx (fVar 3) (fC (.int (-1))) r m = .ok (.d (qD q)) m := k_bin (a := .d (kD (k ++ [q]))) (m1 := m) (m2 := m) (by show R.ok (W.d (kD p.k)) m = _; rw [e]) rfl (last_k _ _ m)
    exact k_call4 (k_var rfl) (k_bin (m2 := m) l1 rfl tup0) (k_bin (m2 := m) l1 rfl tup1) (k_var rfl) (hF q.1 q.2 ls l e1 e2 (by have := lok.few; omega))
theorem v_choices_of {h : Hs} {B : Nat} (hB : B ≤ 1000) {p : Ps} (ok : HsOk 3 3 h) (P : PsOk h B p) (m : Mu) : f_choices_of [.d (eH h), .d (pD p)] m = .ok (.d (.list (nD (chS h p)))) m :=
  v_chG hB ok P m fun e a ls l e1 e2 hl => v_open e1 e2 hl m
/-! ### a step -/
def nextK (h : Hs) (k : List Sp) (q : Sp) (o : Opt) : List Sp := bif decide (0 ≤ o.side) then k ++ [(q.1, o.go.toNat)] ++ [(o.side.toNat, 0)] else settle h (k ++ [(q.1, o.go.toNat)])
def optAt (h : Hs) (q : Sp) (n : Nat) : Option Opt := (h.es[q.1]?).bind fun ls => (ls[q.2]?).bind fun l => l.opts[n]?
def stepS (h : Hs) (p : Ps) (n : Nat) : Ps := match p.k.getLast? with
  | some q => match optAt h q n with
    | some o => ⟨o.st.toNat, nextK h p.k.dropLast q o⟩
    | none => p
  | none => p
theorem step_at {h : Hs} {B : Nat} {p : Ps} (ok : HsOk 3 3 h) (P : PsOk h B p) {n : Nat} (hn : n ∈ chS h p) : ∃ k q ls l o, p.k = k ++ [q] ∧ h.es[q.1]? = some ls ∧ ls[q.2]? = some l ∧ l.opts[n]? = some o ∧ OptOk h.s h.es.length ls.length o ∧ stepS h p n = ⟨o.st.toNat, nextK h k q o⟩ ∧ n < 3 := by
  have hne : p.k ≠ [] := fun e => by rw [chS_nil e] at hn; cases hn
  obtain ⟨k, q, e⟩ := snoc hne
  obtain ⟨ls, l, e1, e2, lok, e3⟩ := at_top ok P e
  rw [e3] at hn
  obtain ⟨z, hz, rfl⟩ := List.mem_map.mp hn
  have hz1 := at_zipIdx (List.mem_filter.mp hz).1
  have hlt := lt_of_at hz1
  have := lok.few
  refine ⟨k, q, ls, l, z.1, e, e1, e2, hz1, lok.ok _ (List.mem_of_getElem? hz1), ?_, by omega⟩
  unfold stepS
  rw [e, List.getLast?_append, List.dropLast_concat]
  show (match optAt h q z.2 with | some o => (⟨o.st.toNat, nextK h k q o⟩ : Ps) | none => p) = _
  have : optAt h q z.2 = some z.1 := by
    unfold optAt
    rw [e1]
    show (ls[q.2]?).bind (fun l => l.opts[z.2]?) = _
    rw [e2]
    exact hz1
  rw [this]
theorem step_ok {h : Hs} {B : Nat} {p : Ps} (ok : HsOk 3 3 h) (P : PsOk h B p) {n : Nat} (hn : n ∈ chS h p) : PsOk h (B + 1) (stepS h p n) := by
  obtain ⟨k, q, ls, l, o, e, e1, e2, e3, oo, es, _⟩ := step_at ok P hn
  have hs := oo.side
  have ht := oo.st
  have hg := oo.go
  rw [es]
  have hlen : k.length + 1 ≤ B := by
    have := P.len
    rw [e, List.length_append, List.length_singleton] at this
    exact this
  have L1 : Lie h (k ++ [(q.1, o.go.toNat)]) := fun z hz => by
    rcases List.mem_append.mp hz with y | y
    · exact P.lie z (by rw [e]; exact List.mem_append_left _ y)
    · rw [List.mem_singleton.mp y]
      exact ⟨ls, e1, by show o.go.toNat ≤ ls.length; omega⟩
  unfold nextK
  by_cases c : 0 ≤ o.side
  · rw [decide_eq_true c]
    have hx : o.side.toNat < h.es.length := by omega
    have e4 : h.es[o.side.toNat]? = some h.es[o.side.toNat] := List.getElem?_eq_getElem hx
    refine ⟨by show ((o.st.toNat : Nat) : Int) < h.s; omega, ?_, fun z hz => ?_, fun k' q' e' => ?_⟩
    · show (k ++ [(q.1, o.go.toNat)] ++ [(o.side.toNat, 0)]).length ≤ B + 1
      simp
      omega
    · rcases List.mem_append.mp hz with y | y
      · exact L1 z y
      · rw [List.mem_singleton.mp y]
        exact ⟨_, e4, Nat.zero_le _⟩
    · have e' : k ++ [(q.1, o.go.toNat)] ++ [(o.side.toNat, 0)] = k' ++ [q'] := e'
      have := List.append_inj_right' e' rfl
      injection this with this _
      rw [← this]
      show 0 ≠ lens h o.side.toNat
      rw [len_es e4]
      have := List.length_pos_iff.mpr (ok.errand _ (List.getElem_mem hx)).1
      omega
  · rw [decide_eq_false c]
    refine ⟨by show ((o.st.toNat : Nat) : Int) < h.s; omega, ?_, settle_lie L1, fun k' q' e' => ?_⟩
    · have := settle_len h (k ++ [(q.1, o.go.toNat)])
      rw [List.length_append, List.length_singleton] at this
      show (settle h (k ++ [(q.1, o.go.toNat)])).length ≤ B + 1
      omega
    · have e' : settle h (k ++ [(q.1, o.go.toNat)]) = k' ++ [q'] := e'
      refine settleR_live h (k ++ [(q.1, o.go.toNat)]).reverse q' ?_
      have := congrArg List.reverse e'
      unfold settle at this
      rw [List.reverse_reverse] at this
      rw [this, List.reverse_append]
      rfl
theorem settle_side {h : Hs} (ok : HsOk 3 3 h) {k : List Sp} {b : Nat} (hb : b < h.es.length) : settle h (k ++ [(b, 0)]) = k ++ [(b, 0)] := by
  unfold settle
  rw [List.reverse_append]
  show (settleR h ((b, 0) :: k.reverse)).reverse = _
  rw [settleR]
  have e4 : h.es[b]? = some h.es[b] := List.getElem?_eq_getElem hb
  have : ((0 : Nat) == lens h b) = false := by
    rw [len_es e4, beq_eq_false_iff_ne]
    have := List.length_pos_iff.mpr (ok.errand _ (List.getElem_mem hb)).1
    omega
  rw [this]
  show ((b, 0) :: k.reverse).reverse = _
  rw [List.reverse_cons, List.reverse_reverse]
theorem add_k {k j : List Sp} (h : k.length + j.length ≤ 1000) (m : Mu) : gAdd (.d (kD k)) (.d (kD j)) m = .ok (.d (kD (k ++ j))) m := by
  rw [e_addT (by rw [List.length_map, List.length_map]; omega), ← List.map_append]
abbrev rSt (h : Hs) (p : Ps) (n : Nat) (k : List Sp) (q : Sp) (o : Opt) : Rh := [some (.d (eH h)), some (.d (pD p)), some (.d (.int (n : Int))), some (.d (.int (p.s : Int))), some (.d (kD k)), some (.d (.int (q.1 : Int))), some (.d (.int (q.2 : Int))), some (.d (.tuple (dI o.need))), some (.d (.int o.side)), some (.d (.int o.st)), some (.d (.int o.go))]
/-- how both steps begin -/
theorem step_beg {h : Hs} {p : Ps} {n : Nat} {k : List Sp} {q : Sp} {ls : List Ln} {l : Ln} {o : Opt} (e : p.k = k ++ [q]) (e1 : h.es[q.1]? = some ls) (e2 : ls[q.2]? = some l) (e3 : l.opts[n]? = some o) (hg : 0 ≤ o.go) (hk : k.length ≤ 900) {F : FS} {m : Mu} :
    (fThen (fAsg (.tp [(.nm 3), (.nm 4)]) (fVar 1)) (fThen (fAsg (.tp [(.nm 5), (.nm 6)]) (fBin gIx (fVar 4) (fC (.int (-1))))) (fThen (fAsg (.tp [(.nm 7), (.nm 8), (.nm 9), (.nm 10)]) (fBin gIx (fBin gIx (fBin gIx (fBin gIx (fBin gIx (fVar 0) (fC (.int 1))) (fVar 5)) (fVar 6)) (fC (.int 1))) (fVar 2)))
      (fThen (fSet 4 (fBin gAdd (fSl (fVar 4) fNoP (fPart (fC (.int (-1))))) (fTup (fCons (fTup (fCons (fVar 5) (fCons (fVar 10) fNil))) fNil)))) F)))) (startR 11 [.d (eH h), .d (pD p), .d (.int (n : Int))]) m = F (rSt h p n (k ++ [(q.1, o.go.toNat)]) q o) m := by
  let r1 : Rh := [some (.d (eH h)), some (.d (pD p)), some (.d (.int (n : Int))), some (.d (.int (p.s : Int))), some (.d (kD (k ++ [q]))), none, none, none, none, none, none]
  let r2 : Rh := [some (.d (eH h)), some (.d (pD p)), some (.d (.int (n : Int))), some (.d (.int (p.s : Int))), some (.d (kD (k ++ [q]))), some (.d (.int (q.1 : Int))), some (.d (.int (q.2 : Int))), none, none, none, none]
  have p1 : fAsg (.tp [(.nm 3), (.nm 4)]) (fVar 1) (startR 11 [.d (eH h), .d (pD p), .d (.int (n : Int))]) m = .next r1 m := by
    show SR.next ([some (.d (eH h)), some (.d (pD p)), some (.d (.int (n : Int))), some (.d (.int (p.s : Int))), some (.d (kD p.k)), none, none, none, none, none, none] : Rh) m = _
    rw [e]
  have l1 : fBin gIx (fVar 4) (fC (.int (-1))) r1 m = .ok (.d (qD q)) m := k_bin (m2 := m) (k_var rfl) rfl (last_k _ _ m)
  have p2 : fAsg (.tp [(.nm 5), (.nm 6)]) (fBin gIx (fVar 4) (fC (.int (-1)))) r1 m = .next r2 m := by
    unfold fAsg
    rw [l1, toS_ok]
    rfl
  obtain ⟨i1, i2, i3, i4, _⟩ := e_house e1 e2 m
  have i5 : gIx (.d (.tuple (l.opts.map eO))) (.d (.int (n : Int))) m = .ok (.d (eO o)) m := ix_tup (atN (by simp [e3]))
  have l3 : fBin gIx (fBin gIx (fBin gIx (fBin gIx (fBin gIx (fVar 0) (fC (.int 1))) (fVar 5)) (fVar 6)) (fC (.int 1))) (fVar 2) r2 m = .ok (.d (eO o)) m := k_bin (m2 := m) (k_bin (m2 := m) (k_bin (m2 := m) (k_bin (m2 := m) (k_bin (m2 := m) (k_var rfl) rfl i1) (k_var rfl) i2) (k_var rfl) i3) rfl i4) (k_var rfl) i5
  have p3 : fAsg (.tp [(.nm 7), (.nm 8), (.nm 9), (.nm 10)]) (fBin gIx (fBin gIx (fBin gIx (fBin gIx (fBin gIx (fVar 0) (fC (.int 1))) (fVar 5)) (fVar 6)) (fC (.int 1))) (fVar 2)) r2 m = .next (rSt h p n (k ++ [q]) q o) m := by
    unfold fAsg
    rw [l3, toS_ok]
    rfl
  have p4 : fSet 4 (fBin gAdd (fSl (fVar 4) fNoP (fPart (fC (.int (-1))))) (fTup (fCons (fTup (fCons (fVar 5) (fCons (fVar 10) fNil))) fNil))) (rSt h p n (k ++ [q]) q o) m = .next (rSt h p n (k ++ [(q.1, o.go.toNat)]) q o) m := by
    refine k_set (k_bin (a := .d (kD k)) (b := .d (kD [(q.1, o.go.toNat)])) (m1 := m) (m2 := m) ?_ ?_ (add_k (by simp; omega) m))
    · show R.ok (W.d (.tuple (cutA ((k ++ [q]).map qD) none (some (-1))))) m = _
      rw [List.map_append, List.map_singleton, cut_init]
    · show R.ok (W.d (.tuple [.tuple [.int (q.1 : Int), .int o.go]])) m = _
      have : o.go = ((o.go.toNat : Nat) : Int) := by omega
      rw [this]
      rfl
  exact k_then p1 (k_then p2 (k_then p3 (k_then p4 rfl)))
theorem v_step {h : Hs} {B : Nat} (hB : B ≤ 800) {p : Ps} (ok : HsOk 3 3 h) (P : PsOk h B p) {n : Nat} (hn : n ∈ chS h p) (m : Mu) : f_step [.d (eH h), .d (pD p), .d (.int (n : Int))] m = .ok (.d (pD (stepS h p n))) m := by
  obtain ⟨k, q, ls, l, o, e, e1, e2, e3, oo, es, _⟩ := step_at ok P hn
  have hs := oo.side
  have ht := oo.st
  have hg := oo.go
  have hlen : k.length + 1 ≤ B := by
    have := P.len
    rw [e, List.length_append, List.length_singleton] at this
    exact this
  have L1 : Lie h (k ++ [(q.1, o.go.toNat)]) := fun z hz => by
    rcases List.mem_append.mp hz with y | y
    · exact P.lie z (by rw [e]; exact List.mem_append_left _ y)
    · rw [List.mem_singleton.mp y]
      exact ⟨ls, e1, by show o.go.toNat ≤ ls.length; omega⟩
  rw [es]
  have est : o.st = ((o.st.toNat : Nat) : Int) := by omega
  refine fnF_ret ?_
  unfold b_step
  rw [step_beg e e1 e2 e3 hg.1 (by omega)]
  have cond : fTb (fBin (gO cGe) (fVar 8) (fC (.int 0))) (rSt h p n (k ++ [(q.1, o.go.toNat)]) q o) m = .ok (decide (0 ≤ o.side)) m := k_tb (k_bin (m2 := m) (k_var rfl) rfl e_ge)
  refine k_ret (Eq.trans (k_tup (m1 := m) (ws := [.d (.int o.st), .d (kD (nextK h k q o))]) (k_cons (k_var rfl) (k_cons ?_ k_nil)) (by simp)) ?_)
  · unfold nextK
    by_cases c : 0 ≤ o.side
    · rw [decide_eq_true c] at cond ⊢
      have es2 : o.side = ((o.side.toNat : Nat) : Int) := by omega
      have L2 : Lie h (k ++ [(q.1, o.go.toNat)] ++ [(o.side.toNat, 0)]) := fun z hz => by
        rcases List.mem_append.mp hz with y | y
        · exact L1 z y
        · rw [List.mem_singleton.mp y]
          exact ⟨_, List.getElem?_eq_getElem (by omega : o.side.toNat < h.es.length), Nat.zero_le _⟩
      have arg : fIf (fTb (fBin (gO cGe) (fVar 8) (fC (.int 0)))) (fBin gAdd (fVar 4) (fTup (fCons (fTup (fCons (fVar 8) (fCons (fC (.int 0)) fNil))) fNil))) (fVar 4) (rSt h p n (k ++ [(q.1, o.go.toNat)]) q o) m = .ok (.d (kD (k ++ [(q.1, o.go.toNat)] ++ [(o.side.toNat, 0)]))) m := by
        refine k_ifE cond (k_bin (a := .d (kD (k ++ [(q.1, o.go.toNat)]))) (b := .d (kD [(o.side.toNat, 0)])) (m1 := m) (m2 := m) (k_var rfl) ?_ (add_k (by simp; omega) m))
        show R.ok (W.d (.tuple [.tuple [.int o.side, .int 0]])) m = _
        rw [es2]
        rfl
      have := k_call2 (f1 := fVar 0) (r := rSt h p n (k ++ [(q.1, o.go.toNat)]) q o) (m := m) (m1 := m) (k_var rfl) arg (v_settled (by simp; omega) L2 m)
      rw [settle_side ok (by omega)] at this
      exact this
    · rw [decide_eq_false c] at cond ⊢
      have arg : fIf (fTb (fBin (gO cGe) (fVar 8) (fC (.int 0)))) (fBin gAdd (fVar 4) (fTup (fCons (fTup (fCons (fVar 8) (fCons (fC (.int 0)) fNil))) fNil))) (fVar 4) (rSt h p n (k ++ [(q.1, o.go.toNat)]) q o) m = .ok (.d (kD (k ++ [(q.1, o.go.toNat)]))) m := k_ifE cond rfl
      exact k_call2 (k_var rfl) arg (v_settled (by simp; omega) L1 m)
  · show R.ok (W.d (.tuple [.int o.st, kD (nextK h k q o)])) m = .ok (.d (.tuple [.int ((o.st.toNat : Nat) : Int), kD (nextK h k q o)])) m
    rw [← est]
end Wy
set_option Elab.async false
set_option linter.all false
set_option maxRecDepth 100000
set_option maxHeartbeats 4000000
/-! D2: days: fields, places, what is led. -/
namespace Wy
open PySem PySem.Spec PyProof.Rows L2 PySem.W
theorem nD_dI (ns : List Nat) : nD ns = dI (ns.map fun n : Nat => (n : Int)) := by
  unfold nD dI
  rw [List.map_map]
  rfl
theorem pIn_nD {x : PyData} (hx : SeqAt.shaped x = true) (ns : List Nat) : pIn x (.list (nD ns)) = some ((nD ns).any fun z => PyData.eqv z x) := by
  have hs : SeqAt.shaped (.list (nD ns)) = true := by rw [nD_dI]; exact shapedL _
  show (if (SeqAt.shaped x && SeqAt.shaped (.list (nD ns))) = true then some ((nD ns).any fun z => PyData.eqv z x) else none) = _
  rw [hs, if_pos (by rw [hx]; rfl)]
theorem notin_x {x : PyData} (hx : SeqAt.shaped x = true) {ns : List Nat} {m : Mu} : gNotIn (.d x) (.d (.list (nD ns))) m = .ok (.d (.bool (!((nD ns).any fun z => PyData.eqv z x)))) m := by
  show (match pIn x (.list (nD ns)) with | some k => kBl (!k) m | none => .bad) = _
  rw [pIn_nD hx]
theorem notin_nD {ns : List Nat} {n : Nat} (h : n ∈ ns) {m : Mu} : gNotIn (.d (.int (n : Int))) (.d (.list (nD ns))) m = .ok (.d (.bool false)) m := by
  rw [notin_x (shaped_int _)]
  have : ((nD ns).any fun z => PyData.eqv z (.int (n : Int))) = true := List.any_eq_true.mpr ⟨.int (n : Int), List.mem_map.mpr ⟨n, h, rfl⟩, by simp [PyData.eqv]⟩
  rw [this]
  rfl
/-! ### fields, methods -/
section
variable {m m1 m2 : Mu} {j n : Nat} {x f nm : Str} {fs : List (Str × PyData)} {fe fo fv : FE} {fa : FA} {r : Rh} {d : PyData} {F : Fn} {ws : List W} {X : R W}
theorem ins_at (h : m[j]? = some (.ins x fs)) : insAt m x (.loc j) = some (j, fs) := by
  show (match m[j]? with | some (.ins y fs) => if y = x then some (j, fs) else none | _ => none) = _
  rw [h]
  simp
theorem k_fld (he : fe r m = .ok (.loc j) m1) (h : m1[j]? = some (.ins x fs)) (hf : fs.lookup f = some d) : fFld x f fe r m = .ok (.d d) m1 := by
  unfold fFld
  rw [he, bind_ok, ins_at h]
  dsimp only
  rw [hf]
theorem k_setf (hv : fv r m = .ok (.d d) m1) (ho : fo r m1 = .ok (.loc j) m2) (h : m2[j]? = some (.ins x fs)) (hl : fs.length < 1000) : fSetF x f fo fv r m = .next r (m2.set j (.ins x (putS f d fs))) := by
  unfold fSetF
  rw [hv, toS_ok, ho, toS_ok, ins_at h]
  dsimp only
  rw [if_pos hl]
theorem k_mth (ho : fo r m = .ok (.loc j) m1) (h : m1[j]? = some (.ins x fs)) (hn : (fs.lookup nm).isNone = true) (ha : fa r m1 = .ok ws m2) (hl : ws.length + 1 = n) (hF : F (.loc j :: ws) m2 = X) : fMth x nm n F fo fa r m = X := by
  unfold fMth
  rw [ho, bind_ok, ins_at h]
  dsimp only
  rw [if_pos hn, ha, bind_ok, if_pos hl, hF]
theorem k_prop {w : W} (ho : fo r m = .ok (.loc j) m1) (h : m1[j]? = some (.ins x fs)) (hF : F [.loc j] m1 = .ok w m2) : fProp x F fo r m = .ok w m2 := by
  unfold fProp
  rw [ho, bind_ok, ins_at h]
  dsimp only
  rw [hF]
  rfl
end
/-! ### a day -/
/-- one step that was led: where, the option, the position behind it -/
structure Stp where
  q : Sp
  n : Nat
  p : Ps
def stD (t : Stp) : PyData := .tuple [.tuple [.int (t.q.1 : Int), .int (t.q.2 : Int), .int (t.n : Int)], pD t.p]
def rowsD (ts : List Stp) : PyData := .tuple (ts.map stD)
abbrev dayF (g f n p : PyData) : List (Str × PyData) := [("ground", g), ("first", f), ("now", n), ("past", p)]
abbrev dayO (g f n p : PyData) : Ob := .ins "Day" (dayF g f n p)
def curP (p0 : Ps) (ts : List Stp) : Ps := match ts.getLast? with
  | some t => t.p
  | none => p0
theorem cur_snoc (p0 : Ps) (ts : List Stp) (t : Stp) : curP p0 (ts ++ [t]) = t.p := by
  unfold curP
  rw [List.getLast?_append]
  rfl
theorem stD_tame {t : Stp} (h : t.p.k.length ≤ 1000) : tame 1000 5 (stD t) = true := tame_tup.mpr ⟨by simp, fun z hz => by
  rcases List.mem_cons.mp hz with e | hz
  · rw [e]
    exact tame_tup.mpr ⟨by simp, fun y hy => by
      simp only [List.mem_cons, List.not_mem_nil, or_false] at hy
      rcases hy with e | e | e <;> (rw [e]; exact tame_scal rfl)⟩
  · rw [List.mem_singleton.mp hz]
    exact tame_mono (Nat.le_refl _) (by decide) (pD_tame h)⟩
theorem rowsD_tame {ts : List Stp} (hl : ts.length ≤ 1000) (h : ∀ t ∈ ts, t.p.k.length ≤ 1000) : tame 1000 6 (rowsD ts) = true := tame_tup.mpr ⟨by rw [List.length_map]; exact hl, fun z hz => by
  obtain ⟨t, ht, rfl⟩ := List.mem_map.mp hz
  exact stD_tame (h t ht)⟩
theorem ne_rows {ts : List Stp} (hl : ts.length ≤ 1000) (h : ∀ t ∈ ts, t.p.k.length ≤ 1000) (m : Mu) : gNe (.d (rowsD ts)) (.d (.tuple [])) m = .ok (.d (.bool (!ts.isEmpty))) m := by
  show (if okEq (rowsD ts) (.tuple []) = true then kBl (!PyData.eqv (rowsD ts) (.tuple [])) m else .bad) = _
  rw [if_pos (by unfold okEq; rw [tame_shaped (rowsD_tame hl h) (by decide)]; rfl)]
  cases ts <;> rfl
theorem v_place {j : Nat} {p0 : Ps} {ts : List Stp} {g nw ps : PyData} {m : Mu} (h : m[j]? = some (dayO g (pD p0) nw ps)) (hl : ts.length ≤ 1000) (hk : ∀ t ∈ ts, t.p.k.length ≤ 1000) : f_Day_place [.loc j, .d (rowsD ts)] m = .ok (.d (pD (curP p0 ts))) m := by
  refine fnF_ret ?_
  unfold b_Day_place
  refine k_ret ?_
  have t1 : fTb (fBin gNe (fVar 1) (fTup fNil)) (startR 2 [.loc j, .d (rowsD ts)]) m = .ok (!ts.isEmpty) m := k_tb (k_bin (m2 := m) (k_var rfl) (k_tup (ws := []) k_nil (by simp)) (ne_rows hl hk m))
  unfold fIf
  rw [t1, bind_ok]
  cases ts with
  | nil => exact k_fld (m1 := m) (j := j) (k_var rfl) h rfl
  | cons t ts =>
    obtain ⟨xs, z, e⟩ := snoc (show t :: ts ≠ [] by simp)
    rw [e]
    rw [show (!(xs ++ [z]).isEmpty) = true by cases xs <;> rfl, if_pos rfl, cur_snoc]
    have a1 : fBin gIx (fVar 1) (fC (.int (-1))) (startR 2 [.loc j, .d (rowsD (xs ++ [z]))]) m = .ok (.d (stD z)) m := k_bin (m2 := m) (k_var rfl) rfl (ix_tup (by rw [List.map_append]; exact at_last))
    exact k_bin (m2 := m) a1 rfl tup1
end Wy
set_option Elab.async false
set_option linter.all false
set_option maxRecDepth 100000
set_option maxHeartbeats 4000000
/-! D3: a day is led. -/
namespace Wy
open PySem PySem.Spec PyProof.Rows L2 PySem.W
theorem q_or {f g : FT} {r : Rh} {m : Mu} {a b : Bool} (h1 : f r m = .ok a m) (h2 : a = false → g r m = .ok b m) : fOrT f g r m = .ok (a || b) m := by
  unfold fOrT
  rw [h1, bind_ok]
  cases a with
  | true => rfl
  | false => exact h2 rfl
theorem q_thenX {f g : FS} {r : Rh} {m m1 : Mu} {x : Xn} (h : f r m = .exn x m1) : fThen f g r m = .exn x m1 := by
  unfold fThen
  rw [h]
  rfl
theorem q_exn {n : Nat} {fs : FS} {ws : List W} {m m' : Mu} {x : Xn} (h : fs (startR n ws) m = .exn x m') (l : m'.length = m.length) : fnF n fs ws m = .exn x m' := by
  unfold fnF
  rw [h]
  show R.exn x (m'.take m.length) = _
  rw [← l, List.take_length]
theorem q_next {n : Nat} {fs : FS} {ws : List W} {m m' : Mu} {r : Rh} (h : fs (startR n ws) m = .next r m') (l : m'.length = m.length) : fnF n fs ws m = .ok (.d .none) m' := by
  unfold fnF
  rw [h]
  show R.ok (W.d .none) (m'.take m.length) = _
  rw [← l, List.take_length]
abbrev bLead : FS := (fThen (fSet 4 (fMth "Day" "place" 2 f_Day_place (fVar 0) (fCons (fVar 2) fNil)))
  (fThen (fIfS (fOrT (fNotT (fTb (fCall 3 f_is_within (fCons (fVar 3) (fCons (fC (.int 0)) (fCons (fC (.int 2)) fNil)))))) (fTb (fBin gNotIn (fVar 3) (fCall 2 f_choices_of (fCons (fFld "Day" "ground" (fVar 0)) (fCons (fVar 4) fNil)))))) (fRaise "InvalidOption") fNext)
  (fSet 2 (fBin gAdd (fVar 2) (fTup (fCons (fTup (fCons (fBin gAdd (fBin gIx (fBin gIx (fVar 4) (fC (.int 1))) (fC (.int (-1)))) (fTup (fCons (fVar 3) fNil))) (fCons (fCall 3 f_step (fCons (fFld "Day" "ground" (fVar 0)) (fCons (fVar 4) (fCons (fVar 3) fNil)))) fNil))) fNil))))))
abbrev rL (j : Nat) (run rows : PyData) (x3 x4 : Option W) : Rh := [some (.loc j), some (.d run), some (.d rows), x3, x4]
abbrev xOpt : Xn := ⟨"InvalidOption", none⟩
abbrev xMany : Xn := ⟨"TooMany", some ("limit", .int 100)⟩
/-- what is led, where all can be chosen -/
def leadR (h : Hs) (p0 : Ps) (ts : List Stp) : List Nat → Option (List Stp)
  | [] => some ts
  | n :: ns => bif decide (n ∈ chS h (curP p0 ts)) then (match (curP p0 ts).k.getLast? with
    | some q => leadR h p0 (ts ++ [⟨q, n, stepS h (curP p0 ts) n⟩]) ns
    | none => none) else none
/-- a day, as it stands -/
structure DayOk (h : Hs) (p0 : Ps) (B : Nat) (ts : List Stp) : Prop where
  ok : HsOk 3 3 h
  cur : PsOk h B (curP p0 ts)
  all : ∀ t ∈ ts, t.p.k.length ≤ B
section
variable {h : Hs} {p0 : Ps} {j : Nat} {nw ps run : PyData} {m : Mu} {x3 x4 : Option W}
theorem lead_one {B : Nat} {ts : List Stp} (hm : m[j]? = some (dayO (eH h) (pD p0) nw ps)) (D : DayOk h p0 B ts) (hB : B ≤ 700) (hl : ts.length ≤ 900) {n : Nat} (hn : n ∈ chS h (curP p0 ts)) {k : List Sp} {q : Sp} (hq : (curP p0 ts).k = k ++ [q]) :
    bLead (rL j run (rowsD ts) (some (.d (.int (n : Int)))) x4) m = .next (rL j run (rowsD (ts ++ [⟨q, n, stepS h (curP p0 ts) n⟩])) (some (.d (.int (n : Int)))) (some (.d (pD (curP p0 ts))))) m := by
  obtain ⟨_, _, _, _, _, _, _, _, _, _, _, n3⟩ := step_at D.ok D.cur hn
  have hlen := D.cur.len
  have vp := v_place (g := eH h) (m := m) hm (show ts.length ≤ 1000 by omega) fun t ht => by have := D.all t ht; omega
  refine k_then (r1 := rL j run (rowsD ts) (some (.d (.int (n : Int)))) (some (.d (pD (curP p0 ts))))) (m1 := m) (k_set (k_mth (k_var rfl) hm rfl (k_cons (k_var rfl) k_nil) rfl vp)) ?_
  have g1 : ∀ r : Rh, r[0]? = some (some (.loc j)) → fFld "Day" "ground" (fVar 0) r m = .ok (.d (eH h)) m := fun r hr => k_fld (k_var hr) hm rfl
  have t1 := k_not (k_tb (k_call3 (m3 := m) (k_var (i := 3) (r := rL j run (rowsD ts) (some (.d (.int (n : Int)))) (some (.d (pD (curP p0 ts))))) rfl) (f2 := fC (.int 0)) rfl (f3 := fC (.int 2)) rfl (v_is_within (n : Int) 0 2 m)))
  have t2 : fTb (fBin gNotIn (fVar 3) (fCall 2 f_choices_of (fCons (fFld "Day" "ground" (fVar 0)) (fCons (fVar 4) fNil)))) (rL j run (rowsD ts) (some (.d (.int (n : Int)))) (some (.d (pD (curP p0 ts))))) m = .ok false m :=
    k_tb (k_bin (m2 := m) (k_var rfl) (k_call2 (g1 _ rfl) (k_var rfl) (v_choices_of (by omega) D.ok D.cur m)) (notin_nD hn))
  have t3 := q_or t1 fun _ => t2
  rw [show ((!(decide ((0 : Int) ≤ (n : Int)) && decide ((n : Int) ≤ 2))) || false) = false by rw [decide_eq_true (by omega), decide_eq_true (by omega)]; rfl] at t3
  refine k_then (r1 := rL j run (rowsD ts) (some (.d (.int (n : Int)))) (some (.d (pD (curP p0 ts))))) (m1 := m) (k_if t3 rfl) ?_
  have a1 : fBin gIx (fBin gIx (fVar 4) (fC (.int 1))) (fC (.int (-1))) (rL j run (rowsD ts) (some (.d (.int (n : Int)))) (some (.d (pD (curP p0 ts))))) m = .ok (.d (qD q)) m := by
    have e1 : gIx (.d (pD (curP p0 ts))) (.d (.int 1)) m = .ok (.d (kD (k ++ [q]))) m := by
      rw [← hq]
      exact tup1
    exact k_bin (m2 := m) (k_bin (m2 := m) (k_var rfl) rfl e1) rfl (last_k k q m)
  have a2 : fTup (fCons (fVar 3) fNil) (rL j run (rowsD ts) (some (.d (.int (n : Int)))) (some (.d (pD (curP p0 ts))))) m = .ok (.d (.tuple [.int (n : Int)])) m := k_tup (ws := [.d (.int (n : Int))]) (k_cons (k_var rfl) k_nil) (by simp)
  have a3 := k_bin (g := gAdd) (m2 := m) a1 a2 (e_addT (xs := [.int (q.1 : Int), .int (q.2 : Int)]) (ys := [.int (n : Int)]) (by simp))
  have a4 := k_call3 (F := f_step) (m3 := m) (g1 (rL j run (rowsD ts) (some (.d (.int (n : Int)))) (some (.d (pD (curP p0 ts))))) rfl) (k_var (i := 4) rfl) (k_var (i := 3) rfl) (v_step (by omega) D.ok D.cur hn m)
  have a5 := k_tup (ws := [.d (.tuple [.int (q.1 : Int), .int (q.2 : Int), .int (n : Int)]), .d (pD (stepS h (curP p0 ts) n))]) (k_cons a3 (k_cons a4 k_nil)) (by simp)
  have a6 := k_tup (ws := [.d (stD ⟨q, n, stepS h (curP p0 ts) n⟩)]) (k_cons a5 k_nil) (by simp)
  have a7 := k_bin (g := gAdd) (fa := fVar 2) (m2 := m) (k_var (r := rL j run (rowsD ts) (some (.d (.int (n : Int)))) (some (.d (pD (curP p0 ts))))) rfl) a6 (e_addT (xs := ts.map stD) (ys := [stD ⟨q, n, stepS h (curP p0 ts) n⟩]) (by rw [List.length_map]; simp; omega))
  rw [k_set a7]
  unfold rowsD
  rw [List.map_append]
  rfl
theorem day_on {B : Nat} {ts : List Stp} (D : DayOk h p0 B ts) {n : Nat} (hn : n ∈ chS h (curP p0 ts)) (q : Sp) : DayOk h p0 (B + 1) (ts ++ [⟨q, n, stepS h (curP p0 ts) n⟩]) := by
  have P1 := step_ok D.ok D.cur hn
  refine ⟨D.ok, by rw [cur_snoc]; exact P1, fun t ht => ?_⟩
  rcases List.mem_append.mp ht with z | z
  · have := D.all t z; omega
  · rw [List.mem_singleton.mp z]; exact P1.len
theorem lead_go (hm : m[j]? = some (dayO (eH h) (pD p0) nw ps)) {rest : List W} : ∀ (ns : List Nat) (B : Nat) (ts ts' : List Stp) (x3 x4 : Option W), DayOk h p0 B ts → B + ns.length ≤ 700 → ts.length + ns.length ≤ 900 → leadR h p0 ts ns = some ts' →
    (∃ y3 y4, forF none (.nm 3) bLead ((ns.map fun n : Nat => W.d (.int (n : Int))) ++ rest) (rL j run (rowsD ts) x3 x4) m = forF none (.nm 3) bLead rest (rL j run (rowsD ts') y3 y4) m) ∧ DayOk h p0 (B + ns.length) ts' ∧ ts'.length = ts.length + ns.length
  | [], B, ts, ts', x3, x4, D, _, _, e => by
    cases e
    exact ⟨⟨x3, x4, rfl⟩, D, rfl⟩
  | n :: ns, B, ts, ts', x3, x4, D, hB, hl, e => by
    rw [List.length_cons] at hB hl
    rw [leadR] at e
    by_cases hn : n ∈ chS h (curP p0 ts)
    · rw [decide_eq_true hn] at e
      obtain ⟨k, q, _, _, _, hk, _⟩ := step_at D.ok D.cur hn
      have hq : (curP p0 ts).k.getLast? = some q := by rw [hk, List.getLast?_append]; rfl
      rw [hq] at e
      have e : leadR h p0 (ts ++ [⟨q, n, stepS h (curP p0 ts) n⟩]) ns = some ts' := e
      obtain ⟨⟨y3, y4, f⟩, D', l'⟩ := lead_go hm ns (B + 1) _ ts' (some (.d (.int (n : Int)))) (some (.d (pD (curP p0 ts)))) (day_on D hn q) (by omega) (by rw [List.length_append, List.length_singleton]; omega) e
      rw [List.length_append, List.length_singleton] at l'
      refine ⟨⟨y3, y4, ?_⟩, by rw [List.length_cons, show B + (ns.length + 1) = B + 1 + ns.length by omega]; exact D', by rw [l', List.length_cons]; omega⟩
      rw [List.map_cons, List.cons_append]
      exact (for_go rfl (lead_one hm D (by omega) (by omega) hn hk)).trans f
    · rw [decide_eq_false hn] at e
      cases e
/-- an option that can't be chosen there -/
def BadO (h : Hs) (p : Ps) (x : PyData) : Prop := (∀ m, f_is_within [.d x, .d (.int 0), .d (.int 2)] m = .ok (.d (.bool false)) m) ∨
  ((∀ m, f_is_within [.d x, .d (.int 0), .d (.int 2)] m = .ok (.d (.bool true)) m) ∧ SeqAt.shaped x = true ∧ ((nD (chS h p)).any fun z => PyData.eqv z x) = false)
theorem lead_bad {B : Nat} {ts : List Stp} (hm : m[j]? = some (dayO (eH h) (pD p0) nw ps)) (D : DayOk h p0 B ts) (hB : B ≤ 700) (hl : ts.length ≤ 900) {x : PyData} (hx : BadO h (curP p0 ts) x) :
    bLead (rL j run (rowsD ts) (some (.d x)) x4) m = .exn xOpt m := by
  have vp := v_place (g := eH h) (m := m) hm (show ts.length ≤ 1000 by omega) fun t ht => by have := D.all t ht; omega
  refine k_then (r1 := rL j run (rowsD ts) (some (.d x)) (some (.d (pD (curP p0 ts))))) (m1 := m) (k_set (k_mth (k_var rfl) hm rfl (k_cons (k_var rfl) k_nil) rfl vp)) (q_thenX ?_)
  have g1 : ∀ r : Rh, r[0]? = some (some (.loc j)) → fFld "Day" "ground" (fVar 0) r m = .ok (.d (eH h)) m := fun r hr => k_fld (k_var hr) hm rfl
  have wi : ∀ b, f_is_within [.d x, .d (.int 0), .d (.int 2)] m = .ok (.d (.bool b)) m → fNotT (fTb (fCall 3 f_is_within (fCons (fVar 3) (fCons (fC (.int 0)) (fCons (fC (.int 2)) fNil))))) (rL j run (rowsD ts) (some (.d x)) (some (.d (pD (curP p0 ts))))) m = .ok (!b) m := fun b e =>
    k_not (k_tb (k_call3 (m3 := m) (k_var (i := 3) rfl) (f2 := fC (.int 0)) rfl (f3 := fC (.int 2)) rfl e))
  rcases hx with hx | ⟨h1, h2, h3⟩
  · have t3 := q_or (g := fTb (fBin gNotIn (fVar 3) (fCall 2 f_choices_of (fCons (fFld "Day" "ground" (fVar 0)) (fCons (fVar 4) fNil))))) (b := true) (wi false (hx m)) fun z => (nomatch z)
    exact k_if t3 rfl
  · have t2 : fTb (fBin gNotIn (fVar 3) (fCall 2 f_choices_of (fCons (fFld "Day" "ground" (fVar 0)) (fCons (fVar 4) fNil)))) (rL j run (rowsD ts) (some (.d x)) (some (.d (pD (curP p0 ts))))) m = .ok true m := by
      have := notin_x h2 (ns := chS h (curP p0 ts)) (m := m)
      rw [h3] at this
      exact k_tb (k_bin (m2 := m) (k_var rfl) (k_call2 (g1 _ rfl) (k_var rfl) (v_choices_of (by omega) D.ok D.cur m)) this)
    exact k_if (q_or (wi true (h1 m)) fun _ => t2) rfl
/-! ### lead -/
end
end Wy
set_option Elab.async false
set_option linter.all false
set_option maxRecDepth 100000
set_option maxHeartbeats 4000000
/-! D4: lead, choose, +=, ==, len, undo. -/
namespace Wy
open PySem PySem.Spec PyProof.Rows L2 PySem.W
section
variable {h : Hs} {p0 : Ps} {j : Nat} {m : Mu} {pl : List PyData}
theorem set_at {α : Type} {m : List α} {j : Nat} {a b : α} (h : m[j]? = some a) : (m.set j b)[j]? = some b := List.getElem?_set_self (List.getElem?_eq_some_iff.mp h).1
theorem v_lead_ok {B : Nat} {ts ts' : List Stp} {ns : List Nat} (hm : m[j]? = some (dayO (eH h) (pD p0) (rowsD ts) (.tuple pl))) (D : DayOk h p0 B ts) (hB : B + ns.length ≤ 700) (hl : ts.length + ns.length ≤ 900) (hp : pl.length ≤ 1000) (e : leadR h p0 ts ns = some ts') :
    f_Day_lead [.loc j, .d (.tuple (ns.map fun n : Nat => PyData.int (n : Int)))] m = if 100 < ts'.length then .exn xMany m else .ok (.d .none) (m.set j (dayO (eH h) (pD p0) (rowsD ts') (.tuple (pl ++ [rowsD ts])))) := by
  obtain ⟨⟨y3, y4, f⟩, D', l'⟩ := lead_go (run := .tuple (ns.map fun n : Nat => PyData.int (n : Int))) (rest := []) hm ns B ts ts' none none D hB hl e
  rw [List.append_nil, for_end] at f
  let R (rows : PyData) (x3 x4 : Option W) : Rh := rL j (.tuple (ns.map fun n : Nat => PyData.int (n : Int))) rows x3 x4
  have p1 : fSet 2 (fFld "Day" "now" (fVar 0)) (startR 5 [.loc j, .d (.tuple (ns.map fun n : Nat => PyData.int (n : Int)))]) m = .next (R (rowsD ts) none none) m := k_set (k_fld (k_var rfl) hm rfl)
  have p2 : fFor (fSeq (fVar 1)) (.nm 3) bLead (R (rowsD ts) none none) m = .next (R (rowsD ts') y3 y4) m := by
    have sq : fSeq (fVar 1) (R (rowsD ts) none none) m = .ok ⟨ns.map fun n : Nat => W.d (.int (n : Int)), none⟩ m := by
      rw [e_seqT (k_var rfl), List.map_map]
      rfl
    exact k_for sq f
  have q1 : fTb (fBin (gO cGt) (fBi gLen (fCons (fVar 2) fNil)) (fC g_MOST_STEPS)) (R (rowsD ts') y3 y4) m = .ok (decide (100 < ts'.length)) m := by
    have a1 : fBi gLen (fCons (fVar 2) fNil) (R (rowsD ts') y3 y4) m = .ok (.d (.int ((ts'.map stD).length : Int))) m := k_len (k_var rfl)
    rw [List.length_map] at a1
    have a2 := k_tb (k_bin (g := gO cGt) (fb := fC g_MOST_STEPS) (b := .d (.int 100)) (m2 := m) a1 rfl (e_gt (m := m)))
    rw [a2]
    congr 1
    rw [decide_eq_decide]
    omega
  by_cases c : 100 < ts'.length
  · rw [if_pos c]
    rw [decide_eq_true c] at q1
    refine q_exn (m' := m) ?_ rfl
    unfold b_Day_lead
    exact k_then p1 (k_then p2 (q_thenX (k_if q1 rfl)))
  · rw [if_neg c]
    rw [decide_eq_false c] at q1
    have hm1 : (m.set j (.ins "Day" (putS "past" (.tuple (pl ++ [rowsD ts])) (dayF (eH h) (pD p0) (rowsD ts) (.tuple pl)))))[j]? = some (.ins "Day" (dayF (eH h) (pD p0) (rowsD ts) (.tuple (pl ++ [rowsD ts])))) := set_at hm
    refine q_next (r := R (rowsD ts') y3 y4) ?_ (by rw [List.length_set])
    unfold b_Day_lead
    refine k_then p1 (k_then p2 (k_then (k_if q1 rfl) (k_then (r1 := R (rowsD ts') y3 y4) (k_setf (d := .tuple (pl ++ [rowsD ts])) (m1 := m) (k_bin (m2 := m) (k_fld (k_var rfl) hm rfl) (k_tup (ws := [.d (rowsD ts)]) (k_cons (k_fld (k_var rfl) hm rfl) k_nil) (by simp)) (e_addT (by simp; omega))) (k_var rfl) hm (by show 4 < 1000; decide)) ?_)))
    rw [k_setf (d := rowsD ts') (k_var rfl) (k_var rfl) hm1 (by show 4 < 1000; decide), List.set_set]
    rfl
theorem v_lead_bad {B : Nat} {ts ts' : List Stp} {ns : List Nat} {x : PyData} {ds : List PyData} {ps : PyData} (hm : m[j]? = some (dayO (eH h) (pD p0) (rowsD ts) ps)) (D : DayOk h p0 B ts) (hB : B + ns.length ≤ 700) (hl : ts.length + ns.length ≤ 900) (e : leadR h p0 ts ns = some ts') (hx : BadO h (curP p0 ts') x) :
    f_Day_lead [.loc j, .d (.tuple ((ns.map fun n : Nat => PyData.int (n : Int)) ++ x :: ds))] m = .exn xOpt m := by
  obtain ⟨⟨y3, y4, f⟩, D', l'⟩ := lead_go (run := .tuple ((ns.map fun n : Nat => PyData.int (n : Int)) ++ x :: ds)) (rest := W.d x :: ds.map W.d) hm ns B ts ts' none none D hB hl e
  rw [for_stop (.inl ⟨_, _, rfl⟩) rfl (lead_bad hm D' hB (by omega) hx)] at f
  refine q_exn (m' := m) ?_ rfl
  unfold b_Day_lead
  refine k_then (r1 := rL j (.tuple ((ns.map fun n : Nat => PyData.int (n : Int)) ++ x :: ds)) (rowsD ts) none none) (m1 := m) (k_set (k_fld (k_var rfl) hm rfl)) (q_thenX ?_)
  have sq : fSeq (fVar 1) (rL j (.tuple ((ns.map fun n : Nat => PyData.int (n : Int)) ++ x :: ds)) (rowsD ts) none none) m = .ok ⟨(ns.map fun n : Nat => W.d (.int (n : Int))) ++ W.d x :: ds.map W.d, none⟩ m := by
    rw [e_seqT (k_var rfl), List.map_append, List.map_map]
    rfl
  exact k_for sq f
/-! ### the place -/
theorem v_state {B : Nat} {ts : List Stp} {ps : PyData} (hm : m[j]? = some (dayO (eH h) (pD p0) (rowsD ts) ps)) (D : DayOk h p0 B ts) (hB : B ≤ 700) (hl : ts.length ≤ 900) : f_Day_state [.loc j] m = .ok (.d (.int ((curP p0 ts).s : Int))) m := by
  have vp := v_place (g := eH h) (m := m) hm (show ts.length ≤ 1000 by omega) fun t ht => by have := D.all t ht; omega
  refine fnF_ret ?_
  unfold b_Day_state
  exact k_ret (k_bin (m2 := m) (k_mth (k_var rfl) hm rfl (k_cons (k_fld (k_var rfl) hm rfl) k_nil) rfl vp) rfl tup0)
theorem v_stack {B : Nat} {ts : List Stp} {ps : PyData} (hm : m[j]? = some (dayO (eH h) (pD p0) (rowsD ts) ps)) (D : DayOk h p0 B ts) (hB : B ≤ 700) (hl : ts.length ≤ 900) : f_Day_stack [.loc j] m = .ok (.d (kD (curP p0 ts).k)) m := by
  have vp := v_place (g := eH h) (m := m) hm (show ts.length ≤ 1000 by omega) fun t ht => by have := D.all t ht; omega
  refine fnF_ret ?_
  unfold b_Day_stack
  exact k_ret (k_bin (m2 := m) (k_mth (k_var rfl) hm rfl (k_cons (k_fld (k_var rfl) hm rfl) k_nil) rfl vp) rfl tup1)
theorem v_dlen {ts : List Stp} {g f ps : PyData} (hm : m[j]? = some (dayO g f (rowsD ts) ps)) : f_Day___len__ [.loc j] m = .ok (.d (.int (ts.length : Int))) m := by
  refine fnF_ret ?_
  unfold b_Day___len__
  have := k_len (f1 := fFld "Day" "now" (fVar 0)) (r := startR 1 [.loc j]) (m := m) (k_fld (k_var rfl) hm rfl)
  rw [List.length_map] at this
  exact k_ret this
/-! ### choose -/
theorem v_choose_ok {B : Nat} {ts ts' : List Stp} {n : Nat} (hm : m[j]? = some (dayO (eH h) (pD p0) (rowsD ts) (.tuple pl))) (D : DayOk h p0 B ts) (hB : B + 1 ≤ 700) (hl : ts.length + 1 ≤ 900) (hp : pl.length ≤ 1000) (e : leadR h p0 ts [n] = some ts') (c : ts'.length ≤ 100) :
    ∃ k : Int, f_Day_choose [.loc j, .d (.int (n : Int))] m = .ok (.d (.int k)) (m.set j (dayO (eH h) (pD p0) (rowsD ts') (.tuple (pl ++ [rowsD ts])))) := by
  have vl := v_lead_ok hm D (ns := [n]) hB hl hp e
  rw [if_neg (by omega)] at vl
  have hm' : (m.set j (dayO (eH h) (pD p0) (rowsD ts') (.tuple (pl ++ [rowsD ts]))))[j]? = some (dayO (eH h) (pD p0) (rowsD ts') (.tuple (pl ++ [rowsD ts]))) := set_at hm
  obtain ⟨_, D', l'⟩ := lead_go (run := .none) (rest := []) hm [n] B ts ts' none none D hB hl e
  have D' : DayOk h p0 (B + 1) ts' := D'
  have vp := v_place (g := eH h) hm' (show ts'.length ≤ 1000 by omega) fun t ht => by have := D'.all t ht; omega
  refine ⟨(((curP p0 ts').k.map qD).length : Int), fnF_retM ?_ (by rw [List.length_set])⟩
  unfold b_Day_choose
  refine k_then (r1 := startR 2 [.loc j, .d (.int (n : Int))]) ?_ (k_ret (k_len (k_bin (k_mth (k_var rfl) hm' rfl (k_cons (k_fld (k_var rfl) hm' rfl) k_nil) rfl vp) rfl tup1)))
  have call : fMth "Day" "lead" 2 f_Day_lead (fVar 0) (fCons (fTup (fCons (fVar 1) fNil)) fNil) (startR 2 [.loc j, .d (.int (n : Int))]) m = .ok (.d .none) (m.set j (dayO (eH h) (pD p0) (rowsD ts') (.tuple (pl ++ [rowsD ts])))) :=
    k_mth (ws := [.d (.tuple [.int (n : Int)])]) (m2 := m) (k_var rfl) hm rfl (k_cons (k_tup (ws := [.d (.int (n : Int))]) (k_cons (k_var rfl) k_nil) (by simp)) k_nil) rfl vl
  unfold fDrop
  rw [call]
  rfl
theorem v_choose_exn {x : PyData} {X : Xn} {g f nw ps : PyData} (hm : m[j]? = some (dayO g f nw ps)) (e : f_Day_lead [.loc j, .d (.tuple [x])] m = .exn X m) : f_Day_choose [.loc j, .d x] m = .exn X m := by
  refine q_exn (m' := m) ?_ rfl
  unfold b_Day_choose
  refine q_thenX ?_
  have call : fMth "Day" "lead" 2 f_Day_lead (fVar 0) (fCons (fTup (fCons (fVar 1) fNil)) fNil) (startR 2 [.loc j, .d x]) m = .exn X m :=
    k_mth (ws := [.d (.tuple [x])]) (m2 := m) (k_var rfl) hm rfl (k_cons (k_tup (ws := [.d x]) (k_cons (k_var rfl) k_nil) (by simp)) k_nil) rfl e
  unfold fDrop
  rw [call]
  rfl
/-! ### += and == -/
theorem v_iadd {ds : List PyData} {m' : Mu} {fs : List (Str × PyData)} (hm : m[j]? = some (.ins "Day" fs)) (hn : (fs.lookup ("lead" : Str)).isNone = true) (e : f_Day_lead [.loc j, .d (.tuple ds)] m = .ok (.d .none) m') (l : m'.length = m.length) : f_Day___iadd__ [.loc j, .d (.tuple ds)] m = .ok (.loc j) m' := by
  have hj : j < m.length := (List.getElem?_eq_some_iff.mp hm).1
  have call : fMth "Day" "lead" 2 f_Day_lead (fVar 0) (fCons (fVar 1) fNil) (startR 2 [.loc j, .d (.tuple ds)]) m = .ok (.d .none) m' := k_mth (ws := [.d (.tuple ds)]) (m2 := m) (k_var rfl) hm hn (k_cons (k_var rfl) k_nil) rfl e
  have all : b_Day___iadd__ (startR 2 [.loc j, .d (.tuple ds)]) m = .ret false (.loc j) m' := by
    unfold b_Day___iadd__
    refine k_then (r1 := startR 2 [.loc j, .d (.tuple ds)]) (m1 := m) rfl (k_then (r1 := startR 2 [.loc j, .d (.tuple ds)]) (m1 := m') ?_ rfl)
    unfold fDrop
    rw [call]
    rfl
  show fnF 2 b_Day___iadd__ _ _ = _
  unfold fnF
  rw [all]
  show (match frzW m.length m' (.loc j) with | some w' => R.ok w' (m'.take m.length) | none => .bad) = _
  have : frzW m.length m' (.loc j) = some (.loc j) := by
    unfold frzW
    rw [if_pos hj]
  rw [this, ← l, List.take_length]
theorem v_iadd_exn {ds : List PyData} {X : Xn} {fs : List (Str × PyData)} (hm : m[j]? = some (.ins "Day" fs)) (hn : (fs.lookup ("lead" : Str)).isNone = true) (e : f_Day_lead [.loc j, .d (.tuple ds)] m = .exn X m) : f_Day___iadd__ [.loc j, .d (.tuple ds)] m = .exn X m := by
  have call : fMth "Day" "lead" 2 f_Day_lead (fVar 0) (fCons (fVar 1) fNil) (startR 2 [.loc j, .d (.tuple ds)]) m = .exn X m := k_mth (ws := [.d (.tuple ds)]) (m2 := m) (k_var rfl) hm hn (k_cons (k_var rfl) k_nil) rfl e
  refine q_exn (m' := m) ?_ rfl
  unfold b_Day___iadd__
  refine k_then (r1 := startR 2 [.loc j, .d (.tuple ds)]) (m1 := m) rfl (q_thenX ?_)
  unfold fDrop
  rw [call]
  rfl
theorem v_iadd_none {g : Option Ob} : f_Day___iadd__ [.loc j, .d .none] m = .exn xOpt m := by
  refine q_exn (m' := m) ?_ rfl
  unfold b_Day___iadd__
  exact q_thenX rfl
end
end Wy
set_option Elab.async false
set_option linter.all false
set_option maxRecDepth 100000
set_option maxHeartbeats 4000000
/-! D5: ==, led on, undo. -/
namespace Wy
open PySem PySem.Spec PyProof.Rows L2 PySem.W
theorem eq_self {x : PyData} {n : Nat} (h : tame 1000 n x = true) (hn : n ≤ 60) (m : Mu) : gEq (.d x) (.d x) m = .ok (.d (.bool true)) m := by
  have hs := tame_shaped h hn
  show (if okEq x x = true then kBl (PyData.eqv x x) m else .bad) = _
  rw [if_pos (by unfold okEq; rw [hs]; rfl), SeqAt.eqv_refl x (tame_lay h).1]
theorem k_augO {i : Nat} {g : W → W → Mu → R W} {fe : FE} {r : Rh} {w y : W} {m m1 : Mu} (hi : r[i]? = some (some w)) (he : fe r m = .ok y m1) : fAugO i g fe r m = (g w y m1).toS fun z m2 => .next (r.set i (some z)) m2 := by
  unfold fAugO
  rw [hi]
  dsimp only
  rw [he, toS_ok]
section
variable {h : Hs} {p0 : Ps} {j : Nat} {m : Mu} {pl : List PyData}
theorem v_deq {B : Nat} {ts : List Stp} {ps : PyData} (hT : tame 1000 8 (eH h) = true) (hm : m[j]? = some (dayO (eH h) (pD p0) (rowsD ts) ps)) (D : DayOk h p0 B ts) (hB : B ≤ 700) (hl : ts.length ≤ 900) : f_Day___eq__ [.loc j, .loc j] m = .ok (.d (.bool true)) m := by
  have v1 := v_state hm D hB hl
  have v2 := v_stack hm D hB hl
  refine fnF_ret ?_
  unfold b_Day___eq__
  have p1 : fIfS (fNotT (fTb (fIsO "Day" (fVar 1)))) (fun _ _ => .bad) fNext (startR 2 [.loc j, .loc j]) m = .next (startR 2 [.loc j, .loc j]) m := by
    have e : fIsO "Day" (fVar 1) (startR 2 [.loc j, .loc j]) m = .ok (.d (.bool true)) m := by
      unfold fIsO
      rw [k_var (w := .loc j) rfl, bind_ok, ins_at hm]
    exact k_if (k_not (k_tb e)) rfl
  have t : ∀ i : Nat, (startR 2 [.loc j, .loc j])[i]? = some (some (.loc j)) → fTup (fCons (fFld "Day" "ground" (fVar i)) (fCons (fProp "Day" f_Day_state (fVar i)) (fCons (fProp "Day" f_Day_stack (fVar i)) fNil))) (startR 2 [.loc j, .loc j]) m = .ok (.d (.tuple [eH h, .int ((curP p0 ts).s : Int), kD (curP p0 ts).k])) m := fun i hi =>
    k_tup (ws := [.d (eH h), .d (.int ((curP p0 ts).s : Int)), .d (kD (curP p0 ts).k)]) (k_cons (k_fld (k_var hi) hm rfl) (k_cons (k_prop (k_var hi) hm v1) (k_cons (k_prop (k_var hi) hm v2) k_nil))) (by simp)
  have hk := D.cur.len
  refine k_then p1 (k_ret (k_bin (m2 := m) (t 0 rfl) (t 1 rfl) (eq_self (n := 9) (tame_tup.mpr ⟨by simp, fun z hz => ?_⟩) (by decide) m)))
  simp only [List.mem_cons, List.not_mem_nil, or_false] at hz
  rcases hz with e | e | e
  · rw [e]; exact hT
  · rw [e]; exact tame_scal rfl
  · rw [e]; exact tame_mono (Nat.le_refl _) (by decide) (kD_tame (by omega))
theorem v_led_ok {B : Nat} {ts ts' : List Stp} {ns : List Nat} (hT : tame 1000 8 (eH h) = true) (hm : m[j]? = some (dayO (eH h) (pD p0) (rowsD ts) (.tuple pl))) (D : DayOk h p0 B ts) (hB : B + ns.length ≤ 700) (hl : ts.length + ns.length ≤ 900) (hp : pl.length ≤ 1000) (e : leadR h p0 ts ns = some ts') (c : ts'.length ≤ 100) :
    f__law_led_on [.loc j, .d (.tuple (ns.map fun n : Nat => PyData.int (n : Int)))] m = .ok (.d (.bool true)) (m.set j (dayO (eH h) (pD p0) (rowsD ts') (.tuple (pl ++ [rowsD ts])))) := by
  have vl := v_lead_ok hm D hB hl hp e
  rw [if_neg (by omega)] at vl
  obtain ⟨_, D', l'⟩ := lead_go (run := .none) (rest := []) hm ns B ts ts' none none D hB hl e
  have hm' : (m.set j (dayO (eH h) (pD p0) (rowsD ts') (.tuple (pl ++ [rowsD ts]))))[j]? = some (dayO (eH h) (pD p0) (rowsD ts') (.tuple (pl ++ [rowsD ts]))) := set_at hm
  have vi := v_iadd hm rfl vl (by rw [List.length_set])
  have ve := v_deq hT hm' D' (by omega) (by omega)
  refine fnF_retM ?_ (by rw [List.length_set])
  unfold b__law_led_on
  refine k_then (r1 := [some (.loc j), some (.d (.tuple (ns.map fun n : Nat => PyData.int (n : Int)))), some (.loc j)]) (m1 := m) (k_set (k_var rfl)) ?_
  refine k_then (r1 := [some (.loc j), some (.d (.tuple (ns.map fun n : Nat => PyData.int (n : Int)))), some (.loc j)]) (m1 := m.set j (dayO (eH h) (pD p0) (rowsD ts') (.tuple (pl ++ [rowsD ts])))) ?_ (k_ret (k_bin (a := .loc j) (b := .loc j) (k_var rfl) (k_var rfl) ?_))
  · rw [k_augO (w := .loc j) (y := .d (.tuple (ns.map fun n : Nat => PyData.int (n : Int)))) rfl (k_var rfl)]
    unfold gOwn
    rw [ins_at hm]
    dsimp only
    rw [vi, toS_ok]
    rfl
  · unfold gEqO
    rw [ins_at hm']
    exact ve
theorem v_led_exn {y : W} {X : Xn} {fs : List (Str × PyData)} (hm : m[j]? = some (.ins "Day" fs)) (e : f_Day___iadd__ [.loc j, y] m = .exn X m) : f__law_led_on [.loc j, y] m = .exn X m := by
  refine q_exn (m' := m) ?_ rfl
  unfold b__law_led_on
  refine k_then (r1 := [some (.loc j), some y, some (.loc j)]) (m1 := m) (k_set (k_var rfl)) (q_thenX ?_)
  rw [k_augO (w := .loc j) (y := y) rfl (k_var rfl)]
  unfold gOwn
  rw [ins_at hm]
  dsimp only
  rw [e]
  rfl
/-! ### undo -/
abbrev xUndo : Xn := ⟨"NothingToUndo", none⟩
theorem v_undo {g f nw x : PyData} (hs : SeqAt.shaped (.tuple (pl ++ [x])) = true) (hm : m[j]? = some (dayO g f nw (.tuple (pl ++ [x])))) : f_Day_undo [.loc j] m = .ok (.d .none) (m.set j (dayO g f x (.tuple pl))) := by
  have q1 : fTb (fBin gEq (fFld "Day" "past" (fVar 0)) (fTup fNil)) (startR 1 [.loc j]) m = .ok false m := by
    refine k_tb (k_bin (m2 := m) (k_fld (k_var rfl) hm rfl) (k_tup (ws := []) k_nil (by simp)) ?_)
    show (if okEq (.tuple (pl ++ [x])) (.tuple []) = true then kBl (PyData.eqv (.tuple (pl ++ [x])) (.tuple [])) m else .bad) = _
    rw [if_pos (by unfold okEq; rw [hs]; rfl)]
    cases pl <;> rfl
  have hm1 : (m.set j (.ins "Day" (putS "now" x (dayF g f nw (.tuple (pl ++ [x]))))))[j]? = some (.ins "Day" (dayF g f x (.tuple (pl ++ [x])))) := set_at hm
  refine q_next (r := startR 1 [.loc j]) ?_ (by rw [List.length_set])
  unfold b_Day_undo
  refine k_then (r1 := startR 1 [.loc j]) (m1 := m) (k_if q1 rfl) (k_then (r1 := startR 1 [.loc j]) (k_setf (d := x) (m1 := m) (k_bin (m2 := m) (k_fld (k_var rfl) hm rfl) rfl (ix_tup at_last)) (k_var rfl) hm (by show 4 < 1000; decide)) ?_)
  have sl : fSl (fFld "Day" "past" (fVar 0)) fNoP (fPart (fC (.int (-1)))) (startR 1 [.loc j]) (m.set j (.ins "Day" (putS "now" x (dayF g f nw (.tuple (pl ++ [x])))))) = .ok (.d (.tuple pl)) (m.set j (.ins "Day" (putS "now" x (dayF g f nw (.tuple (pl ++ [x])))))) := by
    unfold fSl
    rw [k_fld (k_var rfl) hm1 rfl, bind_ok]
    show R.ok (W.d (.tuple (cutA (pl ++ [x]) none (some (-1))))) _ = _
    rw [cut_init]
  rw [k_setf (d := .tuple pl) sl (k_var rfl) hm1 (by show 4 < 1000; decide), List.set_set]
  rfl
theorem v_undo_none {g f nw : PyData} (hm : m[j]? = some (dayO g f nw (.tuple []))) : f_Day_undo [.loc j] m = .exn xUndo m := by
  have q1 : fTb (fBin gEq (fFld "Day" "past" (fVar 0)) (fTup fNil)) (startR 1 [.loc j]) m = .ok true m := k_tb (k_bin (m2 := m) (k_fld (k_var rfl) hm rfl) (k_tup (ws := []) k_nil (by simp)) rfl)
  refine q_exn (m' := m) ?_ rfl
  unfold b_Day_undo
  exact q_thenX (k_if q1 rfl)
end
end Wy
set_option Elab.async false
set_option linter.all false
set_option maxRecDepth 100000
set_option maxHeartbeats 4000000
/-! D6: days made, days refused. -/
namespace Wy
open PySem PySem.Spec PyProof.Rows L2 PySem.W
section
variable {x : Str} {n : Nat} {F : Fn} {fa : FA} {r : Rh} {m m1 m2 : Mu} {ws : List W} {X : Xn}
theorem k_make (ha : fa r m = .ok ws m1) (hl : ws.length + 1 = n) (hF : F (.loc m1.length :: ws) (m1 ++ [.ins x []]) = .ok (.d .none) m2) : fMake x n F fa r m = .ok (.loc m1.length) m2 := by
  unfold fMake
  rw [ha, bind_ok, if_pos hl, hF]
  rfl
theorem k_makeX (ha : fa r m = .ok ws m1) (hl : ws.length + 1 = n) (hF : F (.loc m1.length :: ws) (m1 ++ [.ins x []]) = .exn X m2) : fMake x n F fa r m = .exn X m2 := by
  unfold fMake
  rw [ha, bind_ok, if_pos hl, hF]
  rfl
theorem k_dropN {f : FE} {w : W} (h : f r m = .ok w m1) : fDrop f r m = .next r m1 := by
  unfold fDrop
  rw [h]
  rfl
theorem q_dropX {f : FE} (h : f r m = .exn X m1) : fDrop f r m = .exn X m1 := by
  unfold fDrop
  rw [h]
  rfl
end
theorem at_end {α : Type} (m : List α) (a : α) : (m ++ [a])[m.length]? = some a := by simp
theorem set_end {α : Type} (m : List α) (a b : α) : (m ++ [a]).set m.length b = m ++ [b] := by simp
section
variable {h : Hs} {m : Mu}
theorem v_init {e s : Nat} (ok : HsOk 3 3 h) (he : e < h.es.length) (hs : (s : Int) < h.s) : f_Day___init__ [.loc m.length, .d (eH h), .d (.int (e : Int)), .d (.int (s : Int))] (m ++ [.ins "Day" []]) = .ok (.d .none) (m ++ [dayO (eH h) (pD ⟨s, [(e, 0)]⟩) (rowsD []) (.tuple [])]) := by
  have nb := v_need_begin ok (e := (e : Int)) (s := (s : Int)) ⟨by omega, by omega⟩ ⟨by omega, hs⟩ (m ++ [.ins "Day" []])
  let R : Rh := startR 4 [.loc m.length, .d (eH h), .d (.int (e : Int)), .d (.int (s : Int))]
  have c0 : fDrop (fCall 3 f_need_begin (fCons (fVar 1) (fCons (fVar 2) (fCons (fVar 3) fNil)))) R (m ++ [.ins "Day" []]) = .next R (m ++ [.ins "Day" []]) := k_dropN (k_call3 (k_var rfl) (k_var rfl) (k_var rfl) nb)
  have lt : ∀ l : List (Str × PyData), l.length ≤ 4 → l.length < 1000 := fun l h => by omega
  have c1 : fSetF "Day" "ground" (fVar 0) (fVar 1) R (m ++ [.ins "Day" []]) = .next R (m ++ [.ins "Day" [("ground", eH h)]]) := by
    rw [k_setf (d := eH h) (k_var rfl) (k_var rfl) (at_end m _) (lt _ (by decide)), set_end]
    rfl
  have c2 : fSetF "Day" "first" (fVar 0) (fTup (fCons (fVar 3) (fCons (fTup (fCons (fTup (fCons (fVar 2) (fCons (fC (.int 0)) fNil))) fNil)) fNil))) R (m ++ [.ins "Day" [("ground", eH h)]]) = .next R (m ++ [.ins "Day" [("ground", eH h), ("first", pD ⟨s, [(e, 0)]⟩)]]) := by
    rw [k_setf (d := pD ⟨s, [(e, 0)]⟩) (m1 := m ++ [.ins "Day" [("ground", eH h)]]) rfl (k_var rfl) (at_end m _) (lt _ (by show 1 ≤ 4; decide)), set_end]
    rfl
  have c3 : fSetF "Day" "now" (fVar 0) (fTup fNil) R (m ++ [.ins "Day" [("ground", eH h), ("first", pD ⟨s, [(e, 0)]⟩)]]) = .next R (m ++ [.ins "Day" [("ground", eH h), ("first", pD ⟨s, [(e, 0)]⟩), ("now", .tuple [])]]) := by
    rw [k_setf (d := .tuple []) (m1 := m ++ [.ins "Day" [("ground", eH h), ("first", pD ⟨s, [(e, 0)]⟩)]]) rfl (k_var rfl) (at_end m _) (lt _ (by show 2 ≤ 4; decide)), set_end]
    rfl
  have c4 : fSetF "Day" "past" (fVar 0) (fTup fNil) R (m ++ [.ins "Day" [("ground", eH h), ("first", pD ⟨s, [(e, 0)]⟩), ("now", .tuple [])]]) = .next R (m ++ [dayO (eH h) (pD ⟨s, [(e, 0)]⟩) (rowsD []) (.tuple [])]) := by
    rw [k_setf (d := .tuple []) (m1 := m ++ [.ins "Day" [("ground", eH h), ("first", pD ⟨s, [(e, 0)]⟩), ("now", .tuple [])]]) rfl (k_var rfl) (at_end m _) (lt _ (by show 3 ≤ 4; decide)), set_end]
    rfl
  exact q_next (k_then c0 (k_then c1 (k_then c2 (k_then c3 c4)))) (by simp)
theorem v_initX {w1 w2 w3 : W} {X : Xn} {w : W} (e : ∀ m, f_need_begin [w1, w2, w3] m = .exn X m) : f_Day___init__ [w, w1, w2, w3] m = .exn X m :=
  q_exn (q_thenX (q_dropX (k_call3 (k_var rfl) (k_var rfl) (k_var rfl) (e m)))) rfl
/-! ### what is refused -/
abbrev xHou : Xn := ⟨"InvalidHouse", none⟩
abbrev xErr : Xn := ⟨"InvalidErrand", none⟩
abbrev xSta : Xn := ⟨"InvalidState", none⟩
theorem errand_bad {d : PyData} (ok : HsOk 3 3 h) (hd : nd1 d = true) (hw : isW 0 ((h.es.length : Int) - 1) d = false) (m : Mu) : f_need_errand [.d (eH h), .d d] m = .exn xErr m := by
  have l1 : fBin gSub (fBi gLen (fCons (fBin gIx (fVar 0) (fC (.int 1))) fNil)) (fC (.int 1)) (startR 2 [.d (eH h), .d d]) m = .ok (.d (.int ((h.es.length : Int) - 1))) m := by
    refine k_bin (a := .d (.int (h.es.length : Int))) (m1 := m) (m2 := m) (k_bi1 (k_bin (m2 := m) (k_var rfl) rfl (show gIx (.d (eH h)) (.d (.int 1)) m = .ok (.d (.tuple (h.es.map eE))) m from tup1)) ?_) rfl e_sub
    rw [len_tup, List.length_map]
  have q := k_tb (k_call3 (k_var (i := 1) (r := startR 2 [.d (eH h), .d d]) rfl) (f2 := fC (.int 0)) (m2 := m) rfl l1 (w_within hd 0 ((h.es.length : Int) - 1) m))
  rw [hw] at q
  exact q_exn (k_if (k_not q) rfl) rfl
theorem begin_err {d : PyData} {w : W} (ok : HsOk 3 3 h) (hd : nd1 d = true) (hw : isW 0 ((h.es.length : Int) - 1) d = false) (m : Mu) : f_need_begin [.d (eH h), .d d, w] m = .exn xErr m :=
  q_exn (k_then (k_dropN (k_call1 (k_var (r := startR 3 [.d (eH h), .d d, w]) rfl) (v_need_house ok m))) (q_thenX (q_dropX (k_call2 (k_var rfl) (k_var rfl) (errand_bad ok hd hw m))))) rfl
theorem begin_sta {d : PyData} (ok : HsOk 3 3 h) (hd : nd1 d = true) (hw : isW 0 (h.s - 1) d = false) (m : Mu) : f_need_begin [.d (eH h), .d (.int 0), .d d] m = .exn xSta m := by
  have hn := List.length_pos_iff.mpr ok.ne
  have l1 : fBin gSub (fBin gIx (fVar 0) (fC (.int 0))) (fC (.int 1)) (startR 3 [.d (eH h), .d (.int 0), .d d]) m = .ok (.d (.int (h.s - 1))) m := k_bin (m2 := m) (k_bin (m2 := m) (k_var rfl) rfl (show gIx (.d (eH h)) (.d (.int 0)) m = .ok (.d (.int h.s)) m from tup0)) rfl e_sub
  have q := k_tb (k_call3 (k_var (i := 2) (r := startR 3 [.d (eH h), .d (.int 0), .d d]) rfl) (f2 := fC (.int 0)) (m2 := m) rfl l1 (w_within hd 0 (h.s - 1) m))
  rw [hw] at q
  exact q_exn (k_then (k_dropN (k_call1 (k_var (r := startR 3 [.d (eH h), .d (.int 0), .d d]) rfl) (v_need_house ok m))) (k_then (k_dropN (k_call2 (k_var rfl) (k_var rfl) (v_need_errand ok (e := 0) ⟨by decide, by omega⟩ m))) (k_if (k_not q) rfl))) rfl
/-- what is no house at once: no tuple of two -/
theorem begin_hou {d : PyData} {w1 w2 : W} (hd : nd1 d = true) (hw : hasT 2 2 d = false) (m : Mu) : f_need_begin [.d d, w1, w2] m = .exn xHou m := by
  have q : f_has_items [.d d, .d (.int 2), .d (.int 2)] m = .ok (.d (.bool false)) m := by rw [w_has hd, hw]
  have v : f_is_house_value [.d d] m = .ok (.d (.bool false)) m := by
    refine fnF_ret ?_
    unfold b_is_house_value
    have t := k_not (k_tb (k_call3 (m3 := m) (k_var (i := 0) (r := startR 5 [.d d]) rfl) (f2 := fC (.int 2)) rfl (f3 := fC (.int 2)) rfl q))
    exact k_thenR (k_if (q_or (b := true) t fun z => nomatch z) rfl)
  have n : f_need_house [.d d] m = .exn xHou m := q_exn (k_if (k_not (k_tb (k_call1 (k_var (r := startR 1 [.d d]) rfl) v))) rfl) rfl
  exact q_exn (q_thenX (q_dropX (k_call1 (k_var rfl) n))) rfl
end
end Wy
set_option Elab.async false
set_option linter.all false
set_option maxRecDepth 100000
set_option maxHeartbeats 4000000
/-! M41: values that the kernel counts. -/
namespace Wy
open PySem PySem.Spec PyProof.Rows L2 PySem.W
mutual
def pdEq : PyData → PyData → Bool
  | .none, .none => true
  | .bool a, .bool b => a == b
  | .int a, .int b => a == b
  | .str a, .str b => a == b
  | .list a, .list b => pdEqs a b
  | .tuple a, .tuple b => pdEqs a b
  | _, _ => false
def pdEqs : List PyData → List PyData → Bool
  | [], [] => true
  | x :: xs, y :: ys => pdEq x y && pdEqs xs ys
  | _, _ => false
end
mutual
theorem pdEq_eq : ∀ {a b : PyData}, pdEq a b = true → a = b
  | .none, b, h => by cases b <;> simp_all [pdEq]
  | .bool x, b, h => by cases b <;> simp_all [pdEq]
  | .int x, b, h => by cases b <;> simp_all [pdEq]
  | .str x, b, h => by cases b <;> simp_all [pdEq]
  | .list x, b, h => by
    cases b with
    | list y => rw [pdEqs_eq (show pdEqs x y = true from h)]
    | _ => simp [pdEq] at h
  | .tuple x, b, h => by
    cases b with
    | tuple y => rw [pdEqs_eq (show pdEqs x y = true from h)]
    | _ => simp [pdEq] at h
  | .dict x, b, h => by cases b <;> simp [pdEq] at h
theorem pdEqs_eq : ∀ {a b : List PyData}, pdEqs a b = true → a = b
  | [], b, h => by cases b <;> simp_all [pdEqs]
  | x :: xs, b, h => by
    cases b with
    | nil => simp [pdEqs] at h
    | cons y ys =>
      rw [pdEqs, Bool.and_eq_true] at h
      rw [pdEq_eq h.1, pdEqs_eq h.2]
end
end Wy
set_option Elab.async false
set_option linter.all false
set_option maxRecDepth 100000
set_option maxHeartbeats 4000000
/-! D7: the house of a round. -/
namespace Wy
open PySem PySem.Spec PyProof.Rows L2 PySem.W
def ev (s : Nat) : List Int := (List.range s).map fun i : Nat => (i : Int)
def O1 (s l : Nat) : Opt := ⟨ev s, -1, (l : Int), 0⟩
def O2 (s : Nat) : Opt := ⟨ev s, -1, 0, 1⟩
def opsR (s l : Nat) : List Opt := if l = 0 then [O1 s l, O2 s] else [O2 s, O1 s l]
def Hr (s : Nat) (b : Bool) (l : Nat) : Hs := ⟨(s : Int), [[⟨b, opsR s l⟩]]⟩
def doneR (l : Nat) : Nat := if l = 0 then 1 else 0
def agR (l : Nat) : Nat := if l = 0 then 0 else 1
/-- a round's numbers -/
structure Rn (s l i : Nat) : Prop where
  hs : s = 2 ∨ s = 3
  hl : l < s
  hi : i < s
section
variable {s l i : Nat} {b : Bool}
theorem rn_all {P : Nat → Nat → Nat → Prop} (N : Rn s l i) (h : ∀ s ∈ [2, 3], ∀ l ∈ List.range s, ∀ i ∈ List.range s, P s l i) : P s l i :=
  h s (by rcases N.hs with e | e <;> simp [e]) l (List.mem_range.mpr N.hl) i (List.mem_range.mpr N.hi)
theorem hr_ok (N : Rn s l i) : HsOk 3 3 (Hr s b l) := by
  have hs := N.hs
  have wish : Wish (s : Int) (ev s) := by
    have := wish_all (k := (s : Int)) (by omega)
    rwa [Int.toNat_natCast] at this
  refine ⟨by show 2 ≤ (s : Int) ∧ (s : Int) ≤ 3; omega, by simp [Hr], by simp [Hr], fun ls hl => ?_⟩
  have e : ls = [⟨b, opsR s l⟩] := by simpa [Hr] using hl
  subst e
  refine ⟨by simp, by simp, fun ln hln => ?_⟩
  have e : ln = ⟨b, opsR s l⟩ := by simpa using hln
  subst e
  have o1 : OptOk (s : Int) 1 1 (O1 s l) := ⟨wish, ⟨by show (-1 : Int) ≤ -1; decide, by show (-1 : Int) < 1; decide⟩, ⟨by show 0 ≤ (l : Int); omega, by have := N.hl; show (l : Int) < (s : Int); omega⟩, ⟨by show (0 : Int) ≤ 0; decide, by show (0 : Int) ≤ 1; decide⟩⟩
  have o2 : OptOk (s : Int) 1 1 (O2 s) := ⟨wish, ⟨by show (-1 : Int) ≤ -1; decide, by show (-1 : Int) < 1; decide⟩, ⟨by show (0 : Int) ≤ 0; omega, by show (0 : Int) < (s : Int); omega⟩, ⟨by show (0 : Int) ≤ 1; decide, by show (1 : Int) ≤ 1; decide⟩⟩
  refine ⟨?_, ?_, fun o ho => ?_, ?_⟩
  · show opsR s l ≠ []
    unfold opsR
    split <;> simp
  · show (opsR s l).length ≤ 3
    unfold opsR
    split <;> simp
  · have ho : o ∈ opsR s l := ho
    unfold opsR at ho
    split at ho
    · rcases List.mem_cons.mp ho with e | ho
      · rw [e]; exact o1
      · rw [List.mem_singleton.mp ho]; exact o2
    · rcases List.mem_cons.mp ho with e | ho
      · rw [e]; exact o2
      · rw [List.mem_singleton.mp ho]; exact o1
  · exact rn_all (P := fun s l _ => strictB ((opsR s l).map eO) = true) N (by decide +kernel)
theorem hr_ch (N : Rn s l i) : chS (Hr s b l) ⟨i, [(0, 0)]⟩ = [0, 1] := by
  cases b
  · exact rn_all (P := fun s l i => chS (Hr s false l) ⟨i, [(0, 0)]⟩ = [0, 1]) N (by decide +kernel)
  · exact rn_all (P := fun s l i => chS (Hr s true l) ⟨i, [(0, 0)]⟩ = [0, 1]) N (by decide +kernel)
def psB (p : Ps) (s : Nat) (k : List Sp) : Bool := decide (p.s = s) && decide (p.k = k)
theorem psB_ok {p : Ps} {s : Nat} {k : List Sp} (h : psB p s k = true) : p = ⟨s, k⟩ := by
  obtain ⟨a, c⟩ := p
  unfold psB at h
  rw [Bool.and_eq_true, decide_eq_true_eq, decide_eq_true_eq] at h
  obtain ⟨rfl, rfl⟩ := h
  rfl
theorem hr_again (N : Rn s l i) : stepS (Hr s b l) ⟨i, [(0, 0)]⟩ (agR l) = ⟨l, [(0, 0)]⟩ := by
  cases b
  · exact psB_ok (rn_all (P := fun s l i => psB (stepS (Hr s false l) ⟨i, [(0, 0)]⟩ (agR l)) l [(0, 0)] = true) N (by decide +kernel))
  · exact psB_ok (rn_all (P := fun s l i => psB (stepS (Hr s true l) ⟨i, [(0, 0)]⟩ (agR l)) l [(0, 0)] = true) N (by decide +kernel))
theorem hr_done (N : Rn s l i) : stepS (Hr s b l) ⟨i, [(0, 0)]⟩ (doneR l) = ⟨0, []⟩ := by
  cases b
  · exact psB_ok (rn_all (P := fun s l i => psB (stepS (Hr s false l) ⟨i, [(0, 0)]⟩ (doneR l)) 0 [] = true) N (by decide +kernel))
  · exact psB_ok (rn_all (P := fun s l i => psB (stepS (Hr s true l) ⟨i, [(0, 0)]⟩ (doneR l)) 0 [] = true) N (by decide +kernel))
theorem hr_tame (N : Rn s l i) : tame 1000 8 (eH (Hr s b l)) = true := by
  cases b
  · exact rn_all (P := fun s l i => tame 1000 8 (eH (Hr s false l)) = true) N (by decide +kernel)
  · exact rn_all (P := fun s l i => tame 1000 8 (eH (Hr s true l)) = true) N (by decide +kernel)
def sortB (s l : Nat) : Bool := okSort [eO (O1 s l), eO (O2 s)] && (pdEqs (sortD [eO (O1 s l), eO (O2 s)]) ((opsR s l).map eO) && (SeqAt.shaped (.tuple ((opsR s l).map eO)) && (SeqAt.shaped (eO (O2 s)) && decide (((opsR s l).map eO).findIdx? (fun z => PyData.eqv z (eO (O2 s))) = some (doneR l)))))
theorem hr_sort (N : Rn s l i) (m : Mu) : gSortedT [.d (.tuple [eO (O1 s l), eO (O2 s)])] m = .ok (.d (.list ((opsR s l).map eO))) m ∧ ∀ (r : Rh) (fa fb : FE), fa r m = .ok (.d (.tuple ((opsR s l).map eO))) m → fb r m = .ok (.d (eO (O2 s))) m → fIxT fa fb r m = .ok (.d (.int (doneR l))) m := by
  have c : sortB s l = true := rn_all (P := fun s l _ => sortB s l = true) N (by decide +kernel)
  unfold sortB at c
  simp only [Bool.and_eq_true, decide_eq_true_eq] at c
  obtain ⟨c1, c2, c3, c4, c5⟩ := c
  refine ⟨?_, fun r fa fb ha hb => ?_⟩
  · show (if okSort [eO (O1 s l), eO (O2 s)] = true then R.ok (W.d (.list (sortD [eO (O1 s l), eO (O2 s)]))) m else .bad) = _
    rw [if_pos c1, pdEqs_eq c2]
  · unfold fIxT
    rw [ha, bind_ok]
    dsimp only
    rw [hb, bind_ok]
    dsimp only
    rw [if_pos ⟨c3, c4⟩, c5]
end
end Wy
set_option Elab.async false
set_option linter.all false
set_option maxRecDepth 100000
set_option maxHeartbeats 4000000
/-! D8: a round. -/
namespace Wy
open PySem PySem.Spec PyProof.Rows L2 PySem.W
abbrev rR (n : Nat) (x1 x2 x3 : Option W) : Rh := [some (.loc n), x1, x2, x3]
theorem v_round {m : Mu} {n : Nat} {t : Int} (D : Dm m m n t) (ht : t ≤ 900000000) : ∃ s l i b m', Rn s l i ∧ m'.length = m.length ∧
    f__law_round [.loc n] m = .ok (.wt [.loc m.length, .d (.int (doneR l))]) (m' ++ [dayO (eH (Hr s b l)) (pD ⟨i, [(0, 0)]⟩) (rowsD []) (.tuple [])]) := by
  obtain ⟨v, m1, e1, a1, a2, D1⟩ := pickD D (s := 2) (by omega) (by decide) (by decide)
  obtain ⟨x, m2, e2, hx, D2⟩ := v_one D1 (xs := [.str "me", .str "they"]) (by omega) (by simp) (by simp)
  obtain ⟨s, hs⟩ : ∃ s : Nat, (2 : Int) + v = s := ⟨(2 + v).toNat, by omega⟩
  obtain ⟨l', m3, e3, a3, a4, D3⟩ := pickD D2 (s := (s : Int)) (by omega) (by omega) (by omega)
  obtain ⟨l, rfl⟩ := Int.eq_ofNat_of_zero_le a3
  obtain ⟨i', m4, e4, a5, a6, D4⟩ := pickD D3 (s := (s : Int)) (by omega) (by omega) (by omega)
  obtain ⟨i, rfl⟩ := Int.eq_ofNat_of_zero_le a5
  have N : Rn s l i := ⟨by omega, by omega, by omega⟩
  obtain ⟨b, hb⟩ : ∃ b, x = whoD b := by
    rcases List.mem_cons.mp hx with e | hx
    · exact ⟨true, e⟩
    · exact ⟨false, List.mem_singleton.mp hx⟩
  subst hb
  have hl4 : m4.length = m.length := D4.len
  have p1 : fSet 1 (fBin gAdd (fC (.int 2)) (fCall 2 f__law_pick (fCons (fVar 0) (fCons (fC (.int 2)) fNil)))) (rR n none none none) m = .next (rR n (some (.d (.int (s : Int)))) none none) m1 := by
    refine k_set (k_bin (a := .d (.int 2)) (m1 := m) rfl (k_call2 (k_var rfl) rfl e1) ?_)
    rw [← hs]
    exact e_add
  have tr : ∀ m : Mu, fTupR (fVar 1) (rR n (some (.d (.int (s : Int)))) none none) m = .ok (.d (.tuple (dI (ev s)))) m := fun m => by
    have := tupR (f := fVar 1) (r := rR n (some (.d (.int (s : Int)))) none none) (m := m) (m' := m) (k := (s : Int)) (k_var rfl) (by omega) (by have := N.hs; omega)
    rwa [Int.toNat_natCast] at this
  have p2 : fSet 2 (fTupR (fVar 1)) (rR n (some (.d (.int (s : Int)))) none none) m1 = .next (rR n (some (.d (.int (s : Int)))) (some (.d (.tuple (dI (ev s))))) none) m1 := k_set (tr m1)
  let R (x3 : Option W) : Rh := rR n (some (.d (.int (s : Int)))) (some (.d (.tuple (dI (ev s))))) x3
  have o1 : fTup (fCons (fVar 2) (fCons (fC (.int (-1))) (fCons (fCall 2 f__law_pick (fCons (fVar 0) (fCons (fVar 1) fNil))) (fCons (fC (.int 0)) fNil)))) (R none) m2 = .ok (.d (eO (O1 s l))) m3 :=
    k_tup (ws := [.d (.tuple (dI (ev s))), .d (.int (-1)), .d (.int (l : Int)), .d (.int 0)]) (k_cons (k_var rfl) (k_cons (f := fC (.int (-1))) (m1 := m2) rfl (k_cons (k_call2 (k_var rfl) (k_var rfl) e3) (k_cons (f := fC (.int 0)) (m1 := m3) rfl k_nil)))) (by simp)
  have o2 : ∀ (x3 : Option W) (m : Mu), fTup (fCons (fVar 2) (fCons (fC (.int (-1))) (fCons (fC (.int 0)) (fCons (fC (.int 1)) fNil)))) (R x3) m = .ok (.d (eO (O2 s))) m := fun x3 m =>
    k_tup (ws := [.d (.tuple (dI (ev s))), .d (.int (-1)), .d (.int 0), .d (.int 1)]) (k_cons (k_var rfl) (k_cons (f := fC (.int (-1))) (m1 := m) rfl (k_cons (f := fC (.int 0)) (m1 := m) rfl (k_cons (f := fC (.int 1)) (m1 := m) rfl k_nil)))) (by simp)
  have p3 : fSet 3 (fTup (fCons (fCall 2 f__law_one (fCons (fVar 0) (fCons (fLst (fCons (fC (.str "me")) (fCons (fC (.str "they")) fNil))) fNil))) (fCons (fTup (fCons (fTup (fCons (fVar 2) (fCons (fC (.int (-1))) (fCons (fCall 2 f__law_pick (fCons (fVar 0) (fCons (fVar 1) fNil))) (fCons (fC (.int 0)) fNil))))) (fCons (fTup (fCons (fVar 2) (fCons (fC (.int (-1))) (fCons (fC (.int 0)) (fCons (fC (.int 1)) fNil))))) fNil))) fNil))) (R none) m1 =
      .next (R (some (.d (.tuple [whoD b, .tuple [eO (O1 s l), eO (O2 s)]])))) m3 := by
    refine k_set (k_tup (ws := [.d (whoD b), .d (.tuple [eO (O1 s l), eO (O2 s)])]) (k_cons (k_call2 (k_var rfl) (show fLst (fCons (fC (.str "me")) (fCons (fC (.str "they")) fNil)) (R none) m1 = .ok (.d (.list [.str "me", .str "they"])) m1 from rfl) e2) (k_cons (k_tup (ws := [.d (eO (O1 s l)), .d (eO (O2 s))]) (k_cons o1 (k_cons (o2 none m3) k_nil)) (by simp)) k_nil)) (by simp))
  obtain ⟨so, ix⟩ := hr_sort N m3
  obtain ⟨_, ix5⟩ := hr_sort N (m4 ++ [dayO (eH (Hr s b l)) (pD ⟨i, [(0, 0)]⟩) (rowsD []) (.tuple [])])
  let L : PyData := .tuple [whoD b, .tuple ((opsR s l).map eO)]
  have p4 : fSet 3 (fTup (fCons (fBin gIx (fVar 3) (fC (.int 0))) (fCons (fBi gTuple (fCons (fBi gSortedT (fCons (fBin gIx (fVar 3) (fC (.int 1))) fNil)) fNil)) fNil))) (R (some (.d (.tuple [whoD b, .tuple [eO (O1 s l), eO (O2 s)]])))) m3 = .next (R (some (.d L))) m3 := by
    refine k_set (k_tup (ws := [.d (whoD b), .d (.tuple ((opsR s l).map eO))]) (k_cons (k_bin (m2 := m3) (k_var rfl) rfl tup0) (k_cons (k_bi1 (k_bi1 (k_bin (m2 := m3) (k_var rfl) rfl tup1) so) ?_) k_nil)) (by simp))
    rfl
  have mk : fMake "Day" 4 f_Day___init__ (fCons (fTup (fCons (fVar 1) (fCons (fTup (fCons (fTup (fCons (fVar 3) fNil)) fNil)) fNil))) (fCons (fC (.int 0)) (fCons (fCall 2 f__law_pick (fCons (fVar 0) (fCons (fVar 1) fNil))) fNil))) (R (some (.d L))) m3 = .ok (.loc m4.length) (m4 ++ [dayO (eH (Hr s b l)) (pD ⟨i, [(0, 0)]⟩) (rowsD []) (.tuple [])]) := by
    refine k_make (ws := [.d (eH (Hr s b l)), .d (.int 0), .d (.int (i : Int))]) (k_cons ?_ (k_cons (f := fC (.int 0)) (m1 := m3) rfl (k_cons (k_call2 (k_var rfl) (k_var rfl) e4) k_nil))) rfl (v_init (hr_ok N) (e := 0) (by show 0 < 1; decide) (by have := N.hi; show (i : Int) < (s : Int); omega))
    exact k_tup (ws := [.d (.int (s : Int)), .d (.tuple [.tuple [L]])]) (k_cons (k_var rfl) (k_cons (k_tup (ws := [.d (.tuple [L])]) (k_cons (k_tup (ws := [.d L]) (k_cons (k_var rfl) k_nil) (by simp)) k_nil) (by simp)) k_nil)) (by simp)
  have p5 := k_ret (k := true) (k_tup (ws := [.loc m4.length, .d (.int (doneR l))]) (k_cons mk (k_cons (ix5 (R (some (.d L))) (fBin gIx (fVar 3) (fC (.int 1))) (fTup (fCons (fVar 2) (fCons (fC (.int (-1))) (fCons (fC (.int 0)) (fCons (fC (.int 1)) fNil))))) (k_bin (m2 := m4 ++ [dayO (eH (Hr s b l)) (pD ⟨i, [(0, 0)]⟩) (rowsD []) (.tuple [])]) (k_var rfl) rfl tup1) (o2 _ _)) k_nil)) (by simp))
  have all : b__law_round (startR 4 [.loc n]) m = .ret true (.wt [.loc m4.length, .d (.int (doneR l))]) (m4 ++ [dayO (eH (Hr s b l)) (pD ⟨i, [(0, 0)]⟩) (rowsD []) (.tuple [])]) := by
    unfold b__law_round
    exact k_then p1 (k_then p2 (k_then p3 (k_then p4 p5)))
  refine ⟨s, l, i, b, m4, N, hl4, ?_⟩
  show fnF 4 b__law_round _ _ = _
  unfold fnF
  rw [all]
  show (if m4.length < m.length then Wy.R.bad else match (m4 ++ [dayO (eH (Hr s b l)) (pD ⟨i, [(0, 0)]⟩) (rowsD []) (.tuple [])])[m4.length]? with
    | some o => if flatO o = true then Wy.R.ok (W.wt [.loc m.length, .d (.int (doneR l))]) ((m4 ++ [dayO (eH (Hr s b l)) (pD ⟨i, [(0, 0)]⟩) (rowsD []) (.tuple [])]).take m.length ++ [o]) else Wy.R.bad
    | none => Wy.R.bad) = _
  rw [if_neg (by omega), at_end]
  dsimp only
  rw [if_pos (show flatO (dayO (eH (Hr s b l)) (pD ⟨i, [(0, 0)]⟩) (rowsD []) (.tuple [])) = true from rfl), ← hl4, List.take_left' rfl]
end Wy
set_option Elab.async false
set_option linter.all false
set_option maxRecDepth 100000
set_option maxHeartbeats 4000000
/-! D9: a round's day: what is led, what is refused. -/
namespace Wy
open PySem PySem.Spec PyProof.Rows L2 PySem.W
def Tt (l : Nat) : Stp := ⟨(0, 0), agR l, ⟨l, [(0, 0)]⟩⟩
abbrev p0R (i : Nat) : Ps := ⟨i, [(0, 0)]⟩
/-- at the beginning of its one line -/
def Home (s : Nat) (p : Ps) : Prop := p.k = [(0, 0)] ∧ p.s < s
section
variable {s l i : Nat} {b : Bool}
theorem home_ok (N : Rn s l i) {p : Ps} (hp : Home s p) : PsOk (Hr s b l) 1 p := by
  obtain ⟨c, k⟩ := p
  obtain ⟨rfl, hc⟩ := hp
  refine ⟨by show (c : Int) < (s : Int); have : c < s := hc; omega, Nat.le_refl _, fun q hq => ?_, fun k q e => ?_⟩
  · rw [List.mem_singleton.mp hq]
    exact ⟨[⟨b, opsR s l⟩], rfl, Nat.zero_le _⟩
  · have e : ([] : List Sp) ++ [(0, 0)] = k ++ [q] := e
    have := List.append_inj_right' e rfl
    injection this with this _
    rw [← this]
    show (0 : Nat) ≠ 1
    decide
theorem ag_lt (l : Nat) : agR l = 0 ∨ agR l = 1 := by
  unfold agR
  split
  · exact .inl rfl
  · exact .inr rfl
theorem done_lt (l : Nat) : doneR l = 0 ∨ doneR l = 1 := by
  unfold doneR
  split
  · exact .inr rfl
  · exact .inl rfl
theorem ch_home (N : Rn s l i) {p : Ps} (hp : Home s p) : chS (Hr s b l) p = [0, 1] := by
  obtain ⟨c, k⟩ := p
  obtain ⟨rfl, hc⟩ := hp
  exact hr_ch ⟨N.hs, N.hl, hc⟩
theorem lead_ag (N : Rn s l i) {p0 : Ps} {ts : List Stp} (hp : Home s (curP p0 ts)) (ns : List Nat) : leadR (Hr s b l) p0 ts (agR l :: ns) = leadR (Hr s b l) p0 (ts ++ [Tt l]) ns := by
  have hm : agR l ∈ chS (Hr s b l) (curP p0 ts) := by rw [ch_home N hp]; rcases ag_lt l with e | e <;> rw [e] <;> simp
  rw [leadR, decide_eq_true hm, hp.1]
  obtain ⟨hk, hc⟩ := hp
  have e : curP p0 ts = ⟨(curP p0 ts).s, [(0, 0)]⟩ := by rw [← hk]
  show leadR (Hr s b l) p0 (ts ++ [⟨(0, 0), agR l, stepS (Hr s b l) (curP p0 ts) (agR l)⟩]) ns = _
  rw [e, hr_again ⟨N.hs, N.hl, hc⟩]
  rfl
theorem home_T (N : Rn s l i) (p0 : Ps) (ts : List Stp) : Home s (curP p0 (ts ++ [Tt l])) := by
  rw [cur_snoc]
  exact ⟨rfl, N.hl⟩
theorem lead_ags (N : Rn s l i) {p0 : Ps} : ∀ (k : Nat) (ts : List Stp), Home s (curP p0 ts) → leadR (Hr s b l) p0 ts (List.replicate k (agR l)) = some (ts ++ List.replicate k (Tt l))
  | 0, ts, _ => by simp [leadR]
  | k + 1, ts, hp => by
    rw [List.replicate_succ, lead_ag N hp, lead_ags N k _ (home_T N p0 ts), List.replicate_succ]
    simp
theorem lead_dn (N : Rn s l i) {p0 : Ps} {ts : List Stp} (hp : Home s (curP p0 ts)) : leadR (Hr s b l) p0 ts [doneR l] = some (ts ++ [⟨(0, 0), doneR l, ⟨0, []⟩⟩]) := by
  have hm : doneR l ∈ chS (Hr s b l) (curP p0 ts) := by rw [ch_home N hp]; rcases done_lt l with e | e <;> rw [e] <;> simp
  rw [leadR, decide_eq_true hm, hp.1]
  obtain ⟨hk, hc⟩ := hp
  have e : curP p0 ts = ⟨(curP p0 ts).s, [(0, 0)]⟩ := by rw [← hk]
  show leadR (Hr s b l) p0 (ts ++ [⟨(0, 0), doneR l, stepS (Hr s b l) (curP p0 ts) (doneR l)⟩]) [] = _
  rw [e, hr_done ⟨N.hs, N.hl, hc⟩]
  rfl
theorem day_T (N : Rn s l i) (k : Nat) : DayOk (Hr s b l) (p0R i) 1 (List.replicate k (Tt l)) := by
  have hm : Home s (curP (p0R i) (List.replicate k (Tt l))) := by
    cases k with
    | zero => exact ⟨rfl, N.hi⟩
    | succ k => rw [List.replicate_succ']; exact home_T N _ _
  refine ⟨hr_ok N, home_ok N hm, fun t ht => ?_⟩
  rw [List.eq_of_mem_replicate ht]
  exact Nat.le_refl 1
theorem home_all (N : Rn s l i) (k : Nat) : Home s (curP (p0R i) (List.replicate k (Tt l))) := by
  cases k with
  | zero => exact ⟨rfl, N.hi⟩
  | succ k => rw [List.replicate_succ']; exact home_T N _ _
/-! ### what can't be chosen -/
theorem bad_w {h : Hs} {p : Ps} {x : PyData} (hd : nd1 x = true) (hw : isW 0 2 x = false) : BadO h p x := .inl fun m => by rw [w_within hd, hw]
theorem bad_two (N : Rn s l i) {p : Ps} (hp : Home s p) : BadO (Hr s b l) p (.int 2) := .inr ⟨fun m => by rw [w_within rfl]; rfl, shaped_int _, by rw [ch_home N hp]; rfl⟩
theorem bad_end {h : Hs} {c n : Nat} (hn : n = 0 ∨ n = 1) : BadO h ⟨c, []⟩ (.int (n : Int)) := .inr ⟨fun m => by rw [w_within rfl]; rcases hn with e | e <;> rw [e] <;> rfl, shaped_int _, by rw [chS_nil rfl]; rfl⟩
end
theorem k_exnM {fe : FE} {r : Rh} {m m1 : Mu} {c w : Str} (h : fe r m = .exn ⟨c, none⟩ m1) (hk : kinds.lookup c = some w) : fTryM kinds kF fe r m = .ok (.d (.str w)) m1 := by
  unfold fTryM
  rw [h]
  dsimp only
  rw [hk]
theorem k_manyM {fe : FE} {r : Rh} {m m1 : Mu} (h : fe r m = .exn xMany m1) : fTryM kinds kF fe r m = .ok (.d (.tuple [.str "many +", .int 100])) m1 := by
  unfold fTryM
  rw [h]
  rfl
theorem set_same {α : Type} : ∀ {m : List α} {j : Nat} {a : α}, m[j]? = some a → m.set j a = m
  | [], j, a, h => by simp at h
  | x :: m, 0, a, h => by simp at h; rw [h]; rfl
  | x :: m, j + 1, a, h => by
    rw [List.set_cons_succ, set_same (by simpa using h)]
/-- attempt, where the lambda's error changed nothing -/
theorem k_att {fe fl : FE} {r : Rh} {m m1 : Mu} {j : Nat} {g f nw ps : PyData} {c : Str} (he : fe r m = .ok (.loc j) m1) (hm : m1[j]? = some (dayO g f nw ps)) (hl : fl (r ++ [some (.loc j)]) m1 = .exn ⟨c, none⟩ m1) (hc : c ∈ errs) : fAtt "Day" errs fe fl r m = .exn ⟨c, none⟩ m1 := by
  unfold fAtt
  rw [he, bind_ok, ins_at hm]
  show (match fl (r ++ [some (.loc j)]) m1 with
      | .ok v m2 => .ok v m2
      | .exn e m2 => if e.cls ∈ errs ∧ e.fld = none then (match insAt m2 "Day" (.loc j) with
          | some (_, gs) => if gs.length < 900 then .exn e ((m2.set j (.ins "Day" (putS "now" nw gs))).set j (.ins "Day" (putS "past" ps (putS "now" nw gs)))) else .bad
          | none => .bad) else .bad
      | .bad => .bad) = (R.exn ⟨c, none⟩ m1 : R W)
  rw [hl]
  dsimp only
  rw [if_pos ⟨hc, rfl⟩, ins_at hm]
  dsimp only
  rw [if_pos (show (dayF g f nw ps).length < 900 by show 4 < 900; decide), List.set_set]
  have : m1.set j (.ins "Day" (putS "past" ps (putS "now" nw (dayF g f nw ps)))) = m1 := set_same hm
  rw [this]
end Wy
set_option Elab.async false
set_option linter.all false
set_option maxRecDepth 100000
set_option maxHeartbeats 4000000
/-! D10: a cell of the law (printed by mkD10.py). -/
namespace Wy
open PySem PySem.Spec PyProof.Rows L2 PySem.W
abbrev rD (x0 x1 x2 x3 x4 x5 x6 x7 x8 x9 : Option W) : Rh := [x0, x1, x2, x3, x4, x5, x6, x7, x8, x9]
theorem ne_self {x : PyData} {n : Nat} (h : tame 1000 n x = true) (hn : n ≤ 60) (m : Mu) : gNe (.d x) (.d x) m = .ok (.d (.bool false)) m := by
  have hs := tame_shaped h hn
  show (if okEq x x = true then kBl (!PyData.eqv x x) m else .bad) = _
  rw [if_pos (by unfold okEq; rw [hs]; rfl), SeqAt.eqv_refl x (tame_lay h).1]
  rfl
/-- things that are refused, one after another -/
theorem odd_loop {n : Nat} {fm : FE} {c w : Str} {put : Option W → Rh} (hp : ∀ d x, patF (.nm n) (W.d d) (put x) = some (put (some (.d d)))) (hk : kinds.lookup c = some w) (hw : ∀ m, gNe (.d (.str w)) (.d (.str w)) m = .ok (.d (.bool false)) m) :
    ∀ (ds : List PyData), (∀ d ∈ ds, ∀ m0 : Mu, ∃ g, fm (put (some (.d d))) m0 = .exn ⟨c, none⟩ (m0 ++ g)) → ∀ (x : Option W) (m : Mu), ∃ y g, forF none (.nm n) (fIfS (fTb (fBin gNe (fTryM kinds kF fm) (fC (.str w)))) (fRet false (fC (.bool false))) fNext) (ds.map W.d) (put x) m = .next (put y) (m ++ g)
  | [], _, x, m => ⟨x, [], by rw [List.append_nil]; exact for_end⟩
  | d :: ds, h, x, m => by
    obtain ⟨g1, e1⟩ := h d List.mem_cons_self m
    obtain ⟨y, g2, e2⟩ := odd_loop hp hk hw ds (fun d hd => h d (List.mem_cons_of_mem _ hd)) (some (.d d)) (m ++ g1)
    refine ⟨y, g1 ++ g2, ?_⟩
    rw [← List.append_assoc]
    refine (for_go (hp d x) (k_if (b := false) ?_ rfl)).trans e2
    exact k_tb (k_bin (fb := fC (.str w)) (b := .d (.str w)) (m2 := m ++ g1) (k_exnM e1 hk) rfl (hw _))
/-- .. and the store stays -/
theorem same_loop {n : Nat} {fm : FE} {c w : Str} {put : Option W → Rh} {m : Mu} (hp : ∀ d x, patF (.nm n) (W.d d) (put x) = some (put (some (.d d)))) (hk : kinds.lookup c = some w) (hw : ∀ m, gNe (.d (.str w)) (.d (.str w)) m = .ok (.d (.bool false)) m) :
    ∀ (ds : List PyData), (∀ d ∈ ds, fm (put (some (.d d))) m = .exn ⟨c, none⟩ m) → ∀ (x : Option W), ∃ y, forF none (.nm n) (fIfS (fTb (fBin gNe (fTryM kinds kF fm) (fC (.str w)))) (fRet false (fC (.bool false))) fNext) (ds.map W.d) (put x) m = .next (put y) m
  | [], _, x => ⟨x, for_end⟩
  | d :: ds, h, x => by
    obtain ⟨y, e2⟩ := same_loop hp hk hw ds (fun d hd => h d (List.mem_cons_of_mem _ hd)) (some (.d d))
    exact ⟨y, (for_go (hp d x) (k_if (b := false) (k_tb (k_bin (fb := fC (.str w)) (b := .d (.str w)) (m2 := m) (k_exnM (h d List.mem_cons_self) hk) rfl (hw _))) rfl)).trans e2⟩
theorem k_lst {fa : FA} {r : Rh} {m m1 : Mu} {ds : List PyData} (h : fa r m = .ok (ds.map W.d) m1) (hl : ds.length ≤ 1000) : fLst fa r m = .ok (.d (.list ds)) m1 := by
  have all : ∀ ds : List PyData, allD (ds.map W.d) = some ds := by
    intro ds
    induction ds with
    | nil => rfl
    | cons d ds ih => rw [List.map_cons, allD_d, ih]; rfl
  unfold fLst
  rw [h, bind_ok, all]
  show (if ds.length ≤ 1000 then _ else _) = _
  rw [if_pos hl]
section
variable {x0 x1 x2 x4 x5 x6 x7 x8 x9 : Option W} {h : Hs} {m : Mu}
theorem part_hou : ∃ y g, (fFor (fSeq (fLst (fCons (fC .none) (fCons (fSl (fVar 3) fNoP (fPart (fC (.int 1)))) (fCons (fBi gList (fCons (fVar 3) fNil)) fNil))))) (.nm 4) (fIfS (fTb (fBin gNe (fTryM kinds kF (fMake "Day" 4 f_Day___init__ (fCons (fVar 4) (fCons (fC .none) (fCons (fC .none) fNil))))) (fC (.str "house +")))) (fRet false (fC (.bool false))) fNext)) (rD x0 x1 x2 (some (.d (eH h))) x4 x5 x6 x7 x8 x9) m = .next (rD x0 x1 x2 (some (.d (eH h))) y x5 x6 x7 x8 x9) (m ++ g) := by
  have sq : (fLst (fCons (fC .none) (fCons (fSl (fVar 3) fNoP (fPart (fC (.int 1)))) (fCons (fBi gList (fCons (fVar 3) fNil)) fNil)))) (rD x0 x1 x2 (some (.d (eH h))) x4 x5 x6 x7 x8 x9) m = .ok (.d (.list [.none, .tuple [.int h.s], .list [.int h.s, .tuple (h.es.map eE)]])) m := by
    refine k_lst (k_cons (f := fC .none) (m1 := m) rfl (k_cons (w := .d (.tuple [.int h.s])) (m1 := m) ?_ (k_cons (w := .d (.list [.int h.s, .tuple (h.es.map eE)])) (m1 := m) (k_bi1 (k_var rfl) rfl) k_nil))) (by simp)
    unfold fSl
    rw [k_var (w := .d (eH h)) rfl, bind_ok]
    rfl
  obtain ⟨y, g, e⟩ := odd_loop (n := 4) (put := fun x => rD x0 x1 x2 (some (.d (eH h))) x x5 x6 x7 x8 x9) (c := "InvalidHouse") (w := "house +") (fm := fMake "Day" 4 f_Day___init__ (fCons (fVar 4) (fCons (fC .none) (fCons (fC .none) fNil)))) (fun _ _ => rfl) rfl (fun m => by kernel_rfl) [.none, .tuple [.int h.s], .list [.int h.s, .tuple (h.es.map eE)]] (fun d hd m0 => ⟨[.ins "Day" []], by
    refine k_makeX (ws := [.d d, .d .none, .d .none]) (m1 := m0) (k_cons (k_var rfl) (k_cons (f := fC .none) (m1 := m0) rfl (k_cons (f := fC .none) (m1 := m0) rfl k_nil))) rfl (v_initX fun m => ?_)
    simp only [List.mem_cons, List.not_mem_nil, or_false] at hd
    rcases hd with e | e | e <;> (rw [e]; exact begin_hou rfl rfl m)⟩) x4 m
  exact ⟨y, g, k_for (e_seqL sq) e⟩
theorem part_err (ok : HsOk 3 3 h) : ∃ y g, (fFor (fSeq (fLst (fCons (fC .none) (fCons (fC (.int (-1))) (fCons (fBi gLen (fCons (fBin gIx (fVar 3) (fC (.int 1))) fNil)) (fCons (fC (.bool true)) fNil)))))) (.nm 4) (fIfS (fTb (fBin gNe (fTryM kinds kF (fMake "Day" 4 f_Day___init__ (fCons (fVar 3) (fCons (fVar 4) (fCons (fC .none) fNil))))) (fC (.str "errand +")))) (fRet false (fC (.bool false))) fNext)) (rD x0 x1 x2 (some (.d (eH h))) x4 x5 x6 x7 x8 x9) m = .next (rD x0 x1 x2 (some (.d (eH h))) y x5 x6 x7 x8 x9) (m ++ g) := by
  have ll : fBi gLen (fCons (fBin gIx (fVar 3) (fC (.int 1))) fNil) (rD x0 x1 x2 (some (.d (eH h))) x4 x5 x6 x7 x8 x9) m = .ok (.d (.int (h.es.length : Int))) m := by
    refine k_bi1 (k_bin (m2 := m) (k_var rfl) rfl (show gIx (.d (eH h)) (.d (.int 1)) m = .ok (.d (.tuple (h.es.map eE))) m from tup1)) ?_
    rw [len_tup, List.length_map]
  have sq : (fLst (fCons (fC .none) (fCons (fC (.int (-1))) (fCons (fBi gLen (fCons (fBin gIx (fVar 3) (fC (.int 1))) fNil)) (fCons (fC (.bool true)) fNil))))) (rD x0 x1 x2 (some (.d (eH h))) x4 x5 x6 x7 x8 x9) m = .ok (.d (.list [.none, .int (-1), .int (h.es.length : Int), .bool true])) m :=
    k_lst (ds := [.none, .int (-1), .int (h.es.length : Int), .bool true]) (k_cons (f := fC .none) (m1 := m) rfl (k_cons (f := fC (.int (-1))) (m1 := m) rfl (k_cons ll (k_cons (f := fC (.bool true)) (m1 := m) rfl k_nil)))) (by simp)
  obtain ⟨y, g, e⟩ := odd_loop (n := 4) (put := fun x => rD x0 x1 x2 (some (.d (eH h))) x x5 x6 x7 x8 x9) (c := "InvalidErrand") (w := "errand +") (fm := fMake "Day" 4 f_Day___init__ (fCons (fVar 3) (fCons (fVar 4) (fCons (fC .none) fNil)))) (fun _ _ => rfl) rfl (fun m => by kernel_rfl) [.none, .int (-1), .int (h.es.length : Int), .bool true] (fun d hd m0 => ⟨[.ins "Day" []], by
    refine k_makeX (ws := [.d (eH h), .d d, .d .none]) (m1 := m0) (k_cons (k_var rfl) (k_cons (k_var rfl) (k_cons (f := fC .none) (m1 := m0) rfl k_nil))) rfl (v_initX fun m => ?_)
    simp only [List.mem_cons, List.not_mem_nil, or_false] at hd
    rcases hd with e | e | e | e <;> rw [e]
    · exact begin_err ok rfl rfl m
    · exact begin_err ok rfl rfl m
    · refine begin_err ok rfl ?_ m
      show (decide (0 ≤ (h.es.length : Int)) && decide ((h.es.length : Int) ≤ (h.es.length : Int) - 1)) = false
      rw [decide_eq_false (show ¬ (h.es.length : Int) ≤ (h.es.length : Int) - 1 by omega), Bool.and_false]
    · exact begin_err ok rfl rfl m⟩) x4 m
  exact ⟨y, g, k_for (e_seqL sq) e⟩
theorem part_sta (ok : HsOk 3 3 h) : ∃ y g, (fFor (fSeq (fLst (fCons (fC .none) (fCons (fC (.int (-1))) (fCons (fBin gIx (fVar 3) (fC (.int 0))) (fCons (fC (.bool true)) fNil)))))) (.nm 4) (fIfS (fTb (fBin gNe (fTryM kinds kF (fMake "Day" 4 f_Day___init__ (fCons (fVar 3) (fCons (fC (.int 0)) (fCons (fVar 4) fNil))))) (fC (.str "state +")))) (fRet false (fC (.bool false))) fNext)) (rD x0 x1 x2 (some (.d (eH h))) x4 x5 x6 x7 x8 x9) m = .next (rD x0 x1 x2 (some (.d (eH h))) y x5 x6 x7 x8 x9) (m ++ g) := by
  have sq : (fLst (fCons (fC .none) (fCons (fC (.int (-1))) (fCons (fBin gIx (fVar 3) (fC (.int 0))) (fCons (fC (.bool true)) fNil))))) (rD x0 x1 x2 (some (.d (eH h))) x4 x5 x6 x7 x8 x9) m = .ok (.d (.list [.none, .int (-1), .int h.s, .bool true])) m :=
    k_lst (ds := [.none, .int (-1), .int h.s, .bool true]) (k_cons (f := fC .none) (m1 := m) rfl (k_cons (f := fC (.int (-1))) (m1 := m) rfl (k_cons (k_bin (m2 := m) (k_var rfl) rfl (show gIx (.d (eH h)) (.d (.int 0)) m = .ok (.d (.int h.s)) m from tup0)) (k_cons (f := fC (.bool true)) (m1 := m) rfl k_nil)))) (by simp)
  obtain ⟨y, g, e⟩ := odd_loop (n := 4) (put := fun x => rD x0 x1 x2 (some (.d (eH h))) x x5 x6 x7 x8 x9) (c := "InvalidState") (w := "state +") (fm := fMake "Day" 4 f_Day___init__ (fCons (fVar 3) (fCons (fC (.int 0)) (fCons (fVar 4) fNil)))) (fun _ _ => rfl) rfl (fun m => by kernel_rfl) [.none, .int (-1), .int h.s, .bool true] (fun d hd m0 => ⟨[.ins "Day" []], by
    refine k_makeX (ws := [.d (eH h), .d (.int 0), .d d]) (m1 := m0) (k_cons (k_var rfl) (k_cons (f := fC (.int 0)) (m1 := m0) rfl (k_cons (k_var rfl) k_nil))) rfl (v_initX fun m => ?_)
    simp only [List.mem_cons, List.not_mem_nil, or_false] at hd
    rcases hd with e | e | e | e <;> rw [e]
    · exact begin_sta ok rfl rfl m
    · exact begin_sta ok rfl rfl m
    · refine begin_sta ok rfl ?_ m
      show (decide (0 ≤ h.s) && decide (h.s ≤ h.s - 1)) = false
      rw [decide_eq_false (show ¬ h.s ≤ h.s - 1 by omega), Bool.and_false]
    · exact begin_sta ok rfl rfl m⟩) x4 m
  exact ⟨y, g, k_for (e_seqL sq) e⟩
end
end Wy
set_option Elab.async false
set_option linter.all false
set_option maxRecDepth 100000
set_option maxHeartbeats 4000000
/-! D11: the day of a cell (printed by mkD10.py). -/
namespace Wy
open PySem PySem.Spec PyProof.Rows L2 PySem.W
theorem q_orF {f g : FT} {r : Rh} {m m1 m2 : Mu} {b : Bool} (h1 : f r m = .ok false m1) (h2 : g r m1 = .ok b m2) : fOrT f g r m = .ok b m2 := by
  unfold fOrT
  rw [h1, bind_ok]
  exact h2
theorem k_lenO {F : Fn} {fe : FE} {r : Rh} {m m1 : Mu} {j : Nat} {fs : List (Str × PyData)} {n : Nat} (he : fe r m = .ok (.loc j) m1) (hm : m1[j]? = some (.ins "Day" fs)) (hF : F [.loc j] m1 = .ok (.d (.int (n : Int))) m1) (hn : n ≤ 1000) : fBi (gLenO "Day" F) (fCons fe fNil) r m = .ok (.d (.int (n : Int))) m1 := by
  refine k_bi1 he ?_
  unfold gLenO
  dsimp only
  rw [ins_at hm]
  dsimp only
  rw [hF, bind_ok]
  dsimp only
  rw [if_pos (by omega)]
section
variable {x0 x1 x2 x3 x4 x7 x8 x9 : Option W} {m : Mu} {j s l i : Nat} {b : Bool}
abbrev rE (x0 x1 x2 x3 x4 : Option W) (j l : Nat) (x7 x8 x9 : Option W) : Rh := rD x0 x1 x2 x3 x4 (some (.loc j)) (some (.d (.int (doneR l : Int)))) x7 x8 x9
abbrev tsR (l k : Nat) : List Stp := List.replicate k (Tt l)
abbrev dO (s : Nat) (b : Bool) (l i k : Nat) (pl : List PyData) : Ob := dayO (eH (Hr s b l)) (pD (p0R i)) (rowsD (tsR l k)) (.tuple pl)
abbrev agW (l : Nat) : Option W := some (.d (.int (agR l : Int)))
def early (l i : Nat) : PyData := .list [.int ((curP (p0R i) (tsR l 1)).s : Int), kD (curP (p0R i) (tsR l 1)).k, .int ((1 : Nat) : Int)]
theorem lead_k (N : Rn s l i) (k n : Nat) : leadR (Hr s b l) (p0R i) (tsR l k) (List.replicate n (agR l)) = some (tsR l (k + n)) := by
  rw [lead_ags N n _ (home_all N k), List.replicate_append_replicate]
theorem day_6 : (fSet 7 (fBin gSub (fC (.int 1)) (fVar 6))) (rE x0 x1 x2 x3 x4 j l x7 x8 x9) m = .next (rE x0 x1 x2 x3 x4 j l (agW l) x8 x9) m := by
  refine k_set (k_bin (a := .d (.int 1)) (m1 := m) rfl (k_var (w := .d (.int (doneR l : Int))) rfl) ?_)
  have : (1 : Int) - (doneR l : Int) = (agR l : Int) := by
    unfold doneR agR
    split <;> simp
  rw [← this]
  exact e_sub
theorem day_7 (N : Rn s l i) (hm : m[j]? = some (dO s b l i 0 [])) : (fDrop (fMth "Day" "choose" 2 f_Day_choose (fVar 5) (fCons (fVar 7) fNil))) (rE x0 x1 x2 x3 x4 j l (agW l) x8 x9) m = .next (rE x0 x1 x2 x3 x4 j l (agW l) x8 x9) (m.set j (dO s b l i 1 [rowsD []])) := by
  obtain ⟨k, e⟩ := v_choose_ok (ts := tsR l 0) (ts' := tsR l 1) (n := agR l) hm (day_T N 0) (by simp) (by simp) (by simp) (lead_k N 0 1) (by simp)
  exact k_dropN (k_mth (m2 := m) (k_var rfl) hm rfl (k_cons (k_var rfl) k_nil) rfl e)
theorem day_ear (N : Rn s l i) {pl : List PyData} (hm : m[j]? = some (dO s b l i 1 pl)) (r : Rh) (hr : r[5]? = some (some (.loc j))) : (fLst (fCons (fProp "Day" f_Day_state (fVar 5)) (fCons (fProp "Day" f_Day_stack (fVar 5)) (fCons (fBi (gLenO "Day" f_Day___len__) (fCons (fVar 5) fNil)) fNil)))) r m = .ok (.d (early l i)) m := by
  have D := day_T (b := b) N 1
  exact k_lst (ds := [.int ((curP (p0R i) (tsR l 1)).s : Int), kD (curP (p0R i) (tsR l 1)).k, .int ((1 : Nat) : Int)]) (k_cons (k_prop (k_var hr) hm (v_state hm D (by simp) (by simp))) (k_cons (k_prop (k_var hr) hm (v_stack hm D (by simp) (by simp))) (k_cons (k_lenO (n := 1) (k_var hr) hm (v_dlen hm) (by decide)) k_nil))) (by simp)
theorem day_8 (N : Rn s l i) {pl : List PyData} (hm : m[j]? = some (dO s b l i 1 pl)) : (fSet 8 (fLst (fCons (fProp "Day" f_Day_state (fVar 5)) (fCons (fProp "Day" f_Day_stack (fVar 5)) (fCons (fBi (gLenO "Day" f_Day___len__) (fCons (fVar 5) fNil)) fNil))))) (rE x0 x1 x2 x3 x4 j l (agW l) x8 x9) m = .next (rE x0 x1 x2 x3 x4 j l (agW l) (some (.d (early l i))) x9) m := k_set (day_ear N hm _ rfl)
theorem bad_run (N : Rn s l i) {pl : List PyData} (hm : m[j]? = some (dO s b l i 1 pl)) (x : PyData) (hx : BadO (Hr s b l) (curP (p0R i) (tsR l 2)) x) : f__law_led_on [.loc j, .d (.tuple [.int (agR l : Int), x])] m = .exn xOpt m :=
  v_led_exn hm (v_iadd_exn hm rfl (v_lead_bad (ts := tsR l 1) (ns := [agR l]) (ds := []) hm (day_T N 1) (by simp) (by simp) (lead_k N 1 1) hx))
theorem day_9 (N : Rn s l i) {pl : List PyData} (hm : m[j]? = some (dO s b l i 1 pl)) : ∃ y, (fFor (fSeq (fLst (fCons (fTup (fCons (fVar 7) (fCons (fC (.int 2)) fNil))) (fCons (fTup (fCons (fVar 7) (fCons (fC .none) fNil))) (fCons (fTup (fCons (fVar 7) (fCons (fC (.bool true)) fNil))) (fCons (fTup (fCons (fVar 6) (fCons (fVar 6) fNil))) (fCons (fTup (fCons (fVar 7) (fCons (fC (.int (-1))) fNil))) (fCons (fTup (fCons (fVar 7) (fCons (fC (.str "0")) fNil))) fNil)))))))) (.nm 9) (fIfS (fTb (fBin gNe (fTryM kinds kF (fCall 2 f__law_led_on (fCons (fVar 5) (fCons (fVar 9) fNil)))) (fC (.str "option +")))) (fRet false (fC (.bool false))) fNext)) (rE x0 x1 x2 x3 x4 j l (agW l) x8 x9) m = .next (rE x0 x1 x2 x3 x4 j l (agW l) x8 y) m := by
  let A : PyData := .int (agR l : Int)
  let B : PyData := .int (doneR l : Int)
  have t : ∀ (fe : FE) (x : PyData), fe (rE x0 x1 x2 x3 x4 j l (agW l) x8 x9) m = .ok (.d x) m → fTup (fCons (fVar 7) (fCons fe fNil)) (rE x0 x1 x2 x3 x4 j l (agW l) x8 x9) m = .ok (.d (.tuple [A, x])) m := fun fe x e => k_tup (ws := [.d A, .d x]) (k_cons (k_var rfl) (k_cons e k_nil)) (by simp)
  have sq : (fLst (fCons (fTup (fCons (fVar 7) (fCons (fC (.int 2)) fNil))) (fCons (fTup (fCons (fVar 7) (fCons (fC .none) fNil))) (fCons (fTup (fCons (fVar 7) (fCons (fC (.bool true)) fNil))) (fCons (fTup (fCons (fVar 6) (fCons (fVar 6) fNil))) (fCons (fTup (fCons (fVar 7) (fCons (fC (.int (-1))) fNil))) (fCons (fTup (fCons (fVar 7) (fCons (fC (.str "0")) fNil))) fNil))))))) (rE x0 x1 x2 x3 x4 j l (agW l) x8 x9) m = .ok (.d (.list [.tuple [A, .int 2], .tuple [A, .none], .tuple [A, .bool true], .tuple [B, B], .tuple [A, .int (-1)], .tuple [A, .str "0"]])) m :=
    k_lst (ds := [.tuple [A, .int 2], .tuple [A, .none], .tuple [A, .bool true], .tuple [B, B], .tuple [A, .int (-1)], .tuple [A, .str "0"]]) (k_cons (t _ _ rfl) (k_cons (t _ _ rfl) (k_cons (t _ _ rfl) (k_cons (k_tup (ws := [.d B, .d B]) (k_cons (k_var rfl) (k_cons (k_var rfl) k_nil)) (by simp)) (k_cons (t _ _ rfl) (k_cons (t _ _ rfl) k_nil)))))) (by simp)
  obtain ⟨y, e⟩ := same_loop (n := 9) (m := m) (put := fun x => rE x0 x1 x2 x3 x4 j l (agW l) x8 x) (c := "InvalidOption") (w := "option +") (fm := fCall 2 f__law_led_on (fCons (fVar 5) (fCons (fVar 9) fNil))) (fun _ _ => rfl) rfl (fun m => by kernel_rfl) [.tuple [A, .int 2], .tuple [A, .none], .tuple [A, .bool true], .tuple [B, B], .tuple [A, .int (-1)], .tuple [A, .str "0"]] (fun d hd => by
    refine k_call2 (k_var rfl) (k_var rfl) ?_
    simp only [List.mem_cons, List.not_mem_nil, or_false] at hd
    rcases hd with e | e | e | e | e | e <;> rw [e]
    · exact bad_run N hm _ (bad_two N (home_all N 2))
    · exact bad_run N hm _ (bad_w rfl rfl)
    · exact bad_run N hm _ (bad_w rfl rfl)
    · refine v_led_exn hm (v_iadd_exn hm rfl (v_lead_bad (ts := tsR l 1) (ns := [doneR l]) (ds := []) hm (day_T N 1) (by simp) (by simp) (lead_dn N (home_all N 1)) ?_))
      rw [cur_snoc]
      exact bad_end (done_lt l)
    · exact bad_run N hm _ (bad_w rfl rfl)
    · exact bad_run N hm _ (bad_w rfl rfl)) x9
  exact ⟨y, k_for (e_seqL sq) e⟩
theorem day_10 (N : Rn s l i) {pl : List PyData} (hm : m[j]? = some (dO s b l i 1 pl)) : (fIfS (fTb (fBin gNe (fTryM kinds kF (fAtt "Day" errs (fVar 5) (fMth "Day" "choose" 2 f_Day_choose (fVar 10) (fCons (fC (.int 2)) fNil)))) (fC (.str "option +")))) (fRet false (fC (.bool false))) fNext) (rE x0 x1 x2 x3 x4 j l (agW l) x8 x9) m = .next (rE x0 x1 x2 x3 x4 j l (agW l) x8 x9) m := by
  have e : f_Day_choose [.loc j, .d (.int 2)] m = .exn xOpt m := v_choose_exn hm (v_lead_bad (ts := tsR l 1) (ns := []) (ds := []) hm (day_T N 1) (by simp) (by simp) rfl (bad_two N (home_all N 1)))
  have a := k_att (fe := fVar 5) (fl := fMth "Day" "choose" 2 f_Day_choose (fVar 10) (fCons (fC (.int 2)) fNil)) (r := rE x0 x1 x2 x3 x4 j l (agW l) x8 x9) (m := m) (c := "InvalidOption") (k_var rfl) hm (k_mth (ws := [.d (.int 2)]) (m2 := m) (k_var rfl) hm rfl (k_cons (f := fC (.int 2)) (m1 := m) rfl k_nil) rfl e) (by decide)
  exact k_if (b := false) (k_tb (k_bin (fb := fC (.str "option +")) (b := .d (.str "option +")) (m2 := m) (k_exnM a rfl) rfl (by kernel_rfl))) rfl
theorem early_tame (N : Rn s l i) : tame 1000 3 (early l i) = true := by
  have hm := (home_all N 1).1
  refine tame_lst.mpr ⟨by simp, fun z hz => ?_⟩
  simp only [List.mem_cons, List.not_mem_nil, or_false] at hz
  rcases hz with e | e | e <;> rw [e]
  · exact tame_scal rfl
  · exact kD_tame (by rw [hm]; decide)
  · exact tame_scal rfl
theorem day_11 (N : Rn s l i) {pl : List PyData} (hm : m[j]? = some (dO s b l i 1 pl)) : (fIfS (fOrT (fTb (fBin gNe (fTryM kinds kF (fCall 2 f__law_led_on (fCons (fVar 5) (fCons (fC .none) fNil)))) (fC (.str "option +")))) (fTb (fBin gNe (fLst (fCons (fProp "Day" f_Day_state (fVar 5)) (fCons (fProp "Day" f_Day_stack (fVar 5)) (fCons (fBi (gLenO "Day" f_Day___len__) (fCons (fVar 5) fNil)) fNil)))) (fVar 8)))) (fRet false (fC (.bool false))) fNext) (rE x0 x1 x2 x3 x4 j l (agW l) (some (.d (early l i))) x9) m = .next (rE x0 x1 x2 x3 x4 j l (agW l) (some (.d (early l i))) x9) m := by
  have a : fTb (fBin gNe (fTryM kinds kF (fCall 2 f__law_led_on (fCons (fVar 5) (fCons (fC .none) fNil)))) (fC (.str "option +"))) (rE x0 x1 x2 x3 x4 j l (agW l) (some (.d (early l i))) x9) m = .ok false m :=
    k_tb (k_bin (fb := fC (.str "option +")) (b := .d (.str "option +")) (m2 := m) (k_exnM (c := "InvalidOption") (k_call2 (f2 := fC .none) (m2 := m) (k_var rfl) rfl (v_led_exn hm (v_iadd_none (g := none)))) rfl) rfl (by kernel_rfl))
  exact k_if (b := false) (q_orF a (k_tb (k_bin (m2 := m) (day_ear N hm _ rfl) (k_var rfl) (ne_self (early_tame N) (by decide) m)))) rfl
end
end Wy
set_option Elab.async false
set_option linter.all false
set_option maxRecDepth 100000
set_option maxHeartbeats 4000000
/-! D12: the day of a cell, to its end (printed by mkD10.py). -/
namespace Wy
open PySem PySem.Spec PyProof.Rows L2 PySem.W
section
variable {x0 x1 x2 x3 x4 x7 x8 x9 : Option W} {m : Mu} {j s l i : Nat} {b : Bool}
abbrev iD (n : Nat) : PyData := .int (n : Int)
theorem mul_ag (k : Nat) (h1 : 2 ≤ k) (h2 : k ≤ 1000) (r : Rh) (hr : r[7]? = some (agW l)) (m : Mu) : fBin gMulK (fTup (fCons (fVar 7) fNil)) (fC (.int (k : Int))) r m = .ok (.d (.tuple ((List.replicate k (agR l)).map iD))) m := by
  refine k_bin (a := .d (.tuple [iD (agR l)])) (b := .d (.int (k : Int))) (m1 := m) (m2 := m) (k_tup (ws := [.d (iD (agR l))]) (k_cons (k_var hr) k_nil) (by simp)) rfl ?_
  show (if 0 < [iD (agR l)].length ∧ (2 : Int) ≤ (k : Int) ∧ (k : Int) ≤ 1000 ∧ [iD (agR l)].length ≤ 1000 then R.ok (W.d (.tuple (List.replicate (k : Int).toNat [iD (agR l)]).flatten)) m else .bad) = _
  rw [if_pos ⟨by simp, by omega, by omega, by simp⟩, Int.toNat_natCast]
  congr 3
  rw [List.map_replicate]
  simp
theorem ne_many (m : Mu) : gNe (.d (.tuple [.str "many +", .int 100])) (.d (.tuple [.str "many +", .int 100])) m = .ok (.d (.bool false)) m := by kernel_rfl
theorem day_12 (N : Rn s l i) (hm : m[j]? = some (dO s b l i 1 [rowsD []])) : (fIfS (fTb (fBin gNe (fTryM kinds kF (fCall 2 f__law_led_on (fCons (fVar 5) (fCons (fBin gMulK (fTup (fCons (fVar 7) fNil)) (fC (.int 100))) fNil)))) (fTup (fCons (fC (.str "many +")) (fCons (fC (.int 100)) fNil))))) (fRet false (fC (.bool false))) fNext) (rE x0 x1 x2 x3 x4 j l (agW l) x8 x9) m = .next (rE x0 x1 x2 x3 x4 j l (agW l) x8 x9) m := by
  have vl := v_lead_ok (ts := tsR l 1) (ts' := tsR l 101) (ns := List.replicate 100 (agR l)) hm (day_T N 1) (by simp) (by simp) (by simp) (lead_k N 1 100)
  rw [if_pos (by simp)] at vl
  have e := v_led_exn hm (v_iadd_exn hm rfl vl)
  exact k_if (b := false) (k_tb (k_bin (b := .d (.tuple [.str "many +", .int 100])) (m2 := m) (k_manyM (k_call2 (k_var rfl) (mul_ag 100 (by decide) (by decide) _ rfl m) e)) rfl (ne_many m))) rfl
abbrev past2 (l : Nat) : List PyData := [rowsD [], rowsD (tsR l 1)]
theorem day_13 (N : Rn s l i) (hm : m[j]? = some (dO s b l i 1 [rowsD []])) : (fIfS (fOrT (fNotT (fTb (fCall 2 f__law_led_on (fCons (fVar 5) (fCons (fBin gMulK (fTup (fCons (fVar 7) fNil)) (fC (.int 99))) fNil))))) (fTb (fBin gNe (fTryM kinds kF (fMth "Day" "choose" 2 f_Day_choose (fVar 5) (fCons (fVar 7) fNil))) (fTup (fCons (fC (.str "many +")) (fCons (fC (.int 100)) fNil)))))) (fRet false (fC (.bool false))) fNext) (rE x0 x1 x2 x3 x4 j l (agW l) x8 x9) m = .next (rE x0 x1 x2 x3 x4 j l (agW l) x8 x9) (m.set j (dO s b l i 100 (past2 l))) := by
  have e := v_led_ok (ts := tsR l 1) (ts' := tsR l 100) (ns := List.replicate 99 (agR l)) (hr_tame N) hm (day_T N 1) (by simp) (by simp) (by simp) (lead_k N 1 99) (by simp)
  have hm2 : (m.set j (dO s b l i 100 (past2 l)))[j]? = some (dO s b l i 100 (past2 l)) := set_at hm
  have vl := v_lead_ok (ts := tsR l 100) (ts' := tsR l 101) (ns := [agR l]) hm2 (day_T N 100) (by simp) (by simp) (by simp) (lead_k N 100 1)
  rw [if_pos (by simp)] at vl
  have ec := v_choose_exn (x := .int (agR l : Int)) hm2 vl
  have q1 : fNotT (fTb (fCall 2 f__law_led_on (fCons (fVar 5) (fCons (fBin gMulK (fTup (fCons (fVar 7) fNil)) (fC (.int 99))) fNil)))) (rE x0 x1 x2 x3 x4 j l (agW l) x8 x9) m = .ok false (m.set j (dO s b l i 100 (past2 l))) := k_not (k_tb (k_call2 (k_var rfl) (mul_ag 99 (by decide) (by decide) _ rfl m) e))
  refine k_if (b := false) (q_orF q1 (k_tb (k_bin (b := .d (.tuple [.str "many +", .int 100])) (m2 := m.set j (dO s b l i 100 (past2 l))) (k_manyM (k_mth (ws := [.d (.int (agR l : Int))]) (m2 := m.set j (dO s b l i 100 (past2 l))) (k_var rfl) hm2 rfl (k_cons (k_var rfl) k_nil) rfl ec)) rfl (ne_many _)))) rfl
theorem q_notN {fe : FE} {r : Rh} {m m1 : Mu} (h : fe r m = .ok (.d .none) m1) : fNotN fe r m = .ok (.d (.bool false)) m1 := by
  unfold fNotN
  rw [h]
  rfl
theorem rows_shaped (N : Rn s l i) : SeqAt.shaped (.tuple (past2 l)) = true ∧ SeqAt.shaped (.tuple [rowsD []]) = true := by
  have t : ∀ k, k ≤ 1000 → tame 1000 6 (rowsD (tsR l k)) = true := fun k hk => rowsD_tame (by simp; exact hk) fun z hz => by
    rw [List.eq_of_mem_replicate hz]
    show 1 ≤ 1000
    decide
  have t0 : tame 1000 6 (rowsD []) = true := rfl
  refine ⟨tame_shaped (L := 1000) (k := 7) (tame_tup.mpr ⟨by simp, fun z hz => ?_⟩) (by decide), tame_shaped (L := 1000) (k := 7) (tame_tup.mpr ⟨by simp, fun z hz => ?_⟩) (by decide)⟩
  · rcases List.mem_cons.mp hz with e | hz
    · rw [e]; exact t0
    · rw [List.mem_singleton.mp hz]; exact t 1 (by decide)
  · rw [List.mem_singleton.mp hz]; exact t0
theorem day_14 (N : Rn s l i) (hm : m[j]? = some (dO s b l i 100 (past2 l))) : (fIfS (fOrT (fTb (fNotN (fMth "Day" "undo" 1 f_Day_undo (fVar 5) fNil))) (fOrT (fTb (fNotN (fMth "Day" "undo" 1 f_Day_undo (fVar 5) fNil))) (fTb (fBin gNe (fTryM kinds kF (fMth "Day" "undo" 1 f_Day_undo (fVar 5) fNil)) (fC (.str "undo +")))))) (fRet false (fC (.bool false))) fNext) (rE x0 x1 x2 x3 x4 j l (agW l) x8 x9) m = .next (rE x0 x1 x2 x3 x4 j l (agW l) x8 x9) (m.set j (dO s b l i 0 [])) := by
  obtain ⟨s1, s2⟩ := rows_shaped N
  have u1 : f_Day_undo [.loc j] m = .ok (.d .none) (m.set j (dO s b l i 1 [rowsD []])) := v_undo (pl := [rowsD []]) (x := rowsD (tsR l 1)) s1 hm
  have hm1 : (m.set j (dO s b l i 1 [rowsD []]))[j]? = some (dO s b l i 1 [rowsD []]) := set_at hm
  have u2 : f_Day_undo [.loc j] (m.set j (dO s b l i 1 [rowsD []])) = .ok (.d .none) (m.set j (dO s b l i 0 [])) := by
    have := v_undo (pl := []) (x := rowsD []) (m := m.set j (dO s b l i 1 [rowsD []])) s2 hm1
    rw [List.set_set] at this
    exact this
  have hm2 : (m.set j (dO s b l i 0 []))[j]? = some (dO s b l i 0 []) := set_at hm
  have u3 := v_undo_none hm2
  have call : ∀ {m0 : Mu} {X : R W} {k : Nat} {pl : List PyData}, m0[j]? = some (dO s b l i k pl) → f_Day_undo [.loc j] m0 = X → fMth "Day" "undo" 1 f_Day_undo (fVar 5) fNil (rE x0 x1 x2 x3 x4 j l (agW l) x8 x9) m0 = X := fun {m0 X k pl} h0 e => k_mth (ws := []) (m2 := m0) (k_var rfl) h0 rfl k_nil rfl e
  exact k_if (b := false) (q_orF (k_tb (q_notN (call hm u1))) (q_orF (k_tb (q_notN (call hm1 u2))) (k_tb (k_bin (fb := fC (.str "undo +")) (b := .d (.str "undo +")) (m2 := m.set j (dO s b l i 0 [])) (k_exnM (c := "NothingToUndo") (call hm2 u3) rfl) rfl (by kernel_rfl))))) rfl
theorem day_15 (N : Rn s l i) (hm : m[j]? = some (dO s b l i 0 [])) : (fIfS (fOrT (fTb (fBin gNe (fBi (gLenO "Day" f_Day___len__) (fCons (fVar 5) fNil)) (fC (.int 0)))) (fTb (fBin gNe (fBi gLen (fCons (fProp "Day" f_Day_stack (fVar 5)) fNil)) (fC (.int 1))))) (fRet false (fC (.bool false))) fNext) (rE x0 x1 x2 x3 x4 j l (agW l) x8 x9) m = .next (rE x0 x1 x2 x3 x4 j l (agW l) x8 x9) m := by
  have D := day_T (b := b) N 0
  have a : fTb (fBin gNe (fBi (gLenO "Day" f_Day___len__) (fCons (fVar 5) fNil)) (fC (.int 0))) (rE x0 x1 x2 x3 x4 j l (agW l) x8 x9) m = .ok false m := k_tb (k_bin (b := .d (.int 0)) (m2 := m) (k_lenO (n := 0) (k_var rfl) hm (v_dlen (ts := []) hm) (by decide)) rfl (by kernel_rfl))
  have c : fTb (fBin gNe (fBi gLen (fCons (fProp "Day" f_Day_stack (fVar 5)) fNil)) (fC (.int 1))) (rE x0 x1 x2 x3 x4 j l (agW l) x8 x9) m = .ok false m := k_tb (k_bin (b := .d (.int 1)) (m2 := m) (k_len (k_prop (k_var rfl) hm (v_stack hm D (by simp) (by simp)))) rfl (by kernel_rfl))
  exact k_if (b := false) (q_orF a c) rfl
theorem part_day (N : Rn s l i) (hm : m[j]? = some (dO s b l i 0 [])) : ∃ y7 y8 y9, (fThen (fSet 7 (fBin gSub (fC (.int 1)) (fVar 6))) (fThen (fDrop (fMth "Day" "choose" 2 f_Day_choose (fVar 5) (fCons (fVar 7) fNil))) (fThen (fSet 8 (fLst (fCons (fProp "Day" f_Day_state (fVar 5)) (fCons (fProp "Day" f_Day_stack (fVar 5)) (fCons (fBi (gLenO "Day" f_Day___len__) (fCons (fVar 5) fNil)) fNil))))) (fThen (fFor (fSeq (fLst (fCons (fTup (fCons (fVar 7) (fCons (fC (.int 2)) fNil))) (fCons (fTup (fCons (fVar 7) (fCons (fC .none) fNil))) (fCons (fTup (fCons (fVar 7) (fCons (fC (.bool true)) fNil))) (fCons (fTup (fCons (fVar 6) (fCons (fVar 6) fNil))) (fCons (fTup (fCons (fVar 7) (fCons (fC (.int (-1))) fNil))) (fCons (fTup (fCons (fVar 7) (fCons (fC (.str "0")) fNil))) fNil)))))))) (.nm 9) (fIfS (fTb (fBin gNe (fTryM kinds kF (fCall 2 f__law_led_on (fCons (fVar 5) (fCons (fVar 9) fNil)))) (fC (.str "option +")))) (fRet false (fC (.bool false))) fNext)) (fThen (fIfS (fTb (fBin gNe (fTryM kinds kF (fAtt "Day" errs (fVar 5) (fMth "Day" "choose" 2 f_Day_choose (fVar 10) (fCons (fC (.int 2)) fNil)))) (fC (.str "option +")))) (fRet false (fC (.bool false))) fNext) (fThen (fIfS (fOrT (fTb (fBin gNe (fTryM kinds kF (fCall 2 f__law_led_on (fCons (fVar 5) (fCons (fC .none) fNil)))) (fC (.str "option +")))) (fTb (fBin gNe (fLst (fCons (fProp "Day" f_Day_state (fVar 5)) (fCons (fProp "Day" f_Day_stack (fVar 5)) (fCons (fBi (gLenO "Day" f_Day___len__) (fCons (fVar 5) fNil)) fNil)))) (fVar 8)))) (fRet false (fC (.bool false))) fNext) (fThen (fIfS (fTb (fBin gNe (fTryM kinds kF (fCall 2 f__law_led_on (fCons (fVar 5) (fCons (fBin gMulK (fTup (fCons (fVar 7) fNil)) (fC (.int 100))) fNil)))) (fTup (fCons (fC (.str "many +")) (fCons (fC (.int 100)) fNil))))) (fRet false (fC (.bool false))) fNext) (fThen (fIfS (fOrT (fNotT (fTb (fCall 2 f__law_led_on (fCons (fVar 5) (fCons (fBin gMulK (fTup (fCons (fVar 7) fNil)) (fC (.int 99))) fNil))))) (fTb (fBin gNe (fTryM kinds kF (fMth "Day" "choose" 2 f_Day_choose (fVar 5) (fCons (fVar 7) fNil))) (fTup (fCons (fC (.str "many +")) (fCons (fC (.int 100)) fNil)))))) (fRet false (fC (.bool false))) fNext) (fThen (fIfS (fOrT (fTb (fNotN (fMth "Day" "undo" 1 f_Day_undo (fVar 5) fNil))) (fOrT (fTb (fNotN (fMth "Day" "undo" 1 f_Day_undo (fVar 5) fNil))) (fTb (fBin gNe (fTryM kinds kF (fMth "Day" "undo" 1 f_Day_undo (fVar 5) fNil)) (fC (.str "undo +")))))) (fRet false (fC (.bool false))) fNext) (fIfS (fOrT (fTb (fBin gNe (fBi (gLenO "Day" f_Day___len__) (fCons (fVar 5) fNil)) (fC (.int 0)))) (fTb (fBin gNe (fBi gLen (fCons (fProp "Day" f_Day_stack (fVar 5)) fNil)) (fC (.int 1))))) (fRet false (fC (.bool false))) fNext)))))))))) (rE x0 x1 x2 x3 x4 j l x7 x8 x9) m = .next (rE x0 x1 x2 x3 x4 j l y7 y8 y9) (m.set j (dO s b l i 0 [])) := by
  have h1 : (m.set j (dO s b l i 1 [rowsD []]))[j]? = some (dO s b l i 1 [rowsD []]) := set_at hm
  obtain ⟨y, e9⟩ := day_9 (x0 := x0) (x1 := x1) (x2 := x2) (x3 := x3) (x4 := x4) (x8 := some (.d (early l i))) (x9 := x9) N h1
  have e13 := day_13 (x0 := x0) (x1 := x1) (x2 := x2) (x3 := x3) (x4 := x4) (x8 := some (.d (early l i))) (x9 := y) N h1
  rw [List.set_set] at e13
  have h2 : (m.set j (dO s b l i 100 (past2 l)))[j]? = some (dO s b l i 100 (past2 l)) := set_at hm
  have e14 := day_14 (x0 := x0) (x1 := x1) (x2 := x2) (x3 := x3) (x4 := x4) (x8 := some (.d (early l i))) (x9 := y) N h2
  rw [List.set_set] at e14
  exact ⟨_, _, _, k_then day_6 (k_then (day_7 N hm) (k_then (day_8 N h1) (k_then e9 (k_then (day_10 N h1) (k_then (day_11 N h1) (k_then (day_12 N h1) (k_then e13 (k_then e14 (day_15 N (set_at hm))))))))))⟩
end
end Wy
set_option Elab.async false
set_option linter.all false
set_option maxRecDepth 100000
set_option maxHeartbeats 4000000
/-! D13: the law (printed by mkD10.py). -/
namespace Wy
open PySem PySem.Spec PyProof.Rows L2 PySem.W
theorem dk_app {m g : Mu} {n : Nat} {b : Int} (h : Dk m n b) : Dk (m ++ g) n b := by
  obtain ⟨d0, d1, d2, e, a⟩ := h.ex
  exact ⟨d0, d1, d2, by rw [List.getElem?_append_left (List.getElem?_eq_some_iff.mp e).1]; exact e, a⟩
abbrev bDay23 : FS := (fThen (fSet 7 (fBin gSub (fC (.int 1)) (fVar 6))) (fThen (fDrop (fMth "Day" "choose" 2 f_Day_choose (fVar 5) (fCons (fVar 7) fNil))) (fThen (fSet 8 (fLst (fCons (fProp "Day" f_Day_state (fVar 5)) (fCons (fProp "Day" f_Day_stack (fVar 5)) (fCons (fBi (gLenO "Day" f_Day___len__) (fCons (fVar 5) fNil)) fNil))))) (fThen (fFor (fSeq (fLst (fCons (fTup (fCons (fVar 7) (fCons (fC (.int 2)) fNil))) (fCons (fTup (fCons (fVar 7) (fCons (fC .none) fNil))) (fCons (fTup (fCons (fVar 7) (fCons (fC (.bool true)) fNil))) (fCons (fTup (fCons (fVar 6) (fCons (fVar 6) fNil))) (fCons (fTup (fCons (fVar 7) (fCons (fC (.int (-1))) fNil))) (fCons (fTup (fCons (fVar 7) (fCons (fC (.str "0")) fNil))) fNil)))))))) (.nm 9) (fIfS (fTb (fBin gNe (fTryM kinds kF (fCall 2 f__law_led_on (fCons (fVar 5) (fCons (fVar 9) fNil)))) (fC (.str "option +")))) (fRet false (fC (.bool false))) fNext)) (fThen (fIfS (fTb (fBin gNe (fTryM kinds kF (fAtt "Day" errs (fVar 5) (fMth "Day" "choose" 2 f_Day_choose (fVar 10) (fCons (fC (.int 2)) fNil)))) (fC (.str "option +")))) (fRet false (fC (.bool false))) fNext) (fThen (fIfS (fOrT (fTb (fBin gNe (fTryM kinds kF (fCall 2 f__law_led_on (fCons (fVar 5) (fCons (fC .none) fNil)))) (fC (.str "option +")))) (fTb (fBin gNe (fLst (fCons (fProp "Day" f_Day_state (fVar 5)) (fCons (fProp "Day" f_Day_stack (fVar 5)) (fCons (fBi (gLenO "Day" f_Day___len__) (fCons (fVar 5) fNil)) fNil)))) (fVar 8)))) (fRet false (fC (.bool false))) fNext) (fThen (fIfS (fTb (fBin gNe (fTryM kinds kF (fCall 2 f__law_led_on (fCons (fVar 5) (fCons (fBin gMulK (fTup (fCons (fVar 7) fNil)) (fC (.int 100))) fNil)))) (fTup (fCons (fC (.str "many +")) (fCons (fC (.int 100)) fNil))))) (fRet false (fC (.bool false))) fNext) (fThen (fIfS (fOrT (fNotT (fTb (fCall 2 f__law_led_on (fCons (fVar 5) (fCons (fBin gMulK (fTup (fCons (fVar 7) fNil)) (fC (.int 99))) fNil))))) (fTb (fBin gNe (fTryM kinds kF (fMth "Day" "choose" 2 f_Day_choose (fVar 5) (fCons (fVar 7) fNil))) (fTup (fCons (fC (.str "many +")) (fCons (fC (.int 100)) fNil)))))) (fRet false (fC (.bool false))) fNext) (fThen (fIfS (fOrT (fTb (fNotN (fMth "Day" "undo" 1 f_Day_undo (fVar 5) fNil))) (fOrT (fTb (fNotN (fMth "Day" "undo" 1 f_Day_undo (fVar 5) fNil))) (fTb (fBin gNe (fTryM kinds kF (fMth "Day" "undo" 1 f_Day_undo (fVar 5) fNil)) (fC (.str "undo +")))))) (fRet false (fC (.bool false))) fNext) (fIfS (fOrT (fTb (fBin gNe (fBi (gLenO "Day" f_Day___len__) (fCons (fVar 5) fNil)) (fC (.int 0)))) (fTb (fBin gNe (fBi gLen (fCons (fProp "Day" f_Day_stack (fVar 5)) fNil)) (fC (.int 1))))) (fRet false (fC (.bool false))) fNext))))))))))
abbrev bTurn23 : FS := (fThen (fSet 2 (fCall 2 f__law_deck (fCons (fVar 1) (fCons (fC (.int 23)) fNil)))) (fThen (fSet 3 (fCall 3 f__law_house (fCons (fVar 2) (fCons (fC (.int 3)) (fCons (fC (.int 3)) fNil))))) (fThen (fFor (fSeq (fLst (fCons (fC .none) (fCons (fSl (fVar 3) fNoP (fPart (fC (.int 1)))) (fCons (fBi gList (fCons (fVar 3) fNil)) fNil))))) (.nm 4) (fIfS (fTb (fBin gNe (fTryM kinds kF (fMake "Day" 4 f_Day___init__ (fCons (fVar 4) (fCons (fC .none) (fCons (fC .none) fNil))))) (fC (.str "house +")))) (fRet false (fC (.bool false))) fNext)) (fThen (fFor (fSeq (fLst (fCons (fC .none) (fCons (fC (.int (-1))) (fCons (fBi gLen (fCons (fBin gIx (fVar 3) (fC (.int 1))) fNil)) (fCons (fC (.bool true)) fNil)))))) (.nm 4) (fIfS (fTb (fBin gNe (fTryM kinds kF (fMake "Day" 4 f_Day___init__ (fCons (fVar 3) (fCons (fVar 4) (fCons (fC .none) fNil))))) (fC (.str "errand +")))) (fRet false (fC (.bool false))) fNext)) (fThen (fFor (fSeq (fLst (fCons (fC .none) (fCons (fC (.int (-1))) (fCons (fBin gIx (fVar 3) (fC (.int 0))) (fCons (fC (.bool true)) fNil)))))) (.nm 4) (fIfS (fTb (fBin gNe (fTryM kinds kF (fMake "Day" 4 f_Day___init__ (fCons (fVar 3) (fCons (fC (.int 0)) (fCons (fVar 4) fNil))))) (fC (.str "state +")))) (fRet false (fC (.bool false))) fNext)) (fThen (fAsg (.tp [(.nm 5), (.nm 6)]) (fCall 1 f__law_round (fCons (fVar 2) fNil))) bDay23))))))
theorem turn23 (x0 : Option W) (c : Int) (x2 x3 x4 x5 x6 x7 x8 x9 : Option W) (m : Mu) : ∃ m' y2 y3 y4 y5 y6 y7 y8 y9, bTurn23 (rD x0 (some (.d (.int c))) x2 x3 x4 x5 x6 x7 x8 x9) m = .next (rD x0 (some (.d (.int c))) y2 y3 y4 y5 y6 y7 y8 y9) m' := by
  obtain ⟨o, e1, D⟩ := v_deck c 23 (by decide) m
  obtain ⟨h, m2, e2, ok, D2⟩ := v_house (Dm.new D) (by decide) (most := 3) (wide := 3) (by decide) (by decide)
  have p0 : (fSet 2 (fCall 2 f__law_deck (fCons (fVar 1) (fCons (fC (.int 23)) fNil)))) (rD x0 (some (.d (.int c))) x2 x3 x4 x5 x6 x7 x8 x9) m = .next (rD x0 (some (.d (.int c))) (some (.loc m.length)) x3 x4 x5 x6 x7 x8 x9) (m ++ [o]) := k_set (k_call2 (k_var rfl) rfl e1)
  have p1 : (fSet 3 (fCall 3 f__law_house (fCons (fVar 2) (fCons (fC (.int 3)) (fCons (fC (.int 3)) fNil))))) (rD x0 (some (.d (.int c))) (some (.loc m.length)) x3 x4 x5 x6 x7 x8 x9) (m ++ [o]) = .next (rD x0 (some (.d (.int c))) (some (.loc m.length)) (some (.d (eH h))) x4 x5 x6 x7 x8 x9) m2 := k_set (k_call3 (k_var rfl) rfl rfl e2)
  obtain ⟨y2, g2, p2⟩ := part_hou (x0 := x0) (x1 := some (.d (.int c))) (x2 := some (.loc m.length)) (x4 := x4) (x5 := x5) (x6 := x6) (x7 := x7) (x8 := x8) (x9 := x9) (h := h) (m := m2)
  obtain ⟨y3, g3, p3⟩ := part_err (x0 := x0) (x1 := some (.d (.int c))) (x2 := some (.loc m.length)) (x4 := y2) (x5 := x5) (x6 := x6) (x7 := x7) (x8 := x8) (x9 := x9) (m := m2 ++ g2) ok
  obtain ⟨y4, g4, p4⟩ := part_sta (x0 := x0) (x1 := some (.d (.int c))) (x2 := some (.loc m.length)) (x4 := y3) (x5 := x5) (x6 := x6) (x7 := x7) (x8 := x8) (x9 := x9) (m := m2 ++ g2 ++ g3) ok
  have K : Dk (m2 ++ g2 ++ g3 ++ g4) m.length (23 + 100000000) := dk_app (dk_app (dk_app D2.dk))
  obtain ⟨s, l, i, b, m5, N, l5, e5⟩ := v_round (Dm.self K) (by decide)
  have p5 : (fAsg (.tp [(.nm 5), (.nm 6)]) (fCall 1 f__law_round (fCons (fVar 2) fNil))) (rD x0 (some (.d (.int c))) (some (.loc m.length)) (some (.d (eH h))) y4 x5 x6 x7 x8 x9) (m2 ++ g2 ++ g3 ++ g4) = .next (rE x0 (some (.d (.int c))) (some (.loc m.length)) (some (.d (eH h))) y4 m5.length l x7 x8 x9) (m5 ++ [dO s b l i 0 []]) := by
    have call : fCall 1 f__law_round (fCons (fVar 2) fNil) (rD x0 (some (.d (.int c))) (some (.loc m.length)) (some (.d (eH h))) y4 x5 x6 x7 x8 x9) (m2 ++ g2 ++ g3 ++ g4) = .ok (.wt [.loc m5.length, .d (.int (doneR l))]) (m5 ++ [dO s b l i 0 []]) := by
      rw [l5]
      exact k_call1 (k_var rfl) e5
    unfold fAsg
    rw [call]
    rfl
  obtain ⟨z7, z8, z9, p6⟩ := part_day (x0 := x0) (x1 := some (.d (.int c))) (x2 := some (.loc m.length)) (x3 := some (.d (eH h))) (x4 := y4) (x7 := x7) (x8 := x8) (x9 := x9) N (at_end m5 (dO s b l i 0 []))
  exact ⟨_, _, _, _, _, _, _, _, _, k_then p0 (k_then p1 (k_then p2 (k_then p3 (k_then p4 (k_then p5 p6)))))⟩
theorem pure_law (ns : List Int) (hl : ns.length ≤ 63) : f_law [.d (.list (ns.map PyData.int))] [] = .ok (.d (.bool true)) [] := by
  obtain ⟨r', m', hf, y1, y2, y3, y4, y5, y6, y7, y8, y9, er⟩ := for_inv (pt := .nm 1) (fb := bTurn23) (fun c : Int => W.d (.int c))
    (fun rest r m' => ∃ y1 y2 y3 y4 y5 y6 y7 y8 y9, r = rD (some (.d (.list (ns.map PyData.int)))) y1 y2 y3 y4 y5 y6 y7 y8 y9)
    ((0 :: ns).take 8) (rD (some (.d (.list (ns.map PyData.int)))) none none none none none none none none none) [] ⟨_, _, _, _, _, _, _, _, _, rfl⟩
    (fun c rest r m' ⟨y1, y2, y3, y4, y5, y6, y7, y8, y9, er⟩ => by
      subst er
      obtain ⟨m'', z2, z3, z4, z5, z6, z7, z8, z9, e⟩ := turn23 (some (.d (.list (ns.map PyData.int)))) c y2 y3 y4 y5 y6 y7 y8 y9 m'
      exact ⟨_, rfl, _, m'', .inl e, _, _, _, _, _, _, _, _, _, rfl⟩)
  subst er
  have sq := e_cells ns 8 hl (r := rD (some (.d (.list (ns.map PyData.int)))) none none none none none none none none none) (m := []) rfl
  show fnF 10 b_law _ _ = _
  have all : b_law (startR 10 [.d (.list (ns.map PyData.int))]) [] = .ret false (.d (.bool true)) m' := by
    unfold b_law
    exact k_then (k_for sq hf) rfl
  unfold fnF
  rw [all]
  rfl
end Wy
set_option Elab.async false
set_option linter.all false
set_option maxRecDepth 100000
set_option maxHeartbeats 4000000
namespace Wy
open PySem PySem.Spec PyProof.Rows L2
def top (i : Nat) : Stmt := PySem.Challenge.pw_whileatit_k23_errors_of_objects.main.body.getD i (.Pass ⟨0, 0, 0, 0⟩)
structure Bt (mg : Str → Option Value) : Prop where
  h_all : mg "all" = none
  h_bool : mg "bool" = none
  h_enumerate : mg "enumerate" = none
  h_int : mg "int" = none
  h_isinstance : mg "isinstance" = none
  h_len : mg "len" = none
  h_list : mg "list" = none
  h_range : mg "range" = none
  h_set : mg "set" = none
  h_sorted : mg "sorted" = none
  h_str : mg "str" = none
  h_tuple : mg "tuple" = none
  h_zip : mg "zip" = none
abbrev cfs : List Str := ["ground", "first", "now", "past"]
abbrev s_Day_attempt : Stmt := (clsBody (top 32)).getD 13 (.Pass ⟨0, 0, 0, 0⟩)
theorem sc_Day_attempt : Wt.AttS (defScope s_Day_attempt) := ⟨⟨rfl, rfl, rfl, by decide +kernel, rfl, by decide +kernel, by decide +kernel⟩, rfl, Or.inl rfl, Or.inl rfl, rfl⟩
abbrev s__law_kin : Stmt := top 37
abbrev N__law_kin : List Str := ["_law_e", "_law_kinds", "_law_names", "_law_name", "_law_good"]
theorem sc__law_kin : FnScope N__law_kin ["_law_e"] (defScope s__law_kin) := ⟨rfl, rfl, rfl, by decide +kernel, rfl, by decide +kernel, by decide +kernel⟩
open Wt HotX L2H in
theorem ok__law_kin {P : Program} {w : World} {K : PySem.W.Frag} {mg : Str → Option Value} {base : Heap} {f : Addr} {fd : FuncData} {k : Nat} {a1 a2 a3 a4 a5 a6 a7 a8 a9 a10 a11 a12 : Addr} (F : Wy.FnP K "_law_kin" s__law_kin f fd) (M : Kinds mg a1 a2 a3 a4 a5 a6 a7 a8 a9 a10 a11 a12) :
    Wt.FnP P w K mg base C8.CX0 (k + 1) f fd ["_law_e"] (kinSp K (kinA K a1 a2 a3 a4 a5 a6 a7 a8 a9 a10 a11 a12)) := by
  obtain ⟨oc, od, dV, kV, doc, pm, an, cdv, ct, osl, rfl, lk, hcd, _, _⟩ := F.ex
  refine fn_ofP (N := N__law_kin) lk hcd sc__law_kin (fun p vs H Q E h => by obtain ⟨_, _, rfl, _⟩ := h; rfl) fun A outer s H vs Q E p hot hr h => ?_
  obtain ⟨D, kin, rfl, hE, hz, hf, ⟨bs, hA, hb, rfl⟩, q⟩ := h
  have is : ∀ {cv : V} {y : Str} {p1 p2 p3 p4 : Pos}, PE (cxH C8.CX0 P w K mg base N__law_kin "_law_kin" (defScope s__law_kin) f cdv A outer s H E p) (.Name y p4) (tC cv) →
      PE (cxH C8.CX0 P w K mg base N__law_kin "_law_kin" (defScope s__law_kin) f cdv A outer s H E p) (.Call (.Name "isinstance" p1) [.Name "_law_e" p2, .Name y p4] [] p3) (tIs K D p.1 cv) := fun he =>
    pe_callB (call_isP (X := cxH C8.CX0 P w K mg base N__law_kin "_law_kin" (defScope s__law_kin) f cdv A outer s H E p) (oe := p.2) List.mem_cons_self hE hz hf) rfl M.hi rfl (pa_cons (pv 0) (pa_cons he pa_nil))
  refine ⟨tKin K D p.1 (.ref a1) (.ref a2) (.ref a3) (.ref a4) (.ref a5) (.ref a6) (.ref a7) (.ref a8) (.ref a9) (.ref a10) (.ref a11) (.ref a12) (.ty "ValueError") "house errand state wish run option paper index unlike undo many text +" " ", ?_,
    kin_ans (a := p.1) hA (nx := fun _ H' => Q .non H') (H := H) (Q := Q) (by decide) (by decide) rfl (by decide +kernel) hb q⟩
  refine pss_cons (ps_set (i := 1) sc__law_kin.nd rfl (Or.inl rfl) (pe_lst (pa_cons (is (pe_glob rfl M.h1 rfl)) (pa_cons (is (pe_glob rfl M.h2 rfl)) (pa_cons (is (pe_glob rfl M.h3 rfl)) pa_nil))))) ?_
  refine pss_cons (ps_set (i := 1) sc__law_kin.nd rfl (Or.inl rfl) (pe_op op_cat (pv 1) (pe_lst (pa_cons (is (pe_glob rfl M.h4 rfl)) (pa_cons (is (pe_glob rfl M.h5 rfl)) (pa_cons (is (pe_glob rfl M.h6 rfl)) pa_nil)))))) ?_
  refine pss_cons (ps_set (i := 1) sc__law_kin.nd rfl (Or.inl rfl) (pe_op op_cat (pv 1) (pe_lst (pa_cons (is (pe_glob rfl M.h7 rfl)) (pa_cons (is (pe_glob rfl M.h8 rfl)) (pa_cons (is (pe_glob rfl M.h9 rfl)) pa_nil)))))) ?_
  refine pss_cons (ps_set (i := 1) sc__law_kin.nd rfl (Or.inl rfl) (pe_op op_cat (pv 1) (pe_lst (pa_cons (is (pe_glob rfl M.h10 rfl)) (pa_cons (is (pe_glob rfl M.h11 rfl)) (pa_cons (is (pe_glob rfl M.h12 rfl)) pa_nil)))))) ?_
  refine pss_cons (ps_set (i := 1) sc__law_kin.nd rfl (Or.inl rfl) (pe_op op_cat (pv 1) (pe_lst (pa_cons (is (pe_bltn rfl M.hv rfl rfl)) pa_nil)))) ?_
  refine pss_cons (ps_set (i := 2) sc__law_kin.nd rfl (Or.inl rfl) pe_str) ?_
  refine pss_one (ps_ret (pe_join pe_str ?_))
  refine pe_lcP (own := [("_law_name", 3), ("_law_good", 4)]) (ph := p) hot List.mem_cons_self sc__law_kin.nd (pi_zipP rfl M.hz (pa_cons (pe_split (pv 2) pe_str) (pa_cons (pv 1) pa_nil))) (blkOk_by (N := N__law_kin) (sc := defScope s__law_kin) (by decide +kernel)) (fun s' H' C cl fp => ?_) (fun s' H' C cl fp => pts_one (pt_val (pv 4))) (fun s' H' C cl fp => pv 3)
  exact pg_tupP (ph := p) hot List.mem_cons_self (pgs_cons (pg_name (i := 3) sc__law_kin.nd rfl (Or.inl rfl)) (pgs_cons (pg_name (i := 4) sc__law_kin.nd rfl (Or.inl rfl)) pgs_nil))
open Wt HotX L2H in
theorem ok__law_kinF {P : Program} {w : World} {K : PySem.W.Frag} {mg : Str → Option Value} {base : Heap} {f : Addr} {fd : FuncData} {k : Nat} {a1 a2 a3 a4 a5 a6 a7 a8 a9 a10 a11 a12 : Addr} (F : Wy.FnP K "_law_kin" s__law_kin f fd) (M : Kinds mg a1 a2 a3 a4 a5 a6 a7 a8 a9 a10 a11 a12) :
    Wt.FnP P w K mg base C8.CX0 (k + 1) f fd ["_law_e"] (kinSpF K (kinA K a1 a2 a3 a4 a5 a6 a7 a8 a9 a10 a11 a12)) := by
  obtain ⟨oc, od, dV, kV, doc, pm, an, cdv, ct, osl, rfl, lk, hcd, _, _⟩ := F.ex
  refine fn_ofP (N := N__law_kin) lk hcd sc__law_kin (fun p vs H Q E h => by obtain ⟨_, _, _, rfl, _⟩ := h; rfl) fun A outer s H vs Q E p hot hr h => ?_
  obtain ⟨D, dd, kin, rfl, hE, hz, hd, hf, ⟨bs, hA, hb, rfl⟩, q⟩ := h
  have is : ∀ {cv : V} {y : Str} {p1 p2 p3 p4 : Pos}, PE (cxH C8.CX0 P w K mg base N__law_kin "_law_kin" (defScope s__law_kin) f cdv A outer s H E p) (.Name y p4) (tC cv) →
      PE (cxH C8.CX0 P w K mg base N__law_kin "_law_kin" (defScope s__law_kin) f cdv A outer s H E p) (.Call (.Name "isinstance" p1) [.Name "_law_e" p2, .Name y p4] [] p3) (tIsG K D p.1 dd cv) := fun he =>
    pe_callB (call_isG (X := cxH C8.CX0 P w K mg base N__law_kin "_law_kin" (defScope s__law_kin) f cdv A outer s H E p) (oe := p.2) List.mem_cons_self hE hz hf) rfl M.hi rfl (pa_cons (pv 0) (pa_cons he pa_nil))
  refine ⟨tKinG K D p.1 dd (.ref a1) (.ref a2) (.ref a3) (.ref a4) (.ref a5) (.ref a6) (.ref a7) (.ref a8) (.ref a9) (.ref a10) (.ref a11) (.ref a12) (.ty "ValueError") "house errand state wish run option paper index unlike undo many text +" " ", ?_,
    kin_ansG (a := p.1) hA (nx := fun _ H' => Q .non H') (H := H) (Q := Q) (by decide) (by decide) rfl (by decide +kernel) hb hd q⟩
  refine pss_cons (ps_set (i := 1) sc__law_kin.nd rfl (Or.inl rfl) (pe_lst (pa_cons (is (pe_glob rfl M.h1 rfl)) (pa_cons (is (pe_glob rfl M.h2 rfl)) (pa_cons (is (pe_glob rfl M.h3 rfl)) pa_nil))))) ?_
  refine pss_cons (ps_set (i := 1) sc__law_kin.nd rfl (Or.inl rfl) (pe_op op_cat (pv 1) (pe_lst (pa_cons (is (pe_glob rfl M.h4 rfl)) (pa_cons (is (pe_glob rfl M.h5 rfl)) (pa_cons (is (pe_glob rfl M.h6 rfl)) pa_nil)))))) ?_
  refine pss_cons (ps_set (i := 1) sc__law_kin.nd rfl (Or.inl rfl) (pe_op op_cat (pv 1) (pe_lst (pa_cons (is (pe_glob rfl M.h7 rfl)) (pa_cons (is (pe_glob rfl M.h8 rfl)) (pa_cons (is (pe_glob rfl M.h9 rfl)) pa_nil)))))) ?_
  refine pss_cons (ps_set (i := 1) sc__law_kin.nd rfl (Or.inl rfl) (pe_op op_cat (pv 1) (pe_lst (pa_cons (is (pe_glob rfl M.h10 rfl)) (pa_cons (is (pe_glob rfl M.h11 rfl)) (pa_cons (is (pe_glob rfl M.h12 rfl)) pa_nil)))))) ?_
  refine pss_cons (ps_set (i := 1) sc__law_kin.nd rfl (Or.inl rfl) (pe_op op_cat (pv 1) (pe_lst (pa_cons (is (pe_bltn rfl M.hv rfl rfl)) pa_nil)))) ?_
  refine pss_cons (ps_set (i := 2) sc__law_kin.nd rfl (Or.inl rfl) pe_str) ?_
  refine pss_one (ps_ret (pe_join pe_str ?_))
  refine pe_lcP (own := [("_law_name", 3), ("_law_good", 4)]) (ph := p) hot List.mem_cons_self sc__law_kin.nd (pi_zipP rfl M.hz (pa_cons (pe_split (pv 2) pe_str) (pa_cons (pv 1) pa_nil))) (blkOk_by (N := N__law_kin) (sc := defScope s__law_kin) (by decide +kernel)) (fun s' H' C cl fp => ?_) (fun s' H' C cl fp => pts_one (pt_val (pv 4))) (fun s' H' C cl fp => pv 3)
  exact pg_tupP (ph := p) hot List.mem_cons_self (pgs_cons (pg_name (i := 3) sc__law_kin.nd rfl (Or.inl rfl)) (pgs_cons (pg_name (i := 4) sc__law_kin.nd rfl (Or.inl rfl)) pgs_nil))
abbrev s__law_try : Stmt := top 38
theorem sc__law_try : FnScope Wt.nTry ["_law_call_so"] (defScope s__law_try) := ⟨rfl, rfl, rfl, by decide +kernel, rfl, by decide +kernel, by decide +kernel⟩
open Wt HotX L2H in
theorem tryXM_ok {P : Program} {w : World} {K : PySem.W.Frag} {mg : Str → Option Value} {base : Heap} {f fK : Addr} {fd fdK : FuncData} (F : Wy.FnP K "_law_try" s__law_try f fd) (gm : mg "_law_try" = some (.ref f)) (FK : Wy.FnP K "_law_kin" s__law_kin fK fdK) (gK : mg "_law_kin" = some (.ref fK)) (M : KindsK K mg)
    (mE : mg "ErrandError" = some (.ref (He.ga K "ErrandError"))) (T : TryKM K mg (kindA K) (.ref (He.ga K "InvalidText")) (.ref (He.ga K "ErrandError")) (tmA K) kinds kF) (xf : L2.XfC K (tmA K)) (hno : PySem.W.findIn K (.ref (tmA K)) "limit" = some none) (X : Cx) (hP : X.prog = P) (hw : X.w = w) (hK : X.K = K) (hm : X.mg = mg) (hb : X.base = base) : TryXM X kinds kF := by
  subst hP hw hK hm hb
  have bK := FK.bindsN (ps := ["_law_e"]) fun _ _ _ _ _ _ us hl => match us, hl with | [_], _ => rfl
  have bT := F.bindsN (ps := ["_law_call_so"]) fun _ _ _ _ _ _ us hl => match us, hl with | [_], _ => rfl
  have kpT := F.kp
  obtain ⟨oc, od, dV, kV, doc, pm, an, cdv, ct, osl, rfl, lk, hcd, _, _⟩ := F.ex
  exact ⟨f, oc, od, defArgs s__law_try, defBody s__law_try, defScope s__law_try, dV, kV, doc, pm, an, cdv, ct, osl, kindA X.K, .ref (He.ga X.K "InvalidText"), .ref (He.ga X.K "ErrandError"), tmA X.K, gm, kpT, lk, hcd, bT, sc__law_try, Or.inl rfl,
    try_givesM (k := 0) (A := kindA X.K) (Or.inl rfl) rfl (Or.inl rfl) rfl (Or.inl rfl) (Or.inl rfl) rfl rfl rfl rfl M.h11 M.h12 mE gK FK.kp bK (ok__law_kin (k := 0) FK M) (ok__law_kinF (k := 0) FK M) xf hno, T⟩
abbrev s__law_deck : Stmt := top 34
abbrev N__law_deck : List Str := ["_law_cell", "_law_turn"]
theorem sc__law_deck : FnScope N__law_deck ["_law_cell", "_law_turn"] (defScope s__law_deck) := ⟨rfl, rfl, rfl, by decide +kernel, rfl, by decide +kernel, by decide +kernel⟩
theorem ok__law_deck {P : Program} {w : World} {K : PySem.W.Frag} {mg : Str → Option Value} {base : Heap} {f : Addr} {fd : FuncData} {kk : Nat} (F : FnP K "_law_deck" s__law_deck f fd) (gm : mg "_law_deck" = some (.ref f)) (B : Bt mg) (Y : ClsF K mg "Day" cfs) : Cal P w K mg base (kk + 2 + 1) 2 "_law_deck" (f__law_deck) := by
  refine ⟨f, fd, ["_law_cell", "_law_turn"], fn_ok 2 2 F sc__law_deck rfl rfl fun cdv A outer s H E hr => ?_, gm, F.kp, F.bindsN fun _ _ _ _ _ _ us hl => match us, hl with | [_, _], _ => rfl⟩
  have hu := hu5 hr
  have hu4 := hu4 hr
  exact (wss_cons (ws_if (wt_cmp (ow_ge hu4) (we_var (pv 0 rfl (Or.inl rfl))) (we_bin ow_pow we_int we_int) (nomark _)) (wss_one (ws_ret true (we_lstN (wa_cons (we_bin ow_sub (we_var (pv 0 rfl (Or.inl rfl))) (we_bin ow_pow we_int we_int)) (wa_cons (we_bin ow_mod (we_var (pv 0 rfl (Or.inl rfl))) we_int) (wa_cons (we_var (pv 1 rfl (Or.inl rfl))) wa_nil)))))) wss_nil)
  (wss_one (ws_ret true (we_lstN (wa_cons we_int (wa_cons (we_bin ow_mod (we_var (pv 0 rfl (Or.inl rfl))) we_int) (wa_cons (we_var (pv 1 rfl (Or.inl rfl))) wa_nil)))))))
abbrev s__law_pick : Stmt := top 35
abbrev N__law_pick : List Str := ["_law_deck_here", "_law_size", "_law_found", "_law_number"]
theorem sc__law_pick : FnScope N__law_pick ["_law_deck_here", "_law_size"] (defScope s__law_pick) := ⟨rfl, rfl, rfl, by decide +kernel, rfl, by decide +kernel, by decide +kernel⟩
theorem ok__law_pick {P : Program} {w : World} {K : PySem.W.Frag} {mg : Str → Option Value} {base : Heap} {f : Addr} {fd : FuncData} {kk : Nat} (F : FnP K "_law_pick" s__law_pick f fd) (gm : mg "_law_pick" = some (.ref f)) (B : Bt mg) (Y : ClsF K mg "Day" cfs) : Cal P w K mg base (kk + 2 + 1) 2 "_law_pick" (f__law_pick) := by
  refine ⟨f, fd, ["_law_deck_here", "_law_size"], fn_ok 2 4 F sc__law_pick rfl rfl fun cdv A outer s H E hr => ?_, gm, F.kp, F.bindsN fun _ _ _ _ _ _ us hl => match us, hl with | [_, _], _ => rfl⟩
  have hu := hu5 hr
  have hu4 := hu4 hr
  exact (wss_cons (ws_if (wt_cmp (ow_gt hu4) (we_ix hu (we_var (pv 0 rfl (Or.inl rfl))) we_int (fun _ _ => rfl)) we_int (nomark _)) (wss_cons (ws_set (i := 2) sc__law_pick.nd rfl (Or.inl rfl) (we_bin ow_mod (we_ty cw_int rfl B.h_int rfl (wa_cons (we_ix hu (we_var (pv 0 rfl (Or.inl rfl))) we_int (fun _ _ => rfl)) wa_nil)) (we_var (pv 1 rfl (Or.inl rfl)))))
  (wss_cons (ws_st hu (we_bin ow_fdiv (we_ix hu (we_var (pv 0 rfl (Or.inl rfl))) we_int (fun _ _ => rfl)) (we_var (pv 1 rfl (Or.inl rfl)))) (we_var (pv 0 rfl (Or.inl rfl))) we_int)
  (wss_one (ws_ret false (we_var (pv 2 rfl (Or.inl rfl))))))) wss_nil)
  (wss_cons (ws_st hu (we_bin ow_add (we_ix hu (we_var (pv 0 rfl (Or.inl rfl))) we_int (fun _ _ => rfl)) we_int) (we_var (pv 0 rfl (Or.inl rfl))) we_int)
  (wss_cons (ws_set (i := 3) sc__law_pick.nd rfl (Or.inl rfl) (we_bin ow_mod (we_bin ow_pow (we_bin ow_add (we_ix hu (we_var (pv 0 rfl (Or.inl rfl))) we_int (fun _ _ => rfl)) (we_bin ow_mul we_int (we_ix hu (we_var (pv 0 rfl (Or.inl rfl))) we_int (fun _ _ => rfl)))) we_int) we_int))
  (wss_cons (ws_set (i := 2) sc__law_pick.nd rfl (Or.inl rfl) (we_bin ow_fdiv (we_bin ow_mod (we_bin ow_pow (we_bin ow_add (we_var (pv 3 rfl (Or.inl rfl))) (we_bin ow_mul we_int (we_ix hu (we_var (pv 0 rfl (Or.inl rfl))) we_int (fun _ _ => rfl)))) we_int) we_int) we_int))
  (wss_one (ws_ret false (we_bin ow_mod (we_ty cw_int rfl B.h_int rfl (wa_cons (we_var (pv 2 rfl (Or.inl rfl))) wa_nil)) (we_var (pv 1 rfl (Or.inl rfl))))))))))
abbrev s__law_wish : Stmt := top 39
abbrev N__law_wish : List Str := ["_law_deck_here", "_law_states", "_law_first", "_law_one_here"]
theorem sc__law_wish : FnScope N__law_wish ["_law_deck_here", "_law_states"] (defScope s__law_wish) := ⟨rfl, rfl, rfl, by decide +kernel, rfl, by decide +kernel, by decide +kernel⟩
theorem ok__law_wish {P : Program} {w : World} {K : PySem.W.Frag} {mg : Str → Option Value} {base : Heap} {f : Addr} {fd : FuncData} {kk : Nat} (F : FnP K "_law_wish" s__law_wish f fd) (gm : mg "_law_wish" = some (.ref f)) (B : Bt mg) (Y : ClsF K mg "Day" cfs) (C__law_pick : Cal P w K mg base kk 2 "_law_pick" (f__law_pick)) : Cal P w K mg base (kk + 2 + 1) 2 "_law_wish" (f__law_wish) := by
  refine ⟨f, fd, ["_law_deck_here", "_law_states"], fn_ok 2 4 F sc__law_wish rfl rfl fun cdv A outer s H E hr => ?_, gm, F.kp, F.bindsN fun _ _ _ _ _ _ us hl => match us, hl with | [_, _], _ => rfl⟩
  have hu := hu5 hr
  have hu4 := hu4 hr
  exact (wss_cons (ws_set (i := 2) sc__law_wish.nd rfl (Or.inr rfl) (we_callC C__law_pick (hr.mono (by omega)) rfl pass_of (wa_cons (we_var (pv 0 rfl (Or.inr (Or.inl rfl)))) (wa_cons (we_var (pv 1 rfl (Or.inl rfl))) wa_nil))))
  (wss_one (ws_ret false (we_ty cw_tuple rfl B.h_tuple rfl (wa_cons (we_comp (own := [("_law_one_here", 3)]) rfl sc__law_wish.nd (wi_rng1 (we_var (pv 1 rfl (Or.inl rfl))) rfl B.h_range) (blkOk_by (N := N__law_wish) (sc := defScope s__law_wish) (by decide +kernel)) (by decide) (fun _ _ _ _ _ => (wp_nm sc__law_wish.nd (i := 3) rfl (Or.inl rfl))) (fun _ _ _ _ _ => (wts_one (WW.t (ww_or (wt_cmp (ow_eq hu4) (we_var (pv 3 rfl (Or.inl rfl))) (we_var (pv 2 rfl (Or.inr (Or.inl rfl)))) (nomark _)) (ww_or1 (wt_cmp (ow_eq hu4) (we_callC C__law_pick (hr.mono (by omega)) rfl passLN (wa_cons (we_var (pv 0 rfl (Or.inr (Or.inl rfl)))) (wa_cons we_int wa_nil))) we_int (nomark _))))))) (fun _ _ _ _ _ => (we_var (pv 3 rfl (Or.inl rfl))))) wa_nil)))))
abbrev s__law_option : Stmt := top 40
abbrev N__law_option : List Str := ["_law_deck_here", "_law_states", "_law_many", "_law_lines", "_law_at", "_law_need", "_law_side", "_law_go"]
theorem sc__law_option : FnScope N__law_option ["_law_deck_here", "_law_states", "_law_many", "_law_lines", "_law_at"] (defScope s__law_option) := ⟨rfl, rfl, rfl, by decide +kernel, rfl, by decide +kernel, by decide +kernel⟩
theorem ok__law_option {P : Program} {w : World} {K : PySem.W.Frag} {mg : Str → Option Value} {base : Heap} {f : Addr} {fd : FuncData} {kk : Nat} (F : FnP K "_law_option" s__law_option f fd) (gm : mg "_law_option" = some (.ref f)) (B : Bt mg) (Y : ClsF K mg "Day" cfs) (C__law_pick : Cal P w K mg base kk 2 "_law_pick" (f__law_pick)) (C__law_wish : Cal P w K mg base kk 2 "_law_wish" (f__law_wish)) : Cal P w K mg base (kk + 2 + 1) 5 "_law_option" (f__law_option) := by
  refine ⟨f, fd, ["_law_deck_here", "_law_states", "_law_many", "_law_lines", "_law_at"], fn_ok 5 8 F sc__law_option rfl rfl fun cdv A outer s H E hr => ?_, gm, F.kp, F.bindsN fun _ _ _ _ _ _ us hl => match us, hl with | [_, _, _, _, _], _ => rfl⟩
  have hu := hu5 hr
  have hu4 := hu4 hr
  exact (wss_cons (ws_set (i := 5) sc__law_option.nd rfl (Or.inl rfl) (we_if (wt_cmp (ow_gt hu4) (we_callC C__law_pick (hr.mono (by omega)) rfl pass_of (wa_cons (we_var (pv 0 rfl (Or.inl rfl))) (wa_cons we_int wa_nil))) we_int (nomark _)) (we_tupR rfl (we_var (pv 1 rfl (Or.inl rfl))) rfl B.h_tuple rfl B.h_range) (we_callC C__law_wish (hr.mono (by omega)) rfl pass_of (wa_cons (we_var (pv 0 rfl (Or.inl rfl))) (wa_cons (we_var (pv 1 rfl (Or.inl rfl))) wa_nil)))))
  (wss_cons (ws_set (i := 6) sc__law_option.nd rfl (Or.inl rfl) (we_if (wt_cmp (ow_eq hu4) (we_callC C__law_pick (hr.mono (by omega)) rfl pass_of (wa_cons (we_var (pv 0 rfl (Or.inl rfl))) (wa_cons we_int wa_nil))) we_int (nomark _)) (we_callC C__law_pick (hr.mono (by omega)) rfl pass_of (wa_cons (we_var (pv 0 rfl (Or.inl rfl))) (wa_cons (we_var (pv 2 rfl (Or.inl rfl))) wa_nil))) we_neg))
  (wss_cons (ws_set (i := 7) sc__law_option.nd rfl (Or.inl rfl) (we_if (wt_cmp (ow_gt hu4) (we_callC C__law_pick (hr.mono (by omega)) rfl pass_of (wa_cons (we_var (pv 0 rfl (Or.inl rfl))) (wa_cons we_int wa_nil))) we_int (nomark _)) (we_bin ow_add (we_bin ow_add (we_var (pv 4 rfl (Or.inl rfl))) we_int) (we_callC C__law_pick (hr.mono (by omega)) rfl pass_of (wa_cons (we_var (pv 0 rfl (Or.inl rfl))) (wa_cons (we_bin ow_sub (we_var (pv 3 rfl (Or.inl rfl))) (we_var (pv 4 rfl (Or.inl rfl)))) wa_nil)))) (we_callC C__law_pick (hr.mono (by omega)) rfl pass_of (wa_cons (we_var (pv 0 rfl (Or.inl rfl))) (wa_cons (we_bin ow_add (we_var (pv 3 rfl (Or.inl rfl))) we_int) wa_nil)))))
  (wss_one (ws_ret false (we_tup (wa_cons (we_var (pv 5 rfl (Or.inl rfl))) (wa_cons (we_var (pv 6 rfl (Or.inl rfl))) (wa_cons (we_callC C__law_pick (hr.mono (by omega)) rfl pass_of (wa_cons (we_var (pv 0 rfl (Or.inl rfl))) (wa_cons (we_var (pv 1 rfl (Or.inl rfl))) wa_nil))) (wa_cons (we_var (pv 7 rfl (Or.inl rfl))) wa_nil))))))))))
abbrev s__law_one : Stmt := top 36
abbrev N__law_one : List Str := ["_law_deck_here", "_law_some"]
theorem sc__law_one : FnScope N__law_one ["_law_deck_here", "_law_some"] (defScope s__law_one) := ⟨rfl, rfl, rfl, by decide +kernel, rfl, by decide +kernel, by decide +kernel⟩
theorem ok__law_one {P : Program} {w : World} {K : PySem.W.Frag} {mg : Str → Option Value} {base : Heap} {f : Addr} {fd : FuncData} {kk : Nat} (F : FnP K "_law_one" s__law_one f fd) (gm : mg "_law_one" = some (.ref f)) (B : Bt mg) (Y : ClsF K mg "Day" cfs) (C__law_pick : Cal P w K mg base kk 2 "_law_pick" (f__law_pick)) : Cal P w K mg base (kk + 2 + 1) 2 "_law_one" (f__law_one) := by
  refine ⟨f, fd, ["_law_deck_here", "_law_some"], fn_ok 2 2 F sc__law_one rfl rfl fun cdv A outer s H E hr => ?_, gm, F.kp, F.bindsN fun _ _ _ _ _ _ us hl => match us, hl with | [_, _], _ => rfl⟩
  have hu := hu5 hr
  have hu4 := hu4 hr
  exact (wss_one (ws_ret false (we_ix hu (we_var (pv 1 rfl (Or.inl rfl))) (we_callC C__law_pick (hr.mono (by omega)) rfl pass_of (wa_cons (we_var (pv 0 rfl (Or.inl rfl))) (wa_cons (we_bi cw_len rfl B.h_len rfl (wa_cons (we_var (pv 1 rfl (Or.inl rfl))) wa_nil)) wa_nil))) (fun _ _ => rfl))))
abbrev s__law_line : Stmt := top 41
abbrev N__law_line : List Str := ["_law_deck_here", "_law_states", "_law_many", "_law_lines", "_law_at", "_law_some", "_law_turn"]
theorem sc__law_line : FnScope N__law_line ["_law_deck_here", "_law_states", "_law_many", "_law_lines", "_law_at"] (defScope s__law_line) := ⟨rfl, rfl, rfl, by decide +kernel, rfl, by decide +kernel, by decide +kernel⟩
theorem ok__law_line {P : Program} {w : World} {K : PySem.W.Frag} {mg : Str → Option Value} {base : Heap} {f : Addr} {fd : FuncData} {kk : Nat} (F : FnP K "_law_line" s__law_line f fd) (gm : mg "_law_line" = some (.ref f)) (B : Bt mg) (Y : ClsF K mg "Day" cfs) (C__law_pick : Cal P w K mg base kk 2 "_law_pick" (f__law_pick)) (C__law_option : Cal P w K mg base kk 5 "_law_option" (f__law_option)) (C__law_one : Cal P w K mg base kk 2 "_law_one" (f__law_one)) : Cal P w K mg base (kk + 2 + 1) 5 "_law_line" (f__law_line) := by
  refine ⟨f, fd, ["_law_deck_here", "_law_states", "_law_many", "_law_lines", "_law_at"], fn_ok 5 7 F sc__law_line rfl rfl fun cdv A outer s H E hr => ?_, gm, F.kp, F.bindsN fun _ _ _ _ _ _ us hl => match us, hl with | [_, _, _, _, _], _ => rfl⟩
  have hu := hu5 hr
  have hu4 := hu4 hr
  exact (wss_cons (ws_setLc (i := 5) (own := [("_law_turn", 6)]) rfl sc__law_line.nd rfl rfl (by rfl) (wi_rng1 (we_bin ow_add we_int (we_callC C__law_pick (hr.mono (by omega)) rfl pass_of (wa_cons (we_var (pv 0 rfl (Or.inr (Or.inl rfl)))) (wa_cons we_int wa_nil)))) rfl B.h_range) (blkOk_by (N := N__law_line) (sc := defScope s__law_line) (by decide +kernel)) (by decide) (fun _ _ _ _ _ => (wp_nm sc__law_line.nd (i := 6) rfl (Or.inl rfl))) (fun _ _ _ _ _ => wts_nil) (fun _ _ _ _ _ => (we_callC C__law_option (hr.mono (by omega)) rfl passLN (wa_cons (we_var (pv 0 rfl (Or.inr (Or.inl rfl)))) (wa_cons (we_var (pv 1 rfl (Or.inr (Or.inl rfl)))) (wa_cons (we_var (pv 2 rfl (Or.inr (Or.inl rfl)))) (wa_cons (we_var (pv 3 rfl (Or.inr (Or.inl rfl)))) (wa_cons (we_var (pv 4 rfl (Or.inr (Or.inl rfl)))) wa_nil))))))))
  (wss_one (ws_ret false (we_tup (wa_cons (we_callC C__law_one (hr.mono (by omega)) rfl pass_of (wa_cons (we_var (pv 0 rfl (Or.inr (Or.inl rfl)))) (wa_cons (we_lst (wa_cons we_str (wa_cons we_str wa_nil))) wa_nil))) (wa_cons (we_ty cw_tuple rfl B.h_tuple rfl (wa_cons (we_sortedSet rfl hu (we_var (pv 5 rfl (Or.inl rfl))) rfl B.h_sorted rfl B.h_set) wa_nil)) wa_nil))))))
abbrev s__law_house : Stmt := top 42
abbrev N__law_house : List Str := ["_law_deck_here", "_law_most", "_law_wide", "_law_states", "_law_many", "_law_errands", "_law_turn", "_law_lines", "_law_at"]
theorem sc__law_house : FnScope N__law_house ["_law_deck_here", "_law_most", "_law_wide"] (defScope s__law_house) := ⟨rfl, rfl, rfl, by decide +kernel, rfl, by decide +kernel, by decide +kernel⟩
theorem ok__law_house {P : Program} {w : World} {K : PySem.W.Frag} {mg : Str → Option Value} {base : Heap} {f : Addr} {fd : FuncData} {kk : Nat} (F : FnP K "_law_house" s__law_house f fd) (gm : mg "_law_house" = some (.ref f)) (B : Bt mg) (Y : ClsF K mg "Day" cfs) (C__law_pick : Cal P w K mg base kk 2 "_law_pick" (f__law_pick)) (C__law_line : Cal P w K mg base kk 5 "_law_line" (f__law_line)) : Cal P w K mg base (kk + 2 + 1) 3 "_law_house" (f__law_house) := by
  refine ⟨f, fd, ["_law_deck_here", "_law_most", "_law_wide"], fn_ok 3 9 F sc__law_house rfl rfl fun cdv A outer s H E hr => ?_, gm, F.kp, F.bindsN fun _ _ _ _ _ _ us hl => match us, hl with | [_, _, _], _ => rfl⟩
  have hu := hu5 hr
  have hu4 := hu4 hr
  exact (wss_cons (ws_asg (we_tup (wa_cons (we_bin ow_add we_int (we_callC C__law_pick (hr.mono (by omega)) rfl pass_of (wa_cons (we_var (pv 0 rfl (Or.inr (Or.inl rfl)))) (wa_cons we_int wa_nil)))) (wa_cons (we_bin ow_add we_int (we_callC C__law_pick (hr.mono (by omega)) rfl pass_of (wa_cons (we_var (pv 0 rfl (Or.inr (Or.inl rfl)))) (wa_cons (we_var (pv 1 rfl (Or.inl rfl))) wa_nil)))) wa_nil))) (wp_tp rfl (wps_cons (wp_nm sc__law_house.nd (i := 3) rfl (Or.inr rfl)) (wps_cons (wp_nm sc__law_house.nd (i := 4) rfl (Or.inr rfl)) wps_nil))))
  (wss_cons (ws_set (i := 5) sc__law_house.nd rfl (Or.inl rfl) (we_tup wa_nil))
  (wss_cons (ws_for own_of rfl (wi_rng1 (we_var (pv 4 rfl (Or.inr (Or.inl rfl)))) rfl B.h_range) (wp_nm sc__law_house.nd (i := 6) rfl (Or.inl rfl)) (wss_cons (ws_set (i := 7) sc__law_house.nd rfl (Or.inr rfl) (we_bin ow_add we_int (we_callC C__law_pick (hr.mono (by omega)) rfl pass_of (wa_cons (we_var (pv 0 rfl (Or.inr (Or.inl rfl)))) (wa_cons (we_var (pv 2 rfl (Or.inl rfl))) wa_nil)))))
  (wss_one (ws_set (i := 5) sc__law_house.nd rfl (Or.inl rfl) (we_bin ow_add (we_var (pv 5 rfl (Or.inl rfl))) (we_tup (wa_cons (we_ty cw_tuple rfl B.h_tuple rfl (wa_cons (we_comp (own := [("_law_at", 8)]) rfl sc__law_house.nd (wi_rng1 (we_var (pv 7 rfl (Or.inr (Or.inl rfl)))) rfl B.h_range) (blkOk_by (N := N__law_house) (sc := defScope s__law_house) (by decide +kernel)) (by decide) (fun _ _ _ _ _ => (wp_nm sc__law_house.nd (i := 8) rfl (Or.inl rfl))) (fun _ _ _ _ _ => wts_nil) (fun _ _ _ _ _ => (we_callC C__law_line (hr.mono (by omega)) rfl passLN (wa_cons (we_var (pv 0 rfl (Or.inr (Or.inl rfl)))) (wa_cons (we_var (pv 3 rfl (Or.inr (Or.inl rfl)))) (wa_cons (we_var (pv 4 rfl (Or.inr (Or.inl rfl)))) (wa_cons (we_var (pv 7 rfl (Or.inr (Or.inl rfl)))) (wa_cons (we_var (pv 8 rfl (Or.inl rfl))) wa_nil)))))))) wa_nil)) wa_nil)))))))
  (wss_one (ws_ret false (we_tup (wa_cons (we_var (pv 3 rfl (Or.inr (Or.inl rfl)))) (wa_cons (we_var (pv 5 rfl (Or.inl rfl))) wa_nil))))))))
abbrev s_has_items : Stmt := top 18
abbrev N_has_items : List Str := ["value", "low", "high"]
theorem sc_has_items : FnScope N_has_items ["value", "low", "high"] (defScope s_has_items) := ⟨rfl, rfl, rfl, by decide +kernel, rfl, by decide +kernel, by decide +kernel⟩
theorem ok_has_items {P : Program} {w : World} {K : PySem.W.Frag} {mg : Str → Option Value} {base : Heap} {f : Addr} {fd : FuncData} {kk : Nat} (F : FnP K "has_items" s_has_items f fd) (gm : mg "has_items" = some (.ref f)) (B : Bt mg) (Y : ClsF K mg "Day" cfs) : Cal P w K mg base (kk + 2 + 1) 3 "has_items" (f_has_items) := by
  refine ⟨f, fd, ["value", "low", "high"], fn_ok 3 3 F sc_has_items rfl rfl fun cdv A outer s H E hr => ?_, gm, F.kp, F.bindsN fun _ _ _ _ _ _ us hl => match us, hl with | [_, _, _], _ => rfl⟩
  have hu := hu5 hr
  have hu4 := hu4 hr
  exact (wss_one (ws_ret false (we_and (we_isi (we_var (pv 0 rfl (Or.inl rfl))) rfl B.h_isinstance rfl B.h_tuple rfl) (we_one (we_chain (ow_le hu4) (ow_le hu4) (we_var (pv 1 rfl (Or.inl rfl))) (we_bi cw_len rfl B.h_len rfl (wa_cons (we_var (pv 0 rfl (Or.inl rfl))) wa_nil)) (we_var (pv 2 rfl (Or.inl rfl))))))))
abbrev s_is_within : Stmt := top 17
abbrev N_is_within : List Str := ["value", "low", "high"]
theorem sc_is_within : FnScope N_is_within ["value", "low", "high"] (defScope s_is_within) := ⟨rfl, rfl, rfl, by decide +kernel, rfl, by decide +kernel, by decide +kernel⟩
theorem ok_is_within {P : Program} {w : World} {K : PySem.W.Frag} {mg : Str → Option Value} {base : Heap} {f : Addr} {fd : FuncData} {kk : Nat} (F : FnP K "is_within" s_is_within f fd) (gm : mg "is_within" = some (.ref f)) (B : Bt mg) (Y : ClsF K mg "Day" cfs) : Cal P w K mg base (kk + 2 + 1) 3 "is_within" (f_is_within) := by
  refine ⟨f, fd, ["value", "low", "high"], fn_ok 3 3 F sc_is_within rfl rfl fun cdv A outer s H E hr => ?_, gm, F.kp, F.bindsN fun _ _ _ _ _ _ us hl => match us, hl with | [_, _, _], _ => rfl⟩
  have hu := hu5 hr
  have hu4 := hu4 hr
  exact (wss_one (ws_ret false (we_and (we_isi (we_var (pv 0 rfl (Or.inl rfl))) rfl B.h_isinstance rfl B.h_int rfl) (we_and (we_not (we_isi (we_var (pv 0 rfl (Or.inl rfl))) rfl B.h_isinstance rfl B.h_bool rfl)) (we_one (we_chain (ow_le hu4) (ow_le hu4) (we_var (pv 1 rfl (Or.inl rfl))) (we_var (pv 0 rfl (Or.inl rfl))) (we_var (pv 2 rfl (Or.inl rfl)))))))))
abbrev s_are_states : Stmt := top 19
abbrev N_are_states : List Str := ["states", "value", "one", "other"]
theorem sc_are_states : FnScope N_are_states ["states", "value"] (defScope s_are_states) := ⟨rfl, rfl, rfl, by decide +kernel, rfl, by decide +kernel, by decide +kernel⟩
theorem ok_are_states {P : Program} {w : World} {K : PySem.W.Frag} {mg : Str → Option Value} {base : Heap} {f : Addr} {fd : FuncData} {kk : Nat} (F : FnP K "are_states" s_are_states f fd) (gm : mg "are_states" = some (.ref f)) (B : Bt mg) (Y : ClsF K mg "Day" cfs) (C_has_items : Cal P w K mg base kk 3 "has_items" (f_has_items)) (C_is_within : Cal P w K mg base kk 3 "is_within" (f_is_within)) : Cal P w K mg base (kk + 2 + 1) 2 "are_states" (f_are_states) := by
  refine ⟨f, fd, ["states", "value"], fn_ok 2 4 F sc_are_states rfl rfl fun cdv A outer s H E hr => ?_, gm, F.kp, F.bindsN fun _ _ _ _ _ _ us hl => match us, hl with | [_, _], _ => rfl⟩
  have hu := hu5 hr
  have hu4 := hu4 hr
  exact (wss_cons (ws_if (WW.t (ww_or (wt_not (wt_val (we_callC C_has_items (hr.mono (by omega)) rfl pass_of (wa_cons (we_var (pv 1 rfl (Or.inl rfl))) (wa_cons we_int (wa_cons (we_var (pv 0 rfl (Or.inr (Or.inl rfl)))) wa_nil)))))) (ww_or1 (wt_not (wt_val (we_bi (cw_all rfl) rfl B.h_all rfl (wa_cons (we_comp (own := [("one", 2)]) rfl sc_are_states.nd (wi_seq (we_var (pv 1 rfl (Or.inl rfl)))) (blkOk_by (N := N_are_states) (sc := defScope s_are_states) (by decide +kernel)) (by decide) (fun _ _ _ _ _ => (wp_nm sc_are_states.nd (i := 2) rfl (Or.inl rfl))) (fun _ _ _ _ _ => wts_nil) (fun _ _ _ _ _ => (we_callC C_is_within (hr.mono (by omega)) rfl passLN (wa_cons (we_var (pv 2 rfl (Or.inl rfl))) (wa_cons we_int (wa_cons (we_bin ow_sub (we_var (pv 0 rfl (Or.inr (Or.inl rfl)))) we_int) wa_nil)))))) wa_nil))))))) (wss_one (ws_ret false we_bl)) wss_nil)
  (wss_one (ws_ret false (we_bi (cw_all rfl) rfl B.h_all rfl (wa_cons (we_comp (own := [("one", 2), ("other", 3)]) rfl sc_are_states.nd (wi_zip (we_var (pv 1 rfl (Or.inl rfl))) (we_slice (we_var (pv 1 rfl (Or.inl rfl))) (wo_some we_int) wo_none) rfl B.h_zip) (blkOk_by (N := N_are_states) (sc := defScope s_are_states) (by decide +kernel)) (by decide) (fun _ _ _ _ _ => (wp_tp rfl (wps_cons (wp_nm sc_are_states.nd (i := 2) rfl (Or.inl rfl)) (wps_cons (wp_nm sc_are_states.nd (i := 3) rfl (Or.inl rfl)) wps_nil)))) (fun _ _ _ _ _ => wts_nil) (fun _ _ _ _ _ => (we_cmp (ow_lt hu4) (we_var (pv 2 rfl (Or.inl rfl))) (we_var (pv 3 rfl (Or.inl rfl))) (nomark _)))) wa_nil)))))
abbrev s_is_option : Stmt := top 20
abbrev N_is_option : List Str := ["states", "many", "lines", "value"]
theorem sc_is_option : FnScope N_is_option ["states", "many", "lines", "value"] (defScope s_is_option) := ⟨rfl, rfl, rfl, by decide +kernel, rfl, by decide +kernel, by decide +kernel⟩
theorem ok_is_option {P : Program} {w : World} {K : PySem.W.Frag} {mg : Str → Option Value} {base : Heap} {f : Addr} {fd : FuncData} {kk : Nat} (F : FnP K "is_option" s_is_option f fd) (gm : mg "is_option" = some (.ref f)) (B : Bt mg) (Y : ClsF K mg "Day" cfs) (C_has_items : Cal P w K mg base kk 3 "has_items" (f_has_items)) (C_are_states : Cal P w K mg base kk 2 "are_states" (f_are_states)) (C_is_within : Cal P w K mg base kk 3 "is_within" (f_is_within)) : Cal P w K mg base (kk + 2 + 1) 4 "is_option" (f_is_option) := by
  refine ⟨f, fd, ["states", "many", "lines", "value"], fn_ok 4 4 F sc_is_option rfl rfl fun cdv A outer s H E hr => ?_, gm, F.kp, F.bindsN fun _ _ _ _ _ _ us hl => match us, hl with | [_, _, _, _], _ => rfl⟩
  have hu := hu5 hr
  have hu4 := hu4 hr
  exact (wss_cons (ws_if (WW.t (ww_or (wt_not (wt_val (we_callC C_has_items (hr.mono (by omega)) rfl pass_of (wa_cons (we_var (pv 3 rfl (Or.inl rfl))) (wa_cons we_int (wa_cons we_int wa_nil)))))) (ww_or1 (wt_not (wt_val (we_callC C_are_states (hr.mono (by omega)) rfl pass_of (wa_cons (we_var (pv 0 rfl (Or.inl rfl))) (wa_cons (we_ix hu (we_var (pv 3 rfl (Or.inl rfl))) we_int (fun _ _ => rfl)) wa_nil)))))))) (wss_one (ws_ret false we_bl)) wss_nil)
  (wss_one (ws_ret false (we_and (we_callC C_is_within (hr.mono (by omega)) rfl pass_of (wa_cons (we_ix hu (we_var (pv 3 rfl (Or.inl rfl))) we_int (fun _ _ => rfl)) (wa_cons we_neg (wa_cons (we_bin ow_sub (we_var (pv 1 rfl (Or.inl rfl))) we_int) wa_nil)))) (we_and (we_callC C_is_within (hr.mono (by omega)) rfl pass_of (wa_cons (we_ix hu (we_var (pv 3 rfl (Or.inl rfl))) we_int (fun _ _ => rfl)) (wa_cons we_int (wa_cons (we_bin ow_sub (we_var (pv 0 rfl (Or.inl rfl))) we_int) wa_nil)))) (we_one (we_callC C_is_within (hr.mono (by omega)) rfl pass_of (wa_cons (we_ix hu (we_var (pv 3 rfl (Or.inl rfl))) we_int (fun _ _ => rfl)) (wa_cons we_int (wa_cons (we_var (pv 2 rfl (Or.inl rfl))) wa_nil))))))))))
abbrev s_is_line : Stmt := top 21
abbrev N_is_line : List Str := ["states", "many", "lines", "value", "one", "other"]
theorem sc_is_line : FnScope N_is_line ["states", "many", "lines", "value"] (defScope s_is_line) := ⟨rfl, rfl, rfl, by decide +kernel, rfl, by decide +kernel, by decide +kernel⟩
theorem ok_is_line {P : Program} {w : World} {K : PySem.W.Frag} {mg : Str → Option Value} {base : Heap} {f : Addr} {fd : FuncData} {kk : Nat} (F : FnP K "is_line" s_is_line f fd) (gm : mg "is_line" = some (.ref f)) (B : Bt mg) (Y : ClsF K mg "Day" cfs) (G_WHO : Glo K mg "WHO" g_WHO) (C_has_items : Cal P w K mg base kk 3 "has_items" (f_has_items)) (C_is_option : Cal P w K mg base kk 4 "is_option" (f_is_option)) : Cal P w K mg base (kk + 2 + 1) 4 "is_line" (f_is_line) := by
  refine ⟨f, fd, ["states", "many", "lines", "value"], fn_ok 4 6 F sc_is_line rfl rfl fun cdv A outer s H E hr => ?_, gm, F.kp, F.bindsN fun _ _ _ _ _ _ us hl => match us, hl with | [_, _, _, _], _ => rfl⟩
  have hu := hu5 hr
  have hu4 := hu4 hr
  exact (wss_cons (ws_if (WW.t (ww_or (wt_not (wt_val (we_callC C_has_items (hr.mono (by omega)) rfl pass_of (wa_cons (we_var (pv 3 rfl (Or.inl rfl))) (wa_cons we_int (wa_cons we_int wa_nil)))))) (ww_or (wt_not (wt_val (we_isi (we_ix hu (we_var (pv 3 rfl (Or.inl rfl))) we_int (fun _ _ => rfl)) rfl B.h_isinstance rfl B.h_str rfl))) (ww_or1 (wt_cmp (ow_notIn hu) (we_ix hu (we_var (pv 3 rfl (Or.inl rfl))) we_int (fun _ _ => rfl)) (we_glo G_WHO rfl) (by with_unfolding_all rfl)))))) (wss_one (ws_ret false we_bl)) wss_nil)
  (wss_cons (ws_if (WW.t (ww_or (wt_not (wt_val (we_callC C_has_items (hr.mono (by omega)) rfl pass_of (wa_cons (we_ix hu (we_var (pv 3 rfl (Or.inl rfl))) we_int (fun _ _ => rfl)) (wa_cons we_int (wa_cons we_int wa_nil)))))) (ww_or1 (wt_not (wt_val (we_bi (cw_all rfl) rfl B.h_all rfl (wa_cons (we_comp (own := [("one", 4)]) rfl sc_is_line.nd (wi_seq (we_ix hu (we_var (pv 3 rfl (Or.inl rfl))) we_int (fun _ _ => rfl))) (blkOk_by (N := N_is_line) (sc := defScope s_is_line) (by decide +kernel)) (by decide) (fun _ _ _ _ _ => (wp_nm sc_is_line.nd (i := 4) rfl (Or.inl rfl))) (fun _ _ _ _ _ => wts_nil) (fun _ _ _ _ _ => (we_callC C_is_option (hr.mono (by omega)) rfl passLN (wa_cons (we_var (pv 0 rfl (Or.inr (Or.inl rfl)))) (wa_cons (we_var (pv 1 rfl (Or.inr (Or.inl rfl)))) (wa_cons (we_var (pv 2 rfl (Or.inr (Or.inl rfl)))) (wa_cons (we_var (pv 4 rfl (Or.inl rfl))) wa_nil))))))) wa_nil))))))) (wss_one (ws_ret false we_bl)) wss_nil)
  (wss_one (ws_ret false (we_bi (cw_all rfl) rfl B.h_all rfl (wa_cons (we_comp (own := [("one", 4), ("other", 5)]) rfl sc_is_line.nd (wi_zip (we_ix hu (we_var (pv 3 rfl (Or.inl rfl))) we_int (fun _ _ => rfl)) (we_slice (we_ix hu (we_var (pv 3 rfl (Or.inl rfl))) we_int (fun _ _ => rfl)) (wo_some we_int) wo_none) rfl B.h_zip) (blkOk_by (N := N_is_line) (sc := defScope s_is_line) (by decide +kernel)) (by decide) (fun _ _ _ _ _ => (wp_tp rfl (wps_cons (wp_nm sc_is_line.nd (i := 4) rfl (Or.inl rfl)) (wps_cons (wp_nm sc_is_line.nd (i := 5) rfl (Or.inl rfl)) wps_nil)))) (fun _ _ _ _ _ => wts_nil) (fun _ _ _ _ _ => (we_cmp (ow_lt hu4) (we_var (pv 4 rfl (Or.inl rfl))) (we_var (pv 5 rfl (Or.inl rfl))) (nomark _)))) wa_nil))))))
abbrev s_is_house_value : Stmt := top 22
abbrev N_is_house_value : List Str := ["value", "states", "errands", "one", "line"]
theorem sc_is_house_value : FnScope N_is_house_value ["value"] (defScope s_is_house_value) := ⟨rfl, rfl, rfl, by decide +kernel, rfl, by decide +kernel, by decide +kernel⟩
theorem ok_is_house_value {P : Program} {w : World} {K : PySem.W.Frag} {mg : Str → Option Value} {base : Heap} {f : Addr} {fd : FuncData} {kk : Nat} (F : FnP K "is_house_value" s_is_house_value f fd) (gm : mg "is_house_value" = some (.ref f)) (B : Bt mg) (Y : ClsF K mg "Day" cfs) (C_has_items : Cal P w K mg base kk 3 "has_items" (f_has_items)) (C_is_within : Cal P w K mg base kk 3 "is_within" (f_is_within)) (C_is_line : Cal P w K mg base kk 4 "is_line" (f_is_line)) : Cal P w K mg base (kk + 2 + 1) 1 "is_house_value" (f_is_house_value) := by
  refine ⟨f, fd, ["value"], fn_ok 1 5 F sc_is_house_value rfl rfl fun cdv A outer s H E hr => ?_, gm, F.kp, F.bindsN fun _ _ _ _ _ _ us hl => match us, hl with | [_], _ => rfl⟩
  have hu := hu5 hr
  have hu4 := hu4 hr
  exact (wss_cons (ws_if (WW.t (ww_or (wt_not (wt_val (we_callC C_has_items (hr.mono (by omega)) rfl pass_of (wa_cons (we_var (pv 0 rfl (Or.inl rfl))) (wa_cons we_int (wa_cons we_int wa_nil)))))) (ww_or (wt_not (wt_val (we_callC C_is_within (hr.mono (by omega)) rfl pass_of (wa_cons (we_ix hu (we_var (pv 0 rfl (Or.inl rfl))) we_int (fun _ _ => rfl)) (wa_cons we_int (wa_cons we_int wa_nil)))))) (ww_or1 (wt_not (wt_val (we_callC C_has_items (hr.mono (by omega)) rfl pass_of (wa_cons (we_ix hu (we_var (pv 0 rfl (Or.inl rfl))) we_int (fun _ _ => rfl)) (wa_cons we_int (wa_cons we_int wa_nil)))))))))) (wss_one (ws_ret false we_bl)) wss_nil)
  (wss_cons (ws_asg (we_var (pv 0 rfl (Or.inl rfl))) (wp_tp rfl (wps_cons (wp_nm sc_is_house_value.nd (i := 1) rfl (Or.inr rfl)) (wps_cons (wp_nm sc_is_house_value.nd (i := 2) rfl (Or.inr rfl)) wps_nil))))
  (wss_cons (ws_if (wt_not (wt_val (we_bi (cw_all rfl) rfl B.h_all rfl (wa_cons (we_comp (own := [("one", 3)]) rfl sc_is_house_value.nd (wi_seq (we_var (pv 2 rfl (Or.inr (Or.inl rfl))))) (blkOk_by (N := N_is_house_value) (sc := defScope s_is_house_value) (by decide +kernel)) (by decide) (fun _ _ _ _ _ => (wp_nm sc_is_house_value.nd (i := 3) rfl (Or.inl rfl))) (fun _ _ _ _ _ => wts_nil) (fun _ _ _ _ _ => (we_callC C_has_items (hr.mono (by omega)) rfl passLN (wa_cons (we_var (pv 3 rfl (Or.inl rfl))) (wa_cons we_int (wa_cons we_int wa_nil)))))) wa_nil)))) (wss_one (ws_ret false we_bl)) wss_nil)
  (wss_one (ws_ret false (we_bi (cw_all rfl) rfl B.h_all rfl (wa_cons (we_comp2 (own := [("one", 3), ("line", 4)]) (vs1 := [4]) rfl sc_is_house_value.nd (wi_seq (we_var (pv 2 rfl (Or.inr (Or.inl rfl))))) (blkOk_by (N := N_is_house_value) (sc := defScope s_is_house_value) (by decide +kernel)) (by decide) (by decide) (by decide) (fun _ _ _ _ _ => (wp_nm sc_is_house_value.nd (i := 3) rfl (Or.inl rfl))) (fun _ _ _ _ _ => wts_nil) (fun _ _ _ _ _ => (wi_seq (we_var (pv 3 rfl (Or.inl rfl))))) (fun _ _ _ _ _ => (wp_nm sc_is_house_value.nd (i := 4) rfl (Or.inl rfl))) (fun _ _ _ _ _ => wts_nil) (fun _ _ _ _ _ => (we_callC C_is_line (hr.mono (by omega)) rfl passLN (wa_cons (we_var (pv 1 rfl (Or.inr (Or.inl rfl)))) (wa_cons (we_bi cw_len rfl B.h_len rfl (wa_cons (we_var (pv 2 rfl (Or.inr (Or.inl rfl)))) wa_nil)) (wa_cons (we_bi cw_len rfl B.h_len rfl (wa_cons (we_var (pv 3 rfl (Or.inl rfl))) wa_nil)) (wa_cons (we_var (pv 4 rfl (Or.inl rfl))) wa_nil))))))) wa_nil)))))))
abbrev s_need_house : Stmt := top 27
abbrev N_need_house : List Str := ["value"]
theorem sc_need_house : FnScope N_need_house ["value"] (defScope s_need_house) := ⟨rfl, rfl, rfl, by decide +kernel, rfl, by decide +kernel, by decide +kernel⟩
theorem ok_need_house {P : Program} {w : World} {K : PySem.W.Frag} {mg : Str → Option Value} {base : Heap} {f : Addr} {fd : FuncData} {kk : Nat} (F : FnP K "need_house" s_need_house f fd) (gm : mg "need_house" = some (.ref f)) (B : Bt mg) (Y : ClsF K mg "Day" cfs) (X_InvalidHouse : Ecl K mg "InvalidHouse") (C_is_house_value : Cal P w K mg base kk 1 "is_house_value" (f_is_house_value)) : Cal P w K mg base (kk + 2 + 1) 1 "need_house" (f_need_house) := by
  refine ⟨f, fd, ["value"], fn_ok 1 1 F sc_need_house rfl rfl fun cdv A outer s H E hr => ?_, gm, F.kp, F.bindsN fun _ _ _ _ _ _ us hl => match us, hl with | [_], _ => rfl⟩
  have hu := hu5 hr
  have hu4 := hu4 hr
  exact (wss_one (ws_if (wt_not (wt_val (we_callC C_is_house_value (hr.mono (by omega)) rfl pass_of (wa_cons (we_var (pv 0 rfl (Or.inl rfl))) wa_nil)))) (wss_one (ws_raise X_InvalidHouse rfl tk_of rfl)) wss_nil))
abbrev s_need_errand : Stmt := top 28
abbrev N_need_errand : List Str := ["house", "value"]
theorem sc_need_errand : FnScope N_need_errand ["house", "value"] (defScope s_need_errand) := ⟨rfl, rfl, rfl, by decide +kernel, rfl, by decide +kernel, by decide +kernel⟩
theorem ok_need_errand {P : Program} {w : World} {K : PySem.W.Frag} {mg : Str → Option Value} {base : Heap} {f : Addr} {fd : FuncData} {kk : Nat} (F : FnP K "need_errand" s_need_errand f fd) (gm : mg "need_errand" = some (.ref f)) (B : Bt mg) (Y : ClsF K mg "Day" cfs) (X_InvalidErrand : Ecl K mg "InvalidErrand") (C_is_within : Cal P w K mg base kk 3 "is_within" (f_is_within)) : Cal P w K mg base (kk + 2 + 1) 2 "need_errand" (f_need_errand) := by
  refine ⟨f, fd, ["house", "value"], fn_ok 2 2 F sc_need_errand rfl rfl fun cdv A outer s H E hr => ?_, gm, F.kp, F.bindsN fun _ _ _ _ _ _ us hl => match us, hl with | [_, _], _ => rfl⟩
  have hu := hu5 hr
  have hu4 := hu4 hr
  exact (wss_one (ws_if (wt_not (wt_val (we_callC C_is_within (hr.mono (by omega)) rfl pass_of (wa_cons (we_var (pv 1 rfl (Or.inl rfl))) (wa_cons we_int (wa_cons (we_bin ow_sub (we_bi cw_len rfl B.h_len rfl (wa_cons (we_ix hu (we_var (pv 0 rfl (Or.inl rfl))) we_int (fun _ _ => rfl)) wa_nil)) we_int) wa_nil)))))) (wss_one (ws_raise X_InvalidErrand rfl tk_of rfl)) wss_nil))
abbrev s_need_begin : Stmt := top 29
abbrev N_need_begin : List Str := ["house", "errand", "state"]
theorem sc_need_begin : FnScope N_need_begin ["house", "errand", "state"] (defScope s_need_begin) := ⟨rfl, rfl, rfl, by decide +kernel, rfl, by decide +kernel, by decide +kernel⟩
theorem ok_need_begin {P : Program} {w : World} {K : PySem.W.Frag} {mg : Str → Option Value} {base : Heap} {f : Addr} {fd : FuncData} {kk : Nat} (F : FnP K "need_begin" s_need_begin f fd) (gm : mg "need_begin" = some (.ref f)) (B : Bt mg) (Y : ClsF K mg "Day" cfs) (X_InvalidState : Ecl K mg "InvalidState") (C_need_house : Cal P w K mg base kk 1 "need_house" (f_need_house)) (C_need_errand : Cal P w K mg base kk 2 "need_errand" (f_need_errand)) (C_is_within : Cal P w K mg base kk 3 "is_within" (f_is_within)) : Cal P w K mg base (kk + 2 + 1) 3 "need_begin" (f_need_begin) := by
  refine ⟨f, fd, ["house", "errand", "state"], fn_ok 3 3 F sc_need_begin rfl rfl fun cdv A outer s H E hr => ?_, gm, F.kp, F.bindsN fun _ _ _ _ _ _ us hl => match us, hl with | [_, _, _], _ => rfl⟩
  have hu := hu5 hr
  have hu4 := hu4 hr
  exact (wss_cons (ws_expr (we_callC C_need_house (hr.mono (by omega)) rfl pass_of (wa_cons (we_var (pv 0 rfl (Or.inl rfl))) wa_nil)))
  (wss_cons (ws_expr (we_callC C_need_errand (hr.mono (by omega)) rfl pass_of (wa_cons (we_var (pv 0 rfl (Or.inl rfl))) (wa_cons (we_var (pv 1 rfl (Or.inl rfl))) wa_nil))))
  (wss_one (ws_if (wt_not (wt_val (we_callC C_is_within (hr.mono (by omega)) rfl pass_of (wa_cons (we_var (pv 2 rfl (Or.inl rfl))) (wa_cons we_int (wa_cons (we_bin ow_sub (we_ix hu (we_var (pv 0 rfl (Or.inl rfl))) we_int (fun _ _ => rfl)) we_int) wa_nil)))))) (wss_one (ws_raise X_InvalidState rfl tk_of rfl)) wss_nil))))
abbrev s_Day___init__ : Stmt := (clsBody (top 32)).getD 1 (.Pass ⟨0, 0, 0, 0⟩)
abbrev N_Day___init__ : List Str := ["self", "house", "errand", "state"]
theorem sc_Day___init__ : FnScope N_Day___init__ ["self", "house", "errand", "state"] (defScope s_Day___init__) := ⟨rfl, rfl, rfl, by decide +kernel, rfl, by decide +kernel, by decide +kernel⟩
theorem ok_Day___init__ {P : Program} {w : World} {K : PySem.W.Frag} {mg : Str → Option Value} {base : Heap} {f : Addr} {fd : FuncData} {kk : Nat} (F : FnM K "__init__" "Day.__init__" s_Day___init__ f fd) (hm : Mk K (He.ga K "Day") f) (B : Bt mg) (Y : ClsF K mg "Day" cfs) (C_need_begin : Cal P w K mg base kk 3 "need_begin" (f_need_begin)) : CalK P w K mg base (kk + 2 + 1) 4 "Day" f_Day___init__ := by
  refine ⟨f, fd, ["self", "house", "errand", "state"], fn_okQ 4 4 F sc_Day___init__ rfl rfl fun cdv A outer s H E hr => ?_, hm, F.bindsN (fun _ _ _ _ _ _ us hl => match us, hl with | [_, _, _, _], _ => rfl), Y.md⟩
  have hu := hu5 hr
  have hu4 := hu4 hr
  exact (wss_cons (ws_expr (we_callC C_need_begin (hr.mono (by omega)) rfl pass_of (wa_cons (we_var (pv 1 rfl (Or.inl rfl))) (wa_cons (we_var (pv 2 rfl (Or.inl rfl))) (wa_cons (we_var (pv 3 rfl (Or.inl rfl))) wa_nil)))))
  (wss_cons (ws_setf Y.cl (Y.nt _ (by decide)) (we_var (pv 0 rfl (Or.inl rfl))) (we_var (pv 1 rfl (Or.inl rfl))))
  (wss_cons (ws_setf Y.cl (Y.nt _ (by decide)) (we_var (pv 0 rfl (Or.inl rfl))) (we_tup (wa_cons (we_var (pv 3 rfl (Or.inl rfl))) (wa_cons (we_tup (wa_cons (we_tup (wa_cons (we_var (pv 2 rfl (Or.inl rfl))) (wa_cons we_int wa_nil))) wa_nil)) wa_nil))))
  (wss_cons (ws_setf Y.cl (Y.nt _ (by decide)) (we_var (pv 0 rfl (Or.inl rfl))) (we_tup wa_nil))
  (wss_one (ws_setf Y.cl (Y.nt _ (by decide)) (we_var (pv 0 rfl (Or.inl rfl))) (we_tup wa_nil)))))))
abbrev s__law_round : Stmt := top 44
abbrev N__law_round : List Str := ["_law_deck_here", "_law_states", "_law_every", "_law_line_here"]
theorem sc__law_round : FnScope N__law_round ["_law_deck_here"] (defScope s__law_round) := ⟨rfl, rfl, rfl, by decide +kernel, rfl, by decide +kernel, by decide +kernel⟩
theorem ok__law_round {P : Program} {w : World} {K : PySem.W.Frag} {mg : Str → Option Value} {base : Heap} {f : Addr} {fd : FuncData} {kk : Nat} (F : FnP K "_law_round" s__law_round f fd) (gm : mg "_law_round" = some (.ref f)) (B : Bt mg) (Y : ClsF K mg "Day" cfs) (C__law_pick : Cal P w K mg base kk 2 "_law_pick" (f__law_pick)) (C__law_one : Cal P w K mg base kk 2 "_law_one" (f__law_one)) (C_Day___init__ : CalK P w K mg base kk 4 "Day" f_Day___init__) : Cal P w K mg base (kk + 2 + 1) 1 "_law_round" (f__law_round) := by
  refine ⟨f, fd, ["_law_deck_here"], fn_ok 1 4 F sc__law_round rfl rfl fun cdv A outer s H E hr => ?_, gm, F.kp, F.bindsN fun _ _ _ _ _ _ us hl => match us, hl with | [_], _ => rfl⟩
  have hu := hu5 hr
  have hu4 := hu4 hr
  exact (wss_cons (ws_set (i := 1) sc__law_round.nd rfl (Or.inl rfl) (we_bin ow_add we_int (we_callC C__law_pick (hr.mono (by omega)) rfl pass_of (wa_cons (we_var (pv 0 rfl (Or.inl rfl))) (wa_cons we_int wa_nil)))))
  (wss_cons (ws_set (i := 2) sc__law_round.nd rfl (Or.inl rfl) (we_tupR rfl (we_var (pv 1 rfl (Or.inl rfl))) rfl B.h_tuple rfl B.h_range))
  (wss_cons (ws_set (i := 3) sc__law_round.nd rfl (Or.inl rfl) (we_tup (wa_cons (we_callC C__law_one (hr.mono (by omega)) rfl pass_of (wa_cons (we_var (pv 0 rfl (Or.inl rfl))) (wa_cons (we_lst (wa_cons we_str (wa_cons we_str wa_nil))) wa_nil))) (wa_cons (we_tup (wa_cons (we_tup (wa_cons (we_var (pv 2 rfl (Or.inl rfl))) (wa_cons we_neg (wa_cons (we_callC C__law_pick (hr.mono (by omega)) rfl pass_of (wa_cons (we_var (pv 0 rfl (Or.inl rfl))) (wa_cons (we_var (pv 1 rfl (Or.inl rfl))) wa_nil))) (wa_cons we_int wa_nil))))) (wa_cons (we_tup (wa_cons (we_var (pv 2 rfl (Or.inl rfl))) (wa_cons we_neg (wa_cons we_int (wa_cons we_int wa_nil))))) wa_nil))) wa_nil))))
  (wss_cons (ws_set (i := 3) sc__law_round.nd rfl (Or.inl rfl) (we_tup (wa_cons (we_ix hu (we_var (pv 3 rfl (Or.inl rfl))) we_int (fun _ _ => rfl)) (wa_cons (we_ty cw_tuple rfl B.h_tuple rfl (wa_cons (we_bi (cw_sortedT rfl hu) rfl B.h_sorted rfl (wa_cons (we_ix hu (we_var (pv 3 rfl (Or.inl rfl))) we_int (fun _ _ => rfl)) wa_nil)) wa_nil)) wa_nil))))
  (wss_one (ws_ret true (we_tup (wa_cons (we_make C_Day___init__ (hr.mono (by omega)) rfl pass_of (wa_cons (we_tup (wa_cons (we_var (pv 1 rfl (Or.inl rfl))) (wa_cons (we_tup (wa_cons (we_tup (wa_cons (we_var (pv 3 rfl (Or.inl rfl))) wa_nil)) wa_nil)) wa_nil))) (wa_cons we_int (wa_cons (we_callC C__law_pick (hr.mono (by omega)) rfl pass_of (wa_cons (we_var (pv 0 rfl (Or.inl rfl))) (wa_cons (we_var (pv 1 rfl (Or.inl rfl))) wa_nil))) wa_nil)))) (wa_cons (we_ixT hu (we_ix hu (we_var (pv 3 rfl (Or.inl rfl))) we_int (fun _ _ => rfl)) (we_tup (wa_cons (we_var (pv 2 rfl (Or.inl rfl))) (wa_cons we_neg (wa_cons we_int (wa_cons we_int wa_nil)))))) wa_nil)))))))))
abbrev s_Day_place : Stmt := (clsBody (top 32)).getD 2 (.Pass ⟨0, 0, 0, 0⟩)
abbrev N_Day_place : List Str := ["self", "rows"]
theorem sc_Day_place : FnScope N_Day_place ["self", "rows"] (defScope s_Day_place) := ⟨rfl, rfl, rfl, by decide +kernel, rfl, by decide +kernel, by decide +kernel⟩
theorem ok_Day_place {P : Program} {w : World} {K : PySem.W.Frag} {mg : Str → Option Value} {base : Heap} {f : Addr} {fd : FuncData} {kk : Nat} (F : FnM K "place" "Day.place" s_Day_place f fd) (hm : Meth K (He.ga K "Day") "place" f) (B : Bt mg) (Y : ClsF K mg "Day" cfs) : CalM P w K mg base (kk + 2 + 1) 2 "Day" "place" f_Day_place := by
  refine ⟨f, fd, ["self", "rows"], fn_okQ 2 2 F sc_Day_place rfl rfl fun cdv A outer s H E hr => ?_, hm, F.bindsN (fun _ _ _ _ _ _ us hl => match us, hl with | [_, _], _ => rfl)⟩
  have hu := hu5 hr
  have hu4 := hu4 hr
  exact (wss_one (ws_ret false (we_if (wt_cmp (ow_ne hu4) (we_var (pv 1 rfl (Or.inl rfl))) (we_tup wa_nil) (nomark _)) (we_ix hu (we_ix hu (we_var (pv 1 rfl (Or.inl rfl))) we_neg (fun _ _ => rfl)) we_int (fun _ _ => rfl)) (we_fld Y.cl (Y.nt _ (by decide)) (we_var (pv 0 rfl (Or.inl rfl)))))))
abbrev s_open_options : Stmt := top 23
abbrev N_open_options : List Str := ["house", "errand", "line", "state", "options", "at", "option"]
theorem sc_open_options : FnScope N_open_options ["house", "errand", "line", "state"] (defScope s_open_options) := ⟨rfl, rfl, rfl, by decide +kernel, rfl, by decide +kernel, by decide +kernel⟩
theorem ok_open_options {P : Program} {w : World} {K : PySem.W.Frag} {mg : Str → Option Value} {base : Heap} {f : Addr} {fd : FuncData} {kk : Nat} (F : FnP K "open_options" s_open_options f fd) (gm : mg "open_options" = some (.ref f)) (B : Bt mg) (Y : ClsF K mg "Day" cfs) : Cal P w K mg base (kk + 2 + 1) 4 "open_options" (f_open_options) := by
  refine ⟨f, fd, ["house", "errand", "line", "state"], fn_ok 4 7 F sc_open_options rfl rfl fun cdv A outer s H E hr => ?_, gm, F.kp, F.bindsN fun _ _ _ _ _ _ us hl => match us, hl with | [_, _, _, _], _ => rfl⟩
  have hu := hu5 hr
  have hu4 := hu4 hr
  exact (wss_cons (ws_set (i := 4) sc_open_options.nd rfl (Or.inl rfl) (we_ix hu (we_ix hu (we_ix hu (we_ix hu (we_var (pv 0 rfl (Or.inl rfl))) we_int (fun _ _ => rfl)) (we_var (pv 1 rfl (Or.inl rfl))) (fun _ _ => rfl)) (we_var (pv 2 rfl (Or.inl rfl))) (fun _ _ => rfl)) we_int (fun _ _ => rfl)))
  (wss_one (ws_ret false (we_comp (own := [("at", 5), ("option", 6)]) rfl sc_open_options.nd (wi_enum (we_var (pv 4 rfl (Or.inl rfl))) rfl B.h_enumerate) (blkOk_by (N := N_open_options) (sc := defScope s_open_options) (by decide +kernel)) (by decide) (fun _ _ _ _ _ => (wp_tp rfl (wps_cons (wp_nm sc_open_options.nd (i := 5) rfl (Or.inl rfl)) (wps_cons (wp_nm sc_open_options.nd (i := 6) rfl (Or.inl rfl)) wps_nil)))) (fun _ _ _ _ _ => (wts_one (wt_cmp (ow_in hu) (we_var (pv 3 rfl (Or.inr (Or.inl rfl)))) (we_ix hu (we_var (pv 6 rfl (Or.inl rfl))) we_int (fun _ _ => rfl)) (by with_unfolding_all rfl)))) (fun _ _ _ _ _ => (we_var (pv 5 rfl (Or.inl rfl))))))))
abbrev s_choices_of : Stmt := top 25
abbrev N_choices_of : List Str := ["house", "position", "state", "stack"]
theorem sc_choices_of : FnScope N_choices_of ["house", "position"] (defScope s_choices_of) := ⟨rfl, rfl, rfl, by decide +kernel, rfl, by decide +kernel, by decide +kernel⟩
theorem ok_choices_of {P : Program} {w : World} {K : PySem.W.Frag} {mg : Str → Option Value} {base : Heap} {f : Addr} {fd : FuncData} {kk : Nat} (F : FnP K "choices_of" s_choices_of f fd) (gm : mg "choices_of" = some (.ref f)) (B : Bt mg) (Y : ClsF K mg "Day" cfs) (C_open_options : Cal P w K mg base kk 4 "open_options" (f_open_options)) : Cal P w K mg base (kk + 2 + 1) 2 "choices_of" (f_choices_of) := by
  refine ⟨f, fd, ["house", "position"], fn_ok 2 4 F sc_choices_of rfl rfl fun cdv A outer s H E hr => ?_, gm, F.kp, F.bindsN fun _ _ _ _ _ _ us hl => match us, hl with | [_, _], _ => rfl⟩
  have hu := hu5 hr
  have hu4 := hu4 hr
  exact (wss_cons (ws_asg (we_var (pv 1 rfl (Or.inl rfl))) (wp_tp rfl (wps_cons (wp_nm sc_choices_of.nd (i := 2) rfl (Or.inl rfl)) (wps_cons (wp_nm sc_choices_of.nd (i := 3) rfl (Or.inl rfl)) wps_nil))))
  (wss_one (ws_ret false (we_if (wt_cmp (ow_ne hu4) (we_var (pv 3 rfl (Or.inl rfl))) (we_tup wa_nil) (nomark _)) (we_callC C_open_options (hr.mono (by omega)) rfl pass_of (wa_cons (we_var (pv 0 rfl (Or.inl rfl))) (wa_cons (we_ix hu (we_ix hu (we_var (pv 3 rfl (Or.inl rfl))) we_neg (fun _ _ => rfl)) we_int (fun _ _ => rfl)) (wa_cons (we_ix hu (we_ix hu (we_var (pv 3 rfl (Or.inl rfl))) we_neg (fun _ _ => rfl)) we_int (fun _ _ => rfl)) (wa_cons (we_var (pv 2 rfl (Or.inl rfl))) wa_nil))))) (we_lst wa_nil)))))
abbrev s_settled : Stmt := top 24
abbrev N_settled : List Str := ["house", "stack"]
theorem sc_settled : FnScope N_settled ["house", "stack"] (defScope s_settled) := ⟨rfl, rfl, rfl, by decide +kernel, rfl, by decide +kernel, by decide +kernel⟩
theorem ok_settled {P : Program} {w : World} {K : PySem.W.Frag} {mg : Str → Option Value} {base : Heap} {f : Addr} {fd : FuncData} {kk : Nat} (F : FnP K "settled" s_settled f fd) (gm : mg "settled" = some (.ref f)) (B : Bt mg) (Y : ClsF K mg "Day" cfs) : Cal P w K mg base (kk + 2 + 1) 2 "settled" (f_settled) := by
  refine ⟨f, fd, ["house", "stack"], fn_ok 2 2 F sc_settled rfl rfl fun cdv A outer s H E hr => ?_, gm, F.kp, F.bindsN fun _ _ _ _ _ _ us hl => match us, hl with | [_, _], _ => rfl⟩
  have hu := hu5 hr
  have hu4 := hu4 hr
  exact (wss_cons (ws_while 100000 own_of (WW.t (ww_and (wt_cmp (ow_ne hu4) (we_var (pv 1 rfl (Or.inl rfl))) (we_tup wa_nil) (nomark _)) (ww_and1 (wt_cmp (ow_eq hu4) (we_ix hu (we_ix hu (we_var (pv 1 rfl (Or.inl rfl))) we_neg (fun _ _ => rfl)) we_int (fun _ _ => rfl)) (we_bi cw_len rfl B.h_len rfl (wa_cons (we_ix hu (we_ix hu (we_var (pv 0 rfl (Or.inl rfl))) we_int (fun _ _ => rfl)) (we_ix hu (we_ix hu (we_var (pv 1 rfl (Or.inl rfl))) we_neg (fun _ _ => rfl)) we_int (fun _ _ => rfl)) (fun _ _ => rfl)) wa_nil)) (nomark _))))) (wss_one (ws_set (i := 1) sc_settled.nd rfl (Or.inl rfl) (we_slice (we_var (pv 1 rfl (Or.inl rfl))) wo_none (wo_some we_neg)))))
  (wss_one (ws_ret false (we_var (pv 1 rfl (Or.inl rfl))))))
abbrev s_step : Stmt := top 26
abbrev N_step : List Str := ["house", "position", "at", "state", "stack", "errand", "line", "need", "side", "later", "go"]
theorem sc_step : FnScope N_step ["house", "position", "at"] (defScope s_step) := ⟨rfl, rfl, rfl, by decide +kernel, rfl, by decide +kernel, by decide +kernel⟩
theorem ok_step {P : Program} {w : World} {K : PySem.W.Frag} {mg : Str → Option Value} {base : Heap} {f : Addr} {fd : FuncData} {kk : Nat} (F : FnP K "step" s_step f fd) (gm : mg "step" = some (.ref f)) (B : Bt mg) (Y : ClsF K mg "Day" cfs) (C_settled : Cal P w K mg base kk 2 "settled" (f_settled)) : Cal P w K mg base (kk + 2 + 1) 3 "step" (f_step) := by
  refine ⟨f, fd, ["house", "position", "at"], fn_ok 3 11 F sc_step rfl rfl fun cdv A outer s H E hr => ?_, gm, F.kp, F.bindsN fun _ _ _ _ _ _ us hl => match us, hl with | [_, _, _], _ => rfl⟩
  have hu := hu5 hr
  have hu4 := hu4 hr
  exact (wss_cons (ws_asg (we_var (pv 1 rfl (Or.inl rfl))) (wp_tp rfl (wps_cons (wp_nm sc_step.nd (i := 3) rfl (Or.inl rfl)) (wps_cons (wp_nm sc_step.nd (i := 4) rfl (Or.inl rfl)) wps_nil))))
  (wss_cons (ws_asg (we_ix hu (we_var (pv 4 rfl (Or.inl rfl))) we_neg (fun _ _ => rfl)) (wp_tp rfl (wps_cons (wp_nm sc_step.nd (i := 5) rfl (Or.inl rfl)) (wps_cons (wp_nm sc_step.nd (i := 6) rfl (Or.inl rfl)) wps_nil))))
  (wss_cons (ws_asg (we_ix hu (we_ix hu (we_ix hu (we_ix hu (we_ix hu (we_var (pv 0 rfl (Or.inl rfl))) we_int (fun _ _ => rfl)) (we_var (pv 5 rfl (Or.inl rfl))) (fun _ _ => rfl)) (we_var (pv 6 rfl (Or.inl rfl))) (fun _ _ => rfl)) we_int (fun _ _ => rfl)) (we_var (pv 2 rfl (Or.inl rfl))) (fun _ _ => rfl)) (wp_tp rfl (wps_cons (wp_nm sc_step.nd (i := 7) rfl (Or.inl rfl)) (wps_cons (wp_nm sc_step.nd (i := 8) rfl (Or.inl rfl)) (wps_cons (wp_nm sc_step.nd (i := 9) rfl (Or.inl rfl)) (wps_cons (wp_nm sc_step.nd (i := 10) rfl (Or.inl rfl)) wps_nil))))))
  (wss_cons (ws_set (i := 4) sc_step.nd rfl (Or.inl rfl) (we_bin ow_add (we_slice (we_var (pv 4 rfl (Or.inl rfl))) wo_none (wo_some we_neg)) (we_tup (wa_cons (we_tup (wa_cons (we_var (pv 5 rfl (Or.inl rfl))) (wa_cons (we_var (pv 10 rfl (Or.inl rfl))) wa_nil))) wa_nil))))
  (wss_one (ws_ret false (we_tup (wa_cons (we_var (pv 9 rfl (Or.inl rfl))) (wa_cons (we_callC C_settled (hr.mono (by omega)) rfl pass_of (wa_cons (we_var (pv 0 rfl (Or.inl rfl))) (wa_cons (we_if (wt_cmp (ow_ge hu4) (we_var (pv 8 rfl (Or.inl rfl))) we_int (nomark _)) (we_bin ow_add (we_var (pv 4 rfl (Or.inl rfl))) (we_tup (wa_cons (we_tup (wa_cons (we_var (pv 8 rfl (Or.inl rfl))) (wa_cons we_int wa_nil))) wa_nil))) (we_var (pv 4 rfl (Or.inl rfl)))) wa_nil))) wa_nil)))))))))
abbrev s_Day_lead : Stmt := (clsBody (top 32)).getD 3 (.Pass ⟨0, 0, 0, 0⟩)
abbrev N_Day_lead : List Str := ["self", "run", "rows", "at", "here"]
theorem sc_Day_lead : FnScope N_Day_lead ["self", "run"] (defScope s_Day_lead) := ⟨rfl, rfl, rfl, by decide +kernel, rfl, by decide +kernel, by decide +kernel⟩
theorem ok_Day_lead {P : Program} {w : World} {K : PySem.W.Frag} {mg : Str → Option Value} {base : Heap} {f : Addr} {fd : FuncData} {kk : Nat} (F : FnM K "lead" "Day.lead" s_Day_lead f fd) (hm : Meth K (He.ga K "Day") "lead" f) (B : Bt mg) (Y : ClsF K mg "Day" cfs) (G_MOST_STEPS : Glo K mg "MOST_STEPS" g_MOST_STEPS) (X_InvalidOption : Ecl K mg "InvalidOption") (X_TooMany : EclF P K mg "TooMany" "limit")  (C_Day_place : CalM P w K mg base kk 2 "Day" "place" f_Day_place) (C_is_within : Cal P w K mg base kk 3 "is_within" (f_is_within)) (C_choices_of : Cal P w K mg base kk 2 "choices_of" (f_choices_of)) (C_step : Cal P w K mg base kk 3 "step" (f_step)) : CalM P w K mg base (kk + 2 + 1) 2 "Day" "lead" f_Day_lead := by
  refine ⟨f, fd, ["self", "run"], fn_okQ 2 5 F sc_Day_lead rfl rfl fun cdv A outer s H E hr => ?_, hm, F.bindsN (fun _ _ _ _ _ _ us hl => match us, hl with | [_, _], _ => rfl)⟩
  have hu := hu5 hr
  have hu4 := hu4 hr
  exact (wss_cons (ws_set (i := 2) sc_Day_lead.nd rfl (Or.inl rfl) (we_fld Y.cl (Y.nt _ (by decide)) (we_var (pv 0 rfl (Or.inl rfl)))))
  (wss_cons (ws_for own_of rfl (wi_seq (we_var (pv 1 rfl (Or.inl rfl)))) (wp_nm sc_Day_lead.nd (i := 3) rfl (Or.inl rfl)) (wss_cons (ws_set (i := 4) sc_Day_lead.nd rfl (Or.inl rfl) (we_meth C_Day_place Y.cl (hr.mono (by omega)) pass_of (we_var (pv 0 rfl (Or.inl rfl))) (wa_cons (we_var (pv 2 rfl (Or.inl rfl))) wa_nil)))
  (wss_cons (ws_if (WW.t (ww_or (wt_not (wt_val (we_callC C_is_within (hr.mono (by omega)) rfl pass_of (wa_cons (we_var (pv 3 rfl (Or.inl rfl))) (wa_cons we_int (wa_cons we_int wa_nil)))))) (ww_or1 (wt_cmp (ow_notIn hu) (we_var (pv 3 rfl (Or.inl rfl))) (we_callC C_choices_of (hr.mono (by omega)) rfl pass_of (wa_cons (we_fld Y.cl (Y.nt _ (by decide)) (we_var (pv 0 rfl (Or.inl rfl)))) (wa_cons (we_var (pv 4 rfl (Or.inl rfl))) wa_nil))) (by with_unfolding_all rfl))))) (wss_one (ws_raise X_InvalidOption rfl tk_of rfl)) wss_nil)
  (wss_one (ws_set (i := 2) sc_Day_lead.nd rfl (Or.inl rfl) (we_bin ow_add (we_var (pv 2 rfl (Or.inl rfl))) (we_tup (wa_cons (we_tup (wa_cons (we_bin ow_add (we_ix hu (we_ix hu (we_var (pv 4 rfl (Or.inl rfl))) we_int (fun _ _ => rfl)) we_neg (fun _ _ => rfl)) (we_tup (wa_cons (we_var (pv 3 rfl (Or.inl rfl))) wa_nil))) (wa_cons (we_callC C_step (hr.mono (by omega)) rfl pass_of (wa_cons (we_fld Y.cl (Y.nt _ (by decide)) (we_var (pv 0 rfl (Or.inl rfl)))) (wa_cons (we_var (pv 4 rfl (Or.inl rfl))) (wa_cons (we_var (pv 3 rfl (Or.inl rfl))) wa_nil)))) wa_nil))) wa_nil))))))))
  (wss_cons (ws_if (wt_cmp (ow_gt hu4) (we_bi cw_len rfl B.h_len rfl (wa_cons (we_var (pv 2 rfl (Or.inl rfl))) wa_nil)) (we_glo G_MOST_STEPS rfl) (nomark _)) (wss_one (ws_raiseF X_TooMany rfl tk_of (hr.mono (by omega)) rfl (we_glo G_MOST_STEPS rfl))) wss_nil)
  (wss_cons (ws_setf Y.cl (Y.nt _ (by decide)) (we_var (pv 0 rfl (Or.inl rfl))) (we_bin ow_add (we_fld Y.cl (Y.nt _ (by decide)) (we_var (pv 0 rfl (Or.inl rfl)))) (we_tup (wa_cons (we_fld Y.cl (Y.nt _ (by decide)) (we_var (pv 0 rfl (Or.inl rfl)))) wa_nil))))
  (wss_one (ws_setf Y.cl (Y.nt _ (by decide)) (we_var (pv 0 rfl (Or.inl rfl))) (we_var (pv 2 rfl (Or.inl rfl)))))))))
abbrev s_Day_choose : Stmt := (clsBody (top 32)).getD 4 (.Pass ⟨0, 0, 0, 0⟩)
abbrev N_Day_choose : List Str := ["self", "option"]
theorem sc_Day_choose : FnScope N_Day_choose ["self", "option"] (defScope s_Day_choose) := ⟨rfl, rfl, rfl, by decide +kernel, rfl, by decide +kernel, by decide +kernel⟩
theorem ok_Day_choose {P : Program} {w : World} {K : PySem.W.Frag} {mg : Str → Option Value} {base : Heap} {f : Addr} {fd : FuncData} {kk : Nat} (F : FnM K "choose" "Day.choose" s_Day_choose f fd) (hm : Meth K (He.ga K "Day") "choose" f) (B : Bt mg) (Y : ClsF K mg "Day" cfs) (C_Day_lead : CalM P w K mg base kk 2 "Day" "lead" f_Day_lead) (C_Day_place : CalM P w K mg base kk 2 "Day" "place" f_Day_place) : CalM P w K mg base (kk + 2 + 1) 2 "Day" "choose" f_Day_choose := by
  refine ⟨f, fd, ["self", "option"], fn_okQ 2 2 F sc_Day_choose rfl rfl fun cdv A outer s H E hr => ?_, hm, F.bindsN (fun _ _ _ _ _ _ us hl => match us, hl with | [_, _], _ => rfl)⟩
  have hu := hu5 hr
  have hu4 := hu4 hr
  exact (wss_cons (ws_expr (we_meth C_Day_lead Y.cl (hr.mono (by omega)) pass_of (we_var (pv 0 rfl (Or.inl rfl))) (wa_cons (we_tup (wa_cons (we_var (pv 1 rfl (Or.inl rfl))) wa_nil)) wa_nil)))
  (wss_one (ws_ret false (we_bi cw_len rfl B.h_len rfl (wa_cons (we_ix hu (we_meth C_Day_place Y.cl (hr.mono (by omega)) pass_of (we_var (pv 0 rfl (Or.inl rfl))) (wa_cons (we_fld Y.cl (Y.nt _ (by decide)) (we_var (pv 0 rfl (Or.inl rfl)))) wa_nil)) we_int (fun _ _ => rfl)) wa_nil)))))
abbrev s_Day___len__ : Stmt := (clsBody (top 32)).getD 16 (.Pass ⟨0, 0, 0, 0⟩)
abbrev N_Day___len__ : List Str := ["self"]
theorem sc_Day___len__ : FnScope N_Day___len__ ["self"] (defScope s_Day___len__) := ⟨rfl, rfl, rfl, by decide +kernel, rfl, by decide +kernel, by decide +kernel⟩
theorem ok_Day___len__ {P : Program} {w : World} {K : PySem.W.Frag} {mg : Str → Option Value} {base : Heap} {f : Addr} {fd : FuncData} {kk : Nat} (F : FnM K "__len__" "Day.__len__" s_Day___len__ f fd) (hm : Meth K (He.ga K "Day") "__len__" f) (B : Bt mg) (Y : ClsF K mg "Day" cfs) : CalM P w K mg base (kk + 2 + 1) 1 "Day" "__len__" f_Day___len__ := by
  refine ⟨f, fd, ["self"], fn_okQ 1 1 F sc_Day___len__ rfl rfl fun cdv A outer s H E hr => ?_, hm, F.bindsN (fun _ _ _ _ _ _ us hl => match us, hl with | [_], _ => rfl)⟩
  have hu := hu5 hr
  have hu4 := hu4 hr
  exact (wss_one (ws_ret false (we_bi cw_len rfl B.h_len rfl (wa_cons (we_fld Y.cl (Y.nt _ (by decide)) (we_var (pv 0 rfl (Or.inl rfl)))) wa_nil))))
abbrev s_Day_stack : Stmt := (clsBody (top 32)).getD 8 (.Pass ⟨0, 0, 0, 0⟩)
abbrev N_Day_stack : List Str := ["self"]
theorem sc_Day_stack : FnScope N_Day_stack ["self"] (defScope s_Day_stack) := ⟨rfl, rfl, rfl, by decide +kernel, rfl, by decide +kernel, by decide +kernel⟩
theorem ok_Day_stack {P : Program} {w : World} {K : PySem.W.Frag} {mg : Str → Option Value} {base : Heap} {f : Addr} {fd : FuncData} {kk : Nat} (F : FnM K "stack" "Day.stack" s_Day_stack f fd) {p : Addr} (hm : PropOf K (He.ga K "Day") "stack" p f) (B : Bt mg) (Y : ClsF K mg "Day" cfs) (C_Day_place : CalM P w K mg base kk 2 "Day" "place" f_Day_place) : CalP P w K mg base (kk + 2 + 1) "Day" "stack" f_Day_stack := by
  refine ⟨p, f, fd, ["self"], fn_okQ 1 1 F sc_Day_stack rfl rfl fun cdv A outer s H E hr => ?_, hm, F.bindsN (fun _ _ _ _ _ _ us hl => match us, hl with | [_], _ => rfl)⟩
  have hu := hu5 hr
  have hu4 := hu4 hr
  exact (wss_one (ws_ret false (we_ix hu (we_meth C_Day_place Y.cl (hr.mono (by omega)) pass_of (we_var (pv 0 rfl (Or.inl rfl))) (wa_cons (we_fld Y.cl (Y.nt _ (by decide)) (we_var (pv 0 rfl (Or.inl rfl)))) wa_nil)) we_int (fun _ _ => rfl))))
abbrev s_Day_state : Stmt := (clsBody (top 32)).getD 7 (.Pass ⟨0, 0, 0, 0⟩)
abbrev N_Day_state : List Str := ["self"]
theorem sc_Day_state : FnScope N_Day_state ["self"] (defScope s_Day_state) := ⟨rfl, rfl, rfl, by decide +kernel, rfl, by decide +kernel, by decide +kernel⟩
theorem ok_Day_state {P : Program} {w : World} {K : PySem.W.Frag} {mg : Str → Option Value} {base : Heap} {f : Addr} {fd : FuncData} {kk : Nat} (F : FnM K "state" "Day.state" s_Day_state f fd) {p : Addr} (hm : PropOf K (He.ga K "Day") "state" p f) (B : Bt mg) (Y : ClsF K mg "Day" cfs) (C_Day_place : CalM P w K mg base kk 2 "Day" "place" f_Day_place) : CalP P w K mg base (kk + 2 + 1) "Day" "state" f_Day_state := by
  refine ⟨p, f, fd, ["self"], fn_okQ 1 1 F sc_Day_state rfl rfl fun cdv A outer s H E hr => ?_, hm, F.bindsN (fun _ _ _ _ _ _ us hl => match us, hl with | [_], _ => rfl)⟩
  have hu := hu5 hr
  have hu4 := hu4 hr
  exact (wss_one (ws_ret false (we_ix hu (we_meth C_Day_place Y.cl (hr.mono (by omega)) pass_of (we_var (pv 0 rfl (Or.inl rfl))) (wa_cons (we_fld Y.cl (Y.nt _ (by decide)) (we_var (pv 0 rfl (Or.inl rfl)))) wa_nil)) we_int (fun _ _ => rfl))))
abbrev s_Day___iadd__ : Stmt := (clsBody (top 32)).getD 5 (.Pass ⟨0, 0, 0, 0⟩)
abbrev N_Day___iadd__ : List Str := ["self", "run"]
theorem sc_Day___iadd__ : FnScope N_Day___iadd__ ["self", "run"] (defScope s_Day___iadd__) := ⟨rfl, rfl, rfl, by decide +kernel, rfl, by decide +kernel, by decide +kernel⟩
theorem ok_Day___iadd__ {P : Program} {w : World} {K : PySem.W.Frag} {mg : Str → Option Value} {base : Heap} {f : Addr} {fd : FuncData} {kk : Nat} (F : FnM K "__iadd__" "Day.__iadd__" s_Day___iadd__ f fd) (hm : Meth K (He.ga K "Day") "__iadd__" f) (B : Bt mg) (Y : ClsF K mg "Day" cfs) (X_InvalidOption : Ecl K mg "InvalidOption") (C_Day_lead : CalM P w K mg base kk 2 "Day" "lead" f_Day_lead) : CalM P w K mg base (kk + 2 + 1) 2 "Day" "__iadd__" f_Day___iadd__ := by
  refine ⟨f, fd, ["self", "run"], fn_okQ 2 2 F sc_Day___iadd__ rfl rfl fun cdv A outer s H E hr => ?_, hm, F.bindsN (fun _ _ _ _ _ _ us hl => match us, hl with | [_, _], _ => rfl)⟩
  have hu := hu5 hr
  have hu4 := hu4 hr
  exact (wss_cons (ws_if (wt_not (wt_val (we_isi (we_var (pv 1 rfl (Or.inl rfl))) rfl B.h_isinstance rfl B.h_tuple rfl))) (wss_one (ws_raise X_InvalidOption rfl tk_of rfl)) wss_nil)
  (wss_cons (ws_expr (we_meth C_Day_lead Y.cl (hr.mono (by omega)) pass_of (we_var (pv 0 rfl (Or.inl rfl))) (wa_cons (we_var (pv 1 rfl (Or.inl rfl))) wa_nil)))
  (wss_one (ws_ret false (we_var (pv 0 rfl (Or.inl rfl)))))))
abbrev s_Day___eq__ : Stmt := (clsBody (top 32)).getD 20 (.Pass ⟨0, 0, 0, 0⟩)
abbrev N_Day___eq__ : List Str := ["self", "other"]
theorem sc_Day___eq__ : FnScope N_Day___eq__ ["self", "other"] (defScope s_Day___eq__) := ⟨rfl, rfl, rfl, by decide +kernel, rfl, by decide +kernel, by decide +kernel⟩
theorem ok_Day___eq__ {P : Program} {w : World} {K : PySem.W.Frag} {mg : Str → Option Value} {base : Heap} {f : Addr} {fd : FuncData} {kk : Nat} (F : FnM K "__eq__" "Day.__eq__" s_Day___eq__ f fd) (hm : Meth K (He.ga K "Day") "__eq__" f) (B : Bt mg) (Y : ClsF K mg "Day" cfs) (C_Day_stack : CalP P w K mg base kk "Day" "stack" f_Day_stack) (C_Day_state : CalP P w K mg base kk "Day" "state" f_Day_state) : CalM P w K mg base (kk + 2 + 1) 2 "Day" "__eq__" f_Day___eq__ := by
  refine ⟨f, fd, ["self", "other"], fn_okQ 2 2 F sc_Day___eq__ rfl rfl fun cdv A outer s H E hr => ?_, hm, F.bindsN (fun _ _ _ _ _ _ us hl => match us, hl with | [_, _], _ => rfl)⟩
  have hu := hu5 hr
  have hu4 := hu4 hr
  exact (wss_cons (ws_if (wt_not (wt_val (we_isO Y.ic rfl B.h_isinstance rfl Y.md (we_var (pv 1 rfl (Or.inl rfl)))))) (wss_one ws_bad) wss_nil)
  (wss_one (ws_ret false (we_cmp (ow_eq hu4) (we_tup (wa_cons (we_fld Y.cl (Y.nt _ (by decide)) (we_var (pv 0 rfl (Or.inl rfl)))) (wa_cons (we_prop C_Day_state Y.cl (hr.mono (by omega)) (we_var (pv 0 rfl (Or.inl rfl)))) (wa_cons (we_prop C_Day_stack Y.cl (hr.mono (by omega)) (we_var (pv 0 rfl (Or.inl rfl)))) wa_nil)))) (we_tup (wa_cons (we_fld Y.cl (Y.nt _ (by decide)) (we_var (pv 1 rfl (Or.inl rfl)))) (wa_cons (we_prop C_Day_state Y.cl (hr.mono (by omega)) (we_var (pv 1 rfl (Or.inl rfl)))) (wa_cons (we_prop C_Day_stack Y.cl (hr.mono (by omega)) (we_var (pv 1 rfl (Or.inl rfl)))) wa_nil)))) (nomark _)))))
abbrev s__law_led_on : Stmt := top 43
abbrev N__law_led_on : List Str := ["_law_day", "_law_row", "_law_same"]
theorem sc__law_led_on : FnScope N__law_led_on ["_law_day", "_law_row"] (defScope s__law_led_on) := ⟨rfl, rfl, rfl, by decide +kernel, rfl, by decide +kernel, by decide +kernel⟩
theorem ok__law_led_on {P : Program} {w : World} {K : PySem.W.Frag} {mg : Str → Option Value} {base : Heap} {f : Addr} {fd : FuncData} {kk : Nat} (F : FnP K "_law_led_on" s__law_led_on f fd) (gm : mg "_law_led_on" = some (.ref f)) (B : Bt mg) (Y : ClsF K mg "Day" cfs) (C_Day___iadd__ : CalM P w K mg base kk 2 "Day" "__iadd__" f_Day___iadd__) (C_Day___eq__ : CalM P w K mg base kk 2 "Day" "__eq__" f_Day___eq__) : Cal P w K mg base (kk + 2 + 1) 2 "_law_led_on" (f__law_led_on) := by
  refine ⟨f, fd, ["_law_day", "_law_row"], fn_ok 2 3 F sc__law_led_on rfl rfl fun cdv A outer s H E hr => ?_, gm, F.kp, F.bindsN fun _ _ _ _ _ _ us hl => match us, hl with | [_, _], _ => rfl⟩
  have hu := hu5 hr
  have hu4 := hu4 hr
  exact (wss_cons (ws_set (i := 2) sc__law_led_on.nd rfl (Or.inl rfl) (we_var (pv 0 rfl (Or.inl rfl))))
  (wss_cons (ws_augO (i := 2) C_Day___iadd__ Y.sf (hr.mono (by omega)) pass_of sc__law_led_on.nd rfl (Or.inl rfl) (we_var (pv 1 rfl (Or.inl rfl))))
  (wss_one (ws_ret false (we_cmp (ow_eqO C_Day___eq__ (hr.mono (by omega)) pass_of) (we_var (pv 2 rfl (Or.inl rfl))) (we_var (pv 0 rfl (Or.inl rfl))) (nomark _))))))
abbrev s_Day_undo : Stmt := (clsBody (top 32)).getD 12 (.Pass ⟨0, 0, 0, 0⟩)
abbrev N_Day_undo : List Str := ["self"]
theorem sc_Day_undo : FnScope N_Day_undo ["self"] (defScope s_Day_undo) := ⟨rfl, rfl, rfl, by decide +kernel, rfl, by decide +kernel, by decide +kernel⟩
theorem ok_Day_undo {P : Program} {w : World} {K : PySem.W.Frag} {mg : Str → Option Value} {base : Heap} {f : Addr} {fd : FuncData} {kk : Nat} (F : FnM K "undo" "Day.undo" s_Day_undo f fd) (hm : Meth K (He.ga K "Day") "undo" f) (B : Bt mg) (Y : ClsF K mg "Day" cfs) (X_NothingToUndo : Ecl K mg "NothingToUndo") : CalM P w K mg base (kk + 2 + 1) 1 "Day" "undo" f_Day_undo := by
  refine ⟨f, fd, ["self"], fn_okQ 1 1 F sc_Day_undo rfl rfl fun cdv A outer s H E hr => ?_, hm, F.bindsN (fun _ _ _ _ _ _ us hl => match us, hl with | [_], _ => rfl)⟩
  have hu := hu5 hr
  have hu4 := hu4 hr
  exact (wss_cons (ws_if (wt_cmp (ow_eq hu4) (we_fld Y.cl (Y.nt _ (by decide)) (we_var (pv 0 rfl (Or.inl rfl)))) (we_tup wa_nil) (nomark _)) (wss_one (ws_raise X_NothingToUndo rfl tk_of rfl)) wss_nil)
  (wss_cons (ws_setf Y.cl (Y.nt _ (by decide)) (we_var (pv 0 rfl (Or.inl rfl))) (we_ix hu (we_fld Y.cl (Y.nt _ (by decide)) (we_var (pv 0 rfl (Or.inl rfl)))) we_neg (fun _ _ => rfl)))
  (wss_one (ws_setf Y.cl (Y.nt _ (by decide)) (we_var (pv 0 rfl (Or.inl rfl))) (we_slice (we_fld Y.cl (Y.nt _ (by decide)) (we_var (pv 0 rfl (Or.inl rfl)))) wo_none (wo_some we_neg))))))
abbrev s_law : Stmt := top 45
abbrev N_law : List Str := ["_law_script", "_law_cell", "_law_deck_here", "_law_house_here", "_law_odd", "_law_day", "_law_done", "_law_again", "_law_early", "_law_more"]
theorem sc_law : FnScope N_law ["_law_script"] (defScope s_law) := ⟨rfl, rfl, rfl, by decide +kernel, rfl, by decide +kernel, by decide +kernel⟩
theorem okf_law {P : Program} {w : World} {K : PySem.W.Frag} {mg : Str → Option Value} {base : Heap} {f : Addr} {fd : FuncData} {kk : Nat} (F : FnP K "law" s_law f fd) (gm : mg "law" = some (.ref f)) (B : Bt mg) (Y : ClsF K mg "Day" cfs) (C__law_deck : Cal P w K mg base kk 2 "_law_deck" (f__law_deck)) (C__law_house : Cal P w K mg base kk 3 "_law_house" (f__law_house)) (C_Day___init__ : CalK P w K mg base kk 4 "Day" f_Day___init__) (C__law_round : Cal P w K mg base kk 1 "_law_round" (f__law_round)) (C_Day_choose : CalM P w K mg base kk 2 "Day" "choose" f_Day_choose) (C_Day___len__ : CalM P w K mg base kk 1 "Day" "__len__" f_Day___len__) (C_Day_stack : CalP P w K mg base kk "Day" "stack" f_Day_stack) (C_Day_state : CalP P w K mg base kk "Day" "state" f_Day_state) (C__law_led_on : Cal P w K mg base kk 2 "_law_led_on" (f__law_led_on)) (C_Day_undo : CalM P w K mg base kk 1 "Day" "undo" f_Day_undo) (TB : LamX.TabB base mg (He.cT K ("law", none)).1 (tabL K)) (hf : f = He.fAd K ("law", none)) (TX0 : ∀ X : Cx, X.prog = P → X.w = w → X.K = K → X.mg = mg → X.base = base → TryXM X kinds kF) (AX0 : ∀ X : Cx, X.K = K → X.mg = mg → X.base = base → AttX X "Day" errs) : FnOk P w K mg base (L2N.CX P w) (kk + 6 + 1) f fd ["_law_script"] (spWT P w K mg 1 (f_law)) := by
  refine fn_okT 1 10 F sc_law rfl rfl fun cdv A outer s H E hT hcd hlk hr => ?_
  have hu := hu5 hr
  have hu4 := hu4 hr
  have LX : LawX (cxOf (L2N.CX P w) P w K mg base N_law "law" (defScope s_law) f cdv A outer s H E) := by
    obtain ⟨oc, od, dV, kV, doc, pm, an, ct, osl, lk⟩ := hlk
    obtain ⟨c, rfl⟩ := He.codeIn_ref hcd
    subst hf
    exact ⟨⟨_, TB, congrArg Value.ref (He.codeOf_eq lk rfl).symm⟩, hT, rfl⟩
  have TX := TX0 (cxOf (L2N.CX P w) P w K mg base N_law "law" (defScope s_law) f cdv A outer s H E) rfl rfl rfl rfl rfl
  exact (wss_cons (ws_for own_of rfl (wi_seq (we_slice (we_bin ow_add (we_lst (wa_cons we_int wa_nil)) (we_var (pv 0 rfl (Or.inl rfl)))) wo_none (wo_some we_int))) (wp_nm sc_law.nd (i := 1) rfl (Or.inl rfl)) (wss_cons (ws_set (i := 2) sc_law.nd rfl (Or.inl rfl) (we_callC C__law_deck (hr.mono (by omega)) rfl pass_of (wa_cons (we_var (pv 1 rfl (Or.inl rfl))) (wa_cons we_int wa_nil))))
  (wss_cons (ws_set (i := 3) sc_law.nd rfl (Or.inr rfl) (we_callC C__law_house (hr.mono (by omega)) rfl pass_of (wa_cons (we_var (pv 2 rfl (Or.inl rfl))) (wa_cons we_int (wa_cons we_int wa_nil)))))
  (wss_cons (ws_for own_of rfl (wi_seq (we_lst (wa_cons we_non (wa_cons (we_slice (we_var (pv 3 rfl (Or.inr (Or.inl rfl)))) wo_none (wo_some we_int)) (wa_cons (we_ty cw_list rfl B.h_list rfl (wa_cons (we_var (pv 3 rfl (Or.inr (Or.inl rfl)))) wa_nil)) wa_nil))))) (wp_nm sc_law.nd (i := 4) rfl (Or.inr rfl)) (wss_one (ws_if (wt_cmp (ow_ne hu4) (we_tryM LX TX rfl hr (LamX.lamS_by (sc := defScope s_law) (by decide +kernel)) rfl (fun _ _ _ _ _ => rfl) (fun A1 outer1 s1 H1 E1 f1 c1 hr hi => by
    have hu := Wy.hu5 hr
    have hu4 := Wy.hu4 hr
    exact (we_make C_Day___init__ (hr.mono (by omega)) rfl (pass_lam (X := (cxOf (L2N.CX P w) P w K mg base N_law "law" (defScope s_law) f cdv A outer s H E)) (A := A1) (outer := outer1) (s := s1) (H := H1) (E := E1) (f' := f1) (c' := c1)) (wa_cons (we_var (pv 4 rfl (Or.inr (Or.inr rfl)))) (wa_cons we_non (wa_cons we_non wa_nil)))))) we_str (nomark _)) (wss_one (ws_ret false we_bl)) wss_nil)))
  (wss_cons (ws_for own_of rfl (wi_seq (we_lst (wa_cons we_non (wa_cons we_neg (wa_cons (we_bi cw_len rfl B.h_len rfl (wa_cons (we_ix hu (we_var (pv 3 rfl (Or.inr (Or.inl rfl)))) we_int (fun _ _ => rfl)) wa_nil)) (wa_cons we_bl wa_nil)))))) (wp_nm sc_law.nd (i := 4) rfl (Or.inr rfl)) (wss_one (ws_if (wt_cmp (ow_ne hu4) (we_tryM LX TX rfl hr (LamX.lamS_by (sc := defScope s_law) (by decide +kernel)) rfl (fun _ _ _ _ _ => rfl) (fun A1 outer1 s1 H1 E1 f1 c1 hr hi => by
    have hu := Wy.hu5 hr
    have hu4 := Wy.hu4 hr
    exact (we_make C_Day___init__ (hr.mono (by omega)) rfl (pass_lam (X := (cxOf (L2N.CX P w) P w K mg base N_law "law" (defScope s_law) f cdv A outer s H E)) (A := A1) (outer := outer1) (s := s1) (H := H1) (E := E1) (f' := f1) (c' := c1)) (wa_cons (we_var (pv 3 rfl (Or.inr (Or.inr rfl)))) (wa_cons (we_var (pv 4 rfl (Or.inr (Or.inr rfl)))) (wa_cons we_non wa_nil)))))) we_str (nomark _)) (wss_one (ws_ret false we_bl)) wss_nil)))
  (wss_cons (ws_for own_of rfl (wi_seq (we_lst (wa_cons we_non (wa_cons we_neg (wa_cons (we_ix hu (we_var (pv 3 rfl (Or.inr (Or.inl rfl)))) we_int (fun _ _ => rfl)) (wa_cons we_bl wa_nil)))))) (wp_nm sc_law.nd (i := 4) rfl (Or.inr rfl)) (wss_one (ws_if (wt_cmp (ow_ne hu4) (we_tryM LX TX rfl hr (LamX.lamS_by (sc := defScope s_law) (by decide +kernel)) rfl (fun _ _ _ _ _ => rfl) (fun A1 outer1 s1 H1 E1 f1 c1 hr hi => by
    have hu := Wy.hu5 hr
    have hu4 := Wy.hu4 hr
    exact (we_make C_Day___init__ (hr.mono (by omega)) rfl (pass_lam (X := (cxOf (L2N.CX P w) P w K mg base N_law "law" (defScope s_law) f cdv A outer s H E)) (A := A1) (outer := outer1) (s := s1) (H := H1) (E := E1) (f' := f1) (c' := c1)) (wa_cons (we_var (pv 3 rfl (Or.inr (Or.inr rfl)))) (wa_cons we_int (wa_cons (we_var (pv 4 rfl (Or.inr (Or.inr rfl)))) wa_nil)))))) we_str (nomark _)) (wss_one (ws_ret false we_bl)) wss_nil)))
  (wss_cons (ws_asg (we_callC C__law_round (hr.mono (by omega)) rfl pass_of (wa_cons (we_var (pv 2 rfl (Or.inl rfl))) wa_nil)) (wp_tp rfl (wps_cons (wp_nm sc_law.nd (i := 5) rfl (Or.inr rfl)) (wps_cons (wp_nm sc_law.nd (i := 6) rfl (Or.inl rfl)) wps_nil))))
  (wss_cons (ws_set (i := 7) sc_law.nd rfl (Or.inr rfl) (we_bin ow_sub we_int (we_var (pv 6 rfl (Or.inl rfl)))))
  (wss_cons (ws_expr (we_meth C_Day_choose Y.cl (hr.mono (by omega)) pass_of (we_var (pv 5 rfl (Or.inr (Or.inl rfl)))) (wa_cons (we_var (pv 7 rfl (Or.inr (Or.inl rfl)))) wa_nil)))
  (wss_cons (ws_set (i := 8) sc_law.nd rfl (Or.inl rfl) (we_lst (wa_cons (we_prop C_Day_state Y.cl (hr.mono (by omega)) (we_var (pv 5 rfl (Or.inr (Or.inl rfl))))) (wa_cons (we_prop C_Day_stack Y.cl (hr.mono (by omega)) (we_var (pv 5 rfl (Or.inr (Or.inl rfl))))) (wa_cons (we_bi (cw_lenO C_Day___len__ (hr.mono (by omega)) pass_of) rfl B.h_len rfl (wa_cons (we_var (pv 5 rfl (Or.inr (Or.inl rfl)))) wa_nil)) wa_nil)))))
  (wss_cons (ws_for own_of rfl (wi_seq (we_lst (wa_cons (we_tup (wa_cons (we_var (pv 7 rfl (Or.inr (Or.inl rfl)))) (wa_cons we_int wa_nil))) (wa_cons (we_tup (wa_cons (we_var (pv 7 rfl (Or.inr (Or.inl rfl)))) (wa_cons we_non wa_nil))) (wa_cons (we_tup (wa_cons (we_var (pv 7 rfl (Or.inr (Or.inl rfl)))) (wa_cons we_bl wa_nil))) (wa_cons (we_tup (wa_cons (we_var (pv 6 rfl (Or.inl rfl))) (wa_cons (we_var (pv 6 rfl (Or.inl rfl))) wa_nil))) (wa_cons (we_tup (wa_cons (we_var (pv 7 rfl (Or.inr (Or.inl rfl)))) (wa_cons we_neg wa_nil))) (wa_cons (we_tup (wa_cons (we_var (pv 7 rfl (Or.inr (Or.inl rfl)))) (wa_cons we_str wa_nil))) wa_nil)))))))) (wp_nm sc_law.nd (i := 9) rfl (Or.inr rfl)) (wss_one (ws_if (wt_cmp (ow_ne hu4) (we_tryM LX TX rfl hr (LamX.lamS_by (sc := defScope s_law) (by decide +kernel)) rfl (fun _ _ _ _ _ => rfl) (fun A1 outer1 s1 H1 E1 f1 c1 hr hi => by
    have hu := Wy.hu5 hr
    have hu4 := Wy.hu4 hr
    exact (we_callC C__law_led_on (hr.mono (by omega)) rfl (pass_lam (X := (cxOf (L2N.CX P w) P w K mg base N_law "law" (defScope s_law) f cdv A outer s H E)) (A := A1) (outer := outer1) (s := s1) (H := H1) (E := E1) (f' := f1) (c' := c1)) (wa_cons (we_var (pv 5 rfl (Or.inr (Or.inr rfl)))) (wa_cons (we_var (pv 9 rfl (Or.inr (Or.inr rfl)))) wa_nil))))) we_str (nomark _)) (wss_one (ws_ret false we_bl)) wss_nil)))
  (wss_cons (ws_if (wt_cmp (ow_ne hu4) (we_tryM LX TX rfl hr (LamX.lamS_by (sc := defScope s_law) (by decide +kernel)) rfl (fun _ _ _ _ _ => rfl) (fun A1 outer1 s1 H1 E1 f1 c1 hr hi => by
    have hu := Wy.hu5 hr
    have hu4 := Wy.hu4 hr
    exact (we_att (AX0 _ rfl rfl rfl) (LamM.inner _ c1 rfl rfl hi) (we_var (pv 5 rfl (Or.inr (Or.inr rfl)))) hr (Wt.lamS1_by (by first | rfl | with_unfolding_all rfl)) (by show _ ∉ N_law; decide) rfl (fun _ _ _ _ _ _ => rfl) (pass_lam (X := (cxOf (L2N.CX P w) P w K mg base N_law "law" (defScope s_law) f cdv A outer s H E)) (A := A1) (outer := outer1) (s := s1) (H := H1) (E := E1) (f' := f1) (c' := c1)) (fun A2 outer2 s2 H2 E2 f2 c2 hr => by
    have hu := Wy.hu5 hr
    have hu4 := Wy.hu4 hr
    exact (we_meth C_Day_choose Y.cl (hr.mono (by omega)) (pass_lam1 (X := (Wt.lamCxN (cxOf (L2N.CX P w) P w K mg base N_law "law" (defScope s_law) f cdv A outer s H E) A1 outer1 s1 H1 E1 _ f1 c1)) (A := A2) (outer := outer2) (s := s2) (H := H2) (E := E2) (f' := f2) (c' := c2)) (we_var (pv 10 rfl (Or.inl rfl))) (wa_cons we_int wa_nil)))))) we_str (nomark _)) (wss_one (ws_ret false we_bl)) wss_nil)
  (wss_cons (ws_if (WW.t (ww_or (wt_cmp (ow_ne hu4) (we_tryM LX TX rfl hr (LamX.lamS_by (sc := defScope s_law) (by decide +kernel)) rfl (fun _ _ _ _ _ => rfl) (fun A1 outer1 s1 H1 E1 f1 c1 hr hi => by
    have hu := Wy.hu5 hr
    have hu4 := Wy.hu4 hr
    exact (we_callC C__law_led_on (hr.mono (by omega)) rfl (pass_lam (X := (cxOf (L2N.CX P w) P w K mg base N_law "law" (defScope s_law) f cdv A outer s H E)) (A := A1) (outer := outer1) (s := s1) (H := H1) (E := E1) (f' := f1) (c' := c1)) (wa_cons (we_var (pv 5 rfl (Or.inr (Or.inr rfl)))) (wa_cons we_non wa_nil))))) we_str (nomark _)) (ww_or1 (wt_cmp (ow_ne hu4) (we_lst (wa_cons (we_prop C_Day_state Y.cl (hr.mono (by omega)) (we_var (pv 5 rfl (Or.inr (Or.inl rfl))))) (wa_cons (we_prop C_Day_stack Y.cl (hr.mono (by omega)) (we_var (pv 5 rfl (Or.inr (Or.inl rfl))))) (wa_cons (we_bi (cw_lenO C_Day___len__ (hr.mono (by omega)) pass_of) rfl B.h_len rfl (wa_cons (we_var (pv 5 rfl (Or.inr (Or.inl rfl)))) wa_nil)) wa_nil)))) (we_var (pv 8 rfl (Or.inl rfl))) (nomark _))))) (wss_one (ws_ret false we_bl)) wss_nil)
  (wss_cons (ws_if (wt_cmp (ow_ne hu4) (we_tryM LX TX rfl hr (LamX.lamS_by (sc := defScope s_law) (by decide +kernel)) rfl (fun _ _ _ _ _ => rfl) (fun A1 outer1 s1 H1 E1 f1 c1 hr hi => by
    have hu := Wy.hu5 hr
    have hu4 := Wy.hu4 hr
    exact (we_callC C__law_led_on (hr.mono (by omega)) rfl (pass_lam (X := (cxOf (L2N.CX P w) P w K mg base N_law "law" (defScope s_law) f cdv A outer s H E)) (A := A1) (outer := outer1) (s := s1) (H := H1) (E := E1) (f' := f1) (c' := c1)) (wa_cons (we_var (pv 5 rfl (Or.inr (Or.inr rfl)))) (wa_cons (we_bin ow_mulK (we_tup (wa_cons (we_var (pv 7 rfl (Or.inr (Or.inr rfl)))) wa_nil)) we_int) wa_nil))))) (we_tup (wa_cons we_str (wa_cons we_int wa_nil))) (nomark _)) (wss_one (ws_ret false we_bl)) wss_nil)
  (wss_cons (ws_if (WW.t (ww_or (wt_not (wt_val (we_callC C__law_led_on (hr.mono (by omega)) rfl pass_of (wa_cons (we_var (pv 5 rfl (Or.inr (Or.inl rfl)))) (wa_cons (we_bin ow_mulK (we_tup (wa_cons (we_var (pv 7 rfl (Or.inr (Or.inl rfl)))) wa_nil)) we_int) wa_nil))))) (ww_or1 (wt_cmp (ow_ne hu4) (we_tryM LX TX rfl hr (LamX.lamS_by (sc := defScope s_law) (by decide +kernel)) rfl (fun _ _ _ _ _ => rfl) (fun A1 outer1 s1 H1 E1 f1 c1 hr hi => by
    have hu := Wy.hu5 hr
    have hu4 := Wy.hu4 hr
    exact (we_meth C_Day_choose Y.cl (hr.mono (by omega)) (pass_lam (X := (cxOf (L2N.CX P w) P w K mg base N_law "law" (defScope s_law) f cdv A outer s H E)) (A := A1) (outer := outer1) (s := s1) (H := H1) (E := E1) (f' := f1) (c' := c1)) (we_var (pv 5 rfl (Or.inr (Or.inr rfl)))) (wa_cons (we_var (pv 7 rfl (Or.inr (Or.inr rfl)))) wa_nil)))) (we_tup (wa_cons we_str (wa_cons we_int wa_nil))) (nomark _))))) (wss_one (ws_ret false we_bl)) wss_nil)
  (wss_cons (ws_if (WW.t (ww_or (wt_notN (we_meth0 C_Day_undo Y.cl (hr.mono (by omega)) pass_of (we_var (pv 5 rfl (Or.inr (Or.inl rfl)))))) (ww_or (wt_notN (we_meth0 C_Day_undo Y.cl (hr.mono (by omega)) pass_of (we_var (pv 5 rfl (Or.inr (Or.inl rfl)))))) (ww_or1 (wt_cmp (ow_ne hu4) (we_tryM LX TX rfl hr (LamX.lamS_by (sc := defScope s_law) (by decide +kernel)) rfl (fun _ _ _ _ _ => rfl) (fun A1 outer1 s1 H1 E1 f1 c1 hr hi => by
    have hu := Wy.hu5 hr
    have hu4 := Wy.hu4 hr
    exact (we_meth0 C_Day_undo Y.cl (hr.mono (by omega)) (pass_lam (X := (cxOf (L2N.CX P w) P w K mg base N_law "law" (defScope s_law) f cdv A outer s H E)) (A := A1) (outer := outer1) (s := s1) (H := H1) (E := E1) (f' := f1) (c' := c1)) (we_var (pv 5 rfl (Or.inr (Or.inr rfl))))))) we_str (nomark _)))))) (wss_one (ws_ret false we_bl)) wss_nil)
  (wss_one (ws_if (WW.t (ww_or (wt_cmp (ow_ne hu4) (we_bi (cw_lenO C_Day___len__ (hr.mono (by omega)) pass_of) rfl B.h_len rfl (wa_cons (we_var (pv 5 rfl (Or.inr (Or.inl rfl)))) wa_nil)) we_int (nomark _)) (ww_or1 (wt_cmp (ow_ne hu4) (we_bi cw_len rfl B.h_len rfl (wa_cons (we_prop C_Day_stack Y.cl (hr.mono (by omega)) (we_var (pv 5 rfl (Or.inr (Or.inl rfl))))) wa_nil)) we_int (nomark _))))) (wss_one (ws_ret false we_bl)) wss_nil))))))))))))))))))
  (wss_one (ws_ret false we_bl)))
end Wy
set_option Elab.async false
set_option linter.all false
set_option maxRecDepth 100000
set_option maxHeartbeats 0
namespace Wy
open PySem PySem.Spec PyProof.Rows L2
def lo0 : List Str := ["_wall", "ErrandError", "InvalidHouse", "InvalidErrand", "InvalidState", "InvalidWish", "InvalidRun", "InvalidOption", "InvalidPaper", "InvalidIndex", "Unlike", "NothingToUndo", "TooMany", "InvalidText", "WHO", "is_within", "has_items", "are_states", "is_option", "is_line", "is_house_value", "open_options", "settled", "choices_of", "step", "need_house", "need_errand", "need_begin", "MOST_STEPS", "Day"]
def lo1 : List Str := ["_law_deck", "_law_pick", "_law_one", "_law_kin", "_law_try", "_law_wish", "_law_option", "_law_line", "_law_house", "_law_led_on", "_law_round"]
def loose : List Str := lo0 ++ lo1
def d__law_deck : He.DefD := ⟨("_law_deck", none), "_law_deck", "_law_deck", defArgs (top 34), defBody (top 34), defScope (top 34), [], []⟩
def d__law_pick : He.DefD := ⟨("_law_pick", none), "_law_pick", "_law_pick", defArgs (top 35), defBody (top 35), defScope (top 35), [], []⟩
def d__law_wish : He.DefD := ⟨("_law_wish", none), "_law_wish", "_law_wish", defArgs (top 39), defBody (top 39), defScope (top 39), [], []⟩
def d__law_option : He.DefD := ⟨("_law_option", none), "_law_option", "_law_option", defArgs (top 40), defBody (top 40), defScope (top 40), [], []⟩
def d__law_one : He.DefD := ⟨("_law_one", none), "_law_one", "_law_one", defArgs (top 36), defBody (top 36), defScope (top 36), [], []⟩
def d__law_line : He.DefD := ⟨("_law_line", none), "_law_line", "_law_line", defArgs (top 41), defBody (top 41), defScope (top 41), [], []⟩
def d__law_house : He.DefD := ⟨("_law_house", none), "_law_house", "_law_house", defArgs (top 42), defBody (top 42), defScope (top 42), [], []⟩
def d_has_items : He.DefD := ⟨("has_items", none), "has_items", "has_items", defArgs (top 18), defBody (top 18), defScope (top 18), [], []⟩
def d_is_within : He.DefD := ⟨("is_within", none), "is_within", "is_within", defArgs (top 17), defBody (top 17), defScope (top 17), [], []⟩
def d_are_states : He.DefD := ⟨("are_states", none), "are_states", "are_states", defArgs (top 19), defBody (top 19), defScope (top 19), [], []⟩
def d_is_option : He.DefD := ⟨("is_option", none), "is_option", "is_option", defArgs (top 20), defBody (top 20), defScope (top 20), [], []⟩
def d_is_line : He.DefD := ⟨("is_line", none), "is_line", "is_line", defArgs (top 21), defBody (top 21), defScope (top 21), [], []⟩
def d_is_house_value : He.DefD := ⟨("is_house_value", none), "is_house_value", "is_house_value", defArgs (top 22), defBody (top 22), defScope (top 22), [], []⟩
def d_need_house : He.DefD := ⟨("need_house", none), "need_house", "need_house", defArgs (top 27), defBody (top 27), defScope (top 27), [], []⟩
def d_need_errand : He.DefD := ⟨("need_errand", none), "need_errand", "need_errand", defArgs (top 28), defBody (top 28), defScope (top 28), [], []⟩
def d_need_begin : He.DefD := ⟨("need_begin", none), "need_begin", "need_begin", defArgs (top 29), defBody (top 29), defScope (top 29), [], []⟩
def d__law_round : He.DefD := ⟨("_law_round", none), "_law_round", "_law_round", defArgs (top 44), defBody (top 44), defScope (top 44), [], []⟩
def d_open_options : He.DefD := ⟨("open_options", none), "open_options", "open_options", defArgs (top 23), defBody (top 23), defScope (top 23), [], []⟩
def d_choices_of : He.DefD := ⟨("choices_of", none), "choices_of", "choices_of", defArgs (top 25), defBody (top 25), defScope (top 25), [], []⟩
def d_settled : He.DefD := ⟨("settled", none), "settled", "settled", defArgs (top 24), defBody (top 24), defScope (top 24), [], []⟩
def d_step : He.DefD := ⟨("step", none), "step", "step", defArgs (top 26), defBody (top 26), defScope (top 26), [], []⟩
def d__law_led_on : He.DefD := ⟨("_law_led_on", none), "_law_led_on", "_law_led_on", defArgs (top 43), defBody (top 43), defScope (top 43), [], []⟩
def d_law : He.DefD := ⟨("law", none), "law", "law", defArgs (top 45), defBody (top 45), defScope (top 45), [], []⟩
def d__law_kin : He.DefD := ⟨("_law_kin", none), "_law_kin", "_law_kin", defArgs (top 37), defBody (top 37), defScope (top 37), [], []⟩
def d__law_try : He.DefD := ⟨("_law_try", none), "_law_try", "_law_try", defArgs (top 38), defBody (top 38), defScope (top 38), [], []⟩
def d_Day___init__ : He.DefD := ⟨("Day", some "__init__"), "__init__", "Day.__init__", defArgs s_Day___init__, defBody s_Day___init__, defScope s_Day___init__, [], []⟩
def d_Day_place : He.DefD := ⟨("Day", some "place"), "place", "Day.place", defArgs s_Day_place, defBody s_Day_place, defScope s_Day_place, [], []⟩
def d_Day_lead : He.DefD := ⟨("Day", some "lead"), "lead", "Day.lead", defArgs s_Day_lead, defBody s_Day_lead, defScope s_Day_lead, [], []⟩
def d_Day_choose : He.DefD := ⟨("Day", some "choose"), "choose", "Day.choose", defArgs s_Day_choose, defBody s_Day_choose, defScope s_Day_choose, [], []⟩
def d_Day___len__ : He.DefD := ⟨("Day", some "__len__"), "__len__", "Day.__len__", defArgs s_Day___len__, defBody s_Day___len__, defScope s_Day___len__, [], []⟩
def d_Day___iadd__ : He.DefD := ⟨("Day", some "__iadd__"), "__iadd__", "Day.__iadd__", defArgs s_Day___iadd__, defBody s_Day___iadd__, defScope s_Day___iadd__, [], []⟩
def d_Day___eq__ : He.DefD := ⟨("Day", some "__eq__"), "__eq__", "Day.__eq__", defArgs s_Day___eq__, defBody s_Day___eq__, defScope s_Day___eq__, [], []⟩
def d_Day_undo : He.DefD := ⟨("Day", some "undo"), "undo", "Day.undo", defArgs s_Day_undo, defBody s_Day_undo, defScope s_Day_undo, [], []⟩
def d_Day_attempt : He.DefD := ⟨("Day", some "attempt"), "attempt", "Day.attempt", defArgs s_Day_attempt, defBody s_Day_attempt, defScope s_Day_attempt, [], []⟩
def d_Day_stack : He5.DefA := ⟨fun K => prG K "Day" "stack", "stack", "Day.stack", defArgs s_Day_stack, defBody s_Day_stack, defScope s_Day_stack, [], []⟩
def d_Day_state : He5.DefA := ⟨fun K => prG K "Day" "state", "state", "Day.state", defArgs s_Day_state, defBody s_Day_state, defScope s_Day_state, [], []⟩
def pal : List He5.DefA := [d_Day_stack, d_Day_state]
def fnl0 : List He.DefD := [d__law_deck, d__law_pick, d__law_wish, d__law_option, d__law_one, d__law_line, d__law_house, d_has_items, d_is_within, d_are_states, d_is_option, d_is_line, d_is_house_value, d_need_house, d_need_errand, d_need_begin, d__law_round, d_open_options, d_choices_of, d_settled, d_step, d__law_led_on, d_law, d__law_kin, d__law_try, d_Day___init__, d_Day_place, d_Day_lead, d_Day_choose, d_Day___len__]
def fnl1 : List He.DefD := [d_Day___iadd__, d_Day___eq__, d_Day_undo, d_Day_attempt]
def fnl : List He.DefD := fnl0 ++ fnl1
def fal0 : List He.Fa := [.glo "_law_deck", .glo "_law_pick", .glo "_law_wish", .glo "_law_option", .glo "_law_one", .glo "_law_line", .glo "_law_house", .glo "has_items", .glo "is_within", .glo "are_states", .glo "is_option", .glo "is_line", .glo "is_house_value", .glo "need_house", .glo "need_errand", .glo "need_begin", .glo "_law_round", .glo "open_options", .glo "choices_of", .glo "settled", .glo "step", .glo "_law_led_on", .glo "law", .glo "_law_kin", .glo "_law_try", .free "all", .free "bool", .free "enumerate", .free "int", .free "isinstance"]
def fal1 : List He.Fa := [.free "len", .free "list", .free "range", .free "set", .free "sorted", .free "str", .free "tuple", .free "zip", .glo "InvalidErrand", .glo "InvalidHouse", .glo "InvalidOption", .glo "InvalidState", .glo "NothingToUndo", .exc "InvalidErrand", .exc "InvalidHouse", .exc "InvalidOption", .exc "InvalidState", .exc "NothingToUndo", .int "MOST_STEPS" 100, .meth "Day" "place", .meth "Day" "lead", .meth "Day" "choose", .meth "Day" "__len__", .meth "Day" "__iadd__", .meth "Day" "__eq__", .meth "Day" "undo", .meth "Day" "attempt", .mkr "Day"]
def fal : List He.Fa := fal0 ++ fal1
def tbl : List Tb := [("WHO", [.str "me", .str "they"])]
abbrev Rw : PySem.W.OpenRow := PySem.W.OpenLaw.row PySem.Challenge.rw_whileatit_k23_errors_of_objects
def exK : PySem.W.Frag → Bool := exW tbl (fun K => clsFB "Day" cfs K && (propB K "Day" "stack" && (propB K "Day" "state" && ((moreTryM (PySem.Challenge.rw_whileatit_k23_errors_of_objects).prog kinds kF) K))))
def tfl : List He.Defn := [("law", none)]
abbrev hkW : PySem.W.Hook := hookZ 5 fal fnl [] tfl exK pal
def obn (s : PySem.W.SharedT) : AlZ := obsZ 5 fal fnl [] tfl exK pal (HandSHeadRun.getT s)
theorem ob_eq (s : PySem.W.SharedT) : obn s = hkW.obs s.abs := obsZ_eq (HandSHeadRun.getT_eq s)
theorem runW (w : World) : HandSHeadRun.RunEq Rw (PySem.W.view Rw.prog [45]) hkW obn 12000 loose w := by
  intro os
  kernel_rfl
theorem facts {P : Program} {w : World} {K : PySem.W.Frag} {h : Heap} {mg : Str → Option Value} (KX : K.In h) (G : h.Ns mainGlobals mg) (hP : P = (PySem.Challenge.rw_whileatit_k23_errors_of_objects).prog) (c1 : SaysZ fal fnl [] tfl exK pal w h K) :
    ∃ fd : FuncData, mg "law" = some (.ref (He.ga K "law")) ∧ (∀ (s : Shared) (v : Value), BindsTo s fd ⟨[v], []⟩ [("_law_script", v)]) ∧ ∀ base : Heap, LamX.TabB base mg (He.cT K ("law", none)).1 (tabL K) → FnOk P w K mg base (L2N.CX P w) 60 (He.ga K "law") fd ["_law_script"] (spWT P w K mg 1 (f_law)) := by
  have c := c1.x.t.d
  obtain ⟨fd__law_deck, F__law_deck⟩ := c.def_ 0 (d := d__law_deck) rfl
  have m__law_deck : mg "_law_deck" = some (.ref (He.ga K "_law_deck")) := He.glo_ok KX G (c.fact 0 (f := .glo "_law_deck") rfl)
  obtain ⟨fd__law_pick, F__law_pick⟩ := c.def_ 1 (d := d__law_pick) rfl
  have m__law_pick : mg "_law_pick" = some (.ref (He.ga K "_law_pick")) := He.glo_ok KX G (c.fact 1 (f := .glo "_law_pick") rfl)
  obtain ⟨fd__law_wish, F__law_wish⟩ := c.def_ 2 (d := d__law_wish) rfl
  have m__law_wish : mg "_law_wish" = some (.ref (He.ga K "_law_wish")) := He.glo_ok KX G (c.fact 2 (f := .glo "_law_wish") rfl)
  obtain ⟨fd__law_option, F__law_option⟩ := c.def_ 3 (d := d__law_option) rfl
  have m__law_option : mg "_law_option" = some (.ref (He.ga K "_law_option")) := He.glo_ok KX G (c.fact 3 (f := .glo "_law_option") rfl)
  obtain ⟨fd__law_one, F__law_one⟩ := c.def_ 4 (d := d__law_one) rfl
  have m__law_one : mg "_law_one" = some (.ref (He.ga K "_law_one")) := He.glo_ok KX G (c.fact 4 (f := .glo "_law_one") rfl)
  obtain ⟨fd__law_line, F__law_line⟩ := c.def_ 5 (d := d__law_line) rfl
  have m__law_line : mg "_law_line" = some (.ref (He.ga K "_law_line")) := He.glo_ok KX G (c.fact 5 (f := .glo "_law_line") rfl)
  obtain ⟨fd__law_house, F__law_house⟩ := c.def_ 6 (d := d__law_house) rfl
  have m__law_house : mg "_law_house" = some (.ref (He.ga K "_law_house")) := He.glo_ok KX G (c.fact 6 (f := .glo "_law_house") rfl)
  obtain ⟨fd_has_items, F_has_items⟩ := c.def_ 7 (d := d_has_items) rfl
  have m_has_items : mg "has_items" = some (.ref (He.ga K "has_items")) := He.glo_ok KX G (c.fact 7 (f := .glo "has_items") rfl)
  obtain ⟨fd_is_within, F_is_within⟩ := c.def_ 8 (d := d_is_within) rfl
  have m_is_within : mg "is_within" = some (.ref (He.ga K "is_within")) := He.glo_ok KX G (c.fact 8 (f := .glo "is_within") rfl)
  obtain ⟨fd_are_states, F_are_states⟩ := c.def_ 9 (d := d_are_states) rfl
  have m_are_states : mg "are_states" = some (.ref (He.ga K "are_states")) := He.glo_ok KX G (c.fact 9 (f := .glo "are_states") rfl)
  obtain ⟨fd_is_option, F_is_option⟩ := c.def_ 10 (d := d_is_option) rfl
  have m_is_option : mg "is_option" = some (.ref (He.ga K "is_option")) := He.glo_ok KX G (c.fact 10 (f := .glo "is_option") rfl)
  obtain ⟨fd_is_line, F_is_line⟩ := c.def_ 11 (d := d_is_line) rfl
  have m_is_line : mg "is_line" = some (.ref (He.ga K "is_line")) := He.glo_ok KX G (c.fact 11 (f := .glo "is_line") rfl)
  obtain ⟨fd_is_house_value, F_is_house_value⟩ := c.def_ 12 (d := d_is_house_value) rfl
  have m_is_house_value : mg "is_house_value" = some (.ref (He.ga K "is_house_value")) := He.glo_ok KX G (c.fact 12 (f := .glo "is_house_value") rfl)
  obtain ⟨fd_need_house, F_need_house⟩ := c.def_ 13 (d := d_need_house) rfl
  have m_need_house : mg "need_house" = some (.ref (He.ga K "need_house")) := He.glo_ok KX G (c.fact 13 (f := .glo "need_house") rfl)
  obtain ⟨fd_need_errand, F_need_errand⟩ := c.def_ 14 (d := d_need_errand) rfl
  have m_need_errand : mg "need_errand" = some (.ref (He.ga K "need_errand")) := He.glo_ok KX G (c.fact 14 (f := .glo "need_errand") rfl)
  obtain ⟨fd_need_begin, F_need_begin⟩ := c.def_ 15 (d := d_need_begin) rfl
  have m_need_begin : mg "need_begin" = some (.ref (He.ga K "need_begin")) := He.glo_ok KX G (c.fact 15 (f := .glo "need_begin") rfl)
  obtain ⟨fd__law_round, F__law_round⟩ := c.def_ 16 (d := d__law_round) rfl
  have m__law_round : mg "_law_round" = some (.ref (He.ga K "_law_round")) := He.glo_ok KX G (c.fact 16 (f := .glo "_law_round") rfl)
  obtain ⟨fd_open_options, F_open_options⟩ := c.def_ 17 (d := d_open_options) rfl
  have m_open_options : mg "open_options" = some (.ref (He.ga K "open_options")) := He.glo_ok KX G (c.fact 17 (f := .glo "open_options") rfl)
  obtain ⟨fd_choices_of, F_choices_of⟩ := c.def_ 18 (d := d_choices_of) rfl
  have m_choices_of : mg "choices_of" = some (.ref (He.ga K "choices_of")) := He.glo_ok KX G (c.fact 18 (f := .glo "choices_of") rfl)
  obtain ⟨fd_settled, F_settled⟩ := c.def_ 19 (d := d_settled) rfl
  have m_settled : mg "settled" = some (.ref (He.ga K "settled")) := He.glo_ok KX G (c.fact 19 (f := .glo "settled") rfl)
  obtain ⟨fd_step, F_step⟩ := c.def_ 20 (d := d_step) rfl
  have m_step : mg "step" = some (.ref (He.ga K "step")) := He.glo_ok KX G (c.fact 20 (f := .glo "step") rfl)
  obtain ⟨fd__law_led_on, F__law_led_on⟩ := c.def_ 21 (d := d__law_led_on) rfl
  have m__law_led_on : mg "_law_led_on" = some (.ref (He.ga K "_law_led_on")) := He.glo_ok KX G (c.fact 21 (f := .glo "_law_led_on") rfl)
  obtain ⟨fd_law, F_law⟩ := c.def_ 22 (d := d_law) rfl
  have m_law : mg "law" = some (.ref (He.ga K "law")) := He.glo_ok KX G (c.fact 22 (f := .glo "law") rfl)
  obtain ⟨fd__law_kin, F__law_kin⟩ := c.def_ 23 (d := d__law_kin) rfl
  have m__law_kin : mg "_law_kin" = some (.ref (He.ga K "_law_kin")) := He.glo_ok KX G (c.fact 23 (f := .glo "_law_kin") rfl)
  obtain ⟨fd__law_try, F__law_try⟩ := c.def_ 24 (d := d__law_try) rfl
  have m__law_try : mg "_law_try" = some (.ref (He.ga K "_law_try")) := He.glo_ok KX G (c.fact 24 (f := .glo "_law_try") rfl)
  have B : Bt mg := ⟨He.free_ok KX G (c.fact 25 (f := .free "all") rfl), He.free_ok KX G (c.fact 26 (f := .free "bool") rfl), He.free_ok KX G (c.fact 27 (f := .free "enumerate") rfl), He.free_ok KX G (c.fact 28 (f := .free "int") rfl), He.free_ok KX G (c.fact 29 (f := .free "isinstance") rfl), He.free_ok KX G (c.fact 30 (f := .free "len") rfl), He.free_ok KX G (c.fact 31 (f := .free "list") rfl), He.free_ok KX G (c.fact 32 (f := .free "range") rfl), He.free_ok KX G (c.fact 33 (f := .free "set") rfl), He.free_ok KX G (c.fact 34 (f := .free "sorted") rfl), He.free_ok KX G (c.fact 35 (f := .free "str") rfl), He.free_ok KX G (c.fact 36 (f := .free "tuple") rfl), He.free_ok KX G (c.fact 37 (f := .free "zip") rfl)⟩
  have X_InvalidErrand : Ecl K mg "InvalidErrand" := ecl_of KX G (c.fact 38 (f := .glo "InvalidErrand") rfl) (c.fact 43 (f := .exc "InvalidErrand") rfl)
  have X_InvalidHouse : Ecl K mg "InvalidHouse" := ecl_of KX G (c.fact 39 (f := .glo "InvalidHouse") rfl) (c.fact 44 (f := .exc "InvalidHouse") rfl)
  have X_InvalidOption : Ecl K mg "InvalidOption" := ecl_of KX G (c.fact 40 (f := .glo "InvalidOption") rfl) (c.fact 45 (f := .exc "InvalidOption") rfl)
  have X_InvalidState : Ecl K mg "InvalidState" := ecl_of KX G (c.fact 41 (f := .glo "InvalidState") rfl) (c.fact 46 (f := .exc "InvalidState") rfl)
  have X_NothingToUndo : Ecl K mg "NothingToUndo" := ecl_of KX G (c.fact 42 (f := .glo "NothingToUndo") rfl) (c.fact 47 (f := .exc "NothingToUndo") rfl)
  have m0 := exW_m c1.more
  obtain ⟨mY, m1⟩ := He.ba m0
  have Y := clsF_ok KX G mY
  obtain ⟨q_Day_stack, m1⟩ := He.ba m1
  have p_Day_stack := propB_ok q_Day_stack
  obtain ⟨q_Day_state, m1⟩ := He.ba m1
  have p_Day_state := propB_ok q_Day_state
  have m := m1
  
  have X_TooMany : EclF P K mg "TooMany" "limit" := by rw [hP]; exact tmF_ok KX G m
  have G_MOST_STEPS : Glo K mg "MOST_STEPS" g_MOST_STEPS := glo_int KX G (c.fact 48 rfl)
  obtain ⟨fd_Day___init__, F_Day___init__⟩ := c.def_ 25 (d := d_Day___init__) rfl
  obtain ⟨fd_Day_place, F_Day_place⟩ := c.def_ 26 (d := d_Day_place) rfl
  obtain ⟨fd_Day_lead, F_Day_lead⟩ := c.def_ 27 (d := d_Day_lead) rfl
  obtain ⟨fd_Day_choose, F_Day_choose⟩ := c.def_ 28 (d := d_Day_choose) rfl
  obtain ⟨fd_Day___len__, F_Day___len__⟩ := c.def_ 29 (d := d_Day___len__) rfl
  obtain ⟨fd_Day___iadd__, F_Day___iadd__⟩ := c.def_ 30 (d := d_Day___iadd__) rfl
  obtain ⟨fd_Day___eq__, F_Day___eq__⟩ := c.def_ 31 (d := d_Day___eq__) rfl
  obtain ⟨fd_Day_undo, F_Day_undo⟩ := c.def_ 32 (d := d_Day_undo) rfl
  obtain ⟨fd_Day_attempt, F_Day_attempt⟩ := c.def_ 33 (d := d_Day_attempt) rfl
  have m_Day_place := He.meth_ok (c.fact 49 (f := .meth "Day" "place") rfl)
  have m_Day_lead := He.meth_ok (c.fact 50 (f := .meth "Day" "lead") rfl)
  have m_Day_choose := He.meth_ok (c.fact 51 (f := .meth "Day" "choose") rfl)
  have m_Day___len__ := He.meth_ok (c.fact 52 (f := .meth "Day" "__len__") rfl)
  have m_Day___iadd__ := He.meth_ok (c.fact 53 (f := .meth "Day" "__iadd__") rfl)
  have m_Day___eq__ := He.meth_ok (c.fact 54 (f := .meth "Day" "__eq__") rfl)
  have m_Day_undo := He.meth_ok (c.fact 55 (f := .meth "Day" "undo") rfl)
  have m_Day_attempt := He.meth_ok (c.fact 56 (f := .meth "Day" "attempt") rfl)
  have m_Day___init__ := He.mkr_ok (c.fact 57 (f := .mkr "Day") rfl)
  obtain ⟨fd_Day_stack, F_Day_stack⟩ := c1.def_ 0 (d := d_Day_stack) rfl
  obtain ⟨fd_Day_state, F_Day_state⟩ := c1.def_ 1 (d := d_Day_state) rfl
  have G_WHO : Glo K mg "WHO" g_WHO := glo_texts (ts := ["me", "they"]) KX G (exW_t c1.more 0 rfl)
  refine ⟨fd_law, m_law, fun s v => FunD.bindsA (ps := ["_law_script"]) F_law (fun _ _ _ _ _ _ us hl => match us, hl with | [_], _ => rfl) s [v] rfl, fun base TB => ?_⟩
  have C__law_deck := ok__law_deck (P := P) (w := w) (base := base) (kk := 1) F__law_deck m__law_deck B Y
  have C__law_pick := ok__law_pick (P := P) (w := w) (base := base) (kk := 1) F__law_pick m__law_pick B Y
  have C__law_wish := ok__law_wish (P := P) (w := w) (base := base) (kk := 4) F__law_wish m__law_wish B Y (C__law_pick.mono (by decide))
  have C__law_option := ok__law_option (P := P) (w := w) (base := base) (kk := 7) F__law_option m__law_option B Y (C__law_pick.mono (by decide)) (C__law_wish.mono (by decide))
  have C__law_one := ok__law_one (P := P) (w := w) (base := base) (kk := 4) F__law_one m__law_one B Y (C__law_pick.mono (by decide))
  have C__law_line := ok__law_line (P := P) (w := w) (base := base) (kk := 10) F__law_line m__law_line B Y (C__law_pick.mono (by decide)) (C__law_option.mono (by decide)) (C__law_one.mono (by decide))
  have C__law_house := ok__law_house (P := P) (w := w) (base := base) (kk := 13) F__law_house m__law_house B Y (C__law_pick.mono (by decide)) (C__law_line.mono (by decide))
  have C_has_items := ok_has_items (P := P) (w := w) (base := base) (kk := 1) F_has_items m_has_items B Y
  have C_is_within := ok_is_within (P := P) (w := w) (base := base) (kk := 1) F_is_within m_is_within B Y
  have C_are_states := ok_are_states (P := P) (w := w) (base := base) (kk := 4) F_are_states m_are_states B Y (C_has_items.mono (by decide)) (C_is_within.mono (by decide))
  have C_is_option := ok_is_option (P := P) (w := w) (base := base) (kk := 7) F_is_option m_is_option B Y (C_has_items.mono (by decide)) (C_are_states.mono (by decide)) (C_is_within.mono (by decide))
  have C_is_line := ok_is_line (P := P) (w := w) (base := base) (kk := 10) F_is_line m_is_line B Y G_WHO (C_has_items.mono (by decide)) (C_is_option.mono (by decide))
  have C_is_house_value := ok_is_house_value (P := P) (w := w) (base := base) (kk := 13) F_is_house_value m_is_house_value B Y (C_has_items.mono (by decide)) (C_is_within.mono (by decide)) (C_is_line.mono (by decide))
  have C_need_house := ok_need_house (P := P) (w := w) (base := base) (kk := 16) F_need_house m_need_house B Y X_InvalidHouse (C_is_house_value.mono (by decide))
  have C_need_errand := ok_need_errand (P := P) (w := w) (base := base) (kk := 4) F_need_errand m_need_errand B Y X_InvalidErrand (C_is_within.mono (by decide))
  have C_need_begin := ok_need_begin (P := P) (w := w) (base := base) (kk := 19) F_need_begin m_need_begin B Y X_InvalidState (C_need_house.mono (by decide)) (C_need_errand.mono (by decide)) (C_is_within.mono (by decide))
  have C_Day___init__ := ok_Day___init__ (P := P) (w := w) (base := base) (kk := 22) F_Day___init__ m_Day___init__ B Y (C_need_begin.mono (by decide))
  have C__law_round := ok__law_round (P := P) (w := w) (base := base) (kk := 25) F__law_round m__law_round B Y (C__law_pick.mono (by decide)) (C__law_one.mono (by decide)) (C_Day___init__.mono (by decide))
  have C_Day_place := ok_Day_place (P := P) (w := w) (base := base) (kk := 1) F_Day_place m_Day_place B Y
  have C_open_options := ok_open_options (P := P) (w := w) (base := base) (kk := 1) F_open_options m_open_options B Y
  have C_choices_of := ok_choices_of (P := P) (w := w) (base := base) (kk := 4) F_choices_of m_choices_of B Y (C_open_options.mono (by decide))
  have C_settled := ok_settled (P := P) (w := w) (base := base) (kk := 1) F_settled m_settled B Y
  have C_step := ok_step (P := P) (w := w) (base := base) (kk := 4) F_step m_step B Y (C_settled.mono (by decide))
  have C_Day_lead := ok_Day_lead (P := P) (w := w) (base := base) (kk := 7) F_Day_lead m_Day_lead B Y G_MOST_STEPS X_InvalidOption X_TooMany (C_Day_place.mono (by decide)) (C_is_within.mono (by decide)) (C_choices_of.mono (by decide)) (C_step.mono (by decide))
  have C_Day_choose := ok_Day_choose (P := P) (w := w) (base := base) (kk := 10) F_Day_choose m_Day_choose B Y (C_Day_lead.mono (by decide)) (C_Day_place.mono (by decide))
  have C_Day___len__ := ok_Day___len__ (P := P) (w := w) (base := base) (kk := 1) F_Day___len__ m_Day___len__ B Y
  have C_Day_stack := ok_Day_stack (P := P) (w := w) (base := base) (kk := 4) F_Day_stack p_Day_stack B Y (C_Day_place.mono (by decide))
  have C_Day_state := ok_Day_state (P := P) (w := w) (base := base) (kk := 4) F_Day_state p_Day_state B Y (C_Day_place.mono (by decide))
  have C_Day___iadd__ := ok_Day___iadd__ (P := P) (w := w) (base := base) (kk := 10) F_Day___iadd__ m_Day___iadd__ B Y X_InvalidOption (C_Day_lead.mono (by decide))
  have C_Day___eq__ := ok_Day___eq__ (P := P) (w := w) (base := base) (kk := 7) F_Day___eq__ m_Day___eq__ B Y (C_Day_stack.mono (by decide)) (C_Day_state.mono (by decide))
  have C__law_led_on := ok__law_led_on (P := P) (w := w) (base := base) (kk := 13) F__law_led_on m__law_led_on B Y (C_Day___iadd__.mono (by decide)) (C_Day___eq__.mono (by decide))
  have C_Day_undo := ok_Day_undo (P := P) (w := w) (base := base) (kk := 1) F_Day_undo m_Day_undo B Y X_NothingToUndo
  exact (okf_law (P := P) (w := w) (base := base) (kk := 28) F_law m_law B Y (C__law_deck.mono (by decide)) (C__law_house.mono (by decide)) (C_Day___init__.mono (by decide)) (C__law_round.mono (by decide)) (C_Day_choose.mono (by decide)) (C_Day___len__.mono (by decide)) (C_Day_stack.mono (by decide)) (C_Day_state.mono (by decide)) (C__law_led_on.mono (by decide)) (C_Day_undo.mono (by decide)) TB rfl (tryXM_ok F__law_try m__law_try F__law_kin m__law_kin (kinds_ok KX G (mtM_1 m)) (errand_ok KX G (mtM_1 m)) (tryKM_ok KX G (mtM_1 m) (mtM_2 m)) (xm_ok (mtM_2 m)).1 (xm_ok (mtM_2 m)).2) (attX_of F_Day_attempt (F_Day_attempt.bindsN fun _ _ _ _ _ _ us hl => match us, hl with | [_, _], _ => rfl) m_Day_attempt Y (by decide) (by decide) sc_Day_attempt (errand_ok KX G (mtM_1 m)) TB (errs_ok KX G (mtM_1 m)))).mono (by decide)
open PySem PySem.W PySem.Calls PyProof.Rows
theorem law_holds (pure_law : ∀ ns : List Int, ns.length ≤ 63 → f_law [.d (.list (ns.map PyData.int))] [] = .ok (.d (.bool true)) []) : PySem.Challenge.rw_whileatit_k23_errors_of_objects.Holds := by
  w_on; o_law
  refine HandSHeadRun.head_any (r := OpenLaw.row PySem.Challenge.rw_whileatit_k23_errors_of_objects) (q := view (OpenLaw.row PySem.Challenge.rw_whileatit_k23_errors_of_objects).prog [45]) (H := hkW) (ob := obn) (M := 12000) (loose := loose) (d := HandSHeadRun.topDef (OpenLaw.row PySem.Challenge.rw_whileatit_k23_errors_of_objects).prog 45) (kwd := []) ob_eq
    (by kernel_rfl) (fun s => by kernel_rfl) runW (by kernel_rfl) (by kernel_rfl) (by kernel_rfl) (by rfl) (by first | assumption | decide +kernel) (by decide +kernel) ⟨rfl, rfl, rfl, rfl, rfl, by decide +kernel⟩ ?hw ?hc
  case hw => w_witness2
  case hc =>
    refine LamX.walk_ofTsE (l := PySem.Challenge.rw_whileatit_k23_errors_of_objects) (n := 63) (k := 60) (x := "_law_script") (CX := fun _ => L2.CX0) rfl (by rw [sizeLine_eq]; decide) (by kernel_rfl) ⟨rfl, by decide, by decide⟩ ?F (fun _ _ _ _ _ z => z)
    intro w mg fa h Y G hmg0
    obtain ⟨K, KX, c⟩ := Y
    have hmg : mg ("law" : PySem.Str) = some (.ref fa) := by
      have e : (HandSHeadRun.topDef (OpenLaw.row PySem.Challenge.rw_whileatit_k23_errors_of_objects).prog 45).name = ("law" : PySem.Str) := by kernel_rfl
      rw [← e]
      exact hmg0
    obtain ⟨fd, e1, hb, hF⟩ := facts (P := (PySem.Challenge.rw_whileatit_k23_errors_of_objects).prog) (w := w) KX G rfl c
    rw [hmg] at e1
    cases e1
    refine ⟨K, KX, fd, [He.cT K ("law", none)], spLaw K 63, fun p hp => ?_, fun p hp => ?_, fun p hp => ?_, hb, fun H a ns hl _ hT hS => ⟨a, ns, rfl, noL_rd (exW_n c.more) hS, hl, hT _ List.mem_cons_self, fun _ => rfl⟩, fun base _ _ TB => law_ok (hF base (TB _ List.mem_cons_self)) pure_law⟩
    · rw [List.mem_singleton.mp hp]; exact c.x.empty ("law", none) List.mem_cons_self
    · rw [List.mem_singleton.mp hp]; exact c.x.out ("law", none) List.mem_cons_self
    · rw [List.mem_singleton.mp hp]; exact PySem.W.codeHd_of_K KX (c.x.hd ("law", none) List.mem_cons_self)
end Wy
set_option maxHeartbeats 0
theorem PySem.Challenge.cw_whileatit_k23_errors_of_objects_holds : PySem.Challenge.rw_whileatit_k23_errors_of_objects.Holds :=
  Wy.law_holds Wy.pure_law
