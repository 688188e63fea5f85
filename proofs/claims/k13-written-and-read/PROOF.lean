import PyProof.Rows.All
import Wide.All
import OpenK.AllK
import Wide.FinOn
import KE.KStateDown
import HandS.Base
import HandS.Call
import HandS.List
import HandS.Comp
import HandS.Ends
import HandS.Dict
import HandS.Iter
import HandS.Words
import HandS.WordsExc
import HandS.More
import HandS.Rev
import HandS.RevRange
import HandS.IsInst
import HandS.Defaults
import HandS.Head0
import HandS.Head1
import HandS.Head2
import HandS.HeadEnd
import HandS.HeadHook1
import HandS.HeadHook2
import KE.KeyNested
import HandS.Lambda
import KE.SortData
import KE.KDictCopyH
import HandS.SetFor
import KE.KDictDisplayH
import KE.KRevSl
import HandS.Conv
import PyProof.DictMoreH
import KE.KDictPairs
import HandS.Deep
import HandS.WordsDict
import HandS.DictTup
import HandS.DictComp
import HandS.TupSets
import HandS.TupAny
import HandS.Zip
import HandS.Style
import KE.KDictKeyed
import HandS.TupLen
import HandS.ExcInit
import HandS.ExcOwn
import HandS.ExcIs
import HandS.ExcField
import KE.KExcIs
import HandS.HeadHook4
import HandS.HeadWalk
import PyProof.Rows.CountFlat
import KE.KDictZip
import HandS.RevTup
import PyProof.Draws
import PyProof.ListNew
import PyProof.EnumMake
import HandS.Text
import PySem.Challenge.RW_drivermatch_k13_written_and_read
set_option Elab.async false
set_option linter.all false
set_option maxRecDepth 100000
set_option maxHeartbeats 4000000
/-! A cleaner store over the hand layer: data, objects by place, and what is wanted behind a piece of code (WE, WT, WA, WS). -/
namespace DM
open PySem L2

/-- the name that the lambdas of law bear -/
def q0 : Str := ("law" : Str) ++ ".<locals>." ++ "<lambda>"
/-- what is known of a value beyond its place: a script (with a table of code objects beside it), a caught exception with a field -/
inductive Gh where
  | ns (l : List Int) | nsT (l : List Int) (P : Addr) | refT (a P : Addr) | exc (a dx : Addr) (nm : Str) (i : Int)
  deriving DecidableEq
/-- a datum: tuples as trees, changing objects by their place in the store -/
inductive D where
  | non | bl (b : Bool) | int (i : Int) | str (x : Str) | ty (n : String) | ref (a : Addr) | tup (xs : List D) | loc (l : Nat) | scr (g : Gh)
mutual
def D.beq : D → D → Bool
  | .non, .non => true
  | .bl a, .bl b => decide (a = b)
  | .int a, .int b => decide (a = b)
  | .str a, .str b => decide (a = b)
  | .ty a, .ty b => decide (a = b)
  | .ref a, .ref b => decide (a = b)
  | .loc a, .loc b => decide (a = b)
  | .scr a, .scr b => decide (a = b)
  | .tup xs, .tup ys => D.beqs xs ys
  | _, _ => false
def D.beqs : List D → List D → Bool
  | [], [] => true
  | x :: xs, y :: ys => D.beq x y && D.beqs xs ys
  | _, _ => false
end
mutual
theorem D.beq_iff : ∀ (x y : D), D.beq x y = true ↔ x = y
  | .non, y => by cases y <;> simp [D.beq]
  | .bl a, y => by cases y <;> simp [D.beq]
  | .int a, y => by cases y <;> simp [D.beq]
  | .str a, y => by cases y <;> simp [D.beq]
  | .ty a, y => by cases y <;> simp [D.beq]
  | .ref a, y => by cases y <;> simp [D.beq]
  | .loc a, y => by cases y <;> simp [D.beq]
  | .scr a, y => by cases y <;> simp [D.beq]
  | .tup xs, y => by
    cases y with
    | tup ys => simp only [D.beq, D.tup.injEq]; exact D.beqs_iff xs ys
    | _ => simp [D.beq]
theorem D.beqs_iff : ∀ (xs ys : List D), D.beqs xs ys = true ↔ xs = ys
  | [], ys => by cases ys <;> simp [D.beqs]
  | x :: xs, ys => by
    cases ys with
    | nil => simp [D.beqs]
    | cons y ys => simp only [D.beqs, Bool.and_eq_true, List.cons.injEq]; rw [D.beq_iff x y, D.beqs_iff xs ys]
end
instance : DecidableEq D := fun x y => decidable_of_iff _ (D.beq_iff x y)
abbrev Fv := List (Option D)
/-- what stands at a place -/
inductive Ob where
  | lst (xs : List D) | dK (kvs : List (Key × D)) | dT (kvs : List (List Key × D)) | ins (C : Addr) (fs : List (Str × D)) | frz (o : Obj) (u : Ob) | dN (w : World) (kvs : List (D × Int))
abbrev Store := List Ob

mutual
/-- a key of any depth: numbers, tuples of them -/
def nkD : D → NestedKey
  | .int i => .num i
  | .tup xs => .tup (nkDs xs)
  | _ => .none
def nkDs : List D → List NestedKey
  | [] => []
  | x :: xs => nkD x :: nkDs xs
end
mutual
def ikD : D → Bool
  | .int _ => true
  | .tup xs => ikDs xs
  | _ => false
def ikDs : List D → Bool
  | [] => true
  | x :: xs => ikD x && ikDs xs
end
def GhR (H : Hp) : Gh → V → Prop
  | .ns l, v => ∃ a o, v = .ref a ∧ H a = some (.frz o (.lst (l.map V.int)))
  | .nsT l P, v => (∃ a o, v = .ref a ∧ H a = some (.frz o (.lst (l.map V.int)))) ∧ LamX.TabS H P q0
  | .refT a P, v => v = .ref a ∧ LamX.TabS H P q0
  | .exc a dx nm i, v => v = .ref a ∧ H dx = some (.xd [(nm, .int i)])
section rel
variable (F : List Addr) (H : Hp)
mutual
def RD : D → V → Prop
  | .non, v => v = .non
  | .bl b, v => v = .bl b
  | .int i, v => v = .int i
  | .str x, v => v = .str x
  | .ty n, v => v = .ty n
  | .ref a, v => v = .ref a
  | .tup xs, v => ∃ a vs, v = .ref a ∧ H a = some (.tup vs) ∧ RDs xs vs
  | .loc l, v => ∃ a, v = .ref a ∧ F[l]? = some a
  | .scr g, v => GhR H g v
def RDs : List D → List V → Prop
  | [], vs => vs = []
  | x :: xs, vs => ∃ v r, vs = v :: r ∧ RD x v ∧ RDs xs r
end
def RKs {κ : Type} : List (κ × D) → List (κ × V) → Prop
  | [], vs => vs = []
  | x :: xs, vs => ∃ v r, vs = (x.1, v) :: r ∧ RD F H x.2 v ∧ RKs xs r
def RO : Ob → HO → Prop
  | .lst xs, h => ∃ vs, h = .lst vs ∧ RDs F H xs vs
  | .dK kvs, h => ∃ vs, h = .dK vs ∧ RKs F H kvs vs
  | .dT kvs, h => ∃ vs, h = .dT vs ∧ RKs F H kvs vs
  | .ins C fs, h => ∃ dx vs, h = .ins C dx vs ∧ RKs F H fs vs
  | .frz o u, h => ∃ g, h = .frz o g ∧ RO u g
  | .dN w kvs, h => ∃ (a : Addr) (o : Obj) (es : Array DictEntry) (ep : Nat) (xs : List ((D × Int) × Addr × Tok)), h = .ext (fun hp => hp.get? a = some o ∧ (a == sysModules) = false) ∧ kvs = xs.map (·.1) ∧ o.ExactDict ∧ o.data = .dict es ep ∧
      es.toList = xs.map (fun x => ⟨NestedKey.hash w (nkD x.1.1), .ref x.2.1, .int x.1.2 x.2.2⟩) ∧ (∀ x ∈ xs, ikD x.1.1 = true ∧ (nkD x.1.1).depth ≤ 8 ∧ RD F H x.1.1 (V.ref x.2.1)) ∧ (kvs.map fun kv => nkD kv.1).Nodup
structure RS (S : Store) : Prop where
  len : F.length = S.length
  nd : F.Nodup
  ob : ∀ (l : Nat) (o : Ob), S[l]? = some o → ∃ (a : Addr) (h : HO), F[l]? = some a ∧ H a = some h ∧ RO F H o h
structure RE (e : Fv) (t : L2.St) : Prop where
  len : e.length = t.length
  at_ : ∀ (i : Nat) (d : D), e[i]? = some (some d) → ∃ v, t[i]? = some (some v) ∧ RD F H d v
end rel
/-- tuples stay, and what is locked -/
structure Keep (H H' : Hp) : Prop where
  tup : ∀ a xs, H a = some (.tup xs) → H' a = some (.tup xs)
  frz : ∀ a o (u : HO), H a = some (.frz o u) → H' a = some (.frz o u)
  xd : ∀ a fs, H a = some (.xd fs) → H' a = some (.xd fs)
  tab : ∀ P, LamX.TabS H P q0 → LamX.TabS H' P q0
theorem Keep.refl (H : Hp) : Keep H H := ⟨fun _ _ h => h, fun _ _ _ h => h, fun _ _ h => h, fun _ h => h⟩
theorem Keep.trans {H H1 H2 : Hp} (a : Keep H H1) (b : Keep H1 H2) : Keep H H2 := ⟨fun x y h => b.1 x y (a.1 x y h), fun x o y h => b.2 x o y (a.2 x o y h), fun x y h => b.3 x y (a.3 x y h), fun x h => b.4 x (a.4 x h)⟩
theorem tab_ne {H : Hp} {p : Addr} {o : HO} (h : ∀ u, H p = some u → (∀ ps, u ≠ .tbl ps) ∧ ∀ f, u ≠ .ext f) {P : Addr} {q : Str} (t : LamX.TabS H P q) : LamX.TabS (upd H p o) P q := by
  obtain ⟨ps, h1, h2, h3⟩ := t
  have nP : P ≠ p := fun z => by rw [z] at h1; exact (h _ h1).1 ps rfl
  refine ⟨ps, by rw [upd_ne nP]; exact h1, h2, fun pos cv hc => ?_⟩
  obtain ⟨c, e1, e2⟩ := h3 pos cv hc
  have nc : c ≠ p := fun z => by rw [z] at e2; exact (h _ e2).2 _ rfl
  exact ⟨c, e1, by rw [upd_ne nc]; exact e2⟩
theorem Keep.new {H : Hp} {p : Addr} {o : HO} (h : H p = none) : Keep H (upd H p o) := ⟨fun a xs q => by
  rw [upd_ne (ne_of_none q h)]; exact q, fun a ob xs q => by rw [upd_ne (ne_of_none q h)]; exact q, fun a xs q => by rw [upd_ne (ne_of_none q h)]; exact q, fun P t => tab_ne (fun u z => by rw [h] at z; cases z) t⟩
/-- what is written is no tuple, nothing locked -/
def NoT : HO → Prop
  | .tup _ => False
  | .frz _ _ => False
  | .xd _ => False
  | .tbl _ => False
  | .ext _ => False
  | _ => True
theorem NoT.tab {u : HO} (n : NoT u) : (∀ ps, u ≠ .tbl ps) ∧ ∀ f, u ≠ .ext f := ⟨fun ps z => by rw [z] at n; exact n, fun f z => by rw [z] at n; exact n⟩
theorem Keep.upd {H : Hp} {p : Addr} {u o : HO} (h : H p = some u) (n : NoT u) : Keep H (upd H p o) := ⟨fun a xs q => by
  rw [upd_ne (fun z => by rw [z, h] at q; cases q; exact n)]; exact q, fun a ob xs q => by
  rw [upd_ne (fun z => by rw [z, h] at q; cases q; exact n)]; exact q, fun a xs q => by
  rw [upd_ne (fun z => by rw [z, h] at q; cases q; exact n)]; exact q, fun P t => tab_ne (fun v z => by rw [h] at z; cases z; exact n.tab) t⟩
theorem GhR.mono {H H' : Hp} (k : Keep H H') : ∀ (g : Gh) (v : V), GhR H g v → GhR H' g v
  | .ns _, _, ⟨a, o, e, h⟩ => ⟨a, o, e, k.2 _ _ _ h⟩
  | .nsT _ P, _, ⟨⟨a, o, e, h⟩, t⟩ => ⟨⟨a, o, e, k.2 _ _ _ h⟩, k.4 P t⟩
  | .refT _ P, _, ⟨e, t⟩ => ⟨e, k.4 P t⟩
  | .exc _ _ _ _, _, ⟨e, h⟩ => ⟨e, k.3 _ _ h⟩

section mono
variable {K : PySem.W.Frag} {F F' : List Addr} {H H' : Hp}
theorem pre_get {F F' : List Addr} (p : F <+: F') {l : Nat} {a : Addr} (h : F[l]? = some a) : F'[l]? = some a := by
  obtain ⟨t, rfl⟩ := p
  rw [List.getElem?_append_left (List.getElem?_eq_some_iff.mp h).1]
  exact h
mutual
theorem RD.mono (p : F <+: F') (k : Keep H H') : ∀ (d : D) (v : V), RD F H d v → RD F' H' d v
  | .non, _, h => h
  | .bl _, _, h => h
  | .int _, _, h => h
  | .str _, _, h => h
  | .ty _, _, h => h
  | .ref _, _, h => h
  | .tup xs, _, ⟨a, vs, e, s, r⟩ => ⟨a, vs, e, k.1 _ _ s, RDs.mono p k xs vs r⟩
  | .loc _, _, ⟨a, e, h⟩ => ⟨a, e, pre_get p h⟩
  | .scr g, v, h => GhR.mono k g v h
theorem RDs.mono (p : F <+: F') (k : Keep H H') : ∀ (xs : List D) (vs : List V), RDs F H xs vs → RDs F' H' xs vs
  | [], _, h => h
  | x :: xs, _, ⟨v, r, e, h1, h2⟩ => ⟨v, r, e, RD.mono p k x v h1, RDs.mono p k xs r h2⟩
end
theorem RKs.mono {κ : Type} (p : F <+: F') (k : Keep H H') : ∀ (xs : List (κ × D)) (vs : List (κ × V)), RKs F H xs vs → RKs F' H' xs vs
  | [], _, h => h
  | _ :: xs, _, ⟨v, r, e, h1, h2⟩ => ⟨v, r, e, RD.mono p k _ v h1, RKs.mono p k xs r h2⟩
theorem RO.mono (p : F <+: F') (k : Keep H H') : ∀ (o : Ob) (h : HO), RO F H o h → RO F' H' o h
  | .lst xs, _, ⟨vs, e, r⟩ => ⟨vs, e, RDs.mono p k xs vs r⟩
  | .dK xs, _, ⟨vs, e, r⟩ => ⟨vs, e, RKs.mono p k xs vs r⟩
  | .dT xs, _, ⟨vs, e, r⟩ => ⟨vs, e, RKs.mono p k xs vs r⟩
  | .ins C xs, _, ⟨dx, vs, e, r⟩ => ⟨dx, vs, e, RKs.mono p k xs vs r⟩
  | .frz o u, _, ⟨g, e, r⟩ => ⟨g, e, RO.mono p k u g r⟩
  | .dN _ _, _, ⟨a, o, es, ep, xs, e, e1, e2, e3, e4, al, nd⟩ => ⟨a, o, es, ep, xs, e, e1, e2, e3, e4, fun x hx => ⟨(al x hx).1, (al x hx).2.1, RD.mono p k _ _ (al x hx).2.2⟩, nd⟩
theorem RE.mono {e : Fv} {t : L2.St} (p : F <+: F') (k : Keep H H') (h : RE F H e t) : RE F' H' e t :=
  ⟨h.len, fun i d q => let ⟨v, a, b⟩ := h.at_ i d q; ⟨v, a, b.mono p k⟩⟩
theorem RDs.length : ∀ {xs : List D} {vs : List V}, RDs F H xs vs → vs.length = xs.length
  | [], _, h => by cases h; rfl
  | _ :: xs, _, ⟨v, r, e, _, h⟩ => by rw [e]; simp [RDs.length h]
theorem RKs.length {κ : Type} : ∀ {xs : List (κ × D)} {vs : List (κ × V)}, RKs F H xs vs → vs.length = xs.length
  | [], _, h => by cases h; rfl
  | _ :: xs, _, ⟨v, r, e, _, h⟩ => by rw [e]; simp [RKs.length h]
theorem RDs.append : ∀ {xs ys : List D} {vs ws : List V}, RDs F H xs vs → RDs F H ys ws → RDs F H (xs ++ ys) (vs ++ ws)
  | [], _, _, _, h, g => by cases h; exact g
  | _ :: xs, _, _, _, ⟨v, r, e, h1, h2⟩, g => ⟨v, _, by rw [e]; rfl, h1, RDs.append h2 g⟩
theorem RDs.get : ∀ {xs : List D} {vs : List V} {i : Nat} {d : D}, RDs F H xs vs → xs[i]? = some d → ∃ v, vs[i]? = some v ∧ RD F H d v
  | [], _, _, _, _, h => by simp at h
  | x :: xs, _, 0, d, ⟨v, r, e, h1, h2⟩, h => by
    have : x = d := by simpa using h
    subst this
    exact ⟨v, by rw [e]; rfl, h1⟩
  | x :: xs, _, i + 1, d, ⟨v, r, e, h1, h2⟩, h => by
    obtain ⟨w, a, b⟩ := RDs.get (i := i) (d := d) h2 (by simpa using h)
    exact ⟨w, by rw [e]; simpa using a, b⟩
theorem RDs.get' : ∀ {xs : List D} {vs : List V} {i : Nat} {v : V}, RDs F H xs vs → vs[i]? = some v → ∃ d, xs[i]? = some d ∧ RD F H d v
  | [], _, _, _, h, g => by cases h; simp at g
  | x :: xs, _, 0, v', ⟨v, r, e, h1, h2⟩, h => by
    subst e
    have : v = v' := by simpa using h
    subst this
    exact ⟨x, rfl, h1⟩
  | x :: xs, _, i + 1, v', ⟨v, r, e, h1, h2⟩, h => by
    subst e
    obtain ⟨w, a, b⟩ := RDs.get' (i := i) (v := v') h2 (by simpa using h)
    exact ⟨w, by simpa using a, b⟩
theorem RDs.set {d : D} {v : V} (r : RD F H d v) : ∀ {xs : List D} {vs : List V} (i : Nat), RDs F H xs vs → RDs F H (xs.set i d) (vs.set i v)
  | [], _, _, h => by cases h; rfl
  | x :: xs, _, 0, ⟨w, r', e, h1, h2⟩ => ⟨v, r', by rw [e]; rfl, r, h2⟩
  | x :: xs, _, i + 1, ⟨w, r', e, h1, h2⟩ => ⟨w, _, by rw [e]; rfl, h1, RDs.set r i h2⟩
theorem RDs.take : ∀ {xs : List D} {vs : List V} (n : Nat), RDs F H xs vs → RDs F H (xs.take n) (vs.take n)
  | _, _, 0, _ => rfl
  | [], _, _ + 1, h => by cases h; rfl
  | _ :: _, _, n + 1, ⟨v, r, e, h1, h2⟩ => ⟨v, _, by rw [e]; rfl, h1, RDs.take n h2⟩
theorem RDs.drop : ∀ {xs : List D} {vs : List V} (n : Nat), RDs F H xs vs → RDs F H (xs.drop n) (vs.drop n)
  | _, _, 0, h => h
  | [], _, _ + 1, h => by cases h; rfl
  | _ :: _, _, n + 1, ⟨v, r, e, h1, h2⟩ => by rw [e]; exact RDs.drop n h2
theorem RDs.dropLast {xs : List D} {vs : List V} (h : RDs F H xs vs) : RDs F H xs.dropLast vs.dropLast := by
  rw [List.dropLast_eq_take, List.dropLast_eq_take, h.length]
  exact h.take _
theorem RDs.eraseIdx : ∀ {xs : List D} {vs : List V} (i : Nat), RDs F H xs vs → RDs F H (xs.eraseIdx i) (vs.eraseIdx i)
  | [], _, _, h => by cases h; rfl
  | x :: xs, _, 0, ⟨w, r', e, h1, h2⟩ => by rw [e]; exact h2
  | x :: xs, _, i + 1, ⟨w, r', e, h1, h2⟩ => ⟨w, _, by rw [e]; rfl, h1, RDs.eraseIdx i h2⟩
theorem RDs.reverse : ∀ {xs : List D} {vs : List V}, RDs F H xs vs → RDs F H xs.reverse vs.reverse
  | [], _, h => by cases h; rfl
  | x :: xs, _, ⟨w, r', e, h1, h2⟩ => by
    rw [e, List.reverse_cons, List.reverse_cons]
    exact RDs.append (RDs.reverse h2) ⟨w, [], rfl, h1, rfl⟩
theorem RS.get {S : Store} (h : RS F H S) {l : Nat} {o : Ob} (e : S[l]? = some o) : ∃ (a : Addr) (u : HO), F[l]? = some a ∧ H a = some u ∧ RO F H o u := h.ob l o e
theorem RS.lt {S : Store} (h : RS F H S) {l : Nat} {a : Addr} (e : F[l]? = some a) : l < S.length := by
  rw [← h.len]; exact (List.getElem?_eq_some_iff.mp e).1
theorem RS.there {S : Store} (h : RS F H S) {a : Addr} (e : a ∈ F) : ∃ u, H a = some u := by
  obtain ⟨l, hl, e⟩ := List.mem_iff_getElem.mp e
  have : l < S.length := by rw [← h.len]; exact hl
  obtain ⟨b, u, q1, q2, _⟩ := h.ob l S[l] (List.getElem?_eq_getElem this)
  rw [List.getElem?_eq_getElem hl] at q1
  cases q1
  rw [e] at q2
  exact ⟨u, q2⟩
/-- the heap alone has grown, all of ours stands -/
theorem RS.heap {S : Store} (h : RS F H S) (k : Keep H H') (s : ∀ a u, a ∈ F → H a = some u → H' a = some u) : RS F H' S :=
  ⟨h.len, h.nd, fun l o e => by
    obtain ⟨a, u, q1, q2, q3⟩ := h.ob l o e
    exact ⟨a, u, q1, s a u (List.mem_of_getElem? q1) q2, q3.mono (List.prefix_refl F) k⟩⟩
/-- an address that isn't ours is laid -/
theorem RS.other {S : Store} {p : Addr} {o : HO} (h : RS F H S) (hp : H p = none) : RS F (upd H p o) S :=
  h.heap (Keep.new hp) fun a u _ q => by rw [upd_ne (ne_of_none q hp)]; exact q
/-- a new object of ours -/
theorem RS.new {S : Store} {p : Addr} {o : Ob} {u : HO} (h : RS F H S) (hp : H p = none) (r : RO F H o u) : RS (F ++ [p]) (upd H p u) (S ++ [o]) := by
  have pre : F <+: F ++ [p] := ⟨[p], rfl⟩
  refine ⟨by simp [h.len], ?_, fun l ob e => ?_⟩
  · rw [List.nodup_append]
    refine ⟨h.nd, by simp, fun a ha b hb e => ?_⟩
    have : b = p := by simpa using hb
    subst this; subst e
    obtain ⟨v, q⟩ := h.there ha
    rw [hp] at q; cases q
  · by_cases hl : l < S.length
    · rw [List.getElem?_append_left hl] at e
      obtain ⟨a, v, q1, q2, q3⟩ := h.ob l ob e
      exact ⟨a, v, pre_get pre q1, by rw [upd_ne (ne_of_none q2 hp)]; exact q2, q3.mono pre (Keep.new hp)⟩
    · have hl' : l = S.length := by
        have := (List.getElem?_eq_some_iff.mp e).1
        simp at this; omega
      subst hl'
      rw [List.getElem?_append_right (Nat.le_refl _)] at e
      simp at e
      subst e
      exact ⟨p, u, by rw [← h.len]; simp, upd_same, r.mono pre (Keep.new hp)⟩
/-- an object of ours is written -/
theorem RS.set {S : Store} {l : Nat} {a : Addr} {o : Ob} {u0 u : HO} (h : RS F H S) (hl : F[l]? = some a) (h0 : H a = some u0) (n : NoT u0) (r : RO F H o u) : RS F (upd H a u) (S.set l o) := by
  refine ⟨by simp [h.len], h.nd, fun j ob e => ?_⟩
  have k : Keep H (upd H a u) := Keep.upd h0 n
  by_cases hj : j = l
  · subst hj
    rw [List.getElem?_set_self (h.lt hl)] at e
    cases e
    exact ⟨a, u, hl, upd_same, r.mono (List.prefix_refl F) k⟩
  · rw [List.getElem?_set_ne (Ne.symm hj)] at e
    obtain ⟨b, v, q1, q2, q3⟩ := h.ob j ob e
    refine ⟨b, v, q1, ?_, q3.mono (List.prefix_refl F) k⟩
    rw [upd_ne ?_]
    · exact q2
    · intro z
      subst z
      have h1 := List.getElem?_eq_some_iff.mp q1
      have h2 := List.getElem?_eq_some_iff.mp hl
      exact hj ((List.getElem_inj h.nd).mp (h1.2.trans h2.2.symm))
end mono
end DM

namespace DM
open PySem PySem.Spec PyProof.Rows L2
/-! ### what is wanted, by the hand layer's own words: the reading of a piece of code is its own run -/
section canon
variable (X : Cx)
def wE (e : Expr) : TE := fun t H Q => ∀ pins s, Inv X pins t H s → wpAny (model X.prog X.w) X.A (eval e X.env) (EP X pins t Q) X.xe s
def wT (e : Expr) : TT := fun t H Q => ∀ pins s, Inv X pins t H s → wpAny (model X.prog X.w) X.A (isTrue e X.env (eval e X.env)) (TP X pins t Q) X.xe s
def wP (e : Expr) : TT := fun t H Q => ∀ whole pins s, Inv X pins t H s → wpAny (model X.prog X.w) X.A (isTrue e X.env whole) (TP X pins t Q) X.xe s
def wA (es : List Expr) : TA := fun t H Q => ∀ pos pins s, Inv X pins t H s → wpAny (model X.prog X.w) X.A (spliced (backTo pos (starEach es X.env))) (AP X pins t Q) X.xe s
def wS (st : Stmt) : TS := fun D t H => ∀ pins s, Inv X pins t H s → wpAny (model X.prog X.w) X.A (exec st X.env) (SP X pins D) X.xe s
def wSs (st : List Stmt) : TS := fun D t H => ∀ pins s, Inv X pins t H s → wpAny (model X.prog X.w) X.A (execs st X.env) (SP X pins D) X.xe s
def wG (tg : Expr) : TG := fun v t H Q => ∀ pins s u, Inv X pins t H s → RelV v u → wpAny (model X.prog X.w) X.A (assign tg X.env u) (fun _ s' => ∃ t' H', Inv X pins t' H' s' ∧ Q t' H') X.xe s
def wGs (ts : List Expr) : TGs := fun vs t H Q => ∀ pins s us, Inv X pins t H s → Vals vs us → wpAny (model X.prog X.w) X.A (assignInOrder ((assignEach ts X.env).map (·.2)) us) (fun _ s' => ∃ t' H', Inv X pins t' H' s' ∧ Q t' H') X.xe s
def wO (e : Option Expr) : TO := fun t H Q => ∀ pins s, Inv X pins t H s → wpAny (model X.prog X.w) X.A (evalPart e X.env) (fun u s' => ∃ o H', Inv X pins t H' s' ∧ IsPart u o ∧ Q o H') X.xe s
def wB (f : Value → Value → Sem Value) : R2 := fun x y H Q => ∀ pins s t v u, Inv X pins t H s → RelV x v → RelV y u → wpAny (model X.prog X.w) X.A (f v u) (EP X pins t Q) X.xe s
def wU (f : Value → Sem Value) : V → Hp → VK → Prop := fun x H Q => ∀ pins s t v, Inv X pins t H s → RelV x v → wpAny (model X.prog X.w) X.A (f v) (EP X pins t Q) X.xe s
def wIx : R2 := fun x y H Q => ∀ (value slice : Expr) pins s t v u, Inv X pins t H s → RelV x v → RelV y u → subscripted slice false v u = operate [v, u] (getItem v u) → wpAny (model X.prog X.w) X.A (subscriptTail value slice v u) (EP X pins t Q) X.xe s
def wC (f : Value) : List V → Hp → VK → Prop := fun xs H Q => ∀ pins s t us, Inv X pins t H s → Vals xs us → wpAny (model X.prog X.w) X.A (call f us) (EP X pins t Q) X.xe s
def wM (id : String) : V → List V → Hp → VK → Prop := fun x xs H Q => ∀ pins s t v us, Inv X pins t H s → RelV x v → Vals xs us → wpAny (model X.prog X.w) X.A (call (.builtin id) (v :: us)) (EP X pins t Q) X.xe s
variable {X}
theorem pe_w {e : Expr} : PE X e (wE X e) := ⟨fun pins s t H Q I h => h pins s I⟩
theorem pt_w {e : Expr} : PT X e (wT X e) := ⟨fun pins s t H Q I h => h pins s I⟩
theorem pw_w {e : Expr} : PW X e (wP X e) := ⟨fun wh pins s t H Q I h => h wh pins s I⟩
theorem pa_w {es : List Expr} : PA X es (wA X es) := ⟨fun pos pins s t H Q I h => h pos pins s I⟩
theorem ps_w {st : Stmt} : PS X st (wS X st) := ⟨fun pins s t H D I h => h pins s I⟩
theorem pss_w {st : List Stmt} : PSs X st (wSs X st) := ⟨fun pins s t H D I h => h pins s I⟩
theorem pg_w {tg : Expr} : PG X tg (wG X tg) := ⟨fun pins s t H v u Q I r h => h pins s u I r⟩
theorem pgs_w {ts : List Expr} : PGs X ts (wGs X ts) := ⟨fun pins s t H vs us Q I r h => h pins s us I r⟩
theorem po_w {e : Option Expr} : PO X e (wO X e) := ⟨fun pins s t H Q I h => h pins s I⟩
theorem op_w {f : Value → Value → Sem Value} : OpR X f (wB X f) := fun pins s t H x y v u Q I rx ry h => h pins s t v u I rx ry
theorem un_w {f : Value → Sem Value} : UnR X f (wU X f) := fun pins s t H x v Q I rx h => h pins s t v I rx
theorem ix_w : IxR X (wIx X) := fun value slice pins s t H x y v u Q I rx ry h hs => h value slice pins s t v u I rx ry hs
theorem call_w {f : Value} : CallR X f (wC X f) := fun pins s t H xs us Q I r h => h pins s t us I r
theorem mt_w {id : String} : MtR X id (wM X id) := fun pins s t H x xs v us Q I rx r h => h pins s t v us I rx r
theorem wE_of {e : Expr} {te : TE} {t : L2.St} {H : Hp} {Q : VK} (p : PE X e te) (h : te t H Q) : wE X e t H Q := fun pins s I => p.run pins s t H Q I h
theorem wT_of {e : Expr} {te : TT} {t : L2.St} {H : Hp} {Q : Bool → Hp → Prop} (p : PT X e te) (h : te t H Q) : wT X e t H Q := fun pins s I => p.run pins s t H Q I h
theorem wP_of {e : Expr} {te : TT} {t : L2.St} {H : Hp} {Q : Bool → Hp → Prop} (p : PW X e te) (h : te t H Q) : wP X e t H Q := fun wh pins s I => p.run wh pins s t H Q I h
theorem wA_of {e : List Expr} {te : TA} {t : L2.St} {H : Hp} {Q : List V → Hp → Prop} (p : PA X e te) (h : te t H Q) : wA X e t H Q := fun pos pins s I => p.run pos pins s t H Q I h
theorem wS_of {e : Stmt} {te : TS} {t : L2.St} {H : Hp} {D : Ends} (p : PS X e te) (h : te D t H) : wS X e D t H := fun pins s I => p.run pins s t H D I h
theorem wSs_of {e : List Stmt} {te : TS} {t : L2.St} {H : Hp} {D : Ends} (p : PSs X e te) (h : te D t H) : wSs X e D t H := fun pins s I => p.run pins s t H D I h
theorem wG_of {e : Expr} {te : TG} {t : L2.St} {H : Hp} {v : V} {Q : L2.St → Hp → Prop} (p : PG X e te) (h : te v t H Q) : wG X e v t H Q := fun pins s u I r => p.run pins s t H v u Q I r h
theorem wGs_of {e : List Expr} {te : TGs} {t : L2.St} {H : Hp} {vs : List V} {Q : L2.St → Hp → Prop} (p : PGs X e te) (h : te vs t H Q) : wGs X e vs t H Q := fun pins s us I r => p.run pins s t H vs us Q I r h
theorem wO_of {e : Option Expr} {te : TO} {t : L2.St} {H : Hp} {Q : Option Int → Hp → Prop} (p : PO X e te) (h : te t H Q) : wO X e t H Q := fun pins s I => p.run pins s t H Q I h
theorem wB_of {f : Value → Value → Sem Value} {r : R2} {x y : V} {H : Hp} {Q : VK} (p : OpR X f r) (h : r x y H Q) : wB X f x y H Q := fun pins s t v u I rx ry => p pins s t H x y v u Q I rx ry h
theorem wU_of {f : Value → Sem Value} {r : V → Hp → VK → Prop} {x : V} {H : Hp} {Q : VK} (p : UnR X f r) (h : r x H Q) : wU X f x H Q := fun pins s t v I rx => p pins s t H x v Q I rx h
theorem wIx_of {r : R2} {x y : V} {H : Hp} {Q : VK} (p : IxR X r) (h : r x y H Q) : wIx X x y H Q := fun value slice pins s t v u I rx ry hs => p value slice pins s t H x y v u Q I rx ry h hs
theorem wC_of {f : Value} {r : List V → Hp → VK → Prop} {xs : List V} {H : Hp} {Q : VK} (p : CallR X f r) (h : r xs H Q) : wC X f xs H Q := fun pins s t us I rx => p pins s t H xs us Q I rx h
theorem wM_of {id : String} {r : V → List V → Hp → VK → Prop} {x : V} {xs : List V} {H : Hp} {Q : VK} (p : MtM X id r) (h : r x xs H Q) : wM X id x xs H Q := fun pins s t v us I rx r => p pins s t H x xs v us Q I rx r h
theorem wM_ofR {id : String} {r : V → List V → Hp → VK → Prop} {x : V} {xs : List V} {H : Hp} {Q : VK} (p : MtR X id r) (h : r x xs H Q) : wM X id x xs H Q := fun pins s t v us I rx r => p pins s t H x xs v us Q I rx r h
end canon

/-! ### the ends, over the store -/
section posts
variable (F : List Addr) (H : Hp)
def Post (Q : D → Store → Prop) (Q' : VK) : Prop := ∀ F' d v H' S', F <+: F' → Keep H H' → RS F' H' S' → RD F' H' d v → Q d S' → Q' v H'
def PostT (Q : Bool → Store → Prop) (Q' : Bool → Hp → Prop) : Prop := ∀ F' b H' S', F <+: F' → Keep H H' → RS F' H' S' → Q b S' → Q' b H'
def PostA (Q : List D → Store → Prop) (Q' : List V → Hp → Prop) : Prop := ∀ F' ds vs H' S', F <+: F' → Keep H H' → RS F' H' S' → RDs F' H' ds vs → Q ds S' → Q' vs H'
def PostO (Q : Option Int → Store → Prop) (Q' : Option Int → Hp → Prop) : Prop := ∀ F' o H' S', F <+: F' → Keep H H' → RS F' H' S' → Q o S' → Q' o H'
def PostG (Q : Fv → Store → Prop) (Q' : L2.St → Hp → Prop) : Prop := ∀ F' e t H' S', F <+: F' → Keep H H' → RE F' H' e t → RS F' H' S' → Q e S' → Q' t H'
/-- an exception of our own classes: its class, its one field -/
structure Exd where
  C : Addr
  f : Option (Str × Int)
def RX (H : Hp) (x : Exd) (cls : Value) (d : Option Addr) : Prop := cls = .ref x.C ∧ (∀ nm i, x.f = some (nm, i) → ∃ dx, d = some dx ∧ H dx = some (.xd [(nm, .int i)])) ∧ (x.f = none → d = none)
/-- exceptions of which Q holds may leave X -/
def XT (X : Cx) (Q : Exd → Store → Prop) : Prop := ∃ W : WX, Takes X W ∧ ∀ x cls d t F' H' S', F <+: F' → Keep H H' → RS F' H' S' → RX H' x cls d → Q x S' → W cls d t H'
structure Ed where
  nx : Fv → Store → Prop
  rt : D → Store → Prop
  bk : Fv → Store → Prop := fun _ _ => False
  ct : Fv → Store → Prop := fun _ _ => False
  xe : Exd → Store → Prop := fun _ _ => False
structure PostS (X : Cx) (E : Ed) (E' : Ends) : Prop where
  nx : PostG F H E.nx E'.nx
  rt : Post F H E.rt E'.rt
  bk : PostG F H E.bk E'.bk
  ct : PostG F H E.ct E'.ct
  xe : XT F H X E.xe
end posts
section
variable {K : PySem.W.Frag} {F F' : List Addr} {H H' : Hp}
theorem Post.mono {Q : D → Store → Prop} {Q' : VK} (h : Post F H Q Q') (p : F <+: F') (k : Keep H H') : Post F' H' Q Q' := fun F2 d v H2 S2 p2 k2 => h F2 d v H2 S2 (p.trans p2) (k.trans k2)
theorem PostT.mono {Q : Bool → Store → Prop} {Q' : Bool → Hp → Prop} (h : PostT F H Q Q') (p : F <+: F') (k : Keep H H') : PostT F' H' Q Q' := fun F2 d H2 S2 p2 k2 => h F2 d H2 S2 (p.trans p2) (k.trans k2)
theorem PostA.mono {Q : List D → Store → Prop} {Q' : List V → Hp → Prop} (h : PostA F H Q Q') (p : F <+: F') (k : Keep H H') : PostA F' H' Q Q' := fun F2 d v H2 S2 p2 k2 => h F2 d v H2 S2 (p.trans p2) (k.trans k2)
theorem PostO.mono {Q : Option Int → Store → Prop} {Q' : Option Int → Hp → Prop} (h : PostO F H Q Q') (p : F <+: F') (k : Keep H H') : PostO F' H' Q Q' := fun F2 d H2 S2 p2 k2 => h F2 d H2 S2 (p.trans p2) (k.trans k2)
theorem PostG.mono {Q : Fv → Store → Prop} {Q' : L2.St → Hp → Prop} (h : PostG F H Q Q') (p : F <+: F') (k : Keep H H') : PostG F' H' Q Q' := fun F2 d v H2 S2 p2 k2 => h F2 d v H2 S2 (p.trans p2) (k.trans k2)
theorem XT.no {X : Cx} : XT F H X fun _ _ => False := ⟨fun _ _ _ _ => False, LamX.takes0, fun _ _ _ _ _ _ _ _ _ _ _ z => z⟩
theorem XT.mono {X : Cx} {Q : Exd → Store → Prop} (h : XT F H X Q) (p : F <+: F') (k : Keep H H') : XT F' H' X Q := by
  obtain ⟨W, tk, hW⟩ := h
  exact ⟨W, tk, fun x cls d t F2 H2 S2 p2 k2 => hW x cls d t F2 H2 S2 (p.trans p2) (k.trans k2)⟩
theorem XT.imp {X : Cx} {Q Q2 : Exd → Store → Prop} (h : XT F H X Q) (i : ∀ x S, Q2 x S → Q x S) : XT F H X Q2 := by
  obtain ⟨W, tk, hW⟩ := h
  exact ⟨W, tk, fun x cls d t F2 H2 S2 p2 k2 rs rx q => hW x cls d t F2 H2 S2 p2 k2 rs rx (i _ _ q)⟩
theorem PostS.mono {X : Cx} {E : Ed} {E' : Ends} (h : PostS F H X E E') (p : F <+: F') (k : Keep H H') : PostS F' H' X E E' := ⟨h.nx.mono p k, h.rt.mono p k, h.bk.mono p k, h.ct.mono p k, h.xe.mono p k⟩
end

/-! ### the judgements over the store -/
section judg
variable (X : Cx)
def WE (e : Expr) (v : Fv) (S : Store) (Q : D → Store → Prop) : Prop := ∀ F t H Q', RE F H v t → RS F H S → Post F H Q Q' → wE X e t H Q'
def WT (e : Expr) (v : Fv) (S : Store) (Q : Bool → Store → Prop) : Prop := ∀ F t H Q', RE F H v t → RS F H S → PostT F H Q Q' → wT X e t H Q'
def WP (e : Expr) (v : Fv) (S : Store) (Q : Bool → Store → Prop) : Prop := ∀ F t H Q', RE F H v t → RS F H S → PostT F H Q Q' → wP X e t H Q'
def WA (e : List Expr) (v : Fv) (S : Store) (Q : List D → Store → Prop) : Prop := ∀ F t H Q', RE F H v t → RS F H S → PostA F H Q Q' → wA X e t H Q'
def WO (e : Option Expr) (v : Fv) (S : Store) (Q : Option Int → Store → Prop) : Prop := ∀ F t H Q', RE F H v t → RS F H S → PostO F H Q Q' → wO X e t H Q'
def WG (tg : Expr) (d : D) (v : Fv) (S : Store) (Q : Fv → Store → Prop) : Prop := ∀ F t H u Q', RE F H v t → RS F H S → RD F H d u → PostG F H Q Q' → wG X tg u t H Q'
def WGs (tg : List Expr) (ds : List D) (v : Fv) (S : Store) (Q : Fv → Store → Prop) : Prop := ∀ F t H us Q', RE F H v t → RS F H S → RDs F H ds us → PostG F H Q Q' → wGs X tg us t H Q'
/-- n: the places below n stay where they are -/
def WS (n : Nat) (st : Stmt) (v : Fv) (S : Store) (E : Ed) : Prop := ∀ F0 H0 F t H E', F0.length = n → F0 <+: F → Keep H0 H → RE F H v t → RS F H S → PostS F0 H0 X E E' → wS X st E' t H
def WSs (n : Nat) (st : List Stmt) (v : Fv) (S : Store) (E : Ed) : Prop := ∀ F0 H0 F t H E', F0.length = n → F0 <+: F → Keep H0 H → RE F H v t → RS F H S → PostS F0 H0 X E E' → wSs X st E' t H
/-- by values -/
def BW (f : Value → Value → Sem Value) (x y : D) (S : Store) (Q : D → Store → Prop) : Prop := ∀ F H vx vy Q', RS F H S → RD F H x vx → RD F H y vy → Post F H Q Q' → wB X f vx vy H Q'
def UW (f : Value → Sem Value) (x : D) (S : Store) (Q : D → Store → Prop) : Prop := ∀ F H vx Q', RS F H S → RD F H x vx → Post F H Q Q' → wU X f vx H Q'
def IW (x y : D) (S : Store) (Q : D → Store → Prop) : Prop := ∀ F H vx vy Q', RS F H S → RD F H x vx → RD F H y vy → Post F H Q Q' → wIx X vx vy H Q'
def CW (f : Value) (ds : List D) (S : Store) (Q : D → Store → Prop) : Prop := ∀ F H vs Q', RS F H S → RDs F H ds vs → Post F H Q Q' → wC X f vs H Q'
def MW (id : String) (x : D) (ds : List D) (S : Store) (Q : D → Store → Prop) : Prop := ∀ F H vx vs Q', RS F H S → RD F H x vx → RDs F H ds vs → Post F H Q Q' → wM X id vx vs H Q'
end judg

section rules
variable {X : Cx} {a b c e : Expr} {es : List Expr} {v : Fv} {S : Store} {Q : D → Store → Prop} {pos : Pos}
theorem WE.mono {Q2 : D → Store → Prop} (h : WE X e v S Q) (k : ∀ d S', Q d S' → Q2 d S') : WE X e v S Q2 := fun F t H Q' re rs p => h F t H Q' re rs fun F' d u H' S' a b c r q => p F' d u H' S' a b c r (k _ _ q)
theorem WE.var (i : Nat) {x : Str} {d : D} (hv : v[i]? = some (some d)) (h : Q d S) (hN : X.N[i]? = some x := by rfl) (hx : Vis X.env.scope x := by first | exact Or.inl rfl | exact Or.inr (Or.inl rfl) | exact Or.inr (Or.inr rfl))
    (hd : (x == ("__debug__" : Str)) = false := by decide) (hcd : (x == ("__classdict__" : Str)) = false := by decide) : WE X (.Name x pos) v S Q := fun F t H Q' re rs p => by
  obtain ⟨u, e1, r⟩ := re.at_ i d hv
  exact wE_of (pe_var hN hx hd hcd) ⟨u, e1, p F d u H S (List.prefix_refl F) (Keep.refl H) rs r h⟩
theorem WE.cst {te : V} {d : D} (hp : PE X e (tC te)) (hr : ∀ F H, RD F H d te) (h : Q d S) : WE X e v S Q := fun F t H Q' re rs p =>
  wE_of hp (p F d te H S (List.prefix_refl F) (Keep.refl H) rs (hr F H) h)
theorem WE.int {i : Int} {j : Nat} (h : Q (.int i) S) : WE X (.Constant (.int i) j pos) v S Q := WE.cst (d := .int i) pe_int (fun _ _ => rfl) h
theorem WE.bl {b : Bool} {j : Nat} (h : Q (.bl b) S) : WE X (.Constant (.bool b) j pos) v S Q := WE.cst (d := .bl b) pe_bl (fun _ _ => rfl) h
theorem WE.non {j : Nat} (h : Q .non S) : WE X (.Constant .none j pos) v S Q := WE.cst (d := .non) pe_non (fun _ _ => rfl) h
theorem WE.str {x : Str} {j : Nat} (h : Q (.str x) S) : WE X (.Constant (.str x) j pos) v S Q := WE.cst (d := .str x) pe_str (fun _ _ => rfl) h
/-- a module's int constant -/
theorem WE.globI {x : Str} {i : Int} {tk : Tok} (hm : X.mg x = some (.int i tk)) (h : Q (.int i) S) (hg : Gl X x := by rfl) (hd : (x == ("__debug__" : Str)) = false := by decide) : WE X (.Name x pos) v S Q := WE.cst (d := .int i) (pe_glob hg hm (v := .int i) ⟨tk, rfl⟩ hd) (fun _ _ => rfl) h
theorem WE.globS {x : Str} {i : Str} {tk : Tok} (hm : X.mg x = some (.str i tk)) (h : Q (.str i) S) (hg : Gl X x := by rfl) (hd : (x == ("__debug__" : Str)) = false := by decide) : WE X (.Name x pos) v S Q := WE.cst (d := .str i) (pe_glob hg hm (v := .str i) ⟨tk, rfl⟩ hd) (fun _ _ => rfl) h
theorem WE.globR {x : Str} {i : Addr} (hm : X.mg x = some (.ref i)) (h : Q (.ref i) S) (hg : Gl X x := by rfl) (hd : (x == ("__debug__" : Str)) = false := by decide) : WE X (.Name x pos) v S Q := WE.cst (d := .ref i) (pe_glob hg hm (v := .ref i) rfl hd) (fun _ _ => rfl) h
theorem WE.bty {x : Str} {n : String} (hm : X.mg x = none) (hv : bootBuiltins x = some (.type n)) (h : Q (.ty n) S) (hg : Gl X x := by rfl) (hn : x ≠ "__name__" := by decide) (hd : (x == ("__debug__" : Str)) = false := by decide) : WE X (.Name x pos) v S Q :=
  WE.cst (d := .ty n) (pe_bltn hg hm hv (v := .ty n) rfl hn hd) (fun _ _ => rfl) h
/-- two parts, then the operation on their values -/
theorem WE.bin {op : Operator} (h : WE X a v S fun x S1 => WE X b v S1 fun y S2 => BW X (binaryOp op) x y S2 Q) : WE X (.BinOp a op b pos) v S Q := fun F t H Q' re rs k => by
  refine wE_of (pe_op (op_w (f := binaryOp op)) pe_w pe_w) ?_
  refine h F t H _ re rs fun F1 x vx H1 S1 p1 k1 rs1 r1 h1 => ?_
  refine h1 F1 t H1 _ (re.mono p1 k1) rs1 fun F2 y vy H2 S2 p2 k2 rs2 r2 h2 => ?_
  exact h2 F2 H2 vx vy Q' rs2 (r1.mono p2 k2) r2 (k.mono (p1.trans p2) (k1.trans k2))
theorem WE.un {op : UnaryOp} (h : WE X a v S fun x S1 => UW X (unaryOp op) x S1 Q) : WE X (.UnaryOp op a pos) v S Q := fun F t H Q' re rs k => by
  refine wE_of (pe_un (un_w (f := unaryOp op)) pe_w) ?_
  refine h F t H _ re rs fun F1 x vx H1 S1 p1 k1 rs1 r1 h1 => ?_
  exact h1 F1 H1 vx Q' rs1 r1 (k.mono p1 k1)
theorem WE.cmp {op : CmpOp} (h : WE X a v S fun x S1 => WE X b v S1 fun y S2 => BW X (compareOp op) x y S2 Q) (hm : behindInMarks op b = false := by first | exact nobehind _ (by decide) (by decide) | rfl) : WE X (.Compare a [op] [b] pos) v S Q := fun F t H Q' re rs k => by
  refine wE_of (pe_cmpR (op_w (f := compareOp op)) pe_w pe_w hm) ?_
  refine h F t H _ re rs fun F1 x vx H1 S1 p1 k1 rs1 r1 h1 => ?_
  refine h1 F1 t H1 _ (re.mono p1 k1) rs1 fun F2 y vy H2 S2 p2 k2 rs2 r2 h2 => ?_
  exact h2 F2 H2 vx vy Q' rs2 (r1.mono p2 k2) r2 (k.mono (p1.trans p2) (k1.trans k2))
theorem WT.cmp {op : CmpOp} {Q : Bool → Store → Prop} (h : WE X a v S fun x S1 => WE X b v S1 fun y S2 => BW X (compareOp op) x y S2 fun z S3 => ∃ k, z = .bl k ∧ Q k S3) (hm : behindInMarks op b = false := by first | exact nobehind _ (by decide) (by decide) | rfl) : WT X (.Compare a [op] [b] pos) v S Q := fun F t H Q' re rs k => by
  refine wT_of (pt_cmpR (op_w (f := compareOp op)) pe_w pe_w hm) ?_
  refine h F t H _ re rs fun F1 x vx H1 S1 p1 k1 rs1 r1 h1 => ?_
  refine h1 F1 t H1 _ (re.mono p1 k1) rs1 fun F2 y vy H2 S2 p2 k2 rs2 r2 h2 => ?_
  refine h2 F2 H2 vx vy _ rs2 (r1.mono p2 k2) r2 fun F3 z vz H3 S3 p3 k3 rs3 r3 q => ?_
  obtain ⟨b, rfl, q⟩ := q
  exact ⟨b, r3, k F3 b H3 S3 ((p1.trans p2).trans p3) ((k1.trans k2).trans k3) rs3 q⟩
/-- a op b op' c -/
theorem WE.chain {op op' : CmpOp} (h : WE X a v S fun x S1 => WE X b v S1 fun y S2 => BW X (compareOp op) x y S2 fun z S3 => ∃ k, z = .bl k ∧ (k = true → WE X c v S3 fun w S4 => BW X (compareOp op') y w S4 Q) ∧ (k = false → Q (.bl false) S3))
    (hm : lastMarks [op, op'] [b, c] = false := by with_unfolding_all rfl) : WE X (.Compare a [op, op'] [b, c] pos) v S Q := fun F t H Q' re rs k => by
  refine wE_of (pe_chain (op_w (f := compareOp op)) (op_w (f := compareOp op')) pe_w pe_w pe_w hm) ?_
  refine h F t H _ re rs fun F1 x vx H1 S1 p1 k1 rs1 r1 h1 => ?_
  refine h1 F1 t H1 _ (re.mono p1 k1) rs1 fun F2 y vy H2 S2 p2 k2 rs2 r2 h2 => ?_
  refine h2 F2 H2 vx vy _ rs2 (r1.mono p2 k2) r2 fun F3 z vz H3 S3 p3 k3 rs3 r3 q => ?_
  obtain ⟨b, rfl, qt, qf⟩ := q
  refine ⟨b, r3, ?_⟩
  have p13 := (p1.trans p2).trans p3
  have k13 := (k1.trans k2).trans k3
  cases b with
  | false => exact iteF (k F3 (.bl false) _ H3 S3 p13 k13 rs3 rfl (qf rfl))
  | true =>
    refine iteT (qt rfl F3 t H3 _ (re.mono p13 k13) rs3 fun F4 w vw H4 S4 p4 k4 rs4 r4 h4 => ?_)
    exact h4 F4 H4 vy vw Q' rs4 (r2.mono (p3.trans p4) (k3.trans k4)) r4 (k.mono (p13.trans p4) (k13.trans k4))
/-- tests -/
theorem WT.val {Q : Bool → Store → Prop} (h : WE X e v S fun d S1 => ∃ k, d = .bl k ∧ Q k S1) (he : ∀ whole, isTrue e X.env whole = (do let v ← whole; standAt e.pos; holding [v] (truthy v)) := by intro _; rfl) : WT X e v S Q := fun F t H Q' re rs k => by
  refine wT_of (pt_val pe_w he) ?_
  refine h F t H _ re rs fun F1 x vx H1 S1 p1 k1 rs1 r1 h1 => ?_
  obtain ⟨b, rfl, q⟩ := h1
  exact ⟨b, r1, k F1 b H1 S1 p1 k1 rs1 q⟩
theorem WT.not {Q : Bool → Store → Prop} (h : WT X a v S fun c S1 => Q (!c) S1) : WT X (.UnaryOp .Not a pos) v S Q := fun F t H Q' re rs k => by
  refine wT_of (pt_not pt_w) ?_
  exact h F t H _ re rs fun F1 b H1 S1 p1 k1 rs1 q => k F1 _ H1 S1 p1 k1 rs1 q
theorem WT.bool {op : BoolOp} {Q : Bool → Store → Prop} (h : WP X (.BoolOp op es pos) v S Q) : WT X (.BoolOp op es pos) v S Q := fun F t H Q' re rs k => wT_of (PW.pt pw_w) (h F t H Q' re rs k)
theorem WP.and1 {Q : Bool → Store → Prop} (h : WT X a v S Q) : WP X (.BoolOp .And [a] pos) v S Q := fun F t H Q' re rs k => wP_of (pw_and1 pt_w) (h F t H Q' re rs k)
theorem WP.or1 {Q : Bool → Store → Prop} (h : WT X a v S Q) : WP X (.BoolOp .Or [a] pos) v S Q := fun F t H Q' re rs k => wP_of (pw_or1 pt_w) (h F t H Q' re rs k)
theorem WP.and {Q : Bool → Store → Prop} (h : WT X a v S fun k S1 => (k = true → WP X (.BoolOp .And (b :: es) pos) v S1 Q) ∧ (k = false → Q false S1)) : WP X (.BoolOp .And (a :: b :: es) pos) v S Q := fun F t H Q' re rs k => by
  refine wP_of (pw_and pt_w pw_w) ?_
  refine h F t H _ re rs fun F1 c H1 S1 p1 k1 rs1 q => ?_
  cases c with
  | true => exact iteT (q.1 rfl F1 t H1 _ (re.mono p1 k1) rs1 (k.mono p1 k1))
  | false => exact iteF (k F1 _ H1 S1 p1 k1 rs1 (q.2 rfl))
theorem WP.or {Q : Bool → Store → Prop} (h : WT X a v S fun k S1 => (k = true → Q true S1) ∧ (k = false → WP X (.BoolOp .Or (b :: es) pos) v S1 Q)) : WP X (.BoolOp .Or (a :: b :: es) pos) v S Q := fun F t H Q' re rs k => by
  refine wP_of (pw_or pt_w pw_w) ?_
  refine h F t H _ re rs fun F1 c H1 S1 p1 k1 rs1 q => ?_
  cases c with
  | true => exact iteT (k F1 _ H1 S1 p1 k1 rs1 (q.1 rfl))
  | false => exact iteF (q.2 rfl F1 t H1 _ (re.mono p1 k1) rs1 (k.mono p1 k1))
/-- and, or, not as values: all but the last are bools -/
theorem WE.one {op : BoolOp} (h : WE X a v S Q) : WE X (.BoolOp op [a] pos) v S Q := fun F t H Q' re rs k => wE_of (pe_one pe_w) (h F t H Q' re rs k)
theorem WE.and (h : WE X a v S fun d S1 => ∃ k, d = .bl k ∧ (k = true → WE X (.BoolOp .And (b :: es) pos) v S1 Q) ∧ (k = false → Q (.bl false) S1)) : WE X (.BoolOp .And (a :: b :: es) pos) v S Q := fun F t H Q' re rs k => by
  refine wE_of (pe_and pe_w pe_w) ?_
  refine h F t H _ re rs fun F1 c vc H1 S1 p1 k1 rs1 r1 q => ?_
  obtain ⟨b, rfl, qt, qf⟩ := q
  refine ⟨b, r1, ?_⟩
  cases b with
  | true => exact iteT (qt rfl F1 t H1 _ (re.mono p1 k1) rs1 (k.mono p1 k1))
  | false => exact iteF (k F1 (.bl false) _ H1 S1 p1 k1 rs1 rfl (qf rfl))
theorem WE.or (h : WE X a v S fun d S1 => ∃ k, d = .bl k ∧ (k = true → Q (.bl true) S1) ∧ (k = false → WE X (.BoolOp .Or (b :: es) pos) v S1 Q)) : WE X (.BoolOp .Or (a :: b :: es) pos) v S Q := fun F t H Q' re rs k => by
  refine wE_of (pe_or pe_w pe_w) ?_
  refine h F t H _ re rs fun F1 c vc H1 S1 p1 k1 rs1 r1 q => ?_
  obtain ⟨b, rfl, qt, qf⟩ := q
  refine ⟨b, r1, ?_⟩
  cases b with
  | true => exact iteT (k F1 (.bl true) _ H1 S1 p1 k1 rs1 rfl (qt rfl))
  | false => exact iteF (qf rfl F1 t H1 _ (re.mono p1 k1) rs1 (k.mono p1 k1))
theorem WE.not (h : WE X a v S fun d S1 => ∃ k, d = .bl k ∧ Q (.bl (!k)) S1) : WE X (.UnaryOp .Not a pos) v S Q := fun F t H Q' re rs k => by
  refine wE_of (pe_not pe_w) ?_
  refine h F t H _ re rs fun F1 c vc H1 S1 p1 k1 rs1 r1 q => ?_
  obtain ⟨b, rfl, q⟩ := q
  exact ⟨b, r1, k F1 (.bl (!b)) _ H1 S1 p1 k1 rs1 rfl q⟩
theorem WE.ite (h : WT X c v S fun k S1 => (k = true → WE X a v S1 Q) ∧ (k = false → WE X b v S1 Q)) : WE X (.IfExp c a b pos) v S Q := fun F t H Q' re rs k => by
  refine wE_of (pe_ifExp pt_w pe_w pe_w) ?_
  refine h F t H _ re rs fun F1 c H1 S1 p1 k1 rs1 q => ?_
  cases c with
  | true => exact iteT (q.1 rfl F1 t H1 _ (re.mono p1 k1) rs1 (k.mono p1 k1))
  | false => exact iteF (q.2 rfl F1 t H1 _ (re.mono p1 k1) rs1 (k.mono p1 k1))
/-- argument lists -/
theorem WA.nil {Q : List D → Store → Prop} (h : Q [] S) : WA X [] v S Q := fun F t H Q' re rs k => wA_of pa_nil (k F [] [] H S (List.prefix_refl F) (Keep.refl H) rs rfl h)
theorem WA.cons {Q : List D → Store → Prop} (h : WE X e v S fun x S1 => WA X es v S1 fun xs S2 => Q (x :: xs) S2) (hs : starEach (e :: es) X.env = (false, eval e X.env) :: starEach es X.env := by rfl) : WA X (e :: es) v S Q := fun F t H Q' re rs k => by
  refine wA_of (pa_cons pe_w pa_w hs) ?_
  refine h F t H _ re rs fun F1 x vx H1 S1 p1 k1 rs1 r1 h1 => ?_
  refine h1 F1 t H1 _ (re.mono p1 k1) rs1 fun F2 ds vs H2 S2 p2 k2 rs2 r2 h2 => ?_
  exact k F2 (x :: ds) (vx :: vs) H2 S2 (p1.trans p2) (k1.trans k2) rs2 ⟨vx, vs, rfl, r1.mono p2 k2, r2⟩ h2
/-- a written tuple, a written list -/
theorem WE.tup {x1} (h : WA X es v S fun xs S1 => xs.length ≤ sizeLine ∧ Q (.tup xs) S1) : WE X (.Tuple es x1 pos) v S Q := fun F t H Q' re rs k => by
  refine wE_of (pe_tup pa_w) ?_
  refine h F t H _ re rs fun F1 ds vs H1 S1 p1 k1 rs1 r1 h1 => ⟨by rw [r1.length]; exact h1.1, fun p hp => ?_⟩
  refine k F1 (.tup ds) (.ref p) (upd H1 p (.tup vs)) S1 p1 (k1.trans (Keep.new hp)) (rs1.other hp) ⟨p, vs, rfl, upd_same, r1.mono (List.prefix_refl F1) (Keep.new hp)⟩ h1.2
theorem WE.lst (h : WA X es v S fun xs S1 => xs.length ≤ sizeLine ∧ Q (.loc S1.length) (S1 ++ [.lst xs])) : WE X (.List es pos) v S Q := fun F t H Q' re rs k => by
  refine wE_of (pe_lst pa_w) ?_
  refine h F t H _ re rs fun F1 ds vs H1 S1 p1 k1 rs1 r1 h1 => ⟨by rw [r1.length]; exact h1.1, fun p hp => ?_⟩
  exact k (F1 ++ [p]) (.loc S1.length) _ _ _ (p1.trans ⟨[p], rfl⟩) (k1.trans (Keep.new hp)) (rs1.new (o := .lst ds) hp ⟨vs, rfl, r1⟩) ⟨p, rfl, by rw [← rs1.len]; simp⟩ h1.2
/-- subscripts -/
theorem WE.ix (h : WE X a v S fun x S1 => WE X b v S1 fun y S2 => IW X x y S2 Q) (hs : PlainIx b := by intro _ _; rfl) : WE X (.Subscript a b pos) v S Q := fun F t H Q' re rs k => by
  refine wE_of (pe_ix (ix_w) pe_w pe_w hs) ?_
  refine h F t H _ re rs fun F1 x vx H1 S1 p1 k1 rs1 r1 h1 => ?_
  refine h1 F1 t H1 _ (re.mono p1 k1) rs1 fun F2 y vy H2 S2 p2 k2 rs2 r2 h2 => ?_
  exact h2 F2 H2 vx vy Q' rs2 (r1.mono p2 k2) r2 (k.mono (p1.trans p2) (k1.trans k2))
end rules
end DM

namespace DM
open PySem PySem.Spec PyProof.Rows L2
/-! ### forgetting: a state seen with fewer, or other, names for its places -/
/-- the places below n stay; S2 tells a part of S -/
def CovE (n : Nat) (v : Fv) (S : Store) (v2 : Fv) (S2 : Store) : Prop := ∀ F H t, RE F H v t → RS F H S → ∃ F2, F.take n <+: F2 ∧ RE F2 H v2 t ∧ RS F2 H S2
def CovD (n : Nat) (d : D) (S : Store) (d2 : D) (S2 : Store) : Prop := ∀ F H u, RD F H d u → RS F H S → ∃ F2, F.take n <+: F2 ∧ RD F2 H d2 u ∧ RS F2 H S2
def CovS (n : Nat) (S : Store) (S2 : Store) : Prop := ∀ F H, RS F H S → ∃ F2, F.take n <+: F2 ∧ RS F2 H S2
def WkE (n : Nat) (v : Fv) (S : Store) (P : Fv → Store → Prop) : Prop := ∃ v2 S2, CovE n v S v2 S2 ∧ P v2 S2
def WkD (n : Nat) (d : D) (S : Store) (P : D → Store → Prop) : Prop := ∃ d2 S2, CovD n d S d2 S2 ∧ P d2 S2
theorem CovE.refl {n : Nat} {v : Fv} {S : Store} : CovE n v S v S := fun F H t re rs => ⟨F, List.take_prefix n F, re, rs⟩
theorem CovD.refl {n : Nat} {d : D} {S : Store} : CovD n d S d S := fun F H t re rs => ⟨F, List.take_prefix n F, re, rs⟩
theorem WkE.same {n : Nat} {v : Fv} {S : Store} {P : Fv → Store → Prop} (h : P v S) : WkE n v S P := ⟨v, S, CovE.refl, h⟩
theorem WkD.same {n : Nat} {d : D} {S : Store} {P : D → Store → Prop} (h : P d S) : WkD n d S P := ⟨d, S, CovD.refl, h⟩
theorem pre_of_take {F0 F : List Addr} {n : Nat} (hl : F0.length = n) (p : F0 <+: F) : F0 = F.take n := by
  obtain ⟨t, rfl⟩ := p
  rw [← hl]
  simp

section stm
variable {X : Cx} {n : Nat} {a b c e o : Expr} {st : Stmt} {es : List Expr} {sts : List Stmt} {v : Fv} {S : Store} {E : Ed} {pos pos' : Pos}
theorem WSs.nil (h : E.nx v S) : WSs X n [] v S E := fun F0 H0 F t H E' hl p k re rs q => wSs_of pss_nil (q.nx F v t H S p k re rs h)
theorem WSs.cons (h : WS X n st v S { E with nx := fun v1 S1 => WSs X n sts v1 S1 E }) : WSs X n (st :: sts) v S E := fun F0 H0 F t H E' hl p k re rs q => by
  refine wSs_of (pss_cons ps_w pss_w) ?_
  exact h F0 H0 F t H _ hl p k re rs ⟨fun F1 v1 t1 H1 S1 p1 k1 re1 rs1 h1 => h1 F0 H0 F1 t1 H1 E' hl p1 k1 re1 rs1 q, q.rt, q.bk, q.ct, q.xe⟩
theorem WSs.one (h : WS X n st v S E) : WSs X n [st] v S E := fun F0 H0 F t H E' hl p k re rs q => wSs_of (pss_one ps_w) (h F0 H0 F t H E' hl p k re rs q)
theorem WS.imp {E2 : Ed} (h : WS X n st v S E) (h1 : ∀ v S, E.nx v S → E2.nx v S) (h2 : ∀ v S, E.rt v S → E2.rt v S) (h3 : ∀ v S, E.bk v S → E2.bk v S) (h4 : ∀ v S, E.ct v S → E2.ct v S) (h5 : ∀ x S, E.xe x S → E2.xe x S) : WS X n st v S E2 :=
  fun F0 H0 F t H E' hl p k re rs q => h F0 H0 F t H E' hl p k re rs ⟨fun F1 v1 t1 H1 S1 p1 k1 re1 rs1 z => q.nx F1 v1 t1 H1 S1 p1 k1 re1 rs1 (h1 _ _ z), fun F1 v1 t1 H1 S1 p1 k1 re1 rs1 z => q.rt F1 v1 t1 H1 S1 p1 k1 re1 rs1 (h2 _ _ z), fun F1 v1 t1 H1 S1 p1 k1 re1 rs1 z => q.bk F1 v1 t1 H1 S1 p1 k1 re1 rs1 (h3 _ _ z), fun F1 v1 t1 H1 S1 p1 k1 re1 rs1 z => q.ct F1 v1 t1 H1 S1 p1 k1 re1 rs1 (h4 _ _ z), q.xe.imp h5⟩
/-- forget ahead of a block -/
theorem WSs.wk {v2 : Fv} {S2 : Store} (c : CovE n v S v2 S2) (h : WSs X n sts v2 S2 E) : WSs X n sts v S E := fun F0 H0 F t H E' hl p k re rs q => by
  obtain ⟨F2, p2, re2, rs2⟩ := c F H t re rs
  rw [← pre_of_take hl p] at p2
  exact h F0 H0 F2 t H E' hl p2 k re2 rs2 q
theorem WS.pass (h : E.nx v S) : WS X n (.Pass pos) v S E := fun F0 H0 F t H E' hl p k re rs q => wS_of ps_pass (q.nx F v t H S p k re rs h)
theorem WS.break (h : E.bk v S) : WS X n (.Break pos) v S E := fun F0 H0 F t H E' hl p k re rs q => wS_of ps_break (q.bk F v t H S p k re rs h)
theorem WS.continue (h : E.ct v S) : WS X n (.Continue pos) v S E := fun F0 H0 F t H E' hl p k re rs q => wS_of ps_continue (q.ct F v t H S p k re rs h)
theorem WS.expr (h : WE X e v S fun _ S1 => E.nx v S1) (hs : swapsWith e none pos.line X.env = pure false := by rfl) : WS X n (.Expr e pos) v S E := fun F0 H0 F t H E' hl p k re rs q => by
  refine wS_of (ps_expr pe_w hs) ?_
  exact h F t H _ re rs fun F1 d u H1 S1 p1 k1 rs1 r1 h1 => q.nx F1 v t H1 S1 (p.trans p1) (k.trans k1) (re.mono p1 k1) rs1 h1
theorem WS.ret (h : WE X e v S E.rt) : WS X n (.Return (some e) pos) v S E := fun F0 H0 F t H E' hl p k re rs q => by
  refine wS_of (ps_ret pe_w) ?_
  exact h F t H _ re rs fun F1 d u H1 S1 p1 k1 rs1 r1 h1 => q.rt F1 d u H1 S1 (p.trans p1) (k.trans k1) rs1 r1 h1
theorem WS.retN (h : E.rt .non S) : WS X n (.Return none pos) v S E := fun F0 H0 F t H E' hl p k re rs q => by
  refine wS_of ps_retN ?_
  exact q.rt F .non .non H S p k rs rfl h
theorem WS.ite {A B : List Stmt} (h : WT X c v S fun k S1 => (k = true → WSs X n A v S1 E) ∧ (k = false → WSs X n B v S1 E)) : WS X n (.If c A B pos) v S E := fun F0 H0 F t H E' hl p k re rs q => by
  refine wS_of (ps_if pt_w pss_w pss_w) ?_
  refine h F t H _ re rs fun F1 b H1 S1 p1 k1 rs1 h1 => ?_
  cases b with
  | true => exact iteT (h1.1 rfl F0 H0 F1 t H1 E' hl (p.trans p1) (k.trans k1) (re.mono p1 k1) rs1 q)
  | false => exact iteF (h1.2 rfl F0 H0 F1 t H1 E' hl (p.trans p1) (k.trans k1) (re.mono p1 k1) rs1 q)
theorem RE.set {F : List Addr} {H : Hp} {t : L2.St} {i : Nat} {d : D} {u : V} (re : RE F H v t) (r : RD F H d u) : RE F H (v.set i (some d)) (t.set i (some u)) :=
  ⟨by simp [re.len], fun j d' h => by
    by_cases hj : i = j
    · subst hj
      have hi : i < v.length := by
        have := (List.getElem?_eq_some_iff.mp h).1
        simpa using this
      rw [List.getElem?_set_self hi] at h
      cases h
      exact ⟨u, by rw [List.getElem?_set_self (by rw [← re.len]; exact hi)], r⟩
    · rw [List.getElem?_set_ne hj] at h
      obtain ⟨w, q1, q2⟩ := re.at_ j d' h
      exact ⟨w, by rw [List.getElem?_set_ne hj]; exact q1, q2⟩⟩
theorem RE.drop {F : List Addr} {H : Hp} {t : L2.St} {i : Nat} (re : RE F H v t) : RE F H (v.set i none) (t.set i none) :=
  ⟨by simp [re.len], fun j d' h => by
    by_cases hj : i = j
    · subst hj
      have hi : i < v.length := by
        have := (List.getElem?_eq_some_iff.mp h).1
        simpa using this
      rw [List.getElem?_set_self hi] at h
      cases h
    · rw [List.getElem?_set_ne hj] at h
      obtain ⟨w, q1, q2⟩ := re.at_ j d' h
      exact ⟨w, by rw [List.getElem?_set_ne hj]; exact q1, q2⟩⟩
/-- name = e -/
theorem WS.set (i : Nat) {x : Str} {px : Pos} (h : WE X e v S fun d S1 => E.nx (v.set i (some d)) S1) (hN : X.N.Nodup) (hi : X.N[i]? = some x := by rfl) (hx : Loc X.env.scope x := by first | exact Or.inl rfl | exact Or.inr rfl)
    (hs : swapsWith e (some (.Name x px)) pos.line X.env = pure false := by rfl) (hf : X.fn x = true ∨ X.env.scope.names.lookup x = some .local := by first | exact .inl rfl | exact .inr rfl) : WS X n (.Assign [.Name x px] e pos) v S E := fun F0 H0 F t H E' hl p k re rs q => by
  refine wS_of (ps_set hN hi hx pe_w hs hf) ?_
  exact h F t H _ re rs fun F1 d u H1 S1 p1 k1 rs1 r1 h1 => q.nx F1 _ _ H1 S1 (p.trans p1) (k.trans k1) ((re.mono p1 k1).set r1) rs1 h1
/-- target = e -/
theorem WS.asg {tg : Expr} (h : WE X e v S fun d S1 => WG X tg d v S1 E.nx) (hs : swapsWithSole [tg] e pos.line X.env = pure false := by rfl) (hw : swappedStores [tg] e X.env = pure none := by rfl) (h1 : (assignEach [tg] X.env).map (·.2) = [assign tg X.env] := by rfl) : WS X n (.Assign [tg] e pos) v S E := fun F0 H0 F t H E' hl p k re rs q => by
  refine wS_of (ps_asg pe_w pg_w hs hw h1) ?_
  refine h F t H _ re rs fun F1 d u H1 S1 p1 k1 rs1 r1 h1 => ?_
  exact h1 F1 t H1 u _ (re.mono p1 k1) rs1 r1 (q.nx.mono (p.trans p1) (k.trans k1))
/-- a, b = e1, e2, two names -/
theorem WS.par (i j : Nat) {x y : Str} {px py pt : Pos} {kt k2 pt2} (h : WA X [a, b] v S fun ds S1 => ∃ d1 d2, ds = [d1, d2] ∧ E.nx ((v.set i (some d1)).set j (some d2)) S1) (hc : X.calm = true) (hN : X.N.Nodup) (hi : X.N[i]? = some x := by rfl) (hj : X.N[j]? = some y := by rfl) (hij : i ≠ j := by decide)
    (hx : X.env.scope.names.lookup x = some .local := by rfl) (hy : X.env.scope.names.lookup y = some .local := by rfl)
    (hw : swappedStores [.Tuple [.Name x px, .Name y py] kt pt] (.Tuple [a, b] k2 pt2) X.env = pure (some [x, y]) := by rfl)
    (hs : swapsWithSole [.Tuple [.Name x px, .Name y py] kt pt] (.Tuple [a, b] k2 pt2) pos.line X.env = pure false := by rfl) : WS X n (.Assign [.Tuple [.Name x px, .Name y py] kt pt] (.Tuple [a, b] k2 pt2) pos) v S E := fun F0 H0 F t H E' hl p k re rs q => by
  refine wS_of (ps_par hc hN hi hj hij hx hy pa_w hw hs) ?_
  refine h F t H _ re rs fun F1 ds vs H1 S1 p1 k1 rs1 r1 h1 => ?_
  obtain ⟨d1, d2, rfl, h1⟩ := h1
  obtain ⟨v1, _, e1, q1, v2, _, e2, q2, e3⟩ := r1
  subst e1 e2 e3
  exact ⟨v1, v2, rfl, q.nx F1 _ _ H1 S1 (p.trans p1) (k.trans k1) (((re.mono p1 k1).set q1).set q2) rs1 h1⟩
/-- targets -/
theorem WG.name (i : Nat) {x : Str} {d : D} {Q : Fv → Store → Prop} (h : Q (v.set i (some d)) S) (hN : X.N.Nodup) (hi : X.N[i]? = some x := by rfl) (hx : Loc X.env.scope x := by first | exact Or.inl rfl | exact Or.inr rfl)
    (hf : X.fn x = true ∨ X.env.scope.names.lookup x = some .local := by first | exact .inl rfl | exact .inr rfl) : WG X (.Name x pos) d v S Q := fun F t H u Q' re rs r k => by
  refine wG_of (pg_name hN hi hx hf) ?_
  exact k F _ _ H S (List.prefix_refl F) (Keep.refl H) (re.set r) rs h
theorem WGs.nil {Q : Fv → Store → Prop} (h : Q v S) : WGs X [] [] v S Q := fun F t H us Q' re rs r k => by
  cases (show us = [] from r)
  exact wGs_of pgs_nil ⟨rfl, k F v t H S (List.prefix_refl F) (Keep.refl H) re rs h⟩
theorem WGs.cons {d : D} {ds : List D} {Q : Fv → Store → Prop} (h : WG X e d v S fun v1 S1 => WGs X es ds v1 S1 Q) (hs : (assignEach (e :: es) X.env).map (·.2) = assign e X.env :: (assignEach es X.env).map (·.2) := by rfl) : WGs X (e :: es) (d :: ds) v S Q := fun F t H us Q' re rs r k => by
  obtain ⟨u, ur, rfl, r1, r2⟩ := r
  refine wGs_of (pgs_cons pg_w pgs_w hs) ⟨u, ur, rfl, ?_⟩
  refine h F t H u _ re rs r1 fun F1 v1 t1 H1 S1 p1 k1 re1 rs1 h1 => ?_
  exact h1 F1 t1 H1 ur Q' re1 rs1 (RDs.mono p1 k1 _ _ r2) (k.mono p1 k1)
theorem WG.tup {d : D} {Q : Fv → Store → Prop} {kk : Nat} {ds : List D} (hd : d = .tup ds) (h : WGs X es ds v S Q) (hc : X.calm = true) (hn : (assignEach es X.env).length = ds.length := by rfl) (hst : (assignEach es X.env).findIdx? (·.1) = none := by rfl) : WG X (.Tuple es kk pos) d v S Q := fun F t H u Q' re rs r k => by
  subst hd
  obtain ⟨p, vs, rfl, sq, rs'⟩ := r
  exact wG_of (pg_tup hc pgs_w hn hst) ⟨p, vs, rfl, SqT.of sq, rs'.length, h F t H vs Q' re rs rs' k⟩
/-- o[i] = .., a list -/
theorem WG.setL {d : D} {Q : Fv → Store → Prop} (h : WE X o v S fun x S1 => WE X e v S1 fun y S2 => ∃ l xs i j, x = .loc l ∧ y = .int i ∧ S2[l]? = some (.lst xs) ∧ ixN xs.length i = some j ∧ Q v (S2.set l (.lst (xs.set j d))))
    (ha : ∀ v, assign (.Subscript o e pos) X.env v = (do
      let ov ← holding [v] (eval o X.env)
      let iv ← holding [v, ov] (eval e X.env)
      standAt pos
      holding [v, ov, iv] (setItem ov iv v)
      release [v, ov, iv] []) := by intro _; rfl) : WG X (.Subscript o e pos) d v S Q := fun F t H u Q' re rs r k => by
  refine wG_of (pg_sub pe_w pe_w set_list ha) ?_
  refine h F t H _ re rs fun F1 x vx H1 S1 p1 k1 rs1 r1 h1 => ?_
  refine h1 F1 t H1 _ (re.mono p1 k1) rs1 fun F2 y vy H2 S2 p2 k2 rs2 r2 h2 => ?_
  obtain ⟨l, xs, i, j, rfl, rfl, hl, hj, q⟩ := h2
  obtain ⟨a, rfl, ha⟩ := r1
  cases r2
  obtain ⟨a', h', e1, e2, vs, e3, e4⟩ := rs2.get hl
  have ea : a = a' := by
    have := pre_get p2 ha
    rw [e1] at this
    exact (Option.some.inj this).symm
  subst ea
  subst e3
  refine ⟨a, vs, i, j, rfl, rfl, e2, by rw [e4.length]; exact hj, ?_⟩
  have kk : Keep H2 (upd H2 a (.lst (vs.set j u))) := Keep.upd e2 trivial
  exact k F2 v t _ _ (p1.trans p2) ((k1.trans k2).trans kk) (((re.mono p1 k1).mono p2 k2).mono (List.prefix_refl F2) kk) (rs2.set (o := .lst (xs.set j d)) e1 e2 trivial ⟨_, rfl, RDs.set (RD.mono p2 k2 _ _ (RD.mono p1 k1 _ _ r)) j e4⟩) q

/-! ### fields -/
theorem RKs.lookup {F : List Addr} {H : Hp} {f : Str} : ∀ {fs : List (Str × D)} {vs : List (Str × V)}, RKs F H fs vs → (fs.lookup f = none → vs.lookup f = none) ∧ ∀ d, fs.lookup f = some d → ∃ u, vs.lookup f = some u ∧ RD F H d u
  | [], vs, h => by
    cases (show vs = [] from h)
    exact ⟨fun _ => rfl, fun d q => by cases q⟩
  | (g, x) :: fs, _, ⟨u, r, e, h1, h2⟩ => by
    subst e
    have ih := RKs.lookup (f := f) h2
    by_cases hk : f = g
    · have hb : (f == g) = true := beq_iff_eq.mpr hk
      simp only [List.lookup, hb]
      exact ⟨fun z => (by cases z), fun d q => ⟨u, rfl, (by cases q; exact h1)⟩⟩
    · have hb : (f == g) = false := beq_eq_false_iff_ne.mpr hk
      simp only [List.lookup, hb]
      exact ih
def putD (f : Str) (y : D) : List (Str × D) → List (Str × D)
  | [] => [(f, y)]
  | (g, x) :: r => if g = f then (g, y) :: r else (g, x) :: putD f y r
theorem RKs.putF {F : List Addr} {H : Hp} {f : Str} {d : D} {u : V} (r : RD F H d u) : ∀ {fs : List (Str × D)} {vs : List (Str × V)}, RKs F H fs vs → RKs F H (putD f d fs) (L2.putF f u vs)
  | [], vs, h => by
    cases (show vs = [] from h)
    exact ⟨u, [], rfl, r, rfl⟩
  | (g, x) :: fs, _, ⟨w, r', e, h1, h2⟩ => by
    subst e
    unfold putD L2.putF
    by_cases hk : g = f
    · rw [if_pos hk, if_pos hk]
      exact ⟨u, r', rfl, r, h2⟩
    · rw [if_neg hk, if_neg hk]
      exact ⟨w, _, rfl, h1, RKs.putF r h2⟩
variable {C : Addr} {f : Str} {Q : D → Store → Prop}
theorem WE.fld (h : WE X o v S fun d S1 => ∃ l fs y, d = .loc l ∧ S1[l]? = some (.ins C fs) ∧ fs.lookup f = some y ∧ Q y S1) (c : Cls X.K C) (na : NoAttr X.K C f) (hb : attributeBase o f X.env (eval o X.env) = eval o X.env := by rfl) : WE X (.Attribute o f pos) v S Q := fun F t H Q' re rs k => by
  refine wE_of (pe_fld pe_w hb) ?_
  refine h F t H _ re rs fun F1 d u H1 S1 p1 k1 rs1 r1 h1 => ?_
  obtain ⟨l, fs, y, rfl, hl, hf, q⟩ := h1
  obtain ⟨a, rfl, ha⟩ := r1
  obtain ⟨a', h', e1, e2, dx, vs, e3, e4⟩ := rs1.get hl
  rw [e1] at ha; cases ha
  subst e3
  obtain ⟨uy, g1, g2⟩ := e4.lookup.2 y hf
  exact ⟨a, C, dx, vs, uy, rfl, e2, c, na, g1, k F1 y uy H1 S1 p1 k1 rs1 g2 q⟩
theorem WS.fld (h : WE X e v S fun y S1 => WE X o v S1 fun d S2 => ∃ l fs, d = .loc l ∧ S2[l]? = some (.ins C fs) ∧ fs.length < 1000 ∧ E.nx v (S2.set l (.ins C (putD f y fs)))) (c : Cls X.K C) (na : NoAttr X.K C f)
    (hs : swapsWith e (some (.Attribute o f pos')) pos.line X.env = pure false := by rfl) : WS X n (.Assign [.Attribute o f pos'] e pos) v S E := fun F0 H0 F t H E' hl p k re rs q => by
  refine wS_of (ps_fld pe_w pe_w hs) ?_
  refine h F t H _ re rs fun F1 y uy H1 S1 p1 k1 rs1 r1 h1 => ?_
  refine h1 F1 t H1 _ (re.mono p1 k1) rs1 fun F2 d u H2 S2 p2 k2 rs2 r2 h2 => ?_
  obtain ⟨l, fs, rfl, hl', hf, z⟩ := h2
  obtain ⟨a, rfl, ha⟩ := r2
  obtain ⟨a', h', e1, e2, dx, vs, e3, e4⟩ := rs2.get hl'
  rw [e1] at ha; cases ha
  subst e3
  refine ⟨a, C, dx, vs, rfl, e2, c, na, by rw [e4.length]; exact hf, ?_⟩
  have kk : Keep H2 (upd H2 a (.ins C dx (L2.putF f uy vs))) := Keep.upd e2 trivial
  exact q.nx F2 v t _ _ ((p.trans p1).trans p2) (((k.trans k1).trans k2).trans kk) (((re.mono p1 k1).mono p2 k2).mono (List.prefix_refl F2) kk) (rs2.set (o := .ins C (putD f y fs)) e1 e2 trivial ⟨dx, _, rfl, RKs.putF (RD.mono p2 k2 _ _ r1) e4⟩) z
end stm

/-! ### calls -/
abbrev SpD := List D → Store → (D → Store → Prop) → Prop
def spD (K : PySem.W.Frag) (sp : SpD) : Sp := fun vs H Q _ => ∃ F ds S Qd, RS F H S ∧ RDs F H ds vs ∧ sp ds S Qd ∧ Post F H Qd Q
section calls
variable {X : Cx} {n k : Nat} {f C : Addr} {fd : FuncData} {ps : List Str} {sp : SpD} {x m : Str} {a o : Expr} {es : List Expr} {v : Fv} {S : Store} {Q : D → Store → Prop} {p pos apos : Pos}
theorem WE.call (G : FnOk X.prog X.w X.K X.mg X.base CX0 k f fd ps (spD X.K sp)) (hr : Room k X.A) (hm : X.mg x = some (.ref f)) (hk : PySem.W.keepIn X.K (.ref f) = true) (hb : Binds X.K fd ps []) (h : WA X (a :: es) v S fun ds S1 => sp ds S1 Q) (hg : Gl X x := by rfl)
    (hdb : (x == ("__debug__" : Str)) = false := by decide) (he : starEach (a :: es) X.env = (false, eval a X.env) :: starEach es X.env := by rfl) (hpl : (backTo pos (starEach es X.env)).any (·.1) = false := by rfl) : WE X (.Call (.Name x p) (a :: es) [] pos) v S Q := fun F t H Q' re rs k => by
  refine wE_of (pe_call (E := E0) G hr hg hm hk hb .nil pass0 pa_w hdb he hpl) ?_
  refine h F t H _ re rs fun F1 ds vs H1 S1 p1 k1 rs1 r1 h1 => ?_
  rw [List.append_nil]
  exact ⟨F1, ds, S1, Q, rs1, r1, h1, k.mono p1 k1⟩
theorem WE.call0 (G : FnOk X.prog X.w X.K X.mg X.base CX0 k f fd ps (spD X.K sp)) (hr : Room k X.A) (hm : X.mg x = some (.ref f)) (hk : PySem.W.keepIn X.K (.ref f) = true) (hb : Binds X.K fd ps []) (h : sp [] S Q) (hg : Gl X x := by rfl)
    (hdb : (x == ("__debug__" : Str)) = false := by decide) : WE X (.Call (.Name x p) [] [] pos) v S Q := fun F t H Q' re rs k => by
  refine wE_of (pe_call0 (E := E0) G hr hg hm hk hb .nil pass0 hdb) ?_
  exact ⟨F, [], S, Q, rs, rfl, h, k⟩
theorem WE.meth {pl : Sem Bool} (G : FnOk X.prog X.w X.K X.mg X.base CX0 k f fd ps (spD X.K sp)) (hr : Room k X.A) (c : Cls X.K C) (hm : Meth X.K C m f) (hb : Binds X.K fd ps [])
    (h : WE X o v S fun d S1 => ∃ l fs, d = .loc l ∧ S1[l]? = some (.ins C fs) ∧ fs.lookup m = none ∧ WA X (a :: es) v S1 fun ds S2 => sp (.loc l :: ds) S2 Q)
    (hst : starEach (a :: es) X.env = (false, eval a X.env) :: starEach es X.env := by rfl) (hpl : (backTo pos (starEach es X.env)).any (·.1) = false := by rfl)
    (ht : eval (.Call (.Attribute o m apos) (a :: es) [] pos) X.env = (do
      let ov ← eval o X.env
      standAt apos.atName
      let (f, first) ← holding [ov] (getMethod ov m pl)
      callWith pos f first (backTo pos (starEach (a :: es) X.env)) (backToKw pos (keywordEach [] X.env))) := by rfl) : WE X (.Call (.Attribute o m apos) (a :: es) [] pos) v S Q := fun F t H Q' re rs k => by
  refine wE_of (pe_meth (E := E0) (pl := pl) pe_w c hm G hr hb .nil pass0 pa_w hst hpl ht) ?_
  refine h F t H _ re rs fun F1 d u H1 S1 p1 k1 rs1 r1 h1 => ?_
  obtain ⟨l, fs, rfl, hl, hf, h1⟩ := h1
  obtain ⟨a, rfl, ha⟩ := r1
  obtain ⟨a', h', e1, e2, dx, vs, e3, e4⟩ := rs1.get hl
  rw [e1] at ha; cases ha
  subst e3
  refine ⟨a, dx, vs, rfl, e2, e4.lookup.1 hf, ?_⟩
  refine h1 F1 t H1 _ (re.mono p1 k1) rs1 fun F2 ds ws H2 S2 p2 k2 rs2 r2 h2 => ?_
  rw [List.append_nil]
  exact ⟨F2, .loc l :: ds, S2, Q, rs2, ⟨.ref a, ws, rfl, ⟨a, rfl, pre_get p2 e1⟩, r2⟩, h2, (k.mono p1 k1).mono p2 k2⟩
theorem WE.meth0 {pl : Sem Bool} (G : FnOk X.prog X.w X.K X.mg X.base CX0 k f fd ps (spD X.K sp)) (hr : Room k X.A) (c : Cls X.K C) (hm : Meth X.K C m f) (hb : Binds X.K fd ps [])
    (h : WE X o v S fun d S1 => ∃ l fs, d = .loc l ∧ S1[l]? = some (.ins C fs) ∧ fs.lookup m = none ∧ sp [.loc l] S1 Q)
    (ht : eval (.Call (.Attribute o m apos) [] [] pos) X.env = (do
      let ov ← eval o X.env
      standAt apos.atName
      let (f, first) ← holding [ov] (getMethod ov m pl)
      callWith pos f first (backTo pos (starEach [] X.env)) (backToKw pos (keywordEach [] X.env))) := by rfl) : WE X (.Call (.Attribute o m apos) [] [] pos) v S Q := fun F t H Q' re rs k => by
  refine wE_of (pe_meth0 (E := E0) (pl := pl) pe_w c hm G hr hb .nil pass0 ht) ?_
  refine h F t H _ re rs fun F1 d u H1 S1 p1 k1 rs1 r1 h1 => ?_
  obtain ⟨l, fs, rfl, hl, hf, h1⟩ := h1
  obtain ⟨a, rfl, ha⟩ := r1
  obtain ⟨a', h', e1, e2, dx, vs, e3, e4⟩ := rs1.get hl
  rw [e1] at ha; cases ha
  subst e3
  refine ⟨a, dx, vs, rfl, e2, e4.lookup.1 hf, ?_⟩
  show spD X.K sp ([V.ref a] ++ []) H1 Q' E0
  exact ⟨F1, [.loc l], S1, Q, rs1, ⟨.ref a, [], rfl, ⟨a, rfl, e1⟩, rfl⟩, h1, k.mono p1 k1⟩
/-- C(..) -/
theorem made_rs {F : List Addr} {H : Hp} {x dx : Addr} (rs : RS F H S) (hx : H x = none) (hdx : H dx = none) (ne : dx ≠ x) :
    Keep H (upd (upd H dx (.own x)) x (.ins C dx [])) ∧ RS (F ++ [x]) (upd (upd H dx (.own x)) x (.ins C dx [])) (S ++ [.ins C []]) := by
  have k1 : Keep H (upd H dx (.own x)) := Keep.new hdx
  have hx' : (upd H dx (.own x)) x = none := by rw [upd_ne (Ne.symm ne)]; exact hx
  exact ⟨k1.trans (Keep.new hx'), (rs.other hdx).new (o := .ins C []) hx' ⟨dx, [], rfl, rfl⟩⟩
theorem WE.make (M : Mk X.K C f) (G : FnOk X.prog X.w X.K X.mg X.base CX0 k f fd ps (spD X.K sp)) (hr : Room (k + 1) X.A) (hm : X.mg x = some (.ref C)) (hb : Binds X.K fd ps [])
    (h : WA X (a :: es) v S fun ds S1 => sp (.loc S1.length :: ds) (S1 ++ [.ins C []]) fun d S2 => d = .non ∧ Q (.loc S1.length) S2) (hg : Gl X x := by rfl)
    (hdb : (x == ("__debug__" : Str)) = false := by decide) (he : starEach (a :: es) X.env = (false, eval a X.env) :: starEach es X.env := by rfl) (hpl : (backTo pos (starEach es X.env)).any (·.1) = false := by rfl) : WE X (.Call (.Name x p) (a :: es) [] pos) v S Q := fun F t H Q' re rs k => by
  refine wE_of (pe_make (E := E0) M G hr hg hm hb .nil pass0 pa_w hdb he hpl) ?_
  refine h F t H _ re rs fun F1 ds vs H1 S1 p1 k1 rs1 r1 h1 => ?_
  intro x dx hx hdx ne
  obtain ⟨kk, rs2⟩ := made_rs (C := C) rs1 hx hdx ne
  rw [List.append_nil]
  have pp : F1 <+: F1 ++ [x] := ⟨[x], rfl⟩
  have hlx : (F1 ++ [x])[S1.length]? = some x := by rw [← rs1.len]; simp
  refine ⟨F1 ++ [x], .loc S1.length :: ds, _, _, rs2, ⟨.ref x, vs, rfl, ⟨x, rfl, hlx⟩, RDs.mono pp kk _ _ r1⟩, h1, ?_⟩
  intro F3 d u H3 S3 p3 k3 rs3 r3 q
  obtain ⟨rfl, q⟩ := q
  exact ⟨r3, k F3 (.loc S1.length) (.ref x) H3 S3 ((p1.trans pp).trans p3) ((k1.trans kk).trans k3) rs3 ⟨x, rfl, pre_get p3 hlx⟩ q⟩
theorem WE.make0 (M : Mk X.K C f) (G : FnOk X.prog X.w X.K X.mg X.base CX0 k f fd ps (spD X.K sp)) (hr : Room (k + 1) X.A) (hm : X.mg x = some (.ref C)) (hb : Binds X.K fd ps [])
    (h : sp [.loc S.length] (S ++ [.ins C []]) fun d S2 => d = .non ∧ Q (.loc S.length) S2) (hg : Gl X x := by rfl)
    (hdb : (x == ("__debug__" : Str)) = false := by decide) : WE X (.Call (.Name x p) [] [] pos) v S Q := fun F t H Q' re rs k => by
  refine wE_of (pe_make0 (E := E0) M G hr hg hm hb .nil pass0 hdb) ?_
  intro x dx hx hdx ne
  obtain ⟨kk, rs2⟩ := made_rs (C := C) rs hx hdx ne
  have pp : F <+: F ++ [x] := ⟨[x], rfl⟩
  have hlx : (F ++ [x])[S.length]? = some x := by rw [← rs.len]; simp
  show spD X.K sp ([V.ref x] ++ []) _ _ E0
  refine ⟨F ++ [x], [.loc S.length], _, _, rs2, ⟨.ref x, [], rfl, ⟨x, rfl, hlx⟩, rfl⟩, h, ?_⟩
  intro F3 d u H3 S3 p3 k3 rs3 r3 q
  obtain ⟨rfl, q⟩ := q
  exact ⟨r3, k F3 (.loc S.length) (.ref x) H3 S3 (pp.trans p3) (kk.trans k3) rs3 ⟨x, rfl, pre_get p3 hlx⟩ q⟩
/-- a builtin by its name -/
theorem WE.callB {id : String} (h : WA X (a :: es) v S fun ds S1 => CW X (.builtin id) ds S1 Q) (hm : X.mg x = none) (hv : bootBuiltins x = some (.builtin id)) (hg : Gl X x := by rfl) (hn : x ≠ "__name__" := by decide) (hdb : (x == ("__debug__" : Str)) = false := by decide)
    (he : starEach (a :: es) X.env = (false, eval a X.env) :: starEach es X.env := by rfl) (hpl : (backTo pos (starEach es X.env)).any (·.1) = false := by rfl) : WE X (.Call (.Name x p) (a :: es) [] pos) v S Q := fun F t H Q' re rs k => by
  refine wE_of (pe_callB call_w hg hm hv pa_w hn hdb he hpl) ?_
  exact h F t H _ re rs fun F1 ds vs H1 S1 p1 k1 rs1 r1 h1 => h1 F1 H1 vs Q' rs1 r1 (k.mono p1 k1)
theorem WE.callT {T : String} (h : WA X (a :: es) v S fun ds S1 => CW X (.type T) ds S1 Q) (hm : X.mg x = none) (hv : bootBuiltins x = some (.type T)) (hg : Gl X x := by rfl) (hn : x ≠ "__name__" := by decide) (hdb : (x == ("__debug__" : Str)) = false := by decide)
    (he : starEach (a :: es) X.env = (false, eval a X.env) :: starEach es X.env := by rfl) (hpl : (backTo pos (starEach es X.env)).any (·.1) = false := by rfl) : WE X (.Call (.Name x p) (a :: es) [] pos) v S Q := fun F t H Q' re rs k => by
  refine wE_of (pe_callTy call_w hg hm hv pa_w hn hdb he hpl) ?_
  exact h F t H _ re rs fun F1 ds vs H1 S1 p1 k1 rs1 r1 h1 => h1 F1 H1 vs Q' rs1 r1 (k.mono p1 k1)
/-- a builtin type's method -/
def tyD (T : String) (d : D) (S : Store) : Prop := match d with
  | .str _ => T = "str"
  | .loc l => (T = "list" ∧ ∃ xs, S[l]? = some (.lst xs)) ∨ (T = "dict" ∧ ((∃ kvs, S[l]? = some (.dK kvs)) ∨ ∃ kvs, S[l]? = some (.dT kvs)))
  | _ => False
theorem tyD_v {K : PySem.W.Frag} {F : List Addr} {H : Hp} {T : String} {d : D} {u : V} (rs : RS F H S) (r : RD F H d u) (h : tyD T d S) : tyV K T u H := by
  cases d with
  | str y => cases (show u = .str y from r); exact h
  | loc l =>
    obtain ⟨a, rfl, ha⟩ := r
    rcases h with ⟨rfl, xs, hl⟩ | ⟨rfl, ⟨kvs, hl⟩ | ⟨kvs, hl⟩⟩
    · obtain ⟨a', h', e1, e2, vs, e3, e4⟩ := rs.get hl
      rw [e1] at ha; cases ha; subst e3
      exact Or.inl ⟨rfl, _, SqL.of e2⟩
    · obtain ⟨a', h', e1, e2, vs, e3, e4⟩ := rs.get hl
      rw [e1] at ha; cases ha; subst e3
      exact Or.inr (Or.inr (Or.inl ⟨rfl, Or.inl ⟨_, e2⟩⟩))
    · obtain ⟨a', h', e1, e2, vs, e3, e4⟩ := rs.get hl
      rw [e1] at ha; cases ha; subst e3
      exact Or.inr (Or.inr (Or.inl ⟨rfl, Or.inr ⟨_, e2⟩⟩))
  | _ => exact h.elim
theorem WE.bm0 {T id : String} (pa : PlainAttrs T) (slot : Slot T m id) (hty : typeOf (.builtin id) = pure (.type "method_descriptor")) (h : WE X o v S fun d S1 => tyD T d S1 ∧ MW X id d [] S1 Q)
    (hbase : attributeBase o m X.env (eval o X.env) = eval o X.env := by rfl) (hline : (apos.endLine == pos.line) = true := by rfl) : WE X (.Call (.Attribute o m apos) [] [] pos) v S Q := fun F t H Q' re rs k => by
  refine wE_of (pe_bm0 pa slot hty mt_w pe_w hbase hline) ?_
  exact h F t H _ re rs fun F1 d u H1 S1 p1 k1 rs1 r1 h1 => ⟨tyD_v rs1 r1 h1.1, h1.2 F1 H1 u [] Q' rs1 r1 rfl (k.mono p1 k1)⟩
theorem WE.bm {T id : String} (pa : PlainAttrs T) (slot : Slot T m id) (hty : typeOf (.builtin id) = pure (.type "method_descriptor")) (h : WE X o v S fun d S1 => tyD T d S1 ∧ WA X (a :: es) v S1 fun ds S2 => MW X id d ds S2 Q)
    (hbase : attributeBase o m X.env (eval o X.env) = eval o X.env := by rfl)
    (hfew : ((backTo pos (starEach (a :: es) X.env)).all (fun x => !x.1) && (backToKw pos (keywordEach [] X.env)).all (fun x => x.1.isSome)
      && decide ((a :: es).length + ([] : List Keyword).length + (if ([] : List Keyword).isEmpty then 0 else 1) < 30)) = true := by rfl)
    (hline : (apos.endLine == pos.line) = true := by rfl) (hs : starEach (a :: es) X.env = (false, eval a X.env) :: starEach es X.env := by rfl) (hplain : (backTo pos (starEach es X.env)).any (·.1) = false := by rfl) : WE X (.Call (.Attribute o m apos) (a :: es) [] pos) v S Q := fun F t H Q' re rs k => by
  refine wE_of (pe_bm pa slot hty mt_w pe_w pa_w hbase hfew hline hs hplain) ?_
  refine h F t H _ re rs fun F1 d u H1 S1 p1 k1 rs1 r1 h1 => ⟨tyD_v rs1 r1 h1.1, ?_⟩
  exact h1.2 F1 t H1 _ (re.mono p1 k1) rs1 fun F2 ds vs H2 S2 p2 k2 rs2 r2 h2 => h2 F2 H2 u vs Q' rs2 (r1.mono p2 k2) r2 ((k.mono p1 k1).mono p2 k2)
end calls

/-! ### a def by its body -/
def startD (N : List Str) (ds : List D) : Fv := ds.map some ++ List.replicate (N.length - ds.length) none
def fnEnds (n : Nat) (Q : D → Store → Prop) : Ed := { nx := fun _ S => WkD n .non S Q, rt := fun d S => WkD n d S Q }
theorem re_start {F : List Addr} {H : Hp} {N : List Str} {ds : List D} {vs : List V} (r : RDs F H ds vs) : RE F H (startD N ds) (L2.start N vs) := by
  refine ⟨by simp [startD, L2.start, r.length], fun i d h => ?_⟩
  unfold startD at h
  unfold L2.start
  by_cases hi : i < ds.length
  · rw [List.getElem?_append_left (by simpa using hi), List.getElem?_map] at h
    cases e : ds[i]? with
    | none => rw [e] at h; cases h
    | some x =>
      rw [e] at h
      cases h
      obtain ⟨u, h1, h2⟩ := r.get e
      refine ⟨u, ?_, h2⟩
      rw [List.getElem?_append_left (by rw [List.length_map, r.length]; exact hi), List.getElem?_map, h1]
      rfl
  · rw [List.getElem?_append_right (by simpa using hi), List.getElem?_replicate] at h
    split at h <;> cases h
section defs
variable {P : Program} {w : World} {K : PySem.W.Frag} {mg : Str → Option Value} {base : Heap}
theorem post_fn {X : Cx} {F : List Addr} {H : Hp} {Q : D → Store → Prop} {Q' : VK} (k : Post F H Q Q') : PostS F H X (fnEnds F.length Q) { nx := fun _ H' => Q' .non H', rt := Q' } := by
  have go : ∀ F' d u H' S', F <+: F' → Keep H H' → RS F' H' S' → RD F' H' d u → WkD F.length d S' Q → Q' u H' := fun F' d u H' S' p kk rs r h => by
    obtain ⟨d2, S2, c, q⟩ := h
    obtain ⟨F2, p2, r2, rs2⟩ := c F' H' u r rs
    rw [← pre_of_take rfl p] at p2
    exact k F2 d2 u H' S2 p2 kk rs2 r2 q
  exact ⟨fun F' e t H' S' p kk re rs h => go F' .non .non H' S' p kk rs rfl h, go, fun _ _ _ _ _ _ _ _ _ h => h.elim, fun _ _ _ _ _ _ _ _ _ h => h.elim, XT.no⟩
theorem fnD {x qual : Str} {st : Stmt} {f : Addr} {fd : FuncData} {N ps : List Str} {k : Nat} {sp : SpD} (Fn : Fun K x qual st f fd) (Sc : FnScope N ps (defScope st)) (len : ∀ ds S Q, sp ds S Q → ds.length = ps.length)
    (body : ∀ (X : Cx) (ds : List D) (S : Store) (Q : D → Store → Prop), (∃ (cdv : Value) (A : Around) (outer : List Env) (s : Shared) (H : Hp) (E : XK), X = (cxOf CX0 P w K mg base N qual (defScope st) f cdv A outer s H E).nox) → Room k X.A → sp ds S Q → WSs X S.length (defBody st) (startD N ds) S (fnEnds S.length Q)) :
    FnOk P w K mg base CX0 (k + 1) f fd ps (spD K sp) := by
  refine Fn.ok Sc (fun vs H Q E h => ?_) (fun cdv A outer s H vs Q E hr h => ?_)
  · obtain ⟨F, ds, S, Qd, rs, r, hs, k⟩ := h
    rw [r.length]
    exact len ds S Qd hs
  · obtain ⟨F, ds, S, Qd, rs, r, hs, kp⟩ := h
    refine ⟨_, pss_w, ?_⟩
    have q := body _ ds S Qd ⟨cdv, A, outer, s, H, E, rfl⟩ hr hs
    exact q F H F (L2.start N vs) H _ rs.len (List.prefix_refl F) (Keep.refl H) (re_start r) rs (by rw [← rs.len]; exact post_fn kp)
end defs
end DM

namespace DM
open PySem PySem.Spec PyProof.Rows L2
/-! ### what is walked -/
/-- the items, and what must stand at each turn -/
structure Src where
  items : List D
  ok : Store → Prop
def wI (X : Cx) (tg it : Expr) : TI := fun t H R => ∀ pins s, Inv X pins t H s → wpAny (model X.prog X.w) X.A (eval it X.env) (fun v s1 => wpAny (model X.prog X.w) X.A (pyIter v) (PIE X pins t tg R) X.xe s1) X.xe s
theorem pi_w {X : Cx} {tg it : Expr} : PI X tg it (wI X tg it) := ⟨fun pins s t H R I h => h pins s I⟩
theorem wI_of {X : Cx} {tg it : Expr} {ti : TI} {t : L2.St} {H : Hp} {R : It → Hp → Prop} (p : PI X tg it ti) (h : ti t H R) : wI X tg it t H R := fun pins s I => p.run pins s t H R I h
def SrcOk (F : List Addr) (H : Hp) (J : It) (c : Src) : Prop := ∀ F2 H2 S2, F <+: F2 → Keep H H2 → RS F2 H2 S2 → c.ok S2 →
  (∀ i, i < c.items.length → J.go i H2 ∧ ∀ x H3, J.yld i H2 x H3 → Keep H2 H3 ∧ RS F2 H3 S2 ∧ ∃ d, c.items[i]? = some d ∧ RD F2 H3 d x) ∧ J.stop c.items.length H2
def WI (X : Cx) (tg it : Expr) (v : Fv) (S : Store) (R : Src → Store → Prop) : Prop := ∀ F t H (R' : It → Hp → Prop), RE F H v t → RS F H S →
  (∀ F' J H' S' c, F <+: F' → Keep H H' → RS F' H' S' → SrcOk F' H' J c → R c S' → R' J H') → wI X tg it t H R'
section iters
variable {X : Cx} {tg e a b : Expr} {v : Fv} {S : Store} {R : Src → Store → Prop} {p pos : Pos}
theorem WI.list (h : WE X e v S fun d S1 => ∃ l xs, d = .loc l ∧ S1[l]? = some (.lst xs) ∧ R ⟨xs, fun S2 => S2[l]? = some (.lst xs)⟩ S1) : WI X tg e v S R := fun F t H R' re rs k => by
  refine wI_of (pi_list pe_w) ?_
  refine h F t H _ re rs fun F1 d u H1 S1 p1 k1 rs1 r1 h1 => ?_
  obtain ⟨l, xs, rfl, hl, q⟩ := h1
  obtain ⟨a, rfl, ha⟩ := r1
  obtain ⟨a', h', e1, e2, vs, e3, e4⟩ := rs1.get hl
  rw [e1] at ha; cases ha
  subst e3
  refine ⟨a, rfl, ⟨vs, SqL.of e2⟩, k F1 (Itl X.K a) H1 S1 _ p1 k1 rs1 (fun F2 H2 S2 p2 _ rs2 ok => ?_) q⟩
  obtain ⟨a2, h2, g1, g2, ws, g3, g4⟩ := rs2.get (show S2[l]? = some (.lst xs) from ok)
  rw [pre_get p2 e1] at g1; cases g1
  subst g3
  refine ⟨fun i hi => ?_, ws, SqL.of g2, by rw [g4.length]; exact Nat.le_refl _⟩
  obtain ⟨x, q1, q2⟩ := g4.get (List.getElem?_eq_getElem hi)
  refine ⟨⟨ws, x, SqL.of g2, q1⟩, fun y H3 hy => ?_⟩
  obtain ⟨rfl, hy⟩ := hy
  have := hy ws (SqL.of g2)
  rw [q1] at this; cases this
  exact ⟨Keep.refl _, rs2, _, List.getElem?_eq_getElem hi, q2⟩
theorem WI.tup (h : WE X e v S fun d S1 => ∃ xs, d = .tup xs ∧ R ⟨xs, fun _ => True⟩ S1) : WI X tg e v S R := fun F t H R' re rs k => by
  refine wI_of (pi_tup pe_w) ?_
  refine h F t H _ re rs fun F1 d u H1 S1 p1 k1 rs1 r1 h1 => ?_
  obtain ⟨xs, rfl, q⟩ := h1
  obtain ⟨a, vs, rfl, sq, r⟩ := r1
  refine ⟨a, rfl, ⟨vs, SqT.of sq⟩, ?_⟩
  refine k F1 (Itt X.K a) H1 S1 ⟨xs, fun _ => True⟩ p1 k1 rs1 (fun F2 H2 S2 p2 k2 rs2 ok => ?_) q
  have r2 := RDs.mono p2 k2 _ _ r
  have sq2 : SqT X.K H2 a vs := SqT.of (k2.1 _ _ sq)
  refine ⟨fun i hi => ?_, vs, sq2, by rw [r2.length]; exact Nat.le_refl _⟩
  obtain ⟨x, q1, q2⟩ := r2.get (List.getElem?_eq_getElem hi)
  refine ⟨⟨vs, x, sq2, q1⟩, fun y H3 hy => ?_⟩
  obtain ⟨rfl, hy⟩ := hy
  have := hy vs sq2
  rw [q1] at this; cases this
  exact ⟨Keep.refl _, rs2, _, List.getElem?_eq_getElem hi, q2⟩
def rngD (lo : Int) (n : Nat) : List D := (List.range n).map fun (k : Nat) => .int (lo + (k : Int))
theorem rngD_get {lo : Int} {n i : Nat} {d : D} : (rngD lo n)[i]? = some d ↔ i < n ∧ d = .int (lo + (i : Int)) := by
  unfold rngD
  rw [List.getElem?_map]
  by_cases h : i < n
  · rw [List.getElem?_range h]
    simp [h, eq_comm]
  · rw [List.getElem?_eq_none (by simpa using h)]
    simp [h]
theorem rngD_len {lo : Int} {n : Nat} : (rngD lo n).length = n := by simp [rngD]
theorem srcR {F : List Addr} {H : Hp} {lo : Int} {n : Nat} : SrcOk F H (Itr lo n) ⟨rngD lo n, fun _ => True⟩ := fun F2 H2 S2 p2 k2 rs2 _ => by
  refine ⟨fun i hi => ?_, Nat.le_of_eq rngD_len.symm⟩
  have hi : i < n := by rw [show (Src.items ⟨rngD lo n, fun _ => True⟩) = rngD lo n from rfl, rngD_len] at hi; exact hi
  refine ⟨hi, fun x H3 hy => ?_⟩
  obtain ⟨rfl, rfl⟩ := hy
  exact ⟨Keep.refl _, rs2, .int (lo + i), rngD_get.mpr ⟨hi, rfl⟩, rfl⟩
theorem WI.range1 (h : WA X [a] v S fun ds S1 => ∃ j : Int, ds = [.int j] ∧ -(2 ^ 62) ≤ j ∧ j < 2 ^ 62 ∧ R ⟨rngD 0 j.toNat, fun _ => True⟩ S1) (hm : X.mg "range" = none) (hg : Gl X "range" := by rfl) (hs : starEach [a] X.env = [(false, eval a X.env)] := by rfl) : WI X tg (.Call (.Name "range" p) [a] [] pos) v S R := fun F t H R' re rs k => by
  refine wI_of (pi_range1 hg hm pa_w hs) ?_
  refine h F t H _ re rs fun F1 ds vs H1 S1 p1 k1 rs1 r1 h1 => ?_
  obtain ⟨j, rfl, h2, h3, q⟩ := h1
  obtain ⟨u, r, rfl, e1, e2⟩ := r1
  cases e1
  cases (show r = [] from e2)
  exact ⟨j, rfl, h2, h3, k F1 _ H1 S1 _ p1 k1 rs1 srcR q⟩
theorem WI.range2 (h : WA X [a, b] v S fun ds S1 => ∃ i j : Int, ds = [.int i, .int j] ∧ (-(2 ^ 62) ≤ i ∧ i < 2 ^ 62 ∧ -(2 ^ 62) ≤ j ∧ j < 2 ^ 62) ∧ R ⟨rngD i (j - i).toNat, fun _ => True⟩ S1) (hm : X.mg "range" = none) (hg : Gl X "range" := by rfl)
    (hs : starEach [a, b] X.env = [(false, eval a X.env), (false, eval b X.env)] := by rfl) (hs2 : starEach [b] X.env = [(false, eval b X.env)] := by rfl) : WI X tg (.Call (.Name "range" p) [a, b] [] pos) v S R := fun F t H R' re rs k => by
  refine wI_of (pi_range2 hg hm pa_w hs hs2) ?_
  refine h F t H _ re rs fun F1 ds vs H1 S1 p1 k1 rs1 r1 h1 => ?_
  obtain ⟨i, j, rfl, h2, q⟩ := h1
  obtain ⟨u, r, rfl, e1, u2, r2, rfl, e2, e3⟩ := r1
  cases e1
  cases e2
  cases (show r2 = [] from e3)
  exact ⟨i, j, rfl, h2, k F1 _ H1 S1 _ p1 k1 rs1 srcR q⟩
/-- enumerate(list): new pairs -/
def enumD (xs : List D) : List D := (List.range xs.length).map fun (k : Nat) => .tup [.int (k : Int), xs.getD k .non]
theorem WI.enum {tpos : Pos} {elts : List Expr} {kk : Nat} (h : WA X [a] v S fun ds S1 => ∃ l xs, ds = [.loc l] ∧ S1[l]? = some (.lst xs) ∧ R ⟨enumD xs, fun S2 => S2[l]? = some (.lst xs)⟩ S1) (hm : X.mg "enumerate" = none) (hg : Gl X "enumerate" := by rfl) (hs : starEach [a] X.env = [(false, eval a X.env)] := by rfl) :
    WI X (.Tuple elts kk tpos) (.Call (.Name "enumerate" p) [a] [] pos) v S R := fun F t H R' re rs k => by
  refine wI_of (pi_enum hg hm pa_w hs) ?_
  refine h F t H _ re rs fun F1 ds vs H1 S1 p1 k1 rs1 r1 h1 => ?_
  obtain ⟨l, xs, rfl, hl, q⟩ := h1
  obtain ⟨u, r, rfl, ⟨a, rfl, ha⟩, e2⟩ := r1
  cases (show r = [] from e2)
  obtain ⟨a', h', e1, e2, vs, e3, e4⟩ := rs1.get hl
  rw [e1] at ha; cases ha
  subst e3
  refine ⟨a, vs, rfl, SqL.of e2, k F1 (Ite X.K a) H1 S1 ⟨enumD xs, _⟩ p1 k1 rs1 (fun F2 H2 S2 p2 _ rs2 ok => ?_) q⟩
  obtain ⟨a2, h2, g1, g2, ws, g3, g4⟩ := rs2.get (show S2[l]? = some (.lst xs) from ok)
  rw [pre_get p2 e1] at g1; cases g1
  subst g3
  have hlen : (enumD xs).length = xs.length := by simp [enumD]
  refine ⟨fun i hi => ?_, ws, SqL.of g2, by rw [g4.length]; exact Nat.le_of_eq hlen.symm⟩
  have hi : i < xs.length := by rw [← hlen]; exact hi
  obtain ⟨x, q1, q2⟩ := g4.get (List.getElem?_eq_getElem hi)
  refine ⟨⟨ws, x, SqL.of g2, q1⟩, fun y H3 hy => ?_⟩
  obtain ⟨T, x', rfl, hT, rfl, hy⟩ := hy
  have := hy ws (SqL.of g2)
  rw [q1] at this; cases this
  have kk : Keep H2 (upd H2 T (.tup [.int (i : Nat), x])) := Keep.new hT
  refine ⟨kk, rs2.other hT, .tup [.int (i : Int), xs[i]], ?_, T, [.int (i : Nat), x], rfl, upd_same, ⟨.int (i : Int), [x], rfl, rfl, x, [], rfl, q2.mono (List.prefix_refl _) kk, rfl⟩⟩
  show (enumD xs)[i]? = _
  unfold enumD
  rw [List.getElem?_map, List.getElem?_range hi]
  simp [List.getD, List.getElem?_eq_getElem hi]
/-- reversed(list) -/
theorem WI.rev (h : WE X a v S fun d S1 => ∃ l xs, d = .loc l ∧ S1[l]? = some (.lst xs) ∧ R ⟨xs.reverse, fun S2 => S2[l]? = some (.lst xs)⟩ S1) (hm : X.mg "reversed" = none) (hg : Gl X "reversed" := by rfl) (hs : starEach [a] X.env = [(false, eval a X.env)] := by rfl) :
    WI X tg (.Call (.Name "reversed" p) [a] [] pos) v S R := fun F t H R' re rs k => by
  refine wI_of (RT.pi_revA hg hm pe_w (by rw [hs]; rfl)) ?_
  refine h F t H _ re rs fun F1 d u H1 S1 p1 k1 rs1 r1 h1 => ?_
  obtain ⟨l, xs, rfl, hl, q⟩ := h1
  obtain ⟨a, rfl, ha⟩ := r1
  obtain ⟨a', h', e1, e2, vs, e3, e4⟩ := rs1.get hl
  rw [e1] at ha; cases ha
  subst e3
  refine ⟨a, vs, rfl, .inl ⟨SqL.of e2, k F1 (Itv X.K a vs.length) H1 S1 ⟨xs.reverse, _⟩ p1 k1 rs1 (fun F2 H2 S2 p2 _ rs2 ok => ?_) q⟩⟩
  obtain ⟨a2, h2, g1, g2, ws, g3, g4⟩ := rs2.get (show S2[l]? = some (.lst xs) from ok)
  rw [pre_get p2 e1] at g1; cases g1
  subst g3
  have hlen : ws.length = xs.length := g4.length
  have hlv : vs.length = xs.length := e4.length
  refine ⟨fun i hi => ?_, by show vs.length ≤ xs.reverse.length; rw [List.length_reverse, hlv]; exact Nat.le_refl _⟩
  have hi : i < xs.length := by rw [show (Src.items ⟨xs.reverse, fun S2 => S2[l]? = some (.lst xs)⟩) = xs.reverse from rfl, List.length_reverse] at hi; exact hi
  have hi2 : vs.length - 1 - i < xs.length := by omega
  obtain ⟨x, q1, q2⟩ := g4.get (List.getElem?_eq_getElem hi2)
  refine ⟨⟨by omega, ws, x, SqL.of g2, q1⟩, fun y H3 hy => ?_⟩
  obtain ⟨rfl, hy⟩ := hy
  have := hy ws (SqL.of g2)
  rw [q1] at this; cases this
  refine ⟨Keep.refl _, rs2, _, ?_, q2⟩
  show xs.reverse[i]? = _
  rw [List.getElem?_reverse hi, List.getElem?_eq_getElem (by omega)]
  simp only [hlv]
end iters

/-! ### for, while -/
section loops
variable {X : Cx} {n : Nat} {tg it c : Expr} {body : List Stmt} {v : Fv} {S : Store} {E : Ed} {pos : Pos}
/-- I i: what holds ahead of turn i. The places that are there at the loop's start stay where they are -/
theorem WS.for (h : WI X tg it v S fun c S1 => ∃ I : Nat → Fv → Store → Prop, I 0 v S1 ∧ (∀ i v2 S2, i ≤ c.items.length → I i v2 S2 → c.ok S2) ∧
      (∀ i d v2 S2, c.items[i]? = some d → I i v2 S2 → WG X tg d v2 S2 fun v3 S3 => WSs X S1.length body v3 S3 { nx := fun v4 S4 => WkE S1.length v4 S4 (I (i + 1)), ct := fun v4 S4 => WkE S1.length v4 S4 (I (i + 1)), bk := E.nx, rt := E.rt, xe := E.xe }) ∧
      (∀ v2 S2, I c.items.length v2 S2 → E.nx v2 S2)) (hp : PassesOwn (model X.prog X.w) X.A X.env X.xe) (hc : X.calm = true) (hs : ∀ x, foldedSetIterable it X.env x = pure x := by intro _; rfl) : WS X n (.For tg it body [] pos) v S E := fun F0 H0 F t H E' hl p k re rs q => by
  refine wS_of (ps_for hp hc pi_w pg_w pss_w hs) ?_
  refine h F t H _ re rs fun F1 J H1 S1 c p1 k1 rs1 sk h1 => ?_
  obtain ⟨I, i0, iok, turn, done⟩ := h1
  have l1 : F1.length = S1.length := rs1.len
  refine ⟨fun i m t2 H2 => m + i = c.items.length ∧ ∃ F2 v2 S2, F1 <+: F2 ∧ Keep H1 H2 ∧ RE F2 H2 v2 t2 ∧ RS F2 H2 S2 ∧ I i v2 S2, ⟨c.items.length, by omega, F1, v, S1, List.prefix_refl _, Keep.refl _, re.mono p1 k1, rs1, i0⟩, ?_⟩
  rintro i m t2 H2 ⟨hm, F2, v2, S2, p2, k2, re2, rs2, i2⟩
  obtain ⟨goes, stops⟩ := sk F2 H2 S2 p2 k2 rs2 (iok i v2 S2 (by omega) i2)
  by_cases hi : i < c.items.length
  · obtain ⟨go, yld⟩ := goes i hi
    refine .inr ⟨go, fun t' H' => ∃ F2 v2 S2, F1 <+: F2 ∧ Keep H1 H' ∧ RE F2 H' v2 t' ∧ RS F2 H' S2 ∧ I (i + 1) v2 S2, fun t' H' z => ⟨m - 1, by omega, by omega, z⟩, fun x H3 hy => ?_⟩
    obtain ⟨k3, rs3, d, hd, r3⟩ := yld x H3 hy
    refine turn i d v2 S2 hd i2 F2 t2 H3 x _ (re2.mono (List.prefix_refl _) k3) rs3 r3 fun F4 v4 t4 H4 S4 p4 k4 re4 rs4 h4 => ?_
    have step : ∀ F5 v5 t5 H5 S5, F1 <+: F5 → Keep H1 H5 → RE F5 H5 v5 t5 → RS F5 H5 S5 → WkE S1.length v5 S5 (I (i + 1)) → ∃ F2 v2 S2, F1 <+: F2 ∧ Keep H1 H5 ∧ RE F2 H5 v2 t5 ∧ RS F2 H5 S2 ∧ I (i + 1) v2 S2 := fun F5 v5 t5 H5 S5 p5 k5 re5 rs5 h5 => by
      obtain ⟨v6, S6, cv, i6⟩ := h5
      obtain ⟨F6, p6, re6, rs6⟩ := cv F5 H5 t5 re5 rs5
      rw [← pre_of_take l1 p5] at p6
      exact ⟨F6, v6, S6, p6, k5, re6, rs6, i6⟩
    refine h4 F1 H1 F4 t4 H4 _ l1 (p2.trans p4) ((k2.trans k3).trans k4) re4 rs4 ⟨fun F5 v5 t5 H5 S5 p5 k5 re5 rs5 h5 => step F5 v5 t5 H5 S5 p5 k5 re5 rs5 h5, q.rt.mono (p.trans p1) (k.trans k1), q.nx.mono (p.trans p1) (k.trans k1), fun F5 v5 t5 H5 S5 p5 k5 re5 rs5 h5 => step F5 v5 t5 H5 S5 p5 k5 re5 rs5 h5, q.xe.mono (p.trans p1) (k.trans k1)⟩
  · have e : i = c.items.length := by omega
    subst e
    exact .inl ⟨stops, q.nx F2 v2 t2 H2 S2 ((p.trans p1).trans p2) ((k.trans k1).trans k2) re2 rs2 (done v2 S2 i2)⟩
/-- I m: what holds ahead of a turn; m falls -/
theorem WS.while (I : Nat → Fv → Store → Prop) (h0 : ∃ m, I m v S) (turn : ∀ m v2 S2, I m v2 S2 → WT X c v2 S2 fun b S3 => (b = true → WSs X S.length body v2 S3 { nx := fun v4 S4 => WkE S.length v4 S4 fun v5 S5 => ∃ m', m' < m ∧ I m' v5 S5, ct := fun v4 S4 => WkE S.length v4 S4 fun v5 S5 => ∃ m', m' < m ∧ I m' v5 S5, bk := E.nx, rt := E.rt, xe := E.xe }) ∧ (b = false → E.nx v2 S3))
    (hp : PassesOwn (model X.prog X.w) X.A X.env X.xe) : WS X n (.While c body [] pos) v S E := fun F0 H0 F t H E' hl p k re rs q => by
  refine wS_of (ps_while hp pt_w pss_w) ?_
  have l1 : F.length = S.length := rs.len
  refine ⟨fun m t2 H2 => ∃ F2 v2 S2, F <+: F2 ∧ Keep H H2 ∧ RE F2 H2 v2 t2 ∧ RS F2 H2 S2 ∧ I m v2 S2, ?_, ?_⟩
  · obtain ⟨m, i0⟩ := h0
    exact ⟨m, F, v, S, List.prefix_refl _, Keep.refl _, re, rs, i0⟩
  · rintro m t2 H2 ⟨F2, v2, S2, p2, k2, re2, rs2, i2⟩
    refine turn m v2 S2 i2 F2 t2 H2 _ re2 rs2 fun F3 b H3 S3 p3 k3 rs3 h3 => ?_
    cases b with
    | false => exact iteF (q.nx F3 v2 t2 H3 S3 ((p.trans p2).trans p3) ((k.trans k2).trans k3) (re2.mono p3 k3) rs3 (h3.2 rfl))
    | true =>
      refine iteT ⟨fun t' H' => ∃ m', m' < m ∧ ∃ F2 v2 S2, F <+: F2 ∧ Keep H H' ∧ RE F2 H' v2 t' ∧ RS F2 H' S2 ∧ I m' v2 S2, fun t' H' z => z, ?_⟩
      have step : ∀ F5 v5 t5 H5 S5, F <+: F5 → Keep H H5 → RE F5 H5 v5 t5 → RS F5 H5 S5 → (WkE S.length v5 S5 fun v5 S5 => ∃ m', m' < m ∧ I m' v5 S5) → ∃ m', m' < m ∧ ∃ F2 v2 S2, F <+: F2 ∧ Keep H H5 ∧ RE F2 H5 v2 t5 ∧ RS F2 H5 S2 ∧ I m' v2 S2 := fun F5 v5 t5 H5 S5 p5 k5 re5 rs5 h5 => by
        obtain ⟨v6, S6, cv, m', hm', i6⟩ := h5
        obtain ⟨F6, p6, re6, rs6⟩ := cv F5 H5 t5 re5 rs5
        rw [← pre_of_take l1 p5] at p6
        exact ⟨m', hm', F6, v6, S6, p6, k5, re6, rs6, i6⟩
      exact h3.1 rfl F H F3 t2 H3 _ l1 (p2.trans p3) (k2.trans k3) (re2.mono p3 k3) rs3 ⟨fun F5 v5 t5 H5 S5 p5 k5 re5 rs5 h5 => step F5 v5 t5 H5 S5 p5 k5 re5 rs5 h5, q.rt.mono p k, q.nx.mono p k, fun F5 v5 t5 H5 S5 p5 k5 re5 rs5 h5 => step F5 v5 t5 H5 S5 p5 k5 re5 rs5 h5, q.xe.mono p k⟩
end loops
end DM

namespace DM
open PySem PySem.Spec PyProof.Rows L2
/-! ### comprehensions -/
def wipeD (v : Fv) : List Nat → Fv
  | [] => v
  | i :: is => (wipeD v is).set i none
theorem re_wipe {F : List Addr} {H : Hp} {v : Fv} {t : L2.St} (re : RE F H v t) : ∀ is : List Nat, RE F H (wipeD v is) (wipe t is)
  | [] => re
  | i :: is => (re_wipe re is).drop
theorem wipe_get (t : L2.St) (j : Nat) : ∀ is : List Nat, j < t.length → (wipe t is)[j]? = if j ∈ is then some none else t[j]?
  | [], h => by simp [wipe]
  | i :: is, h => by
    have ih := wipe_get t j is h
    show ((wipe t is).set i none)[j]? = _
    by_cases hj : i = j
    · subst hj
      rw [List.getElem?_set_self (by rw [wipe_length]; exact h)]
      simp
    · rw [List.getElem?_set_ne hj, ih]
      have : ¬ j = i := fun z => hj z.symm
      simp [this]
theorem wipe_ext {t t2 : L2.St} {is : List Nat} (hl : t2.length = t.length) (h : ∀ j, j ∉ is → t2[j]? = t[j]?) : wipe t2 is = wipe t is := by
  apply List.ext_getElem?
  intro j
  by_cases hj : j < t.length
  · rw [wipe_get t2 j is (by omega), wipe_get t j is hj]
    by_cases hm : j ∈ is
    · simp [hm]
    · simp [hm, h j hm]
  · rw [List.getElem?_eq_none (by rw [wipe_length]; omega), List.getElem?_eq_none (by rw [wipe_length]; omega)]
theorem wipe_idem {t t2 : L2.St} {is : List Nat} (hl : t2.length = t.length) (h : ∀ j, j ∉ is → t2[j]? = (wipe t is)[j]?) : wipe t2 is = wipe t is := by
  refine wipe_ext hl fun j hj => ?_
  rw [h j hj]
  by_cases hl2 : j < t.length
  · rw [wipe_get t j is hl2]; simp [hj]
  · rw [List.getElem?_eq_none (by rw [wipe_length]; omega), List.getElem?_eq_none (by omega)]
/-- the block of a comprehension of X's -/
def BlkOf (X : Cx) (scope : Scope) (Y : Cx) : Prop := ∃ (s : Shared) (H : Hp) (C : Addr) (cl : List (Str × Addr)) (fp : List Addr), Y = X.blk s H scope (compEnvC scope cl C X.env) fp
def wTs (X : Cx) : List Expr → TT
  | [] => tYes
  | [c] => wT X c
  | _ => fun _ _ _ => False
theorem pts_w {X : Cx} : ∀ {ifs : List Expr}, PTs X ifs (wTs X ifs)
  | [] => pts_nil
  | [c] => pts_one pt_w
  | _ :: _ :: _ => ⟨fun _ _ _ _ _ _ h => h.elim⟩
def WTs (X : Cx) (ifs : List Expr) (v : Fv) (S : Store) (Q : Bool → Store → Prop) : Prop := match ifs with
  | [] => Q true S
  | [c] => WT X c v S Q
  | _ => False
theorem wTs_of {X : Cx} {v : Fv} {S : Store} {Q : Bool → Store → Prop} {F : List Addr} {t : L2.St} {H : Hp} {Q' : Bool → Hp → Prop} : ∀ {ifs : List Expr}, WTs X ifs v S Q → RE F H v t → RS F H S → PostT F H Q Q' → wTs X ifs t H Q'
  | [], h, re, rs, k => k F true H S (List.prefix_refl F) (Keep.refl H) rs h
  | [c], h, re, rs, k => h F t H Q' re rs k
  | _ :: _ :: _, h, _, _, _ => h.elim
theorem pre_len {α : Type} {l m : List α} (p : l <+: m) (h : m.length = l.length) : l = m := p.eq_of_length h.symm
section
variable {X : Cx} {tg it elt : Expr} {ifs : List Expr} {scope : Scope} {own : List (Str × Nat)} {v : Fv} {S : Store} {Q : D → Store → Prop} {pos : Pos}
theorem lc_core2 {g : TG} {up : D → Fv → Option Fv} (h : WI X tg it v S fun c S1 => ∃ I : Nat → List D → Store → Prop, I 0 [] S1 ∧
      (∀ i acc S2, i ≤ c.items.length → I i acc S2 → S2.length = S1.length ∧ c.ok (S2 ++ [.lst acc])) ∧
      (∀ i d acc S2, c.items[i]? = some d → I i acc S2 → ∃ v3, up d (wipeD v (own.map (·.2))) = some v3 ∧ ∀ Y, BlkOf X scope Y → WTs Y ifs v3 (S2 ++ [.lst acc]) fun b S3 =>
        (b = true → ∀ Z, BlkOf X scope Z → WE Z elt v3 S3 fun y S4 => WkD (S1.length + 1) y S4 fun y2 S5 => acc.length < sizeLine ∧ ∃ S6, S5 = S6 ++ [.lst acc] ∧ I (i + 1) (acc ++ [y2]) S6) ∧
        (b = false → ∃ S5, CovS (S1.length + 1) S3 S5 ∧ ∃ S6, S5 = S6 ++ [.lst acc] ∧ I (i + 1) acc S6)) ∧
      (∀ acc S2, I c.items.length acc S2 → Q (.loc S1.length) (S2 ++ [.lst acc])))
    (hup : ∀ F H d x v t Qt v3, RE F H v t → RD F H d x → up d v = some v3 → (∀ t3, RE F H v3 t3 → t3.length = t.length → (∀ j, j ∉ own.map (·.2) → t3[j]? = t[j]?) → Qt t3 H) → g x t H Qt)
    {F : List Addr} {t : L2.St} {H : Hp} {Q' : VK} (re : RE F H v t) (rs : RS F H S) (k : Post F H Q Q') :
    tLc (wI X tg it) g (fun t H Q => ∀ Y, BlkOf X scope Y → wTs Y ifs t H Q) (fun t H Q => ∀ Y, BlkOf X scope Y → wE Y elt t H Q) (own.map (·.2)) t H Q' := by
  refine h F t H _ re rs fun F1 J H1 S1 c p1 k1 rs1 sk h1 => ?_
  obtain ⟨I, i0, iok, turn, done⟩ := h1
  intro D hD
  have l1 : F1.length = S1.length := rs1.len
  have pp : F1 <+: F1 ++ [D] := ⟨[D], rfl⟩
  have rs1' : RS (F1 ++ [D]) (upd H1 D (.lst [])) (S1 ++ [.lst []]) := rs1.new (o := .lst []) hD ⟨[], rfl, rfl⟩
  have kD : Keep H1 (upd H1 D (.lst [])) := Keep.new hD
  refine ⟨fun i m H2 => m + i = c.items.length ∧ ∃ acc S2, Keep H1 H2 ∧ RS (F1 ++ [D]) H2 (S2 ++ [.lst acc]) ∧ I i acc S2, ⟨c.items.length, by omega, [], S1, kD, rs1', i0⟩, ?_⟩
  rintro i m H2 ⟨hm, acc, S2, k2, rs2, i2⟩
  obtain ⟨hlen, ok2⟩ := iok i acc S2 (by omega) i2
  obtain ⟨goes, stops⟩ := sk (F1 ++ [D]) H2 (S2 ++ [.lst acc]) pp k2 rs2 ok2
  by_cases hi : i < c.items.length
  · obtain ⟨go, yld⟩ := goes i hi
    refine .inr ⟨go, fun H' => ∃ acc S2, Keep H1 H' ∧ RS (F1 ++ [D]) H' (S2 ++ [.lst acc]) ∧ I (i + 1) acc S2, fun H' z => ⟨m - 1, by omega, by omega, z⟩, fun x H3 hy => ?_⟩
    obtain ⟨k3, rs3, d, hd, r3⟩ := yld x H3 hy
    obtain ⟨v3, hu, body⟩ := turn i d acc S2 hd i2
    have re3 : RE (F1 ++ [D]) H3 (wipeD v (own.map (·.2))) (wipe t (own.map (·.2))) := re_wipe (re.mono (p1.trans pp) (k1.trans (k2.trans k3))) _
    refine hup (F1 ++ [D]) H3 d x _ _ _ v3 re3 r3 hu fun t4 re4 hl4 ht4 => ⟨?_, fun Y hY => ?_⟩
    · exact wipe_idem (by rw [hl4, wipe_length]) ht4
    · have YK : Y.K = X.K := by obtain ⟨_, _, _, _, _, rfl⟩ := hY; rfl
      have bd := body Y hY
      refine wTs_of bd re4 rs3 fun F5 b H5 S5 p5 k5 rs5 h5 => ?_
      have l2 : (F1 ++ [D]).length = S1.length + 1 := by simp [l1]
      cases b with
      | true =>
        refine iteT fun Z hZ => ?_
        refine h5.1 rfl Z hZ F5 t4 H5 _ (re4.mono p5 k5) rs5 fun F6 y vy H6 S6 p6 k6 rs6 r6 h6 => ?_
        obtain ⟨y2, S7, cv, hsz, S8, rfl, i8⟩ := h6
        obtain ⟨F7, p7, r7, rs7⟩ := cv F6 H6 vy r6 rs6
        rw [← pre_of_take l2 (p5.trans p6)] at p7
        have hS8 := (iok (i + 1) (acc ++ [y2]) S8 (by omega) i8).1
        have hF7 : F7 = F1 ++ [D] := (pre_len p7 (by rw [rs7.len]; simp [l1, hS8])).symm
        subst hF7
        obtain ⟨a, u, e1, e2, vs, e3, e4⟩ := rs7.get (l := S1.length) (o := .lst acc) (by rw [← hS8]; simp)
        have ea : a = D := by
          rw [← l1] at e1
          simpa using e1.symm
        subst ea
        subst e3
        have kk : Keep H6 (upd H6 a (.lst (vs ++ [vy]))) := Keep.upd e2 trivial
        refine ⟨vs, e2, by rw [e4.length]; exact hsz, acc ++ [y2], S8, ((((k2.trans k3).trans k5).trans k6).trans kk), ?_, i8⟩
        have w := rs7.set (o := .lst (acc ++ [y2])) (u := .lst (vs ++ [vy])) e1 e2 trivial ⟨_, rfl, e4.append ⟨vy, [], rfl, r7, rfl⟩⟩
        have es : (S8 ++ [Ob.lst acc]).set S1.length (.lst (acc ++ [y2])) = S8 ++ [.lst (acc ++ [y2])] := by
          rw [← hS8, List.set_append_right _ _ (Nat.le_refl _)]
          simp
        rw [es] at w
        exact w
      | false =>
        refine iteF ?_
        obtain ⟨S5', cv, S6, rfl, i6⟩ := h5.2 rfl
        obtain ⟨F6, p6, rs6⟩ := cv F5 H5 rs5
        rw [← pre_of_take l2 p5] at p6
        have hS6 := (iok (i + 1) acc S6 (by omega) i6).1
        have hF6 : F6 = F1 ++ [D] := (pre_len p6 (by rw [rs6.len]; simp [l1, hS6])).symm
        subst hF6
        exact ⟨acc, S6, (k2.trans k3).trans k5, rs6, i6⟩
  · have e : i = c.items.length := by omega
    subst e
    refine .inl ⟨stops, k (F1 ++ [D]) (.loc S1.length) (.ref D) H2 _ (p1.trans pp) (k1.trans k2) rs2 ⟨D, rfl, by rw [← l1]; simp⟩ (done acc S2 i2)⟩
/-- the new list from the turns; an element's value may bear no new place -/
def LcTurns (X : Cx) (scope : Scope) (ifs : List Expr) (elt : Expr) (up : D → Fv → Option Fv) (vs : List Nat) (v : Fv) (n : Nat) (c : Src) (S1 : Store) (Q : D → Store → Prop) : Prop := ∃ I : Nat → List D → Store → Prop, I 0 [] S1 ∧
      (∀ i acc S2, i ≤ c.items.length → I i acc S2 → S2.length = S1.length ∧ c.ok (S2 ++ [.lst acc])) ∧
      (∀ i d acc S2, c.items[i]? = some d → I i acc S2 → ∃ v3, up d (wipeD v vs) = some v3 ∧ ∀ Y, BlkOf X scope Y → WTs Y ifs v3 (S2 ++ [.lst acc]) fun b S3 =>
        (b = true → ∀ Z, BlkOf X scope Z → WE Z elt v3 S3 fun y S4 => WkD (S1.length + 1) y S4 fun y2 S5 => acc.length < sizeLine ∧ ∃ S6, S5 = S6 ++ [.lst acc] ∧ I (i + 1) (acc ++ [y2]) S6) ∧
        (b = false → ∃ S5, CovS (S1.length + 1) S3 S5 ∧ ∃ S6, S5 = S6 ++ [.lst acc] ∧ I (i + 1) acc S6)) ∧
      (∀ acc S2, I c.items.length acc S2 → Q (.loc S1.length) (S2 ++ [.lst acc]))
def upN (i : Nat) (d : D) (v : Fv) : Option Fv := some (v.set i (some d))
def setsD (v : Fv) : List Nat → List D → Fv
  | i :: is, d :: ds => setsD (v.set i (some d)) is ds
  | _, _ => v
def upT (is : List Nat) (d : D) (v : Fv) : Option Fv := match d with
  | .tup ds => if ds.length = is.length then some (setsD v is ds) else none
  | _ => none
theorem upN_ok {i : Nat} {is : List Nat} (hi : i ∈ is) : ∀ F H d x v t Qt v3, RE F H v t → RD F H d x → upN i d v = some v3 → (∀ t3, RE F H v3 t3 → t3.length = t.length → (∀ j, j ∉ is → t3[j]? = t[j]?) → Qt t3 H) → gName i x t H Qt := by
  intro F H d x v t Qt v3 re r hu k
  cases hu
  exact k _ (re.set r) (by simp) fun j hj => by rw [List.getElem?_set_ne (by intro z; subst z; exact hj hi)]
def gNs : List Nat → TGs
  | [] => gNil
  | i :: is => gCons (gName i) (gNs is)
theorem gNs_ok {F : List Addr} {H : Hp} {ks : List Nat} : ∀ {is : List Nat} {ds : List D} {xs : List V} {v : Fv} {t : L2.St} {Qt : L2.St → Hp → Prop}, (∀ i ∈ is, i ∈ ks) → RE F H v t → RDs F H ds xs → ds.length = is.length →
    (∀ t3, RE F H (setsD v is ds) t3 → t3.length = t.length → (∀ j, j ∉ ks → t3[j]? = t[j]?) → Qt t3 H) → gNs is xs t H Qt
  | [], ds, xs, v, t, Qt, hk, re, r, hl, k => by
    have : ds = [] := by simpa using hl
    subst this
    cases (show xs = [] from r)
    exact ⟨rfl, k t re rfl fun _ _ => rfl⟩
  | i :: is, d :: ds, xs, v, t, Qt, hk, re, ⟨x, r, e, r1, r2⟩, hl, k => by
    subst e
    refine ⟨x, r, rfl, ?_⟩
    refine gNs_ok (ks := ks) (v := v.set i (some d)) (fun j hj => hk j (List.mem_cons_of_mem _ hj)) (re.set r1) r2 (by simpa using hl) fun t3 re3 hl3 h3 => k t3 re3 (by rw [hl3]; simp) fun j hj => ?_
    rw [h3 j hj, List.getElem?_set_ne (by intro z; subst z; exact hj (hk _ List.mem_cons_self))]
theorem upT_ok {K : PySem.W.Frag} {is ks : List Nat} (hi : ∀ i ∈ is, i ∈ ks) : ∀ F H d x v t Qt v3, RE F H v t → RD F H d x → upT is d v = some v3 → (∀ t3, RE F H v3 t3 → t3.length = t.length → (∀ j, j ∉ ks → t3[j]? = t[j]?) → Qt t3 H) → gTup K is.length (gNs is) x t H Qt := by
  intro F H d x v t Qt v3 re r hu k
  cases d with
  | tup ds =>
    unfold upT at hu
    by_cases hl : ds.length = is.length
    · simp only [hl, if_true] at hu
      cases hu
      obtain ⟨a, vs, rfl, sq, r⟩ := r
      exact ⟨a, vs, rfl, SqT.of sq, by rw [r.length, hl], gNs_ok hi re r hl k⟩
    · simp only [hl, if_false] at hu
      cases hu
  | _ => cases hu
theorem pgs_names {Y : Cx} (hN : Y.N.Nodup) : ∀ {es : List Expr} {is : List Nat}, (∀ (j : Nat) (e : Expr) (i : Nat), es[j]? = some e → is[j]? = some i → ∃ x p, e = Expr.Name x p ∧ Y.N[i]? = some x ∧ Loc Y.env.scope x ∧ (Y.fn x = true ∨ Y.env.scope.names.lookup x = some .local)) → es.length = is.length → PGs Y es (gNs is)
  | [], [], _, _ => pgs_nil
  | e :: es, i :: is, h, hl => by
    obtain ⟨x, p, rfl, h1, h2, h3⟩ := h 0 e i rfl rfl
    exact pgs_cons (pg_name hN h1 h2 h3) (pgs_names hN (fun j e i h4 h5 => h (j + 1) e i (by simpa using h4) (by simpa using h5)) (by simpa using hl)) rfl
/-- [elt for x in it ..], x in slot i -/
theorem WE.lcN (i : Nat) (own : List (Str × Nat)) {x : Str} {px : Pos} (h : WI X (.Name x px) it v S fun c S1 => LcTurns X scope ifs elt (upN i) (own.map (·.2)) v S.length c S1 Q) (hi : i ∈ own.map (·.2)) (hc : X.calm = true) (hN : X.N.Nodup) (ok : BlkOk X.N X.env.scope scope own)
    (hg : ∀ Y, BlkOf X scope Y → PG Y (.Name x px) (gName i)) (hs : ∀ x, foldedSetIterable it X.env x = pure x := by intro _; rfl) : WE X (.ListComp elt [⟨.Name x px, it, ifs, 0⟩] scope pos) v S Q := fun F t H Q' re rs k => by
  refine wE_of (pe_lc hc hN pi_w ok (fun s H C cl fp => hg _ ⟨s, H, C, cl, fp, rfl⟩) (tt := fun t H Q => ∀ Y, BlkOf X scope Y → wTs Y ifs t H Q) (fun s H C cl fp => ?_) (te := fun t H Q => ∀ Y, BlkOf X scope Y → wE Y elt t H Q) (fun s H C cl fp => ?_) hs) ?_
  · exact ⟨fun pins s2 t H2 Q I h => pts_w.run pins s2 t H2 Q I (h _ ⟨s, H, C, cl, fp, rfl⟩)⟩
  · exact ⟨fun pins s2 t H2 Q I h => pe_w.run pins s2 t H2 Q I (h _ ⟨s, H, C, cl, fp, rfl⟩)⟩
  · exact lc_core2 (up := upN i) h (upN_ok hi) re rs k
/-- y = [elt for x in it ..] -/
theorem WS.setLcN {n : Nat} {E : Ed} (i : Nat) (own : List (Str × Nat)) (j : Nat) {x y : Str} {px py spos : Pos} (h : WI X (.Name x px) it v S fun c S1 => LcTurns X scope ifs elt (upN i) (own.map (·.2)) v S.length c S1 fun d S2 => E.nx (v.set j (some d)) S2) (hi : i ∈ own.map (·.2)) (hc : X.calm = true) (hN : X.N.Nodup)
    (hy : X.N[j]? = some y) (hyl : X.env.scope.names.lookup y = some .local) (hsw : swapsWith (.ListComp elt [⟨.Name x px, it, ifs, 0⟩] scope pos) (some (.Name y py)) spos.line X.env = pure true) (ok : BlkOk X.N X.env.scope scope own)
    (hg : ∀ Y, BlkOf X scope Y → PG Y (.Name x px) (gName i)) (hs : ∀ x, foldedSetIterable it X.env x = pure x := by intro _; rfl) : WS X n (.Assign [.Name y py] (.ListComp elt [⟨.Name x px, it, ifs, 0⟩] scope pos) spos) v S E := fun F0 H0 F t H E' hl p k re rs q => by
  refine wS_of (ps_setLc hc hN hy hyl hsw pi_w ok (fun s H C cl fp => hg _ ⟨s, H, C, cl, fp, rfl⟩) (tt := fun t H Q => ∀ Y, BlkOf X scope Y → wTs Y ifs t H Q) (fun s H C cl fp => ?_) (te := fun t H Q => ∀ Y, BlkOf X scope Y → wE Y elt t H Q) (fun s H C cl fp => ?_) hs) ?_
  · exact ⟨fun pins s2 t H2 Q I h => pts_w.run pins s2 t H2 Q I (h _ ⟨s, H, C, cl, fp, rfl⟩)⟩
  · exact ⟨fun pins s2 t H2 Q I h => pe_w.run pins s2 t H2 Q I (h _ ⟨s, H, C, cl, fp, rfl⟩)⟩
  · exact lc_core2 (up := upN i) h (upN_ok hi) re rs fun F1 d u H1 S1 p1 k1 rs1 r1 h1 => q.nx F1 _ _ H1 S1 (p.trans p1) (k.trans k1) ((re.mono p1 k1).set r1) rs1 h1
/-- [elt for a, b, .. in it ..], the names in slots is -/
theorem WE.lcT (is : List Nat) (own : List (Str × Nat)) {es : List Expr} {kk : Nat} {px : Pos} (h : WI X (.Tuple es kk px) it v S fun c S1 => LcTurns X scope ifs elt (upT is) (own.map (·.2)) v S.length c S1 Q) (hi : ∀ i ∈ is, i ∈ own.map (·.2)) (hc : X.calm = true) (hN : X.N.Nodup) (ok : BlkOk X.N X.env.scope scope own)
    (hg : ∀ Y, BlkOf X scope Y → PG Y (.Tuple es kk px) (gTup Y.K is.length (gNs is))) (hs : ∀ x, foldedSetIterable it X.env x = pure x := by intro _; rfl) : WE X (.ListComp elt [⟨.Tuple es kk px, it, ifs, 0⟩] scope pos) v S Q := fun F t H Q' re rs k => by
  refine wE_of (pe_lc hc hN pi_w ok (g := gTup X.K is.length (gNs is)) (fun s H C cl fp => hg _ ⟨s, H, C, cl, fp, rfl⟩) (tt := fun t H Q => ∀ Y, BlkOf X scope Y → wTs Y ifs t H Q) (fun s H C cl fp => ?_) (te := fun t H Q => ∀ Y, BlkOf X scope Y → wE Y elt t H Q) (fun s H C cl fp => ?_) hs) ?_
  · exact ⟨fun pins s2 t H2 Q I h => pts_w.run pins s2 t H2 Q I (h _ ⟨s, H, C, cl, fp, rfl⟩)⟩
  · exact ⟨fun pins s2 t H2 Q I h => pe_w.run pins s2 t H2 Q I (h _ ⟨s, H, C, cl, fp, rfl⟩)⟩
  · exact lc_core2 (up := upT is) (g := gTup X.K is.length (gNs is)) h (upT_ok (K := X.K) hi) re rs k
theorem WS.setLcT {n : Nat} {E : Ed} (is : List Nat) (own : List (Str × Nat)) (j : Nat) {es : List Expr} {kk : Nat} {y : Str} {px py spos : Pos} (h : WI X (.Tuple es kk px) it v S fun c S1 => LcTurns X scope ifs elt (upT is) (own.map (·.2)) v S.length c S1 fun d S2 => E.nx (v.set j (some d)) S2) (hi : ∀ i ∈ is, i ∈ own.map (·.2)) (hc : X.calm = true) (hN : X.N.Nodup)
    (hy : X.N[j]? = some y) (hyl : X.env.scope.names.lookup y = some .local) (hsw : swapsWith (.ListComp elt [⟨.Tuple es kk px, it, ifs, 0⟩] scope pos) (some (.Name y py)) spos.line X.env = pure true) (ok : BlkOk X.N X.env.scope scope own)
    (hg : ∀ Y, BlkOf X scope Y → PG Y (.Tuple es kk px) (gTup Y.K is.length (gNs is))) (hs : ∀ x, foldedSetIterable it X.env x = pure x := by intro _; rfl) : WS X n (.Assign [.Name y py] (.ListComp elt [⟨.Tuple es kk px, it, ifs, 0⟩] scope pos) spos) v S E := fun F0 H0 F t H E' hl p k re rs q => by
  refine wS_of (ps_setLc hc hN hy hyl hsw pi_w ok (g := gTup X.K is.length (gNs is)) (fun s H C cl fp => hg _ ⟨s, H, C, cl, fp, rfl⟩) (tt := fun t H Q => ∀ Y, BlkOf X scope Y → wTs Y ifs t H Q) (fun s H C cl fp => ?_) (te := fun t H Q => ∀ Y, BlkOf X scope Y → wE Y elt t H Q) (fun s H C cl fp => ?_) hs) ?_
  · exact ⟨fun pins s2 t H2 Q I h => pts_w.run pins s2 t H2 Q I (h _ ⟨s, H, C, cl, fp, rfl⟩)⟩
  · exact ⟨fun pins s2 t H2 Q I h => pe_w.run pins s2 t H2 Q I (h _ ⟨s, H, C, cl, fp, rfl⟩)⟩
  · exact lc_core2 (up := upT is) (g := gTup X.K is.length (gNs is)) h (upT_ok (K := X.K) hi) re rs fun F1 d u H1 S1 p1 k1 rs1 r1 h1 => q.nx F1 _ _ H1 S1 (p.trans p1) (k.trans k1) ((re.mono p1 k1).set r1) rs1 h1
end
end DM

namespace DM
open PySem PySem.Spec PyProof.Rows L2
/-! ### operations by values -/
section ops
variable {X : Cx} {S : Store} {Q : D → Store → Prop}
theorem Post.now {F : List Addr} {H : Hp} {Q' : VK} {d : D} {u : V} (k : Post F H Q Q') (rs : RS F H S) (r : RD F H d u) (h : Q d S) : Q' u H := k F d u H S (List.prefix_refl F) (Keep.refl H) rs r h
theorem Post.nowI {F : List Addr} {H : Hp} {Q' : VK} {i : Int} (k : Post F H Q Q') (rs : RS F H S) (h : Q (.int i) S) : Q' (.int i) H := k F (.int i) (.int i) H S (List.prefix_refl F) (Keep.refl H) rs rfl h
theorem Post.nowB {F : List Addr} {H : Hp} {Q' : VK} {b : Bool} (k : Post F H Q Q') (rs : RS F H S) (h : Q (.bl b) S) : Q' (.bl b) H := k F (.bl b) (.bl b) H S (List.prefix_refl F) (Keep.refl H) rs rfl h
theorem Post.nowB' {F : List Addr} {H : Hp} {Q' : VK} {b c : Bool} (e : c = b) (k : Post F H Q Q') (rs : RS F H S) (h : Q (.bl b) S) : Q' (.bl c) H := by subst e; exact k.nowB rs h
theorem BW.of {f : Value → Value → Sem Value} {r : R2} {x y : D} (p : OpR X f r) (h : ∀ F H vx vy Q', RS F H S → RD F H x vx → RD F H y vy → Post F H Q Q' → r vx vy H Q') : BW X f x y S Q := fun F H vx vy Q' rs rx ry k => wB_of p (h F H vx vy Q' rs rx ry k)
theorem UW.of {f : Value → Sem Value} {r : V → Hp → VK → Prop} {x : D} (p : UnR X f r) (h : ∀ F H vx Q', RS F H S → RD F H x vx → Post F H Q Q' → r vx H Q') : UW X f x S Q := fun F H vx Q' rs rx k => wU_of p (h F H vx Q' rs rx k)
theorem IW.of {r : R2} {x y : D} (p : IxR X r) (h : ∀ F H vx vy Q', RS F H S → RD F H x vx → RD F H y vy → Post F H Q Q' → r vx vy H Q') : IW X x y S Q := fun F H vx vy Q' rs rx ry k => wIx_of p (h F H vx vy Q' rs rx ry k)
theorem CW.of {f : Value} {r : List V → Hp → VK → Prop} {ds : List D} (p : CallR X f r) (h : ∀ F H vs Q', RS F H S → RDs F H ds vs → Post F H Q Q' → r vs H Q') : CW X f ds S Q := fun F H vs Q' rs r k => wC_of p (h F H vs Q' rs r k)
theorem MW.of {id : String} {r : V → List V → Hp → VK → Prop} {x : D} {ds : List D} (p : MtM X id r) (h : ∀ F H vx vs Q', RS F H S → RD F H x vx → RDs F H ds vs → Post F H Q Q' → r vx vs H Q') : MW X id x ds S Q := fun F H vx vs Q' rs rx r k => wM_of p (h F H vx vs Q' rs rx r k)
theorem MW.ofR {id : String} {r : V → List V → Hp → VK → Prop} {x : D} {ds : List D} (p : MtR X id r) (h : ∀ F H vx vs Q', RS F H S → RD F H x vx → RDs F H ds vs → Post F H Q Q' → r vx vs H Q') : MW X id x ds S Q := fun F H vx vs Q' rs rx r k => wM_ofR p (h F H vx vs Q' rs rx r k)
variable {i j : Int}
theorem BW.add (h : Q (.int (i + j)) S) : BW X (binaryOp .Add) (.int i) (.int j) S Q := BW.of op_add fun F H vx vy Q' rs rx ry k => ⟨i, j, rx, ry, k.nowI rs h⟩
theorem BW.sub (h : Q (.int (i - j)) S) : BW X (binaryOp .Sub) (.int i) (.int j) S Q := BW.of op_sub fun F H vx vy Q' rs rx ry k => ⟨i, j, rx, ry, k.nowI rs h⟩
/-- one factor below 2^64 in size -/
theorem BW.mul (hc : CMul i j) (h : Q (.int (i * j)) S) : BW X (binaryOp .Mult) (.int i) (.int j) S Q := BW.of op_mul fun F H vx vy Q' rs rx ry k => ⟨i, j, rx, ry, hc, k.nowI rs h⟩
theorem BW.mod (hc : 0 < j) (h : Q (.int (i % j)) S) : BW X (binaryOp .Mod) (.int i) (.int j) S Q := BW.of op_mod fun F H vx vy Q' rs rx ry k => ⟨i, j, rx, ry, hc, k.nowI rs h⟩
theorem BW.fdiv (hc : CDiv i j) (h : Q (.int (i / j)) S) : BW X (binaryOp .FloorDiv) (.int i) (.int j) S Q := BW.of op_fdiv fun F H vx vy Q' rs rx ry k => ⟨i, j, rx, ry, hc, k.nowI rs h⟩
theorem BW.pow (hc : CPow i j) (h : Q (.int (i ^ j.toNat)) S) : BW X (binaryOp .Pow) (.int i) (.int j) S Q := BW.of op_pow fun F H vx vy Q' rs rx ry k => ⟨i, j, rx, ry, hc, k.nowI rs h⟩
theorem UW.neg (h : Q (.int (-i)) S) : UW X (unaryOp .USub) (.int i) S Q := UW.of un_neg fun F H vx Q' rs rx k => ⟨i, rx, k.nowI rs h⟩
theorem BW.lt (h : Q (.bl (decide (i < j))) S) : BW X (compareOp .Lt) (.int i) (.int j) S Q := BW.of op_lt fun F H vx vy Q' rs rx ry k => ⟨i, j, rx, ry, k.nowB rs h⟩
theorem BW.le (h : Q (.bl (decide (i ≤ j))) S) : BW X (compareOp .LtE) (.int i) (.int j) S Q := BW.of op_le fun F H vx vy Q' rs rx ry k => ⟨i, j, rx, ry, k.nowB rs h⟩
theorem BW.gt (h : Q (.bl (decide (j < i))) S) : BW X (compareOp .Gt) (.int i) (.int j) S Q := BW.of op_gt fun F H vx vy Q' rs rx ry k => ⟨i, j, rx, ry, k.nowB rs h⟩
theorem BW.ge (h : Q (.bl (decide (j ≤ i))) S) : BW X (compareOp .GtE) (.int i) (.int j) S Q := BW.of op_ge fun F H vx vy Q' rs rx ry k => ⟨i, j, rx, ry, k.nowB rs h⟩
theorem BW.eqI (h : Q (.bl (decide (i = j))) S) : BW X (compareOp .Eq) (.int i) (.int j) S Q := BW.of op_eq fun F H vx vy Q' rs rx ry k => by
  cases rx; cases ry
  exact ⟨rfl, k.nowB' (by simp) rs h⟩
theorem BW.neI (h : Q (.bl (!decide (i = j))) S) : BW X (compareOp .NotEq) (.int i) (.int j) S Q := BW.of op_ne fun F H vx vy Q' rs rx ry k => by
  cases rx; cases ry
  exact ⟨rfl, k.nowB' (by simp) rs h⟩
theorem BW.eqB {i j : Bool} (h : Q (.bl (decide (i = j))) S) : BW X (compareOp .Eq) (.bl i) (.bl j) S Q := BW.of op_eq fun F H vx vy Q' rs rx ry k => by
  cases rx; cases ry
  exact ⟨rfl, k.nowB' (by simp) rs h⟩
theorem BW.neB {i j : Bool} (h : Q (.bl (!decide (i = j))) S) : BW X (compareOp .NotEq) (.bl i) (.bl j) S Q := BW.of op_ne fun F H vx vy Q' rs rx ry k => by
  cases rx; cases ry
  exact ⟨rfl, k.nowB' (by simp) rs h⟩
theorem BW.eqS {i j : Str} (h : Q (.bl (decide (i = j))) S) : BW X (compareOp .Eq) (.str i) (.str j) S Q := BW.of op_eq fun F H vx vy Q' rs rx ry k => by
  cases rx; cases ry
  exact ⟨rfl, k.nowB' (by simp) rs h⟩
theorem BW.neS {i j : Str} (h : Q (.bl (!decide (i = j))) S) : BW X (compareOp .NotEq) (.str i) (.str j) S Q := BW.of op_ne fun F H vx vy Q' rs rx ry k => by
  cases rx; cases ry
  exact ⟨rfl, k.nowB' (by simp) rs h⟩
/-- None or an int, against the same -/
def D.ofO : Option Int → D
  | none => .non
  | some i => .int i
theorem BW.eqO {i j : Option Int} (h : Q (.bl (decide (i = j))) S) : BW X (compareOp .Eq) (D.ofO i) (D.ofO j) S Q := BW.of op_eq fun F H vx vy Q' rs rx ry k => by
  cases i with
  | none => cases j with
    | none => cases (show vx = .non from rx); cases (show vy = .non from ry); exact ⟨rfl, k.nowB' (by simp) rs h⟩
    | some j => cases (show vx = .non from rx); cases (show vy = .int j from ry); exact ⟨rfl, k.nowB' (by simp) rs h⟩
  | some i => cases j with
    | none => cases (show vx = .int i from rx); cases (show vy = .non from ry); exact ⟨rfl, k.nowB' (by simp) rs h⟩
    | some j => cases (show vx = .int i from rx); cases (show vy = .int j from ry); exact ⟨rfl, k.nowB' (by simp) rs h⟩
theorem BW.neO {i j : Option Int} (h : Q (.bl (!decide (i = j))) S) : BW X (compareOp .NotEq) (D.ofO i) (D.ofO j) S Q := BW.of op_ne fun F H vx vy Q' rs rx ry k => by
  cases i with
  | none => cases j with
    | none => cases (show vx = .non from rx); cases (show vy = .non from ry); exact ⟨rfl, k.nowB' (by simp) rs h⟩
    | some j => cases (show vx = .non from rx); cases (show vy = .int j from ry); exact ⟨rfl, k.nowB' (by simp) rs h⟩
  | some i => cases j with
    | none => cases (show vx = .int i from rx); cases (show vy = .non from ry); exact ⟨rfl, k.nowB' (by simp) rs h⟩
    | some j => cases (show vx = .int i from rx); cases (show vy = .int j from ry); exact ⟨rfl, k.nowB' (by simp) rs h⟩
/-- is None -/
theorem BW.isN {x : D} (b : Bool) (hb : (match x with | .non => true | _ => false) = b) (h : Q (.bl b) S) : BW X (compareOp .Is) x .non S Q := BW.of op_isN fun F H vx vy Q' rs rx ry k => by
  refine ⟨ry, k.now rs (d := .bl b) ?_ h⟩
  subst hb
  cases x with
  | non => cases (show vx = .non from rx); rfl
  | tup xs => obtain ⟨a, vs, rfl, _⟩ := rx; rfl
  | loc l => obtain ⟨a, rfl, _⟩ := rx; rfl
  | bl b => cases (show vx = .bl b from rx); rfl
  | int b => cases (show vx = .int b from rx); rfl
  | str b => cases (show vx = .str b from rx); rfl
  | ty b => cases (show vx = .ty b from rx); rfl
  | ref b => cases (show vx = .ref b from rx); rfl
  | scr g =>
    cases g with
    | ns l => obtain ⟨a, o, rfl, _⟩ := rx; rfl
    | nsT l P => obtain ⟨⟨a, o, rfl, _⟩, _⟩ := rx; rfl
    | refT a P => obtain ⟨rfl, _⟩ := rx; rfl
    | exc a dx nm i => obtain ⟨rfl, _⟩ := rx; rfl
theorem BW.notN {x : D} (b : Bool) (hb : (match x with | .non => false | _ => true) = b) (h : Q (.bl b) S) : BW X (compareOp .IsNot) x .non S Q := BW.of op_notN fun F H vx vy Q' rs rx ry k => by
  refine ⟨ry, k.now rs (d := .bl b) ?_ h⟩
  subst hb
  cases x with
  | non => cases (show vx = .non from rx); rfl
  | tup xs => obtain ⟨a, vs, rfl, _⟩ := rx; rfl
  | loc l => obtain ⟨a, rfl, _⟩ := rx; rfl
  | bl b => cases (show vx = .bl b from rx); rfl
  | int b => cases (show vx = .int b from rx); rfl
  | str b => cases (show vx = .str b from rx); rfl
  | ty b => cases (show vx = .ty b from rx); rfl
  | ref b => cases (show vx = .ref b from rx); rfl
  | scr g =>
    cases g with
    | ns l => obtain ⟨a, o, rfl, _⟩ := rx; rfl
    | nsT l P => obtain ⟨⟨a, o, rfl, _⟩, _⟩ := rx; rfl
    | refT a P => obtain ⟨rfl, _⟩ := rx; rfl
    | exc a dx nm i => obtain ⟨rfl, _⟩ := rx; rfl

/-! ### == of data -/
mutual
inductive PD (S : Store) : D → PyData → Prop
  | non : PD S .non .none
  | bl (b : Bool) : PD S (.bl b) (.bool b)
  | int (i : Int) : PD S (.int i) (.int i)
  | str (x : Str) : PD S (.str x) (.str x)
  | tup {xs : List D} {ps : List PyData} : PDs S xs ps → PD S (.tup xs) (.tuple ps)
  | lst {l : Nat} {xs : List D} {ps : List PyData} : S[l]? = some (.lst xs) → PDs S xs ps → PD S (.loc l) (.list ps)
inductive PDs (S : Store) : List D → List PyData → Prop
  | nil : PDs S [] []
  | cons {x : D} {xs : List D} {p : PyData} {ps : List PyData} : PD S x p → PDs S xs ps → PDs S (x :: xs) (p :: ps)
end
section
variable {K : PySem.W.Frag} {F : List Addr} {H : Hp}
mutual
theorem PD.dp (rs : RS F H S) : ∀ (p : PyData) (d : D) (v : V), PD S d p → RD F H d v → Dp K H v p
  | .none, d, v, h, r => by cases h; cases (show v = .non from r); exact .non
  | .bool b, d, v, h, r => by cases h; cases (show v = .bl b from r); exact .bl b
  | .int i, d, v, h, r => by cases h; cases (show v = .int i from r); exact .int i
  | .str x, d, v, h, r => by cases h; cases (show v = .str x from r); exact .str x
  | .tuple ps, d, v, h, r => by
    cases h with
    | tup h =>
      obtain ⟨a, vs, rfl, e, r⟩ := r
      exact .tup (SqT.of e) (PDs.dp rs ps _ _ h r)
  | .list ps, d, v, h, r => by
    cases h with
    | lst hl h =>
      obtain ⟨a, rfl, ha⟩ := r
      obtain ⟨a', h', e1, e2, vs, e3, e4⟩ := rs.get hl
      rw [e1] at ha; cases ha
      subst e3
      exact .lst (SqL.of e2) (PDs.dp rs ps _ _ h e4)
  | .dict kvs, d, v, h, r => by cases h
theorem PDs.dp (rs : RS F H S) : ∀ (ps : List PyData) (ds : List D) (vs : List V), PDs S ds ps → RDs F H ds vs → DpAll K H vs ps
  | [], ds, vs, h, r => by cases h; cases (show vs = [] from r); exact .nil
  | p :: ps, ds, vs, h, r => by
    cases h with
    | cons h1 h2 =>
      obtain ⟨v, r', rfl, r1, r2⟩ := r
      exact .cons (PD.dp rs p _ v h1 r1) (PDs.dp rs ps _ r' h2 r2)
end
end
theorem BW.eqD {x y : D} {p q : PyData} (hx : PD S x p) (hy : PD S y q) (sp : SeqAt.shaped p = true) (sq : SeqAt.shaped q = true) (hu : X.A.units + 64 < cLine) (h : Q (.bl (PyData.eqv p q)) S) : BW X (compareOp .Eq) x y S Q := BW.of (op_eqD hu) fun F H vx vy Q' rs rx ry k =>
  ⟨p, q, PD.dp rs p x vx hx rx, PD.dp rs q y vy hy ry, sp, sq, k.nowB rs h⟩
theorem BW.neD {x y : D} {p q : PyData} (hx : PD S x p) (hy : PD S y q) (sp : SeqAt.shaped p = true) (sq : SeqAt.shaped q = true) (hu : X.A.units + 64 < cLine) (h : Q (.bl (!PyData.eqv p q)) S) : BW X (compareOp .NotEq) x y S Q := BW.of (op_neD hu) fun F H vx vy Q' rs rx ry k =>
  ⟨p, q, PD.dp rs p x vx hx rx, PD.dp rs q y vy hy ry, sp, sq, k.nowB rs h⟩

/-! ### subscripts, len, list, tuple -/
theorem IW.list {l : Nat} {xs : List D} {d : D} (hl : S[l]? = some (.lst xs)) (ha : atI xs i = some d) (h : Q d S) : IW X (.loc l) (.int i) S Q := IW.of ix_list fun F H vx vy Q' rs rx ry k => by
  obtain ⟨a, rfl, ha'⟩ := rx
  obtain ⟨a', h', e1, e2, vs, e3, e4⟩ := rs.get hl
  rw [e1] at ha'; cases ha'
  subst e3
  obtain ⟨n, hn, hd⟩ : ∃ n, ixN xs.length i = some n ∧ xs[n]? = some d := by
    unfold atI at ha
    cases e : ixN xs.length i with
    | none => rw [e] at ha; cases ha
    | some n => rw [e] at ha; exact ⟨n, rfl, ha⟩
  obtain ⟨v, hv, r⟩ := e4.get hd
  exact ⟨a, vs, i, v, rfl, ry, SqL.of e2, by unfold atI; rw [e4.length, hn]; exact hv, k.now rs r h⟩
theorem IW.tup {xs : List D} {d : D} (ha : atI xs i = some d) (h : Q d S) : IW X (.tup xs) (.int i) S Q := IW.of ix_tup fun F H vx vy Q' rs rx ry k => by
  obtain ⟨a, vs, rfl, e2, e4⟩ := rx
  obtain ⟨n, hn, hd⟩ : ∃ n, ixN xs.length i = some n ∧ xs[n]? = some d := by
    unfold atI at ha
    cases e : ixN xs.length i with
    | none => rw [e] at ha; cases ha
    | some n => rw [e] at ha; exact ⟨n, rfl, ha⟩
  obtain ⟨v, hv, r⟩ := e4.get hd
  exact ⟨a, vs, i, v, rfl, ry, SqT.of e2, by unfold atI; rw [e4.length, hn]; exact hv, k.now rs r h⟩
theorem CW.lenL {l : Nat} {xs : List D} (hl : S[l]? = some (.lst xs)) (h : Q (.int xs.length) S) : CW X (.builtin "len") [.loc l] S Q := CW.of call_len_seq fun F H vs Q' rs r k => by
  obtain ⟨v, r', rfl, ⟨a, rfl, ha⟩, e⟩ := r
  cases (show r' = [] from e)
  obtain ⟨a', h', e1, e2, vs, e3, e4⟩ := rs.get hl
  rw [e1] at ha; cases ha
  subst e3
  exact ⟨a, vs, rfl, .inl (SqL.of e2), (by rw [e4.length]; exact k.nowI rs h)⟩
theorem CW.lenT {xs : List D} (h : Q (.int xs.length) S) : CW X (.builtin "len") [.tup xs] S Q := CW.of call_len_seq fun F H vs Q' rs r k => by
  obtain ⟨v, r', rfl, ⟨a, vs, rfl, e2, e4⟩, e⟩ := r
  cases (show r' = [] from e)
  exact ⟨a, vs, rfl, .inr (SqT.of e2), (by rw [e4.length]; exact k.nowI rs h)⟩
theorem CW.lenS {x : Str} (hz : x.length ≤ sizeLine) (h : Q (.int x.length) S) : CW X (.builtin "len") [.str x] S Q := CW.of call_len_str fun F H vs Q' rs r k => by
  obtain ⟨v, r', rfl, e1, e⟩ := r
  cases (show r' = [] from e)
  cases e1
  exact ⟨x, rfl, hz, k.nowI rs h⟩
theorem CW.max2 (hc : X.calm = true) (h : Q (.int (if j > i then j else i)) S) : CW X (.builtin "max") [.int i, .int j] S Q := CW.of (call_max2 hc) fun F H vs Q' rs r k => by
  obtain ⟨v, r', rfl, e1, v2, r2, rfl, e2, e3⟩ := r
  cases e1; cases e2; cases (show r2 = [] from e3)
  exact ⟨i, j, rfl, k.nowI rs h⟩
theorem CW.min2 (hc : X.calm = true) (h : Q (.int (if j < i then j else i)) S) : CW X (.builtin "min") [.int i, .int j] S Q := CW.of (call_min2 hc) fun F H vs Q' rs r k => by
  obtain ⟨v, r', rfl, e1, v2, r2, rfl, e2, e3⟩ := r
  cases e1; cases e2; cases (show r2 = [] from e3)
  exact ⟨i, j, rfl, k.nowI rs h⟩
theorem CW.listL {l : Nat} {xs : List D} (hl : S[l]? = some (.lst xs)) (h : Q (.loc S.length) (S ++ [.lst xs])) : CW X (.type "list") [.loc l] S Q := CW.of call_list_of fun F H vs Q' rs r k => by
  obtain ⟨v, r', rfl, ⟨a, rfl, ha⟩, e⟩ := r
  cases (show r' = [] from e)
  obtain ⟨a', h', e1, e2, vs, e3, e4⟩ := rs.get hl
  rw [e1] at ha; cases ha
  subst e3
  refine ⟨a, vs, rfl, .inl (SqL.of e2), fun p hp => ?_⟩
  exact k (F ++ [p]) (.loc S.length) (.ref p) _ _ ⟨[p], rfl⟩ (Keep.new hp) (rs.new (o := .lst xs) hp ⟨vs, rfl, e4⟩) ⟨p, rfl, by rw [← rs.len]; simp⟩ h
theorem CW.listT {xs : List D} (h : Q (.loc S.length) (S ++ [.lst xs])) : CW X (.type "list") [.tup xs] S Q := CW.of call_list_of fun F H vs Q' rs r k => by
  obtain ⟨v, r', rfl, ⟨a, vs, rfl, e2, e4⟩, e⟩ := r
  cases (show r' = [] from e)
  refine ⟨a, vs, rfl, .inr (SqT.of e2), fun p hp => ?_⟩
  exact k (F ++ [p]) (.loc S.length) (.ref p) _ _ ⟨[p], rfl⟩ (Keep.new hp) (rs.new (o := .lst xs) hp ⟨vs, rfl, e4⟩) ⟨p, rfl, by rw [← rs.len]; simp⟩ h
theorem CW.tupL {l : Nat} {xs : List D} (hl : S[l]? = some (.lst xs)) (h : Q (.tup xs) S) : CW X (.type "tuple") [.loc l] S Q := CW.of call_tuple_of fun F H vs Q' rs r k => by
  obtain ⟨v, r', rfl, ⟨a, rfl, ha⟩, e⟩ := r
  cases (show r' = [] from e)
  obtain ⟨a', h', e1, e2, vs, e3, e4⟩ := rs.get hl
  rw [e1] at ha; cases ha
  subst e3
  refine ⟨a, vs, rfl, .inl ⟨SqL.of e2, fun p hp => ?_⟩⟩
  exact k F (.tup xs) (.ref p) _ _ (List.prefix_refl F) (Keep.new hp) (rs.other hp) ⟨p, vs, rfl, upd_same, RDs.mono (List.prefix_refl F) (Keep.new hp) _ _ e4⟩ h
theorem CW.tupT {xs : List D} (h : Q (.tup xs) S) : CW X (.type "tuple") [.tup xs] S Q := CW.of call_tuple_of fun F H vs Q' rs r k => by
  obtain ⟨v, r', rfl, ⟨a, vs, rfl, e2, e4⟩, e⟩ := r
  cases (show r' = [] from e)
  exact ⟨a, vs, rfl, .inr ⟨SqT.of e2, k.now rs (d := .tup xs) ⟨a, vs, rfl, e2, e4⟩ h⟩⟩
theorem CW.intB {b : Bool} (h : Q (.int (if b then 1 else 0)) S) : CW X (.type "int") [.bl b] S Q := CW.of call_int1 fun F H vs Q' rs r k => by
  obtain ⟨v, r', rfl, e1, e⟩ := r
  cases (show r' = [] from e); cases e1
  exact .inr ⟨b, rfl, k.nowI rs h⟩
/-- max of a list of ints -/
theorem ints_rd {F : List Addr} {H : Hp} : ∀ {ns : List Int} {vs : List V}, RDs F H (ns.map D.int) vs → vs = ns.map V.int
  | [], _, h => h
  | n :: ns, _, ⟨v, r, e, h1, h2⟩ => by
    subst e
    rw [ints_rd h2]
    cases h1
    rfl
theorem CW.maxL {l : Nat} {ns : List Int} (hl : S[l]? = some (.lst (ns.map D.int))) (hp : 0 < ns.length) (hc : X.calm = true) (h : ∀ m, m ∈ ns → (∀ y, y ∈ ns → y ≤ m) → Q (.int m) S) : CW X (.builtin "max") [.loc l] S Q := CW.of (cr_max hc) fun F H vs Q' rs r k => by
  obtain ⟨v, r', rfl, ⟨a, rfl, ha⟩, e⟩ := r
  cases (show r' = [] from e)
  obtain ⟨a', h', e1, e2, vs, e3, e4⟩ := rs.get hl
  rw [e1] at ha; cases ha
  subst e3
  cases (ints_rd e4)
  exact ⟨a, ns, rfl, SqL.of e2, hp, fun m h1 h2 => k.nowI rs (h m h1 h2)⟩
theorem CW.minL {l : Nat} {ns : List Int} (hl : S[l]? = some (.lst (ns.map D.int))) (hp : 0 < ns.length) (hc : X.calm = true) (h : ∀ m, m ∈ ns → (∀ y, y ∈ ns → m ≤ y) → Q (.int m) S) : CW X (.builtin "min") [.loc l] S Q := CW.of (cr_min hc) fun F H vs Q' rs r k => by
  obtain ⟨v, r', rfl, ⟨a, rfl, ha⟩, e⟩ := r
  cases (show r' = [] from e)
  obtain ⟨a', h', e1, e2, vs, e3, e4⟩ := rs.get hl
  rw [e1] at ha; cases ha
  subst e3
  cases (ints_rd e4)
  exact ⟨a, ns, rfl, SqL.of e2, hp, fun m h1 h2 => k.nowI rs (h m h1 h2)⟩

/-! ### isinstance of built-in types -/
/-- what type a datum is of, where that is known -/
def tyName (d : D) (S : Store) : Option String := match d with
  | .non => some "NoneType"
  | .bl _ => some "bool"
  | .int _ => some "int"
  | .str _ => some "str"
  | .tup _ => some "tuple"
  | .loc l => match S[l]? with
    | some (.lst _) => some "list"
    | some (.dK _) => some "dict"
    | some (.dT _) => some "dict"
    | _ => none
  | _ => none
theorem tyx {K : PySem.W.Frag} {F : List Addr} {H : Hp} {d : D} {v : V} {n : String} (rs : RS F H S) (r : RD F H d v) (h : tyName d S = some n) : TyX K H v (.type n) := by
  cases d with
  | non => cases (show v = .non from r); cases h; exact .base .non
  | bl b => cases (show v = .bl b from r); cases h; exact .base (.bl b)
  | int b => cases (show v = .int b from r); cases h; exact .base (.int b)
  | str b => cases (show v = .str b from r); cases h; exact .base (.str b)
  | tup xs => obtain ⟨a, vs, rfl, e, _⟩ := r; cases h; exact .base (.tup e)
  | loc l =>
    obtain ⟨a, rfl, ha⟩ := r
    unfold tyName at h
    cases e : S[l]? with
    | none => simp only [e] at h; cases h
    | some o =>
      obtain ⟨a', h', e1, e2, e3⟩ := rs.get e
      rw [e1] at ha; cases ha
      cases o with
      | lst xs => simp only [e] at h; cases h; obtain ⟨vs, rfl, _⟩ := e3; exact .base (.lst e2)
      | dK xs => simp only [e] at h; cases h; obtain ⟨vs, rfl, _⟩ := e3; exact .base (.dK e2)
      | dT xs => simp only [e] at h; cases h; obtain ⟨vs, rfl, _⟩ := e3; exact .base (.dT e2)
      | ins C fs => simp only [e] at h; cases h
      | frz o u => simp only [e] at h; cases h
      | dN w kvs => simp only [e] at h; cases h
  | _ => cases h
theorem clsV_ty (n : String) : ClsV (.ty n) (.type n) := by constructor
theorem CW.isi {x : D} {n c : String} {b : Bool} (hx : tyName x S = some n) (hb : kitB n c = some b) (h : Q (.bl b) S) : CW X (.builtin "isinstance") [x, .ty c] S Q := CW.of call_isi fun F H vs Q' rs r k => by
  obtain ⟨v, r', rfl, e1, v2, r2, rfl, e2, e3⟩ := r
  cases (show r2 = [] from e3)
  cases (show v2 = .ty c from e2)
  exact ⟨v, .ty c, _, _, b, rfl, clsV_ty c, tyx rs e1 hx, kit_ty hb, k.nowB rs h⟩
theorem CW.isi2 {x : D} {n c c' : String} {b b' : Bool} (hx : tyName x S = some n) (hb : kitB n c = some b) (hb' : kitB n c' = some b') (h : Q (.bl (b || b')) S) : CW X (.builtin "isinstance") [x, .tup [.ty c, .ty c']] S Q := CW.of call_isiT fun F H vs Q' rs r k => by
  obtain ⟨v, r', rfl, e1, v2, r2, rfl, ⟨tp, cs, rfl, et, u1, _, rfl, g1, u2, _, rfl, g2, rfl⟩, e3⟩ := r
  cases (show r2 = [] from e3)
  cases (show u1 = .ty c from g1)
  cases (show u2 = .ty c' from g2)
  refine ⟨v, tp, _, _, [.type c, .type c'], b || b', rfl, et, .cons (clsV_ty c) (.cons (clsV_ty c') .nil), tyx rs e1 hx, ?_, k.nowB rs h⟩
  refine kitAny_cons (kit_ty hb) (fun e => ?_) (fun e => by simp [e])
  refine kitAny_cons (kit_ty hb') (fun e' => ?_) (fun e' => by simp [e'])
  rw [e, e']
  exact kitAny_nil

/-! ### the script -/
def KList (K : PySem.W.Frag) (a : Addr) (xs : List V) : Prop := ∃ (o : Obj) (its : Array Value) (n : Nat), K.lookup a = some o ∧ o.cls = .type "list" ∧ o.dict = none ∧ o.data = .seq its n ∧ its.size ≤ sizeLine ∧ Vals xs its.toList
/-- the script as it is handed in -/
def ScrD (K : PySem.W.Frag) (d : D) (ns : List Int) : Prop := d = .scr (.ns ns) ∨ ∃ a, d = .ref a ∧ KList K a (ns.map V.int)
theorem ScrD.sq {K : PySem.W.Frag} {F : List Addr} {H : Hp} {d : D} {v : V} {ns : List Int} (h : ScrD K d ns) (r : RD F H d v) : ∃ a, v = .ref a ∧ SqL K H a (ns.map V.int) := by
  rcases h with rfl | ⟨a, rfl, k⟩
  · obtain ⟨a, o, rfl, e⟩ := r
    exact ⟨a, rfl, .inl (.inr ⟨o, e⟩)⟩
  · exact ⟨a, r, .inr k⟩
theorem ints_of_rd {F : List Addr} {H : Hp} : ∀ (ns : List Int), RDs F H (ns.map D.int) (ns.map V.int)
  | [] => rfl
  | n :: ns => ⟨.int n, _, rfl, rfl, ints_of_rd ns⟩
theorem CW.listScr {d : D} {ns : List Int} (hs : ScrD X.K d ns) (h : Q (.loc S.length) (S ++ [.lst (ns.map D.int)])) : CW X (.type "list") [d] S Q := CW.of call_list_of fun F H vs Q' rs r k => by
  obtain ⟨v, r', rfl, r1, e⟩ := r
  cases (show r' = [] from e)
  obtain ⟨a, rfl, sq⟩ := hs.sq r1
  refine ⟨a, _, rfl, .inl sq, fun p hp => ?_⟩
  exact k (F ++ [p]) (.loc S.length) (.ref p) _ _ ⟨[p], rfl⟩ (Keep.new hp) (rs.new (o := .lst (ns.map D.int)) hp ⟨_, rfl, ints_of_rd ns⟩) ⟨p, rfl, by rw [← rs.len]; simp⟩ h
theorem WI.scr {tg e : Expr} {v : Fv} {R : Src → Store → Prop} (h : WE X e v S fun d S1 => ∃ ns, ScrD X.K d ns ∧ R ⟨ns.map D.int, fun _ => True⟩ S1) : WI X tg e v S R := fun F t H R' re rs k => by
  refine wI_of (pi_list pe_w) ?_
  refine h F t H _ re rs fun F1 d u H1 S1 p1 k1 rs1 r1 h1 => ?_
  obtain ⟨ns, hs, q⟩ := h1
  obtain ⟨a, rfl, sq⟩ := hs.sq r1
  refine ⟨a, rfl, ⟨_, sq⟩, k F1 (Itl X.K a) H1 S1 ⟨ns.map D.int, fun _ => True⟩ p1 k1 rs1 (fun F2 H2 S2 p2 k2 rs2 ok => ?_) q⟩
  obtain ⟨a', e', sq2⟩ := hs.sq (r1.mono p2 k2)
  cases e'
  refine ⟨fun i hi => ?_, _, sq2, by simp⟩
  have hi : i < ns.length := by simpa using hi
  have q1 : (ns.map V.int)[i]? = some (.int ns[i]) := by rw [List.getElem?_map, List.getElem?_eq_getElem hi]; rfl
  refine ⟨⟨_, _, sq2, q1⟩, fun y H3 hy => ?_⟩
  obtain ⟨rfl, hy⟩ := hy
  have := hy _ sq2
  rw [q1] at this; cases this
  exact ⟨Keep.refl _, rs2, .int ns[i], by show (ns.map D.int)[i]? = _; rw [List.getElem?_map, List.getElem?_eq_getElem hi]; rfl, rfl⟩
/-! ### list methods -/
theorem MW.append {l : Nat} {xs : List D} {d : D} (hl : S[l]? = some (.lst xs)) (hz : xs.length < sizeLine) (h : Q .non (S.set l (.lst (xs ++ [d])))) : MW X "list.append" (.loc l) [d] S Q := MW.of mt_append fun F H vx vs Q' rs rx r k => by
  obtain ⟨a, rfl, ha⟩ := rx
  obtain ⟨a', h', e1, e2, ws, e3, e4⟩ := rs.get hl
  rw [e1] at ha; cases ha
  subst e3
  obtain ⟨v, r', rfl, q1, q2⟩ := r
  cases (show r' = [] from q2)
  refine ⟨a, ws, v, rfl, rfl, e2, by rw [e4.length]; exact hz, ?_⟩
  exact k F .non .non _ _ (List.prefix_refl F) (Keep.upd e2 trivial) (rs.set (o := .lst (xs ++ [d])) e1 e2 trivial ⟨_, rfl, e4.append ⟨v, [], rfl, q1, rfl⟩⟩) rfl h
theorem MW.pop {l : Nat} {xs : List D} {d : D} (hl : S[l]? = some (.lst (xs ++ [d]))) (h : Q d (S.set l (.lst xs))) : MW X "list.pop" (.loc l) [] S Q := MW.of mt_pop fun F H vx vs Q' rs rx r k => by
  obtain ⟨a, rfl, ha⟩ := rx
  obtain ⟨a', h', e1, e2, ws, e3, e4⟩ := rs.get hl
  rw [e1] at ha; cases ha
  subst e3
  cases (show vs = [] from r)
  have hd : (xs ++ [d])[xs.length]? = some d := by simp
  obtain ⟨v, hv, rv⟩ := e4.get hd
  have hlen : ws.length = xs.length + 1 := by rw [e4.length]; simp
  refine ⟨a, ws, v, rfl, rfl, e2, by rw [hlen]; simpa using hv, ?_⟩
  have r2 : RDs F H xs ws.dropLast := by
    have := e4.dropLast
    rwa [List.dropLast_concat] at this
  have kk : Keep H (upd H a (.lst ws.dropLast)) := Keep.upd e2 trivial
  exact k F d v _ _ (List.prefix_refl F) kk (rs.set (o := .lst xs) e1 e2 trivial ⟨_, rfl, r2⟩) (rv.mono (List.prefix_refl F) kk) h
theorem MW.popAt {l : Nat} {xs : List D} {d : D} {n : Nat} (hl : S[l]? = some (.lst xs)) (hd : xs[n]? = some d) (hi : i = (n : Int)) (hz : n < 2 ^ 63) (h : Q d (S.set l (.lst (xs.eraseIdx n)))) : MW X "list.pop" (.loc l) [.int i] S Q := MW.of mt_popAt fun F H vx vs Q' rs rx r k => by
  obtain ⟨a, rfl, ha⟩ := rx
  obtain ⟨a', h', e1, e2, ws, e3, e4⟩ := rs.get hl
  rw [e1] at ha; cases ha
  subst e3
  obtain ⟨v0, r', rfl, q1, q2⟩ := r
  cases (show r' = [] from q2)
  cases (show v0 = .int i from q1)
  obtain ⟨v, hv, rv⟩ := e4.get hd
  have hn : n < xs.length := (List.getElem?_eq_some_iff.mp hd).1
  have hs : seqIndex? i ws.length = some n := by
    have := (ixN_seq (n := ws.length) (i := i) (j := n) (by
      unfold ixN
      rw [e4.length]
      rw [if_pos (by omega), if_pos (by omega)]
      simp [hi])).1
    exact this
  have kk : Keep H (upd H a (.lst (ws.eraseIdx n))) := Keep.upd e2 trivial
  refine ⟨a, ws, i, n, v, rfl, rfl, e2, by omega, by omega, hs, hv, ?_⟩
  exact k F d v _ _ (List.prefix_refl F) kk (rs.set (o := .lst (xs.eraseIdx n)) e1 e2 trivial ⟨_, rfl, RDs.eraseIdx n e4⟩) (rv.mono (List.prefix_refl F) kk) h
theorem MW.extend {l m : Nat} {xs ys : List D} (hl : S[l]? = some (.lst xs)) (hm : S[m]? = some (.lst ys)) (hz : xs.length + ys.length ≤ sizeLine) (h : Q .non (S.set l (.lst (xs ++ ys)))) : MW X "list.extend" (.loc l) [.loc m] S Q := MW.of mt_extend fun F H vx vs Q' rs rx r k => by
  obtain ⟨a, rfl, ha⟩ := rx
  obtain ⟨a', h', e1, e2, ws, e3, e4⟩ := rs.get hl
  rw [e1] at ha; cases ha
  subst e3
  obtain ⟨v0, r', rfl, ⟨b, rfl, hb⟩, q2⟩ := r
  cases (show r' = [] from q2)
  obtain ⟨b', h2, g1, g2, us, g3, g4⟩ := rs.get hm
  rw [g1] at hb; cases hb
  subst g3
  refine ⟨a, b, ws, us, rfl, rfl, e2, g2, by rw [e4.length, g4.length]; exact hz, ?_⟩
  exact k F .non .non _ _ (List.prefix_refl F) (Keep.upd e2 trivial) (rs.set (o := .lst (xs ++ ys)) e1 e2 trivial ⟨_, rfl, e4.append g4⟩) rfl h
/-! ### + of lists, tuples -/
theorem BW.catL {l m : Nat} {xs ys : List D} (hl : S[l]? = some (.lst xs)) (hm : S[m]? = some (.lst ys)) (hz : xs.length + ys.length ≤ sizeLine) (h : Q (.loc S.length) (S ++ [.lst (xs ++ ys)])) : BW X (binaryOp .Add) (.loc l) (.loc m) S Q := BW.of op_cat fun F H vx vy Q' rs rx ry k => by
  obtain ⟨a, rfl, ha⟩ := rx
  obtain ⟨a', h', e1, e2, ws, e3, e4⟩ := rs.get hl
  rw [e1] at ha; cases ha
  subst e3
  obtain ⟨b, rfl, hb⟩ := ry
  obtain ⟨b', h2, g1, g2, us, g3, g4⟩ := rs.get hm
  rw [g1] at hb; cases hb
  subst g3
  refine ⟨a, b, ws, us, rfl, rfl, e2, g2, by rw [e4.length, g4.length]; exact hz, fun p hp => ?_⟩
  exact k (F ++ [p]) (.loc S.length) (.ref p) _ _ ⟨[p], rfl⟩ (Keep.new hp) (rs.new (o := .lst (xs ++ ys)) hp ⟨_, rfl, e4.append g4⟩) ⟨p, rfl, by rw [← rs.len]; simp⟩ h
theorem BW.catT {xs ys : List D} (hn : xs ≠ []) (hz : xs.length + ys.length ≤ sizeLine) (h : Q (.tup (xs ++ ys)) S) : BW X (binaryOp .Add) (.tup xs) (.tup ys) S Q := BW.of op_catT fun F H vx vy Q' rs rx ry k => by
  obtain ⟨a, ws, rfl, e2, e4⟩ := rx
  obtain ⟨b, us, rfl, g2, g4⟩ := ry
  have hw : ws ≠ [] := fun z => hn (by have := e4.length; rw [z] at this; exact List.eq_nil_of_length_eq_zero this.symm)
  refine ⟨a, b, ws, us, rfl, rfl, SqT.of e2, SqT.of g2, hw, by rw [e4.length, g4.length]; exact hz, fun hu => ?_, fun hu => ?_⟩
  · have hy : ys = [] := by
      have := g4.length
      rw [hu] at this
      exact List.eq_nil_of_length_eq_zero this.symm
    rw [hy, List.append_nil] at h
    exact k.now rs (d := .tup xs) ⟨a, ws, rfl, e2, e4⟩ h
  · intro p hp
    exact k F (.tup (xs ++ ys)) (.ref p) _ _ (List.prefix_refl F) (Keep.new hp) (rs.other hp) ⟨p, _, rfl, upd_same, RDs.mono (List.prefix_refl F) (Keep.new hp) _ _ (e4.append g4)⟩ h
end ops
end DM

namespace DM
open PySem PySem.Spec PyProof.Rows L2
/-! ### places below a bound -/
/-- knowing less of the store at a return: what stands from n on is dropped -/
def bel (n : Nat) : D → Bool
  | .loc l => decide (l < n)
  | .tup xs => belAll n xs
  | _ => true
where belAll (n : Nat) : List D → Bool
  | [] => true
  | x :: xs => bel n x && belAll n xs
def belK {κ : Type} (n : Nat) : List (κ × D) → Bool
  | [] => true
  | x :: xs => bel n x.2 && belK n xs
def belO (n : Nat) : Ob → Bool
  | .lst xs => bel.belAll n xs
  | .dK kvs => belK n kvs
  | .dT kvs => belK n kvs
  | .ins _ fs => belK n fs
  | .frz _ u => belO n u
  | .dN _ _ => true
/-- every object below n bears places below n alone -/
def belS (n : Nat) (S : Store) : Prop := ∀ (l : Nat) (o : Ob), S[l]? = some o → belO n o = true
section
variable {F : List Addr} {H : Hp}
mutual
theorem RD.bel : ∀ {d : D} {v : V}, RD F H d v → bel F.length d = true
  | .non, _, _ => rfl
  | .bl _, _, _ => rfl
  | .int _, _, _ => rfl
  | .str _, _, _ => rfl
  | .ty _, _, _ => rfl
  | .ref _, _, _ => rfl
  | .tup xs, _, ⟨a, vs, e, s, r⟩ => RDs.bel (xs := xs) r
  | .loc l, _, ⟨a, e, h⟩ => decide_eq_true (List.getElem?_eq_some_iff.mp h).1
  | .scr _, _, _ => rfl
theorem RDs.bel : ∀ {xs : List D} {vs : List V}, RDs F H xs vs → bel.belAll F.length xs = true
  | [], _, _ => rfl
  | x :: xs, _, ⟨v, r, e, h1, h2⟩ => by
    show (DM.bel F.length x && bel.belAll F.length xs) = true
    rw [RD.bel h1, RDs.bel h2]; rfl
end
theorem RKs.bel {κ : Type} : ∀ {xs : List (κ × D)} {vs : List (κ × V)}, RKs F H xs vs → belK F.length xs = true
  | [], _, _ => rfl
  | x :: xs, _, ⟨v, r, e, h1, h2⟩ => by
    show (DM.bel F.length x.2 && belK F.length xs) = true
    rw [RD.bel h1, RKs.bel h2]; rfl
theorem RO.bel : ∀ {o : Ob} {h : HO}, RO F H o h → belO F.length o = true
  | .lst _, _, ⟨_, _, r⟩ => RDs.bel r
  | .dK _, _, ⟨_, _, r⟩ => RKs.bel r
  | .dT _, _, ⟨_, _, r⟩ => RKs.bel r
  | .ins _ _, _, ⟨_, _, _, r⟩ => RKs.bel r
  | .frz _ u, _, ⟨_, _, r⟩ => RO.bel (o := u) r
  | .dN _ _, _, _ => rfl
theorem RS.bel {S : Store} (rs : RS F H S) : belS S.length S := fun l o e => by
  obtain ⟨a, h, _, _, r⟩ := rs.ob l o e
  rw [← rs.len]
  exact r.bel
end
/-! ### defs by names -/
section
variable (P : Program) (w : World) (K : PySem.W.Frag) (mg : Str → Option Value) (base : Heap)
/-- a def of the module's, by its name: what it promises -/
structure Cal (x : Str) (k : Nat) (ps : List Str) (sp : SpD) : Prop where
  ex : ∃ (f : Addr) (fd : FuncData), FnOk P w K mg base CX0 k f fd ps (spD K sp) ∧ mg x = some (.ref f) ∧ PySem.W.keepIn K (.ref f) = true ∧ Binds K fd ps []
/-- a method -/
structure MCal (C : Addr) (m : Str) (k : Nat) (ps : List Str) (sp : SpD) : Prop where
  ex : ∃ (f : Addr) (fd : FuncData), FnOk P w K mg base CX0 k f fd ps (spD K sp) ∧ Meth K C m f ∧ Binds K fd ps []
/-- __init__ -/
structure ICal (C : Addr) (k : Nat) (ps : List Str) (sp : SpD) : Prop where
  ex : ∃ (f : Addr) (fd : FuncData), FnOk P w K mg base CX0 k f fd ps (spD K sp) ∧ Mk K C f ∧ Binds K fd ps []
/-- a def as it stands behind the top -/
structure Df (x qual : Str) (st : Stmt) (f : Addr) : Prop where
  ex : ∃ fd : FuncData, FunD K x qual (defArgs st) (defBody st) (defScope st) [] [] f fd
end
section
variable {P : Program} {w : World} {K : PySem.W.Frag} {mg : Str → Option Value} {base : Heap}
theorem Cal.mono {x : Str} {j k : Nat} {ps : List Str} {sp : SpD} (c : Cal P w K mg base x j ps sp) (h : j ≤ k) : Cal P w K mg base x k ps sp := by
  obtain ⟨f, fd, G, r⟩ := c.ex
  exact ⟨f, fd, G.mono h, r⟩
theorem MCal.mono {C : Addr} {x : Str} {j k : Nat} {ps : List Str} {sp : SpD} (c : MCal P w K mg base C x j ps sp) (h : j ≤ k) : MCal P w K mg base C x k ps sp := by
  obtain ⟨f, fd, G, r⟩ := c.ex
  exact ⟨f, fd, G.mono h, r⟩
def spImp (sp sp' : SpD) : Prop := ∀ ds S Q, sp' ds S Q → sp ds S Q
theorem Cal.imp {x : Str} {k : Nat} {ps : List Str} {sp sp' : SpD} (c : Cal P w K mg base x k ps sp) (h : spImp sp sp') : Cal P w K mg base x k ps sp' := by
  obtain ⟨f, fd, G, r⟩ := c.ex
  exact ⟨f, fd, G.imp (fun vs H Q E ⟨F, ds, S, Qd, a, b, c, d⟩ => ⟨F, ds, S, Qd, a, b, h _ _ _ c, d⟩), r⟩
/-- the body keeps the promise -/
def BodyOk (P : Program) (w : World) (K : PySem.W.Frag) (mg : Str → Option Value) (base : Heap) (N : List Str) (qual : Str) (st : Stmt) (f : Addr) (k : Nat) (sp : SpD) : Prop :=
  ∀ (cdv : Value) (A : Around) (outer : List Env) (s : Shared) (H : Hp) (E : XK) (ds : List D) (S : Store) (Q : D → Store → Prop), Room k (cxOf CX0 P w K mg base N qual (defScope st) f cdv A outer s H E).nox.A → belS S.length S → bel.belAll S.length ds = true → sp ds S Q →
    WSs (cxOf CX0 P w K mg base N qual (defScope st) f cdv A outer s H E).nox S.length (defBody st) (startD N ds) S (fnEnds S.length Q)
theorem fnOkD {x qual : Str} {st : Stmt} {f : Addr} {fd : FuncData} {N ps : List Str} {k : Nat} {sp : SpD} (Fn : FunD K x qual (defArgs st) (defBody st) (defScope st) [] [] f fd) (Sc : FnScope N ps (defScope st)) (len : ∀ ds S Q, sp ds S Q → ds.length = ps.length)
    (body : BodyOk P w K mg base N qual st f k sp) : FnOk P w K mg base CX0 (k + 1) f fd ps (spD K sp) := by
  refine Fn.ok Sc (fun vs H Q E h => ?_) (fun cdv A outer s H vs Q E hr h => ?_)
  · obtain ⟨F, ds, S, Qd, rs, r, hs, k⟩ := h
    rw [r.length]
    exact len ds S Qd hs
  · obtain ⟨F, ds, S, Qd, rs, r, hs, kp⟩ := h
    refine ⟨_, PSs.nox pss_w, ?_⟩
    have q := body cdv A outer s H E ds S Qd hr rs.bel (rs.len ▸ RDs.bel r) hs
    exact q F H F (L2.start N vs) H _ rs.len (List.prefix_refl F) (Keep.refl H) (re_start r) rs (by rw [← rs.len]; exact post_fn kp)
abbrev BindOk (x qual : Str) (st : Stmt) (ps : List Str) : Prop := ∀ (kV doc pm : Value) (an : Option Addr) (cdv ct : Value) (us : List Value), us.length = ps.length → bindArgs (PySem.W.fnOf x qual (defArgs st) (defBody st) (defScope st) .none kV doc pm an cdv ct) ⟨us, []⟩ = pure (ps.zip us)
theorem calD {x : Str} {st : Stmt} {f : Addr} {N ps : List Str} {k : Nat} {sp : SpD} (df : Df K x x st f) (hm : mg x = some (.ref f)) (Sc : FnScope N ps (defScope st)) (b : BindOk x x st ps) (len : ∀ ds S Q, sp ds S Q → ds.length = ps.length)
    (body : BodyOk P w K mg base N x st f k sp) : Cal P w K mg base x (k + 1) ps sp := by
  obtain ⟨fd, F⟩ := df.ex
  exact ⟨f, fd, fnOkD F Sc len body, hm, F.kp, F.bindsN b⟩
theorem mcalD {C : Addr} {x qual : Str} {st : Stmt} {f : Addr} {N ps : List Str} {k : Nat} {sp : SpD} (df : Df K x qual st f) (hm : Meth K C x f) (Sc : FnScope N ps (defScope st)) (b : BindOk x qual st ps) (len : ∀ ds S Q, sp ds S Q → ds.length = ps.length)
    (body : BodyOk P w K mg base N qual st f k sp) : MCal P w K mg base C x (k + 1) ps sp := by
  obtain ⟨fd, F⟩ := df.ex
  exact ⟨f, fd, fnOkD F Sc len body, hm, F.bindsN b⟩
theorem icalD {C : Addr} {x qual : Str} {st : Stmt} {f : Addr} {N ps : List Str} {k : Nat} {sp : SpD} (df : Df K x qual st f) (hm : Mk K C f) (Sc : FnScope N ps (defScope st)) (b : BindOk x qual st ps) (len : ∀ ds S Q, sp ds S Q → ds.length = ps.length)
    (body : BodyOk P w K mg base N qual st f k sp) : ICal P w K mg base C (k + 1) ps sp := by
  obtain ⟨fd, F⟩ := df.ex
  exact ⟨f, fd, fnOkD F Sc len body, hm, F.bindsN b⟩
end
section
variable {X : Cx} {k : Nat} {C : Addr} {ps : List Str} {sp : SpD} {x m : Str} {a o : Expr} {es : List Expr} {v : Fv} {S : Store} {Q : D → Store → Prop} {p pos apos : Pos}
theorem WE.cal (c : Cal X.prog X.w X.K X.mg X.base x k ps sp) (hr : Room k X.A) (h : WA X (a :: es) v S fun ds S1 => sp ds S1 Q) (hg : Gl X x := by rfl)
    (hdb : (x == ("__debug__" : Str)) = false := by decide) (he : starEach (a :: es) X.env = (false, eval a X.env) :: starEach es X.env := by rfl) (hpl : (backTo pos (starEach es X.env)).any (·.1) = false := by rfl) : WE X (.Call (.Name x p) (a :: es) [] pos) v S Q := by
  obtain ⟨f, fd, G, hm, hk, hb⟩ := c.ex
  exact WE.call G hr hm hk hb h hg hdb he hpl
theorem WE.cal0 (c : Cal X.prog X.w X.K X.mg X.base x k ps sp) (hr : Room k X.A) (h : sp [] S Q) (hg : Gl X x := by rfl) (hdb : (x == ("__debug__" : Str)) = false := by decide) : WE X (.Call (.Name x p) [] [] pos) v S Q := by
  obtain ⟨f, fd, G, hm, hk, hb⟩ := c.ex
  exact WE.call0 G hr hm hk hb h hg hdb
theorem WE.mcal {pl : Sem Bool} (c : MCal X.prog X.w X.K X.mg X.base C m k ps sp) (hr : Room k X.A) (cl : Cls X.K C)
    (h : WE X o v S fun d S1 => ∃ l fs, d = .loc l ∧ S1[l]? = some (.ins C fs) ∧ fs.lookup m = none ∧ WA X (a :: es) v S1 fun ds S2 => sp (.loc l :: ds) S2 Q)
    (hst : starEach (a :: es) X.env = (false, eval a X.env) :: starEach es X.env := by rfl) (hpl : (backTo pos (starEach es X.env)).any (·.1) = false := by rfl)
    (ht : eval (.Call (.Attribute o m apos) (a :: es) [] pos) X.env = (do
      let ov ← eval o X.env
      standAt apos.atName
      let (f, first) ← holding [ov] (getMethod ov m pl)
      callWith pos f first (backTo pos (starEach (a :: es) X.env)) (backToKw pos (keywordEach [] X.env))) := by rfl) : WE X (.Call (.Attribute o m apos) (a :: es) [] pos) v S Q := by
  obtain ⟨f, fd, G, hm, hb⟩ := c.ex
  exact WE.meth G hr cl hm hb h hst hpl ht
theorem WE.mcal0 {pl : Sem Bool} (c : MCal X.prog X.w X.K X.mg X.base C m k ps sp) (hr : Room k X.A) (cl : Cls X.K C)
    (h : WE X o v S fun d S1 => ∃ l fs, d = .loc l ∧ S1[l]? = some (.ins C fs) ∧ fs.lookup m = none ∧ sp [.loc l] S1 Q)
    (ht : eval (.Call (.Attribute o m apos) [] [] pos) X.env = (do
      let ov ← eval o X.env
      standAt apos.atName
      let (f, first) ← holding [ov] (getMethod ov m pl)
      callWith pos f first (backTo pos (starEach [] X.env)) (backToKw pos (keywordEach [] X.env))) := by rfl) : WE X (.Call (.Attribute o m apos) [] [] pos) v S Q := by
  obtain ⟨f, fd, G, hm, hb⟩ := c.ex
  exact WE.meth0 G hr cl hm hb h ht
end
/-! ### forgetting, made -/
section
variable {F : List Addr} {H : Hp} {n : Nat}
mutual
theorem RD.cut {G : List Addr} (hF : ∀ l, l < n → G[l]? = F[l]?) : ∀ (d : D) (v : V), bel n d = true → RD F H d v → RD G H d v
  | .non, _, _, h => h
  | .bl _, _, _, h => h
  | .int _, _, _, h => h
  | .str _, _, _, h => h
  | .ty _, _, _, h => h
  | .ref _, _, _, h => h
  | .tup xs, _, b, ⟨a, vs, e, s, r⟩ => ⟨a, vs, e, s, RDs.cut hF xs vs b r⟩
  | .loc l, _, b, ⟨a, e, h⟩ => ⟨a, e, (hF l (of_decide_eq_true b)).trans h⟩
  | .scr _, _, _, h => h
theorem RDs.cut {G : List Addr} (hF : ∀ l, l < n → G[l]? = F[l]?) : ∀ (xs : List D) (vs : List V), bel.belAll n xs = true → RDs F H xs vs → RDs G H xs vs
  | [], _, _, h => h
  | x :: xs, _, b, ⟨v, r, e, h1, h2⟩ => by
    have b' : (DM.bel n x && DM.bel.belAll n xs) = true := b
    rw [Bool.and_eq_true] at b'
    exact ⟨v, r, e, RD.cut hF x v b'.1 h1, RDs.cut hF xs r b'.2 h2⟩
end
theorem RKs.cut {κ : Type} {G : List Addr} (hF : ∀ l, l < n → G[l]? = F[l]?) : ∀ (xs : List (κ × D)) (vs : List (κ × V)), belK n xs = true → RKs F H xs vs → RKs G H xs vs
  | [], _, _, h => h
  | x :: xs, _, b, ⟨v, r, e, h1, h2⟩ => by
    have b' : (DM.bel n x.2 && belK n xs) = true := b
    rw [Bool.and_eq_true] at b'
    exact ⟨v, r, e, h1.cut hF _ _ b'.1, RKs.cut hF xs r b'.2 h2⟩
mutual
theorem bel_ik {n : Nat} : ∀ (d : D), ikD d = true → DM.bel n d = true
  | .int _, _ => rfl
  | .tup xs, h => belAll_ik xs h
  | .non, _ => rfl
  | .bl _, _ => rfl
  | .str _, _ => rfl
  | .ty _, _ => rfl
  | .ref _, _ => rfl
  | .loc _, h => by cases h
  | .scr _, _ => rfl
theorem belAll_ik {n : Nat} : ∀ (xs : List D), ikDs xs = true → DM.bel.belAll n xs = true
  | [], _ => rfl
  | x :: xs, h => by
    have h' : (ikD x && ikDs xs) = true := h
    rw [Bool.and_eq_true] at h'
    show (DM.bel n x && DM.bel.belAll n xs) = true
    rw [bel_ik x h'.1, belAll_ik xs h'.2]; rfl
end
theorem RO.cut {G : List Addr} (hF : ∀ l, l < n → G[l]? = F[l]?) : ∀ (o : Ob) (h : HO), belO n o = true → RO F H o h → RO G H o h
  | .lst xs, _, b, ⟨vs, e, r⟩ => ⟨vs, e, RDs.cut hF xs vs b r⟩
  | .dK xs, _, b, ⟨vs, e, r⟩ => ⟨vs, e, RKs.cut hF xs vs b r⟩
  | .dT xs, _, b, ⟨vs, e, r⟩ => ⟨vs, e, RKs.cut hF xs vs b r⟩
  | .ins C xs, _, b, ⟨dx, vs, e, r⟩ => ⟨dx, vs, e, RKs.cut hF xs vs b r⟩
  | .frz o u, _, b, ⟨g, e, r⟩ => ⟨g, e, RO.cut hF u g b r⟩
  | .dN _ _, _, _, ⟨a, o, es, ep, xs, e, e1, e2, e3, e4, al, nd⟩ => ⟨a, o, es, ep, xs, e, e1, e2, e3, e4, fun x hx => ⟨(al x hx).1, (al x hx).2.1, RD.cut hF _ _ (bel_ik _ (al x hx).1) (al x hx).2.2⟩, nd⟩
theorem take_get {α : Type} {l : List α} {n i : Nat} (h : i < n) : (l.take n)[i]? = l[i]? := by
  rw [List.getElem?_take]
  simp [h]
theorem RS.cut {S : Store} (rs : RS F H S) (b : belS n (S.take n)) : RS (F.take n) H (S.take n) := by
  refine ⟨by simp [rs.len], rs.nd.sublist (List.take_sublist _ _), fun l o e => ?_⟩
  have hl : l < n := by
    have := (List.getElem?_eq_some_iff.mp e).1
    simp at this; omega
  have e' := e
  rw [take_get hl] at e'
  obtain ⟨a, h, q1, q2, q3⟩ := rs.ob l o e'
  exact ⟨a, h, by rw [take_get hl]; exact q1, q2, RO.cut (n := n) (fun j hj => take_get hj) o h (b l o e) q3⟩
/-- below n all is closed: what came behind is dropped -/
theorem CovD.take {m : Nat} {d : D} {S : Store} (hm : n ≤ m) (b : belS m (S.take m)) (bd : bel m d = true) : CovD n d S d (S.take m) := fun F H u r rs =>
  ⟨F.take m, by
    have : F.take n = (F.take m).take n := by rw [List.take_take, Nat.min_eq_left hm]
    rw [this]; exact List.take_prefix _ _, RD.cut (n := m) (fun j hj => take_get hj) d u bd r, rs.cut b⟩
theorem CovS.take {m : Nat} {S : Store} (hm : n ≤ m) (b : belS m (S.take m)) : CovS n S (S.take m) := fun F H rs =>
  ⟨F.take m, by
    have : F.take n = (F.take m).take n := by rw [List.take_take, Nat.min_eq_left hm]
    rw [this]; exact List.take_prefix _ _, rs.cut b⟩
/-- the frame with fewer names known -/
def lessV (v2 v : Fv) : Prop := v2.length = v.length ∧ ∀ (i : Nat) (d : D), v2[i]? = some (some d) → v[i]? = some (some d)
def belV (n : Nat) (v : Fv) : Prop := ∀ (i : Nat) (d : D), v[i]? = some (some d) → bel n d = true
theorem CovE.take {m : Nat} {v v2 : Fv} {S : Store} (hm : n ≤ m) (b : belS m (S.take m)) (le : lessV v2 v) (bv : belV m v2) : CovE n v S v2 (S.take m) := fun F H t re rs =>
  ⟨F.take m, by
    have : F.take n = (F.take m).take n := by rw [List.take_take, Nat.min_eq_left hm]
    rw [this]; exact List.take_prefix _ _, ⟨by rw [le.1]; exact re.len, fun i d h => by
      obtain ⟨u, q1, q2⟩ := re.at_ i d (le.2 i d h)
      exact ⟨u, q1, RD.cut (n := m) (fun j hj => take_get hj) d u (bv i d h) q2⟩⟩, rs.cut b⟩
theorem CovD.drop {S G : Store} {d : D} (b : belS S.length S) (bd : bel S.length d = true) : CovD S.length d (S ++ G) d S := by
  have := CovD.take (n := S.length) (m := S.length) (d := d) (S := S ++ G) (Nat.le_refl _) (by simpa using b) bd
  simpa using this
theorem CovS.drop {S G : Store} (hn : n ≤ S.length) (b : belS S.length S) : CovS n (S ++ G) S := by
  have := CovS.take (n := n) (m := S.length) (S := S ++ G) hn (by simpa using b)
  simpa using this
theorem CovE.drop {S G : Store} {v v2 : Fv} (hn : n ≤ S.length) (b : belS S.length S) (le : lessV v2 v) (bv : belV S.length v2) : CovE n v (S ++ G) v2 S := by
  have := CovE.take (n := n) (m := S.length) (v := v) (v2 := v2) (S := S ++ G) hn (by simpa using b) le bv
  simpa using this
/-- a new object alone is kept -/
theorem CovD.one {S G : Store} {k : Nat} {o : Ob} (b : belS S.length S) (hk : S.length ≤ k) (ho : (S ++ G)[k]? = some o) (bo : belO S.length o = true) : CovD S.length (.loc k) (S ++ G) (.loc S.length) (S ++ [o]) := fun F H u r rs => by
  obtain ⟨a, rfl, ha⟩ := r
  obtain ⟨a', h, q1, q2, q3⟩ := rs.ob k o ho
  rw [q1] at ha; cases ha
  have hc := rs.cut (n := S.length) (by simpa using b)
  simp only [List.take_left'] at hc
  have hlen : (F.take S.length).length = S.length := by
    rw [List.length_take, rs.len]; simp
  have hnot : a ∉ F.take S.length := fun hm => by
    obtain ⟨j, hj, e⟩ := List.mem_iff_getElem.mp hm
    have hj' : j < S.length := by rw [hlen] at hj; exact hj
    have e1 : F[j]? = some a := by
      rw [← take_get hj', List.getElem?_eq_getElem hj, e]
    have h1 := List.getElem?_eq_some_iff.mp q1
    have h2 := List.getElem?_eq_some_iff.mp e1
    have := (List.getElem_inj rs.nd).mp (h1.2.trans h2.2.symm)
    omega
  have pp : F.take S.length <+: F.take S.length ++ [a] := ⟨[a], rfl⟩
  have get1 : ∀ l, l < S.length → (F.take S.length ++ [a])[l]? = F[l]? := fun l hl => by
    rw [List.getElem?_append_left (by rw [hlen]; exact hl), take_get hl]
  refine ⟨F.take S.length ++ [a], pp, ⟨a, rfl, by rw [List.getElem?_append_right (by rw [hlen]; exact Nat.le_refl _), hlen]; simp⟩, ?_, ?_, fun l ob e => ?_⟩
  · simp [hlen]
  · rw [List.nodup_append]
    refine ⟨rs.nd.sublist (List.take_sublist _ _), by simp, fun x hx y hy e => ?_⟩
    have : y = a := by simpa using hy
    subst this; subst e
    exact hnot hx
  · by_cases hl : l < S.length
    · have e' : (S ++ G)[l]? = some ob := by
        rw [List.getElem?_append_left hl] at e
        rw [List.getElem?_append_left hl]; exact e
      obtain ⟨b', g, g1, g2, g3⟩ := rs.ob l ob e'
      rw [List.getElem?_append_left hl] at e
      exact ⟨b', g, (get1 l hl).trans g1, g2, RO.cut (n := S.length) get1 ob g (b l ob e) g3⟩
    · have hl' : l = S.length := by
        have := (List.getElem?_eq_some_iff.mp e).1
        simp at this; omega
      subst hl'
      have e2 : o = ob := by simpa using e
      subst e2
      exact ⟨a, h, by rw [List.getElem?_append_right (by rw [hlen]; exact Nat.le_refl _), hlen]; simp, q2, RO.cut (n := S.length) get1 o h bo q3⟩
theorem CovE.less {v v2 : Fv} {S : Store} (le : lessV v2 v) : CovE n v S v2 S := fun F H t re rs => ⟨F, List.take_prefix _ _, ⟨by rw [le.1]; exact re.len, fun i d h => re.at_ i d (le.2 i d h)⟩, rs⟩
end
end DM

namespace DM
open PySem PySem.Spec PyProof.Rows L2
theorem belAll_append {n : Nat} : ∀ {xs ys : List D}, bel.belAll n xs = true → bel.belAll n ys = true → bel.belAll n (xs ++ ys) = true
  | [], _, _, h => h
  | x :: xs, ys, h, g => by
    have h' : (bel n x && bel.belAll n xs) = true := h
    rw [Bool.and_eq_true] at h'
    show (bel n x && bel.belAll n (xs ++ ys)) = true
    rw [h'.1, belAll_append h'.2 g]; rfl
mutual
theorem bel_mono {n m : Nat} (hm : n ≤ m) : ∀ (d : D), bel n d = true → bel m d = true
  | .non, h => h
  | .bl _, h => h
  | .int _, h => h
  | .str _, h => h
  | .ty _, h => h
  | .ref _, h => h
  | .tup xs, h => belAll_mono hm xs h
  | .loc l, h => decide_eq_true (Nat.lt_of_lt_of_le (of_decide_eq_true h) hm)
  | .scr _, h => h
theorem belAll_mono {n m : Nat} (hm : n ≤ m) : ∀ (xs : List D), bel.belAll n xs = true → bel.belAll m xs = true
  | [], h => h
  | x :: xs, h => by
    have h' : (bel n x && bel.belAll n xs) = true := h
    rw [Bool.and_eq_true] at h'
    show (bel m x && bel.belAll m xs) = true
    rw [bel_mono hm x h'.1, belAll_mono hm xs h'.2]; rfl
end
theorem belK_mono {κ : Type} {n m : Nat} (hm : n ≤ m) : ∀ (xs : List (κ × D)), belK n xs = true → belK m xs = true
  | [], h => h
  | x :: xs, h => by
    have h' : (bel n x.2 && belK n xs) = true := h
    rw [Bool.and_eq_true] at h'
    show (bel m x.2 && belK m xs) = true
    rw [bel_mono hm x.2 h'.1, belK_mono hm xs h'.2]; rfl
theorem belO_mono {n m : Nat} (hm : n ≤ m) : ∀ (o : Ob), belO n o = true → belO m o = true
  | .lst xs, h => belAll_mono hm xs h
  | .dK xs, h => belK_mono hm xs h
  | .dT xs, h => belK_mono hm xs h
  | .ins _ xs, h => belK_mono hm xs h
  | .frz _ u, h => belO_mono hm u h
  | .dN _ _, _ => rfl
theorem belS_mono {n m : Nat} {S : Store} (hm : n ≤ m) (h : belS n S) : belS m S := fun l o e => belO_mono hm o (h l o e)
theorem belS_snoc {n : Nat} {S : Store} {o : Ob} (h : belS n S) (ho : belO n o = true) : belS n (S ++ [o]) := fun l u e => by
  by_cases hl : l < S.length
  · rw [List.getElem?_append_left hl] at e
    exact h l u e
  · rw [List.getElem?_append_right (by omega)] at e
    have := (List.getElem?_eq_some_iff.mp e).1
    have hz : l - S.length = 0 := by simp at this; omega
    rw [hz] at e
    have : o = u := by simpa using e
    subst this
    exact ho
theorem belS_append {n : Nat} {S G : Store} (h : belS n S) (g : belS n G) : belS n (S ++ G) := fun l u e => by
  by_cases hl : l < S.length
  · rw [List.getElem?_append_left hl] at e
    exact h l u e
  · rw [List.getElem?_append_right (by omega)] at e
    exact g _ u e
theorem belS_set {n l : Nat} {S : Store} {o : Ob} (h : belS n S) (ho : belO n o = true) : belS n (S.set l o) := fun j u e => by
  by_cases hj : l = j
  · subst hj
    have hl := (List.getElem?_eq_some_iff.mp e).1
    rw [List.getElem?_set_self (by simpa using hl)] at e
    cases e
    exact ho
  · rw [List.getElem?_set_ne hj] at e
    exact h j u e
theorem belS_nil {n : Nat} : belS n [] := fun l o e => by simp at e
theorem belS_cons {n : Nat} {S : Store} {o : Ob} (ho : belO n o = true) (h : belS n S) : belS n (o :: S) := fun l u e => by
  cases l with
  | zero => have : o = u := by simpa using e
            subst this; exact ho
  | succ l => exact h l u (by simpa using e)
/-- a comprehension whose elements are reckoned from the items alone, the store as it was -/
theorem lc_pure {X : Cx} {scope : Scope} {ifs : List Expr} {elt : Expr} {up : D → Fv → Option Fv} {vs : List Nat} {v : Fv} {n : Nat} {c : Src} {S1 : Store} {Q : D → Store → Prop} (f : D → Option D) (hb : belS S1.length S1) (hz : c.items.length ≤ 100000)
    (hok : ∀ acc, c.ok (S1 ++ [.lst acc])) (turn : ∀ (i : Nat) (d : D) (acc : List D), c.items[i]? = some d → ∃ v3, up d (wipeD v vs) = some v3 ∧ ∀ Y, BlkOf X scope Y → WTs Y ifs v3 (S1 ++ [.lst acc]) fun b S3 => (∃ G, S3 = S1 ++ [.lst acc] ++ G) ∧
      (b = true → ∀ Z, BlkOf X scope Z → WE Z elt v3 S3 fun y S4 => (∃ G, S4 = S1 ++ [.lst acc] ++ G) ∧ bel S1.length y = true ∧ f d = some y) ∧ (b = false → f d = none))
    (h : Q (.loc S1.length) (S1 ++ [.lst (c.items.filterMap f)])) : LcTurns X scope ifs elt up vs v n c S1 Q := by
  have ft : ∀ (i : Nat) (d : D), c.items[i]? = some d → (c.items.take (i + 1)).filterMap f = (c.items.take i).filterMap f ++ (f d).toList := fun i d hd => by
    have : c.items.take (i + 1) = c.items.take i ++ [d] := by rw [List.take_add_one, hd]; rfl
    rw [this, List.filterMap_append]
    cases e : f d <;> simp [List.filterMap, e]
  refine ⟨fun i acc S2 => S2 = S1 ∧ acc = (c.items.take i).filterMap f ∧ bel.belAll S1.length acc = true, ⟨rfl, by simp, rfl⟩, ?_, ?_, ?_⟩
  · rintro i acc S2 hi ⟨rfl, _⟩
    exact ⟨rfl, hok acc⟩
  · rintro i d acc S2 hd ⟨rfl, ha, hba⟩
    obtain ⟨v3, h1, h2⟩ := turn i d acc hd
    have cl : belS (S2.length + 1) (S2 ++ [.lst acc]) := belS_snoc (belS_mono (Nat.le_succ _) hb) (belAll_mono (Nat.le_succ _) acc hba)
    have hlen : acc.length ≤ i := by
      rw [ha]
      exact Nat.le_trans (List.length_filterMap_le _ _) (by simp; omega)
    have hi : i < c.items.length := (List.getElem?_eq_some_iff.mp hd).1
    refine ⟨v3, h1, fun Y hY => ?_⟩
    have w := h2 Y hY
    have imp : ∀ b S3, ((∃ G, S3 = S2 ++ [.lst acc] ++ G) ∧ (b = true → ∀ Z, BlkOf X scope Z → WE Z elt v3 S3 fun y S4 => (∃ G, S4 = S2 ++ [.lst acc] ++ G) ∧ bel S2.length y = true ∧ f d = some y) ∧ (b = false → f d = none)) →
        (b = true → ∀ Z, BlkOf X scope Z → WE Z elt v3 S3 fun y S4 => WkD (S2.length + 1) y S4 fun y2 S5 => acc.length < sizeLine ∧ ∃ S6, S5 = S6 ++ [.lst acc] ∧ (S6 = S2 ∧ acc ++ [y2] = (c.items.take (i + 1)).filterMap f ∧ bel.belAll S2.length (acc ++ [y2]) = true)) ∧
        (b = false → ∃ S5, CovS (S2.length + 1) S3 S5 ∧ ∃ S6, S5 = S6 ++ [.lst acc] ∧ (S6 = S2 ∧ acc = (c.items.take (i + 1)).filterMap f ∧ bel.belAll S2.length acc = true)) := by
      rintro b S3 ⟨⟨G0, rfl⟩, ht, hf⟩
      refine ⟨fun hb1 Z hZ => ?_, fun hb0 => ?_⟩
      · refine (ht hb1 Z hZ).mono fun y S4 ⟨⟨G, e⟩, by', fy⟩ => ?_
        subst e
        have hl : (S2 ++ [Ob.lst acc]).length = S2.length + 1 := by simp
        refine ⟨y, S2 ++ [.lst acc], ?_, Nat.lt_of_lt_of_le (show acc.length < 100001 by omega) (by decide), S2, rfl, rfl, ?_, belAll_append hba (by show (bel S2.length y && true) = true; rw [by']; rfl)⟩
        · have := CovD.drop (S := S2 ++ [.lst acc]) (G := G) (d := y) (by rw [hl]; exact cl) (by rw [hl]; exact bel_mono (Nat.le_succ _) y by')
          rw [hl] at this
          exact this
        · rw [ft i d hd, fy, ha]; rfl
      · have hl : (S2 ++ [Ob.lst acc]).length = S2.length + 1 := by simp
        refine ⟨S2 ++ [.lst acc], CovS.drop (by rw [hl]; exact Nat.le_refl _) (by rw [hl]; exact cl), S2, rfl, rfl, ?_, hba⟩
        rw [ft i d hd, hf hb0, ha]; simp
    match ifs, w with
    | [], w => exact imp true _ w
    | [c'], w => exact fun F t H Q' re rs k => w F t H Q' re rs fun F' b H' S' p kk rs' q => k F' b H' S' p kk rs' (imp b S' q)
  · rintro acc S2 ⟨rfl, ha, _⟩
    rw [ha, List.take_length]
    exact h
end DM

namespace DM
open PySem PySem.Spec PyProof.Rows L2
/-! ### built-ins that no name of the module hides -/
structure Bt (mg : Str → Option Value) : Prop where
  len : mg "len" = none
  range : mg "range" = none
  isinstance : mg "isinstance" = none
  sorted : mg "sorted" = none
  max : mg "max" = none
  min : mg "min" = none
  list : mg "list" = none
  tuple : mg "tuple" = none
  dict : mg "dict" = none
  int : mg "int" = none
  str : mg "str" = none
  bool : mg "bool" = none
  enumerate : mg "enumerate" = none
  reversed : mg "reversed" = none
  sum : mg "sum" = none
  set : mg "set" = none
/-- a datum whose own type is plain -/
def kn : D → Bool
  | .non | .bl _ | .int _ | .str _ | .tup _ => true
  | _ => false
def tyN : D → String
  | .non => "NoneType" | .bl _ => "bool" | .int _ => "int" | .str _ => "str" | .tup _ => "tuple" | _ => ""
theorem kn_ty {x : D} (h : kn x = true) (S : Store) : tyName x S = some (tyN x) := by
  cases x <;> first | rfl | cases h
/-- whether a datum is a number within bounds -/
def numOk (x : D) (lo hi : Int) : Bool := match x with
  | .int i => decide (lo ≤ i) && decide (i ≤ hi)
  | _ => false
def marksOk (x : D) (least : Int) : Bool := match x with
  | .tup xs => decide (xs.length = 3) && xs.all fun y => numOk y least 9
  | _ => false
/-- data of numbers, None and tuples of such, so deep at the most -/
def pu : Nat → D → Bool
  | 0, .tup _ => false
  | n + 1, .tup xs => decide (xs.length ≤ 100000) && xs.all (pu n)
  | _, .non => true
  | _, .int _ => true
  | _, _ => false
theorem pu_kn {n : Nat} {x : D} (h : pu n x = true) : kn x = true := by
  cases n <;> cases x <;> first | rfl | (simp [pu] at h)
theorem pu_tup {n : Nat} {xs : List D} (h : pu n (.tup xs) = true) : ∃ m, n = m + 1 ∧ xs.length ≤ 100000 ∧ ∀ x ∈ xs, pu m x = true := by
  cases n with
  | zero => simp [pu] at h
  | succ m =>
    have h' : (decide (xs.length ≤ 100000) && xs.all (pu m)) = true := h
    rw [Bool.and_eq_true, decide_eq_true_eq, List.all_eq_true] at h'
    exact ⟨m, rfl, h'⟩
theorem pu_mono : ∀ {n m : Nat} {x : D}, n ≤ m → pu n x = true → pu m x = true
  | 0, 0, _, _, h => h
  | 0, m + 1, x, _, h => by cases x <;> first | rfl | (simp [pu] at h; done)
  | n + 1, 0, _, hm, _ => absurd hm (Nat.not_succ_le_zero n)
  | n + 1, m + 1, x, hm, h => by
    cases x with
    | tup xs =>
      obtain ⟨k, e, h1, h2⟩ := pu_tup h
      cases e
      show (decide (xs.length ≤ 100000) && xs.all (pu m)) = true
      rw [decide_eq_true h1, List.all_eq_true.mpr fun x hx => pu_mono (Nat.le_of_succ_le_succ hm) (h2 x hx)]; rfl
    | non => rfl
    | int _ => rfl
    | _ => simp [pu] at h
mutual
def toP : D → PyData
  | .non => .none
  | .bl b => .bool b
  | .int i => .int i
  | .str x => .str x
  | .tup xs => .tuple (toPs xs)
  | _ => .none
def toPs : List D → List PyData
  | [] => []
  | x :: xs => toP x :: toPs xs
end
theorem pu_pd (S : Store) : ∀ (n : Nat) (x : D), pu n x = true → PD S x (toP x) ∧ (toP x).canLay0 = true ∧ (toP x).depth ≤ n
  | n, .non, _ => ⟨.non, rfl, Nat.zero_le _⟩
  | n, .int i, _ => ⟨.int i, rfl, Nat.zero_le _⟩
  | n, .tup xs, h => by
    obtain ⟨m, e, h1, h2⟩ := pu_tup h
    subst e
    have all : ∀ ys : List D, (∀ x ∈ ys, pu m x = true) → PDs S ys (toPs ys) ∧ PyData.canLayAll0 (toPs ys) = true ∧ PyData.depthAll (toPs ys) ≤ m := by
      intro ys
      induction ys with
      | nil => intro _; exact ⟨.nil, rfl, Nat.zero_le _⟩
      | cons y ys ih =>
        intro hy
        obtain ⟨a1, a2, a3⟩ := pu_pd S m y (hy y List.mem_cons_self)
        obtain ⟨b1, b2, b3⟩ := ih fun x hx => hy x (List.mem_cons_of_mem _ hx)
        refine ⟨.cons a1 b1, ?_, ?_⟩
        · show ((toP y).canLay0 && PyData.canLayAll0 (toPs ys)) = true
          rw [a2, b2]; rfl
        · show max (toP y).depth (PyData.depthAll (toPs ys)) ≤ m
          omega
    obtain ⟨a, b, c⟩ := all xs h2
    exact ⟨.tup a, b, Nat.succ_le_succ c⟩
  | 0, .bl _, h => by simp [pu] at h
  | n + 1, .bl _, h => by simp [pu] at h
  | 0, .str _, h => by simp [pu] at h
  | n + 1, .str _, h => by simp [pu] at h
  | 0, .ty _, h => by simp [pu] at h
  | n + 1, .ty _, h => by simp [pu] at h
  | 0, .ref _, h => by simp [pu] at h
  | n + 1, .ref _, h => by simp [pu] at h
  | 0, .loc _, h => by simp [pu] at h
  | n + 1, .loc _, h => by simp [pu] at h
  | 0, .scr _, h => by simp [pu] at h
  | n + 1, .scr _, h => by simp [pu] at h
theorem pus_pd (S : Store) {n : Nat} : ∀ (ys : List D), (∀ x ∈ ys, pu n x = true) → PDs S ys (toPs ys) ∧ PyData.canLayAll0 (toPs ys) = true ∧ PyData.depthAll (toPs ys) ≤ n
  | [], _ => ⟨.nil, rfl, Nat.zero_le _⟩
  | y :: ys, hy => by
    obtain ⟨a1, a2, a3⟩ := pu_pd S n y (hy y List.mem_cons_self)
    obtain ⟨b1, b2, b3⟩ := pus_pd S ys fun x hx => hy x (List.mem_cons_of_mem _ hx)
    refine ⟨.cons a1 b1, ?_, ?_⟩
    · show ((toP y).canLay0 && PyData.canLayAll0 (toPs ys)) = true
      rw [a2, b2]; rfl
    · show max (toP y).depth (PyData.depthAll (toPs ys)) ≤ n
      omega
/-- == on such data is being the same -/
theorem pu_eqv : ∀ (n : Nat) (x y : D), pu n x = true → pu n y = true → PyData.eqv (toP x) (toP y) = decide (x = y)
  | n, .non, y, _, h => by cases n <;> cases y <;> first | (simp [pu] at h; done) | simp [toP, PyData.eqv]
  | n, .int i, y, _, h => by cases n <;> cases y <;> first | (simp [pu] at h; done) | simp [toP, PyData.eqv] <;> rfl
  | 0, .tup xs, y, h, _ => by simp [pu] at h
  | n + 1, .tup xs, y, h, g => by
    cases y with
    | tup ys =>
      obtain ⟨m, e, _, h2⟩ := pu_tup h
      cases e
      obtain ⟨m', e', _, g2⟩ := pu_tup g
      cases e'
      have all : ∀ (xs ys : List D), (∀ x ∈ xs, pu n x = true) → (∀ x ∈ ys, pu n x = true) → PyData.eqvAll (toPs xs) (toPs ys) = decide (xs = ys) := by
        intro xs
        induction xs with
        | nil => intro ys _ _; cases ys <;> simp [toPs, PyData.eqvAll]
        | cons x xs ih =>
          intro ys hx hy
          cases ys with
          | nil => simp [toPs, PyData.eqvAll]
          | cons y ys =>
            have e1 := pu_eqv n x y (hx x List.mem_cons_self) (hy y List.mem_cons_self)
            have e2 := ih ys (fun z hz => hx z (List.mem_cons_of_mem _ hz)) (fun z hz => hy z (List.mem_cons_of_mem _ hz))
            show (PyData.eqv (toP x) (toP y) && PyData.eqvAll (toPs xs) (toPs ys)) = _
            rw [e1, e2]
            by_cases h1 : x = y <;> by_cases h2 : xs = ys <;> simp [h1, h2]
      show PyData.eqvAll (toPs xs) (toPs ys) = _
      rw [all xs ys h2 g2]
      simp
    | non => simp [toP, PyData.eqv]
    | int _ => simp [toP, PyData.eqv]
    | _ => simp [pu] at g
  | 0, .bl _, _, h, _ => by simp [pu] at h
  | n + 1, .bl _, _, h, _ => by simp [pu] at h
  | 0, .str _, _, h, _ => by simp [pu] at h
  | n + 1, .str _, _, h, _ => by simp [pu] at h
  | 0, .ty _, _, h, _ => by simp [pu] at h
  | n + 1, .ty _, _, h, _ => by simp [pu] at h
  | 0, .ref _, _, h, _ => by simp [pu] at h
  | n + 1, .ref _, _, h, _ => by simp [pu] at h
  | 0, .loc _, _, h, _ => by simp [pu] at h
  | n + 1, .loc _, _, h, _ => by simp [pu] at h
  | 0, .scr _, _, h, _ => by simp [pu] at h
  | n + 1, .scr _, _, h, _ => by simp [pu] at h
theorem pus_eqv {n : Nat} : ∀ (xs ys : List D), (∀ x ∈ xs, pu n x = true) → (∀ x ∈ ys, pu n x = true) → PyData.eqvAll (toPs xs) (toPs ys) = decide (xs = ys)
  | [], ys, _, _ => by cases ys <;> simp [toPs, PyData.eqvAll]
  | x :: xs, [], _, _ => by simp [toPs, PyData.eqvAll]
  | x :: xs, y :: ys, hx, hy => by
    have e1 := pu_eqv n x y (hx x List.mem_cons_self) (hy y List.mem_cons_self)
    have e2 := pus_eqv xs ys (fun z hz => hx z (List.mem_cons_of_mem _ hz)) (fun z hz => hy z (List.mem_cons_of_mem _ hz))
    show (PyData.eqv (toP x) (toP y) && PyData.eqvAll (toPs xs) (toPs ys)) = _
    rw [e1, e2]
    by_cases h1 : x = y <;> by_cases h2 : xs = ys <;> simp [h1, h2]
theorem shaped_of {p : PyData} (h1 : p.canLay0 = true) (h2 : p.depth ≤ 64) : SeqAt.shaped p = true := by
  unfold SeqAt.shaped
  rw [h1, decide_eq_true h2]; rfl
section
variable {X : Cx} {S : Store} {Q : D → Store → Prop}
theorem BW.eqP {x y : D} (hx : pu 60 x = true) (hy : pu 60 y = true) (hu : X.A.units + 64 < cLine) (h : Q (.bl (decide (x = y))) S) : BW X (compareOp .Eq) x y S Q := by
  obtain ⟨a1, a2, a3⟩ := pu_pd S 60 x hx
  obtain ⟨b1, b2, b3⟩ := pu_pd S 60 y hy
  refine BW.eqD a1 b1 (shaped_of a2 (by omega)) (shaped_of b2 (by omega)) hu ?_
  rw [pu_eqv 60 x y hx hy]; exact h
theorem BW.neP {x y : D} (hx : pu 60 x = true) (hy : pu 60 y = true) (hu : X.A.units + 64 < cLine) (h : Q (.bl (!decide (x = y))) S) : BW X (compareOp .NotEq) x y S Q := by
  obtain ⟨a1, a2, a3⟩ := pu_pd S 60 x hx
  obtain ⟨b1, b2, b3⟩ := pu_pd S 60 y hy
  refine BW.neD a1 b1 (shaped_of a2 (by omega)) (shaped_of b2 (by omega)) hu ?_
  rw [pu_eqv 60 x y hx hy]; exact h
theorem BW.eqL {l m : Nat} {xs ys : List D} (hl : S[l]? = some (.lst xs)) (hm : S[m]? = some (.lst ys)) (hx : ∀ x ∈ xs, pu 60 x = true) (hy : ∀ x ∈ ys, pu 60 x = true) (hu : X.A.units + 64 < cLine) (h : Q (.bl (decide (xs = ys))) S) : BW X (compareOp .Eq) (.loc l) (.loc m) S Q := by
  obtain ⟨a1, a2, a3⟩ := pus_pd S xs hx
  obtain ⟨b1, b2, b3⟩ := pus_pd S ys hy
  refine BW.eqD (.lst hl a1) (.lst hm b1) (shaped_of a2 (by show _ + 1 ≤ 64; omega)) (shaped_of b2 (by show _ + 1 ≤ 64; omega)) hu ?_
  show Q (.bl (PyData.eqvAll (toPs xs) (toPs ys))) S
  rw [pus_eqv xs ys hx hy]; exact h
theorem BW.neL {l m : Nat} {xs ys : List D} (hl : S[l]? = some (.lst xs)) (hm : S[m]? = some (.lst ys)) (hx : ∀ x ∈ xs, pu 60 x = true) (hy : ∀ x ∈ ys, pu 60 x = true) (hu : X.A.units + 64 < cLine) (h : Q (.bl (!decide (xs = ys))) S) : BW X (compareOp .NotEq) (.loc l) (.loc m) S Q := by
  obtain ⟨a1, a2, a3⟩ := pus_pd S xs hx
  obtain ⟨b1, b2, b3⟩ := pus_pd S ys hy
  refine BW.neD (.lst hl a1) (.lst hm b1) (shaped_of a2 (by show _ + 1 ≤ 64; omega)) (shaped_of b2 (by show _ + 1 ≤ 64; omega)) hu ?_
  show Q (.bl (!PyData.eqvAll (toPs xs) (toPs ys))) S
  rw [pus_eqv xs ys hx hy]; exact h
end
/-- what a call leaves of the room for == -/
theorem hu_of64 {X : Cx} {k : Nat} (hr : Room k X.A) : X.A.units + 64 < cLine := hr.units
theorem at_mid {S G : Store} {o : Ob} : (S ++ o :: G)[S.length]? = some o := by simp
theorem at_two {S G : Store} {o u : Ob} : (S ++ o :: u :: G)[S.length + 1]? = some u := by
  rw [List.getElem?_append_right (by omega)]; simp
theorem bel_get {n : Nat} : ∀ {xs : List D} {i : Nat} {d : D}, bel.belAll n xs = true → xs[i]? = some d → bel n d = true
  | [], _, _, _, h => by simp at h
  | x :: xs, 0, d, b, h => by
    have b' : (bel n x && bel.belAll n xs) = true := b
    rw [Bool.and_eq_true] at b'
    have : x = d := by simpa using h
    subst this; exact b'.1
  | x :: xs, i + 1, d, b, h => by
    have b' : (bel n x && bel.belAll n xs) = true := b
    rw [Bool.and_eq_true] at b'
    exact bel_get b'.2 (by simpa using h)
theorem iT {A B : Prop} (h : A) : (true = true → A) ∧ (true = false → B) := ⟨fun _ => h, fun z => (by cases z)⟩
theorem iF {A B : Prop} (h : B) : (false = true → A) ∧ (false = false → B) := ⟨fun z => (by cases z), fun _ => h⟩
theorem pg_blk {X : Cx} {scope : Scope} {i : Nat} {x : Str} {px : Pos} (hN : X.N.Nodup) (hi : X.N[i]? = some x) (h : ∀ Y, BlkOf X scope Y → Loc Y.env.scope x ∧ (Y.fn x = true ∨ Y.env.scope.names.lookup x = some .local)) : ∀ Y, BlkOf X scope Y → PG Y (.Name x px) (gName i) := fun Y hY => by
  have := h Y hY
  obtain ⟨_, _, _, _, _, rfl⟩ := hY
  exact pg_name hN hi this.1 this.2
theorem sz {n : Nat} (h : n ≤ 100000) : n ≤ sizeLine := Nat.le_trans h (by decide)
theorem szl {n : Nat} (h : n < 100000) : n < sizeLine := Nat.lt_of_lt_of_le h (by decide)
theorem kit_non_int : kitB "NoneType" "int" = some false := by decide +kernel
theorem kit_non_bool : kitB "NoneType" "bool" = some false := by decide +kernel
theorem kit_non_str : kitB "NoneType" "str" = some false := by decide +kernel
theorem kit_non_tuple : kitB "NoneType" "tuple" = some false := by decide +kernel
theorem kit_non_list : kitB "NoneType" "list" = some false := by decide +kernel
theorem kit_bl_int : kitB "bool" "int" = some true := by decide +kernel
theorem kit_bl_bool : kitB "bool" "bool" = some true := by decide +kernel
theorem kit_bl_str : kitB "bool" "str" = some false := by decide +kernel
theorem kit_bl_tuple : kitB "bool" "tuple" = some false := by decide +kernel
theorem kit_bl_list : kitB "bool" "list" = some false := by decide +kernel
theorem kit_int_int : kitB "int" "int" = some true := by decide +kernel
theorem kit_int_bool : kitB "int" "bool" = some false := by decide +kernel
theorem kit_int_str : kitB "int" "str" = some false := by decide +kernel
theorem kit_int_tuple : kitB "int" "tuple" = some false := by decide +kernel
theorem kit_int_list : kitB "int" "list" = some false := by decide +kernel
theorem kit_str_int : kitB "str" "int" = some false := by decide +kernel
theorem kit_str_bool : kitB "str" "bool" = some false := by decide +kernel
theorem kit_str_str : kitB "str" "str" = some true := by decide +kernel
theorem kit_str_tuple : kitB "str" "tuple" = some false := by decide +kernel
theorem kit_str_list : kitB "str" "list" = some false := by decide +kernel
theorem kit_tup_int : kitB "tuple" "int" = some false := by decide +kernel
theorem kit_tup_bool : kitB "tuple" "bool" = some false := by decide +kernel
theorem kit_tup_str : kitB "tuple" "str" = some false := by decide +kernel
theorem kit_tup_tuple : kitB "tuple" "tuple" = some true := by decide +kernel
theorem kit_tup_list : kitB "tuple" "list" = some false := by decide +kernel
theorem kit_lst_int : kitB "list" "int" = some false := by decide +kernel
theorem kit_lst_bool : kitB "list" "bool" = some false := by decide +kernel
theorem kit_lst_str : kitB "list" "str" = some false := by decide +kernel
theorem kit_lst_tuple : kitB "list" "tuple" = some false := by decide +kernel
theorem kit_lst_list : kitB "list" "list" = some true := by decide +kernel
/-- forgetting the frame's slots -/
theorem lessV.refl (v : Fv) : lessV v v := ⟨rfl, fun _ _ h => h⟩
theorem lessV.drop (i : Nat) {v v2 : Fv} (h : lessV v2 v) : lessV (v2.set i none) v := ⟨by simp [h.1], fun j d e => by
  by_cases hj : i = j
  · subst hj
    by_cases hi : i < v2.length
    · rw [List.getElem?_set_self hi] at e; cases e
    · rw [List.getElem?_eq_none (by simpa using hi)] at e; cases e
  · rw [List.getElem?_set_ne hj] at e
    exact h.2 j d e⟩
end DM

namespace DM
open PySem PySem.Spec PyProof.Rows L2
/-! ### marks, claims, as data and as such -/
def eM (m : List Int) : D := .tup (m.map .int)
def eC (c : List Int × Int) : D := .tup [eM c.1, .int c.2]
def eCs (cs : List (List Int × Int)) : D := .tup (cs.map eC)
def OkM (lo : Int) (m : List Int) : Prop := m.length = 3 ∧ ∀ x ∈ m, lo ≤ x ∧ x ≤ 9
def OkC (c : List Int × Int) : Prop := OkM (-1) c.1 ∧ 0 ≤ c.2 ∧ c.2 ≤ 9
def OkCs (cs : List (List Int × Int)) : Prop := cs.length ≤ 6 ∧ ∀ c ∈ cs, OkC c
def claimOk (x : D) : Bool := match x with
  | .tup [a, b] => marksOk a (-1) && numOk b 0 9
  | _ => false
theorem marksOk_e {lo : Int} {m : List Int} (h : OkM lo m) : marksOk (eM m) lo = true := by
  show (decide ((m.map D.int).length = 3) && (m.map D.int).all fun y => numOk y lo 9) = true
  rw [List.length_map, decide_eq_true h.1, Bool.true_and, List.all_eq_true]
  intro y hy
  obtain ⟨x, hx, rfl⟩ := List.mem_map.mp hy
  show (decide (lo ≤ x) && decide (x ≤ 9)) = true
  rw [decide_eq_true (h.2 x hx).1, decide_eq_true (h.2 x hx).2]; rfl
theorem numOk_e {x lo hi : Int} (h : lo ≤ x ∧ x ≤ hi) : numOk (.int x) lo hi = true := by
  show (decide (lo ≤ x) && decide (x ≤ hi)) = true
  rw [decide_eq_true h.1, decide_eq_true h.2]; rfl
theorem claimOk_e {c : List Int × Int} (h : OkC c) : claimOk (eC c) = true := by
  show (marksOk (eM c.1) (-1) && numOk (.int c.2) 0 9) = true
  rw [marksOk_e h.1, numOk_e h.2]; rfl
theorem pu_eM {n : Nat} {m : List Int} (h : m.length ≤ 100000) : pu (n + 1) (eM m) = true := by
  show (decide ((m.map D.int).length ≤ 100000) && (m.map D.int).all (pu n)) = true
  rw [List.length_map, decide_eq_true h, Bool.true_and, List.all_eq_true]
  intro y hy
  obtain ⟨x, hx, rfl⟩ := List.mem_map.mp hy
  cases n <;> rfl
theorem pu_int {n : Nat} {i : Int} : pu n (.int i) = true := by cases n <;> rfl
theorem pu_eC {n : Nat} {c : List Int × Int} (h : c.1.length ≤ 100000) : pu (n + 2) (eC c) = true := by
  show (decide (2 ≤ 100000) && (pu (n + 1) (eM c.1) && (pu (n + 1) (.int c.2) && true))) = true
  rw [pu_eM h, pu_int]; rfl
theorem pu_eCs {n : Nat} {cs : List (List Int × Int)} (h : OkCs cs) : pu (n + 3) (eCs cs) = true := by
  show (decide ((cs.map eC).length ≤ 100000) && (cs.map eC).all (pu (n + 2))) = true
  rw [List.length_map, decide_eq_true (by have := h.1; omega), Bool.true_and, List.all_eq_true]
  intro y hy
  obtain ⟨c, hc, rfl⟩ := List.mem_map.mp hy
  exact pu_eC (by have := (h.2 c hc).1.1; omega)
theorem belAll_map {α : Type} {n : Nat} {e : α → D} (h : ∀ a, bel n (e a) = true) : ∀ l : List α, bel.belAll n (l.map e) = true
  | [] => rfl
  | a :: l => by
    show (bel n (e a) && bel.belAll n (l.map e)) = true
    rw [h a, belAll_map h l]; rfl
theorem bel_eM {n : Nat} (m : List Int) : bel n (eM m) = true := belAll_map (fun _ => rfl) m
theorem bel_eC {n : Nat} (c : List Int × Int) : bel n (eC c) = true := by
  show (bel n (eM c.1) && (bel n (.int c.2) && true)) = true
  rw [bel_eM]; rfl
theorem bel_eCs {n : Nat} (c : List (List Int × Int)) : bel n (eCs c) = true := belAll_map bel_eC c
theorem belInts {n : Nat} (l : List Int) : bel.belAll n (l.map D.int) = true := belAll_map (fun _ => rfl) l
/-! ### how much claims fit: as the program reckons it -/
def toldL (w : List Int) (n : Nat) : List Nat := (List.range n).filter fun k => decide (0 ≤ w.getD k 0)
def fit1 (m : List Int) (c : List Int × Int) : Option Int :=
  if ((toldL c.1 m.length).filter fun k => !decide (c.1.getD k 0 = m.getD k 0)) = [] then some (10 * c.2 + (toldL c.1 m.length).length) else none
def fitOf (cs : List (List Int × Int)) (m : List Int) : Option Int := (cs.filterMap (fit1 m)).max?
theorem rngD0 (n : Nat) : rngD 0 n = (List.range n).map fun (k : Nat) => D.int (k : Int) := by
  unfold rngD
  exact List.map_congr_left fun k _ => by rw [Int.zero_add]
theorem max_is {l : List Int} {m : Int} (h : m ∈ l) (g : ∀ y ∈ l, y ≤ m) : l.max? = some m := (List.max?_eq_some_iff).mpr ⟨h, g⟩
theorem map_getD {l : List Int} {k : Nat} (h : k < l.length) : (l.map D.int)[k]? = some (.int (l.getD k 0)) := by
  rw [List.getElem?_map, List.getElem?_eq_getElem h]
  simp [List.getD, List.getElem?_eq_getElem h]
theorem at_ints {l : List Int} {k : Nat} (h : k < l.length) : atI (l.map D.int) (k : Int) = some (.int (l.getD k 0)) := atI_nat (map_getD h)
theorem list_fm {l : List Nat} {p : Nat → Bool} {f : D → Option D} (hf : ∀ k ∈ l, f (.int (k : Int)) = if p k then some (.int (k : Int)) else none) : (l.map fun (k : Nat) => D.int (k : Int)).filterMap f = (l.filter p).map fun (k : Nat) => D.int (k : Int) := by
  induction l with
  | nil => rfl
  | cons k l ih =>
    have e := hf k List.mem_cons_self
    have ih := ih fun j hj => hf j (List.mem_cons_of_mem _ hj)
    rw [List.map_cons, List.filterMap_cons, e]
    by_cases hp : p k = true
    · simp only [hp, if_true, List.filter_cons, List.map_cons]; rw [ih]
    · simp only [hp, List.filter_cons]; exact ih
theorem range_fm {n : Nat} {p : Nat → Bool} {f : D → Option D} (hf : ∀ k, k < n → f (.int (k : Int)) = if p k then some (.int (k : Int)) else none) : (rngD 0 n).filterMap f = ((List.range n).filter p).map fun (k : Nat) => D.int (k : Int) := by
  rw [rngD0]
  exact list_fm fun k hk => hf k (List.mem_range.mp hk)
def eO (o : Option Int) : D := D.ofO o
end DM

namespace DM
open PySem PySem.Spec PyProof.Rows L2
/-! ### what the laws draw -/
structure Dr where
  m : Int
  cells : List Int
  at_ : Nat
/-- the store of a law: the cells at 0, what is drawn from at 1, the rest -/
def dS (dr : Dr) (R : Store) : Store := .lst (dr.cells.map D.int) :: .lst [.int dr.m, .loc 0, .int dr.at_] :: R
def Dr.pl (dr : Dr) : Nat := dr.at_ % (if 1 < dr.cells.length then dr.cells.length else 1)
def Dr.cell (dr : Dr) : Int := if dr.cells = [] then 0 else dr.cells.getD dr.pl 0
def nx (dr : Dr) (k : Int) : Int × Dr :=
  if 1000000000000000000 ≤ dr.cell then (dr.cell % k, ⟨dr.m, dr.cells.set dr.pl (dr.cell / k), dr.at_⟩)
  else ((dr.m * 48271 + dr.cell * 69621 + 11) % 2147483647 / 7 % k, ⟨(dr.m * 48271 + dr.cell * 69621 + 11) % 2147483647, dr.cells, dr.at_ + 1⟩)
theorem nx_bd (dr : Dr) {k : Int} (h : 0 < k) : 0 ≤ (nx dr k).1 ∧ (nx dr k).1 < k := by
  unfold nx
  split
  · exact ⟨Int.emod_nonneg _ (by omega), Int.emod_lt_of_pos _ h⟩
  · exact ⟨Int.emod_nonneg _ (by omega), Int.emod_lt_of_pos _ h⟩
def mixI (ns : List Int) (seed : Int) : Int := ns.foldl (fun m c => (m * 48271 + c % 2147483629 + 1) % 2147483647) seed
def mixDr (ns : List Int) (seed : Int) : Dr := ⟨mixI ns seed, ns, 0⟩
theorem dS_len (dr : Dr) (R : Store) : (dS dr R).length = R.length + 2 := rfl
theorem bel_dS {n : Nat} {dr dr' : Dr} {R : Store} (h : belS n (dS dr R)) (hn : 0 < n) : belS n (dS dr' R) := by
  refine belS_cons (belInts _) (belS_cons ?_ fun l o e => h (l + 2) o e)
  show (true && (decide (0 < n) && (true && true))) = true
  rw [decide_eq_true hn]; rfl
theorem bel_dR {n : Nat} {dr : Dr} {R : Store} (h : belS n (dS dr R)) : belS n R := fun l o e => h (l + 2) o e
theorem cov_dS {dr dr' : Dr} {R G : Store} {d : D} (b : belS (dS dr R).length (dS dr R)) (bd : bel (dS dr R).length d = true) : CovD (dS dr R).length d (dS dr' R ++ G) d (dS dr' R) := by
  have hb : belS (dS dr' R).length (dS dr' R) := bel_dS (dr := dr) b (by show 0 < R.length + 2; omega)
  exact CovD.drop (S := dS dr' R) hb bd
end DM

namespace DM
open PySem PySem.Spec PyProof.Rows L2
theorem bel_loc {n l : Nat} (h : l < n) : bel n (.loc l) = true := decide_eq_true h
theorem lessN : lessV [] [] := ⟨rfl, fun _ _ h => h⟩
theorem lessK {x : Option D} {v2 v : Fv} (h : lessV v2 v) : lessV (x :: v2) (x :: v) := ⟨by simp [h.1], fun i d e => by
  cases i with
  | zero => exact e
  | succ i => exact h.2 i d (by simpa using e)⟩
theorem lessS {x : Option D} {v2 v : Fv} (h : lessV v2 v) : lessV (none :: v2) (x :: v) := ⟨by simp [h.1], fun i d e => by
  cases i with
  | zero => simp at e
  | succ i => exact h.2 i d (by simpa using e)⟩
theorem belN {n : Nat} : belV n [] := fun i d e => by simp at e
theorem belY {n : Nat} {d : D} {v : Fv} (hd : bel n d = true) (h : belV n v) : belV n (some d :: v) := fun i e q => by
  cases i with
  | zero => have : d = e := by simpa using q
            subst this; exact hd
  | succ i => exact h i e (by simpa using q)
theorem belZ {n : Nat} {v : Fv} (h : belV n v) : belV n (none :: v) := fun i e q => by
  cases i with
  | zero => simp at q
  | succ i => exact h i e (by simpa using q)
/-! ### drawing one by one -/
def dMap {α β : Type} (f : β → Dr → α × Dr) : List β → Dr → List α × Dr
  | [], dr => ([], dr)
  | b :: bs, dr => ((f b dr).1 :: (dMap f bs (f b dr).2).1, (dMap f bs (f b dr).2).2)
theorem dMap_snoc {α β : Type} (f : β → Dr → α × Dr) : ∀ (bs : List β) (b : β) (dr : Dr), dMap f (bs ++ [b]) dr = ((dMap f bs dr).1 ++ [(f b (dMap f bs dr).2).1], (f b (dMap f bs dr).2).2)
  | [], b, dr => rfl
  | c :: bs, b, dr => by
    show ((f c dr).1 :: (dMap f (bs ++ [b]) (f c dr).2).1, (dMap f (bs ++ [b]) (f c dr).2).2) = _
    rw [dMap_snoc f bs b (f c dr).2]
    rfl
theorem dMap_len {α β : Type} (f : β → Dr → α × Dr) : ∀ (bs : List β) (dr : Dr), (dMap f bs dr).1.length = bs.length
  | [], _ => rfl
  | b :: bs, dr => by
    show (dMap f bs (f b dr).2).1.length + 1 = bs.length + 1
    rw [dMap_len f bs]
theorem dMap_all {α β : Type} {f : β → Dr → α × Dr} {p : α → Prop} : ∀ {bs : List β} {dr : Dr}, (∀ b ∈ bs, ∀ dr, p (f b dr).1) → ∀ a ∈ (dMap f bs dr).1, p a
  | [], _, _, a, ha => by cases ha
  | b :: bs, dr, h, a, ha => by
    rcases List.mem_cons.mp ha with rfl | ha
    · exact h b List.mem_cons_self dr
    · exact dMap_all (fun c hc => h c (List.mem_cons_of_mem _ hc)) a ha
theorem take_snoc {α : Type} {l : List α} {i : Nat} {x : α} (h : l[i]? = some x) : l.take (i + 1) = l.take i ++ [x] := by rw [List.take_add_one, h]; rfl
theorem map_at {α β : Type} {e : α → β} {l : List α} {i : Nat} {d : β} (h : (l.map e)[i]? = some d) : ∃ c, l[i]? = some c ∧ d = e c := by
  rw [List.getElem?_map] at h
  cases q : l[i]? with
  | none => rw [q] at h; cases h
  | some c => rw [q] at h; exact ⟨c, rfl, (Option.some.inj h).symm⟩
theorem at_R {R G : Store} {o : Ob} : (R ++ o :: G)[R.length]? = some o := by simp
theorem set_R {R G : Store} {o u : Ob} : (R ++ o :: G).set R.length u = R ++ u :: G := by
  rw [List.set_append_right _ _ (Nat.le_refl _)]; simp
theorem at_dR {dr : Dr} {R G : Store} {o : Ob} : (dS dr (R ++ o :: G))[R.length + 2]? = some o := at_R
theorem set_dR {dr : Dr} {R G : Store} {o u : Ob} : (dS dr (R ++ o :: G)).set (R.length + 2) u = dS dr (R ++ u :: G) := by
  show _ :: _ :: (R ++ o :: G).set R.length u = _
  rw [set_R]; rfl
/-- a comprehension whose elements draw -/
theorem lc_draw {X : Cx} {scope : Scope} {elt : Expr} {up : D → Fv → Option Fv} {vs : List Nat} {v : Fv} {n : Nat} {ok : Store → Prop} {dr : Dr} {R : Store} {Q : D → Store → Prop} {α β : Type} (encB : β → D) (enc : α → D) (f : β → Dr → α × Dr) (bs : List β)
    (hbel : ∀ a m, bel m (enc a) = true) (hb : belS (dS dr R).length (dS dr R)) (hz : bs.length ≤ 100000) (hok : ∀ dr acc, ok (dS dr R ++ [.lst acc]))
    (turn : ∀ b dr' acc, b ∈ bs → ∃ v3, up (encB b) (wipeD v vs) = some v3 ∧ ∀ Y, BlkOf X scope Y → WE Y elt v3 (dS dr' R ++ [.lst acc]) fun y S4 => y = enc (f b dr').1 ∧ ∃ G, S4 = dS (f b dr').2 R ++ [.lst acc] ++ G)
    (h : Q (.loc (dS dr R).length) (dS (dMap f bs dr).2 R ++ [.lst ((dMap f bs dr).1.map enc)])) : LcTurns X scope [] elt up vs v n ⟨bs.map encB, ok⟩ (dS dr R) Q := by
  refine ⟨fun i acc S2 => S2 = dS (dMap f (bs.take i) dr).2 R ∧ acc = (dMap f (bs.take i) dr).1.map enc, ⟨rfl, rfl⟩, ?_, ?_, ?_⟩
  · rintro i acc S2 hi ⟨rfl, rfl⟩
    exact ⟨rfl, hok _ _⟩
  · rintro i d acc S2 hd ⟨rfl, rfl⟩
    obtain ⟨b, hbi, rfl⟩ := map_at hd
    obtain ⟨v3, h1, h2⟩ := turn b (dMap f (bs.take i) dr).2 ((dMap f (bs.take i) dr).1.map enc) (List.mem_of_getElem? hbi)
    have hi : i < bs.length := (List.getElem?_eq_some_iff.mp hbi).1
    refine ⟨v3, h1, fun Y hY => ⟨fun _ Z hZ => ?_, fun z => by cases z⟩⟩
    refine (h2 Z hZ).mono fun y S4 ⟨e1, G, e2⟩ => ?_
    subst e1 e2
    have ts : dMap f (bs.take (i + 1)) dr = ((dMap f (bs.take i) dr).1 ++ [(f b (dMap f (bs.take i) dr).2).1], (f b (dMap f (bs.take i) dr).2).2) := by rw [take_snoc hbi, dMap_snoc]
    refine ⟨enc (f b (dMap f (bs.take i) dr).2).1, dS (f b (dMap f (bs.take i) dr).2).2 R ++ [.lst ((dMap f (bs.take i) dr).1.map enc)], ?_, ?_, dS (f b (dMap f (bs.take i) dr).2).2 R, rfl, ?_, ?_⟩
    · have hl : ∀ dr' : Dr, ∀ acc, (dS dr' R ++ [Ob.lst acc]).length = (dS dr R).length + 1 := fun _ _ => by simp [dS]
      have := CovD.drop (S := dS (f b (dMap f (bs.take i) dr).2).2 R ++ [.lst ((dMap f (bs.take i) dr).1.map enc)]) (G := G) (d := enc (f b (dMap f (bs.take i) dr).2).1) (by
        rw [hl]
        exact belS_snoc (bel_dS (dr := dr) (belS_mono (Nat.le_succ _) hb) (by show 0 < R.length + 2 + 1; omega)) (belAll_map (fun a => hbel a _) _)) (hbel _ _)
      rw [hl] at this
      exact this
    · rw [List.length_map, dMap_len, List.length_take]
      exact szl (by omega)
    · rw [ts]
    · rw [ts]; simp
  · rintro acc S2 ⟨rfl, rfl⟩
    rw [show (Src.items ⟨bs.map encB, ok⟩) = bs.map encB from rfl, List.length_map, List.take_length]
    exact h
/-! ### marks, claims drawn -/
def pick3 (a : Int) : Int := ([2, 3, 10] : List Int).getD a.toNat 0
def dMark (_ : Nat) (dr : Dr) : Int × Dr := nx (nx dr 3).2 (pick3 (nx dr 3).1)
def dMarks (dr : Dr) : List Int × Dr := dMap dMark (List.range 3) dr
def dWant (m : Int) (dr : Dr) : Int × Dr := (if (nx dr 2).1 = 0 then m else -1, (nx dr 2).2)
def dClaim (_ : Nat) (dr : Dr) : (List Int × Int) × Dr :=
  let a := dMarks dr
  let b := dMap dWant a.1 a.2
  let c := nx b.2 2
  let e := nx c.2 (([2, 10] : List Int).getD c.1.toNat 0)
  ((b.1, e.1), e.2)
def dClaims (dr : Dr) : List (List Int × Int) × Dr :=
  let a := nx dr 2
  let b := nx a.2 (([3, 7] : List Int).getD a.1.toNat 0)
  dMap dClaim (List.range b.1.toNat) b.2
theorem pick3_bd {a : Int} (h : 0 ≤ a ∧ a < 3) : 2 ≤ pick3 a ∧ pick3 a ≤ 10 ∧ atI (([2, 3, 10] : List Int).map D.int) a = some (.int (pick3 a)) := by
  have : a = 0 ∨ a = 1 ∨ a = 2 := by omega
  rcases this with rfl | rfl | rfl <;> exact ⟨by decide, by decide, rfl⟩
theorem pick2_bd {a : Int} (x y : Int) (h : 0 ≤ a ∧ a < 2) : (([x, y] : List Int).getD a.toNat 0 = x ∨ ([x, y] : List Int).getD a.toNat 0 = y) ∧ atI (([x, y] : List Int).map D.int) a = some (.int (([x, y] : List Int).getD a.toNat 0)) := by
  have : a = 0 ∨ a = 1 := by omega
  rcases this with rfl | rfl
  · exact ⟨.inl rfl, rfl⟩
  · exact ⟨.inr rfl, rfl⟩
theorem dMarks_ok (dr : Dr) : OkM 0 (dMarks dr).1 := by
  refine ⟨dMap_len _ _ _, fun x hx => ?_⟩
  refine dMap_all (p := fun x => 0 ≤ x ∧ x ≤ 9) (f := dMark) (fun b _ dr => ?_) x hx
  have h1 := nx_bd dr (k := 3) (by decide)
  have h2 := pick3_bd h1
  have h3 := nx_bd (nx dr 3).2 (k := pick3 (nx dr 3).1) (by omega)
  show 0 ≤ (nx (nx dr 3).2 (pick3 (nx dr 3).1)).1 ∧ (nx (nx dr 3).2 (pick3 (nx dr 3).1)).1 ≤ 9
  omega
theorem dMap_allM {α β : Type} {f : β → Dr → α × Dr} {p : α → Prop} {bs : List β} {dr : Dr} (h : ∀ b ∈ bs, ∀ dr, p (f b dr).1) : ∀ a ∈ (dMap f bs dr).1, p a := dMap_all h
theorem dClaim_ok (b : Nat) (dr : Dr) : OkC (dClaim b dr).1 := by
  have hm := dMarks_ok dr
  refine ⟨⟨?_, fun x hx => ?_⟩, ?_⟩
  · show (dMap dWant (dMarks dr).1 (dMarks dr).2).1.length = 3
    rw [dMap_len]; exact hm.1
  · refine dMap_allM (p := fun x => -1 ≤ x ∧ x ≤ 9) (f := dWant) (bs := (dMarks dr).1) (fun m hmm dr' => ?_) x hx
    have := hm.2 m hmm
    show -1 ≤ (if (nx dr' 2).1 = 0 then m else -1) ∧ (if (nx dr' 2).1 = 0 then m else -1) ≤ 9
    split <;> omega
  · have h1 := nx_bd (dMap dWant (dMarks dr).1 (dMarks dr).2).2 (k := 2) (by decide)
    have h2 := (pick2_bd 2 10 h1).1
    have h3 := nx_bd (nx (dMap dWant (dMarks dr).1 (dMarks dr).2).2 2).2 (k := (([2, 10] : List Int).getD (nx (dMap dWant (dMarks dr).1 (dMarks dr).2).2 2).1.toNat 0)) (by rcases h2 with e | e <;> rw [e] <;> decide)
    show 0 ≤ (nx (nx (dMap dWant (dMarks dr).1 (dMarks dr).2).2 2).2 (([2, 10] : List Int).getD (nx (dMap dWant (dMarks dr).1 (dMarks dr).2).2 2).1.toNat 0)).1 ∧ (nx (nx (dMap dWant (dMarks dr).1 (dMarks dr).2).2 2).2 (([2, 10] : List Int).getD (nx (dMap dWant (dMarks dr).1 (dMarks dr).2).2 2).1.toNat 0)).1 ≤ 9
    rcases h2 with e | e <;> rw [e] at h3 ⊢ <;> omega
theorem dClaims_ok (dr : Dr) : OkCs (dClaims dr).1 := by
  have h1 := nx_bd dr (k := 2) (by decide)
  have h2 := (pick2_bd 3 7 h1).1
  have h3 := nx_bd (nx dr 2).2 (k := (([3, 7] : List Int).getD (nx dr 2).1.toNat 0)) (by rcases h2 with e | e <;> rw [e] <;> decide)
  refine ⟨?_, dMap_all (f := dClaim) fun b _ dr => dClaim_ok b dr⟩
  show (dMap dClaim (List.range (nx (nx dr 2).2 (([3, 7] : List Int).getD (nx dr 2).1.toNat 0)).1.toNat) _).1.length ≤ 6
  rw [dMap_len, List.length_range]
  rcases h2 with e | e <;> rw [e] at h3 ⊢ <;> omega
end DM

namespace DM
open PySem PySem.Spec PyProof.Rows L2
/-! ### data as _law_alike goes through it -/
theorem get_app {S G : Store} {l : Nat} {o : Ob} (h : S[l]? = some o) : (S ++ G)[l]? = some o := by
  rw [List.getElem?_append_left (List.getElem?_eq_some_iff.mp h).1]; exact h
mutual
theorem PD.app {S : Store} (G : Store) : ∀ (p : PyData) (x : D), PD S x p → PD (S ++ G) x p
  | .none, _, h => by cases h; exact .non
  | .bool b, _, h => by cases h; exact .bl b
  | .int i, _, h => by cases h; exact .int i
  | .str s, _, h => by cases h; exact .str s
  | .tuple ps, _, h => by
    cases h with
    | tup h => exact .tup (PDs.app G ps _ h)
  | .list ps, _, h => by
    cases h with
    | lst hl h => exact .lst (get_app hl) (PDs.app G ps _ h)
  | .dict _, _, h => by cases h
theorem PDs.app {S : Store} (G : Store) : ∀ (ps : List PyData) (xs : List D), PDs S xs ps → PDs (S ++ G) xs ps
  | [], _, h => by cases h; exact .nil
  | p :: ps, _, h => by
    cases h with
    | cons h1 h2 => exact .cons (PD.app G p _ h1) (PDs.app G ps _ h2)
end
theorem PDs.len {S : Store} : ∀ {ps : List PyData} {xs : List D}, PDs S xs ps → xs.length = ps.length
  | [], _, h => by cases h; rfl
  | p :: ps, _, h => by
    cases h with
    | cons h1 h2 => simp [PDs.len h2]
theorem PDs.get {S : Store} : ∀ {ps : List PyData} {xs : List D} {i : Nat} {p : PyData}, PDs S xs ps → ps[i]? = some p → ∃ x, xs[i]? = some x ∧ PD S x p
  | [], _, i, p, h, e => by simp at e
  | q :: ps, _, 0, p, h, e => by
    cases h with
    | cons h1 h2 =>
      have : q = p := by simpa using e
      subst this
      exact ⟨_, rfl, h1⟩
  | q :: ps, _, i + 1, p, h, e => by
    cases h with
    | cons h1 h2 =>
      obtain ⟨x, a, b⟩ := PDs.get (i := i) (p := p) h2 (by simpa using e)
      exact ⟨x, by simpa using a, b⟩
/-- so deep at the most, no list or tuple too long -/
def okP : Nat → PyData → Bool
  | _, .none => true
  | _, .bool _ => true
  | _, .int _ => true
  | _, .str x => SeqAt.shaped (.str x)
  | n + 1, .list ps => decide (ps.length ≤ 100000) && ps.all (okP n)
  | n + 1, .tuple ps => decide (ps.length ≤ 100000) && ps.all (okP n)
  | _, _ => false
theorem filterMap_nil {α β : Type} {f : α → Option β} {l : List α} (h : ∀ a ∈ l, f a = none) : l.filterMap f = [] := List.filterMap_eq_nil_iff.mpr h
theorem rngD_mem {lo : Int} {n : Nat} {d : D} (h : d ∈ rngD lo n) : ∃ k : Nat, k < n ∧ d = .int (lo + (k : Int)) := by
  obtain ⟨k, h1, h2⟩ := List.mem_map.mp h
  exact ⟨k, List.mem_range.mp h1, h2.symm⟩
end DM

namespace DM
open PySem PySem.Spec PyProof.Rows L2
/-! ### how much claims fit: as the laws reckon it -/
def eqL (w m : List Int) : List Nat := (List.range 3).filter fun k => decide (w.getD k 0 = m.getD k 0)
def neL (w : List Int) : List Nat := (List.range 3).filter fun k => !decide (w.getD k 0 = -1)
def lawStep (m : List Int) (b : Option Int) (c : List Int × Int) : Option Int :=
  if (eqL c.1 m).length = (neL c.1).length then (match b with
    | none => some (10 * c.2 + (eqL c.1 m).length)
    | some x => if x < 10 * c.2 + (eqL c.1 m).length then some (10 * c.2 + (eqL c.1 m).length) else some x) else b
def lawFit (cs : List (List Int × Int)) (m : List Int) : Option Int := cs.foldl (lawStep m) none
theorem filter_len_eq {α : Type} {p q : α → Bool} {l : List α} (h : ∀ a ∈ l, p a = q a) : (l.filter p) = (l.filter q) := List.filter_congr h
theorem getD_mem {l : List Int} {k : Nat} (h : k < l.length) : l.getD k 0 ∈ l := by
  have : l.getD k 0 = l[k] := by simp [List.getD, List.getElem?_eq_getElem h]
  rw [this]; exact List.getElem_mem h
/-- one claim, reckoned both ways -/
theorem fit1_law {m : List Int} {c : List Int × Int} (hc : OkC c) (hm : OkM 0 m) : fit1 m c = if (eqL c.1 m).length = (neL c.1).length then some (10 * c.2 + (eqL c.1 m).length) else none := by
  have h3 : m.length = 3 := hm.1
  have w3 : c.1.length = 3 := hc.1.1
  have t : toldL c.1 m.length = neL c.1 := by
    unfold toldL neL
    rw [h3]
    refine List.filter_congr fun k hk => ?_
    have hk3 : k < 3 := List.mem_range.mp hk
    have := hc.1.2 _ (getD_mem (l := c.1) (k := k) (by omega))
    by_cases h : 0 ≤ c.1.getD k 0
    · have h' : ¬ c.1.getD k 0 = -1 := by omega
      rw [decide_eq_true h, decide_eq_false h']; rfl
    · have h' : c.1.getD k 0 = -1 := by omega
      rw [decide_eq_false h, decide_eq_true h']; rfl
  have e : eqL c.1 m = (neL c.1).filter fun k => decide (c.1.getD k 0 = m.getD k 0) := by
    unfold eqL neL
    rw [List.filter_filter]
    refine List.filter_congr fun k hk => ?_
    have hk3 : k < 3 := List.mem_range.mp hk
    have := hm.2 _ (getD_mem (l := m) (k := k) (by omega))
    by_cases h : c.1.getD k 0 = m.getD k 0
    · have h' : ¬ c.1.getD k 0 = -1 := by omega
      rw [decide_eq_true h, decide_eq_false h']; rfl
    · rw [decide_eq_false h]; rfl
  have key : ((neL c.1).filter fun k => !decide (c.1.getD k 0 = m.getD k 0)) = [] ↔ (eqL c.1 m).length = (neL c.1).length := by
    rw [e, List.length_filter_eq_length_iff, List.filter_eq_nil_iff]
    constructor
    · intro h a ha
      have := h a ha
      simpa using this
    · intro h a ha
      have := h a ha
      simpa using this
  unfold fit1
  rw [t]
  by_cases h : (eqL c.1 m).length = (neL c.1).length
  · rw [if_pos (key.mpr h), if_pos h, h]
  · rw [if_neg (fun z => h (key.mp z)), if_neg h]
theorem max_fold : ∀ (l : List Int) (x : Int), l.foldl (fun b v => match b with | none => some v | some y => if y < v then some v else some y) (some x) = some (l.foldl max x)
  | [], x => rfl
  | v :: l, x => by
    show l.foldl _ (if x < v then some v else some x) = some (l.foldl max (max x v))
    by_cases h : x < v
    · rw [if_pos h, max_fold l v, Int.max_eq_right (by omega)]
    · rw [if_neg h, max_fold l x, Int.max_eq_left (by omega)]
theorem fit_law {cs : List (List Int × Int)} {m : List Int} (hcs : OkCs cs) (hm : OkM 0 m) : lawFit cs m = fitOf cs m := by
  have gen : ∀ (l : List (List Int × Int)) (b : Option Int), (∀ c ∈ l, OkC c) → l.foldl (lawStep m) b = (l.filterMap (fit1 m)).foldl (fun b v => match b with | none => some v | some y => if y < v then some v else some y) b := by
    intro l
    induction l with
    | nil => intro b _; rfl
    | cons c l ih =>
      intro b h
      have hc := h c List.mem_cons_self
      have e := fit1_law hc hm
      rw [List.foldl_cons, ih _ fun d hd => h d (List.mem_cons_of_mem _ hd), List.filterMap_cons, e]
      unfold lawStep
      by_cases h1 : (eqL c.1 m).length = (neL c.1).length
      · simp only [if_pos h1, List.foldl_cons]
      · simp only [if_neg h1]
  unfold lawFit fitOf
  rw [gen cs none hcs.2]
  cases e : cs.filterMap (fit1 m) with
  | nil => rfl
  | cons x xs => rw [List.foldl_cons, max_fold]; rfl
theorem lawFit_snoc (m : List Int) (cs : List (List Int × Int)) (c : List Int × Int) : lawFit (cs ++ [c]) m = lawStep m (lawFit cs m) c := by
  unfold lawFit; rw [List.foldl_append]; rfl
/-! ### a law's own end -/
def spLaw (K : PySem.W.Frag) : Sp := fun vs H Q _ => ∃ (a : Addr) (ns : List Int), vs = [.ref a] ∧ SqL K H a (ns.map V.int) ∧ Only H ∧ ns.length ≤ 63 ∧ ∀ H', Q (.bl true) H'
def lawEnds : Ed := { nx := fun _ _ => False, rt := fun d _ => d = .bl true }
section
variable {P : Program} {w : World} {K : PySem.W.Frag} {mg : Str → Option Value} {base : Heap}
theorem lawD {st : Stmt} {f : Addr} {fd : FuncData} {N : List Str} {k : Nat} (Fn : FunD K "law" "law" (defArgs st) (defBody st) (defScope st) [] [] f fd) (Sc : FnScope N ["_law_script"] (defScope st))
    (body : ∀ (cdv : Value) (A : Around) (outer : List Env) (s : Shared) (H : Hp) (E : XK) (d : D) (ns : List Int), Room k (cxOf CX0 P w K mg base N "law" (defScope st) f cdv A outer s H E).nox.A → ScrD K d ns → ns.length ≤ 63 →
      WSs (cxOf CX0 P w K mg base N "law" (defScope st) f cdv A outer s H E).nox 0 (defBody st) (startD N [d]) [] lawEnds) : FnOk P w K mg base CX0 (k + 1) f fd ["_law_script"] (spLaw K) := by
  refine Fn.ok Sc (fun vs H Q E h => ?_) (fun cdv A outer s H vs Q E hr h => ?_)
  · obtain ⟨a, ns, rfl, _⟩ := h
    rfl
  · obtain ⟨a, ns, rfl, sq, ho, hl, kq⟩ := h
    refine ⟨_, PSs.nox pss_w, ?_⟩
    obtain ⟨d, hd, rd⟩ : ∃ d, ScrD K d ns ∧ RD [] H d (.ref a) := by
      rcases sq with (sq | ⟨o, sq⟩) | sq
      · rcases ho a with z | ⟨o, xs, z⟩
        · rw [z] at sq; cases sq
        · rw [z] at sq; cases sq
      · exact ⟨.scr (.ns ns), .inl rfl, a, o, rfl, sq⟩
      · exact ⟨.ref a, .inr ⟨a, rfl, sq⟩, rfl⟩
    have rs : RS [] H [] := ⟨rfl, List.nodup_nil, fun l o e => by simp at e⟩
    refine body cdv A outer s H E d ns hr hd hl [] H [] _ H _ rfl (List.prefix_refl _) (Keep.refl H) (re_start (ds := [d]) (vs := [.ref a]) ⟨_, _, rfl, rd, rfl⟩) rs ⟨fun _ _ _ _ _ _ _ _ _ z => z.elim, fun F d v H' S' _ _ _ r e => ?_, fun _ _ _ _ _ _ _ _ _ z => z.elim, fun _ _ _ _ _ _ _ _ _ z => z.elim, XT.no⟩
    subst e
    cases (show v = .bl true from r)
    exact kq H'
end
end DM

namespace DM
open PySem PySem.Spec PyProof.Rows L2
/-! ### sorted of pure data -/
def leD (x y : D) : Bool := PySem.W.dataLe false toP x y
def rSortD (K : PySem.W.Frag) : List V → Hp → VK → Prop := fun vs H Q => ∃ (a : Addr) (zs : List (D × V)), vs = [.ref a] ∧ SqL K H a (zs.map (·.2)) ∧ DpAll K H (zs.map (·.2)) (zs.map fun z => toP z.1) ∧ PySem.W.AllAlike (zs.map fun z => toP z.1) ∧ PySem.W.Sortable (zs.map fun z => toP z.1) ∧
  (∀ z ∈ zs, (toP z.1).depth ≤ 60) ∧ ∀ p, H p = none → Q (.ref p) (upd H p (.lst ((zs.mergeSort (PySem.W.dataLe false fun z => toP z.1)).map (·.2))))
theorem each_rel : ∀ {zs : List (D × V)} {us : List Value}, Vals (zs.map (·.2)) us → PySem.W.EachIs (fun u (z : D × V) => RelV z.2 u) us zs
  | [], _, .nil => .nil
  | z :: zs, _ :: us, .cons r t => .cons r (each_rel t)
theorem each_reads {h : Heap} : ∀ {zs : List (D × V)} {us : List Value} {as : List Addr}, ReadsAll h us (zs.map fun z => toP z.1) as → PySem.W.EachIs (fun u (z : D × V) => ∃ as, Reads h u (toP z.1) as) us zs
  | [], _, _, r => by cases r; exact .nil
  | z :: zs, _, _, r => by
    cases r with
    | cons r t => exact .cons ⟨_, r⟩ (each_reads t)
theorem rel_each : ∀ {zs : List (D × V)} {us : List Value}, PySem.W.EachIs (fun u (z : D × V) => RelV z.2 u) us zs → Vals (zs.map (·.2)) us
  | _, _, .nil => .nil
  | _, _, .cons r t => .cons r (rel_each t)
section
variable {X : Cx} {S : Store} {Q : D → Store → Prop}
theorem cr_sortD (hu : X.A.units + 64 < cLine) : CallR X (.builtin "sorted") (rSortD X.K) := by
  intro pins s σ H vs us Q I r h
  obtain ⟨a, zs, rfl, hs, hd, hal, hk, hdep, q⟩ := h
  obtain ⟨its, rv, hl, hz⟩ := I.list hs
  obtain ⟨u, rfl, ru⟩ := vals1 r
  obtain rfl : u = Value.ref a := ru
  obtain ⟨as, hr⟩ := Dp.readsAll I _ _ _ hd rv
  have hz' : zs.length ≤ sizeLine := by simpa using hz
  refine PySem.W.sorted_data (enc := fun z : D × V => toP z.1) hl.isList (each_rel rv) (each_reads hr) hal hk hz' (fun z hm => ?_) fun out ho eo => ?_
  · have := hdep z hm
    omega
  · obtain ⟨c, hc⟩ := sortedAll_at s.heap its out.toArray
    refine ⟨.ref (s.heap.objs.size + 1), upd H (s.heap.objs.size + 1) (.lst _), I.laid (t' := s.toks) (fun b o e => sortedAll_old e) (Nat.le_succ _) ⟨?_, out, c, rel_each eo, hc⟩, rfl, q _ (I.hok.fresh (Nat.le_succ _))⟩
    rw [List.length_map, List.length_mergeSort]; exact hz'
theorem sort_rd {F : List Addr} {H : Hp} : ∀ (zs : List (D × V)), (∀ z ∈ zs, RD F H z.1 z.2) → RDs F H (zs.map (·.1)) (zs.map (·.2))
  | [], _ => rfl
  | z :: zs, h => ⟨z.2, _, rfl, h z List.mem_cons_self, sort_rd zs fun y hy => h y (List.mem_cons_of_mem _ hy)⟩
theorem rds_zip {F : List Addr} {H : Hp} : ∀ {xs : List D} {vs : List V}, RDs F H xs vs → ∃ zs : List (D × V), xs = zs.map (·.1) ∧ vs = zs.map (·.2) ∧ ∀ z ∈ zs, RD F H z.1 z.2
  | [], vs, r => ⟨[], rfl, r, fun _ h => by cases h⟩
  | x :: xs, vs, r => by
    obtain ⟨v, r', rfl, h1, h2⟩ := r
    obtain ⟨zs, e1, e2, h⟩ := rds_zip h2
    refine ⟨(x, v) :: zs, by rw [e1]; rfl, by rw [e2]; rfl, fun z hz => ?_⟩
    rcases List.mem_cons.mp hz with rfl | hz
    · exact h1
    · exact h z hz
/-- sorted(xs): the list of the same, in order -/
theorem CW.sortL {l : Nat} {xs : List D} (hl : S[l]? = some (.lst xs)) (hp : ∀ x ∈ xs, pu 60 x = true) (hal : PySem.W.AllAlike (xs.map toP)) (hk : PySem.W.Sortable (xs.map toP)) (hu : X.A.units + 64 < cLine)
    (h : Q (.loc S.length) (S ++ [.lst (xs.mergeSort leD)])) : CW X (.builtin "sorted") [.loc l] S Q := CW.of (cr_sortD hu) fun F H vs Q' rs r k => by
  obtain ⟨v, r', rfl, ⟨a, rfl, ha⟩, e⟩ := r
  cases (show r' = [] from e)
  obtain ⟨a', h', e1, e2, vs, e3, e4⟩ := rs.get hl
  rw [e1] at ha; cases ha
  subst e3
  have hpd : PDs S xs (toPs xs) := (pus_pd S xs hp).1
  have dpa := PDs.dp (K := X.K) rs _ _ _ hpd e4
  obtain ⟨zs, z1, z2, z3⟩ := rds_zip e4
  have mapP : ∀ l : List D, toPs l = l.map toP := fun l => by
    induction l with
    | nil => rfl
    | cons x l ih => show toP x :: toPs l = _; rw [ih]; rfl
  have mz : xs.map toP = zs.map fun z => toP z.1 := by rw [z1, List.map_map]; rfl
  refine ⟨a, zs, rfl, by rw [← z2]; exact SqL.of e2, by rw [← z2, ← mz, ← mapP]; exact dpa, by rw [← mz]; exact hal, by rw [← mz]; exact hk, fun z hz => ?_, fun p hp' => ?_⟩
  · exact (pu_pd S 60 z.1 (hp _ (by rw [z1]; exact List.mem_map.mpr ⟨z, hz, rfl⟩))).2.2
  · have em : (zs.mergeSort (PySem.W.dataLe false fun z => toP z.1)).map (·.1) = xs.mergeSort leD := by
      rw [z1]; exact List.map_mergeSort fun _ _ _ _ => rfl
    have rd : RDs F H (xs.mergeSort leD) ((zs.mergeSort (PySem.W.dataLe false fun z => toP z.1)).map (·.2)) := by
      rw [← em]
      exact sort_rd _ fun z hz => z3 z (List.mem_mergeSort.mp hz)
    exact k (F ++ [p]) (.loc S.length) (.ref p) _ _ ⟨[p], rfl⟩ (Keep.new hp') (rs.new (o := .lst (xs.mergeSort leD)) hp' ⟨_, rfl, rd⟩) ⟨p, rfl, by rw [← rs.len]; simp⟩ h
end
end DM

namespace DM
open PySem PySem.Spec PyProof.Rows L2
/-! ### dicts as tables -/
section
variable {κ : Type} [DecidableEq κ] {β : Type}
def getT (kvs : List (κ × β)) (k : κ) : Option β := (kvs.find? fun kv => decide (kv.1 = k)).map (·.2)
def putT (kvs : List (κ × β)) (k : κ) (v : β) : List (κ × β) :=
  if (kvs.any fun kv => decide (kv.1 = k)) = true then kvs.map (fun kv => if kv.1 = k then (kv.1, v) else kv) else kvs ++ [(k, v)]
theorem getT_nil (k : κ) : getT ([] : List (κ × β)) k = none := rfl
theorem getT_cons (p : κ × β) (r : List (κ × β)) (k : κ) : getT (p :: r) k = if p.1 = k then some p.2 else getT r k := by
  by_cases e : p.1 = k <;> simp [getT, List.find?_cons, e]
theorem any_getT (kvs : List (κ × β)) (k : κ) : (kvs.any fun kv => decide (kv.1 = k)) = (getT kvs k).isSome := by
  induction kvs with
  | nil => rfl
  | cons p r ih =>
    rw [List.any_cons, getT_cons, ih]
    by_cases e : p.1 = k <;> simp [e]
theorem putT_new {kvs : List (κ × β)} {k : κ} (v : β) (h : getT kvs k = none) : putT kvs k v = kvs ++ [(k, v)] := by
  unfold putT
  rw [any_getT, h]; rfl
theorem getT_snoc (kvs : List (κ × β)) (k j : κ) (v : β) : getT (kvs ++ [(k, v)]) j = match getT kvs j with | some x => some x | none => if k = j then some v else none := by
  induction kvs with
  | nil => show getT [(k, v)] j = _; rw [getT_cons]; rfl
  | cons p r ih =>
    rw [List.cons_append, getT_cons, getT_cons, ih]
    by_cases e : p.1 = j
    · rw [if_pos e, if_pos e]
    · rw [if_neg e, if_neg e]
theorem getT_map (kvs : List (κ × β)) (k j : κ) (v : β) : getT (kvs.map fun kv => if kv.1 = k then (kv.1, v) else kv) j = if j = k then (getT kvs j).map fun _ => v else getT kvs j := by
  induction kvs with
  | nil => simp [getT_nil]
  | cons p r ih =>
    rw [List.map_cons, getT_cons, getT_cons, ih]
    by_cases e : p.1 = k <;> by_cases e2 : j = k <;> by_cases e3 : p.1 = j <;> simp_all
theorem getT_put (kvs : List (κ × β)) (k j : κ) (v : β) : getT (putT kvs k v) j = if j = k then some v else getT kvs j := by
  unfold putT
  rw [any_getT]
  cases h : getT kvs k with
  | none =>
    rw [if_neg (by simp), getT_snoc]
    by_cases e : j = k
    · subst e; rw [h, if_pos rfl]
    · rw [if_neg e, if_neg (fun z => e z.symm)]; cases getT kvs j <;> rfl
  | some x =>
    rw [if_pos (by simp), getT_map]
    by_cases e : j = k
    · subst e; rw [h, if_pos rfl, if_pos rfl]; rfl
    · rw [if_neg e, if_neg e]
theorem putT_len (kvs : List (κ × β)) (k : κ) (v : β) : (putT kvs k v).length ≤ kvs.length + 1 := by
  unfold putT
  split
  · rw [List.length_map]; omega
  · rw [List.length_append]; exact Nat.le_refl _
theorem putT_keys_mem (kvs : List (κ × β)) (k : κ) (v : β) (h : (getT kvs k).isSome = true) : (putT kvs k v).map (·.1) = kvs.map (·.1) := by
  unfold putT
  rw [any_getT, if_pos h, List.map_map]
  exact List.map_congr_left fun p _ => by show (if p.1 = k then (p.1, v) else p).1 = p.1; split <;> rfl
theorem getT_keys {kvs : List (κ × β)} {k : κ} : (getT kvs k).isSome = decide (k ∈ kvs.map (·.1)) := by
  induction kvs with
  | nil => rfl
  | cons p r ih =>
    rw [getT_cons, List.map_cons]
    by_cases e : p.1 = k
    · subst e; simp
    · rw [if_neg e, ih]
      have : k ≠ p.1 := fun z => e z.symm
      simp [this]
theorem getT_mem {kvs : List (κ × β)} {k : κ} {v : β} (h : getT kvs k = some v) : (k, v) ∈ kvs := by
  induction kvs with
  | nil => cases h
  | cons p r ih =>
    rw [getT_cons] at h
    by_cases e : p.1 = k
    · rw [if_pos e] at h; cases h; subst e; exact List.mem_cons_self
    · rw [if_neg e] at h; exact List.mem_cons_of_mem _ (ih h)
theorem getT_nd {kvs : List (κ × β)} {k : κ} {v : β} (nd : (kvs.map (·.1)).Nodup) (h : (k, v) ∈ kvs) : getT kvs k = some v := by
  induction kvs with
  | nil => cases h
  | cons p r ih =>
    rw [getT_cons]
    rw [List.map_cons, List.nodup_cons] at nd
    rcases List.mem_cons.mp h with rfl | h
    · rw [if_pos rfl]
    · have : p.1 ≠ k := fun z => nd.1 (by rw [z]; exact List.mem_map.mpr ⟨_, h, rfl⟩)
      rw [if_neg this]; exact ih nd.2 h
end
section
variable {κ : Type} [DecidableEq κ] {F : List Addr} {H : Hp}
theorem RKs.val {k : κ} : ∀ {kvs : List (κ × D)} {vs : List (κ × V)}, RKs F H kvs vs → (getT kvs k = none → valV vs k = none) ∧ ∀ d, getT kvs k = some d → ∃ u, valV vs k = some u ∧ RD F H d u
  | [], vs, r => by
    cases (show vs = [] from r)
    exact ⟨fun _ => rfl, fun d h => by cases h⟩
  | p :: kvs, vs, r => by
    obtain ⟨v, r', rfl, h1, h2⟩ := r
    obtain ⟨i1, i2⟩ := RKs.val (k := k) h2
    rw [getT_cons]
    by_cases e : p.1 = k
    · rw [if_pos e, valV_pos (p := (p.1, v)) e]
      exact ⟨fun z => (by cases z), fun d z => (by cases z; exact ⟨v, rfl, h1⟩)⟩
    · rw [if_neg e, valV_neg (p := (p.1, v)) e]
      exact ⟨i1, i2⟩
theorem RKs.some_eq {k : κ} {kvs : List (κ × D)} {vs : List (κ × V)} (r : RKs F H kvs vs) : (valV vs k).isSome = (getT kvs k).isSome := by
  obtain ⟨i1, i2⟩ := RKs.val (k := k) r
  cases h : getT kvs k with
  | none => rw [i1 h]; rfl
  | some d => obtain ⟨u, e, _⟩ := i2 d h; rw [e]; rfl
theorem RKs.repl {k : κ} {d : D} {u : V} (hu : RD F H d u) : ∀ {kvs : List (κ × D)} {vs : List (κ × V)}, RKs F H kvs vs → RKs F H (kvs.map fun kv => if kv.1 = k then (kv.1, d) else kv) (vs.map fun kv => if kv.1 = k then (kv.1, u) else kv)
  | [], vs, r => by
    cases (show vs = [] from r)
    rfl
  | p :: kvs, vs, r => by
    obtain ⟨v, r', rfl, h1, h2⟩ := r
    rw [List.map_cons, List.map_cons]
    by_cases e : p.1 = k
    · rw [if_pos e, if_pos e]; exact ⟨u, _, rfl, hu, RKs.repl hu h2⟩
    · rw [if_neg e, if_neg e]; exact ⟨v, _, rfl, h1, RKs.repl hu h2⟩
theorem RKs.snoc {k : κ} {d : D} {u : V} (hu : RD F H d u) : ∀ {kvs : List (κ × D)} {vs : List (κ × V)}, RKs F H kvs vs → RKs F H (kvs ++ [(k, d)]) (vs ++ [(k, u)])
  | [], vs, r => by
    cases (show vs = [] from r)
    exact ⟨u, [], rfl, hu, rfl⟩
  | p :: kvs, vs, r => by
    obtain ⟨v, r', rfl, h1, h2⟩ := r
    exact ⟨v, _, rfl, h1, RKs.snoc hu h2⟩
theorem RKs.put {k : κ} {d : D} {u : V} {kvs : List (κ × D)} {vs : List (κ × V)} (r : RKs F H kvs vs) (hu : RD F H d u) : RKs F H (putT kvs k d) (putK vs k u) := by
  unfold putT putK
  have e : (vs.any fun kv => decide (kv.1 = k)) = (kvs.any fun kv => decide (kv.1 = k)) := by rw [valV_any, any_getT, r.some_eq]
  rw [e]
  split
  · exact RKs.repl hu r
  · exact RKs.snoc hu r
end
/-! ### keys -/
def kdD : Key → D
  | .inl i => .int i
  | .inr x => .str x
def ktD (k : List Key) : D := .tup (k.map kdD)
theorem kd_rd {F : List Addr} {H : Hp} {k : Key} {v : V} (r : RD F H (kdD k) v) : v = kV k := by cases k <;> exact r
theorem kds_rd {F : List Addr} {H : Hp} : ∀ {ks : List Key} {vs : List V}, RDs F H (ks.map kdD) vs → vs = ks.map kV
  | [], _, r => r
  | k :: ks, _, r => by
    obtain ⟨v, r', rfl, h1, h2⟩ := r
    rw [kd_rd h1, kds_rd h2]; rfl
theorem kt_rd {F : List Addr} {H : Hp} {k : List Key} {v : V} (r : RD F H (ktD k) v) : ∃ b, v = .ref b ∧ H b = some (.tup (k.map kV)) := by
  obtain ⟨b, vs, rfl, e, r⟩ := r
  rw [kds_rd r] at e
  exact ⟨b, rfl, e⟩
/-- what a dict holds at a key -/
inductive DG (S : Store) : D → D → Option D → Prop
  | k {l : Nat} {kvs : List (Key × D)} {k : Key} : S[l]? = some (.dK kvs) → DG S (.loc l) (kdD k) (getT kvs k)
  | t {l : Nat} {kvs : List (List Key × D)} {k : List Key} : S[l]? = some (.dT kvs) → DG S (.loc l) (ktD k) (getT kvs k)
  | ft {l : Nat} {o : Obj} {kvs : List (List Key × D)} {k : List Key} : S[l]? = some (.frz o (.dT kvs)) → DG S (.loc l) (ktD k) (getT kvs k)
  | fk {l : Nat} {o : Obj} {kvs : List (Key × D)} {k : Key} : S[l]? = some (.frz o (.dK kvs)) → DG S (.loc l) (kdD k) (getT kvs k)
/-- the store behind a storing -/
inductive DP (S : Store) : D → D → D → Store → Prop
  | k {l : Nat} {kvs : List (Key × D)} {k : Key} {d : D} : S[l]? = some (.dK kvs) → kvs.length < sizeLine → DP S (.loc l) (kdD k) d (S.set l (.dK (putT kvs k d)))
  | t {l : Nat} {kvs : List (List Key × D)} {k : List Key} {d : D} : S[l]? = some (.dT kvs) → kvs.length < sizeLine → DP S (.loc l) (ktD k) d (S.set l (.dT (putT kvs k d)))
theorem DG.rd {F : List Addr} {H : Hp} {S : Store} {x y : D} {o : Option D} {u v : V} (g : DG S x y o) (rs : RS F H S) (rx : RD F H x u) (ry : RD F H y v) :
    ∃ a o', u = .ref a ∧ DGet H a v o' ∧ o'.isSome = o.isSome ∧ ∀ d, o = some d → ∃ w, o' = some w ∧ RD F H d w := by
  cases g with
  | k hl =>
    obtain ⟨a, rfl, ha⟩ := rx
    obtain ⟨a', h', e1, e2, vs, e3, e4⟩ := rs.get hl
    rw [e1] at ha; cases ha
    subst e3
    rw [kd_rd ry]
    exact ⟨a, _, rfl, DGet.k e2, e4.some_eq, e4.val.2⟩
  | t hl =>
    obtain ⟨a, rfl, ha⟩ := rx
    obtain ⟨a', h', e1, e2, vs, e3, e4⟩ := rs.get hl
    rw [e1] at ha; cases ha
    subst e3
    obtain ⟨b, rfl, hb⟩ := kt_rd ry
    exact ⟨a, _, rfl, DGet.t e2 hb, e4.some_eq, e4.val.2⟩
  | ft hl =>
    obtain ⟨a, rfl, ha⟩ := rx
    obtain ⟨a', h', e1, e2, g, e3, vs, e5, e4⟩ := rs.get hl
    rw [e1] at ha; cases ha
    subst e3 e5
    obtain ⟨b, rfl, hb⟩ := kt_rd ry
    exact ⟨a, _, rfl, .inr ⟨vs, _, b, .inr ⟨_, e2⟩, rfl, hb, rfl⟩, e4.some_eq, e4.val.2⟩
  | fk hl =>
    obtain ⟨a, rfl, ha⟩ := rx
    obtain ⟨a', h', e1, e2, g, e3, vs, e5, e4⟩ := rs.get hl
    rw [e1] at ha; cases ha
    subst e3 e5
    rw [kd_rd ry]
    exact ⟨a, _, rfl, .inl ⟨vs, _, .inr ⟨_, e2⟩, rfl, rfl⟩, e4.some_eq, e4.val.2⟩
section
variable {X : Cx} {S : Store} {Q : D → Store → Prop}
theorem op_inDct (hu : X.A.units + 1 < cLine) : OpR X (compareOp .In) (fun x y H Q => ∃ a o, y = .ref a ∧ DGet H a x o ∧ Q (.bl o.isSome) H) := by
  intro pins s σ H x y v u Q I rx ry h
  obtain ⟨a, o, rfl, g, q⟩ := h
  obtain rfl : u = Value.ref a := ry
  exact d_in hu I g rx fun s' I' => ⟨.bl o.isSome, H, I', rfl, q⟩
theorem op_notInDct (hu : X.A.units + 1 < cLine) : OpR X (compareOp .NotIn) (fun x y H Q => ∃ a o, y = .ref a ∧ DGet H a x o ∧ Q (.bl (!o.isSome)) H) := by
  intro pins s σ H x y v u Q I rx ry h
  obtain ⟨a, o, rfl, g, q⟩ := h
  obtain rfl : u = Value.ref a := ry
  exact d_notIn hu I g rx fun s' I' => ⟨.bl (!o.isSome), H, I', rfl, q⟩
theorem ix_dct (hu : X.A.units + 1 < cLine) : IxR X (fun x y H Q => ∃ a v, x = .ref a ∧ DGet H a y (some v) ∧ Q v H) := by
  intro value slice pins s σ H x y v u Q I rx ry h hs
  obtain ⟨a, r, rfl, g, q⟩ := h
  obtain rfl : v = Value.ref a := rx
  exact tail_any (dict_typeIs I g) slot_dict_getitem.lookup (d_getItem hu I g ry fun w' s3 I3 rw' => ⟨r, H, I3, rw', q⟩) hs
theorem u1 {a : Around} (hu : a.units + 64 < cLine) : a.units + 1 < cLine := by omega
theorem BW.inD {x y : D} {o : Option D} (g : DG S y x o) (hu : X.A.units + 64 < cLine) (h : Q (.bl o.isSome) S) : BW X (compareOp .In) x y S Q := BW.of (op_inDct (u1 hu)) fun F H vx vy Q' rs rx ry k => by
  obtain ⟨a, o', e, g', e2, _⟩ := g.rd rs ry rx
  exact ⟨a, o', e, g', k.nowB' e2 rs h⟩
theorem BW.notInD {x y : D} {o : Option D} (g : DG S y x o) (hu : X.A.units + 64 < cLine) (h : Q (.bl (!o.isSome)) S) : BW X (compareOp .NotIn) x y S Q := BW.of (op_notInDct (u1 hu)) fun F H vx vy Q' rs rx ry k => by
  obtain ⟨a, o', e, g', e2, _⟩ := g.rd rs ry rx
  exact ⟨a, o', e, g', k.nowB' (by rw [e2]) rs h⟩
theorem IW.dct {x y d : D} {o : Option D} (g : DG S x y o) (ho : o = some d) (hu : X.A.units + 64 < cLine) (h : Q d S) : IW X x y S Q := IW.of (ix_dct (u1 hu)) fun F H vx vy Q' rs rx ry k => by
  obtain ⟨a, o', e, g', _, e3⟩ := g.rd rs rx ry
  obtain ⟨w, rfl, rw'⟩ := e3 d ho
  exact ⟨a, w, e, g', k.now rs rw' h⟩
end
section
variable {X : Cx} {n : Nat} {o i e : Expr} {v : Fv} {S : Store} {E : Ed} {pos pos' : Pos}
/-- d[key] = value -/
theorem WS.dput (h : WE X e v S fun y S1 => WE X o v S1 fun d S2 => WE X i v S2 fun kd S3 => ∃ S4, DP S3 d kd y S4 ∧ E.nx v S4) (hu : X.A.units + 64 < cLine)
    (hs : swapsWith e (some (.Subscript o i pos')) pos.line X.env = pure false := by rfl) : WS X n (.Assign [.Subscript o i pos'] e pos) v S E := fun F0 H0 F t H E' hl p k re rs q => by
  refine wS_of (ps_dput (u1 hu) pe_w pe_w pe_w hs) ?_
  refine h F t H _ re rs fun F1 y uy H1 S1 p1 k1 rs1 r1 h1 => ?_
  refine h1 F1 t H1 _ (re.mono p1 k1) rs1 fun F2 d u H2 S2 p2 k2 rs2 r2 h2 => ?_
  refine h2 F2 t H2 _ ((re.mono p1 k1).mono p2 k2) rs2 fun F3 kd uk H3 S3 p3 k3 rs3 r3 h3 => ?_
  obtain ⟨S4, g, z⟩ := h3
  have r2' := RD.mono p3 k3 _ _ r2
  have r1' := RD.mono p3 k3 _ _ (RD.mono p2 k2 _ _ r1)
  have re3 := ((re.mono p1 k1).mono p2 k2).mono p3 k3
  cases g with
  | @k l kvs kk _ hl' hz =>
    obtain ⟨a, rfl, ha⟩ := r2'
    obtain ⟨a', h', e1, e2, vs, e3, e4⟩ := rs3.get hl'
    rw [e1] at ha; cases ha
    subst e3
    rw [kd_rd r3]
    refine ⟨a, _, rfl, DPut.k e2 (by rw [e4.length]; exact hz), ?_⟩
    have kp : Keep H3 (upd H3 a (.dK (putK vs kk uy))) := Keep.upd e2 trivial
    exact q.nx F3 v t _ _ (((p.trans p1).trans p2).trans p3) ((((k.trans k1).trans k2).trans k3).trans kp) (re3.mono (List.prefix_refl F3) kp) (rs3.set (o := .dK (putT kvs kk y)) e1 e2 trivial ⟨_, rfl, e4.put r1'⟩) z
  | @t l kvs kk _ hl' hz =>
    obtain ⟨a, rfl, ha⟩ := r2'
    obtain ⟨a', h', e1, e2, vs, e3, e4⟩ := rs3.get hl'
    rw [e1] at ha; cases ha
    subst e3
    obtain ⟨b, rfl, hb⟩ := kt_rd r3
    refine ⟨a, _, rfl, DPut.t e2 hb (by rw [e4.length]; exact hz), ?_⟩
    have kp : Keep H3 (upd H3 a (.dT (putK vs kk uy))) := Keep.upd e2 trivial
    exact q.nx F3 v t _ _ (((p.trans p1).trans p2).trans p3) ((((k.trans k1).trans k2).trans k3).trans kp) (re3.mono (List.prefix_refl F3) kp) (rs3.set (o := .dT (putT kvs kk y)) e1 e2 trivial ⟨_, rfl, e4.put r1'⟩) z
theorem WE.dT0 {Q : D → Store → Prop} (h : Q (.loc S.length) (S ++ [.dT []])) : WE X (.Dict [] [] pos) v S Q := fun F t H Q' re rs k => by
  refine wE_of pe_dnewT fun p hp => ?_
  exact k (F ++ [p]) (.loc S.length) (.ref p) _ _ ⟨[p], rfl⟩ (Keep.new hp) (rs.new (o := .dT []) hp ⟨_, rfl, rfl⟩) ⟨p, rfl, by rw [← rs.len]; simp⟩ h
theorem WE.dK0 {Q : D → Store → Prop} (h : Q (.loc S.length) (S ++ [.dK []])) : WE X (.Dict [] [] pos) v S Q := fun F t H Q' re rs k => by
  refine wE_of pe_dnewK fun p hp => ?_
  exact k (F ++ [p]) (.loc S.length) (.ref p) _ _ ⟨[p], rfl⟩ (Keep.new hp) (rs.new (o := .dK []) hp ⟨_, rfl, rfl⟩) ⟨p, rfl, by rw [← rs.len]; simp⟩ h
end
end DM

namespace DM
open PySem PySem.Spec PyProof.Rows L2
/-! ### sorted(d), d's keys tuples of ints -/
theorem rs0 (H : Hp) : RS [] H [] := ⟨rfl, List.nodup_nil, fun l o e => by simp at e⟩
theorem kds_of {F : List Addr} {H : Hp} : ∀ (ks : List Key), RDs F H (ks.map kdD) (ks.map kV)
  | [] => rfl
  | .inl i :: ks => ⟨.int i, _, rfl, rfl, kds_of ks⟩
  | .inr x :: ks => ⟨.str x, _, rfl, rfl, kds_of ks⟩
theorem key_rd {F : List Addr} {H : Hp} {k : List Key} {b : Addr} (e : H b = some (.tup (k.map kV))) : RD F H (ktD k) (.ref b) := ⟨b, _, rfl, e, kds_of k⟩
theorem key_dp {K : PySem.W.Frag} {H : Hp} {k : List Key} {b : Addr} (hp : pu 60 (ktD k) = true) (e : H b = some (.tup (k.map kV))) : Dp K H (.ref b) (toP (ktD k)) :=
  PD.dp (rs0 H) _ _ _ (pu_pd [] 60 _ hp).1 (key_rd e)
def rSortDT : List V → Hp → VK → Prop := fun vs H Q => ∃ (a : Addr) (kvs : List (List Key × V)), vs = [.ref a] ∧ Rd H a (.dT kvs) ∧ (∀ kv ∈ kvs, pu 60 (ktD kv.1) = true) ∧
  PySem.W.AllAlike (kvs.map fun kv => toP (ktD kv.1)) ∧ PySem.W.Sortable (kvs.map fun kv => toP (ktD kv.1)) ∧
  ∀ p (zs : List (List Key × Addr)), H p = none → zs.map (·.1) = (kvs.map (·.1)).mergeSort (PySem.W.dataLe false fun k => toP (ktD k)) → (∀ z ∈ zs, H z.2 = some (.tup (z.1.map kV))) → Q (.ref p) (upd H p (.lst (zs.map fun z => V.ref z.2)))
theorem kt_all {H : Hp} : ∀ {kvs : List (List Key × V)} {xs : List (List Key × Addr × Value)}, KT H kvs xs → kvs.map (·.1) = xs.map (·.1) ∧ ∀ x ∈ xs, H x.2.1 = some (.tup (x.1.map kV))
  | _, _, .nil => ⟨rfl, fun _ h => by cases h⟩
  | _, _, .cons h t => by
    obtain ⟨i1, i2⟩ := kt_all t
    refine ⟨by rw [List.map_cons, List.map_cons, i1, h.1], fun x hx => ?_⟩
    rcases List.mem_cons.mp hx with rfl | hx
    · rw [← h.1]; exact h.2.1
    · exact i2 x hx
theorem each_map_of {α β : Type} {R : Value → β → Prop} (f : α → β) (g : α → Value) : ∀ (l : List α), (∀ a ∈ l, R (g a) (f a)) → PySem.W.EachIs R (l.map g) (l.map f)
  | [], _ => .nil
  | a :: l, h => .cons (h a List.mem_cons_self) (each_map_of f g l fun b hb => h b (List.mem_cons_of_mem _ hb))
theorem each_refs : ∀ {us : List Value} {zs : List (List Key × Addr)}, PySem.W.EachIs (fun u (z : List Key × Addr) => u = .ref z.2) us zs → Vals (zs.map fun z => V.ref z.2) us
  | _, _, .nil => .nil
  | _, _, .cons r t => .cons (by rw [r]; exact (rfl : Value.ref _ = Value.ref _)) (each_refs t)
section
variable {X : Cx} {S : Store} {Q : D → Store → Prop}
theorem cr_sortDT (hc : X.calm = true) (hu : X.A.units + 64 < cLine) : CallR X (.builtin "sorted") rSortDT := by
  intro pins s σ H vs us Q I r h
  obtain ⟨a, kvs, rfl, hd, hp, hal, hk, q⟩ := h
  obtain ⟨u, rfl, ru⟩ := vals1 r
  obtain rfl : u = Value.ref a := ru
  obtain ⟨z, lo, xs, kt, dd⟩ := dt_rd I.hok hd
  obtain ⟨es, ep, raw, hsz, hes⟩ := dd.raw
  obtain ⟨ek, ea⟩ := kt_all kt
  have hxl : xs.length = kvs.length := by have := congrArg List.length ek; simpa using this.symm
  have h16 : es.size ≤ sizeLine := by rw [hsz, hxl]; exact z
  refine Calls.call_function_entry PyProof.Rows.kind_sorted PyProof.Rows.plain_sorted PyProof.Rows.entry_sorted (PyProof.Rows.args_sorted1 _) ?_
  unfold Builtin.«sorted»
  refine wpAny_bind (m := checkCount "sorted" 1 1 _) (wpAny_pure ?_)
  refine wpAny_bind (PySem.W.kdu_collect (A := X.A.in1) (KdlSrc.rawDict (es := es) (ep := ep) lo) (I.ok.hd hc) raw h16 fun h' tk acc hk' hacc => ?_)
  have eacc : acc.toList = xs.map fun x => Value.ref x.2.1 := by
    apply List.ext_getElem?
    intro j
    rw [List.getElem?_map, Array.getElem?_toList]
    cases e : acc[j]? with
    | none =>
      have : xs.length ≤ j := by rw [← hsz, ← hacc.1]; exact Array.getElem?_eq_none_iff.mp e
      rw [List.getElem?_eq_none this]; rfl
    | some v =>
      obtain ⟨hi, ev⟩ := hacc.2 j v e
      obtain ⟨y, e1, e2, _⟩ := hes j hi
      rw [e1, ev, e2]; rfl
  have I1 : Inv X pins σ H { s with heap := h', toks := tk } := I.kept hk'
  have hal' : acc.toList.length = xs.length := by rw [eacc, List.length_map]
  have hlz : acc.toList.length ≤ sizeLine := by rw [hal', hxl]; exact z
  refine wpAny_bind (wpAny_newList ?_ hlz)
  have hoL : (h'.push (seqObj "list" acc.toList.toArray 0)).get? h'.objs.size = some (seqObj "list" acc.toList.toArray 0) := Heap.get?_push_size _ rfl
  show wpAny _ _ _ _ _ { s with heap := h'.push (seqObj "list" acc.toList.toArray 0), toks := tk }
  -- the pairs of key and place
  have e1 : PySem.W.EachIs (fun u (z : List Key × Addr) => u = Value.ref z.2) acc.toList (xs.map fun x => (x.1, x.2.1)) := by
    rw [eacc]; exact each_map_of (R := fun u (z : List Key × Addr) => u = Value.ref z.2) (fun x : List Key × Addr × Value => (x.1, x.2.1)) _ xs fun x _ => rfl
  have hpx : ∀ x ∈ xs, pu 60 (ktD x.1) = true := fun x hx => by
    have : x.1 ∈ kvs.map (·.1) := by rw [ek]; exact List.mem_map.mpr ⟨x, hx, rfl⟩
    obtain ⟨kv, h1, h2⟩ := List.mem_map.mp this
    rw [← h2]; exact hp kv h1
  have er : PySem.W.EachIs (fun u (z : List Key × Addr) => ∃ as, Reads s.heap u (toP (ktD z.1)) as) acc.toList (xs.map fun x => (x.1, x.2.1)) := by
    rw [eacc]; exact each_map_of (R := fun u (z : List Key × Addr) => ∃ as, Reads s.heap u (toP (ktD z.1)) as) (fun x : List Key × Addr × Value => (x.1, x.2.1)) _ xs fun x hx =>
      Dp.reads I _ _ _ (key_dp (hpx x hx) (ea x hx)) (rfl : Value.ref _ = Value.ref _)
  have old : ∀ b o, s.heap.get? b = some o → (PySem.W.sortingHeap (h'.push (seqObj "list" acc.toList.toArray 0)) h'.objs.size acc.toList).get? b = some o := fun b o e =>
    PySem.W.sortingHeap_old (Nat.ne_of_lt (Heap.lt_size (hk' b o e))) (Heap.get?_push_of_some _ (hk' b o e))
  have er' : PySem.W.EachIs (fun u (z : List Key × Addr) => ∃ as, Reads (PySem.W.sortingHeap (h'.push (seqObj "list" acc.toList.toArray 0)) h'.objs.size acc.toList) u (toP (ktD z.1)) as) acc.toList (xs.map fun x => (x.1, x.2.1)) :=
    er.mono fun _ _ ⟨as, r⟩ => ⟨as, PyProof.Rows.Reads.keeps (fun b o e => old b o e) r⟩
  have mz : (kvs.map fun kv => toP (ktD kv.1)) = (xs.map fun x => (x.1, x.2.1)).map fun (z : List Key × Addr) => toP (ktD z.1) := by
    have := congrArg (List.map fun k => toP (ktD k)) ek
    simpa [List.map_map, Function.comp_def] using this
  rw [mz] at hal hk
  have hdep : ∀ z ∈ (xs.map fun x => (x.1, x.2.1) : List (List Key × Addr)), X.A.units + 4 + (toP (ktD z.1)).depth < cLine := fun z hz => by
    obtain ⟨x, hx, rfl⟩ := List.mem_map.mp hz
    have := (pu_pd [] 60 _ (hpx x hx)).2.2
    show X.A.units + 4 + (toP (ktD x.1)).depth < cLine
    omega
  refine wpAny_bind (wpAny_holding (wpAny_call_entry PyProof.Rows.slot_list_sort ⟨_, hoL, rfl⟩ PyProof.Rows.entry_list_sort
    (PySem.W.list_sort_vals (s := { s with heap := h'.push (seqObj "list" acc.toList.toArray 0), toks := tk }) hoL (PySem.W.SortsAt.data (s := { s with heap := PySem.W.sortingHeap (h'.push (seqObj "list" acc.toList.toArray 0)) h'.objs.size acc.toList, toks := tk }) (PySem.W.each_map (R := fun v d => ∃ as, Reads (PySem.W.sortingHeap (h'.push (seqObj "list" acc.toList.toArray 0)) h'.objs.size acc.toList) v d as) (fun z : List Key × Addr => toP (ktD z.1)) er') hal hk (PySem.W.bound_map (fun z hz => Nat.lt_of_le_of_lt (by show (X.A.units + 1 + 1) + _ ≤ _; omega) (hdep z hz)))) hlz ⟨_, rfl, ?_⟩)
    (PyProof.Rows.args_list_sort _)))
  have eo := PySem.W.sortVals_data false e1 er' hal
  have hol := PySem.W.sortVals_length (κ := PySem.W.dataKind (PySem.W.sortingHeap (h'.push (seqObj "list" acc.toList.toArray 0)) h'.objs.size acc.toList) ((xs.map fun x => (x.1, x.2.1)).map fun z : List Key × Addr => toP (ktD z.1))) false (ks := acc.toList) (vs := acc.toList) rfl
  generalize PySem.W.sortVals (PySem.W.dataKind (PySem.W.sortingHeap (h'.push (seqObj "list" acc.toList.toArray 0)) h'.objs.size acc.toList) ((xs.map fun x => (x.1, x.2.1)).map fun z : List Key × Addr => toP (ktD z.1))) false acc.toList acc.toList = out at *
  obtain ⟨e', he'⟩ := PyProof.Rows.sortedHeap_at (vs := acc.toList) (out := out.toArray) hoL
  refine wpAny_pure ⟨_, rfl, .ref h'.objs.size, upd H h'.objs.size (.lst (((xs.map fun x => (x.1, x.2.1)).mergeSort (PySem.W.dataLe false fun z : List Key × Addr => toP (ktD z.1))).map fun z => V.ref z.2)), I1.laid (t' := tk) (fun b u e => ?_) (Nat.le_refl _)
    (show ObjOk X.prog X.w _ _ _ (.lst _) from ⟨?_, out, e', each_refs eo, he'⟩), rfl, q _ _ (I1.hok.fresh (Nat.le_refl _)) ?_ ?_⟩
  · have hb : b < h'.objs.size := Heap.lt_size e
    rw [PyProof.Rows.sortedHeap_old (Nat.ne_of_lt hb) (by rw [size_push']; exact Nat.lt_succ_of_lt hb)]
    exact Heap.get?_push_of_some _ e
  · rw [List.length_map, List.length_mergeSort, List.length_map, hxl]; exact z
  · refine (List.map_mergeSort (f := fun z : List Key × Addr => z.1) (r := PySem.W.dataLe false fun z : List Key × Addr => toP (ktD z.1)) (s := PySem.W.dataLe false fun k => toP (ktD k)) (l := xs.map fun x => (x.1, x.2.1)) fun _ _ _ _ => rfl).trans ?_
    rw [List.map_map, ek]; rfl
  · intro z hz
    obtain ⟨x, hx, rfl⟩ := List.mem_map.mp (List.mem_mergeSort.mp hz)
    exact ea x hx
theorem RKs.keys {κ : Type} {F : List Addr} {H : Hp} : ∀ {kvs : List (κ × D)} {vs : List (κ × V)}, RKs F H kvs vs → vs.map (·.1) = kvs.map (·.1)
  | [], vs, r => by cases (show vs = [] from r); rfl
  | p :: kvs, vs, r => by
    obtain ⟨v, r', rfl, h1, h2⟩ := r
    rw [List.map_cons, List.map_cons, RKs.keys h2]
def leK (x y : List Key) : Bool := PySem.W.dataLe false (fun k => toP (ktD k)) x y
theorem keys_rds {F : List Addr} {H : Hp} : ∀ (zs : List (List Key × Addr)), (∀ z ∈ zs, H z.2 = some (.tup (z.1.map kV))) → RDs F H ((zs.map (·.1)).map ktD) (zs.map fun z => V.ref z.2)
  | [], _ => rfl
  | z :: zs, h => ⟨.ref z.2, _, rfl, key_rd (h z List.mem_cons_self), keys_rds zs fun y hy => h y (List.mem_cons_of_mem _ hy)⟩
/-- sorted(d): its keys in order -/
theorem CW.sortDT {l : Nat} {kvs : List (List Key × D)} (hl : S[l]? = some (.dT kvs)) (hp : ∀ k ∈ kvs.map (·.1), pu 60 (ktD k) = true) (hal : PySem.W.AllAlike ((kvs.map (·.1)).map fun k => toP (ktD k))) (hk : PySem.W.Sortable ((kvs.map (·.1)).map fun k => toP (ktD k)))
    (hc : X.calm = true) (hu : X.A.units + 64 < cLine) (h : Q (.loc S.length) (S ++ [.lst (((kvs.map (·.1)).mergeSort leK).map ktD)])) : CW X (.builtin "sorted") [.loc l] S Q := CW.of (cr_sortDT hc hu) fun F H vs Q' rs r k => by
  obtain ⟨v, r', rfl, ⟨a, rfl, ha⟩, e⟩ := r
  cases (show r' = [] from e)
  obtain ⟨a', h', e1, e2, vs, e3, e4⟩ := rs.get hl
  rw [e1] at ha; cases ha
  subst e3
  have ek := e4.keys
  have mk : (vs.map fun kv => toP (ktD kv.1)) = (kvs.map (·.1)).map fun k => toP (ktD k) := by rw [← ek, List.map_map]; rfl
  refine ⟨a, vs, rfl, .inl e2, fun kv hkv => hp _ (by rw [← ek]; exact List.mem_map.mpr ⟨kv, hkv, rfl⟩), by rw [mk]; exact hal, by rw [mk]; exact hk, fun p zs hp' hz ha => ?_⟩
  have rd : RDs F H (((kvs.map (·.1)).mergeSort leK).map ktD) (zs.map fun z => V.ref z.2) := by
    have e : (kvs.map (·.1)).mergeSort leK = zs.map (·.1) := by rw [hz, ek]; rfl
    rw [e]; exact keys_rds zs ha
  exact k (F ++ [p]) (.loc S.length) (.ref p) _ _ ⟨[p], rfl⟩ (Keep.new hp') (rs.new (o := .lst (((kvs.map (·.1)).mergeSort leK).map ktD)) hp' ⟨_, rfl, rd⟩) ⟨p, rfl, by rw [← rs.len]; simp⟩ h
end
end DM

namespace DM
open PySem PySem.Spec PyProof.Rows L2
/-! ### list(d.values()), xs.count(n), d.update(e) -/
def valsO (p d : Addr) : HO := .ext fun h => h.IsValuesView p d
theorem valsO_ok {P : Program} {w : World} {H : Hp} {h : Heap} {p d : Addr} (e : h.get? p = some { cls := .type "dict_values", data := .fields #[.ref d] }) : ObjOk P w H h p (valsO p d) :=
  ⟨⟨_, e, rfl, rfl⟩, ⟨_, e⟩, fun h1 h2 x k => let ⟨o, ho, r⟩ := x; ⟨o, k o ho, r⟩⟩
def putAllK {κ : Type} [DecidableEq κ] (kvs more : List (κ × V)) : List (κ × V) := more.foldl (fun acc kv => putK acc kv.1 kv.2) kvs
def putAllT {κ β : Type} [DecidableEq κ] (kvs more : List (κ × β)) : List (κ × β) := more.foldl (fun acc kv => putT acc kv.1 kv.2) kvs
theorem RKs.putAll {κ : Type} [DecidableEq κ] {F : List Addr} {H : Hp} : ∀ {more : List (κ × D)} {mv : List (κ × V)} {kvs : List (κ × D)} {vs : List (κ × V)}, RKs F H more mv → RKs F H kvs vs → RKs F H (putAllT kvs more) (putAllK vs mv)
  | [], mv, kvs, vs, r, q => by cases (show mv = [] from r); exact q
  | p :: more, mv, kvs, vs, r, q => by
    obtain ⟨v, r', rfl, h1, h2⟩ := r
    exact RKs.putAll (kvs := putT kvs p.1 p.2) (vs := putK vs p.1 v) h2 (q.put h1)
theorem KT.putAll {H : Hp} : ∀ {more : List (List Key × V)} {ys : List (List Key × Addr × Value)} {kvs : List (List Key × V)} {xs : List (List Key × Addr × Value)}, KT H more ys → KT H kvs xs → KT H (putAllK kvs more) (PySem.storedAllH xs ys)
  | _, _, _, _, .nil, q => q
  | _, _, _, _, .cons (a := p) (b := y) h t, q => by
    have := KT.put q p.1 h.2.1 h.2.2
    rw [h.1] at this
    have := KT.putAll t this
    unfold putAllK PySem.storedAllH at *
    rw [List.foldl_cons, List.foldl_cons, h.1]
    exact this
theorem putAllK_len {κ : Type} [DecidableEq κ] : ∀ (more kvs : List (κ × V)), (putAllK kvs more).length ≤ kvs.length + more.length
  | [], kvs => Nat.le_refl _
  | p :: more, kvs => by
    have := putAllK_len more (putK kvs p.1 p.2)
    have h := length_putK kvs p.1 p.2
    show (putAllK (putK kvs p.1 p.2) more).length ≤ _
    rw [List.length_cons]; omega
abbrev hashT (P : Program) (w : World) (k : List Key) := (tupleKind (mixKind P w)).hash k
section
variable {X : Cx} {S : Store} {Q : D → Store → Prop}
def rValuesT : V → List V → Hp → VK → Prop := fun x xs H Q => ∃ (a : Addr) (kvs : List (List Key × V)), x = .ref a ∧ xs = [] ∧ H a = some (.dT kvs) ∧ ∀ p, H p = none → Q (.ref p) (upd H p (valsO p a))
theorem mt_valuesT : MtR X "dict.values" rValuesT := by
  intro pins s σ H x xs v us Q I rx rxs h
  obtain ⟨a, kvs, rfl, rfl, ha, q⟩ := h
  cases rx
  cases rxs
  obtain ⟨z, hd, xs', rel, dd⟩ := dt_of I.hok ha
  obtain ⟨es, ep, raw, _⟩ := dd.raw
  have hf : H s.heap.objs.size = none := I.hok.fresh (Nat.le_refl _)
  exact call_meetsIn PySem.F.slot_dict_values raw.typeIs PySem.F.entry_dict_values (PySem.F.args_dict_values_1 _) (PySem.meets_dict_values_raw a hd) ⟨⟨es, ep, raw⟩,
    ⟨.ref s.heap.objs.size, upd H s.heap.objs.size (valsO s.heap.objs.size a), I.laid (t' := s.toks) (fun b u e => Heap.get?_push_of_some _ e) (Nat.le_refl _) (valsO_ok (Heap.get?_push_size _ rfl)), rfl, q _ hf⟩⟩
theorem kt_vals {H : Hp} : ∀ {kvs : List (List Key × V)} {xs : List (List Key × Addr × Value)}, KT H kvs xs → Vals (kvs.map (·.2)) (xs.map fun x => x.2.2)
  | _, _, .nil => .nil
  | _, _, .cons h t => .cons h.2.2 (kt_vals t)
theorem cr_listValsT (hc : X.calm = true) : CallR X (.type "list") (fun vs H Q => ∃ (p a : Addr) (kvs : List (List Key × V)), vs = [.ref p] ∧ H p = some (valsO p a) ∧ H a = some (.dT kvs) ∧ ∀ q, H q = none → Q (.ref q) (upd H q (.lst (kvs.map (·.2))))) := by
  intro pins s σ H vs us Q I r h
  obtain ⟨p, a, kvs, rfl, hp, ha, q⟩ := h
  obtain ⟨u, rfl, ru⟩ := vals1 r
  obtain rfl : u = Value.ref p := ru
  obtain ⟨z, hd, xs, kt, dd⟩ := dt_of I.hok ha
  obtain ⟨es, ep, raw, hsz, hes⟩ := dd.raw
  have hxl : xs.length = kvs.length := (Paired.length kt).symm
  have view : s.heap.IsValuesView p a := (I.hok _ _ hp).1
  refine PySem.W.kdl_call (PySem.KdlSrc.rawValues (es := es) (ep := ep)) (I.ok.hd hc) ⟨view, raw⟩ (by rw [hsz, hxl]; exact z) fun h' tk acc c hk ho hacc => ?_
  have eacc : acc.toList = xs.map fun x => x.2.2 := by
    apply List.ext_getElem?
    intro j
    rw [List.getElem?_map, Array.getElem?_toList]
    cases e : acc[j]? with
    | none =>
      have : xs.length ≤ j := by rw [← hsz, ← hacc.1]; exact Array.getElem?_eq_none_iff.mp e
      rw [List.getElem?_eq_none this]; rfl
    | some v =>
      obtain ⟨hi, ev⟩ := hacc.2 j v e
      obtain ⟨y, e1, _, e2, _⟩ := hes j hi
      rw [e1, ev, e2]; rfl
  refine ⟨.ref s.heap.objs.size, upd H s.heap.objs.size (.lst (kvs.map (·.2))), I.laid (t' := tk) hk (Nat.le_refl _) ⟨by rw [List.length_map]; exact z, acc.toList, c, by rw [eacc]; exact kt_vals kt, ?_⟩, rfl, q _ (I.hok.fresh (Nat.le_refl _))⟩
  rw [Array.toArray_toList]; exact ho
theorem RKs.vals {κ : Type} {F : List Addr} {H : Hp} : ∀ {kvs : List (κ × D)} {vs : List (κ × V)}, RKs F H kvs vs → RDs F H (kvs.map (·.2)) (vs.map (·.2))
  | [], vs, r => by cases (show vs = [] from r); rfl
  | p :: kvs, vs, r => by
    obtain ⟨v, r', rfl, h1, h2⟩ := r
    exact ⟨v, _, rfl, h1, RKs.vals h2⟩
/-- list(d.values()) -/
theorem WE.listVals {o : Expr} {v : Fv} {apos cpos p pos : Pos} (h : WE X o v S fun d S1 => ∃ l kvs, d = .loc l ∧ S1[l]? = some (.dT kvs) ∧ Q (.loc S1.length) (S1 ++ [.lst (kvs.map (·.2))])) (hc : X.calm = true) (hm : X.mg "list" = none) (hg : Gl X "list" := by rfl)
    (hbase : attributeBase o "values" X.env (eval o X.env) = eval o X.env := by rfl) (hline : (apos.endLine == cpos.line) = true := by rfl)
    (he : starEach [.Call (.Attribute o "values" apos) [] [] cpos] X.env = (false, eval (.Call (.Attribute o "values" apos) [] [] cpos) X.env) :: starEach [] X.env := by rfl) (hpl : (backTo pos (starEach [] X.env)).any (·.1) = false := by rfl) :
    WE X (.Call (.Name "list" p) [.Call (.Attribute o "values" apos) [] [] cpos] [] pos) v S Q := fun F t H Q' re rs k => by
  refine wE_of (pe_callTy (cr_listValsT hc) hg hm boot_list (pa_cons (pe_bm0 PySem.F.plainAttrs_dict PySem.F.slot_dict_values PySem.F.type_dict_values mt_valuesT pe_w hbase hline) pa_nil) (by decide) (by decide) he hpl) ?_
  refine h F t H _ re rs fun F1 d u H1 S1 p1 k1 rs1 r1 h1 => ?_
  obtain ⟨l, kvs, rfl, hl, q⟩ := h1
  obtain ⟨a, rfl, ha⟩ := r1
  obtain ⟨a', h', e1, e2, vs, e3, e4⟩ := rs1.get hl
  rw [e1] at ha; cases ha
  subst e3
  refine ⟨Or.inr (Or.inr (Or.inl ⟨rfl, Or.inr ⟨_, e2⟩⟩)), a, vs, rfl, rfl, e2, fun p hp => ?_⟩
  have e2' : (upd H1 p (valsO p a)) a = some (.dT vs) := by rw [upd_ne (ne_of_none e2 hp)]; exact e2
  refine ⟨p, a, vs, rfl, upd_same, e2', fun q' hq => ?_⟩
  have rs2 : RS F1 (upd H1 p (valsO p a)) S1 := rs1.other hp
  have k2 : Keep H1 (upd H1 p (valsO p a)) := Keep.new hp
  have e4' := RKs.vals e4
  have rd : RDs F1 (upd H1 p (valsO p a)) (kvs.map (·.2)) (vs.map (·.2)) := RDs.mono (List.prefix_refl F1) k2 _ _ e4'
  exact k (F1 ++ [q']) (.loc S1.length) (.ref q') _ _ (p1.trans ⟨[q'], rfl⟩) ((k1.trans k2).trans (Keep.new hq)) (rs2.new (o := .lst (kvs.map (·.2))) hq ⟨_, rfl, rd⟩) ⟨q', rfl, by rw [← rs1.len]; simp⟩ q
theorem MW.count {l : Nat} {ns : List Int} {j : Int} (hl : S[l]? = some (.lst (ns.map D.int))) (h : Q (.int (ns.count j : Nat)) S) : MW X "list.count" (.loc l) [.int j] S Q := MW.ofR mt_lcount fun F H vx vs Q' rs rx r k => by
  obtain ⟨a, rfl, ha⟩ := rx
  obtain ⟨a', h', e1, e2, ws, e3, e4⟩ := rs.get hl
  rw [e1] at ha; cases ha
  subst e3
  cases (ints_rd e4)
  obtain ⟨v, r', rfl, h1, h2⟩ := r
  cases (show r' = [] from h2)
  cases h1
  exact ⟨a, ns, j, rfl, rfl, SqL.of e2, k.nowI rs h⟩
def rUpdT (P : Program) (w : World) : V → List V → Hp → VK → Prop := fun x xs H Q => ∃ (a o : Addr) (kvs more : List (List Key × V)), x = .ref a ∧ xs = [.ref o] ∧ a ≠ o ∧ H a = some (.dT kvs) ∧ H o = some (.dT more) ∧ kvs.length + more.length ≤ sizeLine ∧
  (kvs ≠ [] ∨ (more.map fun kv => hashT P w kv.1).Nodup) ∧ Q .non (upd H a (.dT (putAllK kvs more)))
theorem mt_updT (hu : X.A.units + 1 < cLine) : MtR X "dict.update" (rUpdT X.prog X.w) := by
  intro pins s σ H x xs v us Q I rx rxs h
  obtain ⟨a, o, kvs, more, rfl, rfl, hne, ha, ho, hz, hap, q⟩ := h
  cases rx
  obtain ⟨u, rfl, ru⟩ := rxs.one
  obtain rfl : u = Value.ref o := ru
  obtain ⟨z, hd, ys, kt, dd⟩ := dt_of I.hok ha
  obtain ⟨z2, hd2, ms, kt2, dd2⟩ := dt_of I.hok ho
  have l1 : kvs.length = ys.length := Paired.length kt
  have l2 : more.length = ms.length := Paired.length kt2
  obtain ⟨ek, ea⟩ := kt_all kt2
  refine PySem.call_update_dictH (tupleKind_room_in1 hu) hne hd2 dd dd2 ?_ (by rw [← l1, ← l2]; exact hz) fun h' d1 d2 hs => ?_
  · rcases hap with e | e
    · exact .inl fun z => e (List.length_eq_zero_iff.mp (by rw [l1, z]; rfl))
    · refine .inr ⟨fun x hx => ?_, ?_⟩
      · obtain ⟨_, its, _, ob, ho', hc', _⟩ := I.hok _ _ (ea x hx)
        exact ⟨ob, ho', hc'⟩
      · have : (more.map fun kv => hashT X.prog X.w kv.1) = ms.map fun x => hashT X.prog X.w x.1 := by
          have := congrArg (List.map fun k => hashT X.prog X.w k) ek
          simpa [List.map_map, Function.comp_def] using this
        rw [← this]; exact e
  · obtain ⟨q0, es, ep, hq, h2, h3, h4, _, h5⟩ := id d1
    have hl : (putAllK kvs more).length ≤ sizeLine := Nat.le_trans (putAllK_len more kvs) hz
    refine ⟨.non, _, d_write (t' := s.toks) (ob := .dT (putAllK kvs more)) I (by rw [ha]; exact True.intro) hs ⟨q0, hq⟩ ⟨hl, hd, _, (KT.putAll kt2 kt).keeps fun c ws ec => ?_, q0, es, ep, hq, h2, h3, h4, h5⟩, rfl, q⟩
    rw [upd_ne (ne_of ec ha (fun z => nomatch z))]
    exact ec
/-- d.update(e) -/
theorem MW.updT {l m : Nat} {kvs more : List (List Key × D)} (hl : S[l]? = some (.dT kvs)) (hm : S[m]? = some (.dT more)) (hne : l ≠ m) (hz : kvs.length + more.length ≤ sizeLine) (hap : kvs ≠ [] ∨ (more.map fun kv => hashT X.prog X.w kv.1).Nodup) (hu : X.A.units + 64 < cLine)
    (h : Q .non (S.set l (.dT (putAllT kvs more)))) : MW X "dict.update" (.loc l) [.loc m] S Q := MW.ofR (mt_updT (u1 hu)) fun F H vx vs Q' rs rx r k => by
  obtain ⟨a, rfl, ha⟩ := rx
  obtain ⟨a', h', e1, e2, ws, e3, e4⟩ := rs.get hl
  rw [e1] at ha; cases ha
  subst e3
  obtain ⟨v, r', rfl, ⟨b, rfl, hb⟩, h2⟩ := r
  cases (show r' = [] from h2)
  obtain ⟨b', h', f1, f2, us, f3, f4⟩ := rs.get hm
  rw [f1] at hb; cases hb
  subst f3
  have ne : a ≠ b := fun e => by
    subst e
    have hi : l < F.length := (List.getElem?_eq_some_iff.mp e1).1
    have hj : m < F.length := (List.getElem?_eq_some_iff.mp f1).1
    have g1 : F[l] = a := (List.getElem?_eq_some_iff.mp e1).2
    have g2 : F[m] = a := (List.getElem?_eq_some_iff.mp f1).2
    exact hne ((List.getElem_inj rs.nd).mp (g1.trans g2.symm))
  refine ⟨a, b, ws, us, rfl, rfl, ne, e2, f2, by rw [e4.length, f4.length]; exact hz, ?_, ?_⟩
  · rcases hap with e | e
    · exact .inl fun z => e (List.length_eq_zero_iff.mp (by rw [← e4.length, z]; rfl))
    · have : (us.map fun kv => hashT X.prog X.w kv.1) = more.map fun kv => hashT X.prog X.w kv.1 := by
        have := congrArg (List.map fun k => hashT X.prog X.w k) f4.keys
        simpa [List.map_map, Function.comp_def] using this
      exact .inr (by rw [this]; exact e)
  · exact k F .non .non _ _ (List.prefix_refl F) (Keep.upd e2 trivial) (rs.set (o := .dT (putAllT kvs more)) e1 e2 trivial ⟨_, rfl, RKs.putAll f4 e4⟩) rfl h
end
end DM

namespace DM
open PySem PySem.Spec PyProof.Rows L2
/-! ### walking a dict: it is locked meanwhile -/
def Keep0 (H H' : Hp) : Prop := (∀ a xs, H a = some (.tup xs) → H' a = some (.tup xs)) ∧ (∀ a o xs, H a = some (.frz o (.lst xs)) → H' a = some (.frz o (.lst xs))) ∧ (∀ a fs, H a = some (.xd fs) → H' a = some (.xd fs)) ∧ ∀ P, LamX.TabS H P q0 → LamX.TabS H' P q0
section
variable {F : List Addr} {H H' : Hp}
mutual
theorem RD.m0 (k : Keep0 H H') : ∀ (d : D) (v : V), RD F H d v → RD F H' d v
  | .non, _, h => h
  | .bl _, _, h => h
  | .int _, _, h => h
  | .str _, _, h => h
  | .ty _, _, h => h
  | .ref _, _, h => h
  | .tup xs, _, ⟨a, vs, e, s, r⟩ => ⟨a, vs, e, k.1 _ _ s, RDs.m0 k xs vs r⟩
  | .loc _, _, ⟨a, e, h⟩ => ⟨a, e, h⟩
  | .scr (.ns _), _, ⟨a, o, e, h⟩ => ⟨a, o, e, k.2.1 _ _ _ h⟩
  | .scr (.nsT _ P), _, ⟨⟨a, o, e, h⟩, t⟩ => ⟨⟨a, o, e, k.2.1 _ _ _ h⟩, k.2.2.2 P t⟩
  | .scr (.refT _ P), _, ⟨e, t⟩ => ⟨e, k.2.2.2 P t⟩
  | .scr (.exc _ _ _ _), _, ⟨e, h⟩ => ⟨e, k.2.2.1 _ _ h⟩
theorem RDs.m0 (k : Keep0 H H') : ∀ (xs : List D) (vs : List V), RDs F H xs vs → RDs F H' xs vs
  | [], _, h => h
  | x :: xs, _, ⟨v, r, e, h1, h2⟩ => ⟨v, r, e, RD.m0 k x v h1, RDs.m0 k xs r h2⟩
end
theorem RKs.m0 {κ : Type} (k : Keep0 H H') : ∀ (xs : List (κ × D)) (vs : List (κ × V)), RKs F H xs vs → RKs F H' xs vs
  | [], _, h => h
  | x :: xs, _, ⟨v, r, e, h1, h2⟩ => ⟨v, r, e, RD.m0 k x.2 v h1, RKs.m0 k xs r h2⟩
theorem RO.m0 (k : Keep0 H H') : ∀ (o : Ob) (h : HO), RO F H o h → RO F H' o h
  | .lst xs, _, ⟨vs, e, r⟩ => ⟨vs, e, RDs.m0 k xs vs r⟩
  | .dK xs, _, ⟨vs, e, r⟩ => ⟨vs, e, RKs.m0 k xs vs r⟩
  | .dT xs, _, ⟨vs, e, r⟩ => ⟨vs, e, RKs.m0 k xs vs r⟩
  | .ins C xs, _, ⟨dx, vs, e, r⟩ => ⟨dx, vs, e, RKs.m0 k xs vs r⟩
  | .frz o u, _, ⟨g, e, r⟩ => ⟨g, e, RO.m0 k u g r⟩
  | .dN _ _, _, ⟨a, o, es, ep, xs, e, e1, e2, e3, e4, al, nd⟩ => ⟨a, o, es, ep, xs, e, e1, e2, e3, e4, fun x hx => ⟨(al x hx).1, (al x hx).2.1, RD.m0 k _ _ (al x hx).2.2⟩, nd⟩
theorem RE.m0 {e : Fv} {t : L2.St} (k : Keep0 H H') (h : RE F H e t) : RE F H' e t := ⟨h.len, fun i d q => by
  obtain ⟨v, q1, q2⟩ := h.at_ i d q
  exact ⟨v, q1, RD.m0 k d v q2⟩⟩
end
theorem keep_unlock {H H1 : Hp} {a : Addr} {g : HO} {od : Obj} (e2 : H a = some g) (n : NoT g) (k1 : Keep (upd H a (.frz od g)) H1) : Keep H (upd H1 a g) :=
  ⟨fun b xs q => by
    have ne : b ≠ a := fun z => by rw [z, e2] at q; cases q; exact n
    rw [upd_ne ne]; exact k1.1 b xs (by rw [upd_ne ne]; exact q),
   fun b o u q => by
    have ne : b ≠ a := fun z => by rw [z, e2] at q; cases q; exact n
    rw [upd_ne ne]; exact k1.2 b o u (by rw [upd_ne ne]; exact q),
   fun b fs q => by
    have ne : b ≠ a := fun z => by rw [z, e2] at q; cases q; exact n
    rw [upd_ne ne]; exact k1.3 b fs (by rw [upd_ne ne]; exact q),
   fun P t => by
    have ha := k1.2 a od g upd_same
    exact tab_ne (fun u z => by rw [ha] at z; cases z; exact ⟨fun ps y => (by cases y), fun f y => (by cases y)⟩) (k1.4 P (tab_ne (fun u z => by rw [e2] at z; cases z; exact n.tab) t))⟩
section
variable {X : Cx} {n l : Nat} {st : Stmt} {v : Fv} {S : Store} {E : Ed}
def lockEd (l : Nat) (o : Obj) (u : Ob) (E : Ed) : Ed := { nx := fun v1 S1 => S1[l]? = some (.frz o u) ∧ E.nx v1 (S1.set l u), rt := fun d S1 => S1[l]? = some (.frz o u) ∧ E.rt d (S1.set l u), bk := fun v1 S1 => S1[l]? = some (.frz o u) ∧ E.bk v1 (S1.set l u), ct := fun v1 S1 => S1[l]? = some (.frz o u) ∧ E.ct v1 (S1.set l u) }
theorem WS.lock {kvs : List (List Key × D)} (hl : S[l]? = some (.dT kvs)) (h : ∀ o, WS X S.length st v (S.set l (.frz o (.dT kvs))) (lockEd l o (.dT kvs) E)) : WS X n st v S E := fun F0 H0 F t H E' hl' p k re rs q => by
  refine wS_of (ps_lock ps_w) ?_
  obtain ⟨a, g, e1, e2, vs, e3, e4⟩ := rs.get hl
  subst e3
  refine ⟨a, .dT vs, e2, trivial, fun od => ?_⟩
  have kk : Keep H (upd H a (.frz od (.dT vs))) := Keep.upd e2 trivial
  have rs' : RS F (upd H a (.frz od (.dT vs))) (S.set l (.frz od (.dT kvs))) := rs.set (o := .frz od (.dT kvs)) e1 e2 trivial ⟨.dT vs, rfl, vs, rfl, e4⟩
  have re' := re.mono (List.prefix_refl F) kk
  -- what is left behind, unlocked
  have un : ∀ F1 H1 S1, F <+: F1 → Keep (upd H a (.frz od (.dT vs))) H1 → RS F1 H1 S1 → S1[l]? = some (.frz od (.dT kvs)) → H1 a = some (.frz od (.dT vs)) ∧ Keep H (upd H1 a (.dT vs)) ∧ Keep0 H1 (upd H1 a (.dT vs)) ∧ RS F1 (upd H1 a (.dT vs)) (S1.set l (.dT kvs)) := by
    intro F1 H1 S1 p1 k1 rs1 hS
    have ha := k1.2 a od (.dT vs) upd_same
    have k0 : Keep0 H1 (upd H1 a (.dT vs)) := ⟨fun b xs z => by rw [upd_ne (fun y => by rw [y, ha] at z; cases z)]; exact z, fun b o xs z => by rw [upd_ne (fun y => by rw [y, ha] at z; cases z)]; exact z, fun b fs z => by rw [upd_ne (fun y => by rw [y, ha] at z; cases z)]; exact z, fun P t => tab_ne (fun u z => by rw [ha] at z; cases z; exact ⟨fun ps y => (by cases y), fun f y => (by cases y)⟩) t⟩
    obtain ⟨a1, g1, f1, f2, g2, f3, f4⟩ := rs1.get hS
    have ea : a1 = a := by
      have := pre_get p1 e1
      rw [f1] at this
      exact Option.some.inj this
    subst ea
    rw [ha] at f2
    cases f2
    injection f3 with _ f3
    subst f3
    refine ⟨ha, keep_unlock e2 trivial k1, k0, by simp [rs1.len], rs1.nd, fun j ob e => ?_⟩
    by_cases hj : j = l
    · subst hj
      rw [List.getElem?_set_self (rs1.lt f1)] at e
      cases e
      exact ⟨a1, .dT vs, f1, upd_same, RO.m0 k0 _ _ f4⟩
    · rw [List.getElem?_set_ne (fun z => hj z.symm)] at e
      obtain ⟨b, w, q1, q2, q3⟩ := rs1.ob j ob e
      have nb : b ≠ a1 := fun z => by
        subst z
        obtain ⟨i1, i2⟩ := List.getElem?_eq_some_iff.mp q1
        obtain ⟨j1, j2⟩ := List.getElem?_eq_some_iff.mp f1
        exact hj ((List.getElem_inj rs1.nd).mp (i2.trans j2.symm))
      exact ⟨b, w, q1, by rw [upd_ne nb]; exact q2, RO.m0 k0 _ _ q3⟩
  refine h od F (upd H a (.frz od (.dT vs))) F t _ _ rs.len (List.prefix_refl F) (Keep.refl _) re' rs' ⟨fun F1 v1 t1 H1 S1 p1 k1 re1 rs1 z => ?_, fun F1 d1 u1 H1 S1 p1 k1 rs1 r1 z => ?_, fun F1 v1 t1 H1 S1 p1 k1 re1 rs1 z => ?_, fun F1 v1 t1 H1 S1 p1 k1 re1 rs1 z => ?_, XT.no⟩
  · obtain ⟨u1, u2, u3, u4⟩ := un F1 H1 S1 p1 k1 rs1 z.1
    exact ⟨u1, q.nx F1 v1 t1 _ _ (p.trans p1) (k.trans u2) (RE.m0 u3 re1) u4 z.2⟩
  · obtain ⟨u1', u2, u3, u4⟩ := un F1 H1 S1 p1 k1 rs1 z.1
    exact ⟨u1', q.rt F1 d1 u1 _ _ (p.trans p1) (k.trans u2) u4 (RD.m0 u3 _ _ r1) z.2⟩
  · obtain ⟨u1, u2, u3, u4⟩ := un F1 H1 S1 p1 k1 rs1 z.1
    exact ⟨u1, q.bk F1 v1 t1 _ _ (p.trans p1) (k.trans u2) (RE.m0 u3 re1) u4 z.2⟩
  · obtain ⟨u1, u2, u3, u4⟩ := un F1 H1 S1 p1 k1 rs1 z.1
    exact ⟨u1, q.ct F1 v1 t1 _ _ (p.trans p1) (k.trans u2) (RE.m0 u3 re1) u4 z.2⟩
/-- for k in d, d locked -/
theorem WI.keysT {tg e : Expr} {R : Src → Store → Prop} (h : WE X e v S fun d S1 => ∃ l o kvs, d = .loc l ∧ S1[l]? = some (.frz o (.dT kvs)) ∧ R ⟨kvs.map fun kv => ktD kv.1, fun _ => True⟩ S1) : WI X tg e v S R := fun F t H R' re rs k => by
  refine wI_of (pi_keys pe_w) ?_
  refine h F t H _ re rs fun F1 d u H1 S1 p1 k1 rs1 r1 h1 => ?_
  obtain ⟨l, o, kvs, rfl, hl, q⟩ := h1
  obtain ⟨a, rfl, ha⟩ := r1
  obtain ⟨a', h', e1, e2, g, e3, vs, e4, e5⟩ := rs1.get hl
  rw [e1] at ha; cases ha
  subst e3 e4
  refine ⟨a, o, rfl, .inr ⟨vs, e2, ?_⟩⟩
  refine k F1 (Itkt a o vs) H1 S1 ⟨kvs.map fun kv => ktD kv.1, fun _ => True⟩ p1 k1 rs1 (fun F2 H2 S2 p2 k2 rs2 ok => ?_) q
  have hd := k2.2 _ _ _ e2
  have hl2 : (kvs.map fun kv => ktD kv.1).length = vs.length := by rw [List.length_map, e5.length]
  refine ⟨fun i hi => ⟨⟨hd, by rw [← hl2]; exact hi⟩, fun x H3 hy => ?_⟩, hd, by show vs.length ≤ (kvs.map fun kv => ktD kv.1).length; omega⟩
  obtain ⟨rfl, kk, v', q', hk, rfl, hq⟩ := hy
  refine ⟨Keep.refl _, rs2, ktD kk, ?_, key_rd hq⟩
  have e6 : (vs.map (·.1))[i]? = some kk := by rw [List.getElem?_map, hk]; rfl
  rw [e5.keys, List.getElem?_map] at e6
  show (kvs.map fun kv => ktD kv.1)[i]? = _
  rw [List.getElem?_map]
  cases e7 : kvs[i]? with
  | none => rw [e7] at e6; cases e6
  | some kv => rw [e7] at e6; cases e6; rfl
end
end DM

namespace DM
open PySem PySem.Spec PyProof.Rows L2
/-! ### {key: value}, dict(pairs), t[:i] -/
def tDispT (tk tv : TE) : TE := fun σ H Q => ∀ p, H p = none → tPairs [(tk, tv)] σ (upd H p (.dT [])) fun ps H2 => H2 p = some (.dT []) ∧ ∃ b k y, ps = [(V.ref b, y)] ∧ H2 b = some (.tup (k.map kV)) ∧ Q (.ref p) (upd H2 p (.dT [(k, y)]))
section
variable {X : Cx} {e f : Expr} {tk tv : TE} {pos : Pos}
theorem pe_dispT (hu : X.A.units + 1 < cLine) (hk : PE X e tk) (hv : PE X f tv) : PE X (.Dict [some e] [f] pos) (tDispT tk tv) := by
  refine ⟨fun pins s σ H Q I q => ?_⟩
  have hn := I.hok.fresh (Nat.le_refl s.heap.objs.size)
  have I1 := I.laid (a := s.heap.objs.size) (o := .dT []) (h' := s.heap.push { cls := .type "dict", data := .dict #[] }) (t' := s.toks) (fun _ _ q => Heap.get?_push_of_some _ q) (Nat.le_refl _) (dt_empty s.heap I.big)
  have hp : PPs X pos [some e] [f] [(tk, tv)] := pps_cons hk hv pps_nil
  have hsh := zip_pairTrees [some e] [f] X.env pos rfl rfl
  rw [arm_eval_Dict, hsh, dictDisplay_pairs (pairTrees [some e] [f] X.env pos) (by simp [pairTrees]) (by simp [pairTrees])]
  refine wpAny_bind (wpAny_standAt (wpAny_bind (wpAny_subDictH (knd := tupleKind (mixKind X.prog X.w)) (Q := fun d s' => wpAny (model X.prog X.w) X.A (pure (Value.ref d)) (EP X pins σ Q) X.xe s') (show X.A.units < cLine by omega) (by simp [pairTrees]) ?_)))
  refine thn (hp.run pins _ σ _ _ I1 (q _ hn)) fun ws s2 ⟨ps, H2, I2, rel, e1, b, k, y, eps, hb, q2⟩ => ?_
  subst eps
  obtain ⟨u, w, rfl, ru, rw'⟩ : ∃ u w, ws = [(u, w)] ∧ u = Value.ref b ∧ RelV y w := by
    cases rel with
    | cons h t => cases t; exact ⟨_, _, rfl, h.1, h.2⟩
  subst ru
  obtain ⟨z, hd, xs, rel, dd⟩ := dt_of I2.hok e1
  cases rel
  refine ⟨[(k, b, w)], ⟨rfl, rfl, key_of I2.hok hb, trivial⟩, dd, fun h' tk' dd' hs => wpAny_pure ⟨.ref s.heap.objs.size, _, ?_, rfl, q2⟩⟩
  obtain ⟨q0, es, ep, hq, h2, h3, h4, _, h5⟩ := id dd'
  refine d_write (t' := tk') (ob := .dT [(k, y)]) I2 (by rw [e1]; exact True.intro) hs ⟨q0, hq⟩ ⟨by show 1 ≤ sizeLine; decide, hd, _, KT.keeps (kvs := [(k, y)]) (xs := [(k, b, w)]) (Paired.cons ⟨rfl, hb, rw'⟩ .nil) fun c ws ec => ?_, q0, es, ep, hq, h2, h3, h4, h5⟩
  rw [upd_ne (ne_of ec e1 (fun z => nomatch z))]
  exact ec
end
section
variable {X : Cx} {S : Store} {Q : D → Store → Prop} {v : Fv} {e f hi : Expr} {pos p2 : Pos}
theorem WE.dispT (h : WE X e v (S ++ [.dT []]) fun x S1 => WE X f v S1 fun y S2 => ∃ k, x = ktD k ∧ S2[S.length]? = some (.dT []) ∧ Q (.loc S.length) (S2.set S.length (.dT [(k, y)]))) (hu : X.A.units + 64 < cLine) : WE X (.Dict [some e] [f] pos) v S Q := fun F t H Q' re rs k => by
  refine wE_of (pe_dispT (u1 hu) pe_w pe_w) fun p hp => ?_
  have kp : Keep H (upd H p (.dT [])) := Keep.new hp
  have rs' : RS (F ++ [p]) (upd H p (.dT [])) (S ++ [.dT []]) := rs.new (o := .dT []) hp ⟨_, rfl, rfl⟩
  have re' := re.mono (F' := F ++ [p]) ⟨[p], rfl⟩ kp
  have hlen : F.length = S.length := rs.len
  refine h (F ++ [p]) t _ _ re' rs' fun F1 x ux H1 S1 p1 k1 rs1 r1 h1 => ?_
  refine h1 F1 t H1 _ (re'.mono p1 k1) rs1 fun F2 y uy H2 S2 p2' k2 rs2 r2 h2 => ?_
  obtain ⟨kk, rfl, hl, q⟩ := h2
  have hF : F2[S.length]? = some p := pre_get (p1.trans p2') (by rw [← hlen]; simp)
  obtain ⟨a, g, e1, e2, vs, e3, e4⟩ := rs2.get hl
  rw [hF] at e1; cases e1
  subst e3
  cases (show vs = [] from e4)
  obtain ⟨b, rfl, hb⟩ := kt_rd (RD.mono p2' k2 _ _ r1)
  refine ⟨e2, b, kk, uy, rfl, hb, ?_⟩
  have k3 : Keep H2 (upd H2 p (.dT [(kk, uy)])) := Keep.upd e2 trivial
  exact k F2 (.loc S.length) (.ref p) _ _ ((List.prefix_append F [p]).trans (p1.trans p2')) (((kp.trans k1).trans k2).trans k3) (rs2.set (o := .dT [(kk, y)]) hF e2 trivial ⟨_, rfl, uy, [], rfl, r2, rfl⟩) ⟨p, rfl, hF⟩ q
/-- dict(pairs), the keys ints -/
theorem CW.dctL {l : Nat} {kvs : List (Key × D)} (hl : S[l]? = some (.lst (kvs.map fun kv => .tup [kdD kv.1, kv.2]))) (hc : X.calm = true) (h : Q (.loc S.length) (S ++ [.dK (putAllT [] kvs)])) : CW X (.type "dict") [.loc l] S Q := CW.of (call_dictP hc) fun F H vs Q' rs r k => by
  obtain ⟨v, r', rfl, ⟨a, rfl, ha⟩, e⟩ := r
  cases (show r' = [] from e)
  obtain ⟨a', h', e1, e2, vs, e3, e4⟩ := rs.get hl
  rw [e1] at ha; cases ha
  subst e3
  have go : ∀ (kvs : List (Key × D)) (vs : List V), RDs F H (kvs.map fun kv => D.tup [kdD kv.1, kv.2]) vs → ∃ (ps : List Addr) (ws : List (Key × V)), vs = ps.map V.ref ∧ Paired (fun p kv => SqT X.K H p [kV kv.1, kv.2]) ps ws ∧ RKs F H kvs ws := by
    intro kvs
    induction kvs with
    | nil => intro vs r; cases (show vs = [] from r); exact ⟨[], [], rfl, .nil, rfl⟩
    | cons kv kvs ih =>
      intro vs r
      obtain ⟨v, r', rfl, ⟨p, us, rfl, hp, hus⟩, h2⟩ := r
      obtain ⟨ps, ws, rfl, i1, i2⟩ := ih r' h2
      obtain ⟨x, us', rfl, hx, hy⟩ := hus
      obtain ⟨y, us2, rfl, hy1, hy2⟩ := hy
      cases (show us2 = [] from hy2)
      rw [kd_rd hx] at hp
      exact ⟨p :: ps, (kv.1, y) :: ws, rfl, .cons (SqT.of hp) i1, y, ws, rfl, hy1, i2⟩
  obtain ⟨ps, ws, rfl, i1, i2⟩ := go kvs vs e4
  refine ⟨a, ps, ws, rfl, SqL.of e2, i1, fun p hp => ?_⟩
  have rk : RKs F H (putAllT [] kvs) (mergeK [] ws) := RKs.putAll (kvs := []) (vs := []) i2 rfl
  exact k (F ++ [p]) (.loc S.length) (.ref p) _ _ ⟨[p], rfl⟩ (Keep.new hp) (rs.new (o := .dK (putAllT [] kvs)) hp ⟨_, rfl, rk⟩) ⟨p, rfl, by rw [← rs.len]; simp⟩ h
/-- t[:i], not the whole -/
theorem WE.slT (h : WE X e v S fun d S1 => WE X hi v S1 fun j S2 => ∃ xs i, d = .tup xs ∧ j = .int i ∧ ¬ HT.sIx xs.length xs.length (some i) = xs.length ∧ Q (.tup (xs.take (HT.sIx xs.length xs.length (some i)))) S2) : WE X (.Subscript e (.Slice none (some hi) none p2) pos) v S Q := fun F t H Q' re rs k => by
  refine wE_of (pe_slice sl_tup pe_w po_none (po_some pe_w)) ?_
  refine h F t H _ re rs fun F1 d u H1 S1 p1 k1 rs1 r1 h1 => ?_
  refine h1 F1 t H1 _ (re.mono p1 k1) rs1 fun F2 j uj H2 S2 p2' k2 rs2 r2 h2 => ?_
  obtain ⟨xs, i, rfl, rfl, hw, q⟩ := h2
  cases r2
  obtain ⟨a, vs, rfl, e1, e2⟩ := RD.mono p2' k2 _ _ r1
  have el : vs.length = xs.length := e2.length
  refine ⟨i, rfl, a, vs, rfl, SqT.of e1, fun z => hw (by rw [← el]; exact z.2), fun p hp => ?_⟩
  have ec : cutV vs none (some i) = vs.take (HT.sIx xs.length xs.length (some i)) := by
    unfold cutV
    rw [el]; rfl
  rw [ec]
  have kp : Keep H2 (upd H2 p (.tup (vs.take (HT.sIx xs.length xs.length (some i))))) := Keep.new hp
  exact k F2 (.tup _) (.ref p) _ _ (p1.trans p2') ((k1.trans k2).trans kp) (rs2.other hp) ⟨p, _, rfl, upd_same, RDs.mono (List.prefix_refl F2) kp _ _ (e2.take _)⟩ q
end
end DM

namespace DM
open PySem PySem.Spec PyProof.Rows L2
/-! ### t[::-1], t a tuple -/
theorem fm_congr {α β : Type} {f g : α → Option β} : ∀ {l : List α}, (∀ a ∈ l, f a = g a) → l.filterMap f = l.filterMap g
  | [], _ => rfl
  | a :: l, h => by
    rw [List.filterMap_cons, List.filterMap_cons, h a List.mem_cons_self, fm_congr fun b hb => h b (List.mem_cons_of_mem _ hb)]
theorem places_back (n : Nat) : Builtin.Slice.slicePlaces ((n : Int) - 1) (-1) (-1) = n := by
  unfold Builtin.Slice.slicePlaces
  rw [if_neg (by decide)]
  by_cases h : n = 0
  · subst h; rfl
  · rw [if_pos (by omega)]
    have : (-(-1 : Int)) = 1 := rfl
    rw [this, Int.ediv_one]
    omega
theorem pick_back (xs : Array Value) : ((List.range xs.size).filterMap fun (m : Nat) => xs[(((xs.size : Int) - 1) + (m : Int) * (-1)).toNat]?).toArray = xs.toList.reverse.toArray := by
  congr 1
  apply List.ext_getElem?
  intro j
  have e : ∀ m ∈ List.range xs.size, xs[(((xs.size : Int) - 1) + (m : Int) * (-1)).toNat]? = xs.toList.reverse[m]? := fun m hm => by
    have hm := List.mem_range.mp hm
    have : (((xs.size : Int) - 1) + (m : Int) * (-1)).toNat = xs.size - 1 - m := by omega
    rw [this, List.getElem?_reverse (by rw [Array.length_toList]; exact hm), Array.length_toList, Array.getElem?_toList]
  have e2 : ((List.range xs.size).filterMap fun (m : Nat) => xs[(((xs.size : Int) - 1) + (m : Int) * (-1)).toNat]?) = xs.toList.reverse := by
    rw [fm_congr e]
    have := PySem.W.krv_all xs.toList.reverse.toArray
    simpa using this
  rw [e2]
section
variable {prog : Program} {w : World} {A : Around} {E : Value → Shared → Prop} {s : Shared}
theorem sliceApplied_back {sl : Addr} {t : Tok} {n : Nat} {Q : Int × Int × Nat → Shared → Prop} (hs : s.heap.IsSliceOf sl .none .none (.int (-1) t))
    (h : Q ((n : Int) - 1, -1, n) s) : wpAny (model prog w) A (Builtin.Slice.sliceApplied (.ref sl) (pure (n : Int))) Q E s := by
  obtain ⟨os, hos, hcs, hds⟩ := id hs
  unfold Builtin.Slice.sliceApplied Builtin.Slice.sliceFields
  refine wpAny_bind (wpAny_bind (wpAny_field hos hds (x := .none) rfl (wpAny_bind (wpAny_field hos hds (x := .none) rfl (wpAny_bind (wpAny_field hos hds (x := .int (-1) t) rfl (wpAny_pure ?_)))))))
  refine wpAny_bind (slicePart_int ?_)
  show wpAny _ _ (if ((-1 : Int) == 0) = true then _ else _) _ _ s
  rw [if_neg (by decide)]
  refine wpAny_bind (slicePart_none (wpAny_bind (slicePart_none (wpAny_bind (wpAny_pure ?_)))))
  show wpAny _ _ (pure ((n : Int) - 1, (-1 : Int), Builtin.Slice.slicePlaces ((n : Int) - 1) (-1) (-1))) _ _ s
  rw [places_back]
  exact wpAny_pure h
theorem getItem_tuple_back {t sl : Addr} {tk : Tok} {items : Array Value} {Q : Value → Shared → Prop} (ht : IsTup s.heap t items) (hs : s.heap.IsSliceOf sl .none .none (.int (-1) tk))
    (h : Q (.ref s.heap.objs.size) { s with heap := s.heap.push { cls := .type "tuple", data := .seq items.toList.reverse.toArray } }) (hsz : items.size ≤ sizeLine) : wpAny (model prog w) A (getItem (.ref t) (.ref sl)) Q E s := by
  have htake : sizeOk (.seq items.toList.reverse.toArray) := by
    show items.toList.reverse.toArray.size ≤ sizeLine
    rw [List.size_toArray, List.length_reverse, Array.length_toList]
    exact hsz
  obtain ⟨os, hos, hcs, hds⟩ := id hs
  have hTs : s.TypeIs (.ref sl) "slice" := ⟨os, hos, hcs⟩
  unfold getItem
  try with_reducible refine wpAny_holding ?_
  first | refine wpAny_bind (wpAny_pure ?_) | skip
  refine wpAny_bind (wpAny_sequenceKey ht.typeIs (by decide) ?_)
  refine wpAny_bind (wpAny_callSpecial?_slot (name := Str.ofString "__getitem__") ht.typeIs PyProof.Rows.slot_tuple_getitem
    (wpAny_call_entry PyProof.Rows.slot_tuple_getitem ht.typeIs entry_tuple_getitem ?_ (args_tuple_getitem _ _)))
  show wpAny _ _ (Builtin.Tuple.tupleItemsOf (.ref t) >>= _) _ _ s
  refine wpAny_bind (tupleItemsOf_ ht ?_)
  refine wpAny_bind (wpAny_typeOf hTs ?_)
  rw [if_pos (by decide)]
  refine wpAny_bind (sliceApplied_back hs ?_)
  have hno : ¬ ((((items.size : Int) - 1) == 0 && (-1 : Int) == 1 && items.size == items.size) = true) := by
    intro q
    rw [Bool.and_eq_true, Bool.and_eq_true] at q
    exact absurd q.1.2 (by decide)
  show wpAny _ _ (if (((items.size : Int) - 1) == 0 && (-1 : Int) == 1 && items.size == items.size) = true then _ else _) _ _ s
  rw [if_neg hno, pick_back]
  first
    | exact wpAny_bind (m := Builtin.Tuple.tupleExact _) (wpAny_newObj_type (wpAny_pure ⟨_, rfl, wpAny_pure h⟩) htake)
    | exact wpAny_bind (m := Builtin.Tuple.tupleExact _) (wpAny_newObj_type (wpAny_bind (wpAny_pure (wpAny_pure ⟨_, rfl, wpAny_pure h⟩))) htake)
    | exact wpAny_bind (wpAny_bind (m := Builtin.Tuple.tupleExact _) (wpAny_newObj_type (wpAny_pure (wpAny_pure ⟨_, rfl, wpAny_pure h⟩)) htake))
    | exact wpAny_bind (wpAny_bind (m := Builtin.Tuple.tupleExact _) (wpAny_newObj_type (wpAny_pure ⟨_, rfl, wpAny_pure h⟩) htake))
end
theorem vals_reverse {xs : List V} {us : List Value} (r : Vals xs us) : Vals xs.reverse us.reverse := by
  induction r with
  | nil => exact .nil
  | cons h t ih =>
    rw [List.reverse_cons, List.reverse_cons]
    exact Paired.snoc ih h
theorem pe_backT {X : Cx} {e st : Expr} {te ts : TE} {pos p2 : Pos} (he : PE X e te) (hst : PE X st ts) : PE X (.Subscript e (.Slice none none (some st) p2) pos) (fun σ H Q => te σ H fun x H1 => ts σ H1 fun j H2 => ∃ a xs, x = .ref a ∧ j = .int (-1) ∧ SqT X.K H2 a xs ∧ ∀ p, H2 p = none → Q (.ref p) (upd H2 p (.tup xs.reverse))) := by
  refine ⟨fun pins s σ H Q I h => ?_⟩
  refine Subscript_ (thn (he.run pins s σ H _ I h) fun v s1 ⟨x, H1, I1, r1, q1⟩ => ?_)
  refine wpAny_Slice ?_
  rw [evalPart_none]
  refine wpAny_pure ?_
  refine wpAny_pure ?_
  rw [evalPart_some]
  refine thn (hst.run pins s1 σ H1 _ I1 q1) fun vs s3 ⟨j, H2, I3, r2, a, xs, ex, ej, hx, q3⟩ => ?_
  subst ex ej
  obtain ⟨tk, rfl⟩ := r2
  obtain rfl : v = Value.ref a := r1
  have I4 : Inv X pins σ H2 { s3 with heap := s3.heap.push { cls := .type "slice", data := .fields #[.none, .none, .int (-1) tk] } } := I3.kept (t' := s3.toks) fun b ob q => Heap.get?_push_of_some _ q
  obtain ⟨its, r, ht, hz⟩ := I4.tuple hx
  have hlen : its.toArray.size = xs.length := by rw [List.size_toArray]; exact r.length.symm
  show wpAny (model X.prog X.w) X.A (subscriptTail e (.Slice none none (some st) p2) (.ref a) (.ref s3.heap.objs.size)) (EP X pins σ Q) X.xe { s3 with heap := s3.heap.push { cls := .type "slice", data := .fields #[.none, .none, .int (-1) tk] } }
  refine tail_any (ops := [.ref a, .ref s3.heap.objs.size]) ht.typeIs PyProof.Rows.slot_tuple_getitem.lookup (getItem_tuple_back ht (Heap.IsSliceOf.new ..) ?_ (by rw [hlen]; exact hz)) (by with_unfolding_all rfl)
  refine ⟨.ref _, _, I4.laid (t' := s3.toks) (o := .tup xs.reverse) (fun b ob q => Heap.get?_push_of_some _ q) (Nat.le_refl _) ?_, rfl, q3 _ (I4.hok.fresh (Nat.le_refl _))⟩
  exact ⟨by rw [List.length_reverse]; exact hz, _, vals_reverse r, IsTup.new _ _⟩
theorem RDs.rev {F : List Addr} {H : Hp} : ∀ {xs : List D} {vs : List V}, RDs F H xs vs → RDs F H xs.reverse vs.reverse
  | [], vs, r => by cases (show vs = [] from r); rfl
  | x :: xs, _, ⟨v, r', e, h1, h2⟩ => by
    subst e
    rw [List.reverse_cons, List.reverse_cons]
    exact (RDs.rev h2).append ⟨v, [], rfl, h1, rfl⟩
theorem WE.backT {X : Cx} {S : Store} {Q : D → Store → Prop} {v : Fv} {e st : Expr} {pos p2 : Pos} (h : WE X e v S fun d S1 => WE X st v S1 fun j S2 => ∃ xs, d = .tup xs ∧ j = .int (-1) ∧ Q (.tup xs.reverse) S2) : WE X (.Subscript e (.Slice none none (some st) p2) pos) v S Q := fun F t H Q' re rs k => by
  refine wE_of (pe_backT pe_w pe_w) ?_
  refine h F t H _ re rs fun F1 d u H1 S1 p1 k1 rs1 r1 h1 => ?_
  refine h1 F1 t H1 _ (re.mono p1 k1) rs1 fun F2 j uj H2 S2 p2' k2 rs2 r2 h2 => ?_
  obtain ⟨xs, rfl, rfl, q⟩ := h2
  cases r2
  obtain ⟨a, vs, rfl, e1, e2⟩ := RD.mono p2' k2 _ _ r1
  refine ⟨a, vs, rfl, rfl, SqT.of e1, fun p hp => ?_⟩
  have kp : Keep H2 (upd H2 p (.tup vs.reverse)) := Keep.new hp
  exact k F2 (.tup _) (.ref p) _ _ (p1.trans p2') ((k1.trans k2).trans kp) (rs2.other hp) ⟨p, _, rfl, upd_same, RDs.mono (List.prefix_refl F2) kp _ _ (RDs.rev e2)⟩ q
end DM

namespace DM
open PySem PySem.Spec PyProof.Rows L2
/-! ### reversed(range(n)) -/
def backD (n : Nat) : List D := (List.range n).map fun (i : Nat) => D.int (((n - 1 - i : Nat) : Int))
theorem backD_len {n : Nat} : (backD n).length = n := by simp [backD]
theorem backD_get {n i : Nat} {d : D} : (backD n)[i]? = some d ↔ i < n ∧ d = .int ((n - 1 - i : Nat) : Int) := by
  unfold backD
  rw [List.getElem?_map]
  by_cases h : i < n
  · rw [List.getElem?_range h]
    simp [h, eq_comm]
  · rw [List.getElem?_eq_none (by simpa using h)]
    simp [h]
theorem WI.revR {X : Cx} {S : Store} {v : Fv} {tg a : Expr} {p p2 pos pos2 : Pos} {R : Src → Store → Prop} (h : WE X a v S fun d S1 => ∃ n : Nat, d = .int (n : Int) ∧ n ≤ 100000 ∧ R ⟨backD n, fun _ => True⟩ S1) (hm : X.mg "reversed" = none) (hm2 : X.mg "range" = none) (hg : Gl X "reversed" := by rfl) (hg2 : Gl X "range" := by rfl)
    (hs : starEach [.Call (.Name "range" p2) [a] [] pos2] X.env = (false, eval (.Call (.Name "range" p2) [a] [] pos2) X.env) :: starEach [] X.env := by rfl) (na : starEach [a] X.env = (false, eval a X.env) :: starEach [] X.env := by rfl) :
    WI X tg (.Call (.Name "reversed" p) [.Call (.Name "range" p2) [a] [] pos2] [] pos) v S R := fun F t H R' re rs k => by
  refine wI_of (pi_revR hg hm (prg_1 hg2 hm2 pe_w na) hs) ?_
  refine h F t H _ re rs fun F1 d u H1 S1 p1 k1 rs1 r1 h1 => ?_
  obtain ⟨n, rfl, hn, q⟩ := h1
  cases r1
  have e1 : ((n : Int) - 0).toNat = n := by omega
  refine ⟨n, rfl, ?_⟩
  first
  | refine ⟨by omega, by omega, by omega, by omega, ?_⟩
  | refine ⟨by omega, by omega, by omega, by omega, by omega, by omega, ?_⟩
  rw [e1]
  refine k F1 (Itc _ _ n) H1 S1 ⟨backD n, fun _ => True⟩ p1 k1 rs1 (fun F2 H2 S2 p2 k2 rs2 _ => ?_) q
  refine ⟨fun i hi => ?_, Nat.le_of_eq backD_len.symm⟩
  have hi : i < n := by rw [show (Src.items ⟨backD n, fun _ => True⟩) = backD n from rfl, backD_len] at hi; exact hi
  refine ⟨hi, fun x H3 hy => ?_⟩
  obtain ⟨rfl, rfl⟩ := hy
  refine ⟨Keep.refl _, rs2, .int ((n - 1 - i : Nat) : Int), backD_get.mpr ⟨hi, rfl⟩, ?_⟩
  show V.int _ = V.int _
  congr 1
  omega
end DM

namespace DM
open PySem PySem.Spec PyProof.Rows L2
/-! ### things -/
inductive Th where
  | mk (m : List Int) (xs : List Th)
def Th.m : Th → List Int | .mk m _ => m
def Th.xs : Th → List Th | .mk _ xs => xs
mutual
def eT : Th → D
  | .mk m xs => .tup [eM m, .tup (eTs xs)]
def eTs : List Th → List D
  | [] => []
  | x :: xs => eT x :: eTs xs
end
theorem eTs_map : ∀ xs : List Th, eTs xs = xs.map eT
  | [] => rfl
  | x :: xs => by rw [List.map_cons, ← eTs_map xs]; rfl
theorem eT_eq (t : Th) : eT t = .tup [eM t.m, .tup (t.xs.map eT)] := by
  cases t with
  | mk m xs => show D.tup [eM m, .tup (eTs xs)] = _; rw [eTs_map]; rfl
/-- deep at most d below -/
def OkT : Nat → Th → Prop
  | 0, t => OkM 0 t.m ∧ t.xs = []
  | d + 1, t => OkM 0 t.m ∧ t.xs.length ≤ 3 ∧ ∀ x ∈ t.xs, OkT d x
theorem OkT.m : ∀ {d : Nat} {t : Th}, OkT d t → OkM 0 t.m
  | 0, _, h => h.1
  | _ + 1, _, h => h.1
theorem OkT.len : ∀ {d : Nat} {t : Th}, OkT d t → t.xs.length ≤ 3
  | 0, _, h => by rw [h.2]; exact Nat.zero_le _
  | _ + 1, _, h => h.2.1
mutual
def Th.size : Th → Nat
  | .mk _ xs => 1 + Th.sizes xs
def Th.sizes : List Th → Nat
  | [] => 0
  | x :: xs => Th.size x + Th.sizes xs
end
theorem sizes_append : ∀ (a b : List Th), Th.sizes (a ++ b) = Th.sizes a + Th.sizes b
  | [], b => by simp [Th.sizes]
  | x :: a, b => by show Th.size x + Th.sizes (a ++ b) = _; rw [sizes_append a b]; show _ = Th.size x + Th.sizes a + Th.sizes b; omega
theorem size_eq (t : Th) : t.size = 1 + Th.sizes t.xs := by cases t; rfl
theorem sizes_reverse : ∀ (a : List Th), Th.sizes a.reverse = Th.sizes a
  | [] => rfl
  | x :: a => by rw [List.reverse_cons, sizes_append, sizes_reverse a]; show _ + (Th.size x + 0) = Th.size x + _; omega
/-! the names and marks of a thing and what is in it, the outer ahead -/
mutual
def within : List Int → Th → List (List Int × List Int)
  | nm, .mk m xs => (nm, m) :: withins nm 0 xs
def withins : List Int → Nat → List Th → List (List Int × List Int)
  | _, _, [] => []
  | nm, k, x :: xs => within (nm ++ [(k : Int)]) x ++ withins nm (k + 1) xs
end
theorem bel_eT (n : Nat) : ∀ t : Th, bel n (eT t) = true := by
  have h : ∀ (k : Nat) (t : Th), t.size ≤ k → bel n (eT t) = true := by
    intro k
    induction k with
    | zero => intro t h; rw [size_eq] at h; omega
    | succ k ih =>
      intro t h
      rw [eT_eq]
      have : bel.belAll n (t.xs.map eT) = true := by
        have go : ∀ xs : List Th, Th.sizes xs ≤ k → bel.belAll n (xs.map eT) = true := by
          intro xs
          induction xs with
          | nil => intro _; rfl
          | cons x xs ih2 =>
            intro hx
            have hx : Th.size x + Th.sizes xs ≤ k := hx
            show (bel n (eT x) && bel.belAll n (xs.map eT)) = true
            rw [ih x (by omega), ih2 (by omega)]; rfl
        exact go t.xs (by rw [size_eq] at h; omega)
      show (bel n (eM t.m) && (bel.belAll n (t.xs.map eT) && true)) = true
      rw [bel_eM, this]; rfl
  exact fun t => h t.size t (Nat.le_refl _)
theorem pu_eT : ∀ {d : Nat} {t : Th} {n : Nat}, OkT d t → 2 * d + 3 ≤ n → pu n (eT t) = true
  | 0, t, n, h, hn => by
    obtain ⟨n, rfl⟩ : ∃ m, n = m + 3 := ⟨n - 3, by omega⟩
    rw [eT_eq, h.2]
    have := h.1.1
    show (decide (2 ≤ 100000) && (pu (n + 2) (eM t.m) && (pu (n + 2) (.tup []) && true))) = true
    rw [pu_eM (by omega)]; rfl
  | d + 1, t, n, h, hn => by
    obtain ⟨n, rfl⟩ : ∃ m, n = m + 3 := ⟨n - 3, by omega⟩
    rw [eT_eq]
    have h3 := h.1.1
    have hl := h.2.1
    have ha : (t.xs.map eT).all (pu (n + 1)) = true := by
      rw [List.all_eq_true]
      intro y hy
      obtain ⟨x, hx, rfl⟩ := List.mem_map.mp hy
      exact pu_eT (h.2.2 x hx) (by omega)
    show (decide (2 ≤ 100000) && (pu (n + 2) (eM t.m) && ((decide ((t.xs.map eT).length ≤ 100000) && (t.xs.map eT).all (pu (n + 1))) && true))) = true
    rw [pu_eM (by omega), ha, List.length_map, decide_eq_true (show t.xs.length ≤ 100000 by omega)]; rfl
def bnd : Nat → Nat
  | 0 => 1
  | d + 1 => 1 + 3 * bnd d
theorem sizes_le {b : Nat} : ∀ {xs : List Th}, (∀ x ∈ xs, x.size ≤ b) → Th.sizes xs ≤ xs.length * b
  | [], _ => Nat.zero_le _
  | x :: xs, h => by
    have h1 := h x List.mem_cons_self
    have h2 := sizes_le (xs := xs) fun y hy => h y (List.mem_cons_of_mem _ hy)
    show x.size + Th.sizes xs ≤ (xs.length + 1) * b
    rw [Nat.succ_mul]; omega
theorem size_le : ∀ {d : Nat} {t : Th}, OkT d t → t.size ≤ bnd d
  | 0, t, h => by rw [size_eq, h.2]; exact Nat.le_refl _
  | d + 1, t, h => by
    have h1 := sizes_le (b := bnd d) fun x hx => size_le (h.2.2 x hx)
    have h2 : t.xs.length * bnd d ≤ 3 * bnd d := Nat.mul_le_mul_right _ h.2.1
    rw [size_eq]
    show 1 + _ ≤ 1 + 3 * bnd d
    omega
theorem len_sizes : ∀ (xs : List Th), xs.length ≤ Th.sizes xs
  | [] => Nat.zero_le _
  | x :: xs => by
    have h1 := len_sizes xs
    have h2 := size_eq x
    show xs.length + 1 ≤ x.size + Th.sizes xs
    omega
/-- rising from above a, at most 999 -/
def Rise : Int → List Int → Prop
  | _, [] => True
  | a, n :: ns => a < n ∧ n ≤ 999 ∧ Rise n ns
theorem drop_get {α : Type} : ∀ {l : List α} {i : Nat} {x : α}, l[i]? = some x → l.drop i = x :: l.drop (i + 1)
  | [], _, _, h => by simp at h
  | y :: l, 0, x, h => by
    have : y = x := by simpa using h
    rw [this]; rfl
  | y :: l, i + 1, x, h => by
    show l.drop i = x :: l.drop (i + 1)
    exact drop_get (by simpa using h)
/-- what is directly in a thing, with names -/
def kids : List Int → Nat → List Th → List (List Int × Th)
  | _, _, [] => []
  | nm, k, x :: xs => (nm ++ [(k : Int)], x) :: kids nm (k + 1) xs
theorem kids_get (nm : List Int) : ∀ (xs : List Th) (j k : Nat), (kids nm j xs)[k]? = xs[k]?.map fun x => (nm ++ [((j + k : Nat) : Int)], x)
  | [], _, _ => by simp [kids]
  | x :: xs, j, 0 => by simp [kids]
  | x :: xs, j, k + 1 => by
    show (kids nm (j + 1) xs)[k]? = _
    rw [kids_get nm xs (j + 1) k, List.getElem?_cons_succ, show j + 1 + k = j + (k + 1) by omega]
theorem kids_len (nm : List Int) : ∀ (xs : List Th) (j : Nat), (kids nm j xs).length = xs.length
  | [], _ => rfl
  | x :: xs, j => by show (kids nm (j + 1) xs).length + 1 = _; rw [kids_len nm xs (j + 1)]; rfl
theorem kids_snd (nm : List Int) : ∀ (xs : List Th) (j : Nat), (kids nm j xs).map (·.2) = xs
  | [], _ => rfl
  | x :: xs, j => by show x :: (kids nm (j + 1) xs).map (·.2) = _; rw [kids_snd nm xs (j + 1)]
theorem withins_kids (nm : List Int) : ∀ (xs : List Th) (j : Nat), withins nm j xs = (kids nm j xs).flatMap fun p => within p.1 p.2
  | [], _ => rfl
  | x :: xs, j => by
    show within (nm ++ [(j : Int)]) x ++ withins nm (j + 1) xs = _
    rw [withins_kids nm xs (j + 1)]; rfl
theorem within_eq (nm : List Int) (t : Th) : within nm t = (nm, t.m) :: (kids nm 0 t.xs).flatMap fun p => within p.1 p.2 := by
  cases t with
  | mk m xs => show (nm, m) :: withins nm 0 xs = _; rw [withins_kids]; rfl
def prD (p : List Int × Th) : D := .tup [eM p.1, eT p.2]
def wD (p : List Int × List Int) : D := .tup [eM p.1, eM p.2]
def kidF (nm : List Int) (xs : List Th) (d : D) : Option D := match d with
  | .int k => xs[k.toNat]?.map fun x => D.tup [.tup (nm.map D.int ++ [.int k]), eT x]
  | _ => none
theorem kids_back (nm : List Int) (xs : List Th) : (backD xs.length).filterMap (kidF nm xs) = (kids nm 0 xs).reverse.map prD := by
  have h1 : (backD xs.length).filterMap (kidF nm xs) = (List.range xs.length).filterMap fun i => ((kids nm 0 xs).reverse.map prD)[i]? := by
    unfold backD
    rw [List.filterMap_map]
    refine fm_congr fun i hi => ?_
    have hi := List.mem_range.mp hi
    show kidF nm xs (.int ((xs.length - 1 - i : Nat) : Int)) = _
    unfold kidF
    show (xs[((xs.length - 1 - i : Nat) : Int).toNat]?).map _ = _
    rw [Int.toNat_natCast, List.getElem?_map, List.getElem?_reverse (by rw [kids_len]; exact hi), kids_len, kids_get, Option.map_map]
    cases xs[xs.length - 1 - i]? with
    | none => rfl
    | some x =>
      show some _ = some (prD _)
      simp [prD, eM]
  rw [h1]
  have := PySem.W.krv_all ((kids nm 0 xs).reverse.map prD).toArray
  simpa [kids_len] using this
/-! ### lists of things and of helpers, as they are handed in -/
def thD (p : Int × Th) : D := .tup [.int p.1, eT p.2]
def heD (h : Int × List (List Int × Int) × Int) : D := .tup [.int h.1, eCs h.2.1, .int h.2.2]
def fstD (d : D) : Option D := match d with
  | .tup (x :: _) => some x
  | _ => none
def OkTs (ts : List (Int × Th)) : Prop := ts.length ≤ 100 ∧ Rise (-1) (ts.map (·.1)) ∧ ∀ p ∈ ts, OkT 2 p.2
def OkHs (hs : List (Int × List (List Int × Int) × Int)) : Prop := hs.length ≤ 100 ∧ Rise (-1) (hs.map (·.1)) ∧ ∀ h ∈ hs, OkCs h.2.1 ∧ 0 ≤ h.2.2 ∧ h.2.2 ≤ 4
end DM

namespace DM
open PySem PySem.Spec PyProof.Rows L2
/-! ### the pairs that fit, in order -/
abbrev He := Int × List (List Int × Int) × Int
abbrev Row := Int × Int × Int × List Int
def rowD (r : Row) : D := .tup [.int r.1, .int r.2.1, .int r.2.2.1, eM r.2.2.2]
def rowOf (p : List Int × List Int) (h : He) : Option Row := (fitOf h.2.1 p.2).map fun f => ((p.1.length : Int), -f, h.1, p.1)
def rowsOf (ps : List (List Int × List Int)) (hs : List He) : List Row := ps.flatMap fun p => hs.filterMap (rowOf p)
def OkW (ps : List (List Int × List Int)) : Prop := ps.length ≤ 900 ∧ ∀ p ∈ ps, 1 ≤ p.1.length ∧ p.1.length ≤ 3 ∧ OkM 0 p.2
theorem rows_snoc (ps : List (List Int × List Int)) (p : List Int × List Int) (hs : List He) : rowsOf (ps ++ [p]) hs = rowsOf ps hs ++ hs.filterMap (rowOf p) := by
  unfold rowsOf; rw [List.flatMap_append]; simp
theorem rows_len (ps : List (List Int × List Int)) (hs : List He) : (rowsOf ps hs).length ≤ ps.length * hs.length := by
  induction ps with
  | nil => exact Nat.zero_le _
  | cons p ps ih =>
    show (hs.filterMap (rowOf p) ++ rowsOf ps hs).length ≤ (ps.length + 1) * hs.length
    rw [List.length_append, Nat.succ_mul]
    have := List.length_filterMap_le (rowOf p) hs
    omega
theorem rows_of {ps : List (List Int × List Int)} {hs : List He} {r : Row} (h : r ∈ rowsOf ps hs) : ∃ p ∈ ps, ∃ x ∈ hs, ∃ v, fitOf x.2.1 p.2 = some v ∧ r = ((p.1.length : Int), -v, x.1, p.1) := by
  obtain ⟨p, hp, h⟩ := List.mem_flatMap.mp h
  obtain ⟨x, hx, h⟩ := List.mem_filterMap.mp h
  unfold rowOf at h
  cases e : fitOf x.2.1 p.2 with
  | none => rw [e] at h; cases h
  | some v => rw [e] at h; cases h; exact ⟨p, hp, x, hx, v, e, rfl⟩
theorem rows_name {ps : List (List Int × List Int)} {hs : List He} (op : OkW ps) {r : Row} (h : r ∈ rowsOf ps hs) : r.2.2.2.length ≤ 3 := by
  obtain ⟨p, hp, x, hx, v, e, rfl⟩ := rows_of h
  exact (op.2 p hp).2.1
theorem row_alike (a b : Row) : PySem.W.alike (toP (rowD a)) (toP (rowD b)) = true := by
  have h : ∀ x y : List Int, PySem.W.alikeAll (toPs (x.map D.int)) (toPs (y.map D.int)) = true := by
    intro x
    induction x with
    | nil => intro y; cases y <;> simp [toPs, PySem.W.alikeAll]
    | cons i x ih =>
      intro y
      cases y with
      | nil => simp [toPs, PySem.W.alikeAll]
      | cons j y =>
        have := ih y
        simp [toPs, toP, PySem.W.alikeAll, PySem.W.alike, this]
  have := h a.2.2.2 b.2.2.2
  simp [rowD, toP, toPs, eM, PySem.W.alike, PySem.W.alikeAll, this]
theorem rows_alike (l : List Row) : PySem.W.AllAlike ((l.map rowD).map toP) := by
  rw [List.map_map]; exact PySem.W.AllAlike.of (enc := toP ∘ rowD) fun a b => row_alike a b
theorem rows_sortable (l : List Row) : PySem.W.Sortable ((l.map rowD).map toP) := by
  rw [List.map_map]; exact PySem.W.Sortable.tuples (enc := toP ∘ rowD) fun a => ⟨_, _, rfl⟩
theorem pu_row {r : Row} (h : r.2.2.2.length ≤ 100000) : pu 60 (rowD r) = true := by
  show (decide (4 ≤ 100000) && (pu 59 (.int _) && (pu 59 (.int _) && (pu 59 (.int _) && (pu 59 (eM r.2.2.2) && true))))) = true
  rw [pu_eM h, pu_int, pu_int, pu_int]; rfl
end DM

namespace DM
open PySem PySem.Spec PyProof.Rows L2
/-! ### tables through their keys and values -/
section
variable {κ κ' β β' : Type} [DecidableEq κ] [DecidableEq κ'] {g : κ → κ'} {e : β → β'}
def mapT (g : κ → κ') (e : β → β') (kvs : List (κ × β)) : List (κ' × β') := kvs.map fun p => (g p.1, e p.2)
theorem getT_mapT (inj : ∀ a b, g a = g b → a = b) (kvs : List (κ × β)) (k : κ) : getT (mapT g e kvs) (g k) = (getT kvs k).map e := by
  induction kvs with
  | nil => rfl
  | cons p r ih =>
    show getT ((g p.1, e p.2) :: mapT g e r) (g k) = _
    rw [getT_cons, getT_cons, ih]
    by_cases h : p.1 = k
    · rw [if_pos h, if_pos (by rw [h])]; rfl
    · rw [if_neg h, if_neg (fun z => h (inj _ _ z))]
theorem putT_mapT (inj : ∀ a b, g a = g b → a = b) (kvs : List (κ × β)) (k : κ) (v : β) : putT (mapT g e kvs) (g k) (e v) = mapT g e (putT kvs k v) := by
  unfold putT
  rw [any_getT, any_getT, getT_mapT inj, Option.isSome_map]
  split
  · unfold mapT
    rw [List.map_map, List.map_map]
    refine List.map_congr_left fun p _ => ?_
    show (if g p.1 = g k then (g p.1, e v) else (g p.1, e p.2)) = _
    by_cases h : p.1 = k
    · rw [if_pos (by rw [h])]; simp [h]
    · rw [if_neg (fun z => h (inj _ _ z))]; simp [h]
  · unfold mapT; rw [List.map_append]; rfl
end
def kI (i : Int) : Key := .inl i
def kN (nm : List Int) : List Key := nm.map kI
theorem kI_inj : ∀ a b, kI a = kI b → a = b := fun a b h => by injection h
theorem kN_inj : ∀ a b, kN a = kN b → a = b
  | [], [], _ => rfl
  | [], _ :: _, h => by simp [kN] at h
  | _ :: _, [], h => by simp [kN] at h
  | x :: a, y :: b, h => by
    have h : kI x :: kN a = kI y :: kN b := h
    injection h with h1 h2
    rw [kI_inj _ _ h1, kN_inj a b h2]
theorem eM_key (nm : List Int) : eM nm = ktD (kN nm) := by
  show D.tup (nm.map D.int) = D.tup ((nm.map kI).map kdD)
  rw [List.map_map]; rfl
/-- rooms left, and what is had -/
abbrev Had := List (Int × Int) × List (List Int × Int)
def hadStep (s : Had) (r : Row) : Had :=
  if getT s.2 r.2.2.2 = none ∧ 0 < ((getT s.1 r.2.2.1).getD 0) ∧ (r.1 = 1 ∨ (getT s.2 r.2.2.2.dropLast).isSome = true) then (putT s.1 r.2.2.1 ((getT s.1 r.2.2.1).getD 0 - 1), putT s.2 r.2.2.2 r.2.2.1) else s
def dRm (rm : List (Int × Int)) : Ob := .dK (mapT kI D.int rm)
def dFd (fd : List (List Int × Int)) : Ob := .dT (mapT kN D.int fd)
theorem hadStep_rooms (s : Had) (r : Row) (k : Int) (h : (getT s.1 k).isSome = true) : (getT (hadStep s r).1 k).isSome = true := by
  unfold hadStep
  split
  · show (getT (putT s.1 _ _) k).isSome = true
    rw [getT_put]
    split
    · rfl
    · exact h
  · exact h
theorem hadStep_len (s : Had) (r : Row) : (hadStep s r).2.length ≤ s.2.length + 1 := by
  unfold hadStep
  split
  · exact putT_len _ _ _
  · exact Nat.le_succ _
def roomsOf (hs : List He) : List (Int × Int) := putAllT [] (hs.map fun h => (h.1, h.2.2))
def leR (a b : Row) : Bool := leD (rowD a) (rowD b)
def sortR (ps : List (List Int × List Int)) (hs : List He) : List Row := (rowsOf ps hs).mergeSort leR
theorem sortR_map (ps : List (List Int × List Int)) (hs : List He) : ((rowsOf ps hs).map rowD).mergeSort leD = (sortR ps hs).map rowD := (List.map_mergeSort (f := rowD) (r := leR) (s := leD) (l := rowsOf ps hs) fun _ _ _ _ => rfl).symm
def hadOf (ps : List (List Int × List Int)) (hs : List He) : List (List Int × Int) := ((sortR ps hs).foldl hadStep (roomsOf hs, [])).2
theorem putAllT_mapT {κ κ' β β' : Type} [DecidableEq κ] [DecidableEq κ'] {g : κ → κ'} {e : β → β'} (inj : ∀ a b, g a = g b → a = b) : ∀ (more kvs : List (κ × β)), putAllT (mapT g e kvs) (mapT g e more) = mapT g e (putAllT kvs more)
  | [], _ => rfl
  | p :: more, kvs => by
    show putAllT (putT (mapT g e kvs) (g p.1) (e p.2)) (mapT g e more) = mapT g e (putAllT (putT kvs p.1 p.2) more)
    rw [putT_mapT inj, putAllT_mapT inj more]
theorem getT_putAll {κ β : Type} [DecidableEq κ] {k : κ} : ∀ (more kvs : List (κ × β)), ((getT kvs k).isSome = true ∨ ∃ v, (k, v) ∈ more) → (getT (putAllT kvs more) k).isSome = true
  | [], kvs, h => by
    rcases h with h | ⟨v, h⟩
    · exact h
    · cases h
  | p :: more, kvs, h => by
    refine getT_putAll more (putT kvs p.1 p.2) ?_
    rw [getT_put]
    rcases h with h | ⟨v, h⟩
    · left; split
      · rfl
      · exact h
    · rcases List.mem_cons.mp h with rfl | h
      · left; rw [if_pos rfl]; rfl
      · exact .inr ⟨v, h⟩
theorem rooms_some {hs : List He} {h : He} (m : h ∈ hs) : (getT (roomsOf hs) h.1).isSome = true := getT_putAll _ _ (.inr ⟨h.2.2, List.mem_map.mpr ⟨h, m, rfl⟩⟩)
theorem fold_rooms {k : Int} : ∀ (rs : List Row) (s : Had), (getT s.1 k).isSome = true → (getT (rs.foldl hadStep s).1 k).isSome = true
  | [], _, h => h
  | r :: rs, s, h => fold_rooms rs (hadStep s r) (hadStep_rooms s r k h)
theorem fold_len : ∀ (rs : List Row) (s : Had), (rs.foldl hadStep s).2.length ≤ s.2.length + rs.length
  | [], _ => Nat.le_refl _
  | r :: rs, s => by
    have h1 := fold_len rs (hadStep s r)
    have h2 := hadStep_len s r
    show ((rs.foldl hadStep (hadStep s r))).2.length ≤ s.2.length + (rs.length + 1)
    omega
theorem putT_len_some {κ β : Type} [DecidableEq κ] (kvs : List (κ × β)) (k : κ) (v : β) (h : (getT kvs k).isSome = true) : (putT kvs k v).length = kvs.length := by
  have := congrArg List.length (putT_keys_mem kvs k v h)
  simpa using this
theorem hadStep_rlen (s : Had) (r : Row) (h : (getT s.1 r.2.2.1).isSome = true) : (hadStep s r).1.length = s.1.length := by
  unfold hadStep
  split
  · exact putT_len_some _ _ _ h
  · rfl
theorem fold_rlen : ∀ (rs : List Row) (s : Had), (∀ r ∈ rs, (getT s.1 r.2.2.1).isSome = true) → (rs.foldl hadStep s).1.length = s.1.length
  | [], _, _ => rfl
  | r :: rs, s, h => by
    have h1 := fold_rlen rs (hadStep s r) fun x hx => hadStep_rooms s r _ (h x (List.mem_cons_of_mem _ hx))
    have h2 := hadStep_rlen s r (h r List.mem_cons_self)
    show ((rs.foldl hadStep (hadStep s r))).1.length = _
    omega
theorem putAllT_len {κ β : Type} [DecidableEq κ] : ∀ (more kvs : List (κ × β)), (putAllT kvs more).length ≤ kvs.length + more.length
  | [], kvs => Nat.le_refl _
  | p :: more, kvs => by
    have := putAllT_len more (putT kvs p.1 p.2)
    have h := putT_len kvs p.1 p.2
    show (putAllT (putT kvs p.1 p.2) more).length ≤ kvs.length + (more.length + 1)
    omega
theorem rooms_len (hs : List He) : (roomsOf hs).length ≤ hs.length := by
  have := putAllT_len (hs.map fun h => (h.1, h.2.2)) []
  rw [List.length_map] at this
  show (putAllT [] _).length ≤ _
  simpa using this
theorem sIx_init {n : Nat} (h : 1 ≤ n) : HT.sIx n n (some (-1)) = n - 1 := by
  simp only [HT.sIx]
  split <;> omega
theorem belK_int {κ κ' : Type} {g : κ → κ'} {n : Nat} : ∀ (kvs : List (κ × Int)), belK n (mapT g D.int kvs) = true
  | [] => rfl
  | p :: kvs => by show (true && belK n (mapT g D.int kvs)) = true; rw [belK_int kvs]; rfl
end DM

namespace DM
open PySem PySem.Spec PyProof.Rows L2
/-! ### loops over written-down items, part by part -/
theorem take_at {α : Type} {l : List α} {i : Nat} {x : α} (h : l[i]? = some x) : l.take (i + 1) = l.take i ++ [x] := by rw [List.take_add_one, h]; rfl
theorem split_at {α : Type} {l : List α} {i : Nat} {x : α} (h : l[i]? = some x) : l = l.take i ++ x :: l.drop (i + 1) := by
  have hi := (List.getElem?_eq_some_iff.mp h)
  obtain ⟨hl, e⟩ := hi
  have := List.take_append_drop i l
  rw [List.drop_eq_getElem_cons hl, e] at this
  exact this.symm
def ForTurns {α : Type} (X : Cx) (tg : Expr) (body : List Stmt) (enc : α → D) (xs : List α) (ok : Store → Prop) (v : Fv) (S1 : Store) (E : Ed) : Prop :=
  ∃ I : List α → Fv → Store → Prop, I [] v S1 ∧ (∀ pre v2 S2, I pre v2 S2 → ok S2) ∧
    (∀ pre x post v2 S2, xs = pre ++ x :: post → I pre v2 S2 → WG X tg (enc x) v2 S2 fun v3 S3 => WSs X S1.length body v3 S3 { nx := fun v4 S4 => WkE S1.length v4 S4 (I (pre ++ [x])), ct := fun v4 S4 => WkE S1.length v4 S4 (I (pre ++ [x])), bk := E.nx, rt := E.rt, xe := E.xe }) ∧
    (∀ v2 S2, I xs v2 S2 → E.nx v2 S2)
section
variable {X : Cx} {n : Nat} {tg e it a : Expr} {body : List Stmt} {v : Fv} {S : Store} {E : Ed} {pos p pos2 : Pos}
theorem WS.forM {α : Type} (enc : α → D) (h : WI X tg it v S fun c S1 => ∃ xs : List α, c.items = xs.map enc ∧ ForTurns X tg body enc xs c.ok v S1 E) (hp : PassesOwn (model X.prog X.w) X.A X.env X.xe) (hc : X.calm = true)
    (hs : ∀ x, foldedSetIterable it X.env x = pure x := by intro _; rfl) : WS X n (.For tg it body [] pos) v S E := by
  refine WS.for (fun F t H R' re rs k => h F t H R' re rs fun F' J H' S' c p1 k1 rs1 sk q => k F' J H' S' c p1 k1 rs1 sk ?_) hp hc hs
  obtain ⟨xs, hc, I, i0, iok, turn, done⟩ := q
  have hl : c.items.length = xs.length := by rw [hc, List.length_map]
  refine ⟨fun i v2 S2 => I (xs.take i) v2 S2, i0, fun i v2 S2 _ h => iok _ v2 S2 h, fun i d v2 S2 hd h => ?_, fun v2 S2 h => done v2 S2 ?_⟩
  · rw [hc, List.getElem?_map] at hd
    cases e : xs[i]? with
    | none => rw [e] at hd; cases hd
    | some x =>
      rw [e] at hd
      cases (show d = enc x from (Option.some.inj hd).symm)
      have := turn (xs.take i) x (xs.drop (i + 1)) v2 S2 (split_at e) h
      rw [← take_at e] at this
      exact this
  · have h : I (xs.take c.items.length) v2 S2 := h
    rw [hl, List.take_length] at h
    exact h
theorem WS.forL {α : Type} (enc : α → D) (h : WE X e v S fun d S1 => ∃ l xs, d = .loc l ∧ S1[l]? = some (.lst (xs.map enc)) ∧ ForTurns X tg body enc xs (fun S2 => S2[l]? = some (.lst (xs.map enc))) v S1 E) (hp : PassesOwn (model X.prog X.w) X.A X.env X.xe) (hc : X.calm = true)
    (hs : ∀ x, foldedSetIterable e X.env x = pure x := by intro _; rfl) : WS X n (.For tg e body [] pos) v S E :=
  WS.forM enc (WI.list (h.mono fun d S1 ⟨l, xs, e1, e2, q⟩ => ⟨l, xs.map enc, e1, e2, xs, rfl, q⟩)) hp hc hs
theorem WS.forT {α : Type} (enc : α → D) (h : WE X e v S fun d S1 => ∃ xs : List α, d = .tup (xs.map enc) ∧ ForTurns X tg body enc xs (fun _ => True) v S1 E) (hp : PassesOwn (model X.prog X.w) X.A X.env X.xe) (hc : X.calm = true)
    (hs : ∀ x, foldedSetIterable e X.env x = pure x := by intro _; rfl) : WS X n (.For tg e body [] pos) v S E :=
  WS.forM enc (WI.tup (h.mono fun d S1 ⟨xs, e1, q⟩ => ⟨xs.map enc, e1, xs, rfl, q⟩)) hp hc hs
/-- over range(n): the body sees how many turns there were -/
theorem WS.forN (h : WA X [a] v S fun ds S1 => ∃ k : Nat, ds = [.int k] ∧ k ≤ 1000000 ∧ ∃ I : Nat → Fv → Store → Prop, I 0 v S1 ∧
      (∀ i v2 S2, i < k → I i v2 S2 → WG X tg (.int i) v2 S2 fun v3 S3 => WSs X S1.length body v3 S3 { nx := fun v4 S4 => WkE S1.length v4 S4 (I (i + 1)), ct := fun v4 S4 => WkE S1.length v4 S4 (I (i + 1)), bk := E.nx, rt := E.rt, xe := E.xe }) ∧ (∀ v2 S2, I k v2 S2 → E.nx v2 S2))
    (hm : X.mg "range" = none) (hp : PassesOwn (model X.prog X.w) X.A X.env X.xe) (hc : X.calm = true) (hg : Gl X "range" := by rfl) (hs : starEach [a] X.env = [(false, eval a X.env)] := by rfl)
    (hs2 : ∀ x, foldedSetIterable (.Call (.Name "range" p) [a] [] pos2) X.env x = pure x := by intro _; rfl) : WS X n (.For tg (.Call (.Name "range" p) [a] [] pos2) body [] pos) v S E := by
  refine WS.for (WI.range1 (fun F t H Q' re rs k => h F t H Q' re rs fun F1 ds vs H1 S1 p1 k1 rs1 r1 q => k F1 ds vs H1 S1 p1 k1 rs1 r1 ?_) hm hg hs) hp hc hs2
  obtain ⟨m, e, hm, I, i0, turn, done⟩ := q
  refine ⟨m, e, by omega, by omega, fun i v2 S2 => i ≤ m ∧ I i v2 S2, ⟨Nat.zero_le _, i0⟩, fun _ _ _ _ _ => trivial, ?_, ?_⟩
  · rintro i d v2 S2 hd ⟨hi, hI⟩
    obtain ⟨hi2, rfl⟩ := rngD_get.mp hd
    have hi2 : i < m := by omega
    have := turn i v2 S2 hi2 hI
    rw [Int.zero_add]
    have wk : ∀ v4 S4, WkE S1.length v4 S4 (I (i + 1)) → WkE S1.length v4 S4 fun v S => i + 1 ≤ m ∧ I (i + 1) v S := fun v4 S4 ⟨v5, S5, c, q⟩ => ⟨v5, S5, c, hi2, q⟩
    intro F t H u Q' re rs r k
    refine this F t H u Q' re rs r fun F1 v1 t1 H1 S3 p1 k1 re1 rs1 h1 => k F1 v1 t1 H1 S3 p1 k1 re1 rs1 ?_
    intro F0 H0 F t H E' hl p k re rs q
    exact h1 F0 H0 F t H E' hl p k re rs ⟨fun F5 v5 t5 H5 S5 p5 k5 re5 rs5 h5 => q.nx F5 v5 t5 H5 S5 p5 k5 re5 rs5 (wk _ _ h5), q.rt, q.bk, fun F5 v5 t5 H5 S5 p5 k5 re5 rs5 h5 => q.ct F5 v5 t5 H5 S5 p5 k5 re5 rs5 (wk _ _ h5), q.xe⟩
  · rintro v2 S2 ⟨_, hI⟩
    have e2 : (Src.items ⟨rngD 0 ((m : Int)).toNat, fun _ => True⟩).length = m := by
      show (rngD 0 ((m : Int)).toNat).length = m
      rw [rngD_len]; omega
    rw [e2] at hI
    exact done v2 S2 hI
end
/-- a comprehension whose elements are reckoned from the items alone, over encoded items -/
theorem lc_fm {α : Type} {X : Cx} {scope : Scope} {ifs : List Expr} {elt : Expr} {up : D → Fv → Option Fv} {vs : List Nat} {v : Fv} {n : Nat} {c : Src} {S1 : Store} {Q : D → Store → Prop} (enc : α → D) (xs : List α) (f : α → Option D) (hc : c.items = xs.map enc) (hb : belS S1.length S1) (hz : xs.length ≤ 100000)
    (hok : ∀ acc, c.ok (S1 ++ [.lst acc])) (turn : ∀ (x : α) (acc : List D), x ∈ xs → ∃ v3, up (enc x) (wipeD v vs) = some v3 ∧ ∀ Y, BlkOf X scope Y → WTs Y ifs v3 (S1 ++ [.lst acc]) fun b S3 => (∃ G, S3 = S1 ++ [.lst acc] ++ G) ∧
      (b = true → ∀ Z, BlkOf X scope Z → WE Z elt v3 S3 fun y S4 => (∃ G, S4 = S1 ++ [.lst acc] ++ G) ∧ bel S1.length y = true ∧ f x = some y) ∧ (b = false → f x = none))
    (h : Q (.loc S1.length) (S1 ++ [.lst (xs.filterMap f)])) : LcTurns X scope ifs elt up vs v n c S1 Q := by
  have ft : ∀ (i : Nat) (x : α), xs[i]? = some x → (xs.take (i + 1)).filterMap f = (xs.take i).filterMap f ++ (f x).toList := fun i x hx => by
    rw [take_at hx, List.filterMap_append]
    cases e : f x <;> simp [List.filterMap, e]
  have hl : c.items.length = xs.length := by rw [hc, List.length_map]
  refine ⟨fun i acc S2 => S2 = S1 ∧ acc = (xs.take i).filterMap f ∧ bel.belAll S1.length acc = true, ⟨rfl, by simp, rfl⟩, ?_, ?_, ?_⟩
  · rintro i acc S2 hi ⟨rfl, _⟩
    exact ⟨rfl, hok acc⟩
  · rintro i d acc S2 hd ⟨rfl, ha, hba⟩
    rw [hc, List.getElem?_map] at hd
    obtain ⟨x, hx, rfl⟩ : ∃ x, xs[i]? = some x ∧ d = enc x := by
      cases e : xs[i]? with
      | none => rw [e] at hd; cases hd
      | some x => rw [e] at hd; exact ⟨x, rfl, (Option.some.inj hd).symm⟩
    obtain ⟨v3, h1, h2⟩ := turn x acc (List.mem_of_getElem? hx)
    have cl : belS (S2.length + 1) (S2 ++ [.lst acc]) := belS_snoc (belS_mono (Nat.le_succ _) hb) (belAll_mono (Nat.le_succ _) acc hba)
    have hlen : acc.length ≤ i := by
      rw [ha]
      exact Nat.le_trans (List.length_filterMap_le _ _) (by simp; omega)
    have hi : i < xs.length := (List.getElem?_eq_some_iff.mp hx).1
    refine ⟨v3, h1, fun Y hY => ?_⟩
    have w := h2 Y hY
    have imp : ∀ b S3, ((∃ G, S3 = S2 ++ [.lst acc] ++ G) ∧ (b = true → ∀ Z, BlkOf X scope Z → WE Z elt v3 S3 fun y S4 => (∃ G, S4 = S2 ++ [.lst acc] ++ G) ∧ bel S2.length y = true ∧ f x = some y) ∧ (b = false → f x = none)) →
        (b = true → ∀ Z, BlkOf X scope Z → WE Z elt v3 S3 fun y S4 => WkD (S2.length + 1) y S4 fun y2 S5 => acc.length < sizeLine ∧ ∃ S6, S5 = S6 ++ [.lst acc] ∧ (S6 = S2 ∧ acc ++ [y2] = (xs.take (i + 1)).filterMap f ∧ bel.belAll S2.length (acc ++ [y2]) = true)) ∧
        (b = false → ∃ S5, CovS (S2.length + 1) S3 S5 ∧ ∃ S6, S5 = S6 ++ [.lst acc] ∧ (S6 = S2 ∧ acc = (xs.take (i + 1)).filterMap f ∧ bel.belAll S2.length acc = true)) := by
      rintro b S3 ⟨⟨G0, rfl⟩, ht, hf⟩
      refine ⟨fun hb1 Z hZ => ?_, fun hb0 => ?_⟩
      · refine (ht hb1 Z hZ).mono fun y S4 ⟨⟨G, e⟩, by', fy⟩ => ?_
        subst e
        have hl : (S2 ++ [Ob.lst acc]).length = S2.length + 1 := by simp
        refine ⟨y, S2 ++ [.lst acc], ?_, Nat.lt_of_lt_of_le (show acc.length < 100001 by omega) (by decide), S2, rfl, rfl, ?_, belAll_append hba (by show (bel S2.length y && true) = true; rw [by']; rfl)⟩
        · have := CovD.drop (S := S2 ++ [.lst acc]) (G := G) (d := y) (by rw [hl]; exact cl) (by rw [hl]; exact bel_mono (Nat.le_succ _) y by')
          rw [hl] at this
          exact this
        · rw [ft i x hx, fy, ha]; rfl
      · have hl : (S2 ++ [Ob.lst acc]).length = S2.length + 1 := by simp
        refine ⟨S2 ++ [.lst acc], CovS.drop (by rw [hl]; exact Nat.le_refl _) (by rw [hl]; exact cl), S2, rfl, rfl, ?_, hba⟩
        rw [ft i x hx, hf hb0, ha]; simp
    match ifs, w with
    | [], w => exact imp true _ w
    | [c'], w => exact fun F t H Q' re rs k => w F t H Q' re rs fun F' b H' S' p kk rs' q => k F' b H' S' p kk rs' (imp b S' q)
  · rintro acc S2 ⟨rfl, ha, _⟩
    rw [hl, List.take_length] at ha
    rw [ha]
    exact h
end DM

namespace DM
open PySem PySem.Spec PyProof.Rows L2
/-! ### things, helpers drawn -/
def many4 (a b : Int) : Nat := (([0, 0, 1, a] : List Int).getD b.toNat 0).toNat
def dThing : Nat → Dr → Th × Dr
  | 0, dr => (.mk (dMarks dr).1 [], (dMarks dr).2)
  | d + 1, dr =>
    let a := nx dr 4
    let b := nx a.2 4
    let m := dMarks b.2
    let xs := dMap (fun _ => dThing d) (List.range (many4 a.1 b.1)) m.2
    (.mk m.1 xs.1, xs.2)
theorem many4_bd {a b : Int} (ha : 0 ≤ a ∧ a < 4) (hb : 0 ≤ b ∧ b < 4) : many4 a b ≤ 3 ∧ atI ([.int 0, .int 0, .int 1, .int a] : List D) b = some (.int (many4 a b : Int)) := by
  have : b = 0 ∨ b = 1 ∨ b = 2 ∨ b = 3 := by omega
  rcases this with rfl | rfl | rfl | rfl
  · exact ⟨Nat.zero_le 3, rfl⟩
  · exact ⟨Nat.zero_le 3, rfl⟩
  · exact ⟨Nat.le_of_lt (by decide : 1 < 3), rfl⟩
  · have e : many4 a 3 = a.toNat := rfl
    rw [e]
    refine ⟨by omega, ?_⟩
    rw [Int.toNat_of_nonneg ha.1]; rfl
theorem dThing_ok : ∀ (d : Nat) (dr : Dr), OkT d (dThing d dr).1
  | 0, dr => ⟨dMarks_ok dr, rfl⟩
  | d + 1, dr => by
    refine ⟨dMarks_ok _, ?_, ?_⟩
    · show (dMap (fun _ => dThing d) (List.range (many4 (nx dr 4).1 (nx (nx dr 4).2 4).1)) (dMarks (nx (nx dr 4).2 4).2).2).1.length ≤ 3
      rw [dMap_len, List.length_range]
      exact (many4_bd (nx_bd _ (by decide)) (nx_bd _ (by decide))).1
    · exact dMap_all (f := fun _ => dThing d) (p := OkT d) fun b _ dr => dThing_ok d dr
abbrev ThS := Int × List (Int × Th) × Dr
abbrev HeS := Int × List He × Dr
def thStep (s : ThS) : ThS :=
  let a := nx s.2.2 3
  let t := dThing 2 a.2
  (s.1 + a.1 + 1, s.2.1 ++ [(s.1 + a.1, t.1)], t.2)
def heStep (s : HeS) : HeS :=
  let a := nx s.2.2 3
  let cs := dClaims a.2
  let b := nx cs.2 2
  let r := nx b.2 (([3, 5] : List Int).getD b.1.toNat 0)
  (s.1 + a.1 + 1, s.2.1 ++ [(s.1 + a.1, cs.1, r.1)], r.2)
def thIter : Nat → Dr → ThS
  | 0, dr => (0, [], dr)
  | i + 1, dr => thStep (thIter i dr)
def heIter : Nat → Dr → HeS
  | 0, dr => (0, [], dr)
  | i + 1, dr => heStep (heIter i dr)
theorem rise_of : ∀ {l : List Int} {a : Int}, l.Pairwise (· < ·) → (∀ x ∈ l, a < x ∧ x ≤ 999) → Rise a l
  | [], _, _, _ => trivial
  | x :: l, a, h, g => by
    rw [List.pairwise_cons] at h
    obtain ⟨g1, g2⟩ := g x List.mem_cons_self
    exact ⟨g1, g2, rise_of h.2 fun y hy => ⟨h.1 y hy, (g y (List.mem_cons_of_mem _ hy)).2⟩⟩
/-- rising, from 0 on, below b -/
def Up (l : List Int) (b : Int) : Prop := l.Pairwise (· < ·) ∧ ∀ x ∈ l, 0 ≤ x ∧ x < b
theorem Up.snoc {l : List Int} {b x c : Int} (h : Up l b) (h0 : 0 ≤ b) (h1 : b ≤ x) (h2 : x < c) : Up (l ++ [x]) c := by
  refine ⟨List.pairwise_append.mpr ⟨h.1, by simp, fun y hy z hz => ?_⟩, fun y hy => ?_⟩
  · have := h.2 y hy
    have : z = x := by simpa using hz
    omega
  · rcases List.mem_append.mp hy with hy | hy
    · have := h.2 y hy; omega
    · have : y = x := by simpa using hy
      omega
theorem Up.rise {l : List Int} {b : Int} (h : Up l b) (hb : b ≤ 1000) : Rise (-1) l := rise_of h.1 fun x hx => by have := h.2 x hx; omega
structure ThOk (i : Nat) (s : ThS) : Prop where
  n0 : 0 ≤ s.1
  n1 : s.1 ≤ 3 * (i : Int)
  len : s.2.1.length = i
  up : Up (s.2.1.map (·.1)) s.1
  ok : ∀ p ∈ s.2.1, OkT 2 p.2
theorem thIter_ok : ∀ (i : Nat) (dr : Dr), ThOk i (thIter i dr)
  | 0, dr => ⟨Int.le_refl 0, Int.le_refl 0, rfl, ⟨List.Pairwise.nil, fun _ h => by cases h⟩, fun _ h => by cases h⟩
  | i + 1, dr => by
    have ih := thIter_ok i dr
    show ThOk (i + 1) (thStep (thIter i dr))
    generalize thIter i dr = s at *
    have h3 := nx_bd s.2.2 (k := 3) (by decide)
    have h1 := ih.n0
    have h2 := ih.n1
    refine ⟨?_, ?_, ?_, ?_, ?_⟩
    · show 0 ≤ s.1 + (nx s.2.2 3).1 + 1; omega
    · show s.1 + (nx s.2.2 3).1 + 1 ≤ 3 * ((i + 1 : Nat) : Int); omega
    · show (s.2.1 ++ [_]).length = i + 1
      rw [List.length_append, ih.len]; rfl
    · show Up (List.map (fun p : Int × Th => p.1) (s.2.1 ++ [(s.1 + (nx s.2.2 3).1, _)])) (s.1 + (nx s.2.2 3).1 + 1)
      rw [List.map_append]
      exact ih.up.snoc h1 (by show s.1 ≤ s.1 + (nx s.2.2 3).1; omega) (by show s.1 + (nx s.2.2 3).1 < _; omega)
    · intro p hp
      rcases List.mem_append.mp hp with hp | hp
      · exact ih.ok p hp
      · rw [List.mem_singleton.mp hp]; exact dThing_ok 2 _
structure HeOk (i : Nat) (s : HeS) : Prop where
  n0 : 0 ≤ s.1
  n1 : s.1 ≤ 3 * (i : Int)
  len : s.2.1.length = i
  up : Up (s.2.1.map (·.1)) s.1
  ok : ∀ h ∈ s.2.1, OkCs h.2.1 ∧ 0 ≤ h.2.2 ∧ h.2.2 ≤ 4
theorem heIter_ok : ∀ (i : Nat) (dr : Dr), HeOk i (heIter i dr)
  | 0, dr => ⟨Int.le_refl 0, Int.le_refl 0, rfl, ⟨List.Pairwise.nil, fun _ h => by cases h⟩, fun _ h => by cases h⟩
  | i + 1, dr => by
    have ih := heIter_ok i dr
    show HeOk (i + 1) (heStep (heIter i dr))
    generalize heIter i dr = s at *
    have h3 := nx_bd s.2.2 (k := 3) (by decide)
    have h1 := ih.n0
    have h2 := ih.n1
    refine ⟨?_, ?_, ?_, ?_, ?_⟩
    · show 0 ≤ s.1 + (nx s.2.2 3).1 + 1; omega
    · show s.1 + (nx s.2.2 3).1 + 1 ≤ 3 * ((i + 1 : Nat) : Int); omega
    · show (s.2.1 ++ [_]).length = i + 1
      rw [List.length_append, ih.len]; rfl
    · show Up (List.map (fun p : He => p.1) (s.2.1 ++ [(s.1 + (nx s.2.2 3).1, _, _)])) (s.1 + (nx s.2.2 3).1 + 1)
      rw [List.map_append]
      exact ih.up.snoc h1 (by show s.1 ≤ s.1 + (nx s.2.2 3).1; omega) (by show s.1 + (nx s.2.2 3).1 < _; omega)
    · intro p hp
      rcases List.mem_append.mp hp with hp | hp
      · exact ih.ok p hp
      · rw [List.mem_singleton.mp hp]
        refine ⟨dClaims_ok _, ?_⟩
        have g1 := nx_bd (dClaims (nx s.2.2 3).2).2 (k := 2) (by decide)
        have g2 := (pick2_bd 3 5 g1).1
        have g3 := nx_bd (nx (dClaims (nx s.2.2 3).2).2 2).2 (k := (([3, 5] : List Int).getD (nx (dClaims (nx s.2.2 3).2).2 2).1.toNat 0)) (by rcases g2 with e | e <;> rw [e] <;> decide)
        show 0 ≤ (nx (nx (dClaims (nx s.2.2 3).2).2 2).2 (([3, 5] : List Int).getD (nx (dClaims (nx s.2.2 3).2).2 2).1.toNat 0)).1 ∧ (nx (nx (dClaims (nx s.2.2 3).2).2 2).2 (([3, 5] : List Int).getD (nx (dClaims (nx s.2.2 3).2).2 2).1.toNat 0)).1 ≤ 4
        rcases g2 with e | e <;> rw [e] at g3 ⊢ <;> omega
/-- (things, helpers) and what is drawn from behind -/
def dBoth (most : Int) (dr : Dr) : (List (Int × Th) × List He) × Dr :=
  let a := nx dr (most + 1)
  let ts := thIter a.1.toNat a.2
  let b := nx ts.2.2 (most + 1)
  let hs := heIter b.1.toNat b.2
  ((ts.2.1, hs.2.1), hs.2.2)
theorem dBoth_ok {most : Int} (h0 : 0 ≤ most) (h1 : most ≤ 16) (dr : Dr) : OkTs (dBoth most dr).1.1 ∧ OkHs (dBoth most dr).1.2 ∧ (dBoth most dr).1.1.length ≤ 16 ∧ (dBoth most dr).1.2.length ≤ 16 ∧ Up ((dBoth most dr).1.1.map (·.1)) 60 ∧ Up ((dBoth most dr).1.2.map (·.1)) 60 := by
  have a := nx_bd dr (k := most + 1) (by omega)
  have t := thIter_ok (nx dr (most + 1)).1.toNat (nx dr (most + 1)).2
  have b := nx_bd (thIter (nx dr (most + 1)).1.toNat (nx dr (most + 1)).2).2.2 (k := most + 1) (by omega)
  have h := heIter_ok (nx (thIter (nx dr (most + 1)).1.toNat (nx dr (most + 1)).2).2.2 (most + 1)).1.toNat (nx (thIter (nx dr (most + 1)).1.toNat (nx dr (most + 1)).2).2.2 (most + 1)).2
  have t1 := t.n1
  have h1 := h.n1
  have tl := t.len
  have hl := h.len
  refine ⟨⟨?_, t.up.rise (by omega), t.ok⟩, ⟨?_, h.up.rise (by omega), h.ok⟩, ?_, ?_, ⟨t.up.1, fun x hx => ?_⟩, ⟨h.up.1, fun x hx => ?_⟩⟩
  · show (thIter (nx dr (most + 1)).1.toNat (nx dr (most + 1)).2).2.1.length ≤ 100
    omega
  · show (heIter _ _).2.1.length ≤ 100
    omega
  · show (thIter (nx dr (most + 1)).1.toNat (nx dr (most + 1)).2).2.1.length ≤ 16
    omega
  · show (heIter _ _).2.1.length ≤ 16
    omega
  · have := t.up.2 x hx; omega
  · have := h.up.2 x hx; omega
/-! ### names within -/
mutual
theorem within_pre : ∀ (nm : List Int) (t : Th) (p : List Int × List Int), p ∈ within nm t → nm <+: p.1
  | nm, .mk m xs, p, h => by
    rcases List.mem_cons.mp (show p ∈ (nm, m) :: withins nm 0 xs from h) with rfl | h
    · exact List.prefix_refl _
    · obtain ⟨j, _, hj⟩ := withins_pre nm 0 xs p h
      exact (List.prefix_append nm [(j : Int)]).trans hj
theorem withins_pre : ∀ (nm : List Int) (k : Nat) (xs : List Th) (p : List Int × List Int), p ∈ withins nm k xs → ∃ j : Nat, k ≤ j ∧ nm ++ [(j : Int)] <+: p.1
  | _, _, [], p, h => by cases h
  | nm, k, x :: xs, p, h => by
    rcases List.mem_append.mp (show p ∈ within (nm ++ [(k : Int)]) x ++ withins nm (k + 1) xs from h) with h | h
    · exact ⟨k, Nat.le_refl _, within_pre _ x p h⟩
    · obtain ⟨j, hj, q⟩ := withins_pre nm (k + 1) xs p h
      exact ⟨j, by omega, q⟩
end
theorem pre_snoc_ne {nm a : List Int} {i j : Int} (h1 : nm ++ [i] <+: a) (h2 : nm ++ [j] <+: a) : i = j := by
  obtain ⟨r, rfl⟩ := h1
  obtain ⟨r2, e⟩ := h2
  rw [List.append_assoc, List.append_assoc] at e
  have := List.append_cancel_left e
  simp at this
  exact this.1.symm
mutual
theorem within_nd : ∀ (nm : List Int) (t : Th), ((within nm t).map (·.1)).Nodup
  | nm, .mk m xs => by
    show (nm :: (withins nm 0 xs).map (·.1)).Nodup
    refine List.nodup_cons.mpr ⟨fun h => ?_, withins_nd nm 0 xs⟩
    obtain ⟨p, hp, e⟩ := List.mem_map.mp h
    obtain ⟨j, _, q⟩ := withins_pre nm 0 xs p hp
    have := q.length_le
    rw [e, List.length_append] at this
    have this : nm.length + 1 ≤ nm.length := this
    omega
theorem withins_nd : ∀ (nm : List Int) (k : Nat) (xs : List Th), ((withins nm k xs).map (·.1)).Nodup
  | _, _, [] => List.nodup_nil
  | nm, k, x :: xs => by
    show ((within (nm ++ [(k : Int)]) x ++ withins nm (k + 1) xs).map (·.1)).Nodup
    rw [List.map_append, List.nodup_append]
    refine ⟨within_nd _ x, withins_nd nm (k + 1) xs, fun a ha b hb e => ?_⟩
    obtain ⟨p, hp, rfl⟩ := List.mem_map.mp ha
    obtain ⟨p2, hp2, rfl⟩ := List.mem_map.mp hb
    have h1 := within_pre _ x p hp
    obtain ⟨j, hj, h2⟩ := withins_pre nm (k + 1) xs p2 hp2
    rw [← e] at h2
    have := pre_snoc_ne h1 h2
    omega
end
theorem within_ok : ∀ {d : Nat} {nm : List Int} {t : Th}, OkT d t → ∀ p ∈ within nm t, nm.length ≤ p.1.length ∧ p.1.length ≤ nm.length + d ∧ OkM 0 p.2
  | 0, nm, t, h, p, hp => by
    rw [within_eq, h.2] at hp
    have : p = (nm, t.m) := by simpa [kids] using hp
    subst this
    exact ⟨Nat.le_refl _, Nat.le_refl _, h.1⟩
  | d + 1, nm, t, h, p, hp => by
    rw [within_eq] at hp
    rcases List.mem_cons.mp hp with rfl | hp
    · exact ⟨Nat.le_refl _, by show nm.length ≤ _; omega, h.1⟩
    · obtain ⟨q, hq, hp⟩ := List.mem_flatMap.mp hp
      have hx : q.2 ∈ t.xs := by
        have : q.2 ∈ (kids nm 0 t.xs).map (·.2) := List.mem_map.mpr ⟨q, hq, rfl⟩
        rw [kids_snd] at this
        exact this
      have hn : q.1.length = nm.length + 1 := by
        obtain ⟨k, hk, e⟩ := List.mem_iff_getElem.mp hq
        have e2 := kids_get nm t.xs 0 k
        rw [List.getElem?_eq_getElem hk, e] at e2
        cases e3 : t.xs[k]? with
        | none => rw [e3] at e2; cases e2
        | some x =>
          rw [e3] at e2
          have := Option.some.inj e2
          rw [this]; simp
      have := within_ok (h.2.2 q.2 hx) (nm := q.1) p hp
      exact ⟨by omega, by omega, this.2.2⟩
mutual
theorem within_len : ∀ (nm : List Int) (t : Th), (within nm t).length = t.size
  | nm, .mk m xs => by
    show (withins nm 0 xs).length + 1 = 1 + Th.sizes xs
    rw [withins_len]; omega
theorem withins_len : ∀ (nm : List Int) (k : Nat) (xs : List Th), (withins nm k xs).length = Th.sizes xs
  | _, _, [] => rfl
  | nm, k, x :: xs => by
    show (within (nm ++ [(k : Int)]) x ++ withins nm (k + 1) xs).length = x.size + Th.sizes xs
    rw [List.length_append, within_len, withins_len]
end
def markedOf (ts : List (Int × Th)) : List (List Int × List Int) := ts.flatMap fun p => within [p.1] p.2
theorem marked_snoc (ts : List (Int × Th)) (p : Int × Th) : markedOf (ts ++ [p]) = markedOf ts ++ within [p.1] p.2 := by
  unfold markedOf; rw [List.flatMap_append]; simp
theorem marked_len {ts : List (Int × Th)} (h : ∀ p ∈ ts, OkT 2 p.2) : (markedOf ts).length ≤ 13 * ts.length := by
  induction ts with
  | nil => exact Nat.le_refl _
  | cons p ts ih =>
    have := ih fun q hq => h q (List.mem_cons_of_mem _ hq)
    have h2 := size_le (h p List.mem_cons_self)
    have e : bnd 2 = 13 := rfl
    show (within [p.1] p.2 ++ markedOf ts).length ≤ 13 * (ts.length + 1)
    rw [List.length_append, within_len]
    omega
theorem marked_ok {ts : List (Int × Th)} (h : ∀ p ∈ ts, OkT 2 p.2) (hl : ts.length ≤ 60) : OkW (markedOf ts) := by
  refine ⟨by have := marked_len h; omega, fun p hp => ?_⟩
  obtain ⟨q, hq, hp⟩ := List.mem_flatMap.mp hp
  have := within_ok (h q hq) p hp
  exact ⟨this.1, this.2.1, this.2.2⟩
theorem marked_nd {ts : List (Int × Th)} (h : (ts.map (·.1)).Nodup) : ((markedOf ts).map (·.1)).Nodup := by
  induction ts with
  | nil => exact List.nodup_nil
  | cons p ts ih =>
    rw [List.map_cons, List.nodup_cons] at h
    show ((within [p.1] p.2 ++ markedOf ts).map (·.1)).Nodup
    rw [List.map_append, List.nodup_append]
    refine ⟨within_nd _ _, ih h.2, fun a ha b hb e => ?_⟩
    obtain ⟨q, hq, rfl⟩ := List.mem_map.mp ha
    obtain ⟨q2, hq2, rfl⟩ := List.mem_map.mp hb
    obtain ⟨r, hr, hq2⟩ := List.mem_flatMap.mp hq2
    have h1 := within_pre _ _ q hq
    have h2 := within_pre _ _ q2 hq2
    rw [← e] at h2
    have := pre_snoc_ne (nm := []) h1 h2
    exact h.1 (by rw [this]; exact List.mem_map.mpr ⟨r, hr, rfl⟩)
theorem getT_some {κ β : Type} [DecidableEq κ] {k : κ} : ∀ {kvs : List (κ × β)}, k ∈ kvs.map (·.1) → ∃ v, getT kvs k = some v
  | [], h => by cases h
  | p :: kvs, h => by
    rw [getT_cons]
    by_cases e : p.1 = k
    · exact ⟨p.2, by rw [if_pos e]⟩
    · rw [List.map_cons] at h
      rcases List.mem_cons.mp h with h | h
      · exact absurd h.symm e
      · obtain ⟨v, hv⟩ := getT_some h
        exact ⟨v, by rw [if_neg e]; exact hv⟩
theorem getT_none {κ β : Type} [DecidableEq κ] {k : κ} : ∀ {kvs : List (κ × β)}, k ∉ kvs.map (·.1) → getT kvs k = none
  | [], _ => rfl
  | p :: kvs, h => by
    rw [List.map_cons, List.mem_cons] at h
    rw [getT_cons, if_neg (fun z => h (.inl z.symm)), getT_none fun z => h (.inr z)]
/-- new keys are hung on -/
theorem putAll_new {κ β : Type} [DecidableEq κ] : ∀ (more kvs : List (κ × β)), (∀ k ∈ more.map (·.1), k ∉ kvs.map (·.1)) → (more.map (·.1)).Nodup → putAllT kvs more = kvs ++ more
  | [], kvs, _, _ => by simp [putAllT]
  | p :: more, kvs, h, nd => by
    rw [List.map_cons, List.nodup_cons] at nd
    show putAllT (putT kvs p.1 p.2) more = _
    rw [putT_new _ (getT_none (h p.1 (by simp)))]
    rw [putAll_new more (kvs ++ [(p.1, p.2)]) ?_ nd.2]
    · simp
    · intro k hk hm
      rw [List.map_append] at hm
      rcases List.mem_append.mp hm with hm | hm
      · exact h k (by rw [List.map_cons]; exact List.mem_cons_of_mem _ hk) hm
      · have : k = p.1 := by simpa using hm
        rw [this] at hk
        exact nd.1 hk
/-! ### what is had, reckoned both ways -/
def roomIn (hs : List He) (k : Int) : Int := ((hs.filter fun h => decide (h.1 = k)).map fun h => h.2.2).getD 0 0
def restStep (hs : List He) (fd : List (List Int × Int)) (r : Row) : List (List Int × Int) :=
  if getT fd r.2.2.2 = none ∧ ((fd.map (·.2)).count r.2.2.1 : Int) < roomIn hs r.2.2.1 ∧ (r.1 = 1 ∨ (getT fd r.2.2.2.dropLast).isSome = true) then putT fd r.2.2.2 r.2.2.1 else fd
theorem roomIn_eq {hs : List He} (nd : (hs.map (·.1)).Nodup) {h : He} (m : h ∈ hs) : roomIn hs h.1 = h.2.2 := by
  induction hs with
  | nil => cases m
  | cons g hs ih =>
    rw [List.map_cons, List.nodup_cons] at nd
    unfold roomIn
    rcases List.mem_cons.mp m with rfl | m
    · simp
    · have : ¬ g.1 = h.1 := fun z => nd.1 (by rw [z]; exact List.mem_map.mpr ⟨h, m, rfl⟩)
      rw [List.filter_cons, if_neg (by simpa using this)]
      exact ih nd.2 m
theorem rooms_get {hs : List He} (nd : (hs.map (·.1)).Nodup) {h : He} (m : h ∈ hs) : getT (roomsOf hs) h.1 = some h.2.2 := by
  have gen : ∀ (hs : List He) (kvs : List (Int × Int)), (hs.map (·.1)).Nodup → ∀ h ∈ hs, getT (putAllT kvs (hs.map fun h => (h.1, h.2.2))) h.1 = some h.2.2 := by
    intro hs
    induction hs with
    | nil => intro _ _ h m; cases m
    | cons g hs ih =>
      intro kvs nd h m
      rw [List.map_cons, List.nodup_cons] at nd
      rcases List.mem_cons.mp m with rfl | m
      · have keep : ∀ (l : List He) (kvs : List (Int × Int)) (k : Int), k ∉ l.map (·.1) → getT (putAllT kvs (l.map fun h => (h.1, h.2.2))) k = getT kvs k := by
          intro l
          induction l with
          | nil => intro _ _ _; rfl
          | cons a l ih => 
            intro kvs k hk
            rw [List.map_cons, List.mem_cons] at hk
            show getT (putAllT (putT kvs a.1 a.2.2) (l.map fun h => (h.1, h.2.2))) k = _
            rw [ih _ k (fun z => hk (.inr z)), getT_put, if_neg (fun z => hk (.inl z))]
        show getT (putAllT (putT kvs h.1 h.2.2) (hs.map fun h => (h.1, h.2.2))) h.1 = _
        rw [keep hs _ _ nd.1, getT_put, if_pos rfl]
      · exact ih (putT kvs g.1 g.2.2) nd.2 h m
  exact gen hs [] nd h m
theorem had_rest {hs : List He} (nd : (hs.map (·.1)).Nodup) : ∀ (rows : List Row) (rm : List (Int × Int)) (fd : List (List Int × Int)), (∀ r ∈ rows, ∃ h ∈ hs, h.1 = r.2.2.1) →
    (∀ h ∈ hs, getT rm h.1 = some (h.2.2 - ((fd.map (·.2)).count h.1 : Int))) → (rows.foldl hadStep (rm, fd)).2 = rows.foldl (restStep hs) fd
  | [], _, _, _, _ => rfl
  | r :: rows, rm, fd, hr, inv => by
    obtain ⟨h, hm, he⟩ := hr r List.mem_cons_self
    have hg := inv h hm
    rw [he] at hg
    have hri := roomIn_eq nd hm
    rw [he] at hri
    rw [List.foldl_cons, List.foldl_cons]
    by_cases c : getT fd r.2.2.2 = none ∧ ((fd.map (·.2)).count r.2.2.1 : Int) < roomIn hs r.2.2.1 ∧ (r.1 = 1 ∨ (getT fd r.2.2.2.dropLast).isSome = true)
    · have e1 : hadStep (rm, fd) r = (putT rm r.2.2.1 ((getT rm r.2.2.1).getD 0 - 1), putT fd r.2.2.2 r.2.2.1) := by
        unfold hadStep
        rw [if_pos]
        refine ⟨c.1, ?_, c.2.2⟩
        show 0 < (getT rm r.2.2.1).getD 0
        rw [hg]
        have := c.2.1
        rw [hri] at this
        show 0 < h.2.2 - _
        omega
      have e2 : restStep hs fd r = putT fd r.2.2.2 r.2.2.1 := by unfold restStep; rw [if_pos c]
      rw [e1, e2]
      refine had_rest nd rows _ _ (fun x hx => hr x (List.mem_cons_of_mem _ hx)) fun g gm => ?_
      rw [getT_put, putT_new _ c.1, List.map_append, List.count_append]
      have hgg := inv g gm
      by_cases e : g.1 = r.2.2.1
      · rw [if_pos e, hg, e]
        rw [e] at hgg
        rw [hg] at hgg
        have := Option.some.inj hgg
        simp
        omega
      · rw [if_neg e, hgg]
        have : ¬ r.2.2.1 = g.1 := fun z => e z.symm
        simp [this]
    · have e1 : hadStep (rm, fd) r = (rm, fd) := by
        unfold hadStep
        rw [if_neg]
        rintro ⟨c1, c2, c3⟩
        refine c ⟨c1, ?_, c3⟩
        have c2 : 0 < (getT rm r.2.2.1).getD 0 := c2
        rw [hg] at c2
        have c2 : 0 < h.2.2 - ((fd.map (·.2)).count r.2.2.1 : Int) := c2
        rw [hri]
        omega
      have e2 : restStep hs fd r = fd := by unfold restStep; rw [if_neg c]
      rw [e1, e2]
      exact had_rest nd rows rm fd (fun x hx => hr x (List.mem_cons_of_mem _ hx)) inv
theorem rise_lt : ∀ {l : List Int} {a : Int}, Rise a l → ∀ x ∈ l, a < x
  | [], _, _, _, h => by cases h
  | y :: l, a, h, x, hx => by
    rcases List.mem_cons.mp hx with rfl | hx
    · exact h.1
    · have := rise_lt h.2.2 x hx
      have := h.1
      omega
theorem rise_nd : ∀ {l : List Int} {a : Int}, Rise a l → l.Nodup
  | [], _, _ => List.nodup_nil
  | x :: l, a, h => List.nodup_cons.mpr ⟨fun z => by have := rise_lt h.2.2 x z; omega, rise_nd h.2.2⟩
theorem had_law {ps : List (List Int × List Int)} {hs : List He} (oh : OkHs hs) : hadOf ps hs = (sortR ps hs).foldl (restStep hs) [] := by
  have nd := rise_nd oh.2.1
  refine had_rest nd _ _ _ (fun r hr => ?_) fun h hm => ?_
  · obtain ⟨p, hp, x, hx, v, _, rfl⟩ := rows_of (List.mem_mergeSort.mp hr)
    exact ⟨x, hx, rfl⟩
  · rw [rooms_get nd hm]; simp
end DM

namespace DM
open PySem PySem.Spec PyProof.Rows L2
/-! ### names of a thing hash apart -/
def fullN : Nat → List Int → List (List Int)
  | 0, nm => [nm]
  | d + 1, nm => nm :: (fullN d (nm ++ [0]) ++ fullN d (nm ++ [1]) ++ fullN d (nm ++ [2]))
theorem within_full : ∀ {d : Nat} {nm : List Int} {t : Th}, OkT d t → ((within nm t).map (·.1)).Sublist (fullN d nm)
  | 0, nm, t, h => by
    rw [within_eq, h.2]
    exact List.Sublist.refl _
  | d + 1, nm, t, h => by
    rw [within_eq]
    show (nm :: ((kids nm 0 t.xs).flatMap fun p => within p.1 p.2).map (·.1)).Sublist (nm :: _)
    refine List.Sublist.cons_cons _ ?_
    have h1 := h.2.1
    have h2 := h.2.2
    generalize t.xs = xs at *
    match xs, h1, h2 with
    | [], _, _ => exact List.nil_sublist _
    | [a], _, h2 =>
      have := within_full (nm := nm ++ [0]) (h2 a (by simp))
      simp only [kids, List.flatMap_cons, List.flatMap_nil, List.append_nil]
      exact (this.trans (List.sublist_append_left _ _)).trans (List.sublist_append_left _ _)
    | [a, b], _, h2 =>
      have ha := within_full (nm := nm ++ [0]) (h2 a (by simp))
      have hb := within_full (nm := nm ++ [1]) (h2 b (by simp))
      simp only [kids, List.flatMap_cons, List.flatMap_nil, List.append_nil, List.map_append]
      exact (ha.append hb).trans (List.sublist_append_left _ _)
    | [a, b, c], _, h2 =>
      have ha := within_full (nm := nm ++ [0]) (h2 a (by simp))
      have hb := within_full (nm := nm ++ [1]) (h2 b (by simp))
      have hc := within_full (nm := nm ++ [2]) (h2 c (by simp))
      simp only [kids, List.flatMap_cons, List.flatMap_nil, List.append_nil, List.map_append]
      rw [← List.append_assoc]
      exact (ha.append hb).append hc
    | _ :: _ :: _ :: _ :: _, h1, _ => simp at h1
def hashI (nm : List Int) : Int := reduceHash (Builtin.Tuple.tupleHashOf (nm.map hashInt))
theorem hashI_full : ∀ n : Nat, n < 400 → ((fullN 2 [(n : Int)]).map hashI).Nodup := by decide +kernel
section
variable (P : Program) (w : World)
theorem hashT_int (nm : List Int) : hashT P w (kN nm) = hashI nm := by
  show reduceHash (Builtin.Tuple.tupleHashOf ((kN nm).map (keyH w))) = _
  unfold hashI kN
  rw [List.map_map]; rfl
theorem hash_within {t : Th} {n : Int} (h : OkT 2 t) (h0 : 0 ≤ n) (h1 : n < 400) : ((mapT kN eM (within [n] t)).map fun kv => hashT P w kv.1).Nodup := by
  have e : ((mapT kN eM (within [n] t)).map fun kv => hashT P w kv.1) = ((within [n] t).map (·.1)).map hashI := by
    unfold mapT
    rw [List.map_map, List.map_map]
    exact List.map_congr_left fun p _ => hashT_int P w p.1
  rw [e]
  have := hashI_full n.toNat (by omega)
  rw [Int.toNat_of_nonneg h0] at this
  exact this.sublist ((within_full h).map hashI)
end
end DM

namespace DM
open PySem PySem.Spec PyProof.Rows L2
/-! ### one more number behind the last -/
def lastI (l : List Int) : Int := l.getLastD 0
theorem lastI_snoc (l : List Int) (x : Int) : lastI (l ++ [x]) = x := by
  unfold lastI; rw [List.getLastD_eq_getLast?, List.getLast?_append]; rfl
theorem Up.next {l : List Int} {b : Int} (h : Up l b) (hb : 1 ≤ b) : Up (l ++ [lastI l + 1]) (b + 1) ∧ 0 ≤ lastI l ∧ lastI l < b := by
  rcases List.eq_nil_or_concat l with rfl | ⟨l', x, rfl⟩
  · refine ⟨⟨by simp, fun x hx => ?_⟩, Int.le_refl 0, by show (0 : Int) < b; omega⟩
    have : x = 1 := by simpa [lastI] using hx
    omega
  · rw [List.concat_eq_append] at h ⊢
    rw [lastI_snoc]
    have hx := h.2 x (by simp)
    refine ⟨⟨?_, fun y hy => ?_⟩, hx.1, hx.2⟩
    · rw [List.pairwise_append]
      refine ⟨h.1, by simp, fun a ha c hc => ?_⟩
      have hc : c = x + 1 := by simpa using hc
      rcases List.mem_append.mp ha with ha | ha
      · have := (List.pairwise_append.mp h.1).2.2 a ha x (by simp)
        omega
      · have : a = x := by simpa using ha
        omega
    · rcases List.mem_append.mp hy with hy | hy
      · have := h.2 y hy; omega
      · have : y = x + 1 := by simpa using hy
        omega
theorem Up.mono {l : List Int} {b c : Int} (h : Up l b) (hb : b ≤ c) : Up l c := ⟨h.1, fun x hx => by have := h.2 x hx; omega⟩
def GoodT (ts : List (Int × Th)) : Prop := ts.length ≤ 16 ∧ Up (ts.map (·.1)) (60 + ts.length) ∧ ∀ p ∈ ts, OkT 2 p.2
def GoodH (hs : List He) : Prop := hs.length ≤ 16 ∧ Up (hs.map (·.1)) (60 + hs.length) ∧ ∀ h ∈ hs, OkCs h.2.1 ∧ 0 ≤ h.2.2 ∧ h.2.2 ≤ 4
theorem GoodT.ok {ts : List (Int × Th)} (h : GoodT ts) : OkTs ts ∧ ts.length ≤ 60 ∧ ∀ p ∈ ts.take 1, p.1 < 400 := by
  have := h.1
  refine ⟨⟨by omega, h.2.1.rise (by omega), h.2.2⟩, by omega, fun p hp => ?_⟩
  have := h.2.1.2 p.1 (List.mem_map.mpr ⟨p, List.mem_of_mem_take hp, rfl⟩)
  omega
theorem GoodH.ok {hs : List He} (h : GoodH hs) : OkHs hs := ⟨by have := h.1; omega, h.2.1.rise (by have := h.1; omega), h.2.2⟩
theorem GoodT.snoc {ts : List (Int × Th)} {t : Th} (h : GoodT ts) (hl : ts.length < 16) (ht : OkT 2 t) : GoodT (ts ++ [(lastI (ts.map (·.1)) + 1, t)]) := by
  refine ⟨by simp; omega, ?_, fun p hp => ?_⟩
  · rw [List.map_append, List.length_append]
    have := (h.2.1.next (by omega)).1
    exact this.mono (by show 60 + (ts.length : Int) + 1 ≤ 60 + ((ts.length + 1 : Nat) : Int); omega)
  · rcases List.mem_append.mp hp with hp | hp
    · exact h.2.2 p hp
    · rw [List.mem_singleton.mp hp]; exact ht
theorem GoodH.snoc {hs : List He} {c : List (List Int × Int)} {r : Int} (h : GoodH hs) (hl : hs.length < 16) (hc : OkCs c) (h0 : 0 ≤ r) (h4 : r ≤ 4) : GoodH (hs ++ [(lastI (hs.map (·.1)) + 1, c, r)]) := by
  refine ⟨by simp; omega, ?_, fun p hp => ?_⟩
  · rw [List.map_append, List.length_append]
    have := (h.2.1.next (by omega)).1
    exact this.mono (by show 60 + (hs.length : Int) + 1 ≤ 60 + ((hs.length + 1 : Nat) : Int); omega)
  · rcases List.mem_append.mp hp with hp | hp
    · exact h.2.2 p hp
    · rw [List.mem_singleton.mp hp]; exact ⟨hc, h0, h4⟩
theorem dBoth_good {most : Int} (h0 : 0 ≤ most) (h1 : most ≤ 16) (dr : Dr) : GoodT (dBoth most dr).1.1 ∧ GoodH (dBoth most dr).1.2 := by
  obtain ⟨a, b, c, d, e, f⟩ := dBoth_ok h0 h1 dr
  exact ⟨⟨c, e.mono (by omega), a.2.2⟩, ⟨d, f.mono (by omega), b.2.2⟩⟩
/-- the last of a list's data -/
theorem last_map {α : Type} (e : α → D) (g : α → Int) (z : D) (l : List α) (hz : ∃ r, z = .tup (.int 0 :: r)) (he : ∀ a, ∃ r, e a = .tup (.int (g a) :: r)) : ∃ r, atI (z :: l.map e) (-1) = some (.tup (.int (lastI (l.map g)) :: r)) := by
  rcases List.eq_nil_or_concat l with rfl | ⟨l', x, rfl⟩
  · obtain ⟨r, rfl⟩ := hz
    exact ⟨r, L2.atI_last [] _⟩
  · rw [List.concat_eq_append, List.map_append, List.map_append]
    obtain ⟨r, hr⟩ := he x
    refine ⟨r, ?_⟩
    have h1 : lastI (l'.map g ++ [x].map g) = g x := lastI_snoc _ _
    have h2 : (z :: (l'.map e ++ [x].map e)) = (z :: l'.map e) ++ [e x] := rfl
    rw [h1, ← hr, h2]
    exact L2.atI_last _ _
/-! ### data alike -/
def pairP (p : List Int × Int) : PyData := .tuple [.tuple (p.1.map PyData.int), .int p.2]
theorem pds_ints (S : Store) : ∀ l : List Int, PDs S (l.map D.int) (l.map PyData.int)
  | [] => .nil
  | i :: l => .cons (.int i) (pds_ints S l)
theorem pds_map {α : Type} {S : Store} {e : α → D} {g : α → PyData} (h : ∀ a, PD S (e a) (g a)) : ∀ l : List α, PDs S (l.map e) (l.map g)
  | [] => .nil
  | a :: l => .cons (h a) (pds_map h l)
theorem okP_ints {n : Nat} {l : List Int} (h : l.length ≤ 100000) : okP (n + 1) (.tuple (l.map PyData.int)) = true := by
  show (decide ((l.map PyData.int).length ≤ 100000) && (l.map PyData.int).all (okP n)) = true
  rw [List.length_map, decide_eq_true h, Bool.true_and, List.all_eq_true]
  intro y hy
  obtain ⟨i, _, rfl⟩ := List.mem_map.mp hy
  cases n <;> rfl
theorem okP_pair {n : Nat} {p : List Int × Int} (h : p.1.length ≤ 100000) : okP (n + 2) (pairP p) = true := by
  show (decide (2 ≤ 100000) && (okP (n + 1) (.tuple (p.1.map PyData.int)) && (okP (n + 1) (.int p.2) && true))) = true
  rw [okP_ints h]; rfl
theorem okP_list {n : Nat} {l : List PyData} (hl : l.length ≤ 100000) (h : ∀ p ∈ l, okP n p = true) : okP (n + 1) (.list l) = true := by
  show (decide (l.length ≤ 100000) && l.all (okP n)) = true
  rw [decide_eq_true hl, Bool.true_and, List.all_eq_true]
  exact h
end DM

namespace DM
open PySem PySem.Spec PyProof.Rows L2
/-! ### locking a dict, for statements and for expressions -/
def Lk : Ob → Prop
  | .dK _ => True
  | .dT _ => True
  | _ => False
section
variable {F : List Addr} {H : Hp}
theorem Lk.noT {u : Ob} {g : HO} (h : Lk u) (r : RO F H u g) : NoT g := by
  cases u with
  | dK kvs => obtain ⟨vs, rfl, _⟩ := r; trivial
  | dT kvs => obtain ⟨vs, rfl, _⟩ := r; trivial
  | _ => exact h.elim
theorem Lk.noS {u : Ob} {g : HO} (h : Lk u) (r : RO F H u g) : ∀ xs, g ≠ .lst xs := by
  cases u with
  | dK kvs => obtain ⟨vs, rfl, _⟩ := r; intro xs z; cases z
  | dT kvs => obtain ⟨vs, rfl, _⟩ := r; intro xs z; cases z
  | _ => exact h.elim
theorem Lk.mut {u : Ob} {g : HO} (h : Lk u) (r : RO F H u g) : Mut (some g) := by
  cases u with
  | dK kvs => obtain ⟨vs, rfl, _⟩ := r; trivial
  | dT kvs => obtain ⟨vs, rfl, _⟩ := r; trivial
  | _ => exact h.elim
/-- what is left behind, unlocked -/
theorem unlock {S1 S : Store} {l : Nat} {u : Ob} {a : Addr} {g : HO} {od : Obj} {F1 : List Addr} {H1 : Hp} (lk : Lk u) (e1 : F[l]? = some a) (e2 : H a = some g) (n : NoT g) (ns : ∀ xs, g ≠ .lst xs) (p1 : F <+: F1) (k1 : Keep (upd H a (.frz od g)) H1) (rs1 : RS F1 H1 S1) (hS : S1[l]? = some (.frz od u)) :
    H1 a = some (.frz od g) ∧ Keep H (upd H1 a g) ∧ Keep0 H1 (upd H1 a g) ∧ RS F1 (upd H1 a g) (S1.set l u) := by
  have ha := k1.2 a od g upd_same
  have k0 : Keep0 H1 (upd H1 a g) := ⟨fun b xs z => by rw [upd_ne (fun y => by rw [y, ha] at z; cases z)]; exact z, fun b o xs z => by rw [upd_ne (fun y => by rw [y, ha] at z; injection z with z; injection z with _ z; exact ns xs z)]; exact z, fun b fs z => by rw [upd_ne (fun y => by rw [y, ha] at z; cases z)]; exact z, fun P t => tab_ne (fun u z => by rw [ha] at z; cases z; exact ⟨fun ps y => (by cases y), fun f y => (by cases y)⟩) t⟩
  obtain ⟨a1, g1, f1, f2, g2, f3, f4⟩ := rs1.get hS
  have ea : a1 = a := by
    have := pre_get p1 e1
    rw [f1] at this
    exact Option.some.inj this
  subst ea
  rw [ha] at f2
  cases f2
  injection f3 with _ f3
  subst f3
  refine ⟨ha, keep_unlock e2 n k1, k0, by simp [rs1.len], rs1.nd, fun j ob e => ?_⟩
  by_cases hj : j = l
  · subst hj
    rw [List.getElem?_set_self (rs1.lt f1)] at e
    cases e
    exact ⟨a1, g, f1, upd_same, RO.m0 k0 _ _ f4⟩
  · rw [List.getElem?_set_ne (fun z => hj z.symm)] at e
    obtain ⟨b, w, q1, q2, q3⟩ := rs1.ob j ob e
    have nb : b ≠ a1 := fun z => by
      subst z
      obtain ⟨i1, i2⟩ := List.getElem?_eq_some_iff.mp q1
      obtain ⟨j1, j2⟩ := List.getElem?_eq_some_iff.mp f1
      exact hj ((List.getElem_inj rs1.nd).mp (i2.trans j2.symm))
    exact ⟨b, w, q1, by rw [upd_ne nb]; exact q2, RO.m0 k0 _ _ q3⟩
end
section
variable {X : Cx} {n l : Nat} {st : Stmt} {e : Expr} {v : Fv} {S : Store} {E : Ed}
theorem WS.lockO {u : Ob} (lk : Lk u) (hl : S[l]? = some u) (h : ∀ o, WS X S.length st v (S.set l (.frz o u)) (lockEd l o u E)) : WS X n st v S E := fun F0 H0 F t H E' hl' p k re rs q => by
  refine wS_of (ps_lock ps_w) ?_
  obtain ⟨a, g, e1, e2, e3⟩ := rs.get hl
  have n := lk.noT e3
  have ns := lk.noS e3
  refine ⟨a, g, e2, lk.mut e3, fun od => ?_⟩
  have kk : Keep H (upd H a (.frz od g)) := Keep.upd e2 n
  have rs' : RS F (upd H a (.frz od g)) (S.set l (.frz od u)) := rs.set (o := .frz od u) e1 e2 n ⟨g, rfl, e3⟩
  have re' := re.mono (List.prefix_refl F) kk
  refine h od F (upd H a (.frz od g)) F t _ _ rs.len (List.prefix_refl F) (Keep.refl _) re' rs' ⟨fun F1 v1 t1 H1 S1 p1 k1 re1 rs1 z => ?_, fun F1 d1 u1 H1 S1 p1 k1 rs1 r1 z => ?_, fun F1 v1 t1 H1 S1 p1 k1 re1 rs1 z => ?_, fun F1 v1 t1 H1 S1 p1 k1 re1 rs1 z => ?_, XT.no⟩
  · obtain ⟨u1, u2, u3, u4⟩ := unlock (S := S) lk e1 e2 n ns p1 k1 rs1 z.1
    exact ⟨u1, q.nx F1 v1 t1 _ _ (p.trans p1) (k.trans u2) (RE.m0 u3 re1) u4 z.2⟩
  · obtain ⟨u1', u2, u3, u4⟩ := unlock (S := S) lk e1 e2 n ns p1 k1 rs1 z.1
    exact ⟨u1', q.rt F1 d1 u1 _ _ (p.trans p1) (k.trans u2) u4 (RD.m0 u3 _ _ r1) z.2⟩
  · obtain ⟨u1, u2, u3, u4⟩ := unlock (S := S) lk e1 e2 n ns p1 k1 rs1 z.1
    exact ⟨u1, q.bk F1 v1 t1 _ _ (p.trans p1) (k.trans u2) (RE.m0 u3 re1) u4 z.2⟩
  · obtain ⟨u1, u2, u3, u4⟩ := unlock (S := S) lk e1 e2 n ns p1 k1 rs1 z.1
    exact ⟨u1, q.ct F1 v1 t1 _ _ (p.trans p1) (k.trans u2) (RE.m0 u3 re1) u4 z.2⟩
theorem WE.lock {u : Ob} {Q : D → Store → Prop} (lk : Lk u) (hl : S[l]? = some u) (h : ∀ o, WE X e v (S.set l (.frz o u)) fun d S1 => S1[l]? = some (.frz o u) ∧ Q d (S1.set l u)) : WE X e v S Q := fun F t H Q' re rs k => by
  refine wE_of (pe_lock pe_w) ?_
  obtain ⟨a, g, e1, e2, e3⟩ := rs.get hl
  have n := lk.noT e3
  have ns := lk.noS e3
  refine ⟨a, g, e2, lk.mut e3, fun od => ?_⟩
  have kk : Keep H (upd H a (.frz od g)) := Keep.upd e2 n
  have rs' : RS F (upd H a (.frz od g)) (S.set l (.frz od u)) := rs.set (o := .frz od u) e1 e2 n ⟨g, rfl, e3⟩
  have re' := re.mono (List.prefix_refl F) kk
  refine h od F t _ _ re' rs' fun F1 d1 u1 H1 S1 p1 k1 rs1 r1 z => ?_
  obtain ⟨u1', u2, u3, u4⟩ := unlock (S := S) lk e1 e2 n ns p1 k1 rs1 z.1
  exact ⟨u1', k F1 d1 u1 _ _ p1 u2 u4 (RD.m0 u3 _ _ r1) z.2⟩
/-- for k in d, d locked, its keys ints or texts -/
theorem WI.keysK {tg e : Expr} {R : Src → Store → Prop} (h : WE X e v S fun d S1 => ∃ l o kvs, d = .loc l ∧ S1[l]? = some (.frz o (.dK kvs)) ∧ R ⟨kvs.map fun kv => kdD kv.1, fun _ => True⟩ S1) : WI X tg e v S R := fun F t H R' re rs k => by
  refine wI_of (pi_keys pe_w) ?_
  refine h F t H _ re rs fun F1 d u H1 S1 p1 k1 rs1 r1 h1 => ?_
  obtain ⟨l, o, kvs, rfl, hl, q⟩ := h1
  obtain ⟨a, rfl, ha⟩ := r1
  obtain ⟨a', h', e1, e2, g, e3, vs, e4, e5⟩ := rs1.get hl
  rw [e1] at ha; cases ha
  subst e3 e4
  refine ⟨a, o, rfl, .inl ⟨vs, e2, ?_⟩⟩
  refine k F1 (Itk a o vs) H1 S1 ⟨kvs.map fun kv => kdD kv.1, fun _ => True⟩ p1 k1 rs1 (fun F2 H2 S2 p2 k2 rs2 ok => ?_) q
  have hd := k2.2 _ _ _ e2
  have hl2 : (kvs.map fun kv => kdD kv.1).length = vs.length := by rw [List.length_map, e5.length]
  refine ⟨fun i hi => ⟨⟨hd, by rw [← hl2]; exact hi⟩, fun x H3 hy => ?_⟩, hd, by show vs.length ≤ (kvs.map fun kv => kdD kv.1).length; omega⟩
  obtain ⟨rfl, kk, v', hk, rfl⟩ := hy
  refine ⟨Keep.refl _, rs2, kdD kk, ?_, by cases kk <;> rfl⟩
  have e6 : (vs.map (·.1))[i]? = some kk := by rw [List.getElem?_map, hk]; rfl
  rw [e5.keys, List.getElem?_map] at e6
  show (kvs.map fun kv => kdD kv.1)[i]? = _
  rw [List.getElem?_map]
  cases e7 : kvs[i]? with
  | none => rw [e7] at e6; cases e6
  | some kv => rw [e7] at e6; cases e6; rfl
end
end DM

namespace DM
open PySem PySem.Spec PyProof.Rows L2
/-! ### d.pop, d.get, len(d), sorted(d), dict(pairs) -/
section
variable {κ β : Type} [DecidableEq κ]
def dropT (kvs : List (κ × β)) (k : κ) : List (κ × β) := kvs.filter fun kv => decide (kv.1 ≠ k)
theorem RKs.dropT {F : List Addr} {H : Hp} {k : κ} : ∀ {kvs : List (κ × D)} {vs : List (κ × V)}, RKs F H kvs vs → RKs F H (dropT kvs k) (dropK vs k)
  | [], vs, r => by cases (show vs = [] from r); rfl
  | p :: kvs, vs, r => by
    obtain ⟨v, r', rfl, h1, h2⟩ := r
    have ih := RKs.dropT (k := k) h2
    unfold DM.dropT L2.dropK at *
    by_cases e : p.1 = k
    · rw [List.filter_cons_of_neg (by simp [e]), List.filter_cons_of_neg (by simp [e])]; exact ih
    · rw [List.filter_cons_of_pos (by simp [e]), List.filter_cons_of_pos (by simp [e])]; exact ⟨v, _, rfl, h1, ih⟩
end
section
variable {X : Cx} {S : Store} {Q : D → Store → Prop} {l : Nat}
def rPopT1 : V → List V → Hp → VK → Prop := fun x xs H Q => ∃ (a : Addr) (kvs : List (List Key × V)) (k : List Key) (b : Addr) (v : V), x = .ref a ∧ xs = [.ref b] ∧ H a = some (.dT kvs) ∧ H b = some (.tup (k.map kV)) ∧ valV kvs k = some v ∧ Q v (upd H a (.dT (dropK kvs k)))
theorem mt_popT1 (hu : X.A.units + 1 < cLine) : MtR X "dict.pop" rPopT1 := by
  intro pins s σ H x xs v us Q I rx rxs h
  obtain ⟨a, kvs, k, b, v0, rfl, rfl, ha, hb, hv, q⟩ := h
  cases rx
  obtain ⟨u1, rfl, r1⟩ := rxs.one
  obtain rfl : u1 = Value.ref b := r1
  obtain ⟨z, hd, xs', rel, dd⟩ := dt_of I.hok ha
  have hz : xs'.length ≤ sizeLine := by rw [← Paired.length rel]; exact z
  have r := rel.val k
  rw [hv] at r
  obtain ⟨p, hp, rp⟩ : ∃ p, atKey xs' k = some p ∧ RelV v0 p.2 := by
    cases e : atKey xs' k with
    | none => rw [e] at r; exact (show False from r).elim
    | some p => rw [e] at r; exact ⟨p, rfl, r⟩
  refine call_pop_heap (hsz := hz) (more := []) (.inl rfl) (PySem.F.args_dict_pop_2 _ _) (tupleKind_room_in1 hu) (key_of I.hok hb) hd dd hp fun h' dd' hs => ?_
  obtain ⟨o, es, ep, hq, h2, h3, h4, _, h5⟩ := dd'
  have I2 : Inv X pins σ (upd H a (.dT (dropK kvs k))) { s with heap := h', toks := s.toks + (tupleKind (mixKind X.prog X.w)).draws k } :=
    d_write I (by rw [ha]; exact True.intro) hs ⟨o, hq⟩ ⟨Nat.le_trans (dropK_le kvs k) z, hd, _, (DX.KT_drop k rel).keeps (fun c ys ec => (by rw [upd_ne (ne_of ec ha (fun z => nomatch z))]; exact ec)), o, es, ep, hq, h2, h3, h4, h5⟩
  show EP X pins σ Q p.2 _
  exact ⟨v0, _, I2, rp, q⟩
def rPopK1 : V → List V → Hp → VK → Prop := fun x xs H Q => ∃ (a : Addr) (kvs : List (Key × V)) (k : Key) (v : V), x = .ref a ∧ xs = [kV k] ∧ H a = some (.dK kvs) ∧ valV kvs k = some v ∧ Q v (upd H a (.dK (dropK kvs k)))
theorem mt_popK1 : MtR X "dict.pop" rPopK1 := by
  intro pins s σ H x xs v us Q I rx rxs h
  obtain ⟨a, kvs, k, v0, rfl, rfl, ha, hv, q⟩ := h
  cases rx
  obtain ⟨u1, rfl, r1⟩ := rxs.one
  exact d_pop I ha r1 hv (.inl rfl) fun w' s' I' r => ⟨v0, _, I', r, q⟩
theorem mt_dget (hu : X.A.units + 1 < cLine) : MtR X "dict.get" (fun x xs H Q => ∃ a y o, x = .ref a ∧ xs = [y] ∧ DGet H a y o ∧ Q (o.getD .non) H) := by
  intro pins s σ H x xs v us Q I rx rxs h
  obtain ⟨a, y, o, rfl, rfl, g, q⟩ := h
  cases rx
  obtain ⟨u1, rfl, r1⟩ := rxs.one
  exact d_get1 hu I g r1 fun w' s' I' r => ⟨_, H, I', r, q⟩
theorem mt_dget2 (hu : X.A.units + 1 < cLine) : MtR X "dict.get" (fun x xs H Q => ∃ a y z o, x = .ref a ∧ xs = [y, z] ∧ DGet H a y o ∧ Q (o.getD z) H) := by
  intro pins s σ H x xs v us Q I rx rxs h
  obtain ⟨a, y, z, o, rfl, rfl, g, q⟩ := h
  cases rx
  obtain ⟨u1, u2, rfl, r1, r2⟩ := vals2 rxs
  exact d_get2 hu I g r1 r2 fun w' s' I' r => ⟨_, H, I', r, q⟩
theorem MW.popT {kvs : List (List Key × D)} {k : List Key} {d : D} (hl : S[l]? = some (.dT kvs)) (hv : getT kvs k = some d) (hu : X.A.units + 64 < cLine) (h : Q d (S.set l (.dT (dropT kvs k)))) : MW X "dict.pop" (.loc l) [ktD k] S Q := MW.ofR (mt_popT1 (u1 hu)) fun F H vx vs Q' rs rx r kp => by
  obtain ⟨a, rfl, ha⟩ := rx
  obtain ⟨a', h', e1, e2, ws, e3, e4⟩ := rs.get hl
  rw [e1] at ha; cases ha
  subst e3
  obtain ⟨v, r', rfl, rk, h2⟩ := r
  cases (show r' = [] from h2)
  obtain ⟨b, rfl, hb⟩ := kt_rd rk
  obtain ⟨w, hw, rw'⟩ := e4.val.2 d hv
  refine ⟨a, ws, k, b, w, rfl, rfl, e2, hb, hw, ?_⟩
  have kk : Keep H (upd H a (.dT (dropK ws k))) := Keep.upd e2 trivial
  exact kp F d w _ _ (List.prefix_refl F) kk (rs.set (o := .dT (dropT kvs k)) e1 e2 trivial ⟨_, rfl, e4.dropT⟩) (rw'.mono (List.prefix_refl F) kk) h
theorem MW.popK {kvs : List (Key × D)} {k : Key} {d : D} (hl : S[l]? = some (.dK kvs)) (hv : getT kvs k = some d) (h : Q d (S.set l (.dK (dropT kvs k)))) : MW X "dict.pop" (.loc l) [kdD k] S Q := MW.ofR mt_popK1 fun F H vx vs Q' rs rx r kp => by
  obtain ⟨a, rfl, ha⟩ := rx
  obtain ⟨a', h', e1, e2, ws, e3, e4⟩ := rs.get hl
  rw [e1] at ha; cases ha
  subst e3
  obtain ⟨v, r', rfl, rk, h2⟩ := r
  cases (show r' = [] from h2)
  obtain ⟨w, hw, rw'⟩ := e4.val.2 d hv
  refine ⟨a, ws, k, w, rfl, by rw [kd_rd rk], e2, hw, ?_⟩
  have kk : Keep H (upd H a (.dK (dropK ws k))) := Keep.upd e2 trivial
  exact kp F d w _ _ (List.prefix_refl F) kk (rs.set (o := .dK (dropT kvs k)) e1 e2 trivial ⟨_, rfl, e4.dropT⟩) (rw'.mono (List.prefix_refl F) kk) h
/-- d.get(k), d.get(k, z) -/
theorem MW.get {x y : D} {o : Option D} (g : DG S x y o) (hu : X.A.units + 64 < cLine) (h : Q (o.getD .non) S) : MW X "dict.get" x [y] S Q := MW.ofR (mt_dget (u1 hu)) fun F H vx vs Q' rs rx r k => by
  obtain ⟨v, r', rfl, ry, h2⟩ := r
  cases (show r' = [] from h2)
  obtain ⟨a, o', e, g', e2, e3⟩ := g.rd rs rx ry
  refine ⟨a, v, o', e, rfl, g', ?_⟩
  cases o with
  | none =>
    have : o' = none := by cases o' with | none => rfl | some _ => simp at e2
    subst this
    exact k.now rs (d := .non) rfl h
  | some d =>
    obtain ⟨w, rfl, rw'⟩ := e3 d rfl
    exact k.now rs rw' h
theorem MW.get2 {x y z : D} {o : Option D} (g : DG S x y o) (hu : X.A.units + 64 < cLine) (h : Q (o.getD z) S) : MW X "dict.get" x [y, z] S Q := MW.ofR (mt_dget2 (u1 hu)) fun F H vx vs Q' rs rx r k => by
  obtain ⟨v, r', rfl, ry, v2, r2, rfl, rz, h2⟩ := r
  cases (show r2 = [] from h2)
  obtain ⟨a, o', e, g', e2, e3⟩ := g.rd rs rx ry
  refine ⟨a, v, v2, o', e, rfl, g', ?_⟩
  cases o with
  | none =>
    have : o' = none := by cases o' with | none => rfl | some _ => simp at e2
    subst this
    exact k.now rs rz h
  | some d =>
    obtain ⟨w, rfl, rw'⟩ := e3 d rfl
    exact k.now rs rw' h
theorem CW.lenD {kvs : List (Key × D)} (hl : S[l]? = some (.dK kvs)) (h : Q (.int kvs.length) S) : CW X (.builtin "len") [.loc l] S Q := CW.of call_lenD fun F H vs Q' rs r k => by
  obtain ⟨v, r', rfl, ⟨a, rfl, ha⟩, e⟩ := r
  cases (show r' = [] from e)
  obtain ⟨a', h', e1, e2, vs, e3, e4⟩ := rs.get hl
  rw [e1] at ha; cases ha
  subst e3
  exact ⟨a, vs, rfl, e2, by rw [e4.length]; exact k.nowI rs h⟩
/-- sorted numbers -/
def sortI (l : List Int) : List Int := l.mergeSort fun a b => decide (a ≤ b)
theorem sorted_one : ∀ {a b : List Int}, a.Perm b → a.Pairwise (· ≤ ·) → b.Pairwise (· ≤ ·) → a = b
  | [], b, p, _, _ => (List.nil_perm.mp p).symm ▸ rfl
  | x :: a, [], p, _, _ => by have := p.length_eq; simp at this
  | x :: a, y :: b, p, ha, hb => by
    rw [List.pairwise_cons] at ha hb
    have e : x = y := by
      have h1 : x ∈ y :: b := p.subset List.mem_cons_self
      have h2 : y ∈ x :: a := p.symm.subset List.mem_cons_self
      rcases List.mem_cons.mp h1 with h1 | h1
      · exact h1
      · rcases List.mem_cons.mp h2 with h2 | h2
        · exact h2.symm
        · exact Int.le_antisymm (ha.1 y h2) (hb.1 x h1)
    subst e
    rw [sorted_one (List.Perm.cons_inv p) ha.2 hb.2]
theorem sortI_perm (l : List Int) : (sortI l).Perm l := List.mergeSort_perm _ _
theorem sortI_sorted (l : List Int) : (sortI l).Pairwise (· ≤ ·) := by
  have := List.pairwise_mergeSort (le := fun a b : Int => decide (a ≤ b)) (fun a b c h1 h2 => by simp at *; omega) (fun a b => by simp; omega) l
  exact this.imp fun h => by simpa using h
theorem CW.sortDI {kvs : List (Int × D)} (hl : S[l]? = some (.dK (kvs.map fun p => (.inl p.1, p.2)))) (h64 : kvs.length < 64) (hc : X.calm = true) (h : Q (.loc S.length) (S ++ [.lst ((sortI (kvs.map (·.1))).map D.int)])) : CW X (.builtin "sorted") [.loc l] S Q := CW.of (call_sortedDI hc) fun F H vs Q' rs r k => by
  obtain ⟨v, r', rfl, ⟨a, rfl, ha⟩, e⟩ := r
  cases (show r' = [] from e)
  obtain ⟨a', h', e1, e2, vs, e3, e4⟩ := rs.get hl
  rw [e1] at ha; cases ha
  subst e3
  refine ⟨a, vs, kvs.map (·.1), rfl, .inl e2, by rw [e4.keys, List.map_map, List.map_map]; rfl, by rw [List.length_map]; exact h64, fun ys p hp hs hn => ?_⟩
  have : ys = sortI (kvs.map (·.1)) := sorted_one (hp.trans (sortI_perm _).symm) hs (sortI_sorted _)
  subst this
  exact k (F ++ [p]) (.loc S.length) (.ref p) _ _ ⟨[p], rfl⟩ (Keep.new hn) (rs.new (o := .lst ((sortI (kvs.map (·.1))).map D.int)) hn ⟨_, rfl, ints_of_rd _⟩) ⟨p, rfl, by rw [← rs.len]; simp⟩ h
end
end DM

namespace DM
open PySem PySem.Spec PyProof.Rows L2
/-! ### dict(pairs) with tuple keys; x in data -/
abbrev Pr4 := Addr × List Key × Addr × V
theorem tpairs_of {X : Cx} {pins : List (Addr × Obj)} {σ : L2.St} {H : Hp} {s : Shared} (I : Inv X pins σ H s) : ∀ (zs : List Pr4), (∀ z ∈ zs, H z.1 = some (.tup [.ref z.2.2.1, z.2.2.2]) ∧ H z.2.2.1 = some (.tup (z.2.1.map kV))) →
    ∃ ws : List (List Key × Addr × Value), KT H (zs.map fun z => (z.2.1, z.2.2.2)) ws ∧ ws.length = zs.length ∧ ∀ (j : Nat) (w : List Key × Addr × Value), ws[j]? = some w → ∃ z, zs[j]? = some z ∧ s.heap.IsTuple z.1 #[.ref w.2.1, w.2.2]
  | [], _ => ⟨[], .nil, rfl, fun j w h => by simp at h⟩
  | z :: zs, h => by
    obtain ⟨ws, r, hl, hp⟩ := tpairs_of I zs fun y hy => h y (List.mem_cons_of_mem _ hy)
    obtain ⟨h1, h2⟩ := h z List.mem_cons_self
    obtain ⟨its, rv, ht, _⟩ := I.tuple (SqT.of h1)
    obtain ⟨u, y, ei, ru, ry⟩ := vals2 rv
    subst ei
    obtain rfl : u = Value.ref z.2.2.1 := ru
    refine ⟨(z.2.1, z.2.2.1, y) :: ws, .cons ⟨rfl, h2, ry⟩ r, by rw [List.length_cons, List.length_cons, hl], fun j w e => ?_⟩
    cases j with
    | zero =>
      have e' : (z.2.1, z.2.2.1, y) = w := Option.some.inj e
      subst e'
      obtain ⟨o, q1, q2, n, q3⟩ := ht
      exact ⟨z, rfl, o, q1, q2, n, q3⟩
    | succ j =>
      obtain ⟨z', q1, q2⟩ := hp j w (by simpa using e)
      exact ⟨z', by simpa using q1, q2⟩
theorem call_dictPT {X : Cx} (hcalm : X.calm = true) (hu : X.A.units + 64 < cLine) : CallR X (.type "dict") (fun xs H Q => ∃ (a : Addr) (zs : List Pr4), xs = [.ref a] ∧ SqL X.K H a (zs.map fun z => V.ref z.1) ∧ (∀ z ∈ zs, H z.1 = some (.tup [.ref z.2.2.1, z.2.2.2]) ∧ H z.2.2.1 = some (.tup (z.2.1.map kV))) ∧
    ∀ p, H p = none → Q (.ref p) (upd H p (.dT (putAllK [] (zs.map fun z => (z.2.1, z.2.2.2)))))) := by
  intro pins s σ H xs us Q I r q
  obtain ⟨a, zs, rfl, hq, hz, q⟩ := q
  obtain ⟨u, rfl, rx⟩ := vals1 r
  obtain rfl : u = Value.ref a := rx
  obtain ⟨its, rv, pl, hsz⟩ := I.list hq
  obtain ⟨ws, kt, wl, wt⟩ := tpairs_of I zs hz
  have ei : its = zs.map fun z => Value.ref z.1 := by
    have : ∀ (l : List Pr4) (m : List Value), Vals (l.map fun z => V.ref z.1) m → m = l.map fun z => Value.ref z.1 := by
      intro l
      induction l with
      | nil => intro m h; cases h; rfl
      | cons z l ih =>
        intro m h
        rw [List.map_cons] at h
        cases h with
        | cons h t => cases h; rw [List.map_cons, ← ih _ t]
    exact this zs its rv
  subst ei
  rw [List.length_map] at hsz
  have hkey : ∀ w ∈ ws, H w.2.1 = some (.tup (w.1.map kV)) := (kt_all kt).2
  obtain ⟨o, n, ho, hc, hd, hdat⟩ := pl
  have ok : PlainSeq "list" s.heap a (zs.map fun z => Value.ref z.1).toArray ∧ PairItems s.heap (zs.map fun z => Value.ref z.1).toArray (fun j => (zs.getD j (0, [], 0, .non)).1) (ws.map fun w => (Value.ref w.2.1, w.2.2)) := by
    refine ⟨⟨o, n, ho, hc, hd, hdat⟩, by simp [wl], fun j k v e => ?_⟩
    rw [List.getElem?_map] at e
    cases ew : ws[j]? with
    | none => rw [ew] at e; cases e
    | some w =>
      rw [ew] at e
      cases e
      obtain ⟨z, e1, e2⟩ := wt j w ew
      refine ⟨by simp [e1, List.getD], .inl ?_⟩
      have : (zs.getD j (0, [], 0, .non)).1 = z.1 := by simp [List.getD, e1]
      show s.heap.IsTuple (zs.getD j (0, [], 0, .non)).1 _
      rw [this]; exact e2
  refine call_dict_pairsH (knd := tupleKind (mixKind X.prog X.w)) (ps := ws) (PairArg.list a _ (fun j => (zs.getD j (0, [], 0, .non)).1) (ws.map fun w => (Value.ref w.2.1, w.2.2))) (I.ok.hd hcalm) (show X.A.in1.in1.units < cLine by show X.A.units + 1 + 1 < cLine; omega) ok ⟨by simp, fun i key v e => ?_⟩ (fun h' k w hw => ?_) (by rw [List.length_map, wl]; exact hsz) fun h' tk dd k => ?_
  · have e : (ws.map fun w => (Value.ref w.2.1, w.2.2))[i]? = some (key, v) := e
    rw [List.getElem?_map] at e
    cases ew : ws[i]? with
    | none => rw [ew] at e; cases e
    | some w =>
      rw [ew] at e
      cases e
      exact ⟨w.1, w.2.1, rfl, rfl⟩
  · obtain ⟨o, its, n, q1, q2, q3, q4⟩ := key_of I.hok (hkey w hw)
    exact ⟨o, its, n, k _ _ (Nat.ne_of_lt (Heap.lt_size q1)) (by simp) q1, q2, q3, q4⟩
  · have hl : (putAllK [] (zs.map fun z => (z.2.1, z.2.2.2))).length ≤ sizeLine := by
      refine Nat.le_trans (putAllK_len _ _) ?_
      rw [List.length_map]; simpa using hsz
    have hm : (s.heap.objs.size == sysModules) = false := beq_eq_false_iff_ne.mpr (Nat.ne_of_gt I.big)
    have hn : H s.heap.objs.size = none := I.hok.fresh (Nat.le_refl _)
    obtain ⟨q0, es, ep, hq, h2, h3, h4, _, h5⟩ := id dd
    refine ⟨.ref s.heap.objs.size, upd H s.heap.objs.size (.dT (putAllK [] (zs.map fun z => (z.2.1, z.2.2.2)))), I.laid (t' := tk) (fun b o e => k b o (by simp) e) (Nat.le_refl _) ⟨hl, hm, _, (KT.putAll kt .nil).keeps fun c vs ec => ?_, q0, es, ep, hq, h2, h3, h4, h5⟩, rfl, q _ hn⟩
    rw [upd_ne (ne_of_none ec hn)]; exact ec
section
variable {X : Cx} {S : Store} {Q : D → Store → Prop} {l : Nat}
theorem CW.dctLT {kvs : List (List Key × D)} (hl : S[l]? = some (.lst (kvs.map fun kv => .tup [ktD kv.1, kv.2]))) (hc : X.calm = true) (hu : X.A.units + 64 < cLine) (h : Q (.loc S.length) (S ++ [.dT (putAllT [] kvs)])) : CW X (.type "dict") [.loc l] S Q := CW.of (call_dictPT hc hu) fun F H vs Q' rs r k => by
  obtain ⟨v, r', rfl, ⟨a, rfl, ha⟩, e⟩ := r
  cases (show r' = [] from e)
  obtain ⟨a', h', e1, e2, vs, e3, e4⟩ := rs.get hl
  rw [e1] at ha; cases ha
  subst e3
  have go : ∀ (kvs : List (List Key × D)) (vs : List V), RDs F H (kvs.map fun kv => D.tup [ktD kv.1, kv.2]) vs → ∃ (zs : List Pr4), vs = (zs.map fun z => V.ref z.1) ∧ (∀ z ∈ zs, H z.1 = some (.tup [.ref z.2.2.1, z.2.2.2]) ∧ H z.2.2.1 = some (.tup (z.2.1.map kV))) ∧ RKs F H kvs (zs.map fun z => (z.2.1, z.2.2.2)) := by
    intro kvs
    induction kvs with
    | nil => intro vs r; cases (show vs = [] from r); exact ⟨[], rfl, fun z h => by (cases h), rfl⟩
    | cons kv kvs ih =>
      intro vs r
      obtain ⟨v, r', rfl, ⟨p, us, rfl, hp, hus⟩, h2⟩ := r
      obtain ⟨zs, rfl, i1, i2⟩ := ih r' h2
      obtain ⟨x, us', rfl, hx, hy⟩ := hus
      obtain ⟨y, us2, rfl, hy1, hy2⟩ := hy
      cases (show us2 = [] from hy2)
      obtain ⟨b, rfl, hb⟩ := kt_rd hx
      refine ⟨(p, kv.1, b, y) :: zs, rfl, fun z hz => ?_, y, _, rfl, hy1, i2⟩
      rcases List.mem_cons.mp hz with rfl | hz
      · exact ⟨hp, hb⟩
      · exact i1 z hz
  obtain ⟨zs, rfl, i1, i2⟩ := go kvs vs e4
  refine ⟨a, zs, rfl, SqL.of e2, i1, fun p hp => ?_⟩
  have rk : RKs F H (putAllT [] kvs) (putAllK [] (zs.map fun z => (z.2.1, z.2.2.2))) := RKs.putAll (kvs := []) (vs := []) i2 rfl
  exact k (F ++ [p]) (.loc S.length) (.ref p) _ _ ⟨[p], rfl⟩ (Keep.new hp) (rs.new (o := .dT (putAllT [] kvs)) hp ⟨_, rfl, rk⟩) ⟨p, rfl, by rw [← rs.len]; simp⟩ h
/-- x in a tuple of data -/
theorem op_inTD (hu : X.A.units + 65 < cLine) : OpR X (compareOp .In) (fun x y H Q => ∃ d ds, Dp X.K H x d ∧ Dp X.K H y (.tuple ds) ∧ SeqAt.shaped d = true ∧ SeqAt.shaped (.tuple ds) = true ∧ Q (.bl (ds.any fun z => PyData.eqv z d)) H) := by
  intro pins s σ H x y v u Q I rx ry h
  obtain ⟨d, ds, hd, he, sd, se, q⟩ := h
  obtain ⟨as, r1⟩ := Dp.reads I d x v hd rx
  obtain ⟨bs, r2⟩ := Dp.reads I (.tuple ds) y u he ry
  exact SeqAt.in_tuple_reads r2 r1 (SeqAt.canLay_of_shaped se) (SeqAt.canLay_of_shaped sd) (room_in_shaped sd hu) ⟨.bl _, H, I, rfl, q⟩
theorem BW.inTD {x y : D} {d : PyData} {ds : List PyData} (hx : PD S x d) (hy : PD S y (.tuple ds)) (sx : SeqAt.shaped d = true) (sy : SeqAt.shaped (.tuple ds) = true) (hu : X.A.units + 65 < cLine) (h : Q (.bl (ds.any fun z => PyData.eqv z d)) S) : BW X (compareOp .In) x y S Q := BW.of (op_inTD hu) fun F H vx vy Q' rs rx ry k =>
  ⟨d, ds, hx.dp rs _ _ _ rx, hy.dp rs _ _ _ ry, sx, sy, k.nowB rs h⟩
end
end DM

namespace DM
open PySem PySem.Spec PyProof.Rows L2
theorem kI_toP (nm : List Int) : toP (ktD (kN nm)) = .tuple (nm.map PyData.int) := by
  show PyData.tuple (toPs ((kN nm).map kdD)) = _
  have : ∀ l : List Int, toPs ((kN l).map kdD) = l.map PyData.int := by
    intro l
    induction l with
    | nil => rfl
    | cons i l ih => show PyData.int i :: toPs ((kN l).map kdD) = _; rw [ih]; rfl
  rw [this]
theorem ints_alike : ∀ x y : List Int, PySem.W.alikeAll (x.map PyData.int) (y.map PyData.int) = true
  | [], y => by cases y <;> simp [PySem.W.alikeAll]
  | i :: x, [] => by simp [PySem.W.alikeAll]
  | i :: x, j :: y => by have := ints_alike x y; simp [PySem.W.alikeAll, PySem.W.alike, this]
theorem keys_alike (l : List (List Int)) : PySem.W.AllAlike ((l.map kN).map fun k => toP (ktD k)) := by
  rw [List.map_map]
  refine PySem.W.AllAlike.of (enc := (fun k => toP (ktD k)) ∘ kN) fun a b => ?_
  show PySem.W.alike (toP (ktD (kN a))) (toP (ktD (kN b))) = true
  rw [kI_toP, kI_toP]
  have := ints_alike a b
  simp [PySem.W.alike, this]
theorem keys_sortable {l : List (List Int)} (h : ∀ nm ∈ l, 1 ≤ nm.length) : PySem.W.Sortable ((l.map kN).map fun k => toP (ktD k)) := .inl fun d hd => by
  rw [List.map_map] at hd
  obtain ⟨nm, hnm, rfl⟩ := List.mem_map.mp hd
  have := h nm hnm
  cases nm with
  | nil => exact absurd this (by decide)
  | cons i nm => exact ⟨_, _, kI_toP (i :: nm)⟩
/-- names in order -/
def leN (a b : List Int) : Bool := leK (kN a) (kN b)
def sortN (l : List (List Int)) : List (List Int) := l.mergeSort leN
theorem sortN_map (l : List (List Int)) : (l.map kN).mergeSort leK = (sortN l).map kN := (List.map_mergeSort (f := kN) (r := leN) (s := leK) (l := l) fun _ _ _ _ => rfl).symm
theorem keys_mapT {β : Type} {e : β → D} (kvs : List (List Int × β)) : (mapT kN e kvs).map (·.1) = (kvs.map (·.1)).map kN := by
  unfold mapT; rw [List.map_map, List.map_map]; rfl
theorem pu_kN {nm : List Int} (h : nm.length ≤ 100000) : pu 60 (ktD (kN nm)) = true := by
  rw [← eM_key]; exact pu_eM (n := 59) h
def pairD (p : List Int × Int) : D := .tup [eM p.1, .int p.2]
theorem bel_pair (n : Nat) (p : List Int × Int) : bel n (pairD p) = true := by show (bel _ (eM p.1) && (true && true)) = true; rw [bel_eM]; rfl
/-- what is told of what is had -/
def toldOf (fd : List (List Int × Int)) : List (List Int × Int) := (sortN (fd.map (·.1))).map fun nm => (nm, (getT fd nm).getD 0)
theorem had_names {ps : List (List Int × List Int)} {hs : List He} (op : OkW ps) : ∀ p ∈ hadOf ps hs, 1 ≤ p.1.length ∧ p.1.length ≤ 3 := by
  have gen : ∀ (rows : List Row) (s : Had), (∀ r ∈ rows, 1 ≤ r.2.2.2.length ∧ r.2.2.2.length ≤ 3) → (∀ p ∈ s.2, 1 ≤ p.1.length ∧ p.1.length ≤ 3) → ∀ p ∈ (rows.foldl hadStep s).2, 1 ≤ p.1.length ∧ p.1.length ≤ 3 := by
    intro rows
    induction rows with
    | nil => intro s _ h; exact h
    | cons r rows ih =>
      intro s hr h
      refine ih _ (fun x hx => hr x (List.mem_cons_of_mem _ hx)) fun p hp => ?_
      unfold hadStep at hp
      split at hp
      · rename_i c
        have hp : p ∈ putT s.2 r.2.2.2 r.2.2.1 := hp
        rw [putT_new _ c.1] at hp
        rcases List.mem_append.mp hp with hp | hp
        · exact h p hp
        · rw [List.mem_singleton.mp hp]; exact hr r List.mem_cons_self
      · exact h p hp
  exact gen _ _ (fun r hr => by obtain ⟨p, hp, _, _, _, _, rfl⟩ := rows_of (List.mem_mergeSort.mp hr); exact ⟨(op.2 p hp).1, (op.2 p hp).2.1⟩) fun p hp => by cases hp
theorem belK_eM {n : Nat} : ∀ (kvs : List (List Int × List Int)), belK n (mapT kN eM kvs) = true
  | [] => rfl
  | p :: kvs => by show (bel n (eM p.2) && belK n (mapT kN eM kvs)) = true; rw [bel_eM, belK_eM kvs]; rfl
def dMk (ps : List (List Int × List Int)) : Ob := .dT (mapT kN eM ps)
theorem bel_dMk (n : Nat) (ps : List (List Int × List Int)) : belO n (dMk ps) = true := belK_eM ps
theorem put_marks {a b : List (List Int × List Int)} (h : ((a ++ b).map (·.1)).Nodup) : putAllT (mapT kN eM a) (mapT kN eM b) = mapT kN eM (a ++ b) := by
  rw [putAllT_mapT kN_inj, putAll_new b a]
  · intro k hk hm
    rw [List.map_append, List.nodup_append] at h
    exact h.2.2 k hm k hk rfl
  · rw [List.map_append, List.nodup_append] at h
    exact h.2.1
theorem eqv_pus {n : Nat} {xs : List D} (h : ∀ x ∈ xs, pu n x = true) : PyData.eqvAll (toPs xs) (toPs xs) = true := by
  rw [pus_eqv xs xs h h]; simp
theorem shp2 {a b : List PyData} (h1 : PyData.canLayAll0 a = true ∧ PyData.depthAll a ≤ 60) (h2 : PyData.canLayAll0 b = true ∧ PyData.depthAll b ≤ 60) : SeqAt.shaped (.list [.list a, .list b]) = true := by
  refine shaped_of ?_ ?_
  · show (PyData.canLayAll0 a && (PyData.canLayAll0 b && true)) = true
    rw [h1.1, h2.1]; rfl
  · show max (PyData.depthAll a + 1) (max (PyData.depthAll b + 1) 0) + 1 ≤ 64
    omega
theorem keys_sorted (fd : List (List Int × Int)) : (((mapT kN D.int fd).map (·.1)).mergeSort leK).map ktD = (sortN (fd.map (·.1))).map eM := by
  rw [keys_mapT, sortN_map, List.map_map]; exact List.map_congr_left fun nm _ => (eM_key nm).symm
theorem told_fm (fd : List (List Int × Int)) : (sortN (fd.map (·.1))).filterMap (fun nm => some (pairD (nm, (getT fd nm).getD 0))) = (toldOf fd).map pairD := by
  unfold toldOf
  rw [List.map_map]
  generalize sortN (fd.map (·.1)) = l
  induction l with
  | nil => rfl
  | cons a l ih => rw [List.filterMap_cons, List.map_cons, ih]; rfl
theorem had_len {ps : List (List Int × List Int)} {hs : List He} (ow : OkW ps) (oh : OkHs hs) : (hadOf ps hs).length ≤ 90000 := by
  have h1 := fold_len (sortR ps hs) (roomsOf hs, [])
  have h2 : (sortR ps hs).length ≤ 90000 := by
    unfold sortR
    rw [List.length_mergeSort]
    exact Nat.le_trans (rows_len _ _) (Nat.le_trans (Nat.mul_le_mul ow.1 oh.1) (by decide))
  have e : (roomsOf hs, ([] : List (List Int × Int))).2.length = 0 := rfl
  show ((sortR ps hs).foldl hadStep (roomsOf hs, [])).2.length ≤ 90000
  omega
theorem pu_thD {p : Int × Th} (h : OkT 2 p.2) : pu 60 (thD p) = true := by
  have h1 : pu 59 (eT p.2) = true := pu_eT h (by omega)
  show (decide (2 ≤ 100000) && (pu 59 (.int _) && (pu 59 (eT p.2) && true))) = true
  rw [h1, pu_int]; rfl
theorem pu_heD {h : He} (hc : OkCs h.2.1) : pu 60 (heD h) = true := by
  have h1 : pu 59 (eCs h.2.1) = true := pu_eCs (n := 56) hc
  show (decide (3 ≤ 100000) && (pu 59 (.int _) && (pu 59 (eCs h.2.1) && (pu 59 (.int _) && true)))) = true
  rw [h1, pu_int, pu_int]; rfl
end DM

namespace DM
open PySem PySem.Spec PyProof.Rows L2
/-! ### a desk, as plain data -/
inductive Sta where
  | free | taking | held | leaving
  deriving DecidableEq
def Sta.s : Sta → Str
  | .free => "free" | .taking => "taking" | .held => "held" | .leaving => "leaving"
abbrev Nm := List Int
abbrev Lt := Bool × Nm
structure HpS where
  claims : List (List Int × Int)
  room : Int
  left : List Lt
inductive En where
  | plug (n : Int) (t : Th) | unplug (n : Int) | come (n : Int) (cs : List (List Int × Int)) (r : Int) | fall (n : Int) | letter (h : Int) (l : Lt) | done (h : Int) (l : Lt)
abbrev Sts := List (Nm × Sta × Option Int)
structure Dk where
  plugged : List (Int × Th)
  marks : List (Nm × List Int)
  who : List (Int × HpS)
  states : Sts
  fresh : Int × Int
  log : List En
def saD (s : Sta × Option Int) : D := .tup [.str s.1.s, D.ofO s.2]
def ltS (b : Bool) : Str := if b then "take" else "leave"
def ltD (l : Lt) : D := .tup [.str (ltS l.1), eM l.2]
def enD : En → D
  | .plug n t => .tup [.str "plug", .int n, eT t]
  | .unplug n => .tup [.str "unplug", .int n]
  | .come n cs r => .tup [.str "come", .int n, eCs cs, .int r]
  | .fall n => .tup [.str "fall", .int n]
  | .letter h l => .tup [.str "letter", .int h, ltD l]
  | .done h l => .tup [.str "done", .int h, ltD l]
theorem bel_saD (n : Nat) (s : Sta × Option Int) : bel n (saD s) = true := by
  obtain ⟨a, b⟩ := s; cases b <;> rfl
theorem bel_ltD (n : Nat) (l : Lt) : bel n (ltD l) = true := by show (true && (bel n (eM l.2) && true)) = true; rw [bel_eM]; rfl
theorem bel_enD (n : Nat) (e : En) : bel n (enD e) = true := by
  cases e with
  | plug a t => show (true && (true && (bel n (eT t) && true))) = true; rw [bel_eT]; rfl
  | unplug a => rfl
  | come a cs r => show (true && (true && (bel n (eCs cs) && (true && true)))) = true; rw [bel_eCs]; rfl
  | fall a => rfl
  | letter h l => show (true && (true && (bel n (ltD l) && true))) = true; rw [bel_ltD]; rfl
  | done h l => show (true && (true && (bel n (ltD l) && true))) = true; rw [bel_ltD]; rfl
namespace Dk
def keys (dk : Dk) : List Nm := dk.states.map (·.1)
def stOf (dk : Dk) (nm : Nm) : Sta × Option Int := (getT dk.states nm).getD (.free, none)
def mkOf (dk : Dk) (nm : Nm) : List Int := (getT dk.marks nm).getD []
def whoD (dk : Dk) (h : Int) : HpS := (getT dk.who h).getD ⟨[], 0, []⟩
def inner (dk : Dk) (nm : Nm) : List Nm := (sortN dk.keys).filter fun one => decide (one.dropLast = nm)
def popS (dk : Dk) (nm : Nm) : Dk := { dk with states := dropT dk.states nm, who := dk.who.map fun h => (h.1, { h.2 with left := h.2.left.filter fun lt => decide (lt.2 ≠ nm) }) }
def gone : Nat → Dk → Nm → Dk
  | 0, dk, _ => dk
  | n + 1, dk, nm => ((dk.inner nm).foldl (fun d one => gone n d one) dk).popS nm
def innerGone (n : Nat) (dk : Dk) (nm : Nm) : Dk := (dk.inner nm).foldl (fun d one => gone n d one) dk
theorem gone_succ (n : Nat) (dk : Dk) (nm : Nm) : gone (n + 1) dk nm = (innerGone n dk nm).popS nm := rfl
def rows (dk : Dk) : List He := (sortI (dk.who.map (·.1))).map fun n => (n, (dk.whoD n).claims, (dk.whoD n).room)
def settled (dk : Dk) (nm : Nm) (goals : List (Nm × Int)) : Bool := decide ((dk.stOf nm).1 = .held) && decide ((dk.stOf nm).2 = getT goals nm)
def there (dk : Dk) (found : List (Nm × Int)) (len : Int) : List Nm := ((sortN dk.keys).filter fun nm => decide ((nm.length : Int) ≤ len)).filter fun nm => decide (nm.length = 1) || dk.settled nm.dropLast found
def goalsStep (dk : Dk) (found : List (Nm × Int)) (len : Int) : List (Nm × Int) := hadOf ((dk.there found len).map fun nm => (nm, dk.mkOf nm)) dk.rows
def goals (dk : Dk) : List (Nm × Int) := dk.goalsStep (dk.goalsStep (dk.goalsStep [] 1) 2) 3
def used (dk : Dk) (h : Int) : Nat := (dk.states.filter fun p => decide (p.2.2 = some h)).length
def whoMod (dk : Dk) (h : Int) (f : HpS → HpS) : Dk := { dk with who := dk.who.map fun p => if p.1 = h then (p.1, f p.2) else p }
def putS (dk : Dk) (nm : Nm) (s : Sta × Option Int) : Dk := { dk with states := putT dk.states nm s }
def addL (dk : Dk) (e : En) : Dk := { dk with log := dk.log ++ [e] }
def letter (dk : Dk) (h : Int) (lt : Lt) (s : Sta) : Dk := ((dk.whoMod h fun p => { p with left := p.left ++ [lt] }).putS lt.2 (s, some h)).addL (.letter h lt)
def thinkStep (goals : List (Nm × Int)) (dk : Dk) (nm : Nm) : Dk :=
  if (dk.stOf nm).1 = .held ∧ (dk.stOf nm).2 ≠ getT goals nm then
    if ((dk.inner nm).filter fun one => decide ((dk.stOf one).1 ≠ .free)) = [] then dk.letter ((dk.stOf nm).2.getD 0) (false, nm) .leaving else dk
  else match getT goals nm with
    | none => dk
    | some g => if (dk.stOf nm).1 = .free ∧ (dk.used g : Int) < (dk.whoD g).room then dk.letter g (true, nm) .taking else dk
def think (dk : Dk) : Dk := (sortN dk.keys).foldl (thinkStep dk.goals) dk
def plugPre (dk : Dk) (t : Th) : Dk :=
  { dk with plugged := putT dk.plugged dk.fresh.1 t, marks := putAllT dk.marks (within [dk.fresh.1] t), states := putT dk.states [dk.fresh.1] (.free, none), fresh := (dk.fresh.1 + 1, dk.fresh.2), log := dk.log ++ [.plug dk.fresh.1 t] }
def plug (dk : Dk) (t : Th) : Dk := (dk.plugPre t).think
def unmark (dk : Dk) (ns : List Nm) : Dk := { dk with marks := ns.foldl (fun m n => dropT m n) dk.marks }
def thingOf (dk : Dk) (n : Int) : Th := (getT dk.plugged n).getD (.mk [] [])
def unplugPre (dk : Dk) (n : Int) : Dk :=
  let d1 := (dk.addL (.unplug n)).gone 3 [n]
  ({ d1 with plugged := dropT d1.plugged n } : Dk).unmark ((within [n] (dk.thingOf n)).map (·.1))
def unplug (dk : Dk) (n : Int) : Dk := (dk.unplugPre n).think
def comePre (dk : Dk) (cs : List (List Int × Int)) (r : Int) : Dk :=
  { dk with who := putT dk.who dk.fresh.2 ⟨cs, r, []⟩, fresh := (dk.fresh.1, dk.fresh.2 + 1), log := dk.log ++ [.come dk.fresh.2 cs r] }
def come (dk : Dk) (cs : List (List Int × Int)) (r : Int) : Dk := (dk.comePre cs r).think
def fallStep (h : Int) (dk : Dk) (nm : Nm) : Dk := if nm ∈ dk.keys ∧ (dk.stOf nm).2 = some h then (dk.putS nm (.free, none)).innerGone 2 nm else dk
def fallPre (dk : Dk) (h : Int) : Dk :=
  let d1 : Dk := { dk.addL (.fall h) with who := dropT dk.who h }
  (sortN d1.keys).foldl (fallStep h) d1
def fall (dk : Dk) (h : Int) : Dk := (dk.fallPre h).think
def freeIn (nm : Nm) (dk : Dk) (one : Nm) : Dk := if one.dropLast = nm then dk.putS one (.free, none) else dk
def did (dk : Dk) (h : Int) (lt : Lt) : Dk :=
  let d1 := (dk.whoMod h fun p => { p with left := p.left.drop 1 }).addL (.done h lt)
  if lt.1 then (d1.marks.map (·.1)).foldl (freeIn lt.2) (d1.putS lt.2 (.held, some h)) else (d1.innerGone 2 lt.2).putS lt.2 (.free, none)
def answer (dk : Dk) (h : Int) : Option Lt × Dk := match (dk.whoD h).left with
  | [] => (none, dk)
  | lt :: _ => (some lt, (dk.did h lt).think)
def holds (dk : Dk) (h : Int) : List Nm := (sortN dk.keys).filter fun nm => decide (dk.stOf nm = (.held, some h)) || decide (dk.stOf nm = (.leaving, some h))
def standing (dk : Dk) : List (Nm × Sta × Option Int) := (sortN dk.keys).map fun nm => (nm, dk.stOf nm)
/-- one round of settle: how many letters were done -/
def roundI (dk : Dk) : List Int → Int → Int × Dk
  | [], c => (c, dk)
  | h :: hs, c => roundI (dk.answer h).2 hs (c + if (dk.answer h).1.isSome then 1 else 0)
end Dk
/-! ### where a desk stands in the store -/
structure At where
  l : Nat
  lp : Nat
  lm : Nat
  lw : Nat
  ls : Nat
  lf : Nat
  lg : Nat
  hp : List (Nat × Nat)
def At.fix (a : At) : List Nat := [a.l, a.lp, a.lm, a.lw, a.ls, a.lf, a.lg]
def At.hps (a : At) : List Nat := a.hp.flatMap fun p => [p.1, p.2]
def At.all (a : At) : List Nat := a.fix ++ a.hps
def deskFs (a : At) : List (Str × D) := [("plugged", .loc a.lp), ("marks", .loc a.lm), ("who", .loc a.lw), ("states", .loc a.ls), ("fresh", .loc a.lf), ("log", .loc a.lg)]
def helpFs (h : HpS) (p : Nat × Nat) : List (Str × D) := [("claims", eCs h.claims), ("room", .int h.room), ("left", .loc p.2)]
def whoOb (dk : Dk) (a : At) : Ob := .dK ((dk.who.zip a.hp).map fun x => (kI x.1.1, .loc x.2.1))
structure DeskAt (CD CH : Addr) (S : Store) (a : At) (dk : Dk) : Prop where
  self : S[a.l]? = some (.ins CD (deskFs a))
  plugged : S[a.lp]? = some (.dK (mapT kI eT dk.plugged))
  marks : S[a.lm]? = some (dMk dk.marks)
  who : S[a.lw]? = some (whoOb dk a)
  states : S[a.ls]? = some (.dT (mapT kN saD dk.states))
  fresh : S[a.lf]? = some (.lst [.int dk.fresh.1, .int dk.fresh.2])
  log : S[a.lg]? = some (.lst (dk.log.map enD))
  hlen : a.hp.length = dk.who.length
  help : ∀ (i : Nat) (h : Int × HpS) (p : Nat × Nat), dk.who[i]? = some h → a.hp[i]? = some p → S[p.1]? = some (.ins CH (helpFs h.2 p)) ∧ S[p.2]? = some (.lst (h.2.left.map ltD))
  nd : a.all.Nodup
theorem DeskAt.lt {CD CH : Addr} {S : Store} {a : At} {dk : Dk} (h : DeskAt CD CH S a dk) : ∀ j ∈ a.all, j < S.length := by
  intro j hj
  rcases List.mem_append.mp hj with hj | hj
  · simp only [At.fix, List.mem_cons, List.not_mem_nil, or_false] at hj
    rcases hj with rfl | rfl | rfl | rfl | rfl | rfl | rfl
    · exact (List.getElem?_eq_some_iff.mp h.self).1
    · exact (List.getElem?_eq_some_iff.mp h.plugged).1
    · exact (List.getElem?_eq_some_iff.mp h.marks).1
    · exact (List.getElem?_eq_some_iff.mp h.who).1
    · exact (List.getElem?_eq_some_iff.mp h.states).1
    · exact (List.getElem?_eq_some_iff.mp h.fresh).1
    · exact (List.getElem?_eq_some_iff.mp h.log).1
  · obtain ⟨p, hp, hj⟩ := List.mem_flatMap.mp hj
    obtain ⟨i, hi, e⟩ := List.mem_iff_getElem.mp hp
    have hi' : i < dk.who.length := by rw [← h.hlen]; exact hi
    obtain ⟨q1, q2⟩ := h.help i dk.who[i] p (List.getElem?_eq_getElem hi') (by rw [List.getElem?_eq_getElem hi, e])
    simp only [List.mem_cons, List.not_mem_nil, or_false] at hj
    rcases hj with rfl | rfl
    · exact (List.getElem?_eq_some_iff.mp q1).1
    · exact (List.getElem?_eq_some_iff.mp q2).1
/-- all of the desk's own stands as it stood -/
theorem DeskAt.same {CD CH : Addr} {S S' : Store} {a : At} {dk : Dk} (h : DeskAt CD CH S a dk) (k : ∀ j ∈ a.all, S'[j]? = S[j]?) : DeskAt CD CH S' a dk := by
  have f : ∀ j ∈ a.fix, S'[j]? = S[j]? := fun j hj => k j (List.mem_append_left _ hj)
  refine ⟨?_, ?_, ?_, ?_, ?_, ?_, ?_, h.hlen, fun i x p e1 e2 => ?_, h.nd⟩
  · rw [f _ (by simp [At.fix])]; exact h.self
  · rw [f _ (by simp [At.fix])]; exact h.plugged
  · rw [f _ (by simp [At.fix])]; exact h.marks
  · rw [f _ (by simp [At.fix])]; exact h.who
  · rw [f _ (by simp [At.fix])]; exact h.states
  · rw [f _ (by simp [At.fix])]; exact h.fresh
  · rw [f _ (by simp [At.fix])]; exact h.log
  · have hm := List.mem_of_getElem? e2
    obtain ⟨q1, q2⟩ := h.help i x p e1 e2
    rw [k p.1 (List.mem_append_right _ (List.mem_flatMap.mpr ⟨p, hm, by simp⟩)), k p.2 (List.mem_append_right _ (List.mem_flatMap.mpr ⟨p, hm, by simp⟩))]
    exact ⟨q1, q2⟩
theorem DeskAt.app {CD CH : Addr} {S G : Store} {a : At} {dk : Dk} (h : DeskAt CD CH S a dk) : DeskAt CD CH (S ++ G) a dk :=
  h.same fun j hj => List.getElem?_append_left (h.lt j hj)
/-- what isn't the desk's own stands -/
structure Fra (S S' : Store) (a a' : At) : Prop where
  len : S.length ≤ S'.length
  keep : ∀ (j : Nat) (o : Ob), j ∉ a.all → S[j]? = some o → S'[j]? = some o
  sub : ∀ j ∈ a'.all, j ∈ a.all ∨ S.length ≤ j
  fix : a'.fix = a.fix
theorem Fra.refl (S : Store) (a : At) : Fra S S a a := ⟨Nat.le_refl _, fun _ _ _ h => h, fun _ h => .inl h, rfl⟩
theorem Fra.trans {S S1 S2 : Store} {a a1 a2 : At} (h : Fra S S1 a a1) (g : Fra S1 S2 a1 a2) : Fra S S2 a a2 :=
  ⟨Nat.le_trans h.len g.len, fun j o hj e => g.keep j o (fun z => by
    rcases h.sub j z with q | q
    · exact hj q
    · have := (List.getElem?_eq_some_iff.mp e).1; omega) (h.keep j o hj e), fun j hj => by
    rcases g.sub j hj with q | q
    · exact h.sub j q
    · exact .inr (Nat.le_trans h.len q), g.fix.trans h.fix⟩
theorem Fra.app {S G : Store} {a : At} : Fra S (S ++ G) a a := ⟨by simp, fun j o _ e => get_app e, fun _ h => .inl h, rfl⟩
theorem Fra.set {S : Store} {a : At} {l : Nat} {o : Ob} (h : l ∈ a.all) : Fra S (S.set l o) a a := ⟨by simp, fun j u hj e => by
  rw [List.getElem?_set_ne (fun z => hj (by rw [← z]; exact h))]; exact e, fun _ h => .inl h, rfl⟩
end DM

namespace DM
open PySem PySem.Spec PyProof.Rows L2
/-! ### what goes -/
structure KN (dk : Dk) : Prop where
  ks : ∀ nm ∈ dk.keys, 1 ≤ nm.length ∧ nm.length ≤ 3
  kn : dk.keys.Nodup
  kc : dk.keys.length ≤ 100
structure KG (dk : Dk) : Prop extends KN dk where
  wc : dk.who.length ≤ 60
  wl : ∀ h ∈ dk.who, h.2.left.length ≤ 10000
  wn : (dk.who.map (·.1)).Nodup
  wt : ∀ h ∈ dk.who, ∀ lt ∈ h.2.left, lt.2.length ≤ 3
/-- less is there, all else as it was; what isn't under nm stays -/
structure Goes (nm : Nm) (dk dk' : Dk) : Prop where
  plugged : dk'.plugged = dk.plugged
  marks : dk'.marks = dk.marks
  fresh : dk'.fresh = dk.fresh
  log : dk'.log = dk.log
  who : ∃ f : Int × HpS → Int × HpS, dk'.who = dk.who.map f ∧ ∀ h, (f h).1 = h.1 ∧ (f h).2.claims = h.2.claims ∧ (f h).2.room = h.2.room ∧ (f h).2.left.Sublist h.2.left
  sub : dk'.states.Sublist dk.states
  keep : ∀ p ∈ dk.states, ¬ nm <+: p.1 → p ∈ dk'.states
theorem Goes.refl (nm : Nm) (dk : Dk) : Goes nm dk dk := ⟨rfl, rfl, rfl, rfl, ⟨id, by simp, fun h => ⟨rfl, rfl, rfl, List.Sublist.refl _⟩⟩, List.Sublist.refl _, fun p h _ => h⟩
theorem Goes.trans {nm : Nm} {a b c : Dk} (h : Goes nm a b) (g : Goes nm b c) : Goes nm a c := by
  obtain ⟨f, f1, f2⟩ := h.who
  obtain ⟨k, k1, k2⟩ := g.who
  refine ⟨g.plugged.trans h.plugged, g.marks.trans h.marks, g.fresh.trans h.fresh, g.log.trans h.log, ⟨k ∘ f, by rw [k1, f1, List.map_map], fun x => ?_⟩, g.sub.trans h.sub, fun p hp hn => g.keep p (h.keep p hp hn) hn⟩
  obtain ⟨a1, a2, a3, a4⟩ := f2 x
  obtain ⟨b1, b2, b3, b4⟩ := k2 (f x)
  exact ⟨b1.trans a1, b2.trans a2, b3.trans a3, b4.trans a4⟩
theorem Goes.up {nm n2 : Nm} {a b : Dk} (h : Goes n2 a b) (p : nm <+: n2) : Goes nm a b := ⟨h.plugged, h.marks, h.fresh, h.log, h.who, h.sub, fun q hq hn => h.keep q hq fun z => hn (p.trans z)⟩
theorem Goes.keysub {nm : Nm} {a b : Dk} (h : Goes nm a b) : b.keys.Sublist a.keys := h.sub.map _
theorem Goes.keepk {nm x : Nm} {a b : Dk} (h : Goes nm a b) (hx : x ∈ a.keys) (hn : ¬ nm <+: x) : x ∈ b.keys := by
  obtain ⟨p, hp, rfl⟩ := List.mem_map.mp hx
  exact List.mem_map.mpr ⟨p, h.keep p hp hn, rfl⟩
theorem Goes.kN {nm : Nm} {a b : Dk} (h : Goes nm a b) (w : KN a) : KN b := ⟨fun x hx => w.ks x (h.keysub.subset hx), w.kn.sublist h.keysub, Nat.le_trans h.keysub.length_le w.kc⟩
theorem Goes.wk {nm : Nm} {a b : Dk} (h : Goes nm a b) : b.who.map (·.1) = a.who.map (·.1) := by
  obtain ⟨f, f1, f2⟩ := h.who
  rw [f1, List.map_map]
  exact List.map_congr_left fun x _ => (f2 x).1
theorem Goes.kg {nm : Nm} {a b : Dk} (h : Goes nm a b) (w : KG a) : KG b := by
  obtain ⟨f, f1, f2⟩ := h.who
  refine ⟨h.kN w.toKN, by rw [f1, List.length_map]; exact w.wc, fun x hx => ?_, by rw [h.wk]; exact w.wn, fun x hx lt hlt => ?_⟩
  · rw [f1] at hx
    obtain ⟨y, hy, rfl⟩ := List.mem_map.mp hx
    exact Nat.le_trans (f2 y).2.2.2.length_le (w.wl y hy)
  · rw [f1] at hx
    obtain ⟨y, hy, rfl⟩ := List.mem_map.mp hx
    exact w.wt y hy lt ((f2 y).2.2.2.subset hlt)
theorem dropT_sub {κ β : Type} [DecidableEq κ] (kvs : List (κ × β)) (k : κ) : (dropT kvs k).Sublist kvs := List.filter_sublist
theorem goes_pop (dk : Dk) (nm : Nm) : Goes nm dk (dk.popS nm) := ⟨rfl, rfl, rfl, rfl, ⟨_, rfl, fun h => ⟨rfl, rfl, rfl, List.filter_sublist⟩⟩, dropT_sub _ _, fun p hp hn => List.mem_filter.mpr ⟨hp, by
  have : p.1 ≠ nm := fun z => hn (by rw [z]; exact List.prefix_refl _)
  simpa using this⟩⟩
theorem mem_inner {dk : Dk} {nm x : Nm} : x ∈ dk.inner nm ↔ x ∈ dk.keys ∧ x.dropLast = nm := by
  unfold Dk.inner sortN
  rw [List.mem_filter, List.mem_mergeSort, decide_eq_true_eq]
theorem pre_of_last {x nm : Nm} (h : x.dropLast = nm) : nm <+: x := by rw [← h]; exact List.dropLast_prefix x
theorem goes_fold {nm : Nm} {f : Dk → Nm → Dk} (hf : ∀ d one, nm <+: one → Goes nm d (f d one)) : ∀ (l : List Nm) (dk : Dk), (∀ one ∈ l, nm <+: one) → Goes nm dk (l.foldl f dk)
  | [], dk, _ => Goes.refl nm dk
  | one :: l, dk, h => (hf dk one (h one List.mem_cons_self)).trans (goes_fold hf l (f dk one) fun y hy => h y (List.mem_cons_of_mem _ hy))
theorem goes_gone : ∀ (n : Nat) (dk : Dk) (nm : Nm), Goes nm dk (dk.gone n nm)
  | 0, dk, nm => Goes.refl nm dk
  | n + 1, dk, nm => by
    rw [Dk.gone_succ]
    refine (goes_fold (fun d one h => (goes_gone n d one).up h) _ dk fun one h => pre_of_last (mem_inner.mp h).2).trans (goes_pop _ nm)
theorem goes_inner (n : Nat) (dk : Dk) (nm : Nm) : Goes nm dk (dk.innerGone n nm) := goes_fold (fun d one h => (goes_gone n d one).up h) _ dk fun one h => pre_of_last (mem_inner.mp h).2
theorem inner_len {dk : Dk} (w : KN dk) {nm x : Nm} (h : x ∈ dk.inner nm) : x.length = nm.length + 1 ∧ x.length ≤ 3 := by
  obtain ⟨h1, h2⟩ := mem_inner.mp h
  have := w.ks x h1
  have e : x.dropLast.length = x.length - 1 := List.length_dropLast
  rw [h2] at e
  omega
theorem inner_nd {dk : Dk} (w : KN dk) (nm : Nm) : (dk.inner nm).Nodup := by
  unfold Dk.inner sortN
  exact ((List.mergeSort_perm _ _).nodup_iff.mpr w.kn).sublist List.filter_sublist
/-- two of one length: the one isn't within the other -/
theorem not_pre {x y : Nm} (h : x.length = y.length) (hn : x ≠ y) : ¬ x <+: y := fun z => hn (z.eq_of_length h)
end DM

namespace DM
open PySem PySem.Spec PyProof.Rows L2
/-! ### a desk written at -/
theorem At.nds {a : At} (h : a.all.Nodup) : a.fix.Nodup ∧ a.hps.Nodup ∧ ∀ x ∈ a.fix, ∀ y ∈ a.hps, x ≠ y := List.nodup_append.mp h
theorem At.mem_hps {a : At} {i : Nat} {p : Nat × Nat} (h : a.hp[i]? = some p) : p.1 ∈ a.hps ∧ p.2 ∈ a.hps := by
  have hm := List.mem_of_getElem? h
  exact ⟨List.mem_flatMap.mpr ⟨p, hm, by simp⟩, List.mem_flatMap.mpr ⟨p, hm, by simp⟩⟩
theorem At.fix_all {a : At} {j : Nat} (h : j ∈ a.fix) : j ∈ a.all := List.mem_append_left _ h
theorem At.hps_all {a : At} {j : Nat} (h : j ∈ a.hps) : j ∈ a.all := List.mem_append_right _ h
section
variable {CD CH : Addr} {S : Store} {a : At} {dk : Dk}
/-- a fixed place is written: what else there is stands -/
theorem DeskAt.fixn (H : DeskAt CD CH S a dk) {l : Nat} (hl : l ∈ a.fix) {o : Ob} : (∀ j ∈ a.fix, j ≠ l → (S.set l o)[j]? = S[j]?) ∧ (S.set l o)[l]? = some o ∧ (∀ (i : Nat) (p : Nat × Nat), a.hp[i]? = some p → (S.set l o)[p.1]? = S[p.1]? ∧ (S.set l o)[p.2]? = S[p.2]?) := by
  have lt := H.lt l (At.fix_all hl)
  obtain ⟨_, _, d⟩ := At.nds H.nd
  refine ⟨fun j hj hn => List.getElem?_set_ne (fun z => hn z.symm), List.getElem?_set_self lt, fun i p hp => ?_⟩
  obtain ⟨h1, h2⟩ := At.mem_hps hp
  exact ⟨List.getElem?_set_ne (d l hl p.1 h1), List.getElem?_set_ne (d l hl p.2 h2)⟩
theorem DeskAt.fne (H : DeskAt CD CH S a dk) : a.l ≠ a.lp ∧ a.l ≠ a.lm ∧ a.l ≠ a.lw ∧ a.l ≠ a.ls ∧ a.l ≠ a.lf ∧ a.l ≠ a.lg ∧ a.lp ≠ a.lm ∧ a.lp ≠ a.lw ∧ a.lp ≠ a.ls ∧ a.lp ≠ a.lf ∧ a.lp ≠ a.lg ∧ a.lm ≠ a.lw ∧ a.lm ≠ a.ls ∧ a.lm ≠ a.lf ∧ a.lm ≠ a.lg ∧ a.lw ≠ a.ls ∧ a.lw ≠ a.lf ∧ a.lw ≠ a.lg ∧ a.ls ≠ a.lf ∧ a.ls ≠ a.lg ∧ a.lf ≠ a.lg := by
  have d := (At.nds H.nd).1
  unfold At.fix at d
  simp only [List.nodup_cons, List.mem_cons, List.not_mem_nil, or_false, not_or] at d
  obtain ⟨⟨a1, a2, a3, a4, a5, a6⟩, ⟨b1, b2, b3, b4, b5⟩, ⟨c1, c2, c3, c4⟩, ⟨d1, d2, d3⟩, ⟨e1, e2⟩, f1, _⟩ := d
  exact ⟨a1, a2, a3, a4, a5, a6, b1, b2, b3, b4, b5, c1, c2, c3, c4, d1, d2, d3, e1, e2, f1⟩
structure SelfAt (CD : Addr) (S : Store) (l : Nat) (a : At) : Prop where
  self : S[l]? = some (.ins CD (deskFs a))
theorem DeskAt.at (H : DeskAt CD CH S a dk) {l : Nat} (e : a.l = l) : SelfAt CD S l a := ⟨by rw [← e]; exact H.self⟩
theorem Fra.ls {S S' : Store} {a a' : At} (F : Fra S S' a a') : a'.l = a.l ∧ a'.lp = a.lp ∧ a'.lm = a.lm ∧ a'.lw = a.lw ∧ a'.ls = a.ls ∧ a'.lf = a.lf ∧ a'.lg = a.lg := by
  have := F.fix
  simp only [At.fix, List.cons.injEq] at this
  obtain ⟨h1, h2, h3, h4, h5, h6, h7, _⟩ := this
  exact ⟨h1, h2, h3, h4, h5, h6, h7⟩
theorem DeskAt.setS (H : DeskAt CD CH S a dk) (st : Sts) : DeskAt CD CH (S.set a.ls (.dT (mapT kN saD st))) a { dk with states := st } := by
  obtain ⟨f, s, g⟩ := H.fixn (l := a.ls) (by simp [At.fix]) (o := .dT (mapT kN saD st))
  obtain ⟨a1, a2, a3, a4, a5, a6, b1, b2, b3, b4, b5, c1, c2, c3, c4, d1, d2, d3, e1, e2, f1⟩ := H.fne
  refine ⟨?_, ?_, ?_, ?_, s, ?_, ?_, H.hlen, fun i h p h1 h2 => ?_, H.nd⟩
  · rw [f _ (by simp [At.fix]) a4]; exact H.self
  · rw [f _ (by simp [At.fix]) b3]; exact H.plugged
  · rw [f _ (by simp [At.fix]) c2]; exact H.marks
  · rw [f _ (by simp [At.fix]) d1]; exact H.who
  · rw [f _ (by simp [At.fix]) (Ne.symm e1)]; exact H.fresh
  · rw [f _ (by simp [At.fix]) (Ne.symm e2)]; exact H.log
  · rw [(g i p h2).1, (g i p h2).2]; exact H.help i h p h1 h2
theorem DeskAt.setP (H : DeskAt CD CH S a dk) (st : List (Int × Th)) : DeskAt CD CH (S.set a.lp (.dK (mapT kI eT st))) a { dk with plugged := st } := by
  obtain ⟨f, s, g⟩ := H.fixn (l := a.lp) (by simp [At.fix]) (o := .dK (mapT kI eT st))
  obtain ⟨a1, a2, a3, a4, a5, a6, b1, b2, b3, b4, b5, c1, c2, c3, c4, d1, d2, d3, e1, e2, f1⟩ := H.fne
  refine ⟨?_, s, ?_, ?_, ?_, ?_, ?_, H.hlen, fun i h p h1 h2 => ?_, H.nd⟩
  · rw [f _ (by simp [At.fix]) a1]; exact H.self
  · rw [f _ (by simp [At.fix]) (Ne.symm b1)]; exact H.marks
  · rw [f _ (by simp [At.fix]) (Ne.symm b2)]; exact H.who
  · rw [f _ (by simp [At.fix]) (Ne.symm b3)]; exact H.states
  · rw [f _ (by simp [At.fix]) (Ne.symm b4)]; exact H.fresh
  · rw [f _ (by simp [At.fix]) (Ne.symm b5)]; exact H.log
  · rw [(g i p h2).1, (g i p h2).2]; exact H.help i h p h1 h2
theorem DeskAt.setM (H : DeskAt CD CH S a dk) (st : List (Nm × List Int)) : DeskAt CD CH (S.set a.lm (dMk st)) a { dk with marks := st } := by
  obtain ⟨f, s, g⟩ := H.fixn (l := a.lm) (by simp [At.fix]) (o := dMk st)
  obtain ⟨a1, a2, a3, a4, a5, a6, b1, b2, b3, b4, b5, c1, c2, c3, c4, d1, d2, d3, e1, e2, f1⟩ := H.fne
  refine ⟨?_, ?_, s, ?_, ?_, ?_, ?_, H.hlen, fun i h p h1 h2 => ?_, H.nd⟩
  · rw [f _ (by simp [At.fix]) a2]; exact H.self
  · rw [f _ (by simp [At.fix]) b1]; exact H.plugged
  · rw [f _ (by simp [At.fix]) (Ne.symm c1)]; exact H.who
  · rw [f _ (by simp [At.fix]) (Ne.symm c2)]; exact H.states
  · rw [f _ (by simp [At.fix]) (Ne.symm c3)]; exact H.fresh
  · rw [f _ (by simp [At.fix]) (Ne.symm c4)]; exact H.log
  · rw [(g i p h2).1, (g i p h2).2]; exact H.help i h p h1 h2
theorem DeskAt.setF (H : DeskAt CD CH S a dk) (x : Int × Int) : DeskAt CD CH (S.set a.lf (.lst [.int x.1, .int x.2])) a { dk with fresh := x } := by
  obtain ⟨f, s, g⟩ := H.fixn (l := a.lf) (by simp [At.fix]) (o := .lst [.int x.1, .int x.2])
  obtain ⟨a1, a2, a3, a4, a5, a6, b1, b2, b3, b4, b5, c1, c2, c3, c4, d1, d2, d3, e1, e2, f1⟩ := H.fne
  refine ⟨?_, ?_, ?_, ?_, ?_, s, ?_, H.hlen, fun i h p h1 h2 => ?_, H.nd⟩
  · rw [f _ (by simp [At.fix]) a5]; exact H.self
  · rw [f _ (by simp [At.fix]) b4]; exact H.plugged
  · rw [f _ (by simp [At.fix]) c3]; exact H.marks
  · rw [f _ (by simp [At.fix]) d2]; exact H.who
  · rw [f _ (by simp [At.fix]) e1]; exact H.states
  · rw [f _ (by simp [At.fix]) (Ne.symm f1)]; exact H.log
  · rw [(g i p h2).1, (g i p h2).2]; exact H.help i h p h1 h2
theorem DeskAt.setG (H : DeskAt CD CH S a dk) (l : List En) : DeskAt CD CH (S.set a.lg (.lst (l.map enD))) a { dk with log := l } := by
  obtain ⟨f, s, g⟩ := H.fixn (l := a.lg) (by simp [At.fix]) (o := .lst (l.map enD))
  obtain ⟨a1, a2, a3, a4, a5, a6, b1, b2, b3, b4, b5, c1, c2, c3, c4, d1, d2, d3, e1, e2, f1⟩ := H.fne
  refine ⟨?_, ?_, ?_, ?_, ?_, ?_, s, H.hlen, fun i h p h1 h2 => ?_, H.nd⟩
  · rw [f _ (by simp [At.fix]) a6]; exact H.self
  · rw [f _ (by simp [At.fix]) b5]; exact H.plugged
  · rw [f _ (by simp [At.fix]) c4]; exact H.marks
  · rw [f _ (by simp [At.fix]) d3]; exact H.who
  · rw [f _ (by simp [At.fix]) e2]; exact H.states
  · rw [f _ (by simp [At.fix]) f1]; exact H.fresh
  · rw [(g i p h2).1, (g i p h2).2]; exact H.help i h p h1 h2
theorem Fra.setF {l : Nat} {o : Ob} (h : l ∈ a.fix) : Fra S (S.set l o) a a := Fra.set (At.fix_all h)
/-- two helpers' places differ -/
theorem At.hp_ne {a : At} (nd : a.all.Nodup) {i j : Nat} {p q : Nat × Nat} (hp : a.hp[i]? = some p) (hq : a.hp[j]? = some q) : p.1 ≠ p.2 ∧ p.1 ≠ q.2 ∧ (i ≠ j → p.1 ≠ q.1 ∧ p.2 ≠ q.2) := by
  have d := (At.nds nd).2.1
  unfold At.hps at d
  have gen : ∀ (l : List (Nat × Nat)), (l.flatMap fun p => [p.1, p.2]).Nodup → ∀ (i j : Nat) (p q : Nat × Nat), l[i]? = some p → l[j]? = some q → p.1 ≠ p.2 ∧ p.1 ≠ q.2 ∧ (i ≠ j → p.1 ≠ q.1 ∧ p.2 ≠ q.2) := by
    intro l
    induction l with
    | nil => intro _ i j p q h; simp at h
    | cons x l ih =>
      intro d i j p q h1 h2
      have d' : (x.1 :: x.2 :: (l.flatMap fun p => [p.1, p.2])).Nodup := by simpa using d
      simp only [List.nodup_cons, List.mem_cons, not_or] at d'
      obtain ⟨⟨n1, n2⟩, n3, n4⟩ := d'
      have mem : ∀ (k : Nat) (r : Nat × Nat), l[k]? = some r → r.1 ∈ (l.flatMap fun p => [p.1, p.2]) ∧ r.2 ∈ (l.flatMap fun p => [p.1, p.2]) := fun k r h => by
        have hm := List.mem_of_getElem? h
        exact ⟨List.mem_flatMap.mpr ⟨r, hm, by simp⟩, List.mem_flatMap.mpr ⟨r, hm, by simp⟩⟩
      cases i with
      | zero =>
        have e1 : x = p := by simpa using h1
        subst e1
        cases j with
        | zero =>
          have e2 : x = q := by simpa using h2
          subst e2
          exact ⟨n1, n1, fun z => absurd rfl z⟩
        | succ j =>
          obtain ⟨m1, m2⟩ := mem j q (by simpa using h2)
          exact ⟨n1, fun z => n2 (by rw [z]; exact m2), fun _ => ⟨fun z => n2 (by rw [z]; exact m1), fun z => n3 (by rw [z]; exact m2)⟩⟩
      | succ i =>
        have h1' : l[i]? = some p := by simpa using h1
        obtain ⟨m1, m2⟩ := mem i p h1'
        cases j with
        | zero =>
          have e2 : x = q := by simpa using h2
          subst e2
          exact ⟨(ih n4 i i p p h1' h1').1, fun z => n3 (by rw [← z]; exact m1), fun _ => ⟨fun z => n2 (by rw [← z]; exact m1), fun z => n3 (by rw [← z]; exact m2)⟩⟩
        | succ j =>
          obtain ⟨r1, r2, r3⟩ := ih n4 i j p q h1' (by simpa using h2)
          exact ⟨r1, r2, fun z => r3 (fun y => z (by rw [y]))⟩
  exact gen a.hp d i j p q hp hq
theorem whoOb_zip (dk : Dk) (a : At) : whoOb dk a = .dK (((dk.who.map (·.1)).zip (a.hp.map (·.1))).map fun x => (kI x.1, .loc x.2)) := by
  unfold whoOb
  congr 1
  generalize dk.who = l
  generalize a.hp = m
  induction l generalizing m with
  | nil => rfl
  | cons x l ih =>
    cases m with
    | nil => rfl
    | cons y m => exact congrArg (List.cons (kI x.1, D.loc y.1)) (ih m)
theorem set_map_same {α β : Type} {g : α → β} {l : List α} {i : Nat} {x y : α} (h : l[i]? = some y) (e : g x = g y) : (l.set i x).map g = l.map g := by
  apply List.ext_getElem?
  intro j
  rw [List.getElem?_map, List.getElem?_map]
  by_cases hj : i = j
  · subst hj
    rw [List.getElem?_set_self (List.getElem?_eq_some_iff.mp h).1, h]
    show some (g x) = some (g y)
    rw [e]
  · rw [List.getElem?_set_ne hj]
/-- a helper's row in place -/
theorem DeskAt.setL (H : DeskAt CD CH S a dk) {i : Nat} {h : Int × HpS} {p : Nat × Nat} (hi : dk.who[i]? = some h) (hp : a.hp[i]? = some p) (l : List Lt) : DeskAt CD CH (S.set p.2 (.lst (l.map ltD))) a { dk with who := dk.who.set i (h.1, { h.2 with left := l }) } := by
  obtain ⟨m1, m2⟩ := At.mem_hps hp
  obtain ⟨_, _, d⟩ := At.nds H.nd
  have f : ∀ j ∈ a.fix, (S.set p.2 (Ob.lst (l.map ltD)))[j]? = S[j]? := fun j hj => List.getElem?_set_ne (fun z => d j hj p.2 m2 z.symm)
  have il := (List.getElem?_eq_some_iff.mp hi).1
  refine ⟨?_, ?_, ?_, ?_, ?_, ?_, ?_, by rw [List.length_set]; exact H.hlen, fun j x q h1 h2 => ?_, H.nd⟩
  · rw [f _ (by simp [At.fix])]; exact H.self
  · rw [f _ (by simp [At.fix])]; exact H.plugged
  · rw [f _ (by simp [At.fix])]; exact H.marks
  · rw [f _ (by simp [At.fix]), H.who, whoOb_zip, whoOb_zip]
    show _ = some (Ob.dK ((((dk.who.set i (h.1, { h.2 with left := l })).map (·.1)).zip (a.hp.map (·.1))).map fun x => (kI x.1, .loc x.2)))
    rw [set_map_same (g := fun x : Int × HpS => x.1) (x := (h.1, { h.2 with left := l })) hi rfl]
  · rw [f _ (by simp [At.fix])]; exact H.states
  · rw [f _ (by simp [At.fix])]; exact H.fresh
  · rw [f _ (by simp [At.fix])]; exact H.log
  · by_cases hj : i = j
    · subst hj
      rw [hp] at h2; cases h2
      have h1 : (dk.who.set i (h.1, { h.2 with left := l }))[i]? = some x := h1
      rw [List.getElem?_set_self il] at h1; cases h1
      obtain ⟨n1, _, _⟩ := At.hp_ne H.nd hp hp
      obtain ⟨q1, q2⟩ := H.help i h p hi hp
      refine ⟨?_, List.getElem?_set_self (List.getElem?_eq_some_iff.mp q2).1⟩
      rw [List.getElem?_set_ne (Ne.symm n1)]; exact q1
    · have h1 : (dk.who.set i (h.1, { h.2 with left := l }))[j]? = some x := h1
      rw [List.getElem?_set_ne hj] at h1
      obtain ⟨_, n2, _⟩ := At.hp_ne H.nd h2 hp
      obtain ⟨_, _, n3⟩ := At.hp_ne H.nd hp h2
      obtain ⟨q1, q2⟩ := H.help j x q h1 h2
      rw [List.getElem?_set_ne (Ne.symm n2), List.getElem?_set_ne (n3 hj).2]
      exact ⟨q1, q2⟩
/-- a helper's row made anew -/
theorem DeskAt.newL (H : DeskAt CD CH S a dk) {i : Nat} {h : Int × HpS} {p : Nat × Nat} (hi : dk.who[i]? = some h) (hp : a.hp[i]? = some p) (l : List Lt) {n : Nat} (hn : S.length ≤ n) {S' : Store} (k : ∀ j ∈ a.all, j ≠ p.1 → S'[j]? = S[j]?) (h1 : S'[p.1]? = some (.ins CH (helpFs { h.2 with left := l } (p.1, n)))) (h2 : S'[n]? = some (.lst (l.map ltD))) :
    DeskAt CD CH S' { a with hp := a.hp.set i (p.1, n) } { dk with who := dk.who.set i (h.1, { h.2 with left := l }) } := by
  obtain ⟨m1, m2⟩ := At.mem_hps hp
  obtain ⟨dF, dH, d⟩ := At.nds H.nd
  have f : ∀ j ∈ a.fix, S'[j]? = S[j]? := fun j hj => k j (At.fix_all hj) (d j hj p.1 m1)
  have il := (List.getElem?_eq_some_iff.mp hi).1
  have pl := (List.getElem?_eq_some_iff.mp hp).1
  refine ⟨?_, ?_, ?_, ?_, ?_, ?_, ?_, by simp [H.hlen], fun j x q e1 e2 => ?_, ?_⟩
  · rw [f _ (by simp [At.fix])]; exact H.self
  · rw [f _ (by simp [At.fix])]; exact H.plugged
  · rw [f _ (by simp [At.fix])]; exact H.marks
  · rw [f _ (by simp [At.fix]), H.who, whoOb_zip, whoOb_zip]
    show _ = some (Ob.dK ((((dk.who.set i (h.1, { h.2 with left := l })).map (·.1)).zip ((a.hp.set i (p.1, n)).map (·.1))).map fun x => (kI x.1, .loc x.2)))
    rw [set_map_same (g := fun x : Int × HpS => x.1) (x := (h.1, { h.2 with left := l })) hi rfl, set_map_same (g := fun x : Nat × Nat => x.1) (x := (p.1, n)) hp rfl]
  · rw [f _ (by simp [At.fix])]; exact H.states
  · rw [f _ (by simp [At.fix])]; exact H.fresh
  · rw [f _ (by simp [At.fix])]; exact H.log
  · have e1 : (dk.who.set i (h.1, { h.2 with left := l }))[j]? = some x := e1
    have e2 : (a.hp.set i (p.1, n))[j]? = some q := e2
    by_cases hj : i = j
    · subst hj
      rw [List.getElem?_set_self il] at e1; cases e1
      rw [List.getElem?_set_self pl] at e2; cases e2
      exact ⟨h1, h2⟩
    · rw [List.getElem?_set_ne hj] at e1 e2
      obtain ⟨_, n2, _⟩ := At.hp_ne H.nd hp e2
      obtain ⟨_, _, n3⟩ := At.hp_ne H.nd hp e2
      obtain ⟨q1, q2⟩ := H.help j x q e1 e2
      obtain ⟨mm1, mm2⟩ := At.mem_hps e2
      rw [k q.1 (At.hps_all mm1) (Ne.symm (n3 hj).1), k q.2 (At.hps_all mm2) (Ne.symm n2)]
      exact ⟨q1, q2⟩
  · -- the places still differ
    have lt := H.lt
    have gen : ∀ (hl : List (Nat × Nat)) (i : Nat) (p : Nat × Nat), (hl.flatMap fun p => [p.1, p.2]).Nodup → (∀ y ∈ hl.flatMap (fun p => [p.1, p.2]), y < S.length) → hl[i]? = some p → ((hl.set i (p.1, n)).flatMap fun p => [p.1, p.2]).Nodup ∧ ∀ y ∈ (hl.set i (p.1, n)).flatMap (fun p => [p.1, p.2]), y = n ∨ y ∈ hl.flatMap fun p => [p.1, p.2] := by
      intro hl
      induction hl with
      | nil => intro i p _ _ h; simp at h
      | cons x hl ih =>
        intro i p nd lt h
        have nd' : (x.1 :: x.2 :: (hl.flatMap fun p => [p.1, p.2])).Nodup := by simpa using nd
        simp only [List.nodup_cons, List.mem_cons, not_or] at nd'
        obtain ⟨⟨n1, n2⟩, n3, n4⟩ := nd'
        have lx1 := lt x.1 (by simp)
        have lx2 := lt x.2 (by simp)
        have ltl : ∀ y ∈ hl.flatMap (fun p => [p.1, p.2]), y < S.length := fun y hy => lt y (by simp only [List.flatMap_cons]; exact List.mem_append_right _ hy)
        cases i with
        | zero =>
          have e : x = p := by simpa using h
          subst e
          refine ⟨?_, fun y hy => ?_⟩
          · show (x.1 :: n :: (hl.flatMap fun p => [p.1, p.2])).Nodup
            refine List.nodup_cons.mpr ⟨fun z => ?_, List.nodup_cons.mpr ⟨fun z => ?_, n4⟩⟩
            · rcases List.mem_cons.mp z with z | z
              · omega
              · exact n2 z
            · have := ltl n z; omega
          · have hy : y ∈ x.1 :: n :: (hl.flatMap fun p => [p.1, p.2]) := hy
            simp only [List.mem_cons] at hy
            rcases hy with rfl | rfl | hy
            · right; simp
            · left; rfl
            · right; simp only [List.flatMap_cons]; exact List.mem_append_right _ hy
        | succ i =>
          obtain ⟨i1, i2⟩ := ih i p n4 ltl (by simpa using h)
          refine ⟨?_, fun y hy => ?_⟩
          · show (x.1 :: x.2 :: ((hl.set i (p.1, n)).flatMap fun p => [p.1, p.2])).Nodup
            refine List.nodup_cons.mpr ⟨fun z => ?_, List.nodup_cons.mpr ⟨fun z => ?_, i1⟩⟩
            · rcases List.mem_cons.mp z with z | z
              · exact n1 z
              · rcases i2 _ z with z | z
                · omega
                · exact n2 z
            · rcases i2 _ z with z | z
              · omega
              · exact n3 z
          · have hy : y ∈ x.1 :: x.2 :: ((hl.set i (p.1, n)).flatMap fun p => [p.1, p.2]) := hy
            simp only [List.mem_cons] at hy
            rcases hy with rfl | rfl | hy
            · right; simp
            · right; simp
            · rcases i2 _ hy with z | z
              · left; exact z
              · right; simp only [List.flatMap_cons]; exact List.mem_append_right _ z
    obtain ⟨g1, g2⟩ := gen a.hp i p dH (fun y hy => lt y (At.hps_all hy)) hp
    refine List.nodup_append.mpr ⟨dF, g1, fun x hx y hy => ?_⟩
    rcases g2 y hy with z | z
    · have := lt x (At.fix_all hx); omega
    · exact d x hx y z
end
theorem set_here {S : Store} {l : Nat} {o : Ob} (h : S[l]? = some o) : S.set l o = S := by
  apply List.ext_getElem?
  intro j
  by_cases hj : l = j
  · subst hj; rw [List.getElem?_set_self (List.getElem?_eq_some_iff.mp h).1, h]
  · rw [List.getElem?_set_ne hj]
theorem WSs.bel {X : Cx} {n : Nat} {sts : List Stmt} {v : Fv} {S : Store} {E : Ed} (h : belS S.length S → WSs X n sts v S E) : WSs X n sts v S E := fun F0 H0 F t H E' hl p k re rs q => h rs.bel F0 H0 F t H E' hl p k re rs q
theorem WE.bel {X : Cx} {e : Expr} {v : Fv} {S : Store} {Q : D → Store → Prop} (h : belS S.length S → WE X e v S Q) : WE X e v S Q := fun F t H Q' re rs k => h rs.bel F t H Q' re rs k
theorem WT.bel {X : Cx} {e : Expr} {v : Fv} {S : Store} {Q : Bool → Store → Prop} (h : belS S.length S → WT X e v S Q) : WT X e v S Q := fun F t H Q' re rs k => h rs.bel F t H Q' re rs k
theorem who_items {who : List (Int × HpS)} {hp : List (Nat × Nat)} (h : hp.length = who.length) : ((who.zip hp).map fun x => (kI x.1.1, D.loc x.2.1)).map (fun kv => kdD kv.1) = who.map fun h => D.int h.1 := by
  induction who generalizing hp with
  | nil => rfl
  | cons x l ih =>
    cases hp with
    | nil => simp at h
    | cons y m => exact congrArg (List.cons (D.int x.1)) (ih (by simpa using h))
end DM

namespace DM
open PySem PySem.Spec PyProof.Rows L2
/-! ### what holds of a desk at every step -/
structure DW (dk : Dk) : Prop extends KG dk where
  km : ∀ nm ∈ dk.keys, nm ∈ dk.marks.map (·.1)
  mo : ∀ p ∈ dk.marks, OkM 0 p.2
  cl : ∀ nm ∈ dk.keys, nm.length ≠ 1 → nm.dropLast ∈ dk.keys
  sw : ∀ p ∈ dk.states, ∀ h, p.2.2 = some h → h ∈ dk.who.map (·.1)
  sh : ∀ p ∈ dk.states, p.2.1 ≠ .free → p.2.2 ≠ none
  ho : ∀ h ∈ dk.who, OkCs h.2.claims ∧ 0 ≤ h.2.room ∧ h.2.room ≤ 4
  wb : ∀ h ∈ dk.who, 0 ≤ h.1 ∧ h.1 ≤ 999
theorem whoMod_set {dk : Dk} (nd : (dk.who.map (·.1)).Nodup) {i : Nat} {x : Int × HpS} (hi : dk.who[i]? = some x) (f : HpS → HpS) : dk.whoMod x.1 f = { dk with who := dk.who.set i (x.1, f x.2) } := by
  unfold Dk.whoMod
  have : (dk.who.map fun p => if p.1 = x.1 then (p.1, f p.2) else p) = dk.who.set i (x.1, f x.2) := by
    apply List.ext_getElem?
    intro j
    rw [List.getElem?_map]
    by_cases hj : i = j
    · subst hj
      rw [List.getElem?_set_self (List.getElem?_eq_some_iff.mp hi).1, hi]
      show some (if x.1 = x.1 then _ else _) = _
      rw [if_pos rfl]
    · rw [List.getElem?_set_ne hj]
      cases e : dk.who[j]? with
      | none => rfl
      | some y =>
        show some (if y.1 = x.1 then _ else y) = some y
        rw [if_neg fun z => ?_]
        have h1 : (dk.who.map (·.1))[i]? = some x.1 := by rw [List.getElem?_map, hi]; rfl
        have h2 : (dk.who.map (·.1))[j]? = some x.1 := by rw [List.getElem?_map, e]; exact congrArg some z
        obtain ⟨l1, v1⟩ := List.getElem?_eq_some_iff.mp h1
        obtain ⟨l2, v2⟩ := List.getElem?_eq_some_iff.mp h2
        exact hj ((List.getElem_inj nd).mp (v1.trans v2.symm))
  rw [this]
theorem who_at {dk : Dk} {h : Int} (m : h ∈ dk.who.map (·.1)) : ∃ (i : Nat) (x : Int × HpS), dk.who[i]? = some x ∧ x.1 = h := by
  obtain ⟨x, hx, rfl⟩ := List.mem_map.mp m
  obtain ⟨i, hi, e⟩ := List.mem_iff_getElem.mp hx
  exact ⟨i, x, by rw [List.getElem?_eq_getElem hi, e], rfl⟩
theorem whoD_at {dk : Dk} (nd : (dk.who.map (·.1)).Nodup) {i : Nat} {x : Int × HpS} (hi : dk.who[i]? = some x) : dk.whoD x.1 = x.2 := by
  unfold Dk.whoD
  rw [getT_nd nd (List.mem_of_getElem? hi)]; rfl
theorem stOf_some {dk : Dk} {nm : Nm} {s : Sta × Option Int} (h : getT dk.states nm = some s) : dk.stOf nm = s := by unfold Dk.stOf; rw [h]; rfl
end DM

namespace DM
open PySem PySem.Spec PyProof.Rows L2
theorem zip_fst {who : List (Int × HpS)} {hp : List (Nat × Nat)} (h : hp.length = who.length) : ((who.zip hp).map fun x => (x.1.1, D.loc x.2.1)).map (·.1) = who.map (·.1) := by
  induction who generalizing hp with
  | nil => rfl
  | cons x l ih =>
    cases hp with
    | nil => simp at h
    | cons y m => exact congrArg (List.cons x.1) (ih (by simpa using h))
theorem sortI_rise {l : List Int} (nd : l.Nodup) (h : ∀ x ∈ l, 0 ≤ x ∧ x ≤ 999) : Rise (-1) (sortI l) := by
  refine rise_of ?_ fun x hx => by have := h x ((sortI_perm l).mem_iff.mp hx); omega
  have h1 := sortI_sorted l
  have h2 : (sortI l).Nodup := (sortI_perm l).nodup_iff.mpr nd
  exact (h1.and h2).imp fun ⟨a, b⟩ => by omega
theorem DW.rows {dk : Dk} (d : DW dk) : OkHs dk.rows := by
  have nd := d.wn
  have mem : ∀ n ∈ sortI (dk.who.map (·.1)), ∃ x ∈ dk.who, x.1 = n ∧ dk.whoD n = x.2 := fun n hn => by
    obtain ⟨i, x, hi, rfl⟩ := who_at ((sortI_perm _).mem_iff.mp hn)
    exact ⟨x, List.mem_of_getElem? hi, rfl, whoD_at nd hi⟩
  refine ⟨?_, ?_, fun h hh => ?_⟩
  · unfold Dk.rows; rw [List.length_map, (sortI_perm _).length_eq, List.length_map]; have := d.wc; omega
  · have : dk.rows.map (·.1) = sortI (dk.who.map (·.1)) := by
      unfold Dk.rows; rw [List.map_map]; exact List.map_id _
    rw [this]
    refine sortI_rise nd fun x hx => ?_
    obtain ⟨y, hy, rfl⟩ := List.mem_map.mp hx
    exact d.wb y hy
  · obtain ⟨n, hn, rfl⟩ := List.mem_map.mp hh
    obtain ⟨x, hx, rfl, e⟩ := mem n hn
    show OkCs (dk.whoD x.1).claims ∧ 0 ≤ (dk.whoD x.1).room ∧ (dk.whoD x.1).room ≤ 4
    rw [e]; exact d.ho x hx
theorem there_sub {dk : Dk} {found : List (Nm × Int)} {len : Int} : ∀ nm ∈ dk.there found len, nm ∈ dk.keys := fun nm h => List.mem_mergeSort.mp (List.mem_filter.mp (List.mem_filter.mp h).1).1
theorem DW.pairs {dk : Dk} (d : DW dk) (found : List (Nm × Int)) (len : Int) : OkW ((dk.there found len).map fun nm => (nm, dk.mkOf nm)) := by
  refine ⟨?_, fun p hp => ?_⟩
  · rw [List.length_map]
    have h1 : (dk.there found len).length ≤ (sortN dk.keys).length := Nat.le_trans (List.length_filter_le _ _) (List.length_filter_le _ _)
    unfold sortN at h1
    rw [List.length_mergeSort] at h1
    have := d.kc
    omega
  · obtain ⟨nm, hnm, rfl⟩ := List.mem_map.mp hp
    have hk := there_sub nm hnm
    obtain ⟨k1, k2⟩ := d.ks nm hk
    refine ⟨k1, k2, ?_⟩
    obtain ⟨m, hm⟩ := getT_some (d.km nm hk)
    show OkM 0 (dk.mkOf nm)
    unfold Dk.mkOf
    rw [hm]
    exact d.mo _ (getT_mem hm)
end DM

namespace DM
open PySem PySem.Spec PyProof.Rows L2
theorem mem_putT {κ β : Type} [DecidableEq κ] {kvs : List (κ × β)} {k : κ} {v : β} {p : κ × β} (h : p ∈ putT kvs k v) : p ∈ kvs ∨ p = (k, v) := by
  unfold putT at h
  split at h
  · obtain ⟨q, hq, e⟩ := List.mem_map.mp h
    by_cases c : q.1 = k
    · rw [if_pos c] at e; right; rw [← e, c]
    · rw [if_neg c] at e; left; rw [← e]; exact hq
  · rcases List.mem_append.mp h with h | h
    · exact .inl h
    · exact .inr (by simpa using h)
theorem getT_in {κ β : Type} [DecidableEq κ] {kvs : List (κ × β)} {k : κ} {v : β} (h : getT kvs k = some v) : k ∈ kvs.map (·.1) := List.mem_map.mpr ⟨_, getT_mem h, rfl⟩
def Sta.of (b : Bool) : Sta := if b then .taking else .leaving
/-- letters and states agree -/
structure DL (dk : Dk) : Prop extends DW dk where
  l1 : ∀ h ∈ dk.who, ∀ lt ∈ h.2.left, getT dk.states lt.2 = some (Sta.of lt.1, some h.1)
  l2 : ∀ h ∈ dk.who, (h.2.left.map (·.2)).Nodup
theorem sub_len {α : Type} [DecidableEq α] : ∀ {l m : List α}, l.Nodup → (∀ x ∈ l, x ∈ m) → l.length ≤ m.length
  | [], _, _, _ => Nat.zero_le _
  | x :: l, m, nd, h => by
    rw [List.nodup_cons] at nd
    have hx := h x List.mem_cons_self
    have := sub_len (l := l) (m := m.erase x) nd.2 fun y hy => (List.mem_erase_of_ne (fun z => nd.1 (by rw [← z]; exact hy))).mpr (h y (List.mem_cons_of_mem _ hy))
    rw [List.length_erase_of_mem hx] at this
    have hm : 0 < m.length := List.length_pos_iff.mpr fun z => by rw [z] at hx; cases hx
    simp only [List.length_cons]; omega
theorem left_le {dk : Dk} (kc : dk.keys.length ≤ 100) {h : Int × HpS} (l1 : ∀ lt ∈ h.2.left, lt.2 ∈ dk.keys) (l2 : (h.2.left.map (·.2)).Nodup) : h.2.left.length ≤ 100 := by
  have := sub_len l2 (m := dk.keys) fun x hx => by
    obtain ⟨lt, hl, rfl⟩ := List.mem_map.mp hx
    exact l1 lt hl
  rw [List.length_map] at this
  omega
theorem putS_keys {dk : Dk} {nm : Nm} {s : Sta × Option Int} (h : nm ∈ dk.keys) : (dk.putS nm s).keys = dk.keys := by
  obtain ⟨v, hv⟩ := getT_some h
  exact putT_keys_mem _ _ _ (by rw [hv]; rfl)
theorem letter_keys {dk : Dk} {h : Int} {lt : Lt} {s : Sta} (hk : lt.2 ∈ dk.keys) : (dk.letter h lt s).keys = dk.keys := by
  obtain ⟨v, hv⟩ := getT_some hk
  have : (getT dk.states lt.2).isSome = true := by rw [hv]; rfl
  exact putT_keys_mem _ _ _ this
theorem letter_who (dk : Dk) (h : Int) (lt : Lt) (s : Sta) : (dk.letter h lt s).who = dk.who.map fun p => if p.1 = h then (p.1, { p.2 with left := p.2.left ++ [lt] }) else p := rfl
theorem DL.letter {dk : Dk} (d : DL dk) {h : Int} {lt : Lt} {s0 : Sta × Option Int} (hh : h ∈ dk.who.map (·.1)) (hs : getT dk.states lt.2 = some s0) (h0 : s0.1 = .free ∨ s0.1 = .held) : DL (dk.letter h lt (Sta.of lt.1)) := by
  have hk : lt.2 ∈ dk.keys := getT_in hs
  have ek := letter_keys (h := h) (s := Sta.of lt.1) hk
  have est : (dk.letter h lt (Sta.of lt.1)).states = putT dk.states lt.2 (Sta.of lt.1, some h) := rfl
  have ewn : (dk.letter h lt (Sta.of lt.1)).who.map (·.1) = dk.who.map (·.1) := by
    rw [letter_who, List.map_map]
    exact List.map_congr_left fun p _ => by show (if p.1 = h then _ else p).1 = p.1; split <;> rfl
  have wmem : ∀ x ∈ (dk.letter h lt (Sta.of lt.1)).who, ∃ y ∈ dk.who, x.1 = y.1 ∧ x.2.claims = y.2.claims ∧ x.2.room = y.2.room ∧ ((y.1 = h ∧ x.2.left = y.2.left ++ [lt]) ∨ (y.1 ≠ h ∧ x.2.left = y.2.left)) := fun x hx => by
    rw [letter_who] at hx
    obtain ⟨y, hy, rfl⟩ := List.mem_map.mp hx
    refine ⟨y, hy, ?_⟩
    by_cases c : y.1 = h
    · rw [if_pos c]; exact ⟨rfl, rfl, rfl, .inl ⟨c, rfl⟩⟩
    · rw [if_neg c]; exact ⟨rfl, rfl, rfl, .inr ⟨c, rfl⟩⟩
  have old : ∀ y ∈ dk.who, ∀ l ∈ y.2.left, l.2 ≠ lt.2 := fun y hy l hl z => by
    have := d.l1 y hy l hl
    rw [z, hs] at this
    have e := Option.some.inj this
    rw [e] at h0
    rcases h0 with h0 | h0 <;> (cases hb : l.1 <;> rw [hb] at h0 <;> cases h0)
  have L1 : ∀ x ∈ (dk.letter h lt (Sta.of lt.1)).who, ∀ l ∈ x.2.left, getT (dk.letter h lt (Sta.of lt.1)).states l.2 = some (Sta.of l.1, some x.1) := fun x hx l hl => by
    obtain ⟨y, hy, e1, _, _, c⟩ := wmem x hx
    rw [est, getT_put]
    have ol : l ∈ y.2.left → (if l.2 = lt.2 then some (Sta.of lt.1, some h) else getT dk.states l.2) = some (Sta.of l.1, some x.1) := fun hl => by
      rw [if_neg (old y hy l hl), e1]; exact d.l1 y hy l hl
    rcases c with ⟨c1, c2⟩ | ⟨c1, c2⟩
    · rw [c2] at hl
      rcases List.mem_append.mp hl with hl | hl
      · exact ol hl
      · have : l = lt := by simpa using hl
        subst this
        rw [if_pos rfl, e1, c1]
    · rw [c2] at hl; exact ol hl
  have L2 : ∀ x ∈ (dk.letter h lt (Sta.of lt.1)).who, (x.2.left.map (·.2)).Nodup := fun x hx => by
    obtain ⟨y, hy, _, _, _, c⟩ := wmem x hx
    rcases c with ⟨_, c2⟩ | ⟨_, c2⟩
    · rw [c2, List.map_append, List.nodup_append]
      refine ⟨d.l2 y hy, by simp, fun a ha b hb e => ?_⟩
      obtain ⟨l, hl, rfl⟩ := List.mem_map.mp ha
      have : b = lt.2 := by simpa using hb
      exact old y hy l hl (by rw [e, this])
    · rw [c2]; exact d.l2 y hy
  have kmem : ∀ x ∈ (dk.letter h lt (Sta.of lt.1)).who, ∀ l ∈ x.2.left, l.2 ∈ dk.keys := fun x hx l hl => by
    have := getT_in (L1 x hx l hl)
    rw [← ek]; exact this
  have kc := d.kc
  refine { ks := by rw [ek]; exact d.ks, kn := by rw [ek]; exact d.kn, kc := by rw [ek]; exact d.kc, wc := by have := congrArg List.length ewn; rw [List.length_map, List.length_map] at this; rw [this]; exact d.wc, wl := fun x hx => ?_, wn := by rw [ewn]; exact d.wn, wt := fun x hx l hl => (d.ks _ (kmem x hx l hl)).2, km := by rw [ek]; exact d.km, mo := d.mo, cl := by rw [ek]; exact d.cl, sw := ?_, sh := ?_, ho := fun x hx => ?_, wb := fun x hx => ?_, l1 := L1, l2 := L2 }
  · have := left_le (dk := dk) (h := x) kc (kmem x hx) (L2 x hx); omega
  · rw [ewn]
    intro p hp g hg
    rw [est] at hp
    rcases mem_putT hp with hp | rfl
    · exact d.sw p hp g hg
    · cases hg; exact hh
  · intro p hp hf
    rw [est] at hp
    rcases mem_putT hp with hp | rfl
    · exact d.sh p hp hf
    · intro z; cases z
  · obtain ⟨y, hy, _, e2, e3, _⟩ := wmem x hx
    rw [e2, e3]; exact d.ho y hy
  · obtain ⟨y, hy, e1, _⟩ := wmem x hx
    rw [e1]; exact d.wb y hy
theorem rooms_sub {hs : List He} {k : Int} (h : (getT (roomsOf hs) k).isSome = true) : k ∈ hs.map (·.1) := by
  have gen : ∀ (more kvs : List (Int × Int)), (getT (putAllT kvs more) k).isSome = true → (getT kvs k).isSome = true ∨ k ∈ more.map (·.1) := by
    intro more
    induction more with
    | nil => intro kvs h; exact .inl h
    | cons p more ih =>
      intro kvs h
      rcases ih (putT kvs p.1 p.2) h with h | h
      · rw [getT_put] at h
        by_cases c : k = p.1
        · right; rw [c]; simp
        · rw [if_neg c] at h; exact .inl h
      · right; rw [List.map_cons]; exact List.mem_cons_of_mem _ h
  rcases gen _ _ h with h | h
  · cases h
  · rw [List.map_map] at h; exact h
/-- a goal is a helper that is there -/
theorem had_who {ps : List (Nm × List Int)} {hs : List He} : ∀ p ∈ hadOf ps hs, p.2 ∈ hs.map (·.1) ∧ p.1 ∈ ps.map (·.1) := by
  have gen : ∀ (rows : List Row) (s : Had), (∀ r ∈ rows, r.2.2.1 ∈ hs.map (·.1) ∧ r.2.2.2 ∈ ps.map (·.1)) → (∀ p ∈ s.2, p.2 ∈ hs.map (·.1) ∧ p.1 ∈ ps.map (·.1)) → ∀ p ∈ (rows.foldl hadStep s).2, p.2 ∈ hs.map (·.1) ∧ p.1 ∈ ps.map (·.1) := by
    intro rows
    induction rows with
    | nil => intro s _ h; exact h
    | cons r rows ih =>
      intro s hr h
      refine ih _ (fun x hx => hr x (List.mem_cons_of_mem _ hx)) fun p hp => ?_
      unfold hadStep at hp
      split at hp
      · rcases mem_putT (show p ∈ putT s.2 r.2.2.2 r.2.2.1 from hp) with hp | rfl
        · exact h p hp
        · exact hr r List.mem_cons_self
      · exact h p hp
  refine gen _ _ (fun r hr => ?_) fun p hp => by cases hp
  obtain ⟨p, hp, x, hx, _, _, rfl⟩ := rows_of (List.mem_mergeSort.mp hr)
  exact ⟨List.mem_map.mpr ⟨x, hx, rfl⟩, List.mem_map.mpr ⟨p, hp, rfl⟩⟩
theorem rows_who (dk : Dk) : ∀ k ∈ dk.rows.map (·.1), k ∈ dk.who.map (·.1) := fun k hk => by
  unfold Dk.rows at hk
  rw [List.map_map] at hk
  obtain ⟨n, hn, rfl⟩ := List.mem_map.mp hk
  exact (sortI_perm _).mem_iff.mp hn
theorem goals_who (dk : Dk) {nm : Nm} {g : Int} (h : getT dk.goals nm = some g) : g ∈ dk.who.map (·.1) := rows_who dk _ (had_who _ (getT_mem h)).1
theorem thinkStep_ok {dk0 dk : Dk} (d : DL dk) (hw : dk.who.map (·.1) = dk0.who.map (·.1)) {nm : Nm} (hnm : nm ∈ dk.keys) : DL (Dk.thinkStep dk0.goals dk nm) ∧ (Dk.thinkStep dk0.goals dk nm).keys = dk.keys ∧ (Dk.thinkStep dk0.goals dk nm).who.map (·.1) = dk.who.map (·.1) ∧ (Dk.thinkStep dk0.goals dk nm).marks = dk.marks ∧ (Dk.thinkStep dk0.goals dk nm).plugged = dk.plugged ∧ (Dk.thinkStep dk0.goals dk nm).fresh = dk.fresh ∧ (Dk.thinkStep dk0.goals dk nm).log.length ≤ dk.log.length + 1 := by
  obtain ⟨st, hst⟩ := getT_some hnm
  have hs := stOf_some hst
  have same : DL dk ∧ dk.keys = dk.keys ∧ dk.who.map (·.1) = dk.who.map (·.1) ∧ dk.marks = dk.marks ∧ dk.plugged = dk.plugged ∧ dk.fresh = dk.fresh ∧ dk.log.length ≤ dk.log.length + 1 := ⟨d, rfl, rfl, rfl, rfl, rfl, by omega⟩
  have lw : ∀ h lt s, (dk.letter h lt s).who.map (·.1) = dk.who.map (·.1) := fun h lt s => by
    rw [letter_who, List.map_map]
    exact List.map_congr_left fun p _ => by show (if p.1 = h then _ else p).1 = p.1; split <;> rfl
  have ll : ∀ h lt s, (dk.letter h lt s).log.length ≤ dk.log.length + 1 := fun h lt s => by show (dk.log ++ [_]).length ≤ _; simp
  unfold Dk.thinkStep
  rw [hs]
  split
  · rename_i c
    split
    · have hp := getT_mem hst
      obtain ⟨g, hg⟩ : ∃ g, st.2 = some g := by
        cases e : st.2 with
        | none => exact absurd e (d.sh _ hp (by rw [c.1]; intro z; cases z))
        | some g => exact ⟨g, rfl⟩
      rw [hg]
      exact ⟨d.letter (lt := (false, nm)) (d.sw _ hp g hg) hst (.inr c.1), letter_keys hnm, lw _ _ _, rfl, rfl, rfl, ll _ _ _⟩
    · exact same
  · split
    · exact same
    · rename_i g hg
      split
      · rename_i c
        exact ⟨d.letter (lt := (true, nm)) (by rw [hw]; exact goals_who dk0 hg) hst (.inl c.1), letter_keys hnm, lw _ _ _, rfl, rfl, rfl, ll _ _ _⟩
      · exact same
structure Thk (dk0 dk : Dk) (n : Nat) : Prop where
  dl : DL dk
  ks : dk.keys = dk0.keys
  wk : dk.who.map (·.1) = dk0.who.map (·.1)
  mk' : dk.marks = dk0.marks
  pk : dk.plugged = dk0.plugged
  fk : dk.fresh = dk0.fresh
  lg : dk.log.length ≤ dk0.log.length + n
theorem think_fold {dk0 : Dk} (d0 : DL dk0) : ∀ (l : List Nm) (dk : Dk) (n : Nat), (∀ nm ∈ l, nm ∈ dk0.keys) → Thk dk0 dk n → Thk dk0 (l.foldl (Dk.thinkStep dk0.goals) dk) (n + l.length)
  | [], dk, n, _, h => h
  | nm :: l, dk, n, hl, h => by
    obtain ⟨a1, a2, a3, a4, a5, a6, a7⟩ := thinkStep_ok (dk0 := dk0) h.dl h.wk (nm := nm) (by rw [h.ks]; exact hl nm List.mem_cons_self)
    have := think_fold d0 l (Dk.thinkStep dk0.goals dk nm) (n + 1) (fun x hx => hl x (List.mem_cons_of_mem _ hx)) ⟨a1, a2.trans h.ks, a3.trans h.wk, a4.trans h.mk', a5.trans h.pk, a6.trans h.fk, by have := h.lg; omega⟩
    rw [List.length_cons]
    have e : n + 1 + l.length = n + (l.length + 1) := by omega
    rw [e] at this
    exact this
theorem think_thk {dk : Dk} (d : DL dk) : Thk dk dk.think 100 := by
  have := think_fold d (sortN dk.keys) dk 0 (fun nm h => List.mem_mergeSort.mp h) ⟨d, rfl, rfl, rfl, rfl, rfl, Nat.le_refl _⟩
  have l : (sortN dk.keys).length ≤ 100 := by unfold sortN; rw [List.length_mergeSort]; exact d.kc
  exact ⟨this.dl, this.ks, this.wk, this.mk', this.pk, this.fk, by have := this.lg; show (dk.think).log.length ≤ _; unfold Dk.think; omega⟩
end DM

namespace DM
open PySem PySem.Spec PyProof.Rows L2
/-! ### names cut off, all that are under one at once -/
def Dk.cut (dk : Dk) (p : Nm → Bool) : Dk := { dk with states := dk.states.filter (fun x => !p x.1), who := dk.who.map fun h => (h.1, { h.2 with left := h.2.left.filter fun lt => !p lt.2 }) }
theorem popS_cut (dk : Dk) (nm : Nm) : dk.popS nm = dk.cut fun x => decide (x = nm) := by
  unfold Dk.popS Dk.cut dropT
  have e : ∀ x : Nm, (decide (x ≠ nm)) = !decide (x = nm) := fun x => by by_cases h : x = nm <;> simp [h]
  congr 1
  · exact List.map_congr_left fun h _ => by
      have : (h.2.left.filter fun lt => decide (lt.2 ≠ nm)) = h.2.left.filter fun lt => !decide (lt.2 = nm) := List.filter_congr fun x _ => e x.2
      show (h.1, (HpS.mk h.2.claims h.2.room _)) = (h.1, (HpS.mk h.2.claims h.2.room _))
      rw [this]
  · exact List.filter_congr fun x _ => e x.1
theorem cut_cut (dk : Dk) (p q : Nm → Bool) : (dk.cut p).cut q = dk.cut fun x => p x || q x := by
  unfold Dk.cut
  congr 1
  · show (dk.who.map _).map _ = _
    rw [List.map_map]
    refine List.map_congr_left fun h _ => ?_
    show (h.1, HpS.mk h.2.claims h.2.room ((h.2.left.filter fun lt => !p lt.2).filter fun lt => !q lt.2)) = (h.1, HpS.mk h.2.claims h.2.room _)
    rw [List.filter_filter]
    have : (h.2.left.filter fun a => !q a.2 && !p a.2) = h.2.left.filter fun lt => !(p lt.2 || q lt.2) := List.filter_congr fun x _ => by cases p x.2 <;> cases q x.2 <;> rfl
    rw [this]
  · show (dk.states.filter fun x => !p x.1).filter (fun x => !q x.1) = _
    rw [List.filter_filter]
    exact List.filter_congr fun x _ => by show (!q x.1 && !p x.1) = !(p x.1 || q x.1); cases p x.1 <;> cases q x.1 <;> rfl
/-- the names stand each under one that is there; letters are about names that are there -/
structure Cl (dk : Dk) : Prop where
  cl : ∀ x ∈ dk.keys, x.length ≠ 1 → x.dropLast ∈ dk.keys
  ks : ∀ x ∈ dk.keys, 1 ≤ x.length ∧ x.length ≤ 3
  lk : ∀ h ∈ dk.who, ∀ lt ∈ h.2.left, lt.2 ∈ dk.keys
theorem cut_congr {dk : Dk} (c : Cl dk) {p q : Nm → Bool} (h : ∀ x ∈ dk.keys, p x = q x) : dk.cut p = dk.cut q := by
  unfold Dk.cut
  congr 1
  · refine List.map_congr_left fun w hw => ?_
    have : (w.2.left.filter fun lt => !p lt.2) = w.2.left.filter fun lt => !q lt.2 := List.filter_congr fun x hx => by rw [h x.2 (c.lk w hw x hx)]
    show (w.1, HpS.mk w.2.claims w.2.room _) = (w.1, HpS.mk w.2.claims w.2.room _)
    rw [this]
  · exact List.filter_congr fun x hx => by rw [h x.1 (List.mem_map.mpr ⟨x, hx, rfl⟩)]
theorem cut_false (dk : Dk) : dk.cut (fun _ => false) = dk := by
  obtain ⟨a, b, c, d, e, f⟩ := dk
  unfold Dk.cut
  have h1 : (d.filter fun x => !false) = d := List.filter_eq_self.mpr fun _ _ => rfl
  have h2 : (c.map fun h => (h.1, ({ h.2 with left := h.2.left.filter fun lt => !false } : HpS))) = c := by
    have : ∀ h : Int × HpS, (h.1, ({ h.2 with left := h.2.left.filter fun lt => !false } : HpS)) = h := fun h => by
      obtain ⟨i, x, y, z⟩ := h
      have : (z.filter fun lt => !false) = z := List.filter_eq_self.mpr fun _ _ => rfl
      show (i, HpS.mk x y (z.filter fun lt => !false)) = _
      rw [this]
    rw [List.map_congr_left fun h _ => this h]
    exact List.map_id _
  show Dk.mk a b (c.map _) (d.filter _) e f = _
  rw [h1, h2]
theorem cut_none {dk : Dk} (c : Cl dk) {p : Nm → Bool} (h : ∀ x ∈ dk.keys, p x = false) : dk.cut p = dk := (cut_congr c h).trans (cut_false dk)
theorem cut_keys (dk : Dk) (p : Nm → Bool) : (dk.cut p).keys = dk.keys.filter fun x => !p x := by
  show (dk.states.filter fun x => !p x.1).map (·.1) = (dk.states.map (·.1)).filter _
  rw [List.filter_map]; rfl
theorem mem_cut {dk : Dk} {p : Nm → Bool} {x : Nm} : x ∈ (dk.cut p).keys ↔ x ∈ dk.keys ∧ p x = false := by
  rw [cut_keys, List.mem_filter]; simp
def UpC (p : Nm → Bool) : Prop := ∀ x, p x.dropLast = true → p x = true
theorem Cl.cut {dk : Dk} (c : Cl dk) {p : Nm → Bool} (up : UpC p) : Cl (dk.cut p) := by
  refine ⟨fun x hx hn => ?_, fun x hx => c.ks x (mem_cut.mp hx).1, fun h hh lt hlt => ?_⟩
  · obtain ⟨h1, h2⟩ := mem_cut.mp hx
    refine mem_cut.mpr ⟨c.cl x h1 hn, ?_⟩
    cases e : p x.dropLast with
    | false => rfl
    | true => rw [up x e] at h2; cases h2
  · obtain ⟨w, hw, rfl⟩ := List.mem_map.mp (show h ∈ dk.who.map _ from hh)
    obtain ⟨h1, h2⟩ := List.mem_filter.mp (show lt ∈ w.2.left.filter _ from hlt)
    exact mem_cut.mpr ⟨c.lk w hw lt h1, by simpa using h2⟩
def pre (nm x : Nm) : Bool := decide (nm <+: x)
def und (nm x : Nm) : Bool := decide (nm <+: x) && decide (x ≠ nm)
theorem up_pre (nm : Nm) : UpC (pre nm) := fun x h => decide_eq_true ((of_decide_eq_true h).trans (List.dropLast_prefix x))
theorem pre_drop {nm x : Nm} (h : nm <+: x) (n : x ≠ nm) : nm <+: x.dropLast := by
  obtain ⟨r, rfl⟩ := h
  have : r ≠ [] := fun z => n (by rw [z, List.append_nil])
  rw [List.dropLast_append_of_ne_nil this]
  exact ⟨_, rfl⟩
theorem up_und (nm : Nm) : UpC (und nm) := fun x h => by
  unfold und at h ⊢
  rw [Bool.and_eq_true, decide_eq_true_eq, decide_eq_true_eq] at h ⊢
  refine ⟨h.1.trans (List.dropLast_prefix x), fun z => ?_⟩
  have h1 := h.1.length_le
  have h2 := h.2
  rw [z] at h1 h2
  rw [List.length_dropLast] at h1
  have : nm = [] := List.length_eq_zero_iff.mp (by omega)
  rw [this] at h2
  exact h2 rfl
theorem child {dk : Dk} (c : Cl dk) {nm : Nm} : ∀ (k : Nat) (x : Nm), x.length ≤ k → x ∈ dk.keys → nm <+: x → x ≠ nm → ∃ y ∈ dk.inner nm, y <+: x
  | 0, x, hk, hx, _, _ => by have := c.ks x hx; omega
  | k + 1, x, hk, hx, hp, hn => by
    by_cases e : x.dropLast = nm
    · exact ⟨x, mem_inner.mpr ⟨hx, e⟩, List.prefix_refl _⟩
    · have hp' := pre_drop hp hn
      have h1 : x.length ≠ 1 := fun z => e (by
        have : x.dropLast.length = 0 := by rw [List.length_dropLast]; omega
        have h0 := hp'.length_le
        rw [List.length_eq_zero_iff.mp this] at hp' ⊢
        exact (List.prefix_nil.mp hp').symm)
      obtain ⟨y, hy, hyp⟩ := child c k x.dropLast (by rw [List.length_dropLast]; have := c.ks x hx; omega) (c.cl x hx h1) hp' e
      exact ⟨y, hy, hyp.trans (List.dropLast_prefix x)⟩
theorem any_inner {dk : Dk} (c : Cl dk) {nm x : Nm} (hx : x ∈ dk.keys) : ((dk.inner nm).any fun y => pre y x) = und nm x := by
  rw [Bool.eq_iff_iff, List.any_eq_true]
  unfold und pre
  rw [Bool.and_eq_true, decide_eq_true_eq, decide_eq_true_eq]
  refine ⟨fun ⟨y, hy, hp⟩ => ?_, fun ⟨h1, h2⟩ => ?_⟩
  · have hp := of_decide_eq_true hp
    obtain ⟨k1, k2⟩ := mem_inner.mp hy
    have hn : nm <+: y := pre_of_last k2
    refine ⟨hn.trans hp, fun z => ?_⟩
    have := hp.length_le
    have l : y.dropLast.length = y.length - 1 := List.length_dropLast
    have := c.ks y k1
    rw [k2] at l
    rw [z] at hp
    have := hp.length_le
    omega
  · obtain ⟨y, hy, hp⟩ := child c x.length x (Nat.le_refl _) hx h1 h2
    exact ⟨y, hy, decide_eq_true hp⟩
theorem inner_cut_of {n : Nat} (ih : ∀ m, n = m + 1 → ∀ (dk : Dk) (nm : Nm), Cl dk → 3 ≤ nm.length + m → dk.gone (m + 1) nm = dk.cut (pre nm)) {dk : Dk} {nm : Nm} (c : Cl dk) (hn : 3 ≤ nm.length + n) : dk.innerGone n nm = dk.cut (und nm) := by
  cases n with
  | zero =>
    have he : dk.inner nm = [] := by
      cases e : dk.inner nm with
      | nil => rfl
      | cons y l =>
        exfalso
        have hy : y ∈ dk.inner nm := by rw [e]; exact List.mem_cons_self
        obtain ⟨k1, k2⟩ := mem_inner.mp hy
        have := c.ks y k1
        have l : y.dropLast.length = y.length - 1 := List.length_dropLast
        rw [k2] at l; omega
    rw [cut_none c fun x hx => by rw [← any_inner c hx, he]; rfl]
    unfold Dk.innerGone
    rw [he]; rfl
  | succ m =>
    have ih := ih m rfl
    have fold : ∀ (l : List Nm) (d : Dk), Cl d → (∀ y ∈ l, 3 ≤ y.length + m) → l.foldl (fun d one => Dk.gone (m + 1) d one) d = d.cut fun x => l.any fun y => pre y x := by
      intro l
      induction l with
      | nil => intro d c _; exact (cut_false d).symm
      | cons y l ihl =>
        intro d c hl
        rw [List.foldl_cons, ih d y c (hl y List.mem_cons_self), ihl _ (c.cut (up_pre y)) fun z hz => hl z (List.mem_cons_of_mem _ hz), cut_cut]
        rfl
    unfold Dk.innerGone
    rw [fold _ dk c fun y hy => by
      obtain ⟨k1, k2⟩ := mem_inner.mp hy
      have l : y.dropLast.length = y.length - 1 := List.length_dropLast
      have := c.ks y k1
      rw [k2] at l; omega]
    exact cut_congr c fun x hx => any_inner c hx
theorem gone_cut : ∀ (n : Nat) (dk : Dk) (nm : Nm), Cl dk → 3 ≤ nm.length + n → dk.gone (n + 1) nm = dk.cut (pre nm)
  | n, dk, nm, c, hn => by
    rw [Dk.gone_succ, inner_cut_of (fun m hm dk nm c h => by subst hm; exact gone_cut m dk nm c h) c hn, popS_cut, cut_cut]
    refine cut_congr c fun x _ => ?_
    unfold und pre
    by_cases h : x = nm
    · subst h; simp
    · simp [h]
termination_by n => n
theorem innerGone_cut {n : Nat} {dk : Dk} {nm : Nm} (c : Cl dk) (hn : 3 ≤ nm.length + n) : dk.innerGone n nm = dk.cut (und nm) := inner_cut_of (fun m _ dk nm c h => gone_cut m dk nm c h) c hn
theorem getT_filter {κ β : Type} [DecidableEq κ] {q : κ → Bool} {k : κ} (h : q k = true) : ∀ kvs : List (κ × β), getT (kvs.filter fun x => q x.1) k = getT kvs k
  | [] => rfl
  | p :: kvs => by
    by_cases e : p.1 = k
    · have : q p.1 = true := by rw [e]; exact h
      rw [List.filter_cons, if_pos this, getT_cons, getT_cons, if_pos e, if_pos e]
    · rw [getT_cons, if_neg e, List.filter_cons]
      split
      · rw [getT_cons, if_neg e]; exact getT_filter h kvs
      · exact getT_filter h kvs
end DM

namespace DM
open PySem PySem.Spec PyProof.Rows L2
/-! ### what holds of a desk between two happenings -/
structure DC (E : Int → Prop) (dk : Dk) : Prop where
  fm : dk.marks = dk.plugged.flatMap fun p => within [p.1] p.2
  pn : (dk.plugged.map (·.1)).Nodup
  pb : ∀ p ∈ dk.plugged, 0 ≤ p.1 ∧ p.1 < dk.fresh.1 ∧ OkT 2 p.2
  pc : dk.plugged.length ≤ 6
  kn : dk.keys.Nodup
  km : ∀ nm ∈ dk.keys, nm ∈ dk.marks.map (·.1)
  ch : ∀ nm ∈ dk.keys, nm.length ≠ 1 → ∃ s, getT dk.states nm.dropLast = some s ∧ (s.1 = .held ∨ s.1 = .leaving)
  sw : ∀ p ∈ dk.states, ∀ h, p.2.2 = some h → h ∈ dk.who.map (·.1) ∨ E h
  sh : ∀ p ∈ dk.states, p.2.1 ≠ .free → p.2.2 ≠ none
  wn : (dk.who.map (·.1)).Nodup
  ho : ∀ h ∈ dk.who, OkCs h.2.claims ∧ 0 ≤ h.2.room ∧ h.2.room ≤ 4
  wf : ∀ h ∈ dk.who, 0 ≤ h.1 ∧ h.1 < dk.fresh.2
  f2 : 0 ≤ dk.fresh.1 ∧ 0 ≤ dk.fresh.2 ∧ dk.fresh.2 ≤ 1000
  w8 : dk.who.length ≤ 8
  l1 : ∀ h ∈ dk.who, ∀ lt ∈ h.2.left, getT dk.states lt.2 = some (Sta.of lt.1, some h.1)
  l2 : ∀ h ∈ dk.who, (h.2.left.map (·.2)).Nodup
abbrev NoE : Int → Prop := fun _ => False
structure DI (dk : Dk) : Prop extends DC NoE dk where
  pk : ∀ p ∈ dk.plugged, [p.1] ∈ dk.keys
section
variable {E : Int → Prop} {dk : Dk}
theorem DC.mk_of (c : DC E dk) {q : Nm × List Int} (h : q ∈ dk.marks) : ∃ p ∈ dk.plugged, [p.1] <+: q.1 ∧ 1 ≤ q.1.length ∧ q.1.length ≤ 3 ∧ OkM 0 q.2 := by
  rw [c.fm] at h
  obtain ⟨p, hp, hq⟩ := List.mem_flatMap.mp h
  obtain ⟨h1, h2, h3⟩ := within_ok (c.pb p hp).2.2 q hq
  exact ⟨p, hp, within_pre _ _ _ hq, h1, h2, h3⟩
theorem full13 (nm : List Int) : (fullN 2 nm).length = 13 := by
  simp [fullN]
theorem within13 {nm : Nm} {t : Th} (h : OkT 2 t) : (within nm t).length ≤ 13 := by
  have := (within_full (nm := nm) h).length_le
  rw [full13, List.length_map] at this
  exact this
theorem flat_len {l : List (Int × Th)} (h : ∀ p ∈ l, OkT 2 p.2) : (l.flatMap fun p => within [p.1] p.2).length ≤ 13 * l.length := by
  induction l with
  | nil => exact Nat.le_refl _
  | cons x l ih =>
    rw [List.flatMap_cons, List.length_append, List.length_cons]
    have := within13 (nm := [x.1]) (h x List.mem_cons_self)
    have := ih fun p hp => h p (List.mem_cons_of_mem _ hp)
    omega
theorem DC.mlen (c : DC E dk) : dk.marks.length ≤ 78 := by
  rw [c.fm]
  have := flat_len fun p hp => (c.pb p hp).2.2
  have := c.pc
  omega
theorem DC.ks (c : DC E dk) : ∀ nm ∈ dk.keys, 1 ≤ nm.length ∧ nm.length ≤ 3 := fun nm h => by
  obtain ⟨q, hq, rfl⟩ := List.mem_map.mp (c.km nm h)
  obtain ⟨p, _, _, h1, h2, _⟩ := c.mk_of hq
  exact ⟨h1, h2⟩
theorem DC.kc (c : DC E dk) : dk.keys.length ≤ 78 := by
  have := sub_len c.kn c.km
  rw [List.length_map] at this
  have := c.mlen
  omega
theorem DC.lk (c : DC E dk) : ∀ h ∈ dk.who, ∀ lt ∈ h.2.left, lt.2 ∈ dk.keys := fun h hh lt hl => getT_in (c.l1 h hh lt hl)
theorem DC.cl (c : DC E dk) : ∀ nm ∈ dk.keys, nm.length ≠ 1 → nm.dropLast ∈ dk.keys := fun nm h hn => by
  obtain ⟨s, hs, _⟩ := c.ch nm h hn
  exact getT_in hs
theorem DC.toCl (c : DC E dk) : Cl dk := ⟨c.cl, c.ks, c.lk⟩
theorem DC.kg (c : DC E dk) : KG dk where
  ks := c.ks
  kn := c.kn
  kc := by have := c.kc; omega
  wc := by have := c.w8; omega
  wl := fun h hh => by have := left_le (dk := dk) (h := h) (by have := c.kc; omega) (c.lk h hh) (c.l2 h hh); omega
  wn := c.wn
  wt := fun h hh lt hl => (c.ks _ (c.lk h hh lt hl)).2
theorem DC.dl (c : DC NoE dk) : DL dk where
  toKG := c.kg
  km := c.km
  mo := fun p hp => by obtain ⟨_, _, _, _, _, h⟩ := c.mk_of hp; exact h
  cl := c.cl
  sw := fun p hp h e => by
    rcases c.sw p hp h e with z | z
    · exact z
    · exact z.elim
  sh := c.sh
  ho := c.ho
  wb := fun h hh => by have := c.wf h hh; have := c.f2; omega
  l1 := c.l1
  l2 := c.l2
theorem DC.log (c : DC E dk) (l : List En) : DC E { dk with log := l } := ⟨c.fm, c.pn, c.pb, c.pc, c.kn, c.km, c.ch, c.sw, c.sh, c.wn, c.ho, c.wf, c.f2, c.w8, c.l1, c.l2⟩
/-- rows made less -/
theorem DC.less (c : DC E dk) {g : Int × HpS → Int × HpS} (hg : ∀ h ∈ dk.who, (g h).1 = h.1 ∧ (g h).2.claims = h.2.claims ∧ (g h).2.room = h.2.room ∧ (g h).2.left.Sublist h.2.left) : DC E { dk with who := dk.who.map g } := by
  have ek : (dk.who.map g).map (·.1) = dk.who.map (·.1) := by rw [List.map_map]; exact List.map_congr_left fun x hx => (hg x hx).1
  have mem : ∀ x ∈ dk.who.map g, ∃ y ∈ dk.who, x.1 = y.1 ∧ x.2.claims = y.2.claims ∧ x.2.room = y.2.room ∧ x.2.left.Sublist y.2.left := fun x hx => by
    obtain ⟨y, hy, rfl⟩ := List.mem_map.mp hx
    exact ⟨y, hy, hg y hy⟩
  refine ⟨c.fm, c.pn, c.pb, c.pc, c.kn, c.km, c.ch, fun p hp h e => ?_, c.sh, ?_, fun h hh => ?_, fun h hh => ?_, c.f2, ?_, fun h hh lt hl => ?_, fun h hh => ?_⟩
  · show h ∈ (dk.who.map g).map (·.1) ∨ E h
    rw [ek]; exact c.sw p hp h e
  · show ((dk.who.map g).map (·.1)).Nodup
    rw [ek]; exact c.wn
  · obtain ⟨y, hy, e1, e2, e3, e4⟩ := mem h hh
    rw [e2, e3]; exact c.ho y hy
  · obtain ⟨y, hy, e1, e2, e3, e4⟩ := mem h hh
    rw [e1]; exact c.wf y hy
  · show (dk.who.map g).length ≤ 8
    rw [List.length_map]; exact c.w8
  · obtain ⟨y, hy, e1, e2, e3, e4⟩ := mem h hh
    rw [e1]; exact c.l1 y hy lt (e4.subset hl)
  · obtain ⟨y, hy, e1, e2, e3, e4⟩ := mem h hh
    exact (c.l2 y hy).sublist (e4.map _)
theorem DC.cut (c : DC E dk) {p : Nm → Bool} (up : UpC p) : DC E (dk.cut p) := by
  have ek : (dk.cut p).who.map (·.1) = dk.who.map (·.1) := by
    show (dk.who.map _).map _ = _
    rw [List.map_map]; rfl
  have mem : ∀ x ∈ (dk.cut p).who, ∃ y ∈ dk.who, x = (y.1, { y.2 with left := y.2.left.filter fun lt => !p lt.2 }) := fun x hx => by
    obtain ⟨y, hy, rfl⟩ := List.mem_map.mp (show x ∈ dk.who.map _ from hx)
    exact ⟨y, hy, rfl⟩
  have hst : ∀ k, p k = false → getT (dk.cut p).states k = getT dk.states k := fun k h => getT_filter (q := fun x => !p x) (by rw [h]; rfl) dk.states
  have sub : (dk.cut p).states.Sublist dk.states := List.filter_sublist
  refine ⟨c.fm, c.pn, c.pb, c.pc, c.kn.sublist (sub.map _), fun nm h => c.km nm (mem_cut.mp h).1, fun nm h hn => ?_, fun q hq h e => ?_, fun q hq => c.sh q (sub.subset hq), by rw [ek]; exact c.wn, fun h hh => ?_, fun h hh => ?_, c.f2, ?_, fun h hh lt hl => ?_, fun h hh => ?_⟩
  · obtain ⟨h1, h2⟩ := mem_cut.mp h
    obtain ⟨s, hs, r⟩ := c.ch nm h1 hn
    refine ⟨s, ?_, r⟩
    rw [hst]
    · exact hs
    · cases e : p nm.dropLast with
      | false => rfl
      | true => rw [up nm e] at h2; cases h2
  · rw [ek]; exact c.sw q (sub.subset hq) h e
  · obtain ⟨y, hy, rfl⟩ := mem h hh; exact c.ho y hy
  · obtain ⟨y, hy, rfl⟩ := mem h hh; exact c.wf y hy
  · show (dk.who.map _).length ≤ 8
    rw [List.length_map]; exact c.w8
  · obtain ⟨y, hy, rfl⟩ := mem h hh
    obtain ⟨h1, h2⟩ := List.mem_filter.mp (show lt ∈ y.2.left.filter _ from hl)
    rw [hst _ (by simpa using h2)]
    exact c.l1 y hy lt h1
  · obtain ⟨y, hy, rfl⟩ := mem h hh
    exact (c.l2 y hy).sublist (List.filter_sublist.map _)
theorem keys_putS {nm x : Nm} {s : Sta × Option Int} : x ∈ (dk.putS nm s).keys → x ∈ dk.keys ∨ x = nm := fun h => by
  obtain ⟨p, hp, rfl⟩ := List.mem_map.mp h
  rcases mem_putT (show p ∈ putT dk.states nm s from hp) with z | rfl
  · exact .inl (List.mem_map.mpr ⟨p, z, rfl⟩)
  · exact .inr rfl
theorem putS_nd {nm : Nm} {s : Sta × Option Int} (h : dk.keys.Nodup) : (dk.putS nm s).keys.Nodup := by
  by_cases m : nm ∈ dk.keys
  · rw [putS_keys m]; exact h
  · have e : (dk.putS nm s).keys = dk.keys ++ [nm] := by
      show (putT dk.states nm s).map (·.1) = _
      rw [putT_new _ (getT_none m), List.map_append]; rfl
    rw [e, List.nodup_append]
    exact ⟨h, by simp, fun a ha b hb z => by simp at hb; subst hb; subst z; exact m ha⟩
theorem putS_in {nm x : Nm} {s : Sta × Option Int} (h : x ∈ dk.keys ∨ x = nm) : x ∈ (dk.putS nm s).keys := by
  by_cases e : x = nm
  · subst e
    have : getT (dk.putS x s).states x = some s := by show getT (putT _ _ _) _ = _; rw [getT_put, if_pos rfl]
    exact getT_in this
  · rcases h with h | h
    · obtain ⟨v, hv⟩ := getT_some h
      have : getT (dk.putS nm s).states x = some v := by show getT (putT _ _ _) _ = _; rw [getT_put, if_neg e, hv]
      exact getT_in this
    · exact absurd h e
/-- one name's state is put -/
theorem DC.put (c : DC E dk) {nm : Nm} {s : Sta × Option Int} (hm : nm ∈ dk.marks.map (·.1)) (hpar : nm.length ≠ 1 → ∃ s, getT dk.states nm.dropLast = some s ∧ (s.1 = .held ∨ s.1 = .leaving)) (hs : ∀ h, s.2 = some h → h ∈ dk.who.map (·.1) ∨ E h) (hf : s.1 ≠ .free → s.2 ≠ none)
    (hl : ∀ h ∈ dk.who, ∀ lt ∈ h.2.left, lt.2 ≠ nm) (hk : (s.1 = .held ∨ s.1 = .leaving) ∨ ∀ x ∈ dk.keys, x.length ≠ 1 → x.dropLast ≠ nm) : DC E (dk.putS nm s) := by
  have hg : ∀ k, getT (dk.putS nm s).states k = if k = nm then some s else getT dk.states k := fun k => getT_put _ _ _ _
  have hne : nm ≠ nm.dropLast := by
    obtain ⟨q, hq, rfl⟩ := List.mem_map.mp hm
    obtain ⟨_, _, _, h1, _⟩ := c.mk_of hq
    intro z
    have := congrArg List.length z
    rw [List.length_dropLast] at this
    omega
  refine ⟨c.fm, c.pn, c.pb, c.pc, putS_nd c.kn, fun x h => ?_, fun x h hn => ?_, fun q hq h e => ?_, fun q hq => ?_, c.wn, c.ho, c.wf, c.f2, c.w8, fun h hh lt hlt => ?_, c.l2⟩
  · rcases keys_putS h with h | rfl
    · exact c.km x h
    · exact hm
  · rw [hg]
    rcases keys_putS h with h | rfl
    · obtain ⟨s', h1, h2⟩ := c.ch x h hn
      by_cases e : x.dropLast = nm
      · rw [if_pos e]
        rcases hk with z | z
        · exact ⟨s, rfl, z⟩
        · exact absurd e (z x h hn)
      · rw [if_neg e]; exact ⟨s', h1, h2⟩
    · rw [if_neg (Ne.symm hne)]; exact hpar hn
  · rcases mem_putT (show q ∈ putT dk.states nm s from hq) with z | rfl
    · exact c.sw q z h e
    · exact hs h e
  · rcases mem_putT (show q ∈ putT dk.states nm s from hq) with z | rfl
    · exact c.sh q z
    · exact hf
  · rw [hg, if_neg (hl h hh lt hlt)]; exact c.l1 h hh lt hlt
end
/-! #### thinking -/
theorem think_ch {dk0 : Dk} : ∀ (l : List Nm) (dk : Dk), (∀ nm ∈ l, nm ∈ dk0.keys) → DL dk → dk.keys = dk0.keys → dk.who.map (·.1) = dk0.who.map (·.1) →
    (∀ nm ∈ dk.keys, nm.length ≠ 1 → ∃ s, getT dk.states nm.dropLast = some s ∧ (s.1 = .held ∨ s.1 = .leaving)) →
    ∀ nm ∈ (l.foldl (Dk.thinkStep dk0.goals) dk).keys, nm.length ≠ 1 → ∃ s, getT (l.foldl (Dk.thinkStep dk0.goals) dk).states nm.dropLast = some s ∧ (s.1 = .held ∨ s.1 = .leaving)
  | [], dk, _, _, _, _, h => h
  | one :: l, dk, hl, d, hk, hw, h => by
    have h1 : one ∈ dk.keys := by rw [hk]; exact hl one List.mem_cons_self
    obtain ⟨a1, a2, a3, _, _, _, _⟩ := thinkStep_ok (dk0 := dk0) d hw h1
    refine think_ch l _ (fun x hx => hl x (List.mem_cons_of_mem _ hx)) a1 (a2.trans hk) (a3.trans hw) ?_
    rw [a2]
    obtain ⟨st, hst⟩ := getT_some h1
    have hs := stOf_some hst
    have hlt : ∀ g lt s, lt.2 = one → ∀ k, getT (dk.letter g lt s).states k = if k = one then some (s, some g) else getT dk.states k := fun g lt s e k => by rw [← e]; exact getT_put _ _ _ _
    intro nm hnm hn
    obtain ⟨s, e1, e2⟩ := h nm hnm hn
    unfold Dk.thinkStep
    rw [hs]
    split
    · split
      · rw [hlt _ (false, one) .leaving rfl]
        by_cases e : nm.dropLast = one
        · rw [if_pos e]; exact ⟨_, rfl, .inr rfl⟩
        · rw [if_neg e]; exact ⟨s, e1, e2⟩
      · exact ⟨s, e1, e2⟩
    · split
      · exact ⟨s, e1, e2⟩
      · split
        · rename_i g _ c
          rw [hlt _ (true, one) .taking rfl]
          have : nm.dropLast ≠ one := fun z => by
            rw [z, hst] at e1
            cases e1
            rcases e2 with e2 | e2 <;> rw [c.1] at e2 <;> cases e2
          rw [if_neg this]; exact ⟨s, e1, e2⟩
        · exact ⟨s, e1, e2⟩
theorem DC.think {dk : Dk} (c : DC NoE dk) : DC NoE dk.think := by
  have d := c.dl
  have t := think_thk d
  have ch := think_ch (dk0 := dk) (sortN dk.keys) dk (fun nm h => List.mem_mergeSort.mp h) d rfl rfl c.ch
  have wmem : ∀ h ∈ dk.think.who, ∃ y ∈ dk.who, h.1 = y.1 := fun h hh => by
    have : h.1 ∈ dk.think.who.map (·.1) := List.mem_map.mpr ⟨h, hh, rfl⟩
    rw [t.wk] at this
    obtain ⟨y, hy, e⟩ := List.mem_map.mp this
    exact ⟨y, hy, e.symm⟩
  refine ⟨by rw [t.mk', t.pk]; exact c.fm, by rw [t.pk]; exact c.pn, by rw [t.pk, t.fk]; exact c.pb, by rw [t.pk]; exact c.pc, t.dl.kn, by rw [t.mk']; exact fun nm h => c.km nm (by rw [← t.ks]; exact h), ch, fun p hp h e => .inl (t.dl.sw p hp h e), t.dl.sh, t.dl.wn, t.dl.ho, fun h hh => ?_, by rw [t.fk]; exact c.f2, ?_, t.dl.l1, t.dl.l2⟩
  · obtain ⟨y, hy, e⟩ := wmem h hh
    rw [t.fk, e]; exact c.wf y hy
  · have := congrArg List.length t.wk
    rw [List.length_map, List.length_map] at this
    rw [this]; exact c.w8
theorem DI.think {dk : Dk} (c : DI dk) : DI dk.think := ⟨c.toDC.think, fun p hp => by
  have t := think_thk c.toDC.dl
  rw [t.pk] at hp
  rw [t.ks]; exact c.pk p hp⟩
end DM

namespace DM
open PySem PySem.Spec PyProof.Rows L2
theorem one_pre {i j : Int} {a : Nm} (h1 : [i] <+: a) (h2 : [j] <+: a) : i = j := pre_snoc_ne (nm := []) h1 h2
theorem DC.noF {E : Int → Prop} {dk : Dk} (c : DC E dk) {nm : Nm} (h : nm ∈ dk.marks.map (·.1)) : ¬ [dk.fresh.1] <+: nm := fun z => by
  obtain ⟨q, hq, rfl⟩ := List.mem_map.mp h
  obtain ⟨p, hp, h1, _⟩ := c.mk_of hq
  have := one_pre z h1
  have := (c.pb p hp).2.1
  omega
theorem within_self (nm : Nm) (t : Th) : nm ∈ (within nm t).map (·.1) := by rw [within_eq]; exact List.mem_cons_self
theorem DC.newP {E : Int → Prop} {dk : Dk} (c : DC E dk) (t : Th) : putT dk.plugged dk.fresh.1 t = dk.plugged ++ [(dk.fresh.1, t)] ∧ putAllT dk.marks (within [dk.fresh.1] t) = dk.marks ++ within [dk.fresh.1] t := by
  refine ⟨putT_new _ (getT_none fun h => ?_), putAll_new _ _ (fun k hk hm => ?_) (within_nd _ t)⟩
  · obtain ⟨p, hp, e⟩ := List.mem_map.mp h
    have := (c.pb p hp).2.1
    omega
  · obtain ⟨p, hp, rfl⟩ := List.mem_map.mp hk
    exact c.noF hm (within_pre _ _ _ hp)
theorem DI.plug {dk : Dk} (c : DI dk) {t : Th} (ht : OkT 2 t) (h6 : dk.plugged.length < 6) : DI (dk.plugPre t) := by
  obtain ⟨e1, e2⟩ := c.newP t
  have c1 : DC NoE { dk with plugged := putT dk.plugged dk.fresh.1 t, marks := putAllT dk.marks (within [dk.fresh.1] t), fresh := (dk.fresh.1 + 1, dk.fresh.2), log := dk.log ++ [.plug dk.fresh.1 t] } := by
    have f2 := c.f2
    refine ⟨?_, ?_, ?_, ?_, c.kn, fun nm h => ?_, c.ch, c.sw, c.sh, c.wn, c.ho, c.wf, ⟨by show 0 ≤ dk.fresh.1 + 1; omega, f2.2⟩, c.w8, c.l1, c.l2⟩
    · show putAllT dk.marks (within [dk.fresh.1] t) = (putT dk.plugged dk.fresh.1 t).flatMap _
      rw [e1, e2, List.flatMap_append, ← c.fm]; simp
    · show ((putT dk.plugged dk.fresh.1 t).map (·.1)).Nodup
      rw [e1, List.map_append, List.nodup_append]
      refine ⟨c.pn, by simp, fun a ha b hb z => ?_⟩
      obtain ⟨p, hp, rfl⟩ := List.mem_map.mp ha
      have := (c.pb p hp).2.1
      have hb : b = dk.fresh.1 := by simpa using hb
      omega
    · intro p hp
      have hp : p ∈ putT dk.plugged dk.fresh.1 t := hp
      rw [e1] at hp
      show 0 ≤ p.1 ∧ p.1 < dk.fresh.1 + 1 ∧ OkT 2 p.2
      rcases List.mem_append.mp hp with hp | hp
      · have := c.pb p hp
        exact ⟨this.1, by omega, this.2.2⟩
      · have : p = (dk.fresh.1, t) := by simpa using hp
        subst this
        exact ⟨f2.1, by show dk.fresh.1 < dk.fresh.1 + 1; omega, ht⟩
    · show (putT dk.plugged dk.fresh.1 t).length ≤ 6
      rw [e1, List.length_append]; show dk.plugged.length + 1 ≤ 6; omega
    · show nm ∈ (putAllT dk.marks (within [dk.fresh.1] t)).map (·.1)
      rw [e2, List.map_append]; exact List.mem_append_left _ (c.km nm h)
  have c2 := c1.put (nm := [dk.fresh.1]) (s := (.free, none)) (by
    show _ ∈ (putAllT dk.marks (within [dk.fresh.1] t)).map (·.1)
    rw [e2, List.map_append]; exact List.mem_append_right _ (within_self _ t)) (fun z => absurd rfl z) (fun h z => by cases z) (fun z => absurd rfl z)
    (fun h hh lt hl z => c.noF (c.km _ (c.lk h hh lt hl)) (by rw [z]; exact List.prefix_refl _))
    (.inr fun x hx _ z => c.noF (c.km x hx) (by rw [← z]; exact List.dropLast_prefix x))
  refine ⟨c2, fun p hp => ?_⟩
  have hp : p ∈ putT dk.plugged dk.fresh.1 t := hp
  rw [e1] at hp
  rcases List.mem_append.mp hp with hp | hp
  · exact putS_in (.inl (c.pk p hp))
  · have : p = (dk.fresh.1, t) := by simpa using hp
    subst this
    exact putS_in (.inr rfl)
theorem DC.newW {E : Int → Prop} {dk : Dk} (c : DC E dk) (x : HpS) : putT dk.who dk.fresh.2 x = dk.who ++ [(dk.fresh.2, x)] := putT_new _ (getT_none fun h => by
    obtain ⟨p, hp, e⟩ := List.mem_map.mp h
    have := (c.wf p hp).2
    omega)
theorem DI.come {dk : Dk} (c : DI dk) {cs : List (List Int × Int)} {r : Int} (hc : OkCs cs) (h0 : 0 ≤ r) (h4 : r ≤ 4) (h8 : dk.who.length < 8) (hf : dk.fresh.2 < 1000) : DI (dk.comePre cs r) := by
  have e1 := c.newW ⟨cs, r, []⟩
  have f2 := c.f2
  have ew : (dk.comePre cs r).who = dk.who ++ [(dk.fresh.2, ⟨cs, r, []⟩)] := e1
  have wm : ∀ h ∈ (dk.comePre cs r).who, h ∈ dk.who ∨ h = (dk.fresh.2, ⟨cs, r, []⟩) := fun h hh => by
    rw [ew] at hh
    rcases List.mem_append.mp hh with z | z
    · exact .inl z
    · exact .inr (by simpa using z)
  refine ⟨⟨c.fm, c.pn, c.pb, c.pc, c.kn, c.km, c.ch, fun p hp h e => ?_, c.sh, ?_, fun h hh => ?_, fun h hh => ?_, ⟨f2.1, by show 0 ≤ dk.fresh.2 + 1; omega, by show dk.fresh.2 + 1 ≤ 1000; omega⟩, ?_, fun h hh => ?_, fun h hh => ?_⟩, c.pk⟩
  · rcases c.sw p hp h e with z | z
    · refine .inl ?_
      rw [ew, List.map_append]; exact List.mem_append_left _ z
    · exact z.elim
  · rw [ew, List.map_append, List.nodup_append]
    refine ⟨c.wn, by simp, fun a ha b hb z => ?_⟩
    obtain ⟨p, hp, rfl⟩ := List.mem_map.mp ha
    have := (c.wf p hp).2
    have hb : b = dk.fresh.2 := by simpa using hb
    omega
  · rcases wm h hh with z | rfl
    · exact c.ho h z
    · exact ⟨hc, h0, h4⟩
  · show 0 ≤ h.1 ∧ h.1 < dk.fresh.2 + 1
    rcases wm h hh with z | rfl
    · have := c.wf h z; omega
    · show 0 ≤ dk.fresh.2 ∧ dk.fresh.2 < dk.fresh.2 + 1
      omega
  · rw [ew, List.length_append]; show dk.who.length + 1 ≤ 8; omega
  · rcases wm h hh with z | rfl
    · exact c.l1 h z
    · intro lt hl; cases hl
  · rcases wm h hh with z | rfl
    · exact c.l2 h z
    · exact List.nodup_nil
/-! #### unplugged -/
theorem fold_drop {κ β : Type} [DecidableEq κ] : ∀ (ns : List κ) (m : List (κ × β)), ns.foldl (fun m n => dropT m n) m = m.filter fun q => ns.all fun n => decide (q.1 ≠ n)
  | [], m => (List.filter_eq_self.mpr fun _ _ => rfl).symm
  | n :: ns, m => by
    rw [List.foldl_cons, fold_drop ns]
    unfold dropT
    rw [List.filter_filter]
    refine List.filter_congr fun q _ => ?_
    rw [List.all_cons, Bool.and_comm]
theorem dropT_flat {n : Int} {t : Th} : ∀ {l : List (Int × Th)}, (∀ p ∈ l, p.1 = n → p.2 = t) → (l.flatMap fun p => within [p.1] p.2).filter (fun q => ((within [n] t).map (·.1)).all fun n => decide (q.1 ≠ n)) = (dropT l n).flatMap fun p => within [p.1] p.2
  | [], _ => rfl
  | p :: l, h => by
    have ih := dropT_flat (l := l) fun p hp => h p (List.mem_cons_of_mem _ hp)
    rw [List.flatMap_cons, List.filter_append, ih]
    unfold dropT
    rw [List.filter_cons]
    by_cases e : p.1 = n
    · rw [if_neg (by simp [e])]
      have : (within [p.1] p.2).filter (fun q => ((within [n] t).map (·.1)).all fun n => decide (q.1 ≠ n)) = [] := by
        rw [List.filter_eq_nil_iff, e, h p List.mem_cons_self e]
        intro q hq z
        exact of_decide_eq_true (List.all_eq_true.mp z q.1 (List.mem_map.mpr ⟨q, hq, rfl⟩)) rfl
      rw [this]; rfl
    · rw [if_pos (by simp [e]), List.flatMap_cons]
      have : (within [p.1] p.2).filter (fun q => ((within [n] t).map (·.1)).all fun n => decide (q.1 ≠ n)) = within [p.1] p.2 := by
        rw [List.filter_eq_self]
        intro q hq
        refine List.all_eq_true.mpr fun y z => decide_eq_true fun ey => ?_
        rw [← ey] at z
        obtain ⟨q2, h2, e2⟩ := List.mem_map.mp z
        have h1 := within_pre _ _ _ hq
        have h3 := within_pre _ _ _ h2
        rw [e2] at h3
        exact e (one_pre h1 h3)
      rw [this]
theorem DI.unplug {dk : Dk} (c : DI dk) {n : Int} (hn : n ∈ dk.plugged.map (·.1)) : (dk.addL (.unplug n)).gone 3 [n] = (dk.addL (.unplug n)).cut (pre [n]) ∧ DC NoE ((dk.addL (.unplug n)).cut (pre [n])) ∧ DI (dk.unplugPre n) := by
  have cl := c.toDC.log (dk.log ++ [.unplug n])
  have e0 : (dk.addL (.unplug n)).gone 3 [n] = (dk.addL (.unplug n)).cut (pre [n]) := gone_cut 2 _ _ (DC.toCl (dk := dk.addL (.unplug n)) cl) (by show 3 ≤ 1 + 2; decide)
  have c1 : DC NoE ((dk.addL (.unplug n)).cut (pre [n])) := DC.cut (dk := dk.addL (.unplug n)) cl (up_pre [n])
  refine ⟨e0, c1, ?_⟩
  have eq : dk.unplugPre n = { ((dk.addL (.unplug n)).cut (pre [n])) with plugged := dropT dk.plugged n, marks := ((within [n] (dk.thingOf n)).map (·.1)).foldl (fun m n => dropT m n) dk.marks } := by
    unfold Dk.unplugPre
    rw [e0]; rfl
  have em : ((within [n] (dk.thingOf n)).map (·.1)).foldl (fun m n => dropT m n) dk.marks = (dropT dk.plugged n).flatMap fun p => within [p.1] p.2 := by
    rw [fold_drop, c.fm]
    refine dropT_flat fun p hp e => ?_
    unfold Dk.thingOf
    rw [← e, getT_nd c.pn hp]; rfl
  have sub : ∀ p ∈ dropT dk.plugged n, p ∈ dk.plugged ∧ p.1 ≠ n := fun p hp => by
    obtain ⟨h1, h2⟩ := List.mem_filter.mp hp
    exact ⟨h1, by simpa using h2⟩
  rw [eq]
  refine ⟨⟨em, c.pn.sublist (List.filter_sublist.map _), fun p hp => c.pb p (sub p hp).1, Nat.le_trans (List.filter_sublist (l := dk.plugged)).length_le c.pc, c1.kn, fun nm h => ?_, c1.ch, c1.sw, c1.sh, c1.wn, c1.ho, c1.wf, c1.f2, c1.w8, c1.l1, c1.l2⟩, fun p hp => ?_⟩
  · obtain ⟨h1, h2⟩ := mem_cut.mp h
    show nm ∈ (((within [n] (dk.thingOf n)).map (·.1)).foldl (fun m n => dropT m n) dk.marks).map (·.1)
    obtain ⟨q, hq, rfl⟩ := List.mem_map.mp (c.km nm h1)
    rw [fold_drop]
    refine List.mem_map.mpr ⟨q, List.mem_filter.mpr ⟨hq, List.all_eq_true.mpr fun y z => decide_eq_true fun ey => ?_⟩, rfl⟩
    rw [← ey] at z
    obtain ⟨q2, hq2, e⟩ := List.mem_map.mp z
    have := within_pre _ _ _ hq2
    rw [e] at this
    exact of_decide_eq_false h2 this
  · obtain ⟨h1, h2⟩ := sub p hp
    refine mem_cut.mpr ⟨c.pk p h1, decide_eq_false fun z => h2 ?_⟩
    exact (one_pre z (List.prefix_refl _)).symm
/-! #### a helper falls -/
theorem filter_put {κ β : Type} [DecidableEq κ] {q : κ → Bool} {k : κ} {v : β} (h : q k = true) : ∀ kvs : List (κ × β), (putT kvs k v).filter (fun x => q x.1) = putT (kvs.filter fun x => q x.1) k v := by
  intro kvs
  have ha : ∀ kvs : List (κ × β), ((kvs.filter fun x => q x.1).any fun kv => decide (kv.1 = k)) = kvs.any fun kv => decide (kv.1 = k) := by
    intro kvs
    induction kvs with
    | nil => rfl
    | cons p kvs ih =>
      rw [List.filter_cons]
      split
      · rw [List.any_cons, List.any_cons, ih]
      · rename_i hq
        rw [ih, List.any_cons]
        have : p.1 ≠ k := fun z => hq (by rw [z]; exact h)
        simp [this]
  have hm : ∀ kvs : List (κ × β), (kvs.map fun kv => if kv.1 = k then (kv.1, v) else kv).filter (fun x => q x.1) = (kvs.filter fun x => q x.1).map fun kv => if kv.1 = k then (kv.1, v) else kv := by
    intro kvs
    rw [List.filter_map]
    congr 1
    refine List.filter_congr fun p _ => ?_
    show q (if p.1 = k then (p.1, v) else p).1 = q p.1
    split <;> rfl
  unfold putT
  rw [ha]
  split
  · exact hm kvs
  · rw [List.filter_append]
    have : ([(k, v)] : List (κ × β)).filter (fun x => q x.1) = [(k, v)] := by rw [List.filter_cons, if_pos h]; rfl
    rw [this]
theorem cut_putS {dk : Dk} {p : Nm → Bool} {nm : Nm} {s : Sta × Option Int} (h : p nm = false) : (dk.putS nm s).cut p = (dk.cut p).putS nm s := by
  have := filter_put (q := fun x => !p x) (k := nm) (v := s) (by rw [h]; rfl) dk.states
  unfold Dk.cut Dk.putS
  congr 1
theorem Cl.putS {dk : Dk} (c : Cl dk) {nm : Nm} {s : Sta × Option Int} (h : nm ∈ dk.keys) : Cl (dk.putS nm s) := ⟨by rw [putS_keys h]; exact c.cl, by rw [putS_keys h]; exact c.ks, by rw [putS_keys h]; exact c.lk⟩
theorem DC.nochild {E : Int → Prop} {dk : Dk} (c : DC E dk) (nm : Nm) : ∀ x ∈ (dk.cut (und nm)).keys, x.length ≠ 1 → x.dropLast ≠ nm := fun x hx hn z => by
  obtain ⟨h1, h2⟩ := mem_cut.mp hx
  have := c.ks x h1
  unfold und at h2
  rw [Bool.and_eq_false_iff] at h2
  rcases h2 with h2 | h2
  · exact of_decide_eq_false h2 (pre_of_last z)
  · refine of_decide_eq_false h2 fun y => ?_
    have := congrArg List.length (y.trans z.symm)
    rw [List.length_dropLast] at this
    omega
theorem und_self (nm : Nm) : und nm nm = false := by unfold und; simp
theorem und_top {nm x : Nm} (h : 1 ≤ nm.length) (hx : x.length = 1) : und nm x = false := by
  unfold und
  rw [Bool.and_eq_false_iff]
  by_cases e : x = nm
  · exact .inr (by simp [e])
  · refine .inl (decide_eq_false fun z => e ?_)
    exact (z.eq_of_length (by have := z.length_le; omega)).symm
/-- freed, and what is in it gone -/
theorem DC.freed {E : Int → Prop} {dk : Dk} (c : DC E dk) {nm : Nm} (hk : nm ∈ dk.keys) (hl : ∀ h ∈ dk.who, ∀ lt ∈ h.2.left, lt.2 ≠ nm) : DC E ((dk.cut (und nm)).putS nm (.free, none)) := by
  have c1 := c.cut (up_und nm)
  have hk1 : nm ∈ (dk.cut (und nm)).keys := mem_cut.mpr ⟨hk, und_self nm⟩
  refine c1.put (c1.km nm hk1) (c1.ch nm hk1) (fun h z => by cases z) (fun z => absurd rfl z) (fun h hh lt hlt => ?_) (.inr (c.nochild nm))
  obtain ⟨y, hy, rfl⟩ := List.mem_map.mp (show h ∈ dk.who.map _ from hh)
  exact hl y hy lt (List.mem_filter.mp (show lt ∈ y.2.left.filter _ from hlt)).1
theorem fallStep_eq {E : Int → Prop} {dk : Dk} (c : DC E dk) {h : Int} {nm : Nm} : Dk.fallStep h dk nm = if nm ∈ dk.keys ∧ (dk.stOf nm).2 = some h then (dk.cut (und nm)).putS nm (.free, none) else dk := by
  unfold Dk.fallStep
  split
  · rename_i z
    rw [innerGone_cut (c.toCl.putS z.1) (by have := c.ks nm z.1; omega), cut_putS (und_self nm)]
  · rfl
structure FallJ (h : Int) (d1 : Dk) (l : List Nm) (d : Dk) : Prop where
  dc : DC (fun g => g = h) d
  nw : h ∉ d.who.map (·.1)
  sub : ∀ x ∈ d.keys, x ∈ d1.keys
  top : ∀ x : Nm, x.length = 1 → x ∈ d1.keys → x ∈ d.keys
  no : ∀ x ∈ l, x ∈ d.keys → (d.stOf x).2 ≠ some h
  pl : d.plugged = d1.plugged
  lg : d.log = d1.log
theorem FallJ.step {h : Int} {d1 d : Dk} {l : List Nm} (j : FallJ h d1 l d) {nm : Nm} : FallJ h d1 (l ++ [nm]) (Dk.fallStep h d nm) := by
  rw [fallStep_eq j.dc]
  split
  · rename_i z
    have c := j.dc
    have hl : ∀ w ∈ d.who, ∀ lt ∈ w.2.left, lt.2 ≠ nm := fun w hw lt hlt y => by
      have h1 := c.l1 w hw lt hlt
      rw [y] at h1
      have h2 := stOf_some h1
      rw [h2] at z
      have : w.1 = h := by simpa using z.2
      exact j.nw (List.mem_map.mpr ⟨w, hw, this⟩)
    have hg : ∀ k, getT ((d.cut (und nm)).putS nm (.free, none)).states k = if k = nm then some (.free, none) else getT (d.cut (und nm)).states k := fun k => getT_put _ _ _ _
    have hsub : ∀ x ∈ ((d.cut (und nm)).putS nm (.free, none)).keys, x ∈ d.keys ∧ (x ≠ nm → und nm x = false) := fun x hx => by
      rcases keys_putS hx with y | rfl
      · exact ⟨(mem_cut.mp y).1, fun _ => (mem_cut.mp y).2⟩
      · exact ⟨z.1, fun y => absurd rfl y⟩
    refine ⟨c.freed z.1 hl, ?_, fun x hx => j.sub x (hsub x hx).1, fun x h1 hx => ?_, fun x hx hxk => ?_, j.pl, j.lg⟩
    · have : ((d.cut (und nm)).putS nm (.free, none)).who.map (·.1) = d.who.map (·.1) := by
        show (d.who.map _).map _ = _
        rw [List.map_map]; rfl
      rw [this]; exact j.nw
    · exact putS_in (.inl (mem_cut.mpr ⟨j.top x h1 hx, und_top (c.ks nm z.1).1 h1⟩))
    · obtain ⟨k1, k2⟩ := hsub x hxk
      unfold Dk.stOf
      rw [hg]
      by_cases e : x = nm
      · rw [if_pos e]; intro y; cases y
      · rw [if_neg e]
        have : getT (d.cut (und nm)).states x = getT d.states x := getT_filter (q := fun x => !und nm x) (by rw [k2 e]; rfl) d.states
        rw [this]
        rcases List.mem_append.mp hx with hx | hx
        · exact j.no x hx k1
        · exact absurd (by simpa using hx) e
  · rename_i z
    refine ⟨j.dc, j.nw, j.sub, j.top, fun x hx hk => ?_, j.pl, j.lg⟩
    rcases List.mem_append.mp hx with hx | hx
    · exact j.no x hx hk
    · have : x = nm := by simpa using hx
      subst this
      exact fun y => z ⟨hk, y⟩
theorem FallJ.fold {h : Int} {d1 : Dk} : ∀ (l2 l1 : List Nm) (d : Dk), FallJ h d1 l1 d → FallJ h d1 (l1 ++ l2) (l2.foldl (Dk.fallStep h) d)
  | [], l1, d, j => by rw [List.append_nil]; exact j
  | x :: l2, l1, d, j => by
    have := FallJ.fold l2 (l1 ++ [x]) _ (j.step (nm := x))
    rw [List.append_assoc] at this
    exact this
def Dk.fall0 (dk : Dk) (h : Int) : Dk := { dk.addL (.fall h) with who := dropT dk.who h }
theorem fallPre_eq (dk : Dk) (h : Int) : dk.fallPre h = (sortN (dk.fall0 h).keys).foldl (Dk.fallStep h) (dk.fall0 h) := rfl
theorem DI.fall0 {dk : Dk} (c : DI dk) (h : Int) : FallJ h (dk.fall0 h) [] (dk.fall0 h) := by
  have sub : ∀ p ∈ dropT dk.who h, p ∈ dk.who ∧ p.1 ≠ h := fun p hp => by
    obtain ⟨h1, h2⟩ := List.mem_filter.mp hp
    exact ⟨h1, by simpa using h2⟩
  have sl : (dropT dk.who h).Sublist dk.who := List.filter_sublist
  refine ⟨⟨c.fm, c.pn, c.pb, c.pc, c.kn, c.km, c.ch, fun p hp g e => ?_, c.sh, c.wn.sublist (sl.map _), fun w hw => c.ho w (sl.subset hw), fun w hw => c.wf w (sl.subset hw), c.f2, Nat.le_trans sl.length_le c.w8, fun w hw => c.l1 w (sl.subset hw), fun w hw => c.l2 w (sl.subset hw)⟩, fun z => ?_, fun _ h => h, fun _ _ h => h, fun _ h => (by cases h), rfl, rfl⟩
  · rcases c.sw p hp g e with z | z
    · by_cases y : g = h
      · exact .inr y
      · obtain ⟨w, hw, rfl⟩ := List.mem_map.mp z
        exact .inl (List.mem_map.mpr ⟨w, List.mem_filter.mpr ⟨hw, by simpa using y⟩, rfl⟩)
    · exact z.elim
  · obtain ⟨w, hw, e⟩ := List.mem_map.mp (show h ∈ (dropT dk.who h).map (·.1) from z)
    exact (sub w hw).2 e
theorem DI.fall {dk : Dk} (c : DI dk) (h : Int) : DI (dk.fallPre h) ∧ (dk.fallPre h).log = dk.log ++ [.fall h] := by
  have j := FallJ.fold (sortN (dk.fall0 h).keys) [] _ (c.fall0 h)
  rw [List.nil_append, ← fallPre_eq] at j
  have d := j.dc
  refine ⟨⟨⟨d.fm, d.pn, d.pb, d.pc, d.kn, d.km, d.ch, fun p hp g e => ?_, d.sh, d.wn, d.ho, d.wf, d.f2, d.w8, d.l1, d.l2⟩, fun p hp => ?_⟩, j.lg⟩
  · rcases d.sw p hp g e with z | z
    · exact .inl z
    · exfalso
      have hk : p.1 ∈ (dk.fallPre h).keys := List.mem_map.mpr ⟨p, hp, rfl⟩
      have := j.no p.1 (List.mem_mergeSort.mpr (j.sub _ hk)) hk
      rw [stOf_some (getT_nd d.kn hp), e, z] at this
      exact this rfl
  · rw [j.pl] at hp
    exact j.top _ rfl (c.pk p hp)
end DM

namespace DM
open PySem PySem.Spec PyProof.Rows L2
/-! #### a letter is done -/
def Dk.done1 (dk : Dk) (h : Int) (lt : Lt) : Dk := (dk.whoMod h fun p => { p with left := p.left.drop 1 }).addL (.done h lt)
theorem did_eq (dk : Dk) (h : Int) (lt : Lt) : dk.did h lt = if lt.1 then ((dk.done1 h lt).marks.map (·.1)).foldl (Dk.freeIn lt.2) ((dk.done1 h lt).putS lt.2 (.held, some h)) else ((dk.done1 h lt).innerGone 2 lt.2).putS lt.2 (.free, none) := rfl
structure Done (dk : Dk) (h : Int) (lt : Lt) (d1 : Dk) : Prop where
  dc : DC NoE d1
  st : getT d1.states lt.2 = some (Sta.of lt.1, some h)
  nl : ∀ w ∈ d1.who, ∀ l ∈ w.2.left, l.2 ≠ lt.2
  hw : h ∈ d1.who.map (·.1)
theorem DI.done1 {dk : Dk} (c : DI dk) {x : Int × HpS} (hx : x ∈ dk.who) {lt : Lt} {rest : List Lt} (hl : x.2.left = lt :: rest) : Done dk x.1 lt (dk.done1 x.1 lt) := by
  have ew : (dk.done1 x.1 lt).who = dk.who.map fun p => if p.1 = x.1 then (p.1, { p.2 with left := p.2.left.drop 1 }) else p := rfl
  have c1 : DC NoE (dk.done1 x.1 lt) := by
    have := (c.toDC.less (g := fun p => if p.1 = x.1 then (p.1, { p.2 with left := p.2.left.drop 1 }) else p) fun p hp => by
      show (if p.1 = x.1 then _ else p).1 = p.1 ∧ (if p.1 = x.1 then _ else p).2.claims = _ ∧ (if p.1 = x.1 then _ else p).2.room = _ ∧ (if p.1 = x.1 then _ else p).2.left.Sublist _
      split
      · exact ⟨rfl, rfl, rfl, List.drop_sublist _ _⟩
      · exact ⟨rfl, rfl, rfl, List.Sublist.refl _⟩).log (dk.log ++ [.done x.1 lt])
    exact this
  have hst := c.l1 x hx lt (by rw [hl]; exact List.mem_cons_self)
  refine ⟨c1, hst, fun w hw l hlw z => ?_, ?_⟩
  · rw [ew] at hw
    obtain ⟨y, hy, rfl⟩ := List.mem_map.mp hw
    by_cases e : y.1 = x.1
    · rw [if_pos e] at hlw
      have hlw : l ∈ y.2.left.drop 1 := hlw
      have : y = x := by
        have h1 := getT_nd c.wn (show (y.1, y.2) ∈ dk.who from hy)
        have h2 := getT_nd c.wn (show (x.1, x.2) ∈ dk.who from hx)
        rw [e, h2] at h1
        exact Prod.ext e (Option.some.inj h1).symm
      subst this
      have nd := c.l2 y hy
      rw [hl] at hlw nd
      rw [List.map_cons, List.nodup_cons] at nd
      exact nd.1 (List.mem_map.mpr ⟨l, hlw, z⟩)
    · rw [if_neg e] at hlw
      have := c.l1 y hy l hlw
      rw [z, hst] at this
      have := Option.some.inj this
      have := (Prod.ext_iff.mp this).2
      exact e (Option.some.inj this).symm
  · rw [ew, List.map_map]
    refine List.mem_map.mpr ⟨x, hx, ?_⟩
    show (if x.1 = x.1 then _ else x).1 = x.1
    rw [if_pos rfl]
structure FreeJ (d0 : Dk) (nm : Nm) (h : Int) (d : Dk) : Prop where
  dc : DC NoE d
  mq : d.marks = d0.marks
  wh : d.who = d0.who
  pl : d.plugged = d0.plugged
  fr : d.fresh = d0.fresh
  lg : d.log = d0.log
  st : getT d.states nm = some (.held, some h)
  fn : ∀ x ∈ d.keys, x.dropLast = nm → x.length ≠ 1 → getT d.states x = some (.free, none)
  sup : ∀ x ∈ d0.keys, x ∈ d.keys
theorem FreeJ.step {d0 d : Dk} {nm one : Nm} {h : Int} (j : FreeJ d0 nm h d) (hn : 1 ≤ nm.length) (hone : one ∈ d.marks.map (·.1)) (hl : ∀ w ∈ d0.who, ∀ l ∈ w.2.left, l.2.length ≠ 1 → l.2.dropLast ≠ nm) : FreeJ d0 nm h (Dk.freeIn nm d one) := by
  unfold Dk.freeIn
  split
  · rename_i e
    have hg : ∀ k, getT (d.putS one (.free, none)).states k = if k = one then some (.free, none) else getT d.states k := fun k => getT_put _ _ _ _
    have l1 : one.length ≠ 1 := fun z => by
      have : one.dropLast.length = one.length - 1 := List.length_dropLast
      rw [e] at this; omega
    have c := j.dc
    have ne : nm ≠ one := fun z => by
      have : one.dropLast.length = one.length - 1 := List.length_dropLast
      rw [e, ← z] at this; omega
    refine ⟨c.put hone (fun _ => ⟨_, by rw [e]; exact j.st, .inl rfl⟩) (fun h z => by cases z) (fun z => absurd rfl z) (fun w hw l hlw z => ?_) (.inr fun x hx hx1 z => ?_), j.mq, j.wh, j.pl, j.fr, j.lg, ?_, fun x hx e2 hx1 => ?_, fun x hx => putS_in (.inl (j.sup x hx))⟩
    · rw [j.wh] at hw
      exact hl w hw l hlw (by rw [z]; exact l1) (by rw [z]; exact e)
    · obtain ⟨s, e1, e2⟩ := c.ch x hx hx1
      rw [z] at e1
      have := j.fn one (getT_in e1) e l1
      rw [this] at e1
      cases e1
      rcases e2 with e2 | e2 <;> cases e2
    · rw [hg, if_neg ne]; exact j.st
    · rw [hg]
      by_cases e3 : x = one
      · rw [if_pos e3]
      · rw [if_neg e3]
        rcases keys_putS hx with y | y
        · exact j.fn x y e2 hx1
        · exact absurd y e3
  · exact j
theorem FreeJ.fold {d0 : Dk} {nm : Nm} {h : Int} (hn : 1 ≤ nm.length) (hl : ∀ w ∈ d0.who, ∀ l ∈ w.2.left, l.2.length ≠ 1 → l.2.dropLast ≠ nm) : ∀ (l : List Nm) (d : Dk), (∀ one ∈ l, one ∈ d0.marks.map (·.1)) → FreeJ d0 nm h d → FreeJ d0 nm h (l.foldl (Dk.freeIn nm) d)
  | [], d, _, j => j
  | x :: l, d, hm, j => FreeJ.fold hn hl l _ (fun y hy => hm y (List.mem_cons_of_mem _ hy)) (j.step hn (by rw [j.mq]; exact hm x List.mem_cons_self) hl)
theorem Done.take {dk d1 : Dk} {h : Int} {nm : Nm} (c : Done dk h (true, nm) d1) : FreeJ d1 nm h (d1.putS nm (.held, some h)) ∧ 1 ≤ nm.length ∧ (∀ w ∈ d1.who, ∀ l ∈ w.2.left, l.2.length ≠ 1 → l.2.dropLast ≠ nm) := by
  have d := c.dc
  have hk : nm ∈ d1.keys := getT_in c.st
  have hn := (d.ks nm hk).1
  have nch : ∀ x ∈ d1.keys, x.length ≠ 1 → x.dropLast ≠ nm := fun x hx h1 z => by
    obtain ⟨s, e1, e2⟩ := d.ch x hx h1
    rw [z, c.st] at e1
    cases e1
    rcases e2 with e2 | e2 <;> cases e2
  refine ⟨⟨d.put (d.km nm hk) (d.ch nm hk) (fun g e => by cases e; exact .inl c.hw) (fun _ z => by cases z) c.nl (.inl (.inl rfl)), rfl, rfl, rfl, rfl, rfl, ?_, fun x hx e h1 => ?_, fun x hx => putS_in (.inl hx)⟩, hn, fun w hw l hl h1 => nch _ (d.lk w hw l hl) h1⟩
  · show getT (putT _ _ _) _ = _
    rw [getT_put, if_pos rfl]
  · rw [putS_keys hk] at hx
    exact absurd e (nch x hx h1)
theorem DI.did {dk : Dk} (c : DI dk) {x : Int × HpS} (hx : x ∈ dk.who) {lt : Lt} {rest : List Lt} (hl : x.2.left = lt :: rest) : DI (dk.did x.1 lt) ∧ (dk.did x.1 lt).log.length = dk.log.length + 1 ∧ (dk.did x.1 lt).fresh = dk.fresh ∧ (dk.did x.1 lt).plugged = dk.plugged ∧ (dk.did x.1 lt).who.map (·.1) = dk.who.map (·.1) := by
  have dn := c.done1 hx hl
  have ll : (dk.done1 x.1 lt).log.length = dk.log.length + 1 := by show (dk.log ++ [_]).length = _; simp
  have ew : (dk.done1 x.1 lt).who.map (·.1) = dk.who.map (·.1) := by
    show (dk.who.map _).map _ = _
    rw [List.map_map]
    exact List.map_congr_left fun p _ => by show (if p.1 = x.1 then _ else p).1 = p.1; split <;> rfl
  have hk : lt.2 ∈ (dk.done1 x.1 lt).keys := getT_in dn.st
  rw [did_eq]
  obtain ⟨b, nm⟩ := lt
  have ep : (dk.done1 x.1 (b, nm)).plugged = dk.plugged := rfl
  cases b with
  | true =>
    obtain ⟨j0, hn, hw⟩ := dn.take
    have j := FreeJ.fold hn hw ((dk.done1 x.1 (true, nm)).marks.map (·.1)) _ (fun _ h => h) j0
    rw [if_pos rfl]
    refine ⟨⟨j.dc, fun p hp => ?_⟩, by rw [j.lg]; exact ll, j.fr, j.pl, by rw [j.wh]; exact ew⟩
    rw [j.pl] at hp
    exact j.sup _ (c.pk p hp)
  | false =>
    rw [if_neg (fun z => by cases z), innerGone_cut dn.dc.toCl (by have := dn.dc.ks nm hk; show 3 ≤ nm.length + 2; omega)]
    refine ⟨⟨dn.dc.freed hk dn.nl, fun p hp => ?_⟩, ll, rfl, rfl, ?_⟩
    · exact putS_in (.inl (mem_cut.mpr ⟨c.pk p hp, und_top (dn.dc.ks nm hk).1 rfl⟩))
    · rw [← ew]
      show ((dk.done1 x.1 (false, nm)).who.map _).map _ = _
      rw [List.map_map]; rfl
end DM

namespace DM
open PySem PySem.Spec PyProof.Rows L2
section
variable {CD CH : Addr} {S : Store} {a : At} {dk : Dk}
/-- a helper comes -/
theorem DeskAt.newH (H : DeskAt CD CH S a dk) {n : Int} (hn : n ∉ dk.who.map (·.1)) (x : HpS) (hx : x.left = []) :
    DeskAt CD CH ((S ++ [Ob.ins CH (helpFs x (S.length, S.length + 1)), Ob.lst []]).set a.lw (.dK (putT ((dk.who.zip a.hp).map fun x => (kI x.1.1, D.loc x.2.1)) (kI n) (.loc S.length)))) { a with hp := a.hp ++ [(S.length, S.length + 1)] } { dk with who := dk.who ++ [(n, x)] } := by
  have hz := zip_fst (who := dk.who) (hp := a.hp) H.hlen
  have ep : putT ((dk.who.zip a.hp).map fun x => (kI x.1.1, D.loc x.2.1)) (kI n) (.loc S.length) = ((dk.who ++ [(n, x)]).zip (a.hp ++ [(S.length, S.length + 1)])).map fun x => (kI x.1.1, D.loc x.2.1) := by
    rw [putT_new _ (getT_none fun z => ?_), List.zip_append H.hlen.symm, List.map_append]
    · rfl
    · obtain ⟨p, hp, e⟩ := List.mem_map.mp z
      obtain ⟨q, hq, rfl⟩ := List.mem_map.mp hp
      refine hn ?_
      rw [← kI_inj _ _ e]
      exact List.mem_map.mpr ⟨q.1, (List.of_mem_zip hq).1, rfl⟩
  rw [ep]
  have H0 : DeskAt CD CH (S ++ [Ob.ins CH (helpFs x (S.length, S.length + 1)), Ob.lst []]) a dk := H.app
  obtain ⟨f, s, g⟩ := H0.fixn (l := a.lw) (by simp [At.fix]) (o := .dK (((dk.who ++ [(n, x)]).zip (a.hp ++ [(S.length, S.length + 1)])).map fun x => (kI x.1.1, D.loc x.2.1)))
  obtain ⟨a1, a2, a3, a4, a5, a6, b1, b2, b3, b4, b5, c1, c2, c3, c4, d1, d2, d3, e1, e2, f1⟩ := H.fne
  have lt := H.lt
  have lw := lt a.lw (At.fix_all (by simp [At.fix]))
  refine ⟨?_, ?_, ?_, s, ?_, ?_, ?_, by simp [H.hlen], fun i h p h1 h2 => ?_, ?_⟩
  · rw [f _ (by simp [At.fix]) a3]; exact H0.self
  · rw [f _ (by simp [At.fix]) b2]; exact H0.plugged
  · rw [f _ (by simp [At.fix]) c1]; exact H0.marks
  · rw [f _ (by simp [At.fix]) (Ne.symm d1)]; exact H0.states
  · rw [f _ (by simp [At.fix]) (Ne.symm d2)]; exact H0.fresh
  · rw [f _ (by simp [At.fix]) (Ne.symm d3)]; exact H0.log
  · have h1 : (dk.who ++ [(n, x)])[i]? = some h := h1
    have h2 : (a.hp ++ [(S.length, S.length + 1)])[i]? = some p := h2
    by_cases hi : i < dk.who.length
    · rw [List.getElem?_append_left hi] at h1
      rw [List.getElem?_append_left (by rw [H.hlen]; exact hi)] at h2
      rw [(g i p h2).1, (g i p h2).2]; exact H0.help i h p h1 h2
    · rw [List.getElem?_append_right (by omega)] at h1
      rw [List.getElem?_append_right (by rw [H.hlen]; omega)] at h2
      have h0 : i - dk.who.length = 0 := by
        have := (List.getElem?_eq_some_iff.mp h1).1
        simpa using this
      rw [h0] at h1
      rw [H.hlen, h0] at h2
      cases h1; cases h2
      rw [List.getElem?_set_ne (by show a.lw ≠ S.length; omega), List.getElem?_set_ne (by show a.lw ≠ S.length + 1; omega)]
      refine ⟨by simp, ?_⟩
      rw [List.getElem?_append_right (by show S.length ≤ S.length + 1; omega)]
      show [_, Ob.lst []][S.length + 1 - S.length]? = _
      rw [Nat.add_sub_cancel_left, hx]; rfl
  · have e : ({ a with hp := a.hp ++ [(S.length, S.length + 1)] } : At).all = a.all ++ [S.length, S.length + 1] := by
      simp [At.all, At.hps, At.fix]
    rw [e, List.nodup_append]
    refine ⟨H.nd, by simp, fun j hj k hk => ?_⟩
    have := lt j hj
    simp at hk
    omega
theorem At.newH_sub {a : At} {n : Nat} : ∀ j ∈ ({ a with hp := a.hp ++ [(n, n + 1)] } : At).all, j ∈ a.all ∨ n ≤ j := fun j hj => by
  have e : ({ a with hp := a.hp ++ [(n, n + 1)] } : At).all = a.all ++ [n, n + 1] := by
    simp [At.all, At.hps, At.fix]
  rw [e] at hj
  rcases List.mem_append.mp hj with h | h
  · exact .inl h
  · simp at h; omega
theorem zip_maps {α β : Type} : ∀ l : List (α × β), (l.map (·.1)).zip (l.map (·.2)) = l
  | [] => rfl
  | x :: l => congrArg (List.cons x) (zip_maps l)
theorem zip_fst2 {α β : Type} : ∀ {l : List α} {m : List β}, m.length = l.length → (l.zip m).map (·.1) = l
  | [], m, _ => rfl
  | x :: l, [], h => by simp at h
  | x :: l, y :: m, h => congrArg (List.cons x) (zip_fst2 (by simpa using h))
theorem zip_snd2 {α β : Type} : ∀ {l : List α} {m : List β}, m.length = l.length → (l.zip m).map (·.2) = m
  | [], [], _ => rfl
  | [], y :: m, h => by simp at h
  | x :: l, [], h => by simp at h
  | x :: l, y :: m, h => congrArg (List.cons y) (zip_snd2 (by simpa using h))
def At.dropH (a : At) (dk : Dk) (n : Int) : At := { a with hp := ((dk.who.zip a.hp).filter fun x => decide (x.1.1 ≠ n)).map (·.2) }
theorem drop_who {dk : Dk} {a : At} (h : a.hp.length = dk.who.length) (n : Int) : ((dk.who.zip a.hp).filter fun x => decide (x.1.1 ≠ n)).map (·.1) = dropT dk.who n := by
  have := List.filter_map (f := fun x : (Int × HpS) × Nat × Nat => x.1) (p := fun kv : Int × HpS => decide (kv.1 ≠ n)) (l := dk.who.zip a.hp)
  rw [zip_fst2 h] at this
  exact this.symm
theorem sub_flat {α β : Type} {f : α → List β} {l m : List α} (h : l.Sublist m) : (l.flatMap f).Sublist (m.flatMap f) := by
  induction h with
  | slnil => exact List.Sublist.refl _
  | cons x _ ih => rw [List.flatMap_cons]; exact ih.trans (List.sublist_append_right _ _)
  | cons_cons x _ ih => rw [List.flatMap_cons, List.flatMap_cons]; exact (List.Sublist.refl _).append ih
theorem At.dropH_sub (a : At) (dk : Dk) (n : Int) (h : a.hp.length = dk.who.length) : (a.dropH dk n).hp.Sublist a.hp := by
  have : ((dk.who.zip a.hp).filter fun x => decide (x.1.1 ≠ n)).Sublist (dk.who.zip a.hp) := List.filter_sublist
  have := this.map (·.2)
  rw [zip_snd2 h] at this
  exact this
/-- a helper goes -/
theorem DeskAt.dropH (H : DeskAt CD CH S a dk) (n : Int) : DeskAt CD CH (S.set a.lw (.dK (dropT ((dk.who.zip a.hp).map fun x => (kI x.1.1, D.loc x.2.1)) (kI n)))) (a.dropH dk n) { dk with who := dropT dk.who n } := by
  have ez : (dropT dk.who n).zip (a.dropH dk n).hp = (dk.who.zip a.hp).filter fun x => decide (x.1.1 ≠ n) := by
    rw [← drop_who H.hlen]; exact zip_maps _
  have ed : dropT ((dk.who.zip a.hp).map fun x => (kI x.1.1, D.loc x.2.1)) (kI n) = ((dropT dk.who n).zip (a.dropH dk n).hp).map fun x => (kI x.1.1, D.loc x.2.1) := by
    rw [ez]
    unfold dropT
    rw [List.filter_map]
    congr 1
    refine List.filter_congr fun x _ => ?_
    show decide (kI x.1.1 ≠ kI n) = decide (x.1.1 ≠ n)
    by_cases e : x.1.1 = n
    · simp [e]
    · have : kI x.1.1 ≠ kI n := fun z => e (kI_inj _ _ z)
      simp [e, this]
  rw [ed]
  obtain ⟨f, s, g⟩ := H.fixn (l := a.lw) (by simp [At.fix]) (o := .dK (((dropT dk.who n).zip (a.dropH dk n).hp).map fun x => (kI x.1.1, D.loc x.2.1)))
  obtain ⟨a1, a2, a3, a4, a5, a6, b1, b2, b3, b4, b5, c1, c2, c3, c4, d1, d2, d3, e1, e2, f1⟩ := H.fne
  refine ⟨?_, ?_, ?_, s, ?_, ?_, ?_, ?_, fun i h p h1 h2 => ?_, ?_⟩
  · show (S.set a.lw _)[a.l]? = _
    rw [f _ (by simp [At.fix]) a3]; exact H.self
  · show (S.set a.lw _)[a.lp]? = _
    rw [f _ (by simp [At.fix]) b2]; exact H.plugged
  · show (S.set a.lw _)[a.lm]? = _
    rw [f _ (by simp [At.fix]) c1]; exact H.marks
  · show (S.set a.lw _)[a.ls]? = _
    rw [f _ (by simp [At.fix]) (Ne.symm d1)]; exact H.states
  · show (S.set a.lw _)[a.lf]? = _
    rw [f _ (by simp [At.fix]) (Ne.symm d2)]; exact H.fresh
  · show (S.set a.lw _)[a.lg]? = _
    rw [f _ (by simp [At.fix]) (Ne.symm d3)]; exact H.log
  · show (((dk.who.zip a.hp).filter _).map (·.2)).length = (dropT dk.who n).length
    rw [← drop_who H.hlen, List.length_map, List.length_map]
  · have h1 : (dropT dk.who n)[i]? = some h := h1
    have hz : ((dropT dk.who n).zip (a.dropH dk n).hp)[i]? = some (h, p) := by rw [List.zip_eq_zipWith, List.getElem?_zipWith, h1, h2]
    rw [ez] at hz
    have hm := (List.mem_filter.mp (List.mem_of_getElem? hz)).1
    obtain ⟨j, hj, e⟩ := List.mem_iff_getElem.mp hm
    have hj' : (dk.who.zip a.hp)[j]? = some (h, p) := by rw [List.getElem?_eq_getElem hj, e]
    have q1 : dk.who[j]? = some h := by
      have := congrArg (fun l => l[j]?) (zip_fst2 (l := dk.who) H.hlen)
      rw [← this]; show ((dk.who.zip a.hp).map (·.1))[j]? = _
      rw [List.getElem?_map, hj']; rfl
    have q2 : a.hp[j]? = some p := by
      have := congrArg (fun l => l[j]?) (zip_snd2 (l := dk.who) H.hlen)
      rw [← this]; show ((dk.who.zip a.hp).map (·.2))[j]? = _
      rw [List.getElem?_map, hj']; rfl
    rw [(g j p q2).1, (g j p q2).2]; exact H.help j h p q1 q2
  · obtain ⟨n1, n2, n3⟩ := At.nds H.nd
    have sub : (a.dropH dk n).hps.Sublist a.hps := sub_flat (At.dropH_sub a dk n H.hlen)
    exact List.nodup_append.mpr ⟨n1, n2.sublist sub, fun x hx y hy => n3 x hx y (sub.subset hy)⟩
theorem Fra.dropH (H : DeskAt CD CH S a dk) (n : Int) {o : Ob} : Fra S (S.set a.lw o) a (a.dropH dk n) := ⟨by simp, fun j u hj e => by
  rw [List.getElem?_set_ne (fun z => hj (by rw [← z]; exact At.fix_all (by simp [At.fix])))]; exact e, fun j hj => by
  rcases List.mem_append.mp hj with h | h
  · exact .inl (List.mem_append_left _ h)
  · exact .inl (List.mem_append_right _ ((sub_flat (At.dropH_sub a dk n H.hlen)).subset h)), rfl⟩
theorem Fra.newH {G : List Ob} {o : Ob} (h : G.length = 2) : Fra S ((S ++ G).set a.lw o) a { a with hp := a.hp ++ [(S.length, S.length + 1)] } := ⟨by simp, fun j u hj e => by
  rw [List.getElem?_set_ne (fun z => hj (by rw [← z]; exact At.fix_all (by simp [At.fix])))]; exact get_app e, At.newH_sub, rfl⟩
theorem dict_arg (ps : List (Nm × List Int)) : ps.map wD = (mapT kN eM ps).map fun kv => D.tup [ktD kv.1, kv.2] := by
  unfold mapT
  rw [List.map_map]
  exact List.map_congr_left fun p _ => by show D.tup [eM p.1, eM p.2] = .tup [ktD (kN p.1), eM p.2]; rw [eM_key p.1]
theorem dict_new {ps : List (Nm × List Int)} (h : (ps.map (·.1)).Nodup) : putAllT ([] : List (List Key × D)) (mapT kN eM ps) = mapT kN eM ps := by
  have := put_marks (a := []) (b := ps) (by simpa using h)
  exact this
end
end DM

namespace DM
open PySem PySem.Spec PyProof.Rows L2
/-! ### == on data with strings in it -/
def pv : Nat → D → Bool
  | 0, .tup _ => false
  | n + 1, .tup xs => xs.all (pv n)
  | _, .non => true
  | _, .int _ => true
  | _, .str x => PyData.strOk x
  | _, _ => false
theorem pv_tup {n : Nat} {xs : List D} (h : pv n (.tup xs) = true) : ∃ m, n = m + 1 ∧ ∀ x ∈ xs, pv m x = true := by
  cases n with
  | zero => simp [pv] at h
  | succ m =>
    have h' : xs.all (pv m) = true := h
    rw [List.all_eq_true] at h'
    exact ⟨m, rfl, h'⟩
theorem pv_str {n : Nat} {x : Str} (h : pv n (.str x) = true) : PyData.strOk x = true := by
  cases n <;> exact h
theorem pv_pd (S : Store) : ∀ (n : Nat) (x : D), pv n x = true → PD S x (toP x) ∧ (toP x).canLay0 = true ∧ (toP x).depth ≤ n
  | n, .non, _ => ⟨.non, rfl, Nat.zero_le _⟩
  | n, .int i, _ => ⟨.int i, rfl, Nat.zero_le _⟩
  | n, .str x, h => ⟨.str x, by show PyData.canLay0 (.str x) = true; simp only [PyData.canLay0]; exact pv_str h, Nat.zero_le _⟩
  | n, .tup xs, h => by
    obtain ⟨m, e, h2⟩ := pv_tup h
    subst e
    have all : ∀ ys : List D, (∀ x ∈ ys, pv m x = true) → PDs S ys (toPs ys) ∧ PyData.canLayAll0 (toPs ys) = true ∧ PyData.depthAll (toPs ys) ≤ m := by
      intro ys
      induction ys with
      | nil => intro _; exact ⟨.nil, rfl, Nat.zero_le _⟩
      | cons y ys ih =>
        intro hy
        obtain ⟨a1, a2, a3⟩ := pv_pd S m y (hy y List.mem_cons_self)
        obtain ⟨b1, b2, b3⟩ := ih fun x hx => hy x (List.mem_cons_of_mem _ hx)
        refine ⟨.cons a1 b1, ?_, ?_⟩
        · show ((toP y).canLay0 && PyData.canLayAll0 (toPs ys)) = true
          rw [a2, b2]; rfl
        · show max (toP y).depth (PyData.depthAll (toPs ys)) ≤ m
          omega
    obtain ⟨a, b, c⟩ := all xs h2
    exact ⟨.tup a, b, Nat.succ_le_succ c⟩
  | 0, .bl _, h => by simp [pv] at h
  | n + 1, .bl _, h => by simp [pv] at h
  | 0, .ty _, h => by simp [pv] at h
  | n + 1, .ty _, h => by simp [pv] at h
  | 0, .ref _, h => by simp [pv] at h
  | n + 1, .ref _, h => by simp [pv] at h
  | 0, .loc _, h => by simp [pv] at h
  | n + 1, .loc _, h => by simp [pv] at h
  | 0, .scr _, h => by simp [pv] at h
  | n + 1, .scr _, h => by simp [pv] at h
theorem pvs_pd (S : Store) {n : Nat} : ∀ (ys : List D), (∀ x ∈ ys, pv n x = true) → PDs S ys (toPs ys) ∧ PyData.canLayAll0 (toPs ys) = true ∧ PyData.depthAll (toPs ys) ≤ n
  | [], _ => ⟨.nil, rfl, Nat.zero_le _⟩
  | y :: ys, hy => by
    obtain ⟨a1, a2, a3⟩ := pv_pd S n y (hy y List.mem_cons_self)
    obtain ⟨b1, b2, b3⟩ := pvs_pd S ys fun x hx => hy x (List.mem_cons_of_mem _ hx)
    refine ⟨.cons a1 b1, ?_, ?_⟩
    · show ((toP y).canLay0 && PyData.canLayAll0 (toPs ys)) = true
      rw [a2, b2]; rfl
    · show max (toP y).depth (PyData.depthAll (toPs ys)) ≤ n
      omega
theorem eqv_str (x y : Str) : PyData.eqv (.str x) (.str y) = decide (x = y) := by
  simp [PyData.eqv] <;> rfl
theorem pv_eqv : ∀ (n : Nat) (x y : D), pv n x = true → pv n y = true → PyData.eqv (toP x) (toP y) = decide (x = y)
  | n, .non, y, _, h => by cases n <;> cases y <;> first | (simp [pv] at h; done) | simp [toP, PyData.eqv]
  | n, .int i, y, _, h => by cases n <;> cases y <;> first | (simp [pv] at h; done) | simp [toP, PyData.eqv] <;> rfl
  | n, .str i, y, _, h => by
    cases y with
    | str j => show PyData.eqv (.str i) (.str j) = _; rw [eqv_str]; simp
    | non => simp [toP, PyData.eqv]
    | int _ => simp [toP, PyData.eqv]
    | tup _ => simp [toP, PyData.eqv]
    | _ => cases n <;> simp [pv] at h
  | 0, .tup xs, y, h, _ => by simp [pv] at h
  | n + 1, .tup xs, y, h, g => by
    cases y with
    | tup ys =>
      obtain ⟨m, e, h2⟩ := pv_tup h
      cases e
      obtain ⟨m', e', g2⟩ := pv_tup g
      cases e'
      have all : ∀ (xs ys : List D), (∀ x ∈ xs, pv n x = true) → (∀ x ∈ ys, pv n x = true) → PyData.eqvAll (toPs xs) (toPs ys) = decide (xs = ys) := by
        intro xs
        induction xs with
        | nil => intro ys _ _; cases ys <;> simp [toPs, PyData.eqvAll]
        | cons x xs ih =>
          intro ys hx hy
          cases ys with
          | nil => simp [toPs, PyData.eqvAll]
          | cons y ys =>
            have e1 := pv_eqv n x y (hx x List.mem_cons_self) (hy y List.mem_cons_self)
            have e2 := ih ys (fun z hz => hx z (List.mem_cons_of_mem _ hz)) (fun z hz => hy z (List.mem_cons_of_mem _ hz))
            show (PyData.eqv (toP x) (toP y) && PyData.eqvAll (toPs xs) (toPs ys)) = _
            rw [e1, e2]
            by_cases h1 : x = y <;> by_cases h2 : xs = ys <;> simp [h1, h2]
      show PyData.eqvAll (toPs xs) (toPs ys) = _
      rw [all xs ys h2 g2]
      simp
    | non => simp [toP, PyData.eqv]
    | int _ => simp [toP, PyData.eqv]
    | str _ => simp [toP, PyData.eqv]
    | _ => simp [pv] at g
  | 0, .bl _, _, h, _ => by simp [pv] at h
  | n + 1, .bl _, _, h, _ => by simp [pv] at h
  | 0, .ty _, _, h, _ => by simp [pv] at h
  | n + 1, .ty _, _, h, _ => by simp [pv] at h
  | 0, .ref _, _, h, _ => by simp [pv] at h
  | n + 1, .ref _, _, h, _ => by simp [pv] at h
  | 0, .loc _, _, h, _ => by simp [pv] at h
  | n + 1, .loc _, _, h, _ => by simp [pv] at h
  | 0, .scr _, _, h, _ => by simp [pv] at h
  | n + 1, .scr _, _, h, _ => by simp [pv] at h
theorem pvs_eqv {n : Nat} : ∀ (xs ys : List D), (∀ x ∈ xs, pv n x = true) → (∀ x ∈ ys, pv n x = true) → PyData.eqvAll (toPs xs) (toPs ys) = decide (xs = ys)
  | [], ys, _, _ => by cases ys <;> simp [toPs, PyData.eqvAll]
  | x :: xs, [], _, _ => by simp [toPs, PyData.eqvAll]
  | x :: xs, y :: ys, hx, hy => by
    have e1 := pv_eqv n x y (hx x List.mem_cons_self) (hy y List.mem_cons_self)
    have e2 := pvs_eqv xs ys (fun z hz => hx z (List.mem_cons_of_mem _ hz)) (fun z hz => hy z (List.mem_cons_of_mem _ hz))
    show (PyData.eqv (toP x) (toP y) && PyData.eqvAll (toPs xs) (toPs ys)) = _
    rw [e1, e2]
    by_cases h1 : x = y <;> by_cases h2 : xs = ys <;> simp [h1, h2]
section
variable {X : Cx} {S : Store} {Q : D → Store → Prop}
theorem BW.eqV {x y : D} (hx : pv 60 x = true) (hy : pv 60 y = true) (hu : X.A.units + 64 < cLine) (h : Q (.bl (decide (x = y))) S) : BW X (compareOp .Eq) x y S Q := by
  obtain ⟨a1, a2, a3⟩ := pv_pd S 60 x hx
  obtain ⟨b1, b2, b3⟩ := pv_pd S 60 y hy
  refine BW.eqD a1 b1 (shaped_of a2 (by omega)) (shaped_of b2 (by omega)) hu ?_
  rw [pv_eqv 60 x y hx hy]; exact h
theorem BW.neV {x y : D} (hx : pv 60 x = true) (hy : pv 60 y = true) (hu : X.A.units + 64 < cLine) (h : Q (.bl (!decide (x = y))) S) : BW X (compareOp .NotEq) x y S Q := by
  obtain ⟨a1, a2, a3⟩ := pv_pd S 60 x hx
  obtain ⟨b1, b2, b3⟩ := pv_pd S 60 y hy
  refine BW.neD a1 b1 (shaped_of a2 (by omega)) (shaped_of b2 (by omega)) hu ?_
  rw [pv_eqv 60 x y hx hy]; exact h
theorem BW.eqVL {l m : Nat} {xs ys : List D} (hl : S[l]? = some (.lst xs)) (hm : S[m]? = some (.lst ys)) (hx : ∀ x ∈ xs, pv 60 x = true) (hy : ∀ x ∈ ys, pv 60 x = true) (hu : X.A.units + 64 < cLine) (h : Q (.bl (decide (xs = ys))) S) : BW X (compareOp .Eq) (.loc l) (.loc m) S Q := by
  obtain ⟨a1, a2, a3⟩ := pvs_pd S xs hx
  obtain ⟨b1, b2, b3⟩ := pvs_pd S ys hy
  refine BW.eqD (.lst hl a1) (.lst hm b1) (shaped_of a2 (by show _ + 1 ≤ 64; omega)) (shaped_of b2 (by show _ + 1 ≤ 64; omega)) hu ?_
  show Q (.bl (PyData.eqvAll (toPs xs) (toPs ys))) S
  rw [pvs_eqv xs ys hx hy]; exact h
theorem BW.neVL {l m : Nat} {xs ys : List D} (hl : S[l]? = some (.lst xs)) (hm : S[m]? = some (.lst ys)) (hx : ∀ x ∈ xs, pv 60 x = true) (hy : ∀ x ∈ ys, pv 60 x = true) (hu : X.A.units + 64 < cLine) (h : Q (.bl (!decide (xs = ys))) S) : BW X (compareOp .NotEq) (.loc l) (.loc m) S Q := by
  obtain ⟨a1, a2, a3⟩ := pvs_pd S xs hx
  obtain ⟨b1, b2, b3⟩ := pvs_pd S ys hy
  refine BW.neD (.lst hl a1) (.lst hm b1) (shaped_of a2 (by show _ + 1 ≤ 64; omega)) (shaped_of b2 (by show _ + 1 ≤ 64; omega)) hu ?_
  show Q (.bl (!PyData.eqvAll (toPs xs) (toPs ys))) S
  rw [pvs_eqv xs ys hx hy]; exact h
end
theorem pv_nm {n : Nat} (nm : Nm) : pv (n + 1) (eM nm) = true := by
  show (nm.map D.int).all (pv n) = true
  rw [List.all_eq_true]
  intro x hx
  obtain ⟨i, _, rfl⟩ := List.mem_map.mp hx
  cases n <;> rfl
theorem ltS_ok (b : Bool) : PyData.strOk (ltS b) = true := by cases b <;> decide +kernel
theorem sta_ok (s : Sta) : PyData.strOk s.s = true := by cases s <;> decide +kernel
theorem pv_ltD (lt : Lt) : pv 60 (ltD lt) = true := by
  show (pv 59 (.str (ltS lt.1)) && (pv 59 (eM lt.2) && true)) = true
  rw [pv_nm]
  show (PyData.strOk _ && _) = true
  rw [ltS_ok]; rfl
theorem pv_rows (l : List Lt) : ∀ x ∈ l.map ltD, pv 60 x = true := fun x hx => by
  obtain ⟨y, _, rfl⟩ := List.mem_map.mp hx
  exact pv_ltD y
theorem pv_names (l : List Nm) : ∀ x ∈ l.map eM, pv 60 x = true := fun x hx => by
  obtain ⟨y, _, rfl⟩ := List.mem_map.mp hx
  exact pv_nm y
theorem ltD_inj {a b : Lt} (h : ltD a = ltD b) : a = b := by
  obtain ⟨a1, a2⟩ := a
  obtain ⟨b1, b2⟩ := b
  have h : D.tup [.str (ltS a1), eM a2] = .tup [.str (ltS b1), eM b2] := h
  injection h with h
  injection h with h1 h2
  injection h2 with h2 _
  injection h1 with h1
  have e1 : a1 = b1 := by cases a1 <;> cases b1 <;> first | rfl | (exact absurd h1 (by decide))
  have e2 : a2 = b2 := by
    have h : a2.map D.int = b2.map D.int := by injection h2
    exact (List.map_inj_right fun x y e => by injection e).mp h
  rw [e1, e2]
end DM

namespace DM
open PySem PySem.Spec PyProof.Rows L2
/-! ### d == {}, list(d), x in xs, xs * k, slices, len(set(xs)) -/
theorem hu65 {X : Cx} {k : Nat} (hr : Room k X.A) : X.A.units + 65 < cLine := by
  have := hr.un
  omega
section
variable {X : Cx}
theorem op_ne_dE (hu : X.A.units < cLine) : OpR X (compareOp .NotEq) (fun x y H Q => ∃ a b ks, x = .ref a ∧ y = .ref b ∧ H a = some (.dK ks) ∧ H b = some (.dK []) ∧ Q (.bl (!ks.isEmpty)) H) := by
  intro pins s σ H x y v u Q I rx ry h
  obtain ⟨a, b, ks, rfl, rfl, ea, eb, q⟩ := h
  obtain rfl : v = Value.ref a := rx
  obtain rfl : u = Value.ref b := ry
  obtain ⟨_, ya, va, ra, da⟩ := (show ObjOk X.prog X.w H s.heap a (.dK ks) from I.hok a _ ea)
  obtain ⟨_, yb, vb, rb, db⟩ := (show ObjOk X.prog X.w H s.heap b (.dK []) from I.hok b _ eb)
  have l1 : va.length = ks.length := ra.length.symm
  have l2 : vb.length = 0 := rb.length.symm
  cases ks with
  | nil => exact PySem.W.keq_ne (knd := mixKind X.prog X.w) (r := true) ya yb da db hu (fun _ => hits_all rb ra (fun _ h => by cases h)) (fin_bl I q (by rw [l1, l2]; rfl))
  | cons p ks => exact PySem.W.keq_ne (knd := mixKind X.prog X.w) (r := false) ya yb da db hu (fun e => by rw [l1, l2] at e; cases e) (fin_bl I q (by simp))
theorem op_eq_dE (hu : X.A.units < cLine) : OpR X (compareOp .Eq) (fun x y H Q => ∃ a b ks, x = .ref a ∧ y = .ref b ∧ H a = some (.dK ks) ∧ H b = some (.dK []) ∧ Q (.bl ks.isEmpty) H) := by
  intro pins s σ H x y v u Q I rx ry h
  obtain ⟨a, b, ks, rfl, rfl, ea, eb, q⟩ := h
  obtain rfl : v = Value.ref a := rx
  obtain rfl : u = Value.ref b := ry
  obtain ⟨_, ya, va, ra, da⟩ := (show ObjOk X.prog X.w H s.heap a (.dK ks) from I.hok a _ ea)
  obtain ⟨_, yb, vb, rb, db⟩ := (show ObjOk X.prog X.w H s.heap b (.dK []) from I.hok b _ eb)
  have l1 : va.length = ks.length := ra.length.symm
  have l2 : vb.length = 0 := rb.length.symm
  cases ks with
  | nil => exact PySem.W.keq_eq (knd := mixKind X.prog X.w) (r := true) ya yb da db hu (fun _ => hits_all rb ra (fun _ h => by cases h)) (fin_bl I q (by rw [l1, l2]; rfl))
  | cons p ks => exact PySem.W.keq_eq (knd := mixKind X.prog X.w) (r := false) ya yb da db hu (fun e => by rw [l1, l2] at e; cases e) (fin_bl I q (by simp))
end
section
variable {X : Cx} {S : Store} {Q : D → Store → Prop} {l m : Nat}
theorem dE_rd {F : List Addr} {H : Hp} {ks : List (Key × D)} {vx vy : V} (rs : RS F H S) (hl : S[l]? = some (.dK ks)) (hm : S[m]? = some (.dK [])) (rx : RD F H (.loc l) vx) (ry : RD F H (.loc m) vy) : ∃ a b vs, vx = .ref a ∧ vy = .ref b ∧ H a = some (.dK vs) ∧ H b = some (.dK []) ∧ vs.isEmpty = ks.isEmpty := by
  obtain ⟨a, rfl, ha⟩ := rx
  obtain ⟨b, rfl, hb⟩ := ry
  obtain ⟨a', u, h1, h2, vs, rfl, h4⟩ := rs.get hl
  obtain ⟨b', u2, g1, g2, vs2, rfl, g4⟩ := rs.get hm
  rw [ha] at h1; cases h1
  rw [hb] at g1; cases g1
  cases (show vs2 = [] from g4)
  refine ⟨a, b, vs, rfl, rfl, h2, g2, ?_⟩
  have := h4.length
  cases ks <;> cases vs <;> first | rfl | (simp at this)
theorem BW.neDE {ks : List (Key × D)} (hl : S[l]? = some (.dK ks)) (hm : S[m]? = some (.dK [])) (hu : X.A.units + 64 < cLine) (h : Q (.bl (!ks.isEmpty)) S) : BW X (compareOp .NotEq) (.loc l) (.loc m) S Q := BW.of (op_ne_dE (by omega)) fun F H vx vy Q' rs rx ry k => by
  obtain ⟨a, b, vs, rfl, rfl, h1, h2, h3⟩ := dE_rd rs hl hm rx ry
  exact ⟨a, b, vs, rfl, rfl, h1, h2, by rw [h3]; exact k.nowB rs h⟩
theorem BW.eqDE {ks : List (Key × D)} (hl : S[l]? = some (.dK ks)) (hm : S[m]? = some (.dK [])) (hu : X.A.units + 64 < cLine) (h : Q (.bl ks.isEmpty) S) : BW X (compareOp .Eq) (.loc l) (.loc m) S Q := BW.of (op_eq_dE (by omega)) fun F H vx vy Q' rs rx ry k => by
  obtain ⟨a, b, vs, rfl, rfl, h1, h2, h3⟩ := dE_rd rs hl hm rx ry
  exact ⟨a, b, vs, rfl, rfl, h1, h2, by rw [h3]; exact k.nowB rs h⟩
/-- list(d) -/
theorem RKs.kds {F : List Addr} {H : Hp} : ∀ {kvs : List (Key × D)} {vs : List (Key × V)}, RKs F H kvs vs → RDs F H (kvs.map fun kv => kdD kv.1) (vs.map fun kv => kV kv.1)
  | [], _, h => by cases (show _ = [] from h); rfl
  | kv :: kvs, _, h => by
    obtain ⟨v, r, rfl, _, h2⟩ := h
    refine ⟨kV kv.1, _, rfl, ?_, RKs.kds h2⟩
    obtain ⟨k, x⟩ := kv
    cases k <;> rfl
theorem CW.listDK {kvs : List (Key × D)} (hl : S[l]? = some (.dK kvs)) (hc : X.calm = true) (h : Q (.loc S.length) (S ++ [.lst (kvs.map fun kv => kdD kv.1)])) : CW X (.type "list") [.loc l] S Q := CW.of (call_listD hc) fun F H vs Q' rs r k => by
  obtain ⟨v, r', rfl, ⟨a, rfl, ha⟩, h2⟩ := r
  cases (show r' = [] from h2)
  obtain ⟨a', u, h1, h2, ws, rfl, h4⟩ := rs.get hl
  rw [ha] at h1; cases h1
  refine ⟨a, ws, rfl, .inl h2, fun p hp => ?_⟩
  exact k (F ++ [p]) (.loc S.length) (.ref p) _ _ ⟨[p], rfl⟩ (Keep.new hp) (rs.new (o := .lst (kvs.map fun kv => kdD kv.1)) hp ⟨_, rfl, h4.kds⟩) ⟨p, rfl, by rw [← rs.len]; simp⟩ h
/-- x in xs, pure data -/
theorem any_eqv {x : D} {xs : List D} (hx : pv 60 x = true) (hxs : ∀ y ∈ xs, pv 60 y = true) : ((toPs xs).any fun z => PyData.eqv z (toP x)) = decide (x ∈ xs) := by
  induction xs with
  | nil => rfl
  | cons y ys ih =>
    show (PyData.eqv (toP y) (toP x) || (toPs ys).any fun z => PyData.eqv z (toP x)) = _
    rw [ih fun z hz => hxs z (List.mem_cons_of_mem _ hz), pv_eqv 60 y x (hxs y List.mem_cons_self) hx]
    by_cases h : y = x
    · subst h; simp
    · by_cases h2 : x ∈ ys
      · simp [h2]
      · simp [h, h2, Ne.symm h]
theorem pvs_shaped {S : Store} {xs : List D} (h : ∀ y ∈ xs, pv 60 y = true) : SeqAt.shaped (.list (toPs xs)) = true := by
  obtain ⟨_, h2, h3⟩ := pvs_pd S xs h
  exact shaped_of (by simpa [PyData.canLay0] using h2) (by show PyData.depthAll (toPs xs) + 1 ≤ 64; omega)
theorem BW.inLD {x : D} {xs : List D} (hl : S[l]? = some (.lst xs)) (hx : pv 60 x = true) (hxs : ∀ y ∈ xs, pv 60 y = true) (hu : X.A.units + 65 < cLine) (h : Q (.bl (decide (x ∈ xs))) S) : BW X (compareOp .In) x (.loc l) S Q := BW.of (op_inD hu) fun F H vx vy Q' rs rx ry k => by
  obtain ⟨p1, p2, p3⟩ := pv_pd S 60 x hx
  obtain ⟨q1, q2, q3⟩ := pvs_pd S xs hxs
  have hy : PD S (.loc l) (.list (toPs xs)) := .lst hl q1
  refine ⟨toP x, toPs xs, p1.dp rs _ _ _ rx, hy.dp rs _ _ _ ry, shaped_of p2 (by omega), pvs_shaped (S := S) hxs, ?_⟩
  rw [any_eqv hx hxs]
  exact k.nowB rs h
theorem BW.notInLD {x : D} {xs : List D} (hl : S[l]? = some (.lst xs)) (hx : pv 60 x = true) (hxs : ∀ y ∈ xs, pv 60 y = true) (hu : X.A.units + 65 < cLine) (h : Q (.bl (!decide (x ∈ xs))) S) : BW X (compareOp .NotIn) x (.loc l) S Q := BW.of (op_notInD hu) fun F H vx vy Q' rs rx ry k => by
  obtain ⟨p1, p2, p3⟩ := pv_pd S 60 x hx
  obtain ⟨q1, q2, q3⟩ := pvs_pd S xs hxs
  have hy : PD S (.loc l) (.list (toPs xs)) := .lst hl q1
  refine ⟨toP x, toPs xs, p1.dp rs _ _ _ rx, hy.dp rs _ _ _ ry, shaped_of p2 (by omega), pvs_shaped (S := S) hxs, ?_⟩
  rw [any_eqv hx hxs]
  exact k.nowB rs h
/-- [x] * k -/
theorem RDs.rep {F : List Addr} {H : Hp} {xs : List D} {vs : List V} (r : RDs F H xs vs) : ∀ n : Nat, RDs F H (List.replicate n xs).flatten (List.replicate n vs).flatten
  | 0 => rfl
  | n + 1 => by
    rw [List.replicate_succ, List.replicate_succ, List.flatten_cons, List.flatten_cons]
    exact RDs.append r (RDs.rep r n)
theorem BW.repL {xs : List D} {i : Int} (hl : S[l]? = some (.lst xs)) (h0 : -(2 ^ 63) ≤ i) (h1 : i < 2 ^ 63) (hz : xs.length * i.toNat ≤ sizeLine) (h : Q (.loc S.length) (S ++ [.lst (List.replicate i.toNat xs).flatten])) : BW X (binaryOp .Mult) (.loc l) (.int i) S Q := BW.of op_rep fun F H vx vy Q' rs rx ry k => by
  obtain ⟨a, rfl, ha⟩ := rx
  cases (show vy = .int i from ry)
  obtain ⟨a', u, e1, e2, vs, rfl, e4⟩ := rs.get hl
  rw [ha] at e1; cases e1
  have el := e4.length
  refine ⟨a, i, vs, rfl, rfl, e2, h0, h1, by rw [el]; exact hz, fun p hp => ?_⟩
  exact k (F ++ [p]) (.loc S.length) (.ref p) _ _ ⟨[p], rfl⟩ (Keep.new hp) (rs.new (o := .lst (List.replicate i.toNat xs).flatten) hp ⟨_, rfl, e4.rep _⟩) ⟨p, rfl, by rw [← rs.len]; simp⟩ h
end
/-! #### slices -/
section
variable {X : Cx} {S : Store} {v : Fv} {e : Expr} {lo hi : Option Expr} {pos p2 : Pos}
theorem WO.none {Q : Option Int → Store → Prop} (h : Q none S) : WO X none v S Q := fun F t H Q' re rs k => wO_of po_none (k F Option.none H S (List.prefix_refl F) (Keep.refl H) rs h)
theorem WO.some {Q : Option Int → Store → Prop} (h : WE X e v S fun d S1 => ∃ i, d = .int i ∧ Q (some i) S1) : WO X (some e) v S Q := fun F t H Q' re rs k => by
  refine wO_of (po_some pe_w) ?_
  refine h F t H _ re rs fun F1 d u H1 S1 p1 k1 rs1 r1 h1 => ?_
  obtain ⟨i, rfl, q⟩ := h1
  cases r1
  exact ⟨i, rfl, k F1 _ H1 S1 p1 k1 rs1 q⟩
def cutD {α : Type} (xs : List α) (lo hi : Option Int) : List α := (xs.drop (HT.sIx xs.length 0 lo)).take (HT.sIx xs.length xs.length hi - HT.sIx xs.length 0 lo)
theorem RDs.cutD {F : List Addr} {H : Hp} {xs : List D} {vs : List V} (r : RDs F H xs vs) (lo hi : Option Int) : RDs F H (cutD xs lo hi) (cutV vs lo hi) := by
  unfold DM.cutD cutV
  rw [r.length]
  exact (r.drop _).take _
theorem cutD_map {α β : Type} (f : α → β) (xs : List α) (lo hi : Option Int) : cutD (xs.map f) lo hi = (cutD xs lo hi).map f := by
  unfold cutD
  rw [List.length_map, List.map_take, List.map_drop]
theorem cutD_from {α : Type} (xs : List α) (n : Nat) : cutD xs (some (n : Int)) none = xs.drop n := by
  unfold cutD
  rw [HT.sIx_nat, HT.sIx_none]
  by_cases h : n ≤ xs.length
  · rw [Nat.min_eq_left h, List.take_of_length_le (by rw [List.length_drop]; omega)]
  · rw [Nat.min_eq_right (by omega), List.drop_of_length_le (by omega), List.drop_of_length_le (by omega)]; simp
theorem cutD_to {α : Type} (xs : List α) (n : Nat) : cutD xs none (some (n : Int)) = xs.take n := by
  unfold cutD
  rw [HT.sIx_nat, HT.sIx_none]
  by_cases h : n ≤ xs.length
  · rw [Nat.min_eq_left h]; rfl
  · rw [Nat.min_eq_right (by omega), List.take_of_length_le (by omega : xs.length ≤ n), List.drop_zero, List.take_of_length_le (by omega)]
/-- xs[lo:hi] -/
theorem WE.slL {Q : D → Store → Prop} (h : WE X e v S fun d S1 => WO X lo v S1 fun a S2 => WO X hi v S2 fun b S3 => ∃ l xs, d = .loc l ∧ S3[l]? = some (.lst xs) ∧ Q (.loc S3.length) (S3 ++ [.lst (cutD xs a b)])) : WE X (.Subscript e (.Slice lo hi none p2) pos) v S Q := fun F t H Q' re rs k => by
  refine wE_of (pe_slice sl_list pe_w po_w po_w) ?_
  refine h F t H _ re rs fun F1 d u H1 S1 p1 k1 rs1 r1 h1 => ?_
  refine h1 F1 t H1 _ (re.mono p1 k1) rs1 fun F2 a H2 S2 p2' k2 rs2 h2 => ?_
  refine h2 F2 t H2 _ (re.mono (p1.trans p2') (k1.trans k2)) rs2 fun F3 b H3 S3 p3 k3 rs3 h3 => ?_
  obtain ⟨l, xs, rfl, hl, q⟩ := h3
  obtain ⟨ad, rfl, ha⟩ := RD.mono (p2'.trans p3) (k2.trans k3) _ _ r1
  obtain ⟨a', u', e1, e2, vs, rfl, e4⟩ := rs3.get hl
  rw [ha] at e1; cases e1
  refine ⟨ad, vs, rfl, SqL.of e2, fun p hp => ?_⟩
  exact k (F3 ++ [p]) (.loc S3.length) (.ref p) _ _ (((p1.trans p2').trans p3).trans ⟨[p], rfl⟩) (((k1.trans k2).trans k3).trans (Keep.new hp)) (rs3.new (o := .lst (cutD xs a b)) hp ⟨_, rfl, e4.cutD a b⟩) ⟨p, rfl, by rw [← rs3.len]; simp⟩ q
/-- t[lo:hi], a tuple -/
theorem WE.slTA {Q : D → Store → Prop} (h : WE X e v S fun d S1 => WO X lo v S1 fun a S2 => WO X hi v S2 fun b S3 => ∃ xs, d = .tup xs ∧ Q (.tup (cutD xs a b)) S3) : WE X (.Subscript e (.Slice lo hi none p2) pos) v S Q := fun F t H Q' re rs k => by
  refine wE_of (pe_slice sl_tupA pe_w po_w po_w) ?_
  refine h F t H _ re rs fun F1 d u H1 S1 p1 k1 rs1 r1 h1 => ?_
  refine h1 F1 t H1 _ (re.mono p1 k1) rs1 fun F2 a H2 S2 p2' k2 rs2 h2 => ?_
  refine h2 F2 t H2 _ (re.mono (p1.trans p2') (k1.trans k2)) rs2 fun F3 b H3 S3 p3 k3 rs3 h3 => ?_
  obtain ⟨xs, rfl, q⟩ := h3
  obtain ⟨ad, vs, rfl, e1, e2⟩ := RD.mono (p2'.trans p3) (k2.trans k3) _ _ r1
  have el : vs.length = xs.length := e2.length
  refine ⟨ad, vs, rfl, SqT.of e1, fun z => ?_, fun z p hp => ?_⟩
  · have ec : cutD xs a b = xs := by
      unfold cutD
      rw [el] at z
      rw [z.1, z.2]; simp
    rw [ec] at q
    exact k F3 (.tup xs) _ _ _ ((p1.trans p2').trans p3) ((k1.trans k2).trans k3) rs3 ⟨ad, vs, rfl, e1, e2⟩ q
  · have kp : Keep H3 (upd H3 p (.tup (cutV vs a b))) := Keep.new hp
    exact k F3 (.tup _) (.ref p) _ _ ((p1.trans p2').trans p3) (((k1.trans k2).trans k3).trans kp) (rs3.other hp) ⟨p, _, rfl, upd_same, RDs.mono (List.prefix_refl F3) kp _ _ (e2.cutD a b)⟩ q
end
/-! #### len(set(xs)), xs a list of tuples of ints, none twice -/
section
variable {X : Cx}
def tLenSetN (K : PySem.W.Frag) (ta : TE) : TE := fun σ H Q => ta σ H fun x H1 => ∃ (l : Addr) (ks : List (Addr × List Int)), x = V.ref l ∧ SqL K H1 l (ks.map fun p => V.ref p.1) ∧ (∀ p ∈ ks, SqT K H1 p.1 (p.2.map V.int)) ∧ ks.length < 64 ∧ (ks.map (·.2)).Nodup ∧ Q (.int ks.length) H1
theorem nodup_len {α β : Type} {f : α → β} {a b : List α} (ha : (a.map f).Nodup) (hb : (b.map f).Nodup) (h1 : ∀ p ∈ a, p ∈ b) (h2 : ∀ p ∈ b, f p ∈ a.map f) : a.length = b.length := by
  have : (a.map f).Perm (b.map f) := by
    rw [List.perm_ext_iff_of_nodup ha hb]
    intro x
    constructor
    · intro hx
      obtain ⟨p, hp, rfl⟩ := List.mem_map.mp hx
      exact List.mem_map.mpr ⟨p, h1 p hp, rfl⟩
    · intro hx
      obtain ⟨p, hp, rfl⟩ := List.mem_map.mp hx
      exact h2 p hp
  have := this.length_eq
  rwa [List.length_map, List.length_map] at this
theorem pe_lenSetN {a : Expr} {ta : TE} {p p2 q pos : Pos} (hc : X.calm = true) (hu : X.A.units + 64 < cLine) (hg : Gl X "len") (hm : X.mg "len" = none) (hg2 : Gl X "set") (hm2 : X.mg "set" = none) (ha : PE X a ta)
    (na : starEach [a] X.env = (false, eval a X.env) :: starEach [] X.env := by rfl) : PE X (.Call (.Name "len" p) [.Call (.Name "set" p2) [a] [] q] [] pos) (tLenSetN X.K ta) := by
  refine ⟨fun pins s σ H Q I h => ?_⟩
  refine Call_ (ld_blt I hg hm PySem.boot_len ?_)
  refine PyProof.Rows.callWith_builtin1 (PyProof.Rows.args_cons ?_ rfl) rfl rfl
  refine Call_ (ld_blt I hg2 hm2 PyProof.Rows.boot_set ?_)
  refine PyProof.Rows.callWith_type1 (PyProof.Rows.args_cons (thn (ha.run pins s σ H _ I h) fun v s1 ⟨x, H1, I1, r1, q1⟩ => PyProof.Rows.args_nil ?_) na) na rfl
  obtain ⟨l, ks, rfl, hq, hk, h1, hnd, q1⟩ := q1
  cases r1
  obtain ⟨its, rv, pl, hz⟩ := I1.list hq
  refine call_set_tups (P := X.prog) (w := X.w) ks (I1.ok.hd hc) pl.isList (by simpa using refs_of_vals rv) (fun p hp => I1.isT (hk p hp)) h1 (by omega) fun h' tk L es ep t R g k => ?_
  refine PyProof.Rows.args_nil ?_
  have hsz : es.size = L.length := by
    have h := congrArg List.length R.rows
    unfold L2.rowsOf at h
    rw [Array.length_toList, List.length_map] at h
    exact h
  have hlen : L.length = ks.length := nodup_len (f := fun p : Addr × List Int => p.2) R.nd hnd (fun p hp => List.mem_of_mem_take (g.sub p hp)) (fun p hp => g.all p (by rw [List.take_length]; exact hp))
  obtain ⟨o, ho, hex, hd⟩ := R.ob
  have I2 : Inv X pins σ H1 { s1 with heap := h', toks := tk } := I1.kept fun b o e => k b o e
  have hf : t.fits es.size = true := by
    have h1 := R.tab.sz
    rw [List.length_map] at h1
    have h3 := R.room
    unfold SetTable.fits SetTable.fill
    rw [R.tab.dm, Bool.and_eq_true, beq_iff_eq, decide_eq_true_eq]
    show t.place.size = es.size ∧ t.place.size + 0 ≤ t.mask
    omega
  refine call_len_set ho hex hd hf (by omega) ⟨.int ks.length, H1, I2.tok _, ⟨_, by rw [hsz, hlen]⟩, q1⟩
end
section
variable {X : Cx} {S : Store} {Q : D → Store → Prop} {v : Fv} {a : Expr} {p p2 q pos : Pos}
theorem names_rd {F : List Addr} {H : Hp} : ∀ {ns : List (List Int)} {vs : List V}, RDs F H (ns.map eM) vs → ∃ ks : List (Addr × List Int), vs = ks.map (fun p => V.ref p.1) ∧ ks.map (·.2) = ns ∧ ∀ p ∈ ks, H p.1 = some (.tup (p.2.map V.int))
  | [], _, h => by cases (show _ = [] from h); exact ⟨[], rfl, rfl, fun _ h => by cases h⟩
  | n :: ns, _, h => by
    obtain ⟨v, r, rfl, ⟨b, us, rfl, h1, h2⟩, h3⟩ := h
    obtain ⟨ks, rfl, i1, i2⟩ := names_rd h3
    rw [ints_rd h2] at h1
    refine ⟨(b, n) :: ks, rfl, by rw [List.map_cons, i1], fun p hp => ?_⟩
    rcases List.mem_cons.mp hp with rfl | hp
    · exact h1
    · exact i2 p hp
theorem WE.lenSet (h : WE X a v S fun d S1 => ∃ (l : Nat) (ns : List (List Int)), d = .loc l ∧ S1[l]? = some (.lst (ns.map eM)) ∧ ns.length < 64 ∧ ns.Nodup ∧ Q (.int ns.length) S1) (hc : X.calm = true) (hu : X.A.units + 64 < cLine) (hm : X.mg "len" = none) (hm2 : X.mg "set" = none) (hg : Gl X "len" := by rfl) (hg2 : Gl X "set" := by rfl)
    (na : starEach [a] X.env = (false, eval a X.env) :: starEach [] X.env := by rfl) : WE X (.Call (.Name "len" p) [.Call (.Name "set" p2) [a] [] q] [] pos) v S Q := fun F t H Q' re rs k => by
  refine wE_of (pe_lenSetN hc hu hg hm hg2 hm2 pe_w na) ?_
  refine h F t H _ re rs fun F1 d u H1 S1 p1 k1 rs1 r1 h1 => ?_
  obtain ⟨l, ns, rfl, hl, h64, nd, q⟩ := h1
  obtain ⟨ad, rfl, ha⟩ := r1
  obtain ⟨a', u', e1, e2, vs, rfl, e4⟩ := rs1.get hl
  rw [ha] at e1; cases e1
  obtain ⟨ks, rfl, i1, i2⟩ := names_rd e4
  have il : ks.length = ns.length := by rw [← i1, List.length_map]
  refine ⟨ad, ks, rfl, SqL.of e2, fun p hp => SqT.of (i2 p hp), by omega, by rw [i1]; exact nd, ?_⟩
  rw [il]
  exact k F1 (.int (ns.length : Nat)) _ _ _ p1 k1 rs1 rfl q
end
end DM

namespace DM
open PySem PySem.Spec PyProof.Rows L2
/-! ### {k: v, ..} with keys known to be ints and texts; xs[::-1] of a list -/
def RPs (F : List Addr) (H : Hp) : List (D × D) → List (V × V) → Prop
  | [], vs => vs = []
  | p :: ps, vs => ∃ u w r, vs = (u, w) :: r ∧ RD F H p.1 u ∧ RD F H p.2 w ∧ RPs F H ps r
theorem RPs.kvs {F : List Addr} {H : Hp} : ∀ {kvs : List (Key × D)} {vs : List (V × V)}, RPs F H (kvs.map fun kv => (kdD kv.1, kv.2)) vs → ∃ ws : List (Key × V), vs = ws.map (fun kv => (kV kv.1, kv.2)) ∧ RKs F H kvs ws ∧ ws.length = kvs.length
  | [], vs, h => ⟨[], h, rfl, rfl⟩
  | p :: kvs, vs, h => by
    obtain ⟨u, w, r, rfl, h1, h2, h3⟩ := h
    obtain ⟨ws, rfl, k1, k2⟩ := RPs.kvs h3
    have e := kd_rd h1
    subst e
    exact ⟨(p.1, w) :: ws, rfl, ⟨w, ws, rfl, h2, k1⟩, by simp [k2]⟩
def WPr (X : Cx) : List (Option Expr) → List Expr → Fv → Store → (List (D × D) → Store → Prop) → Prop
  | some k :: ks, f :: fs, v, S, Q => WE X k v S fun x S1 => WE X f v S1 fun y S2 => WPr X ks fs v S2 fun ps S3 => Q ((x, y) :: ps) S3
  | _, _, _, S, Q => Q [] S
def trW (X : Cx) : List (Option Expr) → List Expr → List (TE × TE)
  | some k :: ks, f :: fs => (wE X k, wE X f) :: trW X ks fs
  | _, _ => []
theorem pps_w {X : Cx} {pos : Pos} : ∀ (ks : List (Option Expr)) (fs : List Expr), ks.all (·.isSome) = true → ks.length = fs.length → PPs X pos ks fs (trW X ks fs)
  | [], [], _, _ => pps_nil
  | some k :: ks, f :: fs, h, hl => pps_cons pe_w pe_w (pps_w ks fs (by simpa using h) (by simpa using hl))
  | none :: ks, f :: fs, h, hl => by simp at h
  | [], f :: fs, h, hl => by simp at hl
  | k :: ks, [], h, hl => by simp at hl
theorem WPr.run {X : Cx} : ∀ (ks : List (Option Expr)) (fs : List Expr) {v : Fv} {S : Store} {Q : List (D × D) → Store → Prop} {Q' : List (V × V) → Hp → Prop} {F : List Addr} {H : Hp} {t : L2.St}, WPr X ks fs v S Q → RE F H v t → RS F H S →
    (∀ F' ps vs H' S', F <+: F' → Keep H H' → RS F' H' S' → RPs F' H' ps vs → Q ps S' → Q' vs H') → tPairs (trW X ks fs) t H Q'
  | some k :: ks, f :: fs, v, S, Q, Q', F, H, t, h, re, rs, post => by
    refine (show WE X k v S _ from h) F t H _ re rs fun F1 x ux H1 S1 p1 k1 rs1 r1 h1 => ?_
    refine h1 F1 t H1 _ (re.mono p1 k1) rs1 fun F2 y uy H2 S2 p2 k2 rs2 r2 h2 => ?_
    refine WPr.run ks fs h2 ((re.mono p1 k1).mono p2 k2) rs2 fun F3 ps vs H3 S3 p3 k3 rs3 r3 q => ?_
    exact post F3 ((x, y) :: ps) _ H3 S3 ((p1.trans p2).trans p3) ((k1.trans k2).trans k3) rs3 ⟨ux, uy, vs, rfl, r1.mono (p2.trans p3) (k2.trans k3), r2.mono p3 k3, r3⟩ q
  | [], fs, v, S, Q, Q', F, H, t, h, re, rs, post => by
    have h : Q [] S := by cases fs <;> exact h
    have : trW X [] fs = [] := by cases fs <;> rfl
    rw [this]
    exact post F [] [] H S (List.prefix_refl F) (Keep.refl H) rs rfl h
  | none :: ks, fs, v, S, Q, Q', F, H, t, h, re, rs, post => by
    have h : Q [] S := by cases fs <;> exact h
    have : trW X (none :: ks) fs = [] := by cases fs <;> rfl
    rw [this]
    exact post F [] [] H S (List.prefix_refl F) (Keep.refl H) rs rfl h
  | some k :: ks, [], v, S, Q, Q', F, H, t, h, re, rs, post => post F [] [] H S (List.prefix_refl F) (Keep.refl H) rs rfl h
section
variable {X : Cx} {v : Fv} {S : Store} {Q : D → Store → Prop} {ks : List (Option Expr)} {fs : List Expr} {e : Expr} {pos p1 p2 p3 : Pos}
theorem WE.disp (h : WPr X ks fs v (S ++ [.dK []]) fun ps S1 => S1[S.length]? = some (.dK []) ∧ ∃ kvs : List (Key × D), ps = kvs.map (fun kv => (kdD kv.1, kv.2)) ∧ Q (.loc S.length) (S1.set S.length (.dK (putAllT [] kvs))))
    (hall : ks.all (·.isSome) = true := by rfl) (hl : ks.length = fs.length := by rfl) (h0 : ks ≠ [] := by intro z; cases z) (h15 : ks.length ≤ 15 := by decide) : WE X (.Dict ks fs pos) v S Q := fun F t H Q' re rs k => by
  have hlen : ∀ (ks : List (Option Expr)) (fs : List Expr) (v : Fv) (S : Store) (Q : List (D × D) → Store → Prop), WPr X ks fs v S Q → WPr X ks fs v S fun ps S1 => ps.length ≤ ks.length ∧ Q ps S1 := by
    intro ks
    induction ks with
    | nil => intro fs v S Q h; cases fs <;> exact ⟨Nat.le_refl _, h⟩
    | cons k ks ih =>
      intro fs v S Q h
      cases k with
      | none => cases fs <;> exact ⟨Nat.zero_le _, h⟩
      | some k =>
        cases fs with
        | nil => exact ⟨Nat.zero_le _, h⟩
        | cons f fs =>
          refine WE.mono (show WE X k v S _ from h) fun x S1 h1 => WE.mono h1 fun y S2 h2 => ?_
          have := ih fs v S2 _ h2
          -- the length of the rest
          have gen : ∀ (ks : List (Option Expr)) (fs : List Expr) (S : Store) (Q Q2 : List (D × D) → Store → Prop), (∀ ps S, Q ps S → Q2 ps S) → WPr X ks fs v S Q → WPr X ks fs v S Q2 := by
            intro ks
            induction ks with
            | nil => intro fs S Q Q2 m h; cases fs <;> exact m _ _ h
            | cons k ks ih =>
              intro fs S Q Q2 m h
              cases k with
              | none => cases fs <;> exact m _ _ h
              | some k =>
                cases fs with
                | nil => exact m _ _ h
                | cons f fs => exact WE.mono (show WE X k v S _ from h) fun x S1 h1 => WE.mono h1 fun y S2 h2 => ih fs S2 _ _ (fun ps S3 q => m _ _ q) h2
          exact gen ks fs S2 _ _ (fun ps S3 q => ⟨by simp; exact q.1, q.2⟩) this
  refine wE_of (pe_disp (pps_w ks fs hall hl) hall hl h0 h15) fun p hp => ?_
  have kp : Keep H (upd H p (.dK [])) := Keep.new hp
  have rs' : RS (F ++ [p]) (upd H p (.dK [])) (S ++ [.dK []]) := rs.new (o := .dK []) hp ⟨_, rfl, rfl⟩
  have re' := re.mono (F' := F ++ [p]) ⟨[p], rfl⟩ kp
  have hlS : F.length = S.length := rs.len
  refine WPr.run ks fs (hlen ks fs v _ _ h) re' rs' fun F1 ps vs H1 S1 p1 k1 rs1 r1 q => ?_
  obtain ⟨ql, hl1, kvs, rfl, q⟩ := q
  have hF : F1[S.length]? = some p := pre_get p1 (by rw [← hlS]; simp)
  obtain ⟨a, g, e1, e2, ws0, e3, e4⟩ := rs1.get hl1
  rw [hF] at e1; cases e1
  subst e3
  cases (show ws0 = [] from e4)
  obtain ⟨ws, rfl, rk, lw⟩ := r1.kvs
  rw [List.length_map] at ql
  refine ⟨e2, ws, rfl, by omega, ?_⟩
  have k3 : Keep H1 (upd H1 p (.dK (mergeK [] ws))) := Keep.upd e2 trivial
  have rk2 : RKs F1 H1 (putAllT [] kvs) (mergeK [] ws) := RKs.putAll rk (show RKs F1 H1 ([] : List (Key × D)) [] from rfl)
  exact k F1 (.loc S.length) (.ref p) _ _ ((List.prefix_append F [p]).trans p1) ((kp.trans k1).trans k3) (rs1.set (o := .dK (putAllT [] kvs)) hF e2 trivial ⟨_, rfl, rk2⟩) ⟨p, rfl, hF⟩ q
theorem WE.revL {j : Nat} (h : WE X e v S fun d S1 => ∃ l xs, d = .loc l ∧ S1[l]? = some (.lst xs) ∧ Q (.loc S1.length) (S1 ++ [.lst xs.reverse])) : WE X (.Subscript e (.Slice none none (some (.UnaryOp .USub (.Constant (.int 1) j p1) p2)) p3) pos) v S Q := fun F t H Q' re rs k => by
  refine wE_of (pe_revL pe_w) ?_
  refine h F t H _ re rs fun F1 d u H1 S1 p1 k1 rs1 r1 h1 => ?_
  obtain ⟨l, xs, rfl, hl, q⟩ := h1
  obtain ⟨ad, rfl, ha⟩ := r1
  obtain ⟨a', u', e1, e2, vs, rfl, e4⟩ := rs1.get hl
  rw [ha] at e1; cases e1
  refine ⟨ad, vs, rfl, SqL.of e2, fun p hp => ?_⟩
  exact k (F1 ++ [p]) (.loc S1.length) (.ref p) _ _ (p1.trans ⟨[p], rfl⟩) (k1.trans (Keep.new hp)) (rs1.new (o := .lst xs.reverse) hp ⟨_, rfl, e4.rev⟩) ⟨p, rfl, by rw [← rs1.len]; simp⟩ q
end
end DM

namespace DM
open PySem PySem.Spec PyProof.Rows L2
/-! ### dicts whose keys are nested tuples of numbers, the values numbers: made once, asked -/
section
variable {X : Cx} {pins : List (Addr × Obj)} {σ : L2.St} {H : Hp} {s : Shared} {F : List Addr}
mutual
theorem nk_is (I : Inv X pins σ H s) : ∀ (d : D) (v : V) (u : Value), ikD d = true → RD F H d v → RelV v u → NestedIs s.heap (nkD d) u
  | .int i, v, u, _, r, ru => by
    cases (show v = .int i from r)
    obtain ⟨t, rfl⟩ := ru
    exact .int i t
  | .tup xs, v, u, h, ⟨b, vs, e, hb, r⟩, ru => by
    subst e
    obtain rfl : u = Value.ref b := ru
    obtain ⟨_, its, rv, o, h1, h2, n, h3⟩ := (show ObjOk X.prog X.w H s.heap b (.tup vs) from I.hok b _ hb)
    exact .tup h1 h2 h3 (by rw [List.toList_toArray]; exact nks_is I xs vs its h r rv)
  | .non, _, _, h, _, _ => by cases h
  | .bl _, _, _, h, _, _ => by cases h
  | .str _, _, _, h, _, _ => by cases h
  | .ty _, _, _, h, _, _ => by cases h
  | .ref _, _, _, h, _, _ => by cases h
  | .loc _, _, _, h, _, _ => by cases h
  | .scr _, _, _, h, _, _ => by cases h
theorem nks_is (I : Inv X pins σ H s) : ∀ (ds : List D) (vs : List V) (us : List Value), ikDs ds = true → RDs F H ds vs → Vals vs us → NestedAll s.heap (nkDs ds) us
  | [], vs, us, _, r, rv => by
    cases (show vs = [] from r)
    cases rv
    exact .nil
  | d :: ds, vs, us, h, ⟨v, r', e, r1, r2⟩, rv => by
    subst e
    have h' : (ikD d && ikDs ds) = true := h
    rw [Bool.and_eq_true] at h'
    cases rv with
    | cons a b => exact .cons (nk_is I d _ _ h'.1 r1 a) (nks_is I ds _ _ h'.2 r2 b)
end
theorem nk_key (I : Inv X pins σ H s) {d : D} {b : Addr} (h : ikD d = true) (h8 : (nkD d).depth ≤ 8) (r : RD F H d (.ref b)) : (nestedKind X.prog X.w).is s.heap (nkD d) b := ⟨nk_is I d _ _ h r rfl, h8⟩
mutual
theorem nkD_inj : ∀ (x y : D), ikD x = true → ikD y = true → nkD x = nkD y → x = y
  | .int i, .int j, _, _, e => by
    have e : NestedKey.num i = .num j := e
    injection e with e; rw [e]
  | .tup xs, .tup ys, h, g, e => by
    have e : NestedKey.tup (nkDs xs) = .tup (nkDs ys) := e
    injection e with e
    rw [nkDs_inj xs ys h g e]
  | .int i, .tup ys, _, _, e => by cases (show NestedKey.num i = .tup (nkDs ys) from e)
  | .tup ys, .int i, _, _, e => by cases (show NestedKey.tup (nkDs ys) = .num i from e)
  | .int _, .non, _, h, _ => by cases h
  | .int _, .bl _, _, h, _ => by cases h
  | .int _, .str _, _, h, _ => by cases h
  | .int _, .ty _, _, h, _ => by cases h
  | .int _, .ref _, _, h, _ => by cases h
  | .int _, .loc _, _, h, _ => by cases h
  | .int _, .scr _, _, h, _ => by cases h
  | .tup _, .non, _, h, _ => by cases h
  | .tup _, .bl _, _, h, _ => by cases h
  | .tup _, .str _, _, h, _ => by cases h
  | .tup _, .ty _, _, h, _ => by cases h
  | .tup _, .ref _, _, h, _ => by cases h
  | .tup _, .loc _, _, h, _ => by cases h
  | .tup _, .scr _, _, h, _ => by cases h
  | .non, _, h, _, _ => by cases h
  | .bl _, _, h, _, _ => by cases h
  | .str _, _, h, _, _ => by cases h
  | .ty _, _, h, _, _ => by cases h
  | .ref _, _, h, _, _ => by cases h
  | .loc _, _, h, _, _ => by cases h
  | .scr _, _, h, _, _ => by cases h
theorem nkDs_inj : ∀ (xs ys : List D), ikDs xs = true → ikDs ys = true → nkDs xs = nkDs ys → xs = ys
  | [], [], _, _, _ => rfl
  | x :: xs, y :: ys, h, g, e => by
    have h' : (ikD x && ikDs xs) = true := h
    have g' : (ikD y && ikDs ys) = true := g
    rw [Bool.and_eq_true] at h' g'
    have e : nkD x :: nkDs xs = nkD y :: nkDs ys := e
    injection e with e1 e2
    rw [nkD_inj x y h'.1 g'.1 e1, nkDs_inj xs ys h'.2 g'.2 e2]
  | [], y :: ys, _, _, e => by cases (show [] = nkD y :: nkDs ys from e)
  | y :: ys, [], _, _, e => by cases (show nkD y :: nkDs ys = [] from e)
end
/-- what stands at a key -/
def getN (kvs : List (D × Int)) (d : D) : Option Int := (kvs.find? fun kv => decide (kv.1 = d)).map (·.2)
/-- an object of the store that is told by its address: it is that one -/
theorem ext_at {a a' : Addr} {o : Obj} {ep : Nat} {es : Array DictEntry} {h : Heap} (hd : o.data = .dict es ep) (ok : ObjOk X.prog X.w H h a (.ext fun hp => hp.get? a' = some o ∧ (a' == sysModules) = false)) : h.get? a = some o ∧ (a == sysModules) = false := by
  obtain ⟨⟨h1, h2⟩, _, st⟩ := ok
  by_cases e : a' = a
  · subst e; exact ⟨h1, h2⟩
  · exfalso
    obtain ⟨z, _⟩ := st h (h.update a' fun _ => { cls := .none, data := .seq #[] }) ⟨h1, h2⟩ fun u hu => by rw [Heap.get?_update_other _ _ e]; exact hu
    rw [Heap.get?_update_self _ h1 (by rfl)] at z
    have z := Option.some.inj z
    rw [← z] at hd; cases hd
/-- the dict at hand -/
theorem dN_at (I : Inv X pins σ H s) {a : Addr} {g : HO} {kvs : List (D × Int)} (hg : H a = some g) (r : RO F H (.dN X.w kvs) g) : (a == sysModules) = false ∧ (∀ kv ∈ kvs, ikD kv.1 = true) ∧ ∃ ls : List (NestedKey × Value), s.heap.DictKeyed (nestedKind X.prog X.w) a ls ∧ ∀ d, ikD d = true → (getN kvs d = none → valueAt ls (nkD d) = none) ∧ ∀ n, getN kvs d = some n → ∃ t, valueAt ls (nkD d) = some (.int n t) := by
  obtain ⟨a', o, es, ep, xs, rfl, rfl, e1, e2, e3, al, nd⟩ := r
  obtain ⟨ho, hs⟩ := ext_at e2 (I.hok a _ hg)
  refine ⟨hs, fun kv hkv => ?_, xs.map fun x => (nkD x.1.1, Value.int x.1.2 x.2.2), ⟨xs.map fun x => (nkD x.1.1, x.2.1, Value.int x.1.2 x.2.2), ⟨o, es, ep, ho, e1, e2, ?_, ?_, ?_⟩, ?_⟩, ?_⟩
  · obtain ⟨x, hx, rfl⟩ := List.mem_map.mp hkv
    exact (al x hx).1
  · rw [e3, List.map_map]; rfl
  · intro y hy
    obtain ⟨x, hx, rfl⟩ := List.mem_map.mp hy
    exact nk_key I (al x hx).1 (al x hx).2.1 (al x hx).2.2
  · rw [List.map_map]
    rw [List.map_map] at nd
    exact nd
  · unfold pairsH; rw [List.map_map]; rfl
  · intro d hd
    clear e3 nd e1 e2 ho I hg
    induction xs with
    | nil => exact ⟨fun _ => rfl, fun n h => by cases h⟩
    | cons x xs ih =>
      have ih := ih fun y hy => al y (List.mem_cons_of_mem _ hy)
      have hx := (al x List.mem_cons_self).1
      by_cases e : x.1.1 = d
      · have g1 : getN ((x :: xs).map (·.1)) d = some x.1.2 := by
          unfold getN; rw [List.map_cons, List.find?_cons_of_pos (by simpa using e)]; rfl
        have g2 : valueAt ((x :: xs).map fun x => (nkD x.1.1, Value.int x.1.2 x.2.2)) (nkD d) = some (.int x.1.2 x.2.2) := by
          unfold valueAt; rw [List.map_cons, List.find?_cons_of_pos (by simp [e])]; rfl
        rw [g1, g2]
        refine ⟨fun h => (by cases h), fun n h => ?_⟩
        cases h; exact ⟨_, rfl⟩
      · have g1 : getN ((x :: xs).map (·.1)) d = getN (xs.map (·.1)) d := by
          unfold getN; rw [List.map_cons, List.find?_cons_of_neg (by simpa using e)]
        have g2 : valueAt ((x :: xs).map fun x => (nkD x.1.1, Value.int x.1.2 x.2.2)) (nkD d) = valueAt (xs.map fun x => (nkD x.1.1, Value.int x.1.2 x.2.2)) (nkD d) := by
          unfold valueAt; rw [List.map_cons, List.find?_cons_of_neg (by simpa using fun z => e (nkD_inj _ _ hx hd z))]
        rw [g1, g2]
        exact ih
end
section
variable {X : Cx}
def rInN (w : World) : V → V → Hp → VK → Prop := fun x y H Q => ∃ (F : List Addr) (a b : Addr) (g : HO) (kvs : List (D × Int)) (d : D), x = .ref b ∧ y = .ref a ∧ H a = some g ∧ RO F H (.dN w kvs) g ∧ ikD d = true ∧ (nkD d).depth ≤ 8 ∧ RD F H d (.ref b) ∧ Q (.bl (getN kvs d).isSome) H
theorem op_inN (hu : X.A.units + 64 < cLine) : OpR X (compareOp .In) (rInN X.w) := by
  intro pins s σ H x y v u Q I rx ry h
  obtain ⟨F, a, b, g, kvs, d, rfl, rfl, hg, ro, hi, h8, hd, q⟩ := h
  obtain rfl : u = Value.ref a := ry
  obtain rfl : v = Value.ref b := rx
  obtain ⟨hs, _, ls, dk, val⟩ := dN_at I hg ro
  refine in_keyed (show X.A.in1.units + 8 < cLine by show X.A.units + 1 + 8 < cLine; omega) (nk_key I hi h8 hd) hs dk ?_
  refine ⟨.bl (getN kvs d).isSome, H, I.tok _, ?_, q⟩
  show Value.bool _ = Value.bool _
  congr 1
  cases e : getN kvs d with
  | none => rw [(val d hi).1 e]; rfl
  | some n => obtain ⟨t, e2⟩ := (val d hi).2 n e; rw [e2]; rfl
def rIxN (w : World) : V → V → Hp → VK → Prop := fun x y H Q => ∃ (F : List Addr) (a b : Addr) (g : HO) (kvs : List (D × Int)) (d : D) (n : Int), x = .ref a ∧ y = .ref b ∧ H a = some g ∧ RO F H (.dN w kvs) g ∧ ikD d = true ∧ (nkD d).depth ≤ 8 ∧ RD F H d (.ref b) ∧ getN kvs d = some n ∧ Q (.int n) H
theorem ix_N (hu : X.A.units + 64 < cLine) : IxR X (rIxN X.w) := by
  intro value slice pins s σ H x y v u Q I rx ry h hs
  obtain ⟨F, a, b, g, kvs, d, n, rfl, rfl, hg, ro, hi, h8, hd, hn, q⟩ := h
  obtain rfl : v = Value.ref a := rx
  obtain rfl : u = Value.ref b := ry
  obtain ⟨hm, _, ls, dk, val⟩ := dN_at I hg ro
  obtain ⟨t, e⟩ := (val d hi).2 n hn
  exact tail_any dk.typeIs slot_dict_getitem.lookup (getItem_keyed (show X.A.in1.units + 8 < cLine by show X.A.units + 1 + 8 < cLine; omega) (nk_key I hi h8 hd) dk e ⟨.int n, H, I.tok _, ⟨t, rfl⟩, q⟩) hs
end
section
variable {X : Cx} {S : Store} {Q : D → Store → Prop} {l : Nat} {kvs : List (D × Int)} {d : D}
theorem BW.inN (hl : S[l]? = some (.dN X.w kvs)) {xs : List D} (e : d = .tup xs) (hi : ikD d = true) (h8 : (nkD d).depth ≤ 8) (hu : X.A.units + 64 < cLine) (h : Q (.bl (getN kvs d).isSome) S) : BW X (compareOp .In) d (.loc l) S Q := BW.of (op_inN hu) fun F H vx vy Q' rs rx ry k => by
  subst e
  obtain ⟨a, rfl, ha⟩ := ry
  obtain ⟨a', g, e1, e2, ro⟩ := rs.get hl
  rw [e1] at ha; cases ha
  obtain ⟨b, vs, rfl, hb, hr⟩ := rx
  exact ⟨F, a, b, g, kvs, .tup xs, rfl, rfl, e2, ro, hi, h8, ⟨b, vs, rfl, hb, hr⟩, k.nowB rs h⟩
theorem IW.dctN (hl : S[l]? = some (.dN X.w kvs)) {xs : List D} {n : Int} (e : d = .tup xs) (hi : ikD d = true) (h8 : (nkD d).depth ≤ 8) (hn : getN kvs d = some n) (hu : X.A.units + 64 < cLine) (h : Q (.int n) S) : IW X (.loc l) d S Q := IW.of (ix_N hu) fun F H vx vy Q' rs rx ry k => by
  subst e
  obtain ⟨a, rfl, ha⟩ := rx
  obtain ⟨a', g, e1, e2, ro⟩ := rs.get hl
  rw [e1] at ha; cases ha
  obtain ⟨b, vs, rfl, hb, hr⟩ := ry
  exact ⟨F, a, b, g, kvs, .tup xs, n, rfl, rfl, e2, ro, hi, h8, ⟨b, vs, rfl, hb, hr⟩, hn, k.nowI rs h⟩
end
/-! ### dict(pairs) -/
theorem atKey_none {xs : List (NestedKey × Addr × Value)} {k : NestedKey} (h : ∀ x ∈ xs, x.1 ≠ k) : atKey xs k = none := by
  unfold atKey
  rw [List.find?_eq_none.mpr fun x hx => by simpa using h x hx]; rfl
theorem storedAll_new : ∀ (ps xs : List (NestedKey × Addr × Value)), ((xs ++ ps).map (·.1)).Nodup → storedAllH xs ps = xs ++ ps
  | [], xs, _ => by rw [List.append_nil]; rfl
  | p :: ps, xs, h => by
    show storedAllH (storedH xs p.1 p.2.1 p.2.2) ps = _
    have e : storedH xs p.1 p.2.1 p.2.2 = xs ++ [p] := by
      unfold storedH
      rw [atKey_none fun x hx => ?_]
      · rfl
      · rw [List.map_append, List.nodup_append] at h
        exact h.2.2 x.1 (List.mem_map_of_mem hx) p.1 (List.mem_map_of_mem List.mem_cons_self)
    have e2 : xs ++ p :: ps = (xs ++ [p]) ++ ps := by rw [List.append_assoc]; rfl
    rw [e, e2]
    exact storedAll_new ps _ (by rw [← e2]; exact h)
abbrev PrN := Addr × D × Addr × Int
def kvN (zs : List PrN) : List (D × Int) := zs.map fun z => (z.2.1, z.2.2.2)
def rDctN (K : PySem.W.Frag) (w : World) : List V → Hp → VK → Prop := fun xs H Q => ∃ (F : List Addr) (a : Addr) (zs : List PrN), xs = [.ref a] ∧ SqL K H a (zs.map fun z => V.ref z.1) ∧
  (∀ z ∈ zs, H z.1 = some (.tup [.ref z.2.2.1, .int z.2.2.2]) ∧ ikD z.2.1 = true ∧ (nkD z.2.1).depth ≤ 8 ∧ RD F H z.2.1 (.ref z.2.2.1)) ∧ ((kvN zs).map fun kv => nkD kv.1).Nodup ∧
  ∀ p g, H p = none → RO F (upd H p g) (.dN w (kvN zs)) g → Q (.ref p) (upd H p g)
section
variable {X : Cx}
theorem npairs_of {pins : List (Addr × Obj)} {σ : L2.St} {H : Hp} {s : Shared} {F : List Addr} (I : Inv X pins σ H s) : ∀ (zs : List PrN), (∀ z ∈ zs, H z.1 = some (.tup [.ref z.2.2.1, .int z.2.2.2]) ∧ ikD z.2.1 = true ∧ (nkD z.2.1).depth ≤ 8 ∧ RD F H z.2.1 (.ref z.2.2.1)) →
    ∃ ts : List (PrN × Tok), ts.map (·.1) = zs ∧ ∀ y ∈ ts, s.heap.IsTuple y.1.1 #[.ref y.1.2.2.1, .int y.1.2.2.2 y.2]
  | [], _ => ⟨[], rfl, fun y h => by cases h⟩
  | z :: zs, h => by
    obtain ⟨ts, e, hp⟩ := npairs_of I zs fun y hy => h y (List.mem_cons_of_mem _ hy)
    obtain ⟨h1, _⟩ := h z List.mem_cons_self
    obtain ⟨its, rv, ht, _⟩ := I.tuple (SqT.of h1)
    obtain ⟨u, y, ei, ru, ry⟩ := vals2 rv
    subst ei
    obtain rfl : u = Value.ref z.2.2.1 := ru
    obtain ⟨t, rfl⟩ := ry
    refine ⟨(z, t) :: ts, by rw [List.map_cons, e], fun y hy => ?_⟩
    rcases List.mem_cons.mp hy with rfl | hy
    · obtain ⟨o, q1, q2, n, q3⟩ := ht
      exact ⟨o, q1, q2, n, q3⟩
    · exact hp y hy
theorem call_dctN (hcalm : X.calm = true) (hu : X.A.units + 64 < cLine) : CallR X (.type "dict") (rDctN X.K X.w) := by
  intro pins s σ H xs us Q I r q
  obtain ⟨F, a, zs, rfl, hq, hz, nd, q⟩ := q
  obtain ⟨u, rfl, ru⟩ := r.one
  obtain rfl : u = Value.ref a := ru
  obtain ⟨its, rv, pl, hsz⟩ := I.list hq
  obtain ⟨ts, ets, hts⟩ := npairs_of I zs hz
  have ei : its = zs.map fun z => Value.ref z.1 := by
    have : ∀ (l : List PrN) (m : List Value), Vals (l.map fun z => V.ref z.1) m → m = l.map fun z => Value.ref z.1 := by
      intro l
      induction l with
      | nil => intro m h; cases h; rfl
      | cons z l ih =>
        intro m h
        rw [List.map_cons] at h
        cases h with
        | cons h t => cases h; rw [List.map_cons, ← ih _ t]
    exact this zs its rv
  subst ei
  rw [List.length_map] at hsz
  obtain ⟨o, n, ho, hc, hd, hdat⟩ := pl
  let ws : List (NestedKey × Addr × Value) := ts.map fun y => (nkD y.1.2.1, y.1.2.2.1, Value.int y.1.2.2.2 y.2)
  have ews : ws = ts.map fun y => (nkD y.1.2.1, y.1.2.2.1, Value.int y.1.2.2.2 y.2) := rfl
  have wl : ws.length = zs.length := by rw [ews, List.length_map, ← ets, List.length_map]
  have wt : ∀ (j : Nat) (w : NestedKey × Addr × Value), ws[j]? = some w → ∃ y, ts[j]? = some y ∧ zs[j]? = some y.1 ∧ w = (nkD y.1.2.1, y.1.2.2.1, Value.int y.1.2.2.2 y.2) := fun j w e => by
    rw [ews, List.getElem?_map] at e
    cases et : ts[j]? with
    | none => rw [et] at e; cases e
    | some y =>
      rw [et] at e; cases e
      exact ⟨y, rfl, by rw [← ets, List.getElem?_map, et]; rfl, rfl⟩
  have wkeys : ws.map (·.1) = (kvN zs).map fun kv => nkD kv.1 := by
    rw [ews, ← ets]; unfold kvN
    rw [List.map_map, List.map_map, List.map_map]; rfl
  have ok : PlainSeq "list" s.heap a (zs.map fun z => Value.ref z.1).toArray ∧ PairItems s.heap (zs.map fun z => Value.ref z.1).toArray (fun j => (zs.getD j (0, .non, 0, 0)).1) (ws.map fun w => (Value.ref w.2.1, w.2.2)) := by
    refine ⟨⟨o, n, ho, hc, hd, hdat⟩, by simp [wl], fun j k v e => ?_⟩
    rw [List.getElem?_map] at e
    cases ew : ws[j]? with
    | none => rw [ew] at e; cases e
    | some w =>
      rw [ew] at e
      cases e
      obtain ⟨y, e1, e2, rfl⟩ := wt j w ew
      refine ⟨by simp [e2, List.getD], .inl ?_⟩
      have : (zs.getD j (0, .non, 0, 0)).1 = y.1.1 := by simp [List.getD, e2]
      show s.heap.IsTuple (zs.getD j (0, .non, 0, 0)).1 _
      rw [this]; exact hts y (List.mem_of_getElem? e1)
  refine call_dict_pairsH (knd := nestedKind X.prog X.w) (ps := ws) (PairArg.list a _ (fun j => (zs.getD j (0, .non, 0, 0)).1) (ws.map fun w => (Value.ref w.2.1, w.2.2))) (I.ok.hd hcalm) (show X.A.in1.in1.units + 8 < cLine by show X.A.units + 1 + 1 + 8 < cLine; omega) ok ⟨by simp, fun i key v e => ?_⟩ (fun h' k w hw => ?_) (by rw [List.length_map, wl]; exact hsz) fun h' tk dd k => ?_
  · have e : (ws.map fun w => (Value.ref w.2.1, w.2.2))[i]? = some (key, v) := e
    rw [List.getElem?_map] at e
    cases ew : ws[i]? with
    | none => rw [ew] at e; cases e
    | some w =>
      rw [ew] at e
      cases e
      exact ⟨w.1, w.2.1, rfl, rfl⟩
  · obtain ⟨j, hj⟩ := List.mem_iff_getElem?.mp hw
    obtain ⟨y, e1, e2, rfl⟩ := wt j w hj
    obtain ⟨_, h2, h3, h4⟩ := hz y.1 (List.mem_of_getElem? e2)
    have := nk_key I h2 h3 h4
    exact nestedKind_stays.stays (fun b o vs n hb _ => k b o (Nat.ne_of_lt (Heap.lt_size hb)) (by simp) hb) this
  · have hm : (s.heap.objs.size == sysModules) = false := beq_eq_false_iff_ne.mpr (Nat.ne_of_gt I.big)
    have hn : H s.heap.objs.size = none := I.hok.fresh (Nat.le_refl _)
    rw [storedAll_new ws [] (by rw [List.nil_append, wkeys]; exact nd), List.nil_append] at dd
    obtain ⟨q0, es, ep, hq, h2, h3, h4, _, h5⟩ := id dd
    refine ⟨.ref s.heap.objs.size, upd H s.heap.objs.size (.ext fun hp => hp.get? s.heap.objs.size = some q0 ∧ (s.heap.objs.size == sysModules) = false), I.laid (t' := tk) (fun b o e => k b o (by simp) e) (Nat.le_refl _) ⟨⟨hq, hm⟩, ⟨q0, hq⟩, fun h1 h2 p e => ⟨e _ p.1, p.2⟩⟩, rfl, q _ _ hn ?_⟩
    refine ⟨s.heap.objs.size, q0, es, ep, ts.map fun y => ((y.1.2.1, y.1.2.2.2), y.1.2.2.1, y.2), rfl, ?_, h2, h3, ?_, ?_, nd⟩
    · rw [← ets]; unfold kvN; rw [List.map_map, List.map_map]; rfl
    · rw [h4, ews, List.map_map, List.map_map]; rfl
    · intro x hx
      obtain ⟨y, hy, rfl⟩ := List.mem_map.mp hx
      obtain ⟨_, h2, h3, h4⟩ := hz y.1 (by rw [← ets]; exact List.mem_map_of_mem hy)
      exact ⟨h2, h3, RD.mono (List.prefix_refl F) (Keep.new hn) _ _ h4⟩
end
section
variable {X : Cx} {S : Store} {Q : D → Store → Prop} {l : Nat}
theorem CW.dctN {w : World} (hw : X.w = w) {kvs : List (D × Int)} (hl : S[l]? = some (.lst (kvs.map fun kv => .tup [kv.1, .int kv.2]))) (hk : ∀ kv ∈ kvs, (∃ xs, kv.1 = .tup xs) ∧ ikD kv.1 = true ∧ (nkD kv.1).depth ≤ 8) (nd : (kvs.map (·.1)).Nodup) (hc : X.calm = true) (hu : X.A.units + 64 < cLine) (h : Q (.loc S.length) (S ++ [.dN w kvs])) : CW X (.type "dict") [.loc l] S Q := CW.of (call_dctN hc hu) fun F H vs Q' rs r k => by
  subst hw
  obtain ⟨v, r', rfl, ⟨a, rfl, ha⟩, e⟩ := r
  cases (show r' = [] from e)
  obtain ⟨a', h', e1, e2, vs, e3, e4⟩ := rs.get hl
  rw [e1] at ha; cases ha
  subst e3
  have go : ∀ (kvs : List (D × Int)) (vs : List V), (∀ kv ∈ kvs, (∃ xs, kv.1 = .tup xs) ∧ ikD kv.1 = true ∧ (nkD kv.1).depth ≤ 8) → RDs F H (kvs.map fun kv => D.tup [kv.1, .int kv.2]) vs → ∃ (zs : List PrN), vs = (zs.map fun z => V.ref z.1) ∧ (∀ z ∈ zs, H z.1 = some (.tup [.ref z.2.2.1, .int z.2.2.2]) ∧ ikD z.2.1 = true ∧ (nkD z.2.1).depth ≤ 8 ∧ RD F H z.2.1 (.ref z.2.2.1)) ∧ kvN zs = kvs := by
    intro kvs
    induction kvs with
    | nil => intro vs _ r; cases (show vs = [] from r); exact ⟨[], rfl, fun z h => (by cases h), rfl⟩
    | cons kv kvs ih =>
      intro vs hk r
      obtain ⟨v, r', rfl, ⟨p, us, rfl, hp, hus⟩, h2⟩ := r
      obtain ⟨zs, rfl, i1, i2⟩ := ih r' (fun y hy => hk y (List.mem_cons_of_mem _ hy)) h2
      obtain ⟨x, us', rfl, hx, hy⟩ := hus
      obtain ⟨y, us2, rfl, hy1, hy2⟩ := hy
      cases (show us2 = [] from hy2)
      cases (show y = .int kv.2 from hy1)
      obtain ⟨⟨xs, ex⟩, k2, k3⟩ := hk kv List.mem_cons_self
      have hx' := hx
      rw [ex] at hx'
      obtain ⟨b, ws, rfl, _, _⟩ := hx'
      refine ⟨(p, kv.1, b, kv.2) :: zs, rfl, fun z hz => ?_, by unfold kvN at i2 ⊢; rw [List.map_cons, i2]⟩
      rcases List.mem_cons.mp hz with rfl | hz
      · exact ⟨hp, k2, k3, hx⟩
      · exact i1 z hz
  obtain ⟨zs, rfl, i1, i2⟩ := go kvs vs hk e4
  subst i2
  have nd' : ((kvN zs).map fun kv => nkD kv.1).Nodup := by
    have : ((kvN zs).map fun kv => nkD kv.1) = ((kvN zs).map (·.1)).map nkD := by rw [List.map_map]; rfl
    rw [this]
    refine (List.pairwise_map.mpr ?_)
    refine List.Pairwise.imp_of_mem (fun {x y} hx hy hne => ?_) nd
    obtain ⟨kx, hkx, rfl⟩ := List.mem_map.mp hx
    obtain ⟨ky, hky, rfl⟩ := List.mem_map.mp hy
    exact fun z => hne (nkD_inj _ _ (hk kx hkx).2.1 (hk ky hky).2.1 z)
  refine ⟨F, a, zs, rfl, SqL.of e2, i1, nd', fun p g hp ro => ?_⟩
  have rs' : RS (F ++ [p]) (upd H p g) (S ++ [.dN X.w (kvN zs)]) := by
    obtain ⟨a', o, es, ep, xs, q1, q2, q3, q4, q5, al, q6⟩ := ro
    refine ⟨by rw [List.length_append, List.length_append, rs.len]; rfl, ?_, fun l ob e => ?_⟩
    · rw [List.nodup_append]
      refine ⟨rs.nd, by simp, fun a ha b hb e => ?_⟩
      have : b = p := by simpa using hb
      subst this; subst e
      obtain ⟨v, q⟩ := rs.there ha
      rw [hp] at q; cases q
    · by_cases hl : l < S.length
      · rw [List.getElem?_append_left hl] at e
        obtain ⟨a, v, q1, q2, q3⟩ := rs.ob l ob e
        exact ⟨a, v, pre_get ⟨[p], rfl⟩ q1, by rw [upd_ne (ne_of_none q2 hp)]; exact q2, q3.mono ⟨[p], rfl⟩ (Keep.new hp)⟩
      · have hl' : l = S.length := by
          have := (List.getElem?_eq_some_iff.mp e).1
          simp at this; omega
        subst hl'
        rw [List.getElem?_append_right (Nat.le_refl _)] at e
        simp at e
        subst e
        exact ⟨p, g, by rw [← rs.len]; simp, upd_same, a', o, es, ep, xs, q1, q2, q3, q4, q5, fun x hx => ⟨(al x hx).1, (al x hx).2.1, RD.mono ⟨[p], rfl⟩ (Keep.refl _) _ _ (al x hx).2.2⟩, q6⟩
  exact k (F ++ [p]) (.loc S.length) (.ref p) _ _ ⟨[p], rfl⟩ (Keep.new hp) rs' ⟨p, rfl, by rw [← rs.len]; simp⟩ h
end
end DM

namespace DM
open PySem PySem.Spec PyProof.Rows L2
theorem cutD_init {nm : List Int} (h : 1 ≤ nm.length) : cutD (nm.map D.int) none (some (-1)) = nm.dropLast.map D.int := by
  rw [cutD_map]
  unfold cutD
  rw [HT.sIx_none, sIx_init h, List.drop_zero, Nat.sub_zero, List.dropLast_eq_take]
/-- name[:-1] -/
theorem WE.slI {X : Cx} {S : Store} {Q : D → Store → Prop} {v : Fv} {e hi : Expr} {pos p2 : Pos} (h : WE X e v S fun d S1 => WE X hi v S1 fun j S2 => ∃ nm : List Int, d = eM nm ∧ j = .int (-1) ∧ 1 ≤ nm.length ∧ Q (eM nm.dropLast) S2) : WE X (.Subscript e (.Slice none (some hi) none p2) pos) v S Q := by
  refine WE.slTA (h.mono fun d S1 h1 => WO.none (WO.some (h1.mono fun j S2 ⟨nm, e1, e2, hn, q⟩ => ⟨-1, e2, nm.map D.int, e1, ?_⟩)))
  rw [cutD_init hn]; exact q
/-- len(d), tuple keys -/
theorem CW.lenDT {X : Cx} {S : Store} {Q : D → Store → Prop} {l : Nat} {kvs : List (List Key × D)} (hl : S[l]? = some (.dT kvs)) (h : Q (.int kvs.length) S) : CW X (.builtin "len") [.loc l] S Q := CW.of call_len_dT fun F H vs Q' rs r k => by
  obtain ⟨v, r', rfl, ⟨a, rfl, ha⟩, e⟩ := r
  cases (show r' = [] from e)
  obtain ⟨a', h', e1, e2, vs, e3, e4⟩ := rs.get hl
  rw [e1] at ha; cases ha
  subst e3
  exact ⟨a, vs, rfl, e2, by rw [e4.length]; exact k.nowI rs h⟩
end DM

namespace DM
open PySem PySem.Spec PyProof.Rows L2
/-! ### list(range(n)) -/
theorem rgV_rds {F : List Addr} {H : Hp} (n : Nat) : RDs F H (rngD 0 n) (rgV 0 (n : Int)) := by
  have e : rgV 0 (n : Int) = ((List.range n).map fun (k : Nat) => (0 : Int) + (k : Int)).map V.int := by
    unfold rgV
    rw [show ((n : Int) - 0).toNat = n by omega, List.map_map]; rfl
  have e2 : rngD 0 n = ((List.range n).map fun (k : Nat) => (0 : Int) + (k : Int)).map D.int := by
    unfold rngD
    rw [List.map_map]; rfl
  rw [e, e2]
  exact ints_of_rd _
theorem WE.listRg {X : Cx} {S : Store} {v : Fv} {Q : D → Store → Prop} {a : Expr} {p p2 pos pos2 : Pos} (h : WE X a v S fun d S1 => ∃ n : Nat, d = .int (n : Int) ∧ n ≤ 100000 ∧ Q (.loc S1.length) (S1 ++ [.lst (rngD 0 n)])) (hm : X.mg "list" = none) (hm2 : X.mg "range" = none) (hc : X.calm = true) (hg : Gl X "list" := by rfl) (hg2 : Gl X "range" := by rfl)
    (hs : starEach [.Call (.Name "range" p2) [a] [] pos2] X.env = (false, eval (.Call (.Name "range" p2) [a] [] pos2) X.env) :: starEach [] X.env := by rfl) (na : starEach [a] X.env = (false, eval a X.env) :: starEach [] X.env := by rfl) :
    WE X (.Call (.Name "list" p) [.Call (.Name "range" p2) [a] [] pos2] [] pos) v S Q := fun F t H Q' re rs k => by
  refine wE_of (pe_listRg hc hg hm (prg_1 hg2 hm2 pe_w na) hs) ?_
  refine h F t H _ re rs fun F1 d u H1 S1 p1 k1 rs1 r1 h1 => ?_
  obtain ⟨n, rfl, hn, q⟩ := h1
  cases r1
  refine ⟨n, rfl, RgOk.of_le (by omega) (by omega) (by omega) (by omega), fun x hx => ?_⟩
  exact k (F1 ++ [x]) (.loc S1.length) _ _ _ (p1.trans ⟨[x], rfl⟩) (k1.trans (Keep.new hx)) (rs1.new (o := .lst (rngD 0 n)) hx ⟨_, rfl, rgV_rds n⟩) ⟨x, rfl, by rw [← rs1.len]; simp⟩ q
end DM

namespace DM
open PySem PySem.Spec PyProof.Rows L2
/-! ### xs.index(x) of data -/
theorem toPs_get : ∀ (xs : List D) (i : Nat), (toPs xs)[i]? = xs[i]?.map toP
  | [], _ => rfl
  | x :: xs, 0 => rfl
  | x :: xs, i + 1 => by
    show (toPs xs)[i]? = _
    rw [toPs_get xs i]; rfl
theorem idx_first {α : Type} [BEq α] [LawfulBEq α] {x : α} : ∀ {xs : List α} {m : Nat}, m < xs.idxOf x → xs[m]? ≠ some x
  | [], m, h => by simp
  | y :: xs, m, h => by
    rw [List.idxOf_cons] at h
    by_cases e : y = x
    · subst e; simp at h
    · rw [beq_false_of_ne e] at h
      have h : m < xs.idxOf x + 1 := h
      cases m with
      | zero => simpa using e
      | succ m => exact idx_first (xs := xs) (m := m) (by omega)
theorem idx_at {α : Type} [BEq α] [LawfulBEq α] {x : α} : ∀ {xs : List α}, x ∈ xs → xs[xs.idxOf x]? = some x
  | y :: xs, h => by
    rw [List.idxOf_cons]
    by_cases e : y = x
    · subst e; simp
    · rw [beq_false_of_ne e]
      exact idx_at (xs := xs) ((List.mem_cons.mp h).resolve_left fun z => e z.symm)
theorem MW.indexLD {X : Cx} {S : Store} {Q : D → Store → Prop} {l : Nat} {x : D} {xs : List D} (hl : S[l]? = some (.lst xs)) (hx : pv 60 x = true) (hxs : ∀ y ∈ xs, pv 60 y = true) (hm : x ∈ xs) (hu : X.A.units + 65 < cLine) (h : Q (.int (xs.idxOf x : Nat)) S) : MW X "list.index" (.loc l) [x] S Q := MW.ofR (mt_indexD hu) fun F H vx vs Q' rs rx r k => by
  obtain ⟨p1, p2, p3⟩ := pv_pd S 60 x hx
  obtain ⟨q1, q2, q3⟩ := pvs_pd S xs hxs
  have hy : PD S (.loc l) (.list (toPs xs)) := .lst hl q1
  obtain ⟨a, rfl, ha⟩ := rx
  obtain ⟨v, r', rfl, h1, h2⟩ := r
  cases (show r' = [] from h2)
  refine ⟨a, v, toP x, toPs xs, xs.idxOf x, toP x, rfl, rfl, hy.dp rs _ _ _ ⟨a, rfl, ha⟩, p1.dp rs _ _ _ h1, pvs_shaped (S := S) hxs, shaped_of p2 (by omega), ?_, ?_, fun m z' hm' hz' => ?_, k.nowI rs h⟩
  · rw [toPs_get, idx_at hm]; rfl
  · rw [pv_eqv 60 x x hx hx]; simp
  · rw [toPs_get] at hz'
    cases e : xs[m]? with
    | none => rw [e] at hz'; cases hz'
    | some y =>
      rw [e] at hz'
      cases hz'
      rw [pv_eqv 60 y x (hxs y (List.mem_of_getElem? e)) hx]
      exact decide_eq_false fun z => idx_first hm' (by rw [e, z])
end DM

namespace DM
open PySem PySem.Spec PyProof.Rows L2
/-! ### defs that may raise -/
abbrev SpX := List D → Store → (D → Store → Prop) → (Exd → Store → Prop) → Prop
def PostX (F : List Addr) (H : Hp) (Q : Exd → Store → Prop) (E : XK) : Prop := ∀ x cls d F' H' S', F <+: F' → Keep H H' → RS F' H' S' → RX H' x cls d → Q x S' → E cls d H'
def spX (K : PySem.W.Frag) (sp : SpX) : Sp := fun vs H Q E => ∃ F ds S Qd Qx, RS F H S ∧ RDs F H ds vs ∧ sp ds S Qd Qx ∧ Post F H Qd Q ∧ PostX F H Qx E
theorem PostX.mono {F F' : List Addr} {H H' : Hp} {Q : Exd → Store → Prop} {E : XK} (h : PostX F H Q E) (p : F <+: F') (k : Keep H H') : PostX F' H' Q E := fun x cls d F2 H2 S2 p2 k2 => h x cls d F2 H2 S2 (p.trans p2) (k.trans k2)
def fnEndsX (n : Nat) (Q : D → Store → Prop) (Qx : Exd → Store → Prop) : Ed := { nx := fun _ S => WkD n .non S Q, rt := fun d S => WkD n d S Q, xe := fun x S => ∃ S2, CovS n S S2 ∧ Qx x S2 }
section
variable (P : Program) (w : World) (K : PySem.W.Frag) (mg : Str → Option Value) (base : Heap)
structure CalX (x : Str) (k : Nat) (ps : List Str) (sp : SpX) : Prop where
  ex : ∃ (f : Addr) (fd : FuncData), FnOk P w K mg base (L2.CX P w) k f fd ps (spX K sp) ∧ mg x = some (.ref f) ∧ PySem.W.keepIn K (.ref f) = true ∧ Binds K fd ps []
structure MCalX (C : Addr) (m : Str) (k : Nat) (ps : List Str) (sp : SpX) : Prop where
  ex : ∃ (f : Addr) (fd : FuncData), FnOk P w K mg base (L2.CX P w) k f fd ps (spX K sp) ∧ Meth K C m f ∧ Binds K fd ps []
def BodyOkX (N : List Str) (qual : Str) (st : Stmt) (f : Addr) (k : Nat) (sp : SpX) : Prop :=
  ∀ (cdv : Value) (A : Around) (outer : List Env) (s : Shared) (H : Hp) (E : XK) (ds : List D) (S : Store) (Q : D → Store → Prop) (Qx : Exd → Store → Prop), Room k (cxOf (L2.CX P w) P w K mg base N qual (defScope st) f cdv A outer s H E).A → belS S.length S → bel.belAll S.length ds = true → sp ds S Q Qx →
    WSs (cxOf (L2.CX P w) P w K mg base N qual (defScope st) f cdv A outer s H E) S.length (defBody st) (startD N ds) S (fnEndsX S.length Q Qx)
end
section
variable {P : Program} {w : World} {K : PySem.W.Frag} {mg : Str → Option Value} {base : Heap}
theorem postX_fn {N : List Str} {qual : Str} {scope : Scope} {f : Addr} {cdv : Value} {A : Around} {outer : List Env} {s : Shared} {F : List Addr} {H : Hp} {E : XK} {Q : D → Store → Prop} {Q' : VK} {Qx : Exd → Store → Prop} (k : Post F H Q Q') (kx : PostX F H Qx E) :
    PostS F H (cxOf (L2.CX P w) P w K mg base N qual scope f cdv A outer s H E) (fnEndsX F.length Q Qx) { nx := fun _ H' => Q' .non H', rt := Q' } := by
  have h := post_fn (X := cxOf (L2.CX P w) P w K mg base N qual scope f cdv A outer s H E) k
  refine ⟨h.nx, h.rt, h.bk, h.ct, fun cls d _ H' => E cls d H', takes_of rfl rfl rfl rfl, fun x cls d t F' H' S' p kk rs rx z => ?_⟩
  obtain ⟨S2, c, q⟩ := z
  obtain ⟨F2, p2, rs2⟩ := c F' H' rs
  rw [← pre_of_take rfl p] at p2
  exact kx x cls d F2 H' S2 p2 kk rs2 rx q
theorem fnOkX {x qual : Str} {st : Stmt} {f : Addr} {fd : FuncData} {N ps : List Str} {k : Nat} {sp : SpX} (Fn : FunD K x qual (defArgs st) (defBody st) (defScope st) [] [] f fd) (Sc : FnScope N ps (defScope st)) (len : ∀ ds S Q Qx, sp ds S Q Qx → ds.length = ps.length)
    (body : BodyOkX P w K mg base N qual st f k sp) : FnOk P w K mg base (L2.CX P w) (k + 1) f fd ps (spX K sp) := by
  refine Fn.ok Sc (fun vs H Q E h => ?_) (fun cdv A outer s H vs Q E hr h => ?_)
  · obtain ⟨F, ds, S, Qd, Qx, rs, r, hs, k, kx⟩ := h
    rw [r.length]
    exact len ds S Qd Qx hs
  · obtain ⟨F, ds, S, Qd, Qx, rs, r, hs, kp, kx⟩ := h
    refine ⟨_, pss_w, ?_⟩
    have q := body cdv A outer s H E ds S Qd Qx hr rs.bel (rs.len ▸ RDs.bel r) hs
    exact q F H F (L2.start N vs) H _ rs.len (List.prefix_refl F) (Keep.refl H) (re_start r) rs (by rw [← rs.len]; exact postX_fn kp kx)
theorem calX {x : Str} {st : Stmt} {f : Addr} {N ps : List Str} {k : Nat} {sp : SpX} (df : Df K x x st f) (hm : mg x = some (.ref f)) (Sc : FnScope N ps (defScope st)) (b : BindOk x x st ps) (len : ∀ ds S Q Qx, sp ds S Q Qx → ds.length = ps.length)
    (body : BodyOkX P w K mg base N x st f k sp) : CalX P w K mg base x (k + 1) ps sp := by
  obtain ⟨fd, Fn⟩ := df.ex
  exact ⟨f, fd, fnOkX Fn Sc len body, hm, Fn.kp, Fn.bindsN b⟩
theorem mcalX {C : Addr} {x qual : Str} {st : Stmt} {f : Addr} {N ps : List Str} {k : Nat} {sp : SpX} (df : Df K x qual st f) (hm : Meth K C x f) (Sc : FnScope N ps (defScope st)) (b : BindOk x qual st ps) (len : ∀ ds S Q Qx, sp ds S Q Qx → ds.length = ps.length)
    (body : BodyOkX P w K mg base N qual st f k sp) : MCalX P w K mg base C x (k + 1) ps sp := by
  obtain ⟨fd, Fn⟩ := df.ex
  exact ⟨f, fd, fnOkX Fn Sc len body, hm, Fn.bindsN b⟩
theorem CalX.mono {x : Str} {j k : Nat} {ps : List Str} {sp : SpX} (c : CalX P w K mg base x j ps sp) (h : j ≤ k) : CalX P w K mg base x k ps sp := by
  obtain ⟨f, fd, G, r⟩ := c.ex
  exact ⟨f, fd, G.mono h, r⟩
end
/-! ### expressions that may raise -/
def WEX (X : Cx) (n : Nat) (e : Expr) (v : Fv) (S : Store) (Q : D → Store → Prop) (Qx : Exd → Store → Prop) : Prop :=
  ∀ F0 H0 F t H Q', F0.length = n → F0 <+: F → Keep H0 H → RE F H v t → RS F H S → Post F H Q Q' → XT F0 H0 X Qx → wE X e t H Q'
section
variable {X : Cx} {n k : Nat} {e o a : Expr} {es : List Expr} {v : Fv} {S : Store} {Q : D → Store → Prop} {Qx : Exd → Store → Prop} {E : Ed} {pos p apos : Pos} {x m : Str} {ps : List Str} {sp : SpX} {C : Addr}
theorem WEX.of (h : WE X e v S Q) : WEX X n e v S Q Qx := fun F0 H0 F t H Q' hl p k re rs q xt => h F t H Q' re rs q
/-- what a call lets out is taken -/
theorem XT.call {F0 F : List Addr} {H0 H : Hp} (xt : XT F0 H0 X Qx) (p : F0 <+: F) (kk : Keep H0 H) : ∃ E : XK, Passes (L2.CX X.prog X.w) X E ∧ PostX F H Qx E := by
  obtain ⟨W, tk, hW⟩ := xt
  exact ⟨fun cls d H' => ∀ t, W cls d t H', passes_call tk fun _ _ σ _ h => h σ, fun x cls d F' H' S' p' k' rs rx q t => hW x cls d t F' H' S' (p.trans p') (kk.trans k') rs rx q⟩
theorem WEX.cal (c : CalX X.prog X.w X.K X.mg X.base x k ps sp) (hr : Room k X.A) (h : WA X (a :: es) v S fun ds S1 => sp ds S1 Q Qx) (hg : Gl X x := by rfl)
    (hdb : (x == ("__debug__" : Str)) = false := by decide) (he : starEach (a :: es) X.env = (false, eval a X.env) :: starEach es X.env := by rfl) (hpl : (backTo pos (starEach es X.env)).any (·.1) = false := by rfl) : WEX X n (.Call (.Name x p) (a :: es) [] pos) v S Q Qx := fun F0 H0 F t H Q' hl p kk re rs q xt => by
  obtain ⟨f, fd, G, hm, hk, hb⟩ := c.ex
  obtain ⟨Ek, hx, px⟩ := xt.call p kk
  refine wE_of (pe_call (E := Ek) G hr hg hm hk hb .nil hx pa_w hdb he hpl) ?_
  refine h F t H _ re rs fun F1 ds vs H1 S1 p1 k1 rs1 r1 h1 => ?_
  rw [List.append_nil]
  exact ⟨F1, ds, S1, Q, Qx, rs1, r1, h1, q.mono p1 k1, px.mono p1 k1⟩
theorem WEX.mcal {pl : Sem Bool} (c : MCalX X.prog X.w X.K X.mg X.base C m k ps sp) (hr : Room k X.A) (cl : Cls X.K C)
    (h : WE X o v S fun d S1 => ∃ l fs, d = .loc l ∧ S1[l]? = some (.ins C fs) ∧ fs.lookup m = none ∧ WA X (a :: es) v S1 fun ds S2 => sp (.loc l :: ds) S2 Q Qx)
    (hst : starEach (a :: es) X.env = (false, eval a X.env) :: starEach es X.env := by rfl) (hpl : (backTo pos (starEach es X.env)).any (·.1) = false := by rfl)
    (ht : eval (.Call (.Attribute o m apos) (a :: es) [] pos) X.env = (do
      let ov ← eval o X.env
      standAt apos.atName
      let (f, first) ← holding [ov] (getMethod ov m pl)
      callWith pos f first (backTo pos (starEach (a :: es) X.env)) (backToKw pos (keywordEach [] X.env))) := by rfl) : WEX X n (.Call (.Attribute o m apos) (a :: es) [] pos) v S Q Qx := fun F0 H0 F t H Q' hl p kk re rs q xt => by
  obtain ⟨f, fd, G, hm, hb⟩ := c.ex
  obtain ⟨Ek, hx, px⟩ := xt.call p kk
  refine wE_of (pe_meth (E := Ek) (pl := pl) pe_w cl hm G hr hb .nil hx pa_w hst hpl ht) ?_
  refine h F t H _ re rs fun F1 d u H1 S1 p1 k1 rs1 r1 h1 => ?_
  obtain ⟨l, fs, rfl, hl, hf, h1⟩ := h1
  obtain ⟨a, rfl, ha⟩ := r1
  obtain ⟨a', h', e1, e2, dx, vs, e3, e4⟩ := rs1.get hl
  rw [e1] at ha; cases ha
  subst e3
  refine ⟨a, dx, vs, rfl, e2, e4.lookup.1 hf, ?_⟩
  refine h1 F1 t H1 _ (re.mono p1 k1) rs1 fun F2 ds ws H2 S2 p2 k2 rs2 r2 h2 => ?_
  rw [List.append_nil]
  exact ⟨F2, .loc l :: ds, S2, Q, Qx, rs2, ⟨.ref a, ws, rfl, ⟨a, rfl, pre_get p2 e1⟩, r2⟩, h2, (q.mono p1 k1).mono p2 k2, (px.mono p1 k1).mono p2 k2⟩
theorem WS.exprX (h : WEX X n e v S (fun _ S1 => E.nx v S1) E.xe) (hs : swapsWith e none pos.line X.env = pure false := by rfl) : WS X n (.Expr e pos) v S E := fun F0 H0 F t H E' hl p k re rs q => by
  refine wS_of (ps_expr pe_w hs) ?_
  exact h F0 H0 F t H _ hl p k re rs (fun F1 d u H1 S1 p1 k1 rs1 r1 h1 => q.nx F1 v t H1 S1 (p.trans p1) (k.trans k1) (re.mono p1 k1) rs1 h1) q.xe
theorem WS.retX (h : WEX X n e v S E.rt E.xe) : WS X n (.Return (some e) pos) v S E := fun F0 H0 F t H E' hl p k re rs q => by
  refine wS_of (ps_ret pe_w) ?_
  exact h F0 H0 F t H _ hl p k re rs (fun F1 d u H1 S1 p1 k1 rs1 r1 h1 => q.rt F1 d u H1 S1 (p.trans p1) (k.trans k1) rs1 r1 h1) q.xe
theorem WS.setX (i : Nat) {x : Str} {px : Pos} (h : WEX X n e v S (fun d S1 => E.nx (v.set i (some d)) S1) E.xe) (hN : X.N.Nodup) (hi : X.N[i]? = some x := by rfl) (hx : Loc X.env.scope x := by first | exact Or.inl rfl | exact Or.inr rfl)
    (hs : swapsWith e (some (.Name x px)) pos.line X.env = pure false := by rfl) (hf : X.fn x = true ∨ X.env.scope.names.lookup x = some .local := by first | exact .inl rfl | exact .inr rfl) : WS X n (.Assign [.Name x px] e pos) v S E := fun F0 H0 F t H E' hl p k re rs q => by
  refine wS_of (ps_set hN hi hx pe_w hs hf) ?_
  exact h F0 H0 F t H _ hl p k re rs (fun F1 d u H1 S1 p1 k1 rs1 r1 h1 => q.nx F1 _ _ H1 S1 (p.trans p1) (k.trans k1) ((re.mono p1 k1).set r1) rs1 h1) q.xe
end
/-! ### raise -/
theorem Keep.ext {H H' : Hp} (h : ∀ b u, H b = some u → H' b = some u) : Keep H H' := ⟨fun a xs q => h _ _ q, fun a o u q => h _ _ q, fun a fs q => h _ _ q, fun P t => t.ext h⟩
/-- a class without own __init__ -/
structure ExT (K : PySem.W.Frag) (mg : Str → Option Value) (x : Str) (C : Addr) : Prop where
  g : mg x = some (.ref C)
  ex : PySem.W.excIn K C [.type "ValueError", .type "Exception", .type "BaseException", .type "object"] "ValueError.__new__" = true
  kp : PySem.W.keepIn K (.ref C) = true
  sub : PySem.W.subIn K (.ref C) (.type "BaseException") = some true
  ty : PySem.W.typeIn K (.ref C) = some (.type "type")
/-- a class with own __init__ that keeps one number -/
def spIn (C : Addr) (nm : Str) : Sp := fun vs H Q _ => ∃ (a : Addr) (i : Int), vs = [.ref a, .int i] ∧ H a = some (exo a C none) ∧ ∀ dx, H dx = none → dx ≠ a → Q .non (upd (upd H dx (exd dx [(nm, .int i)])) a (exo a C (some dx)))
structure ExI (P : Program) (w : World) (K : PySem.W.Frag) (mg : Str → Option Value) (base : Heap) (x nm : Str) (C : Addr) (k : Nat) : Prop where
  g : mg x = some (.ref C)
  o : OexC K C
  ini : ∃ (fI : Addr) (fd : FuncData), PySem.W.findIn K (.ref C) "__init__" = some (some (.ref fI)) ∧ PySem.W.typeIn K (.ref fI) = some (.type "function") ∧ FnOk P w K mg base CX0 k fI fd ["self", nm] (spIn C nm) ∧ Binds K fd ["self", nm] []
section
variable {X : Cx} {n k : Nat} {a : Expr} {v : Fv} {S : Store} {E : Ed} {pos p p2 cpos : Pos} {x m nm : Str} {C : Addr} {j : Nat}
theorem WS.raiseT (T : ExT X.K X.mg x C) (hc : X.calm = true) (h : E.xe ⟨C, none⟩ S) (hg : Gl X x := by rfl) (hdb : (x == ("__debug__" : Str)) = false := by decide) : WS X n (.Raise (some (.Call (.Name x p) [.Constant (.str m) j p2] [] cpos)) none pos) v S E := fun F0 H0 F t H E' hl pp kk re rs q => by
  obtain ⟨W, tk, hW⟩ := q.xe
  refine wS_of (ps_raise hc tk (pmk_own PySem.F.excBase_ValueError T.ex T.g T.kp (raises_own T.sub T.ty) hg hdb)) ?_
  exact hW ⟨C, none⟩ _ _ t F H S pp kk rs ⟨rfl, fun _ _ z => (by cases z), fun _ => rfl⟩ h
theorem WS.raiseI (T : ExI X.prog X.w X.K X.mg X.base x nm C k) (hr : Room (k + 1) X.A) (hc : X.calm = true) (h : WE X a v S fun d S1 => ∃ i, d = .int i ∧ E.xe ⟨C, some (nm, i)⟩ S1) (hg : Gl X x := by rfl) (hdb : (x == ("__debug__" : Str)) = false := by decide)
    (he : starEach [a] X.env = (false, eval a X.env) :: starEach [] X.env := by rfl) : WS X n (.Raise (some (.Call (.Name x p) [a] [] cpos)) none pos) v S E := fun F0 H0 F t H E' hl pp kk re rs q => by
  obtain ⟨W, tk, hW⟩ := q.xe
  obtain ⟨fI, fd, i1, i2, i3, i4⟩ := T.ini
  refine wS_of (ps_raise hc tk (pmk_oex T.o i1 i2 i3 hr i4 .nil pass0 hg T.g (pa_cons pe_w pa_nil he) hdb he)) ?_
  show wE X a t H _
  refine h F t H _ re rs fun F1 d u H1 S1 p1 k1 rs1 r1 h1 => ?_
  obtain ⟨i, rfl, h1⟩ := h1
  cases (show u = .int i from r1)
  refine ⟨by show 1 ≤ 1000; decide, fun b hb => ⟨b, i, rfl, upd_same, fun dx hdx ne => ⟨rfl, dx, [(nm, .int i)], upd_same, ?_, ?_, ?_⟩⟩⟩
  · rw [upd_ne ne, upd_same]
  · rwa [upd_ne ne] at hdx
  · have hd1 : H1 dx = none := by rwa [upd_ne ne] at hdx
    have ext : ∀ c u, H1 c = some u → upd (del (upd (upd (upd H1 b (exo b C none)) dx (exd dx [(nm, .int i)])) b (exo b C (some dx))) b) dx (.xd [(nm, .int i)]) c = some u := fun c u z => by
      have c1 : c ≠ b := fun y => by rw [y, hb] at z; cases z
      have c2 : c ≠ dx := fun y => by rw [y, hd1] at z; cases z
      rw [upd_ne c2, del_ne c1, upd_ne c1, upd_ne c2, upd_ne c1]; exact z
    have k2 := Keep.ext ext
    exact hW ⟨C, some (nm, i)⟩ _ _ t F1 _ S1 (pp.trans p1) (kk.trans (k1.trans k2)) (rs1.heap k2 fun c u _ z => ext c u z) ⟨rfl, fun nm' i' z => (by cases z; exact ⟨dx, rfl, upd_same⟩), fun z => (by cases z)⟩ h1
end
end DM

namespace DM
open PySem PySem.Spec PyProof.Rows L2
/-! ### the law's table of code objects -/
theorem RO.not_tbl {F : List Addr} {H : Hp} {o : Ob} {h : HO} (r : RO F H o h) : ∀ ps, h ≠ .tbl ps := fun ps => by
  cases o with
  | lst xs => obtain ⟨vs, rfl, _⟩ := r; intro z; cases z
  | dK xs => obtain ⟨vs, rfl, _⟩ := r; intro z; cases z
  | dT xs => obtain ⟨vs, rfl, _⟩ := r; intro z; cases z
  | ins C xs => obtain ⟨dx, vs, rfl, _⟩ := r; intro z; cases z
  | frz o u => obtain ⟨g, rfl, _⟩ := r; intro z; cases z
  | dN w kvs => obtain ⟨a, o, es, ep, xs, rfl, _⟩ := r; intro z; cases z
def scrOf : Gh → D
  | .ns l => .scr (.ns l)
  | .nsT l _ => .scr (.ns l)
  | .refT a _ => .ref a
  | .exc a _ _ _ => .ref a
def ScrT (K : PySem.W.Frag) (g : Gh) (P : Addr) (ns : List Int) : Prop := g = .nsT ns P ∨ ∃ a, g = .refT a P ∧ KList K a (ns.map V.int)
theorem ScrT.d {K : PySem.W.Frag} {g : Gh} {P : Addr} {ns : List Int} (h : ScrT K g P ns) : ScrD K (scrOf g) ns := by
  rcases h with rfl | ⟨a, rfl, k⟩
  · exact .inl rfl
  · exact .inr ⟨a, rfl, k⟩
theorem ScrT.tab {K : PySem.W.Frag} {g : Gh} {P : Addr} {ns : List Int} (h : ScrT K g P ns) {F : List Addr} {H : Hp} {v : V} (r : RD F H (.scr g) v) : LamX.TabS H P q0 := by
  rcases h with rfl | ⟨a, rfl, k⟩
  · exact r.2
  · exact r.2
theorem ScrT.rd {K : PySem.W.Frag} {g : Gh} {P : Addr} {ns : List Int} (h : ScrT K g P ns) {F : List Addr} {H : Hp} {v : V} (r : RD F H (.scr g) v) : RD F H (scrOf g) v := by
  rcases h with rfl | ⟨a, rfl, k⟩
  · exact r.1
  · exact r.1
theorem WE.scrT {X : Cx} {v : Fv} {S : Store} {Q : D → Store → Prop} {pos : Pos} {g : Gh} {Pt : Addr} {ns : List Int} (i : Nat) {x : Str} (hv : v[i]? = some (some (.scr g))) (hg : ScrT X.K g Pt ns) (h : Q (scrOf g) S) (hN : X.N[i]? = some x := by rfl) (hx : Vis X.env.scope x := by first | exact Or.inl rfl | exact Or.inr (Or.inl rfl) | exact Or.inr (Or.inr rfl))
    (hd : (x == ("__debug__" : Str)) = false := by decide) (hcd : (x == ("__classdict__" : Str)) = false := by decide) : WE X (.Name x pos) v S Q := fun F t H Q' re rs p => by
  obtain ⟨u, e1, r⟩ := re.at_ i _ hv
  exact wE_of (pe_var hN hx hd hcd) ⟨u, e1, p F _ u H S (List.prefix_refl F) (Keep.refl H) rs (hg.rd r) h⟩
theorem tab_list {X : Cx} {pins : List (Addr × Obj)} {t : L2.St} {H : Hp} {s : Shared} (I : Inv X pins t H s) : ∃ T : List (Addr × Str), LamX.Tabs T H ∧ (∀ p ∈ T, p.2 = q0) ∧ ∀ P, LamX.TabS H P q0 → (P, q0) ∈ T := by
  classical
  refine ⟨((List.range s.heap.objs.size).filter fun P => decide (LamX.TabS H P q0)).map fun P => (P, q0), fun p hp => ?_, fun p hp => ?_, fun P h => ?_⟩
  · obtain ⟨P, hP, rfl⟩ := List.mem_map.mp hp
    exact of_decide_eq_true (List.mem_filter.mp hP).2
  · obtain ⟨P, hP, rfl⟩ := List.mem_map.mp hp
    rfl
  · obtain ⟨ps, h1, h2, h3⟩ := id h
    have hs : s.heap.get? P = some { cls := .none, data := .fields ps } := I.hok P _ h1
    exact List.mem_map.mpr ⟨P, List.mem_filter.mpr ⟨List.mem_range.mpr (Heap.lt_size hs), decide_eq_true h⟩, rfl⟩
theorem Keep.lam {H H1 : Hp} {T : List (Addr × Str)} (e : LamX.ExtN H H1) (t1 : LamX.Tabs T H1) (all : ∀ P, LamX.TabS H P q0 → (P, q0) ∈ T) : Keep H H1 :=
  ⟨fun a xs q => e a _ q fun ps z => (by cases z), fun a o u q => e a _ q fun ps z => (by cases z), fun a fs q => e a _ q fun ps z => (by cases z), fun P t => t1 _ (all P t)⟩
theorem RS.lam {F : List Addr} {H H1 : Hp} {S : Store} (rs : RS F H S) (e : LamX.ExtN H H1) (k : Keep H H1) : RS F H1 S := rs.heap k fun a u ha q => by
  obtain ⟨l, hl, el⟩ := List.mem_iff_getElem.mp ha
  have hS : l < S.length := by rw [← rs.len]; exact hl
  obtain ⟨b, h, f1, f2, f3⟩ := rs.ob l _ (List.getElem?_eq_getElem hS)
  rw [List.getElem?_eq_getElem hl, el] at f1
  cases f1
  rw [q] at f2
  cases f2
  exact e a u q f3.not_tbl
/-! ### refusals told by their words -/
def kindN : List Str := ["BadThing", "BadClaims", "BadHeld", "BadText", "BadRoom", "BadNumbers", "NoThing", "NoHelper", "TooMany"]
def fldN (i : Nat) : Str := if i = 3 then "line" else "at"
def KOk (cs : List Addr) (x : Exd) (i : Nat) : Prop := cs[i]? = some x.C ∧ (i < 4 → ∃ n, x.f = some (fldN i, n)) ∧ (4 ≤ i → x.f = none)
def exN (x : Exd) : Int := match x.f with
  | some p => p.2
  | none => 0
def kindD (i : Nat) (x : Exd) : D := if i < 4 then .tup [.str (kindN.getD i ""), .int (exN x)] else .str (kindN.getD i "")
/-- what is asked of a class of refusals -/
structure KindC (K : PySem.W.Frag) (C CM : Addr) : Prop where
  exm : PySem.W.exmOne K (.ref C) (.ref CM) = some true
  ve : PySem.W.kitOne K (.ref C) (.type "ValueError") = some true
  cl : (PySem.W.clsIn K C).isSome = true
  ga : PySem.W.findIn K (.ref C) "__getattribute__" = some (some (.builtin "BaseException.__getattribute__"))
  gt : PySem.W.findIn K (.ref C) "__getattr__" = some none
  sb : PySem.W.subIn K (.ref C) (.type "BaseException") = some true
  ca : PySem.W.findIn K (.ref C) "__class__" = some (some (.builtin "object.__class__"))
  sp : PySem.W.specialIn K (.builtin "object.__class__") "__get__" = some (some (.builtin "getset_descriptor.__get__"))
  tk : PySem.W.takesIn K (.builtin "object.__class__") = some true
  mr : PySem.W.mroIn K C (.type "object") = some true
structure KindT (K : PySem.W.Frag) (mg : Str → Option Value) (cs : List Addr) (CM : Addr) : Prop where
  len : cs.length = 9
  me : mg "MatchError" = some (.ref CM)
  c : ∀ C ∈ cs, KindC K C CM
  is : ∀ (i j : Nat) (C D : Addr), cs[i]? = some C → cs[j]? = some D → PySem.W.kitOne K (.ref C) (.ref D) = some (decide (i = j))
  f : ∀ (i : Nat) (C : Addr), i < 4 → cs[i]? = some C → XfC K C ∧ PySem.W.findIn K (.ref C) (fldN i) = some none
/-- the datum of a caught one -/
def excD (a : Addr) (d : Option Addr) (x : Exd) : D := match x.f, d with
  | some (nm, n), some dx => .scr (.exc a dx nm n)
  | _, _ => .ref a
theorem excD_rd {F : List Addr} {H : Hp} {x : Exd} {cls : Value} {d : Option Addr} (h : RX H x cls d) (a : Addr) : RD F H (excD a d x) (.ref a) := by
  unfold excD
  obtain ⟨C, f⟩ := x
  cases f with
  | none => rfl
  | some p =>
    obtain ⟨nm, n⟩ := p
    obtain ⟨dx, rfl, e⟩ := h.2.1 nm n rfl
    exact ⟨rfl, e⟩
section
variable {X : Cx} {a C : Addr} {oe : Obj} {pn : List (Addr × Obj)} {d : Option Addr} {S : Store} {Q : D → Store → Prop}
/-- isinstance(e, c) of the exception that the suite holds -/
def rIsX (K : PySem.W.Frag) (C a : Addr) (d : Option Addr) : List V → Hp → VK → Prop := fun xs H Q => ∃ (c : V) (cv : Value) (b : Bool), xs = [.ref a, c] ∧ (∀ u, RelV c u → u = cv) ∧ PySem.W.kitOne K (.ref C) cv = some b ∧ (∀ dx, d = some dx → ∃ fs, H dx = some (.xd fs)) ∧ Q (.bl b) H
theorem call_isX {CM : Addr} (kc : KindC X.K C CM) (hz : Zc (.ref C) d oe) (hf : ∃ vs, oe.data = .fields vs) : CallR (X.suite a ((a, oe) :: pn)) (.builtin "isinstance") (rIsX X.K C a d) := by
  intro pins s σ H xs us Q I r h
  obtain ⟨c, cv, b, rfl, hcv, e, hdx, q⟩ := h
  cases r with
  | cons rx rr =>
    cases rr with
    | cons rt rr =>
      cases rr; cases rx
      have ec := hcv _ rt
      subst ec
      obtain ⟨hget, _⟩ := I.pin (a, oe) (List.mem_append.mpr (.inl List.mem_cons_self))
      obtain ⟨vs, hv⟩ := hf
      obtain ⟨od, J⟩ : ∃ od, PySem.W.InstAt s.heap a oe C od := by
        cases d with
        | none => exact ⟨none, hget, hz.1, by unfold PySem.W.notCls; rw [hv] <;> rfl, by rw [hz.2]; trivial⟩
        | some dx =>
          obtain ⟨fs, ex⟩ := hdx dx rfl
          have hx : ObjOk X.prog X.w H s.heap dx (.xd fs) := I.hok dx _ ex
          obtain ⟨mA, hns, _⟩ := hx
          obtain ⟨od, ho, _⟩ := lookIn_ns hns
          exact ⟨some od, hget, hz.1, by unfold PySem.W.notCls; rw [hv] <;> rfl, by rw [hz.2]; exact ho⟩
      exact PySem.W.kia_one (PySem.W.kitx_exc kc.cl kc.ga kc.gt kc.sb kc.ca kc.sp kc.tk kc.mr) I.kIn J e (fun z => nomatch z) fun tk => ⟨.bl b, H, I.kept (t' := tk) fun _ _ z => z, rfl, q⟩
theorem excD_at {F : List Addr} {H : Hp} {x : Exd} {v : V} (hx : x.f = none → d = none) (r : RD F H (excD a d x) v) : v = .ref a ∧ ∀ dx, d = some dx → ∃ fs, H dx = some (.xd fs) := by
  obtain ⟨C', f⟩ := x
  unfold excD at r
  cases f with
  | none => exact ⟨r, fun dx e => by rw [hx rfl] at e; cases e⟩
  | some p =>
    obtain ⟨nm, n⟩ := p
    cases d with
    | none => exact ⟨r, fun dx e => by cases e⟩
    | some dx => exact ⟨r.1, fun dx' e => by cases e; exact ⟨_, r.2⟩⟩
theorem CW.isX {CM : Addr} (kc : KindC X.K C CM) (hz : Zc (.ref C) d oe) (hf : ∃ vs, oe.data = .fields vs) {x : Exd} (hx : x.f = none → d = none) {y : D} {cv : Value} {b : Bool} (hy : (∃ D', y = .ref D' ∧ cv = .ref D') ∨ ∃ T, y = .ty T ∧ cv = .type T) (e : PySem.W.kitOne X.K (.ref C) cv = some b) (h : Q (.bl b) S) :
    CW (X.suite a ((a, oe) :: pn)) (.builtin "isinstance") [excD a d x, y] S Q := CW.of (call_isX kc hz hf) fun F H vs Q' rs r k => by
  obtain ⟨v1, r1, rfl, h1, r2⟩ := r
  obtain ⟨v2, r3, rfl, h2, r4⟩ := r2
  cases (show r3 = [] from r4)
  obtain ⟨rfl, hd⟩ := excD_at hx h1
  rcases hy with ⟨D', rfl, rfl⟩ | ⟨T, rfl, rfl⟩
  · cases (show v2 = .ref D' from h2)
    exact ⟨.ref D', _, b, rfl, fun u z => z, e, hd, k.now rs (d := .bl b) rfl h⟩
  · cases (show v2 = .ty T from h2)
    exact ⟨.ty T, _, b, rfl, fun u z => z, e, hd, k.now rs (d := .bl b) rfl h⟩
/-- e.f -/
theorem WE.xf {v : Fv} {e : Expr} {pos : Pos} {nm : Str} {n : Int} {x : Exd} (T : XfC X.K C) (hno : PySem.W.findIn X.K (.ref C) nm = some none) (hz : Zc (.ref C) d oe) (hf : ∃ vs, oe.data = .fields vs) (hxf : x.f = some (nm, n)) (hd : ∃ dx, d = some dx) (h : WE (X.suite a ((a, oe) :: pn)) e v S fun y S1 => y = excD a d x ∧ Q (.int n) S1)
    (hb : attributeBase e nm X.env (eval e X.env) = eval e X.env := by rfl) : WE (X.suite a ((a, oe) :: pn)) (.Attribute e nm pos) v S Q := fun F t H Q' re rs k => by
  refine wE_of (pe_xf T hno hz hf pe_w hb) ?_
  refine h F t H _ re rs fun F1 y u H1 S1 p1 k1 rs1 r1 h1 => ?_
  obtain ⟨rfl, q⟩ := h1
  obtain ⟨dx, rfl⟩ := hd
  unfold excD at r1
  rw [hxf] at r1
  obtain ⟨rfl, e1⟩ := r1
  exact ⟨rfl, rfl, dx, _, .int n, rfl, e1, by simp [List.lookup], k F1 (.int n) (.int n) H1 S1 p1 k1 rs1 rfl q⟩
end
/-! ### lists of bools -/
theorem bools_rd {F : List Addr} {H : Hp} : ∀ {bs : List Bool} {vs : List V}, RDs F H (bs.map D.bl) vs → vs = bs.map V.bl
  | [], vs, r => r
  | b :: bs, vs, ⟨v, r, e, h1, h2⟩ => by rw [e, bools_rd h2, show v = .bl b from h1]; rfl
theorem bools_vals : ∀ {bs : List Bool} {us : List Value}, Vals (bs.map V.bl) us → us = bs.map Value.bool
  | [], _, .nil => rfl
  | b :: bs, _, .cons r t => by rw [bools_vals t, show _ = Value.bool b from r]; rfl
def rCntB (K : PySem.W.Frag) : V → List V → Hp → VK → Prop := fun x xs H Q => ∃ (p : Addr) (bs : List Bool) (b : Bool), x = .ref p ∧ xs = [.bl b] ∧ SqL K H p (bs.map V.bl) ∧ Q (.int (bs.count b : Nat)) H
theorem countP_bools (b : Bool) : ∀ bs : List Bool, (bs.map Value.bool).countP (isBoolOf b) = bs.count b
  | [] => rfl
  | c :: bs => by
    rw [List.map_cons, List.countP_cons, List.count_cons, countP_bools b bs]; rfl
theorem mt_bcount {X : Cx} : MtR X "list.count" (rCntB X.K) := fun pins s σ H x xs v us Q I rx rxs h => by
  obtain ⟨p, bs, b, rfl, rfl, hs, q⟩ := h
  cases rx
  obtain ⟨u, rfl, ru⟩ := rxs.one
  cases (show u = Value.bool b from ru)
  obtain ⟨its, rv, ⟨⟨cls, dd, data, sl⟩, n, ho, hc, hdn, hd⟩, hlen⟩ := I.list hs
  simp only at hc hd
  subst hc; subst hd
  have ei := bools_vals rv
  subst ei
  refine call_meets PySem.F.slot_list_count ⟨_, ho, rfl⟩ PySem.F.entry_list_count (PySem.F.args_list_count_2 _ _) (SeqAt.list_countAt p (bs.map Value.bool).toArray n dd sl (.bool b) (isBoolOf b)) ⟨ho, fun y hy => ?_, ?_⟩
  · obtain ⟨c, _, rfl⟩ := List.mem_map.mp (show y ∈ bs.map Value.bool by simpa using hy)
    exact SeqAt.EqAt.bool_bool c b
  · refine ⟨.int (bs.count b : Nat), H, I.tok _, ⟨s.toks, ?_⟩, q⟩
    show Value.int (((bs.map Value.bool).toArray.toList.countP (isBoolOf b) : Nat) : Int) s.toks = _
    rw [List.toList_toArray, countP_bools]
section
variable {X : Cx} {S : Store} {Q : D → Store → Prop} {l : Nat} {bs : List Bool} {b : Bool}
theorem MW.countB (hl : S[l]? = some (.lst (bs.map D.bl))) (h : Q (.int (bs.count b : Nat)) S) : MW X "list.count" (.loc l) [.bl b] S Q := MW.ofR mt_bcount fun F H vx vs Q' rs rx r k => by
  obtain ⟨a, rfl, ha⟩ := rx
  obtain ⟨a', h', e1, e2, ws, e3, e4⟩ := rs.get hl
  rw [e1] at ha; cases ha
  subst e3
  cases bools_rd e4
  obtain ⟨v, r', rfl, h1, h2⟩ := r
  cases (show r' = [] from h2)
  cases (show v = .bl b from h1)
  exact ⟨a, bs, b, rfl, rfl, SqL.of e2, k.nowI rs h⟩
theorem MW.indexB (hl : S[l]? = some (.lst (bs.map D.bl))) (hm : b ∈ bs) (h : Q (.int (bs.idxOf b : Nat)) S) : MW X "list.index" (.loc l) [.bl b] S Q := MW.ofR mt_index fun F H vx vs Q' rs rx r k => by
  obtain ⟨a, rfl, ha⟩ := rx
  obtain ⟨a', h', e1, e2, ws, e3, e4⟩ := rs.get hl
  rw [e1] at ha; cases ha
  subst e3
  cases bools_rd e4
  obtain ⟨v, r', rfl, h1, h2⟩ := r
  cases (show r' = [] from h2)
  cases (show v = .bl b from h1)
  refine ⟨a, bs.map V.bl, .bl b, bs.idxOf b, .bl b, rfl, rfl, SqL.of e2, rfl, ?_, ?_, ?_, fun m z hm' hz => ?_, k.nowI rs h⟩
  · rw [List.all_eq_true]
    intro z hz
    obtain ⟨c, _, rfl⟩ := List.mem_map.mp hz
    rfl
  · rw [List.getElem?_map, idx_at hm]; rfl
  · show (b == b) = true
    simp
  · rw [List.getElem?_map] at hz
    cases e : bs[m]? with
    | none => rw [e] at hz; cases hz
    | some c =>
      rw [e] at hz
      cases hz
      show (c == b) = false
      exact beq_false_of_ne fun z => idx_first hm' (by rw [e, z])
end
/-! ### x(lambda: ..), x telling the refusal's word -/
def KEnd (cs : List Addr) (F : List Addr) (H : Hp) (Qd : D → Store → Prop) : XK := fun cls d H' => ∃ F' S' x i, F <+: F' ∧ Keep H H' ∧ RS F' H' S' ∧ RX H' x cls d ∧ KOk cs x i ∧ Qd (kindD i x) S'
def TKind (cs : List Addr) : (XK → Hp → VK → Prop) → Hp → VK → Prop := fun tl H Q => ∃ (F : List Addr) (Qd : D → Store → Prop), Post F H Qd Q ∧ tl (KEnd cs F H Qd) H fun _ H' => Q (.str "") H'
theorem WE.kind {X : Cx} {v : Fv} {S : Store} {Q : D → Store → Prop} {st : Stmt} {g c Pt : Addr} {gg : Gh} {ns : List Int} {k : Nat} {Ng : List Str} {cs : List Addr} {params : Arguments} {body : Expr} {scope : Scope} {p lpos pos : Pos} {x a : Str}
    (hm : X.mg x = some (.ref g)) (df : Df X.K x x st g) (Sg : FnScope Ng [a] (defScope st)) (b : BindOk x x st [a]) (hNg : Ng[0]? = some a) (hva : Vis (defScope st) a)
    (gv : ∀ cdg, LamX.GivesTo X Ng x (defScope st) g cdg (defBody st) a (X.env.qual ++ "<lambda>") (TKind cs)) (TB : LamX.TabB X.base X.mg c Pt) (hcode : X.env.code = .ref c) (hq : X.env.qual ++ "<lambda>" = q0) (gh : v[0]? = some (some (.scr gg))) (hgg : ScrT X.K gg Pt ns)
    (hr : Room (k + 2) X.A) (L : LamX.LamS X.env.scope scope) (hdef : defaultsOf params X.env = ([], []))
    (hbind : ∀ (q : Str) (cl : List (Str × Addr)) (pm cv ctv : Value), bindArgs (PySem.W.kla_fn "<lambda>" q params body scope cl pm cv ctv) ⟨[], []⟩ = pure [])
    (h : ∀ (A : Around) (outer : List Env) (s : Shared) (H : Hp) (E : XK) (f c' : Addr), Room k (A.deeper (LamX.lamEnv X scope s.heap.objs.size f c')) → WEX (LamX.lamCx X A outer s H E scope f c') S.length body v S (fun _ S1 => Q (.str "") S1) fun x S1 => ∃ i, KOk cs x i ∧ Q (kindD i x) S1)
    (hg : Gl X x := by rfl) (hdb : (x == ("__debug__" : Str)) = false := by decide) (hd : (a == ("__debug__" : Str)) = false := by decide) (hcd : (a == ("__classdict__" : Str)) = false := by decide) : WE X (.Call (.Name x p) [.Lambda params body scope lpos] [] pos) v S Q := fun F t H Q' re rs kq => by
  intro pins s I
  obtain ⟨fd, Fn⟩ := df.ex
  obtain ⟨oc, od, dV, kV, doc, pm, an, cdv, ct, osl, rfl, lk, hcg, _, _⟩ := Fn.ex
  obtain ⟨T, hT, h2, all⟩ := tab_list I
  obtain ⟨u0, e0, r0⟩ := re.at_ 0 _ gh
  have tP := hgg.tab r0
  refine (LamX.pe_lamcall (T := T) (k := k) (t := fun E σ H Q => ∀ (A : Around) (outer : List Env) (s : Shared) (H0 : Hp) (f c' : Addr), Room k (A.deeper (LamX.lamEnv X scope s.heap.objs.size f c')) → wE (LamX.lamCx X A outer s H0 E scope f c') body σ H Q)
    hg hm Fn.kp lk hcg (Fn.bindsN b) Sg hNg hva (gv cdv) TB hcode (by rw [hq]; exact all Pt tP) (fun q hq1 _ => by rw [hq]; exact h2 q hq1) hr L hdef hbind (fun A outer s H0 E f c' hr2 => ⟨fun pins s2 σ H Q I hh => hh A outer s H0 f c' hr2 pins s2 I⟩) hdb hd hcd).run pins s t H Q' I ⟨hT, fun H1 eN T1 => ?_⟩
  have k1 := Keep.lam eN T1 all
  have rs1 := rs.lam eN k1
  refine ⟨F, Q, kq.mono (List.prefix_refl F) k1, fun A outer s2 H0 f c' hr2 => ?_⟩
  refine h A outer s2 H0 (KEnd cs F H1 Q) f c' hr2 F H1 F t H1 _ rs.len (List.prefix_refl F) (Keep.refl H1) (re.mono (List.prefix_refl F) k1) rs1 (fun F' d u H' S' pp kk rs' rd q => kq F' (.str "") (.str "") H' S' pp (k1.trans kk) rs' rfl q) ?_
  exact ⟨fun cls d _ H' => KEnd cs F H1 Q cls d H', takes_of rfl rfl rfl rfl, fun x cls d t F' H' S' pp kk rs' rx ⟨i, ok, q⟩ => ⟨F', S', x, i, pp, kk, rs', rx, ok, q⟩⟩
end DM

namespace DM
open PySem PySem.Spec PyProof.Rows L2
/-! ### M.__init__(self, ..), M an own class of refusals without __init__ -/
structure BaseI (K : PySem.W.Frag) (CM : Addr) : Prop where
  sg : PySem.W.specialIn K (.ref CM) "__getattribute__" = some (some (.builtin "type.__getattribute__"))
  rd : PySem.W.readsIn K CM (.type "type") = true
  vi : PySem.W.findCls K (.ref CM) (.type "type") "__init__" = some (.val (.builtin "ValueError.__init__"))
theorem pe_ownInit {X : Cx} {e : Expr} {es : List Expr} {ta : TA} {x : Str} {CM : Addr} {p1 p2 pos : Pos} {pl : Sem Bool} (T : BaseI X.K CM) (hm : X.mg x = some (.ref CM)) (ha : PA X (e :: es) ta) (hg : Gl X x := by rfl) (hdb : (x == ("__debug__" : Str)) = false := by decide)
    (hc : eval (.Call (.Attribute (.Name x p1) "__init__" p2) (e :: es) [] pos) X.env = (do
      let ov ← eval (.Name x p1) X.env
      standAt p2.atName
      let (f, first) ← holding [ov] (getMethod ov "__init__" pl)
      callWith pos f first (backTo pos (starEach (e :: es) X.env)) (backToKw pos (keywordEach [] X.env))) := by rfl)
    (he : starEach (e :: es) X.env = (false, eval e X.env) :: starEach es X.env := by rfl) (hpl : (backTo pos (starEach es X.env)).any (·.1) = false := by rfl) :
    PE X (.Call (.Attribute (.Name x p1) "__init__" p2) (e :: es) [] pos) (tVeI X.K ta) := ⟨fun pins s σ H Q I h => PySem.W.methodCall_KW (ld_glob I hg hm (PySem.W.method_cls I.kIn T.sg (PySem.W.cls_value I.kIn T.rd T.vi (by decide +kernel) (by
  show wpAny _ _ (callWith pos (Value.builtin "ValueError.__init__") [] (backTo pos (starEach (e :: es) X.env)) []) _ _ _
  refine PyProof.Rows.callWith_method1 (thn (ha.run pos pins _ σ H _ (I.tok _) h) fun us s1 z => ?_) he hpl
  obtain ⟨vs, H1, J, rv, a, C, ws, rfl, hl, oc, ea, q⟩ := z
  cases rv with
  | @cons _ u0 _ ur ra rw' =>
    obtain rfl : u0 = Value.ref a := ra
    exact oinit_ok oc J ea (by rw [← Paired.length rw', sizeLine_eq]; omega) fun s' J2 => ⟨.non, H1, J2, rfl, q⟩))) hdb) hc⟩
/-! ### facts of the refusals' classes, told by a Bool -/
def baseIB (K : PySem.W.Frag) (CM : Addr) : Bool := decide (PySem.W.specialIn K (.ref CM) "__getattribute__" = some (some (.builtin "type.__getattribute__"))) && (PySem.W.readsIn K CM (.type "type") && (match PySem.W.findCls K (.ref CM) (.type "type") "__init__" with
  | some (.val (.builtin n)) => decide (n = "ValueError.__init__")
  | _ => false))
theorem baseI_of {K : PySem.W.Frag} {CM : Addr} (h : baseIB K CM = true) : BaseI K CM := by
  obtain ⟨h1, h⟩ := Bool.and_eq_true_iff.mp h
  obtain ⟨h2, h3⟩ := Bool.and_eq_true_iff.mp h
  refine ⟨of_decide_eq_true h1, h2, ?_⟩
  split at h3
  · rename_i n e
    rw [e, of_decide_eq_true h3]
  · cases h3
def kindB (K : PySem.W.Frag) (C CM : Addr) : Bool := decide (PySem.W.exmOne K (.ref C) (.ref CM) = some true ∧ PySem.W.kitOne K (.ref C) (.type "ValueError") = some true ∧ (PySem.W.clsIn K C).isSome = true ∧
  PySem.W.findIn K (.ref C) "__getattribute__" = some (some (.builtin "BaseException.__getattribute__")) ∧ PySem.W.findIn K (.ref C) "__getattr__" = some none ∧ PySem.W.subIn K (.ref C) (.type "BaseException") = some true ∧
  PySem.W.findIn K (.ref C) "__class__" = some (some (.builtin "object.__class__")) ∧ PySem.W.specialIn K (.builtin "object.__class__") "__get__" = some (some (.builtin "getset_descriptor.__get__")) ∧ PySem.W.takesIn K (.builtin "object.__class__") = some true ∧ PySem.W.mroIn K C (.type "object") = some true)
theorem kindC_of {K : PySem.W.Frag} {C CM : Addr} (h : kindB K C CM = true) : KindC K C CM := by
  obtain ⟨a, b, c, d, e, f, g, i, j, k⟩ := of_decide_eq_true h
  exact ⟨a, b, c, d, e, f, g, i, j, k⟩
def refC (K : PySem.W.Frag) (i : Nat) : Addr := He.ga K (kindN.getD i "")
def kindTB (K : PySem.W.Frag) : Bool := ((List.range 9).all fun i => kindB K (refC K i) (He.ga K "MatchError")) && (((List.range 9).all fun i => (List.range 9).all fun j => decide (PySem.W.kitOne K (.ref (refC K i)) (.ref (refC K j)) = some (decide (i = j)))) &&
  ((List.range 4).all fun i => xfB K (refC K i) && decide (PySem.W.findIn K (.ref (refC K i)) (fldN i) = some none)))
theorem refC_at {K : PySem.W.Frag} {i : Nat} {C : Addr} (h : (kindN.map (He.ga K))[i]? = some C) : i < 9 ∧ C = refC K i := by
  have hi : i < 9 := (List.getElem?_eq_some_iff.mp h).1
  refine ⟨hi, ?_⟩
  have : i = 0 ∨ i = 1 ∨ i = 2 ∨ i = 3 ∨ i = 4 ∨ i = 5 ∨ i = 6 ∨ i = 7 ∨ i = 8 := by omega
  rcases this with rfl | rfl | rfl | rfl | rfl | rfl | rfl | rfl | rfl <;> exact (Option.some.inj h).symm
theorem kindT_of {K : PySem.W.Frag} {mg : Str → Option Value} (h : kindTB K = true) (hm : mg "MatchError" = some (.ref (He.ga K "MatchError"))) : KindT K mg (kindN.map (He.ga K)) (He.ga K "MatchError") := by
  obtain ⟨h1, h⟩ := Bool.and_eq_true_iff.mp h
  obtain ⟨h2, h3⟩ := Bool.and_eq_true_iff.mp h
  refine ⟨rfl, hm, fun C hC => ?_, fun i j C D hC hD => ?_, fun i C hi hC => ?_⟩
  · obtain ⟨i, e⟩ := List.mem_iff_getElem?.mp hC
    obtain ⟨hi, rfl⟩ := refC_at e
    exact kindC_of (List.all_eq_true.mp h1 i (List.mem_range.mpr hi))
  · obtain ⟨hi, rfl⟩ := refC_at hC
    obtain ⟨hj, rfl⟩ := refC_at hD
    exact of_decide_eq_true (List.all_eq_true.mp (List.all_eq_true.mp h2 i (List.mem_range.mpr hi)) j (List.mem_range.mpr hj))
  · obtain ⟨_, rfl⟩ := refC_at hC
    obtain ⟨a, b⟩ := Bool.and_eq_true_iff.mp (List.all_eq_true.mp h3 i (List.mem_range.mpr hi))
    exact ⟨xfB_ok a, of_decide_eq_true b⟩
def rawOex (K : PySem.W.Frag) (C : Addr) : Bool := match K.lookup C with
  | some ⟨.type "type", _, .cls cd, sl⟩ => (match cd.mro, sl.toList with
    | .ref D :: bm, [_, _, _, _, some (.builtin n), _] => decide (D = C ∧ n = "ValueError.__new__" ∧ cd.hasDel = false ∧ cd.hasDict = true ∧ PySem.HandSPX.refsVE bm = true)
    | _, _ => false)
  | _ => false
def oexB (K : PySem.W.Frag) (C : Addr) (nm : Str) : Bool := rawOex K C && decide (PySem.W.findIn K (.ref C) "__setattr__" = some (some (.builtin "object.__setattr__")) ∧ PySem.W.subIn K (.ref C) (.type "BaseException") = some true ∧ PySem.W.typeIn K (.ref C) = some (.type "type") ∧ PySem.W.keepIn K (.ref C) = true ∧
  PySem.W.findIn K (.ref C) nm = some none ∧ PySem.W.findIn K (.ref C) "__init__" = some (some (.ref (He.ma K C "__init__"))) ∧ PySem.W.typeIn K (.ref (He.ma K C "__init__")) = some (.type "function"))
theorem rawOex_of {K : PySem.W.Frag} {C : Addr} (h : rawOex K C = true) : ∃ nm q N bs bm sn sub ab col dd k0 k1 k2 k3 k5, K.lookup C = some (excClassObj nm q C N bs bm true sn sub ab col dd k0 k1 k2 k3 k5 "ValueError.__new__") ∧ PySem.HandSPX.refsVE bm = true := by
  unfold rawOex at h
  split at h
  · rename_i dd cd sl ho
    split at h
    · rename_i D bm k0 k1 k2 k3 n k5 hm hs
      obtain ⟨rfl, rfl, hdel, hdct, ve⟩ := of_decide_eq_true h
      obtain ⟨nm, bs, mro, ns, qn, hd, sn, sub, ab, col, del⟩ := cd
      obtain ⟨l⟩ := sl
      dsimp only at hm hdel hdct hs
      subst hm hdel hdct hs
      exact ⟨nm, qn, ns, bs, bm, sn, sub, ab, col, dd, k0, k1, k2, k3, k5, ho, ve⟩
    · cases h
  · cases h
theorem oex_of {K : PySem.W.Frag} {C : Addr} {nm : Str} (h : oexB K C nm = true) : OexC K C ∧ PySem.W.findIn K (.ref C) nm = some none ∧ PySem.W.findIn K (.ref C) "__init__" = some (some (.ref (He.ma K C "__init__"))) ∧ PySem.W.typeIn K (.ref (He.ma K C "__init__")) = some (.type "function") := by
  obtain ⟨h1, h2⟩ := Bool.and_eq_true_iff.mp h
  obtain ⟨a, b, c, d, e, f, g⟩ := of_decide_eq_true h2
  exact ⟨⟨rawOex_of h1, a, b, c, d⟩, e, f, g⟩
/-! ### the head of a law with lambdas: the interpreter's statics are read too, law's table is left out -/
def lawAt : He.Defn := ("law", none)
def adrY (g : Addr → Option Obj) (n : Nat) : List Addr := cStatics :: He.asD g n
def frY (g : Addr → Option Obj) (n : Nat) : PySem.W.Frag := He.frT g (adrY g n)
def tabY (g : Addr → Option Obj) (K : PySem.W.Frag) : Bool := match g (He.cT K lawAt).2 with
  | some o => He.emptyTab o
  | none => false
abbrev AlY : Type := He.AlD × Bool × Bool × Bool
def obsY (n : Nat) (fa : List He.Fa) (fn : List He.DefD) (ex : PySem.W.Frag → Bool) (g : Addr → Option Obj) : AlY := (He.obsD fa fn (frY g n), ex (frY g n), PySem.W.codeHdIn (frY g n) (He.cT (frY g n) lawAt).1 (He.cT (frY g n) lawAt).2, tabY g (frY g n))
structure SaysY (fa : List He.Fa) (fn : List He.DefD) (ex : PySem.W.Frag → Bool) (h : Heap) (K : PySem.W.Frag) : Prop where
  d : He.SaysD fa fn K
  ex : ex K = true
  hd : PySem.W.codeHdIn K (He.cT K lawAt).1 (He.cT K lawAt).2 = true
  out : K.lookup (He.cT K lawAt).2 = none
  empty : h.get? (He.cT K lawAt).2 = some { cls := .none, data := .fields #[] }
theorem saysY_of {n : Nat} {fa : List He.Fa} {fn : List He.DefD} {ex : PySem.W.Frag → Bool} {h : Heap} (e : obsY n fa fn ex h.get? = (He.valD fn, true, true, true)) : SaysY fa fn ex h (frY h.get? n) := by
  have e4 : tabY h.get? (frY h.get? n) = true := congrArg (fun z : AlY => z.2.2.2) e
  unfold tabY at e4
  cases q : h.get? (He.cT (frY h.get? n) lawAt).2 with
  | none => rw [q] at e4; cases e4
  | some o =>
    rw [q] at e4
    refine ⟨congrArg (fun z : AlY => z.1) e, congrArg (fun z : AlY => z.2.1) e, congrArg (fun z : AlY => z.2.2.1) e, He.frT_none q e4, ?_⟩
    rw [q, He.emptyTab_eq e4]
def hookY (n : Nat) (fa : List He.Fa) (fn : List He.DefD) (ex : PySem.W.Frag → Bool) : PySem.W.Hook := ⟨AlY, fun s => obsY n fa fn ex s.heap.get?, fun _ => (He.valD fn, true, true, true), fun _ h => ∃ K : PySem.W.Frag, K.In h ∧ SaysY fa fn ex h K, fun _ _ e => ⟨_, He.frT_in, saysY_of e⟩,
  fun _ _ _ ⟨K, hK, c⟩ k => ⟨K, PySem.W.Frag.In.keeps hK k, c.d, c.ex, c.hd, c.out, k _ _ c.empty⟩⟩
theorem obsY_eq {n : Nat} {fa : List He.Fa} {fn : List He.DefD} {ex : PySem.W.Frag → Bool} {g : Addr → Option Obj} {s : Shared} (h : ∀ a, g a = s.heap.get? a) : obsY n fa fn ex g = (hookY n fa fn ex).obs s := by rw [show g = s.heap.get? from funext h]; rfl
end DM

/-! list(enumerate(x)), x a list or a list reversed: at the library's level -/
namespace PySem.LEn
open PySem PySem.Spec PyProof.Rows
open Builtin Builtin.SmallTypes
section
variable {prog : Program} {w : World} {A : Around} {E : Value → Shared → Prop} {s : Shared} {en sr T : Addr} {fp : List Addr} {n j : Nat} {P : Nat → Value → Prop} {St : Nat → Heap → Prop} {old : Value} {f : Bool} {oT : Obj}
/-- a further item while the last pair stands -/
theorem held_next {Q : Value → Shared → Prop} (D : Draws prog w A sr fp n P St) (g0 : IsEnumHeld s.heap en sr j old T f) (gT : s.heap.get? T = some oT) (n1 : T ≠ en) (n2 : T ≠ sr) (st : St j s.heap) (lt : j < n) (n3 : en ≠ sr) (n4 : en ∉ fp)
    (q : ∀ x h1 tk, P j x → IsEnumHeld h1 en sr ((j : Int) + 1) old T true → St (j + 1) h1 → h1.get? s.heap.objs.size = some { cls := .type "tuple", data := .seq #[.int j tk, x] } → h1.objs.size = s.heap.objs.size + 1 →
      (∀ b o, b ≠ en → b ≠ sr → s.heap.get? b = some o → h1.get? b = some o) → Q (.ref s.heap.objs.size) { s with heap := h1, toks := tk + 1 }) :
    wpAny (model prog w) A (Builtin.«enumerate.__next__» ⟨[.ref en], []⟩) (fun fin s1 => ∃ v, fin = .done (.ret v) ∧ Q v s1) E s := by
  obtain ⟨h0, gs, dr, tk0, os⟩ := s
  show wpAny _ _ (field (.ref en) 2 >>= _) _ _ _
  refine wpAny_bind (wpAny_field g0 rfl (x := .ref sr) rfl (wpAny_bind (D.item j _ _ _ lt st fun x h1 tk px st1 sb1 => ?_)))
  have sb1 : Heap.SameBut sr h0 h1 := sb1
  have g1 : IsEnumHeld h1 en sr j old T f := (sb1.2 en n3).trans g0
  show wpAny _ _ (field (.ref en) 3 >>= _) _ _ ⟨h1, gs, dr, tk, os⟩
  refine wpAny_bind (wpAny_field g1 rfl (x := rawInt j) rfl ?_)
  show wpAny _ _ (field (.ref en) 4 >>= _) _ _ ⟨h1, gs, dr, tk, os⟩
  refine wpAny_bind (wpAny_field g1 rfl (x := .none) rfl ?_)
  show wpAny _ _ (mkInt j >>= _) _ _ ⟨h1, gs, dr, tk, os⟩
  refine wpAny_bind (wpAny_mkInt ?_)
  show wpAny _ _ (setField (.ref en) 3 (rawInt ((j : Int) + 1)) >>= _) _ _ ⟨h1, gs, dr, tk + 1, os⟩
  refine wpAny_bind (wpAny_setField_rec g1 (by simp) fun h2 g2 sb2 => ?_)
  have sb2 : Heap.SameBut en h1 h2 := sb2
  have g2 : IsEnumHeld h2 en sr ((j : Int) + 1) old T f := g2
  show wpAny _ _ (setField (.ref en) 4 .none >>= _) _ _ ⟨h2, gs, dr, tk + 1, os⟩
  refine wpAny_bind (wpAny_setField_rec g2 (by simp) fun h3 g3 sb3 => ?_)
  have sb3 : Heap.SameBut en h2 h3 := sb3
  have g3 : IsEnumHeld h3 en sr ((j : Int) + 1) old T f := g3
  show wpAny _ _ (newTuple [.int j tk, x] >>= _) _ _ ⟨h3, gs, dr, tk + 1, os⟩
  refine wpAny_bind (wpAny_newTuple ?_)
  have sz : h3.objs.size = h0.objs.size := by rw [sb3.1, sb2.1, sb1.1]
  have le : en < h0.objs.size := Heap.lt_size g0
  obtain ⟨h4, e4⟩ : ∃ h4, h4 = h3.push { cls := .type "tuple", data := .seq #[.int j tk, x] } := ⟨_, rfl⟩
  have g4 : IsEnumHeld h4 en sr ((j : Int) + 1) old T f := by rw [e4]; exact Heap.get?_push_of_some _ g3
  have t4 : h4.get? h0.objs.size = some { cls := .type "tuple", data := .seq #[.int j tk, x] } := by rw [e4, ← sz]; exact Heap.get?_push_size _ rfl
  have z4 : h4.objs.size = h0.objs.size + 1 := by rw [e4, Heap.size_push, sz]
  have k4 : ∀ b o, b ≠ en → b ≠ sr → h0.get? b = some o → h4.get? b = some o := fun b o b1 b2 y => by
    rw [e4]; exact Heap.get?_push_of_some _ (sb3.extBut b o b1 (sb2.extBut b o b1 (sb1.extBut b o b2 y)))
  have st4 : St (j + 1) h4 := D.frame _ _ _ st1 fun b hb o y => by
    have b1 : b ≠ en := fun z => n4 (z ▸ hb)
    rw [e4]; exact Heap.get?_push_of_some _ (sb3.extBut b o b1 (sb2.extBut b o b1 y))
  show wpAny _ _ (Builtin.SmallTypes.ownedTupleIsFree (.ref en) >>= _) _ _ ⟨h3.push { cls := .type "tuple", data := .seq #[.int j tk, x] }, gs, dr, tk + 1, os⟩
  rw [← e4, sz]
  refine wpAny_bind (wpAny_tupleHeld_enum (s := ⟨h4, gs, dr, tk + 1, os⟩) g4 (k4 T oT n1 n2 gT) fun h5 g5 sb5 => ?_)
  have sb5 : Heap.SameBut en h4 h5 := sb5
  rw [if_neg Bool.false_ne_true]
  refine wpAny_pure ⟨_, rfl, q x h5 tk px g5 (D.frame _ _ _ st4 fun b hb o y => sb5.extBut b o (fun z => n4 (z ▸ hb)) y) (sb5.extBut _ _ (Nat.ne_of_gt le) t4) ?_ fun b o b1 b2 y => sb5.extBut b o b1 (k4 b o b1 b2 y)⟩
  show h5.objs.size = h0.objs.size + 1
  rw [sb5.1, z4]
/-- how an enumerate stands at its j-th turn, the last pair still there -/
def EnS (h : Heap) (en sr : Addr) (j : Nat) : Prop := (∃ old, IsEnum h en sr j old) ∨ ∃ old T f oT, IsEnumHeld h en sr j old T f ∧ h.get? T = some oT ∧ T ≠ en ∧ T ≠ sr
theorem EnS.ty {h : Heap} {gs : Array GenState} {dr : Drawn} {tk : Tok} {os : OsState} (S : EnS h en sr j) : (⟨h, gs, dr, tk, os⟩ : Shared).TypeIs (.ref en) "enumerate" := by
  rcases S with ⟨old, g⟩ | ⟨old, T, f, oT, g, _⟩
  · exact ⟨_, g, rfl⟩
  · exact ⟨_, g, rfl⟩
theorem en_item {Q : Option Value → Shared → Prop} (D : Draws prog w A.in1 sr fp n P St) (S : EnS s.heap en sr j) (st : St j s.heap) (lt : j < n) (n3 : en ≠ sr) (n4 : en ∉ fp)
    (q : ∀ x h1 tk, P j x → EnS h1 en sr (j + 1) → St (j + 1) h1 → h1.get? s.heap.objs.size = some { cls := .type "tuple", data := .seq #[.int j tk, x] } → h1.objs.size = s.heap.objs.size + 1 →
      (∀ b o, b ≠ en → b ≠ sr → s.heap.get? b = some o → h1.get? b = some o) → Q (some (.ref s.heap.objs.size)) { s with heap := h1, toks := tk + 1 }) : wpAny (model prog w) A (pyNext (.ref en)) Q E s := by
  have ls : sr < s.heap.objs.size := by obtain ⟨_, y⟩ := D.live _ _ st; exact Heap.lt_size y
  have e1 : ((j : Int) + 1) = ((j + 1 : Nat) : Int) := by omega
  rcases S with ⟨old, g⟩ | ⟨old, T, f, oT, g, gT, n1, n2⟩
  · have le : en < s.heap.objs.size := Heap.lt_size g
    refine wpAny_pyNext_enum_itemD D g st lt n3 n4 fun x h1 tk px g1 st1 t1 z1 k1 => q x h1 tk px (.inr ⟨_, _, _, _, by rw [← e1]; exact g1, t1, Nat.ne_of_gt le, Nat.ne_of_gt ls⟩) st1 t1 z1 k1
  · have le : en < s.heap.objs.size := Heap.lt_size g
    have ty : s.TypeIs (.ref en) "enumerate" := ⟨_, g, rfl⟩
    unfold pyNext
    exact wpAny_bind (wpAny_attempt (wpAny_callSpecial?_slot (name := Str.ofString "__next__") ty F.slot_enumerate_next (wpAny_call_entry F.slot_enumerate_next ty F.entry_enumerate_next
      (held_next D g gT n1 n2 st lt n3 n4 fun x h1 tk px g1 st1 t1 z1 k1 => wpAny_pure (q x h1 tk px (.inr ⟨_, _, _, _, by rw [← e1]; exact g1, k1 T oT n1 n2 gT, n1, n2⟩) st1 t1 z1 k1)) (F.args_enumerate_next_1 _))))
theorem en_end {Q : Option Value → Shared → Prop} (D : Draws prog w A.in1 sr fp n P St) (S : EnS s.heap en sr n) (st : St n s.heap) (q : ∀ h1, Heap.ExtBut sr s.heap h1 → Q none { s with heap := h1 }) : wpAny (model prog w) A (pyNext (.ref en)) Q E s := by
  rcases S with ⟨old, g⟩ | ⟨old, T, f, oT, g, gT, n1, n2⟩
  · exact wpAny_pyNext_enum_endD D g st q
  · have ty : s.TypeIs (.ref en) "enumerate" := ⟨_, g, rfl⟩
    unfold pyNext
    refine wpAny_bind (wpAny_attempt (wpAny_callSpecial?_slot (name := Str.ofString "__next__") ty F.slot_enumerate_next (wpAny_call_entry F.slot_enumerate_next ty F.entry_enumerate_next ?_ (F.args_enumerate_next_1 _))))
    show wpAny _ _ (field (.ref en) 2 >>= _) _ _ _
    refine wpAny_bind (wpAny_field g rfl (x := .ref sr) rfl (wpAny_bind (D.done _ _ _ st fun h1 x k1 ⟨o, ho, oc⟩ => ?_)))
    exact wpAny_bind (wpAny_isInstance (T := "StopIteration") (b := true) ⟨o, ho, oc⟩ isSubtype_stop (wpAny_pure (q _ k1)))
end
/-- the pairs laid so far: the i-th at base + i -/
def Pairs (h : Heap) (base : Addr) (P : Nat → Value → Prop) (j : Nat) : Prop := ∀ i, i < j → ∃ x tk, P i x ∧ h.get? (base + i) = some { cls := .type "tuple", data := .seq #[.int i tk, x] }
def refsFrom (base : Addr) (j : Nat) : Array Value := ((List.range j).map fun i => Value.ref (base + i)).toArray
theorem refsFrom_push (base : Addr) (j : Nat) : (refsFrom base j).push (.ref (base + j)) = refsFrom base (j + 1) := by
  unfold refsFrom
  rw [List.range_succ, List.map_append]
  simp
theorem off {a base : Addr} (i : Nat) (h : a < base) : base + i ≠ a := Nat.ne_of_gt (Nat.lt_of_lt_of_le h (Nat.le_add_right _ _))
theorem refsFrom_size (base : Addr) (j : Nat) : (refsFrom base j).size = j := by simp [refsFrom]
section
variable {prog : Program} {w : World} {A : Around} {R : Result → Shared → Prop} {en sr L base : Addr} {fp : List Addr} {n : Nat} {P : Nat → Value → Prop} {St : Nat → Heap → Prop} {res : Value}
theorem ext_loop (D : Draws prog w A.in1.in1 sr fp n P St) (n3 : en ≠ sr) (n4 : en ∉ fp) (l1 : L ≠ en) (l2 : L ≠ sr) (l3 : L ∉ fp) (hn : n < sizeLine) (lb : L < base) (eb : en < base) (sb : sr < base) :
    ∀ (m j : Nat) (s : Shared) (c : Nat), j + m = n → EnS s.heap en sr j → St j s.heap → s.heap.objs.size = base + j → s.heap.get? L = some { cls := .type "list", dict := none, data := .seq (refsFrom base j) c, slots := #[] } → Pairs s.heap base P j →
      (∀ h1 tk c', h1.get? L = some { cls := .type "list", dict := none, data := .seq (refsFrom base n) c', slots := #[] } → Pairs h1 base P n → (∀ b o, b ≠ L → b ≠ en → b ≠ sr → s.heap.get? b = some o → h1.get? b = some o) → R (.ok (.ret res)) { s with heap := h1, toks := tk }) →
      codeAny (model prog w) A (.builtin "list.extend.loop" ⟨[.ref L, .ref en, res], []⟩) R s := by
  intro m
  induction m with
  | zero =>
    intro j s c e S st sz gL pr k
    cases (show j = n by omega)
    refine codeAny_builtin F.entry_extend_loop ?_
    rw [Around.under_plainId F.plain_extend_loop _]
    show wpAny _ A.in1 (pyNext (.ref en) >>= _) _ _ s
    refine wpAny_bind (en_end D S st fun h1 k1 => wpAny_pure ?_)
    have hlt : ∀ i, i < n → base + i ≠ sr := fun i _ => off i sb
    exact k h1 s.toks c (k1 L _ l2 gL) (fun i hi => by
      obtain ⟨x, tk, px, g⟩ := pr i hi
      exact ⟨x, tk, px, k1 _ _ (hlt i hi) g⟩) fun b o _ _ b2 y => k1 b o b2 y
  | succ m ih =>
    intro j s c e S st sz gL pr k
    refine codeAny_builtin F.entry_extend_loop ?_
    rw [Around.under_plainId F.plain_extend_loop _]
    show wpAny _ A.in1 (pyNext (.ref en) >>= _) _ _ s
    refine wpAny_bind (en_item D S st (by omega) n3 n4 fun x h1 tk px S1 st1 t1 z1 k1 => ?_)
    have gL1 := k1 L _ l1 l2 gL
    show wpAny _ A.in1 (updateSeq L (·.push (.ref s.heap.objs.size)) >>= _) _ _ _
    refine wpAny_bind (wpAny_updateSeq gL1 rfl (wpAny_pure ⟨plainId_quiet F.plain_extend_loop _, ?_⟩) (by rw [refsFrom_size]; omega) (by show ((refsFrom base j).push _).size ≤ sizeLine + 1; rw [Array.size_push, refsFrom_size]; omega))
    have gL2 := Heap.get?_update_self (Obj.mapSeq (·.push (Value.ref s.heap.objs.size))) gL1 rfl
    have up : ∀ b o, b ≠ L → h1.get? b = some o → (h1.update L (Obj.mapSeq (·.push (Value.ref s.heap.objs.size)))).get? b = some o := fun b o hb y => (Heap.get?_update_other _ _ (Ne.symm hb)).trans y
    have zu : (h1.update L (Obj.mapSeq (·.push (Value.ref s.heap.objs.size)))).objs.size = h1.objs.size := Heap.size_update ..
    obtain ⟨c2, gL3⟩ : ∃ c2, (h1.update L (Obj.mapSeq (·.push (Value.ref s.heap.objs.size)))).get? L = some { cls := .type "list", dict := none, data := .seq (refsFrom base (j + 1)) c2, slots := #[] } := ⟨_, by rw [← refsFrom_push, ← sz]; exact gL2⟩
    refine ih (j + 1) ⟨h1.update L (Obj.mapSeq (·.push (Value.ref s.heap.objs.size))), s.gens, s.drawn, tk + 1, s.os⟩ c2 (by omega) ?_ ?_ ?_ ?_ ?_ ?_
    · rcases S1 with ⟨old, g⟩ | ⟨old, T, f, oT, g, gT, n1, n2⟩
      · exact .inl ⟨old, up _ _ (Ne.symm l1) g⟩
      · by_cases hT : T = L
        · exact .inr ⟨old, T, f, _, up _ _ (Ne.symm l1) g, by rw [hT]; exact gL2, n1, n2⟩
        · exact .inr ⟨old, T, f, oT, up _ _ (Ne.symm l1) g, up _ _ hT gT, n1, n2⟩
    · exact D.frame _ _ _ st1 fun b hb o y => up b o (fun z => l3 (z ▸ hb)) y
    · show (h1.update L _).objs.size = base + (j + 1)
      rw [zu, z1, sz]; omega
    · exact gL3
    · intro i hi
      by_cases e2 : i = j
      · subst e2
        exact ⟨x, tk, px, up _ _ (off _ lb) (by rw [← sz]; exact t1)⟩
      · obtain ⟨y, tk2, py, g⟩ := pr i (by omega)
        exact ⟨y, tk2, py, up _ _ (off _ lb) (k1 _ _ (off _ eb) (off _ sb) g)⟩
    · intro h2 tk2 c' g2 p2 k2
      exact k h2 tk2 c' g2 p2 fun b o b0 b1 b2 y => k2 b o b0 b1 b2 (up b o b0 (k1 b o b1 b2 y))
end
theorem en_len : typeLookup (.type "enumerate") "__len__" = pure none := by rw [typeLookup_type, builtinLookup_eq_fast]; kernel_rfl
theorem en_hint : typeLookup (.type "enumerate") "__length_hint__" = pure none := by rw [typeLookup_type, builtinLookup_eq_fast]; kernel_rfl
section
variable {prog : Program} {w : World} {A : Around} {E : Value → Shared → Prop} {s : Shared} {en sr : Addr} {fp : List Addr} {n : Nat} {P : Nat → Value → Prop} {St : Nat → Heap → Prop} {old : Value}
/-- list(en), en just made -/
theorem call_list_en {Q : Value → Shared → Prop} (D : Draws prog w A.in1.in1.in1 sr fp n P St) (g : IsEnum s.heap en sr 0 old) (st : St 0 s.heap) (n3 : en ≠ sr) (n4 : en ∉ fp) (hf : ∀ b ∈ fp, b < s.heap.objs.size) (hn : n < sizeLine)
    (q : ∀ h1 tk c, h1.get? s.heap.objs.size = some { cls := .type "list", dict := none, data := .seq (refsFrom (s.heap.objs.size + 1) n) c, slots := #[] } → Pairs h1 (s.heap.objs.size + 1) P n → (∀ b o, b ≠ en → b ≠ sr → s.heap.get? b = some o → h1.get? b = some o) → Q (.ref s.heap.objs.size) { s with heap := h1, toks := tk }) :
    wpAny (model prog w) A (call (.type "list") [.ref en]) Q E s := by
  have le : en < s.heap.objs.size := Heap.lt_size g
  have ls : sr < s.heap.objs.size := by obtain ⟨_, y⟩ := D.live _ _ st; exact Heap.lt_size y
  obtain ⟨L, hL⟩ : ∃ L, L = s.heap.objs.size := ⟨_, rfl⟩
  rw [← hL] at q hf le ls
  have ld : L ∉ fp := fun z => Nat.lt_irrefl _ (hf _ z)
  have lne : L ≠ en := Nat.ne_of_gt le
  have lns : L ≠ sr := Nat.ne_of_gt ls
  refine callType_codes (Q₁ := fun obj s1 => obj = .ref L ∧ s1 = { s with heap := s.heap.push { cls := .type "list", data := .seq #[] } }) F.called_list (F.typeCall_list_1 _) F.entry_list_init (code_list_new _ ⟨by rw [hL], rfl⟩) fun obj s1 e1 => ?_
  obtain ⟨rfl, rfl⟩ := e1
  have g1 : (s.heap.push { cls := .type "list", data := .seq #[] }).get? L = some { cls := .type "list", data := .seq #[] } := by rw [hL]; exact Heap.get?_push_size _ rfl
  have k1 : ∀ b o, s.heap.get? b = some o → (s.heap.push { cls := .type "list", data := .seq #[] }).get? b = some o := fun b o y => Heap.get?_push_of_some _ y
  refine ⟨⟨_, g1, rfl⟩, F.args_list_init_2 _ _, ?_⟩
  show wpAny _ A.in1.in1 (do let was ← Builtin.List.listItems (.ref L); Builtin.List.listUpdate (.ref L) (fun _ => #[]); letGo was.toList.reverse; Builtin.List.listExtendWith (.ref L) (.ref en) .none) _ _ _
  refine wpAny_bind ?_
  unfold Builtin.List.listItems
  refine wpAny_bind (wpAny_seqItems g1 rfl (wpAny_pure ?_))
  show wpAny _ A.in1.in1 (updateSeq L (fun _ => #[]) >>= fun _ => letGo (#[] : Array Value).toList.reverse >>= fun _ => Builtin.List.listExtendWith (.ref L) (.ref en) .none) _ _ _
  refine wpAny_bind (wpAny_updateSeq g1 rfl (wpAny_bind (wpAny_letGo ?_)))
  have g2 := Heap.get?_update_self (Obj.mapSeq (fun _ => (#[] : Array Value))) g1 rfl
  have up : ∀ (h : Heap) (f : Obj → Obj), (∀ b o, s.heap.get? b = some o → h.get? b = some o) → ∀ b o, s.heap.get? b = some o → (h.update L f).get? b = some o := fun h f k b o y =>
    (Heap.get?_update_other _ _ (by rw [hL]; exact Ne.symm (Nat.ne_of_lt (Heap.lt_size y)))).trans (k b o y)
  have k2 := up _ (Obj.mapSeq (fun _ => (#[] : Array Value))) k1
  have ty : ∀ {h : Heap} {gs : Array GenState} {dr : Drawn} {tk : Tok} {os : OsState}, (∀ b o, s.heap.get? b = some o → h.get? b = some o) → (⟨h, gs, dr, tk, os⟩ : Shared).TypeIs (.ref en) "enumerate" := fun k => ⟨_, k _ _ g, rfl⟩
  unfold Builtin.List.listExtendWith
  refine wpAny_bind (wpAny_typeOf (ty k2) ?_)
  rw [show Builtin.List.listSameRef (.ref L) (.ref en) = false by simp [Builtin.List.listSameRef, lne], show (Value.type "enumerate" == Value.type "list") = false by decide, show (Value.type "enumerate" == Value.type "tuple") = false by decide]
  simp only [Bool.or_false, Bool.false_eq_true, if_false]
  refine wpAny_bind (wpAny_pyIter_enum (s := { s with heap := _ }) (k2 _ _ g) (wpAny_bind (wpAny_holding ?_)))
  unfold Builtin.List.listLengthHint
  refine wpAny_bind (wpAny_specialOf (ty k2) en_len ?_)
  show wpAny _ A.in1.in1 (specialOf (Value.ref en) (Str.ofString "__length_hint__") >>= _) _ _ _
  refine wpAny_bind (wpAny_specialOf (ty k2) en_hint (wpAny_pure ?_))
  show wpAny _ A.in1.in1 (rule "list.extend.makes-room" >>= fun _ => Builtin.List.listTouch (.ref L) >>= fun _ => again (.builtin "list.extend.loop" ⟨[.ref L, .ref en, .none], []⟩)) _ _ _
  refine wpAny_bind (wpAny_rule (wpAny_bind ?_))
  show wpAny _ A.in1.in1 (updateSeq L (·.push .none) >>= fun _ => updateSeq L (·.pop)) _ _ _
  refine wpAny_bind (wpAny_updateSeq g2 rfl ?_)
  have g3 := Heap.get?_update_self (Obj.mapSeq (·.push Value.none)) g2 rfl
  refine wpAny_updateSeq (hz := by seq_fits) g3 rfl ?_
  have g4 := Heap.get?_update_self (Obj.mapSeq (·.pop)) g3 rfl
  have k4 := up _ (Obj.mapSeq (·.pop)) (up _ (Obj.mapSeq (·.push Value.none)) k2)
  refine wpAny_pure ⟨plainId_quiet F.plain_extend_loop _, ?_⟩
  generalize h4e : Heap.update _ L (Obj.mapSeq (·.pop)) = h4 at *
  obtain ⟨c4, g5⟩ : ∃ c4, h4.get? L = some { cls := .type "list", dict := none, data := .seq #[] c4, slots := #[] } := ⟨_, g4⟩
  have z4 : h4.objs.size = L + 1 + 0 := by rw [← h4e, Heap.size_update, Heap.size_update, Heap.size_update, Heap.size_push, hL]
  have g6 : h4.get? L = some { cls := .type "list", dict := none, data := .seq (refsFrom (L + 1) 0) c4, slots := #[] } := g5
  clear g4 g5 g3 g2 g1 h4e
  exact ext_loop (A := A.in1) (base := L + 1) D n3 n4 lne lns ld hn (Nat.lt_succ_self _) (Nat.lt_succ_of_lt le) (Nat.lt_succ_of_lt ls) n 0 { s with heap := h4 } c4 (Nat.zero_add n) (.inl ⟨old, k4 _ _ g⟩) (D.frame _ _ _ st fun b hb o y => k4 b o y) z4 g6 (fun i hi => absurd hi (Nat.not_lt_zero _)) fun h1 tk c e1 p1 k5 => ⟨rfl, q h1 tk c e1 p1 fun b o b1 b2 y => k5 b o (by rw [hL]; exact Nat.ne_of_lt (Heap.lt_size y)) b1 b2 (k4 b o y)⟩
end
end PySem.LEn

/-! list(enumerate(reversed(a list))); the expressions -/
namespace PySem.LEn
open PySem PySem.Spec PyProof.Rows
open Builtin Builtin.SmallTypes
open _root_.PySem.AutoSeq1 (wpAny_loadPart')
section
variable {prog : Program} {w : World} {A : Around} {E : Value → Shared → Prop} {s : Shared} {sr l : Addr} {items : Array Value}
theorem rev_item {i : Nat} {x : Value} {Q : Value → Shared → Prop} (hs : s.heap.IsRevIter sr l (i : Int)) (hl : s.heap.IsList l items) (hx : items[i]? = some x) (q : ∀ h1, h1.IsRevIter sr l ((i : Int) - 1) → Heap.SameBut sr s.heap h1 → Q x { s with heap := h1 }) :
    wpAny (model prog w) A (Builtin.SmallTypes.nextOf (.ref sr)) Q E s := by
  obtain ⟨u, hu, uc, ud⟩ := id hs
  obtain ⟨v, hv, _, nv, vd⟩ := hl
  unfold Builtin.SmallTypes.nextOf
  refine wpAny_bind (wpAny_callSpecial?_slot (name := Str.ofString "__next__") hs.typeIs F.slot_lri_next (wpAny_call_entry F.slot_lri_next hs.typeIs F.entry_lri_next ?_ (F.args_lri_next_1 _)))
  unfold Builtin.«list_reverseiterator.__next__»
  refine wpAny_bind (wpAny_of_eq (a := (Value.ref sr, [])) rfl ?_)
  try dsimp only
  refine wpAny_bind (wpAny_field hu ud (x := rawInt (i : Int)) rfl ?_)
  show wpAny _ _ (if (i : Int) < 0 then _ else _) _ _ s
  rw [if_neg (by omega : ¬ (i : Int) < 0)]
  show wpAny _ _ (field (.ref sr) 0 >>= _) _ _ s
  refine wpAny_bind (wpAny_field hu ud (x := .ref l) rfl ?_)
  show wpAny _ _ (seqItems? (.ref l) >>= _) _ _ s
  refine wpAny_bind (wpAny_seqItems hv vd ?_)
  simp only [Int.toNat_natCast, hx]
  refine wpAny_bind (wpAny_setField hu ud (by simp) ?_)
  have fin : Q x { s with heap := s.heap.update sr (Obj.mapFields (·.setIfInBounds 1 (rawInt ((i : Int) - 1)))) } := q _ ⟨_, Heap.get?_update_self _ hu (Obj.isFreed_of_fields (Obj.data_mapFields ud _)), (Obj.cls_mapFields ..).trans uc, by rw [Obj.data_mapFields ud]; simp⟩ (Heap.SameBut.update ..)
  first
    | exact wpAny_pure ⟨x, rfl, wpAny_pure fin⟩
    | exact wpAny_bind (wpAny_pure (wpAny_pure ⟨x, rfl, wpAny_pure fin⟩))
theorem rev_end {Q : Value → Shared → Prop} (hh : A.handled = none) (hs : s.heap.IsRevIter sr l (-1)) (q : ∀ h1 e, Heap.ExtBut sr s.heap h1 → (∃ o, h1.get? e = some o ∧ o.cls = .type "StopIteration") → E (.ref e) { s with heap := h1 }) : wpAny (model prog w) A (Builtin.SmallTypes.nextOf (.ref sr)) Q E s := by
  obtain ⟨u, hu, uc, ud⟩ := id hs
  unfold Builtin.SmallTypes.nextOf
  refine wpAny_bind (wpAny_callSpecial?_slot (name := Str.ofString "__next__") hs.typeIs F.slot_lri_next (wpAny_call_entry F.slot_lri_next hs.typeIs F.entry_lri_next ?_ (F.args_lri_next_1 _)))
  unfold Builtin.«list_reverseiterator.__next__»
  refine wpAny_bind (wpAny_of_eq (a := (Value.ref sr, [])) rfl ?_)
  try dsimp only
  refine wpAny_bind (wpAny_field hu ud (x := rawInt (-1)) rfl ?_)
  show wpAny _ _ (if (-1 : Int) < 0 then _ else _) _ _ s
  rw [if_pos (by decide : (-1 : Int) < 0)]
  refine wpAny_bind (wpAny_rule ?_)
  first
    | show wpAny _ _ (newExc (.type "StopIteration") [] >>= _) _ _ _
    | (refine wpAny_bind ?_; show wpAny _ _ (newExc (.type "StopIteration") [] >>= _) _ _ _)
  refine wpAny_bind ?_
  simp only [newExc, newTuple]
  refine wpAny_bind (wpAny_newObj_type (wpAny_bind (m := firstArgMember _ _) (wpAny_of_eq (a := Value.none) (by first | rfl | (simp only [firstArgMember]; rfl)) (wpAny_newObj_type ?_ (by size_fits)))) (by size_fits))
  simp only [raiseNew]
  refine wpAny_bind (wpAny_handled ?_)
  first | rw [show A.in1.handled = none from hh] | rw [hh]
  exact wpAny_bind (wpAny_pure (wpAny_throw (q _ _ (((Heap.ExtBut.refl _ _).push _).push _) ⟨_, Heap.get?_push_size _ rfl, rfl⟩)))
end
theorem Draws.rev {prog : Program} {w : World} {A : Around} (hh : A.handled = none) (sr l : Addr) (ne : l ≠ sr) (items : Array Value) :
    Draws prog w A sr [sr, l] items.size (fun i v => items[items.size - 1 - i]? = some v) (fun i h => i ≤ items.size ∧ h.IsRevIter sr l ((items.size : Int) - 1 - (i : Int)) ∧ h.IsList l items) where
  live := fun _ _ st => let ⟨o, ho, _⟩ := st.2.1; ⟨o, ho⟩
  frame := fun _ _ _ st k => ⟨st.1, st.2.1.at fun o e => k sr (by simp) o e, st.2.2.at fun o e => k l (by simp) o e⟩
  item := fun i s Q E lt st q => by
    have e : (items.size : Int) - 1 - (i : Int) = ((items.size - 1 - i : Nat) : Int) := by omega
    have hs := st.2.1
    rw [e] at hs
    have lt2 : items.size - 1 - i < items.size := by omega
    refine rev_item hs st.2.2 (x := items[items.size - 1 - i]) (by simp [lt2]) fun h1 i1 sb => q _ h1 s.toks (by simp [lt2]) ⟨lt, ?_, st.2.2.extBut sb.extBut ne⟩ sb
    have e2 : ((items.size - 1 - i : Nat) : Int) - 1 = (items.size : Int) - 1 - ((i + 1 : Nat) : Int) := by omega
    rw [← e2]; exact i1
  done := fun s Q E st q => by
    have hs := st.2.1
    rw [show (items.size : Int) - 1 - (items.size : Int) = -1 by omega] at hs
    exact rev_end hh hs q
theorem new_en_rev (r l : Addr) (i : Int) :
    Meets (Builtin.«enumerate.__new__» ⟨[.type "enumerate", .ref r], []⟩) (fun _ R s => s.heap.get? r = some (revObj l i) ∧
      R (.ok (.ret (.ref s.heap.objs.size))) { s with heap := s.heap.push { cls := .type "enumerate", data := .fields #[.none, .bool false, .ref r, rawInt 0, .none, .none] } }) :=
  .of_wp fun prog w A R s h => by
    obtain ⟨h0, gs, dr, tk, os⟩ := s
    obtain ⟨hr, h⟩ := h
    have hsub := sub_enumerate
    have hI : Heap.IsRevIter (Shared.heap ⟨h0, gs, dr, tk, os⟩) r l i := ⟨_, hr, rfl, rfl⟩
    wp_walk using wpAny_loadPart' hr
    refine wpAny_stack_any fun st => wpAny_pure ?_
    split
    · rename_i c _ _ _ _ _
      cases (c == Value.type "enumerate")
      · wp_walk using wpAny_loadPart' hr, wpAny_pyIter_revIter hI
        exact ⟨_, rfl, h⟩
      · wp_walk using wpAny_loadPart' hr, wpAny_pyIter_revIter hI
        exact ⟨_, rfl, h⟩
    · wp_walk using wpAny_loadPart' hr, wpAny_pyIter_revIter hI
      exact ⟨_, rfl, h⟩
theorem call_en_rev {prog : Program} {w : World} {A : Around} {E : Value → Shared → Prop} {s : Shared} {r l : Addr} {i : Int} {Q : Value → Shared → Prop} (hr : s.heap.get? r = some (revObj l i))
    (h : Q (.ref s.heap.objs.size) { s with heap := s.heap.push { cls := .type "enumerate", data := .fields #[.none, .bool false, .ref r, rawInt 0, .none, .none] } }) : wpAny (model prog w) A (call (.type "enumerate") [.ref r]) Q E s :=
  callType_new F.called_enumerate (by decide) (F.typeCall_enumerate_1 _) (F.newCall_enumerate_1 _) (fun obj => F.args_object_init_2 obj _) F.entry_enumerate_new (new_en_rev r l i) ⟨hr, ⟨⟨_, Heap.get?_push_size _ rfl, rfl⟩, h⟩⟩
end PySem.LEn

namespace DM
open PySem PySem.Spec PyProof.Rows L2
/-! ### list(enumerate(x)): many new pairs and the list of them -/
def prV (xs : List V) (i : Nat) : V := xs.getD i .non
def pairsH (H : Hp) (B : Addr) (xs : List V) : Hp := fun b => if B ≤ b ∧ b < B + xs.length then some (.tup [.int ((b - B : Nat) : Int), prV xs (b - B)]) else H b
def refsV (B : Addr) (n : Nat) : List V := (List.range n).map fun i => V.ref (B + i)
theorem pairsH_old {H : Hp} {B b : Addr} {xs : List V} (h : b < B) : pairsH H B xs b = H b := if_neg fun z => Nat.lt_irrefl _ (Nat.lt_of_lt_of_le h z.1)
theorem pairsH_at {H : Hp} {B : Addr} {xs : List V} {i : Nat} (h : i < xs.length) : pairsH H B xs (B + i) = some (.tup [.int (i : Int), prV xs i]) := by
  unfold pairsH
  rw [if_pos ⟨Nat.le_add_right _ _, Nat.add_lt_add_left h _⟩, Nat.add_sub_cancel_left]
def enH (H : Hp) (L : Addr) (xs : List V) : Hp := upd (pairsH H (L + 1) xs) L (.lst (refsV (L + 1) xs.length))
theorem Inv.enum {X : Cx} {pins : List (Addr × Obj)} {σ : L2.St} {H : Hp} {s : Shared} {L : Addr} {xs : List V} {us : List Value} {h : Heap} {tk : Tok} {c : Nat} (I : Inv X pins σ H s) (hL : s.heap.objs.size ≤ L) (k : ∀ b o, s.heap.get? b = some o → h.get? b = some o)
    (gL : h.get? L = some { cls := .type "list", dict := none, data := .seq (PySem.LEn.refsFrom (L + 1) xs.length) c, slots := #[] }) (r : Vals xs us) (hn : xs.length ≤ sizeLine)
    (pr : PySem.LEn.Pairs h (L + 1) (fun i x => us[i]? = some x) xs.length) : Inv X pins σ (enH H L xs) { s with heap := h, toks := tk } := by
  have old : ∀ b, b < s.heap.objs.size → enH H L xs b = H b := fun b hb => by
    unfold enH
    rw [upd_ne (Nat.ne_of_lt (Nat.lt_of_lt_of_le hb hL)), pairsH_old (Nat.lt_succ_of_lt (Nat.lt_of_lt_of_le hb hL))]
  have lt : ∀ {b : Addr} {u : HO}, H b = some u → b < s.heap.objs.size := fun {b u} e => by
    rcases Nat.lt_or_ge b s.heap.objs.size with z | z
    · exact z
    · rw [I.hok.fresh z] at e; cases e
  have un : Un X.fs [] H (enH H L xs) s.heap h := ⟨fun b o y _ _ _ => k b o y, fun b o y _ _ _ => ⟨o.slots, k b o y⟩, fun b o y n _ => by rw [old b (Heap.lt_size y)]; exact n, fun b o y _ => ⟨o, k b o y⟩,
    fun b ys e => by rw [old b (lt e)]; exact e, fun b o u e => by rw [old b (lt e)]; exact e, fun b ps e => ⟨#[], by rw [old b (lt e), e]; simp⟩⟩
  refine I.un (t' := tk) un fun b o e => ?_
  unfold enH at e
  by_cases b1 : b = L
  · subst b1
    rw [upd_same] at e
    cases e
    refine ⟨by unfold refsV; rw [List.length_map, List.length_range]; exact hn, (List.range xs.length).map fun i => Value.ref (b + 1 + i), c, ?_, gL⟩
    unfold refsV
    generalize List.range xs.length = l
    induction l with
    | nil => exact .nil
    | cons i l ih => exact .cons rfl ih
  · rw [upd_ne b1] at e
    by_cases b2 : L + 1 ≤ b ∧ b < L + 1 + xs.length
    · obtain ⟨i, rfl⟩ : ∃ i, b = L + 1 + i := ⟨b - (L + 1), (Nat.add_sub_cancel' b2.1).symm⟩
      have hi : i < xs.length := Nat.lt_of_add_lt_add_left b2.2
      rw [pairsH_at hi] at e
      cases e
      obtain ⟨x, t, hx, g⟩ := pr i hi
      have rx : RelV (prV xs i) x := by
        have e1 : xs[i]? = some (prV xs i) := by unfold prV; rw [List.getD_eq_getElem?_getD, List.getElem?_eq_getElem hi]; rfl
        obtain ⟨u, hu, ru⟩ := r.get e1
        rw [hx] at hu; cases hu
        exact ru
      exact ⟨by show 2 ≤ sizeLine; rw [sizeLine_eq]; omega, [.int i t, x], .cons ⟨_, rfl⟩ (.cons rx .nil), ⟨_, g, rfl, _, rfl⟩⟩
    · unfold pairsH at e
      rw [if_neg b2] at e
      exact (I.hok b o e).stay (fun c v _ y => k c v y) (fun c q => by show enH H L xs c = _; rw [old c (lt q)]; exact q) fun c ys q => by show enH H L xs c = _; rw [old c (lt q)]; exact q
/-- list(enumerate(e)); list(enumerate(reversed(e))) -/
def tEnum (K : PySem.W.Frag) (te : TE) : TE := fun σ H Q => te σ H fun v H1 => ∃ (a : Addr) (xs : List V), v = .ref a ∧ SqL K H1 a xs ∧ xs.length ≤ 100000 ∧ ∀ L, (∀ b, L ≤ b → H1 b = none) → Q (.ref L) (enH H1 L xs)
def tEnumR (K : PySem.W.Frag) (te : TE) : TE := fun σ H Q => te σ H fun v H1 => ∃ (a : Addr) (xs : List V), v = .ref a ∧ SqL K H1 a xs ∧ xs.length ≤ 100000 ∧ ∀ L, (∀ b, L ≤ b → H1 b = none) → Q (.ref L) (enH H1 L xs.reverse)
section
variable {X : Cx} {e : Expr} {te : TE} {p p2 p3 pos pos2 pos3 : Pos}
theorem pe_listEnum (hc : X.calm = true) (hg : Gl X "list") (hm : X.mg "list" = none) (hg2 : Gl X "enumerate") (hm2 : X.mg "enumerate" = none) (he : PE X e te)
    (hs : starEach [e] X.env = (false, eval e X.env) :: starEach [] X.env := by rfl)
    (hs2 : starEach [.Call (.Name "enumerate" p2) [e] [] pos2] X.env = (false, eval (.Call (.Name "enumerate" p2) [e] [] pos2) X.env) :: starEach [] X.env := by rfl) :
    PE X (.Call (.Name "list" p) [.Call (.Name "enumerate" p2) [e] [] pos2] [] pos) (tEnum X.K te) := by
  refine ⟨fun pins s σ H Q I h => ?_⟩
  refine Call_ (ld_blt I hg hm boot_list (PyProof.Rows.callWith_type1 (args_cons (Call_ (ld_blt I hg2 hm2 boot_enumerate (PyProof.Rows.callWith_type1 (args_cons (thn (he.run pins s σ H _ I h) fun u s1 z => args_nil ?_) hs) hs rfl))) hs2) hs2 rfl))
  obtain ⟨v, H1, I1, r1, a, xs, ev, hq, hn, q⟩ := z
  subst ev
  obtain rfl : u = Value.ref a := r1
  obtain ⟨its, rv, p', hz⟩ := I1.list hq
  have hl := p'.isList
  have la : a < s1.heap.objs.size := by obtain ⟨o, ho, _⟩ := id hl; exact Heap.lt_size ho
  have lx := rv.length
  refine call_enumerate_list hl fun h1 g1 it1 z1 k1 => args_nil ?_
  have D := Draws.list (prog := X.prog) (w := X.w) (A := X.A.in1.in1.in1) (show X.A.in1.in1.in1.handled = none from I1.ok.hd hc) s1.heap.objs.size a (Nat.ne_of_lt la) its.toArray
  refine PySem.LEn.call_list_en (s := { s1 with heap := h1 }) D g1 ⟨it1, hl.at fun o y => k1 _ _ y⟩ (Nat.succ_ne_self _) ?_ ?_ ?_ ?_
  · intro z
    rcases List.mem_cons.mp z with z | z
    · exact Nat.succ_ne_self _ z
    · exact Nat.ne_of_gt (Nat.lt_trans la (Nat.lt_succ_self _)) (List.mem_singleton.mp z)
  · intro b hb
    show b < h1.objs.size
    rw [z1]
    rcases List.mem_cons.mp hb with z | z
    · rw [z]; exact Nat.lt_add_of_pos_right (by decide)
    · rw [List.mem_singleton.mp z]; exact Nat.lt_of_lt_of_le la (Nat.le_add_right _ _)
  · rw [List.size_toArray, ← lx, sizeLine_eq]; omega
  · intro h2 tk c gL pr k2
    have k : ∀ b o, s1.heap.get? b = some o → h2.get? b = some o := fun b o y => k2 b o (Nat.ne_of_lt (Nat.lt_succ_of_lt (Heap.lt_size y))) (Nat.ne_of_lt (Heap.lt_size y)) (k1 b o y)
    have hL : s1.heap.objs.size ≤ h1.objs.size := by rw [z1]; exact Nat.le_add_right _ _
    have e1 : its.toArray.size = xs.length := by rw [List.size_toArray]; exact lx.symm
    rw [show (⟨h1, s1.gens, s1.drawn, s1.toks, s1.os⟩ : Shared).heap.objs.size = h1.objs.size from rfl, e1] at gL pr
    exact ⟨.ref h1.objs.size, _, Inv.enum (s := s1) I1 hL k gL rv (by rw [sizeLine_eq]; omega) (fun i hi => by
      obtain ⟨x, t, hx, g⟩ := pr i hi
      exact ⟨x, t, by simpa using hx, g⟩), rfl, q _ fun b hb => I1.hok.fresh (Nat.le_trans hL hb)⟩
theorem pe_listEnumR (hc : X.calm = true) (hg : Gl X "list") (hm : X.mg "list" = none) (hg2 : Gl X "enumerate") (hm2 : X.mg "enumerate" = none) (hg3 : Gl X "reversed") (hm3 : X.mg "reversed" = none) (he : PE X e te)
    (hs : starEach [e] X.env = (false, eval e X.env) :: starEach [] X.env := by rfl)
    (hs2 : starEach [.Call (.Name "reversed" p3) [e] [] pos3] X.env = (false, eval (.Call (.Name "reversed" p3) [e] [] pos3) X.env) :: starEach [] X.env := by rfl)
    (hs3 : starEach [.Call (.Name "enumerate" p2) [.Call (.Name "reversed" p3) [e] [] pos3] [] pos2] X.env = (false, eval (.Call (.Name "enumerate" p2) [.Call (.Name "reversed" p3) [e] [] pos3] [] pos2) X.env) :: starEach [] X.env := by rfl) :
    PE X (.Call (.Name "list" p) [.Call (.Name "enumerate" p2) [.Call (.Name "reversed" p3) [e] [] pos3] [] pos2] [] pos) (tEnumR X.K te) := by
  refine ⟨fun pins s σ H Q I h => ?_⟩
  refine Call_ (ld_blt I hg hm boot_list (PyProof.Rows.callWith_type1 (args_cons (Call_ (ld_blt I hg2 hm2 boot_enumerate (PyProof.Rows.callWith_type1 (args_cons (Call_ (ld_blt I hg3 hm3 PyProof.Rows.boot_reversed (PyProof.Rows.callWith_type1 (args_cons (thn (he.run pins s σ H _ I h) fun u s1 z => args_nil ?_) hs) hs rfl))) hs2) hs2 rfl))) hs3) hs3 rfl))
  obtain ⟨v, H1, I1, r1, a, xs, ev, hq, hn, q⟩ := z
  subst ev
  obtain rfl : u = Value.ref a := r1
  obtain ⟨its, rv, p', hz⟩ := I1.list hq
  have hl := p'.isList
  have la : a < s1.heap.objs.size := by obtain ⟨o, ho, _⟩ := id hl; exact Heap.lt_size ho
  have lx := rv.length
  have z0 : (s1.heap.push (revObj a ((its.toArray.size : Int) - 1))).objs.size = s1.heap.objs.size + 1 := Heap.size_push ..
  have g0 : (s1.heap.push (revObj a ((its.toArray.size : Int) - 1))).get? s1.heap.objs.size = some (revObj a ((its.toArray.size : Int) - 1)) := Heap.get?_push_size _ rfl
  have k0 : ∀ b o, s1.heap.get? b = some o → (s1.heap.push (revObj a ((its.toArray.size : Int) - 1))).get? b = some o := fun b o y => Heap.get?_push_of_some _ y
  refine call_reversed_list hl (args_nil ?_)
  generalize s1.heap.push (revObj a ((its.toArray.size : Int) - 1)) = h0 at *
  refine PySem.LEn.call_en_rev (s := { s1 with heap := h0 }) g0 (args_nil ?_)
  have g1 : IsEnum (h0.push { cls := .type "enumerate", data := .fields #[.none, .bool false, .ref s1.heap.objs.size, rawInt 0, .none, .none] }) h0.objs.size s1.heap.objs.size 0 .none := Heap.get?_push_size _ rfl
  have k1 : ∀ b o, h0.get? b = some o → (h0.push { cls := .type "enumerate", data := .fields #[.none, .bool false, .ref s1.heap.objs.size, rawInt 0, .none, .none] }).get? b = some o := fun b o y => Heap.get?_push_of_some _ y
  have z1 : (h0.push { cls := .type "enumerate", data := .fields #[.none, .bool false, .ref s1.heap.objs.size, rawInt 0, .none, .none] }).objs.size = s1.heap.objs.size + 2 := by rw [Heap.size_push, z0]
  generalize h0.push { cls := .type "enumerate", data := .fields #[.none, .bool false, .ref s1.heap.objs.size, rawInt 0, .none, .none] } = h1 at *
  show wpAny _ _ (call (.type "list") [.ref h0.objs.size]) _ _ _
  rw [z0] at g1 ⊢
  have D := PySem.LEn.Draws.rev (prog := X.prog) (w := X.w) (A := X.A.in1.in1.in1) (show X.A.in1.in1.in1.handled = none from I1.ok.hd hc) s1.heap.objs.size a (Nat.ne_of_lt la) its.toArray
  have hI : h1.IsRevIter s1.heap.objs.size a ((its.toArray.size : Int) - 1) := ⟨_, k1 _ _ g0, rfl, rfl⟩
  have e0 : (its.toArray.size : Int) - 1 - ((0 : Nat) : Int) = (its.toArray.size : Int) - 1 := by omega
  have st : (0 : Nat) ≤ its.toArray.size ∧ h1.IsRevIter s1.heap.objs.size a ((its.toArray.size : Int) - 1 - ((0 : Nat) : Int)) ∧ h1.IsList a its.toArray := ⟨Nat.zero_le _, by rw [e0]; exact hI, hl.at fun o y => k1 _ _ (k0 _ _ y)⟩
  refine PySem.LEn.call_list_en (s := { s1 with heap := h1 }) D g1 st (Nat.succ_ne_self _) ?_ ?_ ?_ ?_
  · intro z
    rcases List.mem_cons.mp z with z | z
    · exact Nat.succ_ne_self _ z
    · exact Nat.ne_of_gt (Nat.lt_trans la (Nat.lt_succ_self _)) (List.mem_singleton.mp z)
  · intro b hb
    show b < h1.objs.size
    rw [z1]
    rcases List.mem_cons.mp hb with z | z
    · rw [z]; exact Nat.lt_add_of_pos_right (by decide)
    · rw [List.mem_singleton.mp z]; exact Nat.lt_of_lt_of_le la (Nat.le_add_right _ _)
  · rw [List.size_toArray, ← lx, sizeLine_eq]; omega
  · intro h2 tk c gL pr k2
    have k : ∀ b o, s1.heap.get? b = some o → h2.get? b = some o := fun b o y => k2 b o (Nat.ne_of_lt (Nat.lt_succ_of_lt (Heap.lt_size y))) (Nat.ne_of_lt (Heap.lt_size y)) (k1 b o (k0 b o y))
    have hL : s1.heap.objs.size ≤ h1.objs.size := by rw [z1]; exact Nat.le_add_right _ _
    have e1 : its.toArray.size = xs.reverse.length := by rw [List.size_toArray, List.length_reverse]; exact lx.symm
    rw [show (⟨h1, s1.gens, s1.drawn, s1.toks, s1.os⟩ : Shared).heap.objs.size = h1.objs.size from rfl, e1] at gL pr
    exact ⟨.ref h1.objs.size, _, Inv.enum (s := s1) I1 hL k gL rv.reverse (by rw [sizeLine_eq, List.length_reverse]; omega) (fun i hi => by
      obtain ⟨x, t, hx, g⟩ := pr i hi
      refine ⟨x, t, ?_, g⟩
      have hi2 : i < its.length := by rw [List.length_reverse] at hi; omega
      show its.reverse[i]? = some x
      rw [List.getElem?_reverse hi2]
      rw [List.length_reverse, lx] at hx
      simpa using hx), rfl, q _ fun b hb => I1.hok.fresh (Nat.le_trans hL hb)⟩
end
/-! ### .. over data -/
theorem RDs.range {F : List Addr} {H : Hp} {f : Nat → D} {g : Nat → V} : ∀ {l : List Nat}, (∀ i ∈ l, RD F H (f i) (g i)) → RDs F H (l.map f) (l.map g)
  | [], _ => rfl
  | i :: l, h => ⟨g i, l.map g, rfl, h i List.mem_cons_self, RDs.range fun j hj => h j (List.mem_cons_of_mem _ hj)⟩
theorem RDs.at_ {F : List Addr} {H : Hp} : ∀ {xs : List D} {vs : List V} {i : Nat}, RDs F H xs vs → i < xs.length → RD F H (xs.getD i .non) (prV vs i)
  | x :: xs, vs, i, ⟨v, r, e, h1, h2⟩, hi => by
    subst e
    cases i with
    | zero => exact h1
    | succ i => exact RDs.at_ (xs := xs) (vs := r) (i := i) h2 (Nat.lt_of_succ_lt_succ hi)
  | [], vs, i, _, hi => absurd hi (Nat.not_lt_zero _)
theorem en_rs {F : List Addr} {H : Hp} {S : Store} {L : Addr} {xs : List D} {vs : List V} (rs : RS F H S) (r : RDs F H xs vs) (hL : ∀ b, L ≤ b → H b = none) : Keep H (enH H L vs) ∧ RS (F ++ [L]) (enH H L vs) (S ++ [.lst (enumD xs)]) := by
  have old : ∀ b u, H b = some u → pairsH H (L + 1) vs b = some u := fun b u e => by
    rw [pairsH_old]
    · exact e
    · rcases Nat.lt_or_ge b (L + 1) with z | z
      · exact z
      · rw [hL b (Nat.le_of_succ_le z)] at e; cases e
  have k := Keep.ext old
  have rs2 := rs.heap k fun a u _ e => old a u e
  have hn : pairsH H (L + 1) vs L = none := by rw [pairsH_old (Nat.lt_succ_self _)]; exact hL L (Nat.le_refl _)
  have rd : RDs F (pairsH H (L + 1) vs) (enumD xs) (refsV (L + 1) vs.length) := by
    unfold enumD refsV
    rw [r.length]
    refine RDs.range fun i hi => ?_
    have hi := List.mem_range.mp hi
    refine ⟨L + 1 + i, [.int i, prV vs i], rfl, pairsH_at (by rw [r.length]; exact hi), .int i, [prV vs i], rfl, rfl, _, [], rfl, (r.at_ hi).mono (List.prefix_refl F) k, rfl⟩
  exact ⟨k.trans (Keep.new hn), rs2.new (o := .lst (enumD xs)) hn ⟨_, rfl, rd⟩⟩
section
variable {X : Cx} {v : Fv} {S : Store} {Q : D → Store → Prop} {e : Expr} {p p2 p3 pos pos2 pos3 : Pos}
theorem WE.listEnum (h : WE X e v S fun d S1 => ∃ l xs, d = .loc l ∧ S1[l]? = some (.lst xs) ∧ xs.length ≤ 100000 ∧ Q (.loc S1.length) (S1 ++ [.lst (enumD xs)])) (hm : X.mg "list" = none) (hm2 : X.mg "enumerate" = none) (hc : X.calm = true) (hg : Gl X "list" := by rfl) (hg2 : Gl X "enumerate" := by rfl)
    (hs : starEach [e] X.env = (false, eval e X.env) :: starEach [] X.env := by rfl)
    (hs2 : starEach [.Call (.Name "enumerate" p2) [e] [] pos2] X.env = (false, eval (.Call (.Name "enumerate" p2) [e] [] pos2) X.env) :: starEach [] X.env := by rfl) : WE X (.Call (.Name "list" p) [.Call (.Name "enumerate" p2) [e] [] pos2] [] pos) v S Q := fun F t H Q' re rs k => by
  refine wE_of (pe_listEnum hc hg hm hg2 hm2 pe_w hs hs2) ?_
  refine h F t H _ re rs fun F1 d u H1 S1 p1 k1 rs1 r1 h1 => ?_
  obtain ⟨l, xs, rfl, hl, hn, q⟩ := h1
  obtain ⟨a, rfl, ha⟩ := r1
  obtain ⟨a', h', e1, e2, vs, e3, e4⟩ := rs1.get hl
  rw [e1] at ha; cases ha
  subst e3
  refine ⟨a, vs, rfl, SqL.of e2, by rw [e4.length]; exact hn, fun L hL => ?_⟩
  obtain ⟨k2, rs2⟩ := en_rs rs1 e4 hL
  exact k (F1 ++ [L]) (.loc S1.length) _ _ _ (p1.trans ⟨[L], rfl⟩) (k1.trans k2) rs2 ⟨L, rfl, by rw [← rs1.len]; simp⟩ q
theorem WE.listEnumR (h : WE X e v S fun d S1 => ∃ l xs, d = .loc l ∧ S1[l]? = some (.lst xs) ∧ xs.length ≤ 100000 ∧ Q (.loc S1.length) (S1 ++ [.lst (enumD xs.reverse)])) (hm : X.mg "list" = none) (hm2 : X.mg "enumerate" = none) (hm3 : X.mg "reversed" = none) (hc : X.calm = true) (hg : Gl X "list" := by rfl) (hg2 : Gl X "enumerate" := by rfl) (hg3 : Gl X "reversed" := by rfl)
    (hs : starEach [e] X.env = (false, eval e X.env) :: starEach [] X.env := by rfl)
    (hs2 : starEach [.Call (.Name "reversed" p3) [e] [] pos3] X.env = (false, eval (.Call (.Name "reversed" p3) [e] [] pos3) X.env) :: starEach [] X.env := by rfl)
    (hs3 : starEach [.Call (.Name "enumerate" p2) [.Call (.Name "reversed" p3) [e] [] pos3] [] pos2] X.env = (false, eval (.Call (.Name "enumerate" p2) [.Call (.Name "reversed" p3) [e] [] pos3] [] pos2) X.env) :: starEach [] X.env := by rfl) :
    WE X (.Call (.Name "list" p) [.Call (.Name "enumerate" p2) [.Call (.Name "reversed" p3) [e] [] pos3] [] pos2] [] pos) v S Q := fun F t H Q' re rs k => by
  refine wE_of (pe_listEnumR hc hg hm hg2 hm2 hg3 hm3 pe_w hs hs2 hs3) ?_
  refine h F t H _ re rs fun F1 d u H1 S1 p1 k1 rs1 r1 h1 => ?_
  obtain ⟨l, xs, rfl, hl, hn, q⟩ := h1
  obtain ⟨a, rfl, ha⟩ := r1
  obtain ⟨a', h', e1, e2, vs, e3, e4⟩ := rs1.get hl
  rw [e1] at ha; cases ha
  subst e3
  refine ⟨a, vs, rfl, SqL.of e2, by rw [e4.length]; exact hn, fun L hL => ?_⟩
  obtain ⟨k2, rs2⟩ := en_rs rs1 e4.reverse hL
  exact k (F1 ++ [L]) (.loc S1.length) _ _ _ (p1.trans ⟨[L], rfl⟩) (k1.trans k2) rs2 ⟨L, rfl, by rw [← rs1.len]; simp⟩ q
end
end DM

namespace DM
open PySem PySem.Spec PyProof.Rows L2
/-! ### texts -/
theorem strs_rd {F : List Addr} {H : Hp} : ∀ {ys : List Str} {vs : List V}, RDs F H (ys.map D.str) vs → vs = ys.map V.str
  | [], vs, r => r
  | y :: ys, vs, ⟨v, r, e, h1, h2⟩ => by rw [e, strs_rd h2, show v = .str y from h1]; rfl
theorem strs_of_rd {F : List Addr} {H : Hp} : ∀ ys : List Str, RDs F H (ys.map D.str) (ys.map V.str)
  | [] => rfl
  | y :: ys => ⟨.str y, ys.map V.str, rfl, rfl, strs_of_rd ys⟩
section
variable {X : Cx} {S : Store} {v : Fv} {Q : D → Store → Prop} {a b : Str} {i : Int} {o e : Expr} {apos p p2 pos pos2 : Pos}
theorem BW.addS (hz : a.length + b.length ≤ sizeLine) (h : Q (.str (a ++ b)) S) : BW X (binaryOp .Add) (.str a) (.str b) S Q := BW.of op_add_str fun F H vx vy Q' rs rx ry k => ⟨a, b, rx, ry, hz, k.now rs (d := .str (a ++ b)) rfl h⟩
theorem CW.strI (hb : i.natAbs.log2 < 1920) (h : Q (.str (toString i)) S) : CW X (.type "str") [.int i] S Q := CW.of call_str_int fun F H vs Q' rs r k => by
  obtain ⟨u, r', rfl, e1, e2⟩ := r
  cases (show r' = [] from e2); cases e1
  exact ⟨i, rfl, hb, k.now rs (d := .str (toString i)) rfl h⟩
theorem CW.intS {n : Int} (hn : PySem.intText? a = some n) (hl : a.length ≤ 640) (h : Q (.int n) S) : CW X (.type "int") [.str a] S Q := CW.of call_int_str fun F H vs Q' rs r k => by
  obtain ⟨u, r', rfl, e1, e2⟩ := r
  cases (show r' = [] from e2); cases e1
  exact ⟨a, n, rfl, hn, hl, k.nowI rs h⟩
theorem BW.inSg {c : Nat} (h : Q (.bl (decide (c ∈ b.cps.toList))) S) : BW X (compareOp .In) (.str ⟨#[c]⟩) (.str b) S Q := BW.of op_in_sign fun F H vx vy Q' rs rx ry k => ⟨c, b, rx, ry, k.now rs (d := .bl _) rfl h⟩
theorem WE.join (h : WE X o v S fun d S1 => ∃ a, d = .str a ∧ WE X e v S1 fun y S2 => ∃ l ys, y = .loc l ∧ S2[l]? = some (.lst (ys.map D.str)) ∧ (ys.map (·.length)).sum + ys.length * a.length ≤ 16777216 ∧ Q (.str (Txt.join a ys)) S2)
    (hs : starEach [e] X.env = [(false, eval e X.env)] := by rfl) (hbase : attributeBase o "join" X.env (eval o X.env) = eval o X.env := by rfl) (hline : (apos.endLine == pos.line) = true := by rfl) : WE X (.Call (.Attribute o "join" apos) [e] [] pos) v S Q := fun F t H Q' re rs k => by
  refine wE_of (pe_join pe_w pe_w hs hbase hline) ?_
  refine h F t H _ re rs fun F1 d u H1 S1 p1 k1 rs1 r1 h1 => ?_
  obtain ⟨a, rfl, h1⟩ := h1
  cases (show u = .str a from r1)
  refine ⟨⟨a, rfl⟩, ?_⟩
  refine h1 F1 t H1 _ (re.mono p1 k1) rs1 fun F2 y w H2 S2 p2 k2 rs2 r2 h2 => ?_
  obtain ⟨l, ys, rfl, hl, hz, q⟩ := h2
  obtain ⟨b, rfl, hb⟩ := r2
  obtain ⟨b', h', e1, e2, vs, e3, e4⟩ := rs2.get hl
  rw [e1] at hb; cases hb
  subst e3
  cases strs_rd e4
  exact ⟨a, b, ys, rfl, rfl, .inl (SqL.of e2), hz, k F2 (.str (Txt.join a ys)) _ H2 S2 (p1.trans p2) (k1.trans k2) rs2 rfl q⟩
theorem WE.split (h : WE X o v S fun d S1 => ∃ a, d = .str a ∧ WE X e v S1 fun y S2 => ∃ b, y = .str b ∧ (b.length == 0) = false ∧ a.length + 2 ≤ sizeLine ∧ Q (.loc S2.length) (S2 ++ [.lst ((Txt.split a b).map D.str)]))
    (hs : starEach [e] X.env = [(false, eval e X.env)] := by rfl) (hbase : attributeBase o "split" X.env (eval o X.env) = eval o X.env := by rfl) (hline : (apos.endLine == pos.line) = true := by rfl) : WE X (.Call (.Attribute o "split" apos) [e] [] pos) v S Q := fun F t H Q' re rs k => by
  refine wE_of (pe_split pe_w pe_w hs hbase hline) ?_
  refine h F t H _ re rs fun F1 d u H1 S1 p1 k1 rs1 r1 h1 => ?_
  obtain ⟨a, rfl, h1⟩ := h1
  cases (show u = .str a from r1)
  refine ⟨⟨a, rfl⟩, ?_⟩
  refine h1 F1 t H1 _ (re.mono p1 k1) rs1 fun F2 y w H2 S2 p2 k2 rs2 r2 h2 => ?_
  obtain ⟨b, rfl, hb, hz, q⟩ := h2
  cases (show w = .str b from r2)
  refine ⟨a, b, rfl, rfl, hb, hz, fun x hx => ?_⟩
  exact k (F2 ++ [x]) (.loc S2.length) _ _ _ ((p1.trans p2).trans ⟨[x], rfl⟩) ((k1.trans k2).trans (Keep.new hx)) (rs2.new (o := .lst ((Txt.split a b).map D.str)) hx ⟨_, rfl, strs_of_rd _⟩) ⟨x, rfl, by rw [← rs2.len]; simp⟩ q
/-- tuple(reversed(e)) -/
theorem WE.tupRev (h : WE X e v S fun d S1 => ∃ l xs, d = .loc l ∧ S1[l]? = some (.lst xs) ∧ Q (.tup xs.reverse) S1) (hm : X.mg "tuple" = none) (hm2 : X.mg "reversed" = none) (hc : X.calm = true) (hg : Gl X "tuple" := by rfl) (hg2 : Gl X "reversed" := by rfl)
    (hs : starEach [e] X.env = (false, eval e X.env) :: starEach [] X.env := by rfl)
    (hs2 : starEach [.Call (.Name "reversed" p2) [e] [] pos2] X.env = (false, eval (.Call (.Name "reversed" p2) [e] [] pos2) X.env) :: starEach [] X.env := by rfl) : WE X (.Call (.Name "tuple" p) [.Call (.Name "reversed" p2) [e] [] pos2] [] pos) v S Q := fun F t H Q' re rs k => by
  refine wE_of (RT.pe_tupRev hc hg hm hg2 hm2 pe_w hs hs2) ?_
  refine h F t H _ re rs fun F1 d u H1 S1 p1 k1 rs1 r1 h1 => ?_
  obtain ⟨l, xs, rfl, hl, q⟩ := h1
  obtain ⟨a, rfl, ha⟩ := r1
  obtain ⟨a', h', e1, e2, vs, e3, e4⟩ := rs1.get hl
  rw [e1] at ha; cases ha
  subst e3
  refine ⟨a, vs, rfl, SqL.of e2, fun x hx => ?_⟩
  exact k F1 (.tup xs.reverse) (.ref x) (upd H1 x (.tup vs.reverse)) S1 p1 (k1.trans (Keep.new hx)) (rs1.other hx) ⟨x, vs.reverse, rfl, upd_same, e4.reverse.mono (List.prefix_refl F1) (Keep.new hx)⟩ q
end
end DM

namespace DM
open PySem PySem.Spec PyProof.Rows L2
/-! ### words of numbers -/
def figs : Str := "0123456789"
theorem figs_of {c : Nat} (h : c ∈ figs.cps.toList) : 48 ≤ c ∧ c ≤ 57 := by
  have : figs.cps.toList = [48, 49, 50, 51, 52, 53, 54, 55, 56, 57] := by decide +kernel
  rw [this] at h
  simp only [List.mem_cons, List.not_mem_nil, or_false] at h
  omega
theorem figs_has {c : Nat} (h0 : 48 ≤ c) (h1 : c ≤ 57) : c ∈ figs.cps.toList := by
  have : figs.cps.toList = [48, 49, 50, 51, 52, 53, 54, 55, 56, 57] := by decide +kernel
  rw [this]
  simp only [List.mem_cons, List.not_mem_nil, or_false]
  omega
theorem int_fig {c : Nat} (h : c ∈ figs.cps.toList) : PySem.intText? ⟨#[c]⟩ = some ((c : Int) - 48) := by
  obtain ⟨h0, h1⟩ := figs_of h
  have key : ∀ k, k < 10 → PySem.intText? ⟨#[48 + k]⟩ = some (((48 + k : Nat) : Int) - 48) := by decide +kernel
  have := key (c - 48) (by omega)
  rw [show 48 + (c - 48) = c by omega] at this
  exact this
/-- a sign alone -/
def sign1 (x : Str) : Option Nat := match x.cps.toList with
  | [c] => some c
  | _ => none
theorem sign1_some {x : Str} {c : Nat} (h : sign1 x = some c) : x = ⟨#[c]⟩ := by
  obtain ⟨⟨l⟩⟩ := x
  unfold sign1 at h
  match l, h with
  | [d], h => cases h; rfl
theorem sign1_len {x : Str} : (sign1 x).isSome = decide (x.length = 1) := by
  obtain ⟨⟨l⟩⟩ := x
  show (match l with | [c] => some c | _ => none : Option Nat).isSome = decide (l.length = 1)
  match l with
  | [] => rfl
  | [d] => rfl
  | d :: e :: r => simp
/-- the number that a word writes -/
def numW (least : Int) (x : Str) : Option Int :=
  if x = ("-1" : Str) ∧ least < 0 then some (-1) else match sign1 x with
    | some c => if c ∈ figs.cps.toList then some ((c : Int) - 48) else none
    | none => none
def numsW (least : Int) : List Str → Option (List Int)
  | [] => some []
  | x :: r => match numW least x, numsW least r with
    | some i, some l => some (i :: l)
    | _, _ => none
theorem numsW_snoc (least : Int) (l : List Str) (x : Str) : numsW least (l ++ [x]) = match numsW least l, numW least x with
    | some ns, some i => some (ns ++ [i])
    | _, _ => none := by
  induction l with
  | nil =>
    show numsW least [x] = _
    unfold numsW numsW
    cases numW least x <;> rfl
  | cons y l ih =>
    show numsW least (y :: (l ++ [x])) = _
    unfold numsW
    rw [ih]
    cases numW least y <;> cases numsW least l <;> cases numW least x <;> rfl
theorem numsW_none {least : Int} {l r : List Str} (h : numsW least l = none) : numsW least (l ++ r) = none := by
  induction l with
  | nil => cases h
  | cons y l ih =>
    show numsW least (y :: (l ++ r)) = none
    unfold numsW at h ⊢
    cases e : numW least y with
    | none => rfl
    | some i =>
      rw [e] at h
      cases e2 : numsW least l with
      | none => rw [ih e2]
      | some ns => rw [e2] at h; cases h
theorem numsW_len {least : Int} : ∀ {l : List Str} {ns : List Int}, numsW least l = some ns → ns.length = l.length
  | [], ns, h => by cases h; rfl
  | y :: l, ns, h => by
    unfold numsW at h
    cases e : numW least y with
    | none => rw [e] at h; cases h
    | some i =>
      cases e2 : numsW least l with
      | none => rw [e, e2] at h; cases h
      | some ms =>
        rw [e, e2] at h
        cases h
        exact congrArg (· + 1) (numsW_len e2)
theorem numW_rng {least i : Int} {x : Str} (h : numW least x = some i) : (if least < 0 then -1 else 0) ≤ i ∧ i ≤ 9 := by
  unfold numW at h
  split at h
  · rename_i c
    cases h
    rw [if_pos c.2]; omega
  · split at h
    · rename_i c _
      split at h
      · rename_i m
        cases h
        have := figs_of m
        split <;> omega
      · cases h
    · cases h
end DM

namespace DM
open PySem PySem.Spec PyProof.Rows L2
/-! ### what could be had -/
abbrev Pr := List Int × Int
def orP (r : Row) : Pr := (r.2.2.2, r.2.2.1)
def someOf (ps : List (List Int × List Int)) (hs : List He) : List Pr := (sortR ps hs).map orP
theorem eM_one : ∀ {a b : List Int}, eM a = eM b → a = b := fun {a b} h => by
  rw [eM_key, eM_key] at h
  have h : D.tup ((kN a).map kdD) = D.tup ((kN b).map kdD) := h
  injection h with h
  have : ∀ (x y : List Int), (kN x).map kdD = (kN y).map kdD → x = y := by
    intro x
    induction x with
    | nil => intro y e; cases y with
      | nil => rfl
      | cons _ _ => cases e
    | cons i x ih => intro y e; cases y with
      | nil => cases e
      | cons j y =>
        have e : D.int i :: (kN x).map kdD = D.int j :: (kN y).map kdD := e
        injection e with e1 e2
        injection e1 with e1
        rw [e1, ih y e2]
  exact this a b h
theorem pairD_inj {p q : Pr} (h : pairD p = pairD q) : p = q := by
  have h : D.tup [eM p.1, .int p.2] = D.tup [eM q.1, .int q.2] := h
  injection h with h
  injection h with h1 h2
  injection h2 with h2 _
  injection h2 with h2
  exact Prod.ext (eM_one h1) h2
theorem iks_ints : ∀ l : List Int, ikDs (l.map D.int) = true
  | [] => rfl
  | i :: l => by show (true && ikDs (l.map D.int)) = true; rw [iks_ints l]; rfl
theorem ik_pair (p : Pr) : ikD (pairD p) = true := by
  show (ikDs (p.1.map D.int) && (true && true)) = true
  rw [iks_ints]; rfl
theorem dep_ints : ∀ l : List Int, NestedKey.depthAll (nkDs (l.map D.int)) = 0
  | [] => rfl
  | i :: l => by
    show max 0 (NestedKey.depthAll (nkDs (l.map D.int))) = 0
    rw [dep_ints l]; rfl
theorem nk_pair (p : Pr) : (nkD (pairD p)).depth ≤ 8 := by
  show max (NestedKey.depthAll (nkDs (p.1.map D.int)) + 1) (max 0 0) + 1 ≤ 8
  rw [dep_ints]; decide
def pairsN (l : List Pr) : List (D × Int) := (l.zipIdx).map fun x => (pairD x.1, (x.2 : Int))
theorem pairsN_keys (l : List Pr) : (pairsN l).map (·.1) = l.map pairD := by
  unfold pairsN
  rw [List.map_map]
  have : ∀ (l : List Pr) (k : Nat), (l.zipIdx k).map ((fun x : D × Int => x.1) ∘ fun x : Pr × Nat => (pairD x.1, (x.2 : Int))) = l.map pairD := by
    intro l
    induction l with
    | nil => intro k; rfl
    | cons p l ih => intro k; rw [List.zipIdx_cons, List.map_cons, List.map_cons, ih]; rfl
  exact this l 0
theorem pairs_nd {l : List Pr} (h : l.Nodup) : ((pairsN l).map (·.1)).Nodup := by
  rw [pairsN_keys]
  exact List.pairwise_map.mpr (h.imp fun hne z => hne (pairD_inj z))
theorem getN_pairs (l : List Pr) (p : Pr) : getN (pairsN l) (pairD p) = if p ∈ l then some ((l.idxOf p : Nat) : Int) else none := by
  have : ∀ (l : List Pr) (k : Nat), getN ((l.zipIdx k).map fun x => (pairD x.1, (x.2 : Int))) (pairD p) = if p ∈ l then some ((k + l.idxOf p : Nat) : Int) else none := by
    intro l
    induction l with
    | nil => intro k; rfl
    | cons q l ih =>
      intro k
      rw [List.zipIdx_cons, List.map_cons]
      unfold getN
      by_cases e : q = p
      · subst e
        rw [List.find?_cons_of_pos (by simp), if_pos List.mem_cons_self, List.idxOf_cons_self]; rfl
      · rw [List.find?_cons_of_neg (by simpa using fun z => e (pairD_inj z))]
        have := ih (k + 1)
        unfold getN at this
        rw [this]
        have e2 : (p ∈ q :: l) ↔ p ∈ l := by simp [Ne.symm e]
        by_cases m : p ∈ l
        · have e3 : (q :: l).idxOf p = l.idxOf p + 1 := by rw [List.idxOf_cons, beq_false_of_ne e]; rfl
          rw [if_pos m, if_pos (e2.mpr m), e3, Nat.add_assoc, Nat.add_comm 1]
        · rw [if_neg m, if_neg (fun z => m (e2.mp z))]
  have := this l 0
  rw [Nat.zero_add] at this
  exact this
theorem pairsN_list (l : List Pr) : (List.range l.length).filterMap (fun k : Nat => (l[k]?).map fun p => D.tup [pairD p, .int (k : Int)]) = (pairsN l).map fun kv => D.tup [kv.1, .int kv.2] := by
  have : ∀ (l : List Pr) (s : Nat), (List.range' s l.length).filterMap (fun k : Nat => (l[k - s]?).map fun p => D.tup [pairD p, .int (k : Int)]) = ((l.zipIdx s).map fun x => (pairD x.1, (x.2 : Int))).map fun kv => D.tup [kv.1, .int kv.2] := by
    intro l
    induction l with
    | nil => intro s; rfl
    | cons p l ih =>
      intro s
      rw [List.length_cons, List.range'_succ, List.zipIdx_cons, List.map_cons, List.map_cons, ← ih (s + 1), List.filterMap_cons_some (b := D.tup [pairD p, .int (s : Int)]) (by rw [Nat.sub_self]; rfl)]
      congr 1
      refine fm_congr fun k hk => ?_
      have h1 := (List.mem_range'_1.mp hk).1
      obtain ⟨j, rfl⟩ : ∃ j, k = s + 1 + j := ⟨k - (s + 1), by omega⟩
      rw [show s + 1 + j - s = j + 1 by omega, show s + 1 + j - (s + 1) = j by omega, List.getElem?_cons_succ]
  have h := this l 0
  rw [← List.range_eq_range'] at h
  exact h
theorem pairsN_keysOk (l : List Pr) : ∀ kv ∈ pairsN l, (∃ xs, kv.1 = .tup xs) ∧ ikD kv.1 = true ∧ (nkD kv.1).depth ≤ 8 := fun kv h => by
  obtain ⟨x, _, rfl⟩ := List.mem_map.mp h
  exact ⟨⟨_, rfl⟩, ik_pair _, nk_pair _⟩
theorem held_dict (l : List Pr) : l.map pairD = (mapT kN D.int l).map fun kv => .tup [ktD kv.1, kv.2] := by
  unfold mapT
  rw [List.map_map]
  exact List.map_congr_left fun p _ => by show D.tup [eM p.1, .int p.2] = _; rw [eM_key]; rfl
theorem held_put {l : List Pr} (nd : (l.map (·.1)).Nodup) : putAllT [] (mapT kN D.int l) = mapT kN D.int l := by
  have h := putAllT_mapT (e := D.int) kN_inj l []
  rw [putAll_new l [] (fun _ _ h => by cases h) nd] at h
  exact h
/-- d.get(k, number) of numbers -/
theorem MW.getI {X : Cx} {S : Store} {Q : D → Store → Prop} {x y : D} {o : Option Int} {k : Int} (g : DG S x y (o.map D.int)) (hu : X.A.units + 64 < cLine) (h : Q (.int (o.getD k)) S) : MW X "dict.get" x [y, .int k] S Q := MW.get2 g hu (by cases o <;> exact h)
theorem WSs.cutS {X : Cx} {n : Nat} {st : Stmt} {rest : List Stmt} {v : Fv} {S : Store} {E0 : Ed} (P : Fv → Store → Prop) (h : ∀ E : Ed, (∀ v S, P v S → E.nx v S) → WS X n st v S E) (k : ∀ v S, P v S → WSs X n rest v S E0) : WSs X n (st :: rest) v S E0 := WSs.cons (h _ k)
theorem nd_of {α β : Type} {f : α → β} : ∀ {l : List α}, (l.map f).Nodup → l.Nodup
  | [], _ => List.nodup_nil
  | x :: l, h => by
    rw [List.map_cons, List.nodup_cons] at h
    exact List.nodup_cons.mpr ⟨fun z => h.1 (List.mem_map_of_mem z), nd_of h.2⟩
theorem MW.get2e {X : Cx} {S : Store} {Q : D → Store → Prop} {x y z d : D} {o : Option D} (g : DG S x y o) (e : o.getD z = d) (hu : X.A.units + 64 < cLine) (h : Q d S) : MW X "dict.get" x [y, z] S Q := MW.get2 g hu (by rw [e]; exact h)
def tbV (v : Nat × List Nat) : D := .loc v.1
def ntD (l : List Nat) : List D := l.map fun k : Nat => .int (k : Int)
theorem WT.mono2 {X : Cx} {e : Expr} {v : Fv} {S : Store} {Q Q2 : Bool → Store → Prop} (h : WT X e v S Q) (k : ∀ b S', Q b S' → Q2 b S') : WT X e v S Q2 := fun F t H Q' re rs p => h F t H Q' re rs fun F' c H' S' a b r q => p F' c H' S' a b r (k _ _ q)
theorem any_max {l : List Nat} {m : Int} {k : Nat} (hm : m ∈ l.map fun k : Nat => (k : Int)) (ub : ∀ y ∈ l.map fun k : Nat => (k : Int), y ≤ m) : decide ((k : Int) < m) = l.any fun j => decide (k < j) := by
  by_cases h : (k : Int) < m
  · rw [decide_eq_true h]
    obtain ⟨j, hj, rfl⟩ := List.mem_map.mp hm
    exact (List.any_eq_true.mpr ⟨j, hj, decide_eq_true (by omega)⟩).symm
  · rw [decide_eq_false h]
    refine (List.any_eq_false.mpr fun j hj => ?_).symm
    have := ub _ (List.mem_map_of_mem hj)
    have this : (j : Int) ≤ m := this
    simp; omega
theorem ntD_eq (l : List Nat) : ntD l = (l.map fun k : Nat => (k : Int)).map D.int := by unfold ntD; rw [List.map_map]; rfl
/-- a holding that can be -/
structure HeldOk (some : List Pr) (rm : Int → Int) (held : List Pr) : Prop where
  fit : ∀ p ∈ held, p ∈ some
  nd : (held.map (·.1)).Nodup
  room : ∀ n, n ∈ held.map (·.2) → ((held.filter fun p => decide (p.2 = n)).length : Int) ≤ rm n
  up : ∀ p ∈ held, 1 < p.1.length → p.1.dropLast ∈ held.map (·.1)
def mineOf (some held : List Pr) (n : Int) : List Nat := (held.filter fun p => decide (p.2 = n)).map fun p => some.idxOf p
def couldB (some : List Pr) (rm : Int → Int) (held : List Pr) (p : Pr) : Bool :=
  (decide (p.1.length = 1) || (getT held p.1.dropLast).isSome) &&
  (match getT held p.1 with | none => true | Option.some n => decide (some.idxOf p < some.idxOf (p.1, n))) &&
  (decide (((mineOf some held p.2).length : Int) < rm p.2) || (mineOf some held p.2).any fun k => decide (some.idxOf p < k))
def couldOf (some : List Pr) (rm : Int → Int) (held : List Pr) : List Pr := some.filter (couldB some rm held)
def rmF (rm : List (Int × Int)) (n : Int) : Int := (getT rm n).getD 0
theorem some_of {ps : List (List Int × List Int)} {hs : List He} {p : Pr} (h : p ∈ someOf ps hs) : ∃ x ∈ ps, ∃ y ∈ hs, p = (x.1, y.1) := by
  obtain ⟨r, hr, rfl⟩ := List.mem_map.mp h
  obtain ⟨x, hx, y, hy, v, _, rfl⟩ := rows_of (List.mem_mergeSort.mp hr)
  exact ⟨x, hx, y, hy, rfl⟩
theorem some_nd {ps : List (List Int × List Int)} {hs : List He} (n1 : (ps.map (·.1)).Nodup) (n2 : (hs.map (·.1)).Nodup) : (someOf ps hs).Nodup := by
  have pm : (someOf ps hs).Perm ((rowsOf ps hs).map orP) := (List.mergeSort_perm _ _).map orP
  refine pm.nodup_iff.mpr ?_
  unfold rowsOf
  induction ps with
  | nil => exact List.nodup_nil
  | cons x ps ih =>
    rw [List.map_cons, List.nodup_cons] at n1
    rw [List.flatMap_cons, List.map_append, List.nodup_append]
    have inn : ∀ (hs : List He), (hs.map (·.1)).Nodup → ((hs.filterMap (rowOf x)).map orP).Nodup ∧ ∀ p ∈ (hs.filterMap (rowOf x)).map orP, p.1 = x.1 ∧ p.2 ∈ hs.map (·.1) := by
      intro hs
      induction hs with
      | nil => intro _; exact ⟨List.nodup_nil, fun p h => by cases h⟩
      | cons y hs ih2 =>
        intro n2
        rw [List.map_cons, List.nodup_cons] at n2
        obtain ⟨i1, i2⟩ := ih2 n2.2
        cases e : rowOf x y with
        | none =>
          rw [List.filterMap_cons_none e]
          exact ⟨i1, fun p hp => ⟨(i2 p hp).1, List.mem_cons_of_mem _ (i2 p hp).2⟩⟩
        | some r =>
          rw [List.filterMap_cons_some e, List.map_cons, List.nodup_cons]
          have er : orP r = (x.1, y.1) := by
            unfold rowOf at e
            cases ef : fitOf y.2.1 x.2 with
            | none => rw [ef] at e; cases e
            | some v => rw [ef] at e; cases e; rfl
          refine ⟨⟨fun z => ?_, i1⟩, fun p hp => ?_⟩
          · have := (i2 _ z).2
            rw [er] at this
            exact n2.1 this
          · rcases List.mem_cons.mp hp with rfl | hp
            · rw [er]; exact ⟨rfl, List.mem_cons_self⟩
            · exact ⟨(i2 p hp).1, List.mem_cons_of_mem _ (i2 p hp).2⟩
    refine ⟨(inn hs n2).1, ih n1.2 ?_, fun a ha b hb e => ?_⟩
    · exact (List.mergeSort_perm _ _).map orP
    · subst e
      obtain ⟨r, hr, rfl⟩ := List.mem_map.mp hb
      obtain ⟨x', hx', y, hy, v, _, rfl⟩ := rows_of hr
      have := ((inn hs n2).2 _ ha).1
      have this : x'.1 = x.1 := this
      exact n1.1 (by rw [← this]; exact List.mem_map_of_mem hx')
/-- told by prefixes -/
theorem HeldOk.at {some : List Pr} {rm : Int → Int} {pre post : List Pr} {p : Pr} (h : HeldOk some rm (pre ++ p :: post)) : p ∈ some ∧ p.1 ∉ pre.map (·.1) ∧ ((pre.filter fun q => decide (q.2 = p.2)).length : Int) < rm p.2 ∧ (1 < p.1.length → p.1.dropLast ∈ (pre ++ p :: post).map (·.1)) := by
  refine ⟨h.fit p (by simp), fun z => ?_, ?_, h.up p (by simp)⟩
  · have := h.nd
    rw [List.map_append, List.nodup_append] at this
    exact this.2.2 _ z _ (by simp) rfl
  · have := h.room p.2 (by simp)
    rw [List.filter_append, List.filter_cons_of_pos (by simp), List.length_append, List.length_cons] at this
    omega
theorem mine_snoc (some pre : List Pr) (p : Pr) (n : Int) : mineOf some (pre ++ [p]) n = if p.2 = n then mineOf some pre n ++ [some.idxOf p] else mineOf some pre n := by
  unfold mineOf
  rw [List.filter_append, List.map_append]
  by_cases h : p.2 = n
  · rw [if_pos h, List.filter_cons_of_pos (by simpa using h)]; rfl
  · rw [if_neg h, List.filter_cons_of_neg (by simpa using h)]; simp
theorem mine_len (some held : List Pr) (n : Int) : (mineOf some held n).length ≤ held.length := by
  unfold mineOf; rw [List.length_map]; exact List.length_filter_le _ _
end DM

namespace DM
open PySem PySem.Spec PyProof.Rows L2
/-! ### a reader of rows: what it keeps, where it stands -/
abbrev Clm := List Int × Int
structure Rst where
  rows : List (Int × List Int)
  who : List (Int × List Clm)
structure RA where
  l : Nat
  lr : Nat
  lw : Nat
  hp : List (Nat × Nat)
def hpL (hp : List (Nat × Nat)) : List Nat := hp.flatMap fun x => [x.1, x.2]
def RA.all (a : RA) : List Nat := a.l :: a.lr :: a.lw :: hpL a.hp
def rwD (x : Int × List Int) : D := .tup [.int x.1, eM x.2]
structure RdrAt (CR : Addr) (S : Store) (a : RA) (r : Rst) : Prop where
  self : S[a.l]? = some (.ins CR [("rows", .loc a.lr), ("who", .loc a.lw)])
  rows : S[a.lr]? = some (.lst (r.rows.map rwD))
  who : S[a.lw]? = some (.lst (a.hp.map fun x => D.loc x.1))
  len : a.hp.length = r.who.length
  help : ∀ (i : Nat) (w : Int × List Clm) (x : Nat × Nat), r.who[i]? = some w → a.hp[i]? = some x → S[x.1]? = some (.lst [.int w.1, .loc x.2]) ∧ S[x.2]? = some (.lst (w.2.map eC))
  nd : a.all.Nodup
structure RSelf (CR : Addr) (S : Store) (l : Nat) (a : RA) : Prop where
  self : S[l]? = some (.ins CR [("rows", .loc a.lr), ("who", .loc a.lw)])
structure RdrTxt (K : PySem.W.Frag) (CR : Addr) : Prop where
  cd : Cls K CR
  n_rows : NoAttr K CR "rows"
  n_who : NoAttr K CR "who"
/-- all else stays -/
structure RFr (S S' : Store) (a a' : RA) : Prop where
  len : S.length ≤ S'.length
  old : ∀ j o, j ∉ a.all → S[j]? = some o → S'[j]? = some o
  new : ∀ j, j ∈ a'.all → j ∈ a.all ∨ S.length ≤ j
  l : a'.l = a.l
theorem RFr.refl (S : Store) (a : RA) : RFr S S a a := ⟨Nat.le_refl _, fun _ _ _ h => h, fun _ h => .inl h, rfl⟩
theorem lt_of_some {S : Store} {j : Nat} {o : Ob} (h : S[j]? = some o) : j < S.length := (List.getElem?_eq_some_iff.mp h).1
theorem RFr.trans {S S1 S2 : Store} {a b c : RA} (x : RFr S S1 a b) (y : RFr S1 S2 b c) : RFr S S2 a c := ⟨Nat.le_trans x.len y.len, fun j o h e => y.old j o (fun z => by
    rcases x.new j z with z | z
    · exact h z
    · exact absurd (lt_of_some e) (Nat.not_lt.mpr z)) (x.old j o h e), fun j h => by
    rcases y.new j h with z | z
    · exact x.new j z
    · exact .inr (Nat.le_trans x.len z), y.l.trans x.l⟩
theorem RFr.grow {S G : Store} {a : RA} : RFr S (S ++ G) a a := ⟨by simp, fun j o _ e => get_app e, fun _ h => .inl h, rfl⟩
section
variable {CR : Addr} {S : Store} {a : RA} {r : Rst}
theorem RdrAt.grow (h : RdrAt CR S a r) (G : Store) : RdrAt CR (S ++ G) a r := ⟨get_app h.self, get_app h.rows, get_app h.who, h.len, fun i w x e1 e2 => ⟨get_app (h.help i w x e1 e2).1, get_app (h.help i w x e1 e2).2⟩, h.nd⟩
theorem RdrAt.at (h : RdrAt CR S a r) : RSelf CR S a.l a := ⟨h.self⟩
theorem hp_mem {hp : List (Nat × Nat)} {i : Nat} {x : Nat × Nat} (h : hp[i]? = some x) : x.1 ∈ hpL hp ∧ x.2 ∈ hpL hp := by
  have := List.mem_of_getElem? h
  exact ⟨List.mem_flatMap.mpr ⟨x, this, by simp⟩, List.mem_flatMap.mpr ⟨x, this, by simp⟩⟩
theorem RdrAt.ne (h : RdrAt CR S a r) : a.l ≠ a.lr ∧ a.l ≠ a.lw ∧ a.lr ≠ a.lw ∧ (∀ j ∈ hpL a.hp, j ≠ a.l ∧ j ≠ a.lr ∧ j ≠ a.lw) := by
  have := h.nd
  unfold RA.all at this
  rw [List.nodup_cons, List.nodup_cons, List.nodup_cons] at this
  obtain ⟨h1, h2, h3, _⟩ := this
  simp only [List.mem_cons, not_or] at h1 h2
  exact ⟨h1.1, h1.2.1, h2.1, fun j hj => ⟨fun z => h1.2.2 (z ▸ hj), fun z => h2.2 (z ▸ hj), fun z => h3 (z ▸ hj)⟩⟩
/-- the rows are set -/
theorem RdrAt.setRows (h : RdrAt CR S a r) (rows : List (Int × List Int)) : RdrAt CR (S.set a.lr (.lst (rows.map rwD))) a { r with rows := rows } ∧ RFr S (S.set a.lr (.lst (rows.map rwD))) a a := by
  obtain ⟨n1, n2, n3, n4⟩ := h.ne
  have lt := lt_of_some h.rows
  have ot : ∀ {j : Nat} {o : Ob}, j ≠ a.lr → S[j]? = some o → (S.set a.lr (.lst (rows.map rwD)))[j]? = some o := fun {j o} hj e => by rw [List.getElem?_set_ne (Ne.symm hj)]; exact e
  refine ⟨⟨ot n1 h.self, List.getElem?_set_self lt, ot (Ne.symm n3) h.who, h.len, fun i w x e1 e2 => ?_, h.nd⟩, ⟨by simp, fun j o hj e => ot (fun z => hj (by rw [z]; simp [RA.all])) e, fun _ z => .inl z, rfl⟩⟩
  obtain ⟨m1, m2⟩ := hp_mem e2
  exact ⟨ot (n4 _ m1).2.1 (h.help i w x e1 e2).1, ot (n4 _ m2).2.1 (h.help i w x e1 e2).2⟩
end
/-! ### a row of a thing -/
def aheadP (rows : List (Int × List Int)) : Int := match rows.getLast? with
  | some x => x.1
  | none => -1
def manyP (d : Int) : List (Int × List Int) → Int
  | [] => 0
  | x :: l => if x.1 < d then 0 else manyP d l + (if x.1 = d then 1 else 0)
def thingP (r : Rst) (d : Int) (m : List Int) : Option Rst :=
  if r.who ≠ [] ∨ aheadP r.rows + 1 < d ∨ 2 < d then none else if 0 < d ∧ manyP d r.rows.reverse = 3 then none else some { r with rows := r.rows ++ [(d, m)] }
theorem pv_rw (x : Int × List Int) : pv 60 (rwD x) = true := by
  show (true && (pv 59 (eM x.2) && true)) = true
  rw [pv_nm]; rfl
theorem pv_rws (l : List (Int × List Int)) : ∀ x ∈ l.map rwD, pv 60 x = true := fun x hx => by
  obtain ⟨p, _, rfl⟩ := List.mem_map.mp hx
  exact pv_rw p
theorem atI_last {α : Type} {l : List α} {x : α} (h : l.getLast? = some x) : atI l (-1) = some x := by
  rcases List.eq_nil_or_concat l with rfl | ⟨l', y, rfl⟩
  · cases h
  · rw [List.concat_eq_append] at *
    obtain rfl : y = x := by simpa using h
    unfold atI ixN
    rw [if_neg (by decide), if_pos (by rw [List.length_append, List.length_singleton]; omega)]
    have e : ((-1 : Int) + ((l' ++ [y]).length : Nat)).toNat = l'.length := by rw [List.length_append, List.length_singleton]; omega
    rw [e]
    show (l' ++ [y])[l'.length]? = some y
    exact List.getElem?_concat_length
/-! ### helpers == [] -/
theorem pv_eC (n : Nat) (c : Clm) : pv (n + 2) (eC c) = true := by
  show (pv (n + 1) (eM c.1) && (pv (n + 1) (.int c.2) && true)) = true
  rw [pv_nm]; rfl
def whoP (w : Int × List Clm) : PyData := .list [.int w.1, .list (toPs (w.2.map eC))]
theorem who_pd {S : Store} : ∀ (who : List (Int × List Clm)) (hp : List (Nat × Nat)), hp.length = who.length → (∀ (i : Nat) (w : Int × List Clm) (x : Nat × Nat), who[i]? = some w → hp[i]? = some x → S[x.1]? = some (.lst [.int w.1, .loc x.2]) ∧ S[x.2]? = some (.lst (w.2.map eC))) →
    PDs S (hp.map fun x => D.loc x.1) (who.map whoP) ∧ PyData.canLayAll0 (who.map whoP) = true ∧ PyData.depthAll (who.map whoP) ≤ 10
  | [], [], _, _ => ⟨.nil, rfl, Nat.zero_le _⟩
  | w :: who, x :: hp, e, h => by
    obtain ⟨g1, g2⟩ := h 0 w x rfl rfl
    obtain ⟨b1, b2, b3⟩ := who_pd who hp (Nat.succ.inj e) fun i w' x' e1 e2 => h (i + 1) w' x' e1 e2
    obtain ⟨c1, c2, c3⟩ := pvs_pd S (n := 2) (w.2.map eC) fun y hy => by
      obtain ⟨c, _, rfl⟩ := List.mem_map.mp hy
      exact pv_eC 0 c
    refine ⟨.cons (.lst g1 (.cons (.int _) (.cons (.lst g2 c1) .nil))) b1, ?_, ?_⟩
    · show ((true && (PyData.canLayAll0 (toPs (w.2.map eC)) && true)) && PyData.canLayAll0 (who.map whoP)) = true
      rw [c2, b2]; rfl
    · show max (max 0 (max (PyData.depthAll (toPs (w.2.map eC)) + 1) 0) + 1) (PyData.depthAll (who.map whoP)) ≤ 10
      omega
theorem eqv_nil (ps : List PyData) : PyData.eqv (.list ps) (.list []) = ps.isEmpty := by cases ps <;> rfl
section
variable {X : Cx} {CR : Addr} {S : Store} {a : RA} {r : Rst} {Q : D → Store → Prop} {m : Nat}
theorem BW.eqWho (H : RdrAt CR S a r) (hm : S[m]? = some (.lst [])) (hu : X.A.units + 64 < cLine) (h : Q (.bl r.who.isEmpty) S) : BW X (compareOp .Eq) (.loc a.lw) (.loc m) S Q := by
  obtain ⟨b1, b2, b3⟩ := who_pd r.who a.hp H.len H.help
  refine BW.eqD (.lst H.who b1) (.lst hm .nil) (shaped_of b2 (by show _ + 1 ≤ 64; omega)) (shaped_of rfl (by decide)) hu ?_
  rw [eqv_nil, List.isEmpty_map]; exact h
theorem BW.neWho (H : RdrAt CR S a r) (hm : S[m]? = some (.lst [])) (hu : X.A.units + 64 < cLine) (h : Q (.bl (!r.who.isEmpty)) S) : BW X (compareOp .NotEq) (.loc a.lw) (.loc m) S Q := by
  obtain ⟨b1, b2, b3⟩ := who_pd r.who a.hp H.len H.help
  refine BW.neD (.lst H.who b1) (.lst hm .nil) (shaped_of b2 (by show _ + 1 ≤ 64; omega)) (shaped_of rfl (by decide)) hu ?_
  rw [eqv_nil, List.isEmpty_map]; exact h
end
end DM

namespace DM
open PySem PySem.Spec PyProof.Rows L2
/-! ### a row taken -/
def wantN (x : Str) : Int := if x = ("thing" : Str) then 4 else if x = ("helper" : Str) then 1 else if x = ("claim" : Str) then 4 else -1
def wantT : List (Key × D) := [(Sum.inr "thing", .int 4), (Sum.inr "helper", .int 1), (Sum.inr "claim", .int 4)]
theorem want_get (x : Str) : (getT wantT (Sum.inr x)).getD (.int (-1)) = .int (wantN x) := by
  unfold wantN wantT
  by_cases h1 : x = ("thing" : Str)
  · subst h1; rfl
  · by_cases h2 : x = ("helper" : Str)
    · subst h2; rfl
    · by_cases h3 : x = ("claim" : Str)
      · subst h3; rfl
      · rw [if_neg h1, if_neg h2, if_neg h3]
        simp [getT, h1, h2, h3, Ne.symm h1, Ne.symm h2, Ne.symm h3, eq_comm]
def takesP (r : Rst) (w0 : Str) (ws : List Str) : Bool × Rst :=
  match numsW (if w0 = ("claim" : Str) then -1 else 0) ws with
  | none => (false, r)
  | some ns => if (ns.length : Int) ≠ wantN w0 then (false, r) else
    if w0 = ("thing" : Str) then (match thingP r (ns.getD 0 0) (ns.drop 1) with
      | none => (false, r)
      | some r' => (true, r'))
    else if w0 = ("helper" : Str) then (decide (ns.getD 0 0 ≤ 4), { r with who := r.who ++ [(ns.getD 0 0, [])] })
    else match r.who.getLast? with
      | none => (false, r)
      | some w => if w.2.length = 6 ∨ ns.getD 3 0 < 0 then (false, r) else (true, { r with who := r.who.dropLast ++ [(w.1, w.2 ++ [(ns.take 3, ns.getD 3 0)])] })
section
variable {CR : Addr} {S : Store} {a : RA} {r : Rst}
theorem RdrAt.lt (h : RdrAt CR S a r) : ∀ j ∈ a.all, j < S.length := by
  intro j hj
  unfold RA.all at hj
  simp only [List.mem_cons] at hj
  rcases hj with rfl | rfl | rfl | hj
  · exact lt_of_some h.self
  · exact lt_of_some h.rows
  · exact lt_of_some h.who
  · obtain ⟨x, hx, hj⟩ := List.mem_flatMap.mp hj
    obtain ⟨i, hi⟩ := List.mem_iff_getElem?.mp hx
    have hi2 : i < r.who.length := by rw [← h.len]; exact (List.getElem?_eq_some_iff.mp hi).1
    obtain ⟨g1, g2⟩ := h.help i _ x (List.getElem?_eq_getElem hi2) hi
    simp only [List.mem_cons, List.not_mem_nil, or_false] at hj
    rcases hj with rfl | rfl
    · exact lt_of_some g1
    · exact lt_of_some g2
/-- a helper is put behind: [n, []] laid at the end -/
theorem RdrAt.addWho (h : RdrAt CR S a r) (n : Int) :
    RdrAt CR ((S ++ [Ob.lst []] ++ [Ob.lst [.int n, .loc S.length]]).set a.lw (.lst (a.hp.map (fun x => D.loc x.1) ++ [.loc (S.length + 1)]))) ⟨a.l, a.lr, a.lw, a.hp ++ [(S.length + 1, S.length)]⟩ { r with who := r.who ++ [(n, [])] } ∧
      RFr S ((S ++ [Ob.lst []] ++ [Ob.lst [.int n, .loc S.length]]).set a.lw (.lst (a.hp.map (fun x => D.loc x.1) ++ [.loc (S.length + 1)]))) a ⟨a.l, a.lr, a.lw, a.hp ++ [(S.length + 1, S.length)]⟩ := by
  obtain ⟨n1, n2, n3, n4⟩ := h.ne
  have lt := h.lt
  have lw : a.lw < S.length := lt _ (by simp [RA.all])
  have ot : ∀ {j : Nat} {o : Ob} (A B : Ob), j ≠ a.lw → S[j]? = some o → ((S ++ [A] ++ [B]).set a.lw (.lst (a.hp.map (fun x => D.loc x.1) ++ [.loc (S.length + 1)])))[j]? = some o := fun {j o} A B hj e => by
    rw [List.getElem?_set_ne (Ne.symm hj)]; exact get_app (get_app e)
  have eL : hpL (a.hp ++ [(S.length + 1, S.length)]) = hpL a.hp ++ [S.length + 1, S.length] := by unfold hpL; rw [List.flatMap_append]; rfl
  refine ⟨⟨ot _ _ n2 h.self, ot _ _ n3 h.rows, ?_, by simp [h.len], fun i w x e1 e2 => ?_, ?_⟩, ⟨by simp, fun j o hj e => ot _ _ (fun z => hj (by rw [z]; simp [RA.all])) e, fun j hj => ?_, rfl⟩⟩
  · rw [List.map_append]
    exact List.getElem?_set_self (by simp; omega)
  · by_cases hi : i < a.hp.length
    · rw [List.getElem?_append_left (by rw [← h.len]; exact hi)] at e1
      rw [List.getElem?_append_left hi] at e2
      obtain ⟨m1, m2⟩ := hp_mem e2
      exact ⟨ot _ _ (n4 _ m1).2.2 (h.help i w x e1 e2).1, ot _ _ (n4 _ m2).2.2 (h.help i w x e1 e2).2⟩
    · have ei : i = a.hp.length := by
        have := (List.getElem?_eq_some_iff.mp e2).1
        rw [List.length_append, List.length_singleton] at this
        omega
      subst ei
      rw [List.getElem?_concat_length] at e2
      rw [h.len, List.getElem?_concat_length] at e1
      cases e1; cases e2
      constructor
      · rw [List.getElem?_set_ne (by show a.lw ≠ S.length + 1; omega)]
        show (S ++ [Ob.lst []] ++ [Ob.lst [.int n, .loc S.length]])[S.length + 1]? = _
        simp
      · rw [List.getElem?_set_ne (by show a.lw ≠ S.length; omega)]
        show (S ++ [Ob.lst []] ++ [Ob.lst [.int n, .loc S.length]])[S.length]? = some (.lst [])
        simp
  · have nd := h.nd
    unfold RA.all at nd ⊢
    show (a.l :: a.lr :: a.lw :: hpL (a.hp ++ [(S.length + 1, S.length)])).Nodup
    rw [eL]
    have e : a.l :: a.lr :: a.lw :: (hpL a.hp ++ [S.length + 1, S.length]) = (a.l :: a.lr :: a.lw :: hpL a.hp) ++ [S.length + 1, S.length] := rfl
    rw [e, List.nodup_append]
    refine ⟨nd, by simp, fun j hj k hk => ?_⟩
    have := lt j hj
    simp only [List.mem_cons, List.not_mem_nil, or_false] at hk
    omega
  · unfold RA.all at hj
    have hj : j ∈ a.l :: a.lr :: a.lw :: hpL (a.hp ++ [(S.length + 1, S.length)]) := hj
    rw [eL] at hj
    simp only [List.mem_cons, List.mem_append, List.not_mem_nil, or_false] at hj
    rcases hj with z | z | z | z | z | z
    · exact .inl (by rw [z]; simp [RA.all])
    · exact .inl (by rw [z]; simp [RA.all])
    · exact .inl (by rw [z]; simp [RA.all])
    · exact .inl (by simp [RA.all, z])
    · exact .inr (by omega)
    · exact .inr (by omega)
/-- a claim is put to the last helper -/
theorem RdrAt.setClaims (h : RdrAt CR S a r) {w : Int × List Clm} {x : Nat × Nat} (hw : r.who.getLast? = some w) (hx : a.hp.getLast? = some x) (cs : List Clm) :
    RdrAt CR (S.set x.2 (.lst (cs.map eC))) a { r with who := r.who.dropLast ++ [(w.1, cs)] } ∧ RFr S (S.set x.2 (.lst (cs.map eC))) a a := by
  obtain ⟨n1, n2, n3, n4⟩ := h.ne
  obtain ⟨who, ew⟩ := List.getLast?_eq_some_iff.mp hw
  obtain ⟨hp, eh⟩ := List.getLast?_eq_some_iff.mp hx
  have hl := h.len
  rw [ew, eh, List.length_append, List.length_append] at hl
  have hl : hp.length = who.length := Nat.add_right_cancel hl
  have eL : hpL a.hp = hpL hp ++ [x.1, x.2] := by rw [eh]; unfold hpL; rw [List.flatMap_append]; rfl
  have nd : (hpL hp ++ [x.1, x.2]).Nodup := by
    have := h.nd
    unfold RA.all at this
    rw [List.nodup_cons, List.nodup_cons, List.nodup_cons, eL] at this
    exact this.2.2.2
  rw [List.nodup_append] at nd
  have x12 : x.1 ≠ x.2 := by
    have := nd.2.1
    simp at this
    exact this
  have xo : ∀ j ∈ hpL hp, j ≠ x.2 := fun j hj => nd.2.2 j hj x.2 (by simp)
  have m2 : x.2 ∈ hpL a.hp := by rw [eL]; simp
  have m1 : x.1 ∈ hpL a.hp := by rw [eL]; simp
  have lt : x.2 < S.length := h.lt _ (by unfold RA.all; simp [m2])
  have ot : ∀ {j : Nat} {o : Ob}, j ≠ x.2 → S[j]? = some o → (S.set x.2 (.lst (cs.map eC)))[j]? = some o := fun {j o} hj e => by rw [List.getElem?_set_ne (Ne.symm hj)]; exact e
  refine ⟨⟨ot (Ne.symm (n4 _ m2).1) h.self, ot (Ne.symm (n4 _ m2).2.1) h.rows, ot (Ne.symm (n4 _ m2).2.2) h.who, ?_, fun i w' x' e1 e2 => ?_, h.nd⟩, ⟨by simp, fun j o hj e => ot (fun z => hj (by unfold RA.all; rw [z]; simp [m2])) e, fun j hj => .inl hj, rfl⟩⟩
  · show a.hp.length = (r.who.dropLast ++ [(w.1, cs)]).length
    rw [ew, eh, List.dropLast_concat, List.length_append, List.length_append, hl]; rfl
  · have e1 : (r.who.dropLast ++ [(w.1, cs)])[i]? = some w' := e1
    rw [ew, List.dropLast_concat] at e1
    rw [eh] at e2
    by_cases hi : i < who.length
    · rw [List.getElem?_append_left hi] at e1
      rw [List.getElem?_append_left (by omega)] at e2
      obtain ⟨p1, p2⟩ := hp_mem e2
      obtain ⟨g1, g2⟩ := h.help i w' x' (by rw [ew, List.getElem?_append_left hi]; exact e1) (by rw [eh, List.getElem?_append_left (by omega)]; exact e2)
      exact ⟨ot (xo _ p1) g1, ot (xo _ p2) g2⟩
    · have ei : i = who.length := by
        have := (List.getElem?_eq_some_iff.mp e1).1
        rw [List.length_append, List.length_singleton] at this
        omega
      subst ei
      rw [List.getElem?_concat_length] at e1
      rw [← hl, List.getElem?_concat_length] at e2
      cases e1; cases e2
      obtain ⟨g1, _⟩ := h.help who.length w x (by rw [ew]; exact List.getElem?_concat_length) (by rw [eh, ← hl]; exact List.getElem?_concat_length)
      exact ⟨ot x12 g1, List.getElem?_set_self lt⟩
end
end DM

namespace DM
open PySem PySem.Spec PyProof.Rows L2
/-! ### things of rows -/
def fsStep (fs : Nat → List Th) (x : Int × List Int) : Nat → List Th := fun j => if j = x.1.toNat + 1 then [] else if j = x.1.toNat then fs j ++ [Th.mk x.2 (fs (x.1.toNat + 1)).reverse] else fs j
def fsOf (l : List (Int × List Int)) : Nat → List Th := l.foldl fsStep fun _ => []
theorem fsOf_snoc (l : List (Int × List Int)) (x : Int × List Int) : fsOf (l ++ [x]) = fsStep (fsOf l) x := by unfold fsOf; rw [List.foldl_append]; rfl
def thingsP (rows : List (Int × List Int)) : List Th := (fsOf rows.reverse 0).reverse
def fdL (p : Nat → Nat) : List D := [.loc (p 0), .loc (p 1), .loc (p 2), .loc (p 3)]
structure FdAt (n0 : Nat) (S : Store) (pf : Nat) (p : Nat → Nat) (fs : Nat → List Th) : Prop where
  top : S[pf]? = some (.lst (fdL p))
  on : ∀ i, i < 4 → S[p i]? = some (.lst ((fs i).map eT))
  inj : ∀ i j, i < 4 → j < 4 → p i = p j → i = j
  nf : ∀ i, i < 4 → p i ≠ pf
  ge : ∀ i, i < 4 → n0 ≤ p i
  gf : n0 ≤ pf
def pAt (p : Nat → Nat) (j x : Nat) : Nat → Nat := fun i => if i = j then x else p i
theorem fdL_at {p : Nat → Nat} {i : Nat} (h : i < 4) : (fdL p)[i]? = some (.loc (p i)) := by
  have : i = 0 ∨ i = 1 ∨ i = 2 ∨ i = 3 := by omega
  rcases this with rfl | rfl | rfl | rfl <;> rfl
theorem fdL_set {p : Nat → Nat} {j x : Nat} (h : j < 4) : (fdL p).set j (.loc x) = fdL (pAt p j x) := by
  have : j = 0 ∨ j = 1 ∨ j = 2 ∨ j = 3 := by omega
  rcases this with rfl | rfl | rfl | rfl <;> rfl
section
variable {n0 : Nat} {S : Store} {pf : Nat} {p : Nat → Nat} {fs : Nat → List Th}
theorem FdAt.grow (h : FdAt n0 S pf p fs) (G : Store) : FdAt n0 (S ++ G) pf p fs := ⟨get_app h.top, fun i hi => get_app (h.on i hi), h.inj, h.nf, h.ge, h.gf⟩
theorem FdAt.put (h : FdAt n0 S pf p fs) {d : Nat} (hd : d < 4) (ts : List Th) : FdAt n0 (S.set (p d) (.lst (ts.map eT))) pf p (fun j => if j = d then ts else fs j) := by
  refine ⟨by rw [List.getElem?_set_ne (h.nf d hd)]; exact h.top, fun i hi => ?_, h.inj, h.nf, h.ge, h.gf⟩
  by_cases e : i = d
  · subst e
    rw [if_pos rfl]
    exact List.getElem?_set_self (lt_of_some (h.on i hi))
  · rw [if_neg e, List.getElem?_set_ne (fun z => e (h.inj d i hd hi z).symm)]
    exact h.on i hi
theorem FdAt.new (h : FdAt n0 S pf p fs) {d : Nat} (hd : d < 4) : FdAt n0 ((S ++ [Ob.lst []]).set pf (.lst (fdL (pAt p d S.length)))) pf (pAt p d S.length) (fun j => if j = d then [] else fs j) := by
  have lf := lt_of_some h.top
  have lp : ∀ i, i < 4 → p i < S.length := fun i hi => lt_of_some (h.on i hi)
  refine ⟨List.getElem?_set_self (by simp; omega), fun i hi => ?_, fun i j hi hj e => ?_, fun i hi => ?_, fun i hi => ?_, h.gf⟩
  · by_cases e : i = d
    · subst e
      rw [if_pos rfl, show pAt p i S.length i = S.length from if_pos rfl, List.getElem?_set_ne (by omega)]
      exact List.getElem?_concat_length
    · rw [if_neg e, show pAt p d S.length i = p i from if_neg e, List.getElem?_set_ne (Ne.symm (h.nf i hi))]
      exact get_app (h.on i hi)
  · unfold pAt at e
    have := lp i hi
    have := lp j hj
    split at e <;> split at e
    · omega
    · omega
    · omega
    · exact h.inj i j hi hj e
  · unfold pAt
    split
    · omega
    · exact h.nf i hi
  · unfold pAt
    split
    · have := h.gf; omega
    · exact h.ge i hi
end
theorem fs_len (l : List (Int × List Int)) : ∀ j, (fsOf l j).length ≤ l.length := by
  rcases List.eq_nil_or_concat l with h | h
  all_goals clear h
  all_goals
    have gen : ∀ (l : List (Int × List Int)) (fs : Nat → List Th) (n : Nat), (∀ j, (fs j).length ≤ n) → ∀ j, (l.foldl fsStep fs j).length ≤ n + l.length := by
      intro l
      induction l with
      | nil => intro fs n h j; exact h j
      | cons x l ih =>
        intro fs n h j
        have := ih (fsStep fs x) (n + 1) (fun j => by
          unfold fsStep
          split
          · exact Nat.zero_le _
          · split
            · rw [List.length_append]; have := h j; show _ + 1 ≤ n + 1; omega
            · have := h j; omega) j
        rw [List.length_cons, List.foldl_cons]
        omega
    intro j
    have := gen l (fun _ => []) 0 (fun _ => Nat.le_refl _) j
    unfold fsOf
    omega
theorem bel_enum (n : Nat) (ts : List Th) : bel.belAll n (enumD (ts.map eT)) = true := by
  unfold enumD
  refine belAll_map (fun k => ?_) _
  show (true && (bel n ((ts.map eT).getD k .non) && true)) = true
  have : bel n ((ts.map eT).getD k .non) = true := by
    rw [List.getD_eq_getElem?_getD, List.getElem?_map]
    cases ts[k]? with
    | none => rfl
    | some t => exact bel_eT n t
  rw [this]; rfl
theorem set_app {S G : Store} {k : Nat} {o : Ob} (h : S.length ≤ k) : ∃ G', (S ++ G).set k o = S ++ G' := ⟨_, List.set_append_right _ _ h⟩
end DM

namespace DM
open PySem PySem.Spec PyProof.Rows L2
/-- two new objects alone are kept -/
theorem CovD.two {S G : Store} {k1 k2 : Nat} {o1 o2 : Ob} (b : belS S.length S) (h1 : S.length ≤ k1) (h2 : S.length ≤ k2) (ne : k1 ≠ k2) (e1 : (S ++ G)[k1]? = some o1) (e2 : (S ++ G)[k2]? = some o2) (b1 : belO S.length o1 = true) (b2 : belO S.length o2 = true) :
    CovD S.length (.tup [.loc k1, .loc k2]) (S ++ G) (.tup [.loc S.length, .loc (S.length + 1)]) (S ++ [o1, o2]) := fun F H u r rs => by
  obtain ⟨t, vs, rfl, ht, rv⟩ := r
  obtain ⟨v1, r1, rfl, ⟨a1, rfl, f1⟩, rv⟩ := rv
  obtain ⟨v2, r2, rfl, ⟨a2, rfl, f2⟩, rv⟩ := rv
  cases (show r2 = [] from rv)
  have hc := rs.cut (n := S.length) (by simpa using b)
  simp only [List.take_left'] at hc
  have hlen : (F.take S.length).length = S.length := by
    rw [List.length_take, rs.len]; simp
  have nd := rs.nd
  have hnot : ∀ {k : Nat} {a : Addr}, S.length ≤ k → F[k]? = some a → a ∉ F.take S.length := fun {k a} hk hf hm => by
    obtain ⟨j, hj, e⟩ := List.mem_iff_getElem.mp hm
    have hj' : j < S.length := by rw [hlen] at hj; exact hj
    have g1 : F[j]? = some a := by rw [← take_get hj', List.getElem?_eq_getElem hj, e]
    have w1 := List.getElem?_eq_some_iff.mp hf
    have w2 := List.getElem?_eq_some_iff.mp g1
    have := (List.getElem_inj nd).mp (w1.2.trans w2.2.symm)
    omega
  have a12 : a1 ≠ a2 := fun z => by
    have w1 := List.getElem?_eq_some_iff.mp f1
    have w2 := List.getElem?_eq_some_iff.mp f2
    exact ne ((List.getElem_inj nd).mp (w1.2.trans (z.trans w2.2.symm)))
  have pp : F.take S.length <+: F.take S.length ++ [a1, a2] := ⟨[a1, a2], rfl⟩
  have p0 : (F.take S.length ++ [a1, a2])[S.length]? = some a1 := by rw [List.getElem?_append_right (by rw [hlen]; exact Nat.le_refl _), hlen]; simp
  have p1 : (F.take S.length ++ [a1, a2])[S.length + 1]? = some a2 := by rw [List.getElem?_append_right (by rw [hlen]; omega), hlen]; simp
  have new : ∀ {k : Nat} {a : Addr} {o : Ob}, F[k]? = some a → (S ++ G)[k]? = some o → belO S.length o = true → ∃ h, H a = some h ∧ RO (F.take S.length ++ [a1, a2]) H o h := fun {k a o} hf ho bo => by
    obtain ⟨a', h, q1, q2, q3⟩ := rs.ob k o ho
    rw [hf] at q1; cases q1
    exact ⟨h, q2, (RO.cut (n := S.length) (fun j hj => take_get hj) o h bo q3).mono pp (Keep.refl H)⟩
  refine ⟨F.take S.length ++ [a1, a2], pp, ⟨t, [.ref a1, .ref a2], rfl, ht, .ref a1, [.ref a2], rfl, ⟨a1, rfl, p0⟩, .ref a2, [], rfl, ⟨a2, rfl, p1⟩, rfl⟩, ?_, ?_, fun l ob e => ?_⟩
  · simp [hlen]
  · rw [List.nodup_append]
    refine ⟨nd.sublist (List.take_sublist _ _), by simp [a12], fun x hx y hy e => ?_⟩
    subst e
    simp only [List.mem_cons, List.not_mem_nil, or_false] at hy
    rcases hy with rfl | rfl
    · exact hnot h1 f1 hx
    · exact hnot h2 f2 hx
  · by_cases hl : l < S.length
    · rw [List.getElem?_append_left hl] at e
      obtain ⟨a, h, q1, q2, q3⟩ := hc.ob l ob e
      exact ⟨a, h, by rw [List.getElem?_append_left (by rw [hlen]; exact hl)]; exact q1, q2, q3.mono pp (Keep.refl H)⟩
    · have : l = S.length ∨ l = S.length + 1 := by
        have := (List.getElem?_eq_some_iff.mp e).1
        simp at this
        omega
      rcases this with rfl | rfl
      · have eo : ob = o1 := by simpa using e.symm
        subst eo
        obtain ⟨h, q2, q3⟩ := new f1 e1 b1
        exact ⟨a1, h, p0, q2, q3⟩
      · have eo : ob = o2 := by simpa using e.symm
        subst eo
        obtain ⟨h, q2, q3⟩ := new f2 e2 b2
        exact ⟨a2, h, p1, q2, q3⟩
section
variable {X : Cx} {k : Nat} {C : Addr} {ps : List Str} {sp : SpD} {x : Str} {v : Fv} {S : Store} {Q : D → Store → Prop} {p pos : Pos}
theorem WE.mk0 (c : ICal X.prog X.w X.K X.mg X.base C k ps sp) (hr : Room (k + 1) X.A) (hm : X.mg x = some (.ref C)) (h : sp [.loc S.length] (S ++ [.ins C []]) fun d S2 => d = .non ∧ Q (.loc S.length) S2) (hg : Gl X x := by rfl)
    (hdb : (x == ("__debug__" : Str)) = false := by decide) : WE X (.Call (.Name x p) [] [] pos) v S Q := by
  obtain ⟨f, fd, G, hk, hb⟩ := c.ex
  exact WE.make0 hk G hr hm hb h hg hdb
end
/-! ### rows of words, all taken -/
def takeAll : Rst → List (List Str) → Option Rst
  | r, [] => some r
  | _, [] :: _ => none
  | r, (w0 :: ws) :: l => if (takesP r w0 ws).1 = true then takeAll (takesP r w0 ws).2 l else none
theorem numsW_rng {least : Int} : ∀ {l : List Str} {ns : List Int}, numsW least l = some ns → ∀ i ∈ ns, (if least < 0 then -1 else 0) ≤ i ∧ i ≤ 9
  | [], ns, h, i, hi => by cases h; cases hi
  | y :: l, ns, h, i, hi => by
    unfold numsW at h
    cases e : numW least y with
    | none => rw [e] at h; cases h
    | some k =>
      cases e2 : numsW least l with
      | none => rw [e, e2] at h; cases h
      | some ms =>
        rw [e, e2] at h
        cases h
        rcases List.mem_cons.mp hi with rfl | hi
        · exact numW_rng e
        · exact numsW_rng e2 i hi
theorem thing_grow {r r' : Rst} {d : Int} {m : List Int} (h : thingP r d m = some r') : r' = { r with rows := r.rows ++ [(d, m)] } ∧ d ≤ 2 := by
  unfold thingP at h
  split at h
  · cases h
  · rename_i c
    split at h
    · cases h
    · cases h
      exact ⟨rfl, by
        have : ¬ 2 < d := fun z => c (.inr (.inr z))
        omega⟩
theorem takes_grow (r : Rst) (w0 : Str) (ws : List Str) : (takesP r w0 ws).2.rows.length ≤ r.rows.length + 1 ∧ (takesP r w0 ws).2.who.length ≤ r.who.length + 1 ∧ ((∀ y ∈ r.who, y.2.length ≤ 6) → ∀ y ∈ (takesP r w0 ws).2.who, y.2.length ≤ 6) ∧ ((∀ x ∈ r.rows, 0 ≤ x.1 ∧ x.1 ≤ 2) → ∀ x ∈ (takesP r w0 ws).2.rows, 0 ≤ x.1 ∧ x.1 ≤ 2) := by
  have triv : r.rows.length ≤ r.rows.length + 1 ∧ r.who.length ≤ r.who.length + 1 ∧ ((∀ y ∈ r.who, y.2.length ≤ 6) → ∀ y ∈ r.who, y.2.length ≤ 6) ∧ ((∀ x ∈ r.rows, 0 ≤ x.1 ∧ x.1 ≤ 2) → ∀ x ∈ r.rows, 0 ≤ x.1 ∧ x.1 ≤ 2) := ⟨by omega, by omega, fun h => h, fun h => h⟩
  unfold takesP
  split
  · exact triv
  · rename_i ns hn
    split
    · exact triv
    · rename_i c1
      split
      · rename_i c2
        split
        · exact triv
        · rename_i r' hr
          obtain ⟨rfl, hd⟩ := thing_grow hr
          refine ⟨by simp, by simp, fun h => h, fun h x hx => ?_⟩
          rcases List.mem_append.mp hx with z | z
          · exact h x z
          · have e : x = (ns.getD 0 0, ns.drop 1) := List.mem_singleton.mp z
            subst e
            refine ⟨?_, hd⟩
            have n4 : 0 < ns.length := by
              have e4 : wantN w0 = 4 := by unfold wantN; rw [if_pos c2]
              rw [e4] at c1
              omega
            have hc : ¬ w0 = ("claim" : Str) := fun z => by rw [z] at c2; exact absurd c2 (by decide)
            rw [if_neg hc] at hn
            have := (numsW_rng hn (ns.getD 0 0) (by
              rw [List.getD_eq_getElem?_getD, List.getElem?_eq_getElem n4]
              exact List.getElem_mem n4)).1
            rw [if_neg (by decide)] at this
            exact this
      · split
        · refine ⟨by simp, by simp, fun h y hy => ?_, fun h => h⟩
          rcases List.mem_append.mp hy with z | z
          · exact h y z
          · rw [List.mem_singleton.mp z]; exact Nat.zero_le _
        · split
          · exact triv
          · rename_i w hw
            split
            · exact triv
            · rename_i c3
              have hl := List.mem_of_getLast? hw
              have hne : r.who ≠ [] := fun z => by rw [z] at hl; cases hl
              have hlen : 0 < r.who.length := List.length_pos_iff.mpr hne
              refine ⟨by simp, by rw [List.length_append, List.length_dropLast, List.length_singleton]; omega, fun h y hy => ?_, fun h => h⟩
              rcases List.mem_append.mp hy with z | z
              · exact h y ((List.dropLast_sublist _).subset z)
              · rw [List.mem_singleton.mp z]
                have := h w hl
                have h6 : w.2.length ≠ 6 := fun z => c3 (.inl z)
                show (w.2 ++ [(ns.take 3, ns.getD 3 0)]).length ≤ 6
                rw [List.length_append, List.length_singleton]
                omega
theorem pre_app {S S' : Store} (hl : S.length ≤ S'.length) (h : ∀ (j : Nat) (o : Ob), S[j]? = some o → S'[j]? = some o) : ∃ G, S' = S ++ G := by
  refine ⟨S'.drop S.length, ?_⟩
  apply List.ext_getElem?
  intro j
  by_cases hj : j < S.length
  · rw [List.getElem?_append_left hj, List.getElem?_eq_getElem hj]
    exact h j _ (List.getElem?_eq_getElem hj)
  · rw [List.getElem?_append_right (by omega), List.getElem?_drop]
    congr 1; omega
theorem enum_get {xs : List D} {i : Nat} {d : D} (h : (enumD xs)[i]? = some d) : ∃ x, xs[i]? = some x ∧ d = .tup [.int (i : Int), x] := by
  unfold enumD at h
  rw [List.getElem?_map] at h
  by_cases hi : i < xs.length
  · rw [List.getElem?_range hi] at h
    refine ⟨xs[i], List.getElem?_eq_getElem hi, ?_⟩
    have h := (Option.some.inj h).symm
    rw [h]
    show D.tup [.int (i : Int), xs.getD i .non] = _
    rw [List.getD_eq_getElem?_getD, List.getElem?_eq_getElem hi]; rfl
  · rw [List.getElem?_eq_none (by simp; omega)] at h
    cases h
def rowsT (x : Str) : List Str := if x = ("" : Str) then [] else Txt.split x "\n"
def whoD (who : List (Int × List Clm)) : List D := (List.range who.length).map fun (k : Nat) => heD ((k : Int), (who.getD k (0, [])).2, (who.getD k (0, [])).1)
section
variable {X : Cx} {es : List Expr} {v : Fv} {S : Store} {Q : Fv → Store → Prop} {pos : Pos}
/-- a list taken apart into names -/
theorem WG.unp {d : D} {kk : Nat} {ds : List D} {l : Nat} (hd : d = .loc l) (hl : S[l]? = some (.lst ds)) (h : WGs X es ds v S Q) (hc : X.calm = true) (hn : (assignEach es X.env).length = ds.length := by rfl) (hst : (assignEach es X.env).findIdx? (·.1) = none := by rfl) : WG X (.Tuple es kk pos) d v S Q := fun F t H u Q' re rs r k => by
  subst hd
  obtain ⟨a, rfl, ha⟩ := r
  obtain ⟨a', h', e1, e2, vs, e3, e4⟩ := rs.get hl
  rw [e1] at ha; cases ha
  subst e3
  exact wG_of (pg_unl hc pgs_w hn hst) ⟨a, vs, rfl, SqL.of e2, e4.length, h F t H vs Q' re rs e4 k⟩
end
theorem who_snoc {who : List (Int × List Clm)} {i : Nat} {y : Int × List Clm} (h : who[i]? = some y) : (whoD who).take (i + 1) = (whoD who).take i ++ [heD ((i : Int), y.2, y.1)] := by
  have hi := (List.getElem?_eq_some_iff.mp h).1
  have e : (whoD who)[i]? = some (heD ((i : Int), y.2, y.1)) := by
    unfold whoD
    rw [List.getElem?_map, List.getElem?_range hi]
    show some (heD ((i : Int), (who.getD i (0, [])).2, (who.getD i (0, [])).1)) = _
    rw [List.getD_eq_getElem?_getD, h]; rfl
  rw [take_at e]
theorem whoD_len (who : List (Int × List Clm)) : (whoD who).length = who.length := by simp [whoD]
theorem bel_who (n : Nat) (who : List (Int × List Clm)) : bel.belAll n (whoD who) = true := by
  unfold whoD
  refine belAll_map (fun k => ?_) _
  show (true && (bel n (eCs _) && (true && true))) = true
  rw [bel_eCs]; rfl
end DM

namespace DM
open PySem PySem.Spec PyProof.Rows L2
/-! ### rows and their words -/
def nS (i : Int) : Str := toString i
def okW (x : Str) : Bool := x.cps.toList.all fun c => decide (c ≠ 32) && decide (c ≠ 10)
theorem nS_fin : ∀ k : Nat, k < 11 → okW (nS ((k : Int) - 1)) = true ∧ numW (-1) (nS ((k : Int) - 1)) = some ((k : Int) - 1) ∧ (nS ((k : Int) - 1)).length ≤ 2 ∧ (1 ≤ k → numW 0 (nS ((k : Int) - 1)) = some ((k : Int) - 1)) := by decide +kernel
theorem nS_ok {i : Int} (h0 : -1 ≤ i) (h1 : i ≤ 9) : okW (nS i) = true ∧ numW (-1) (nS i) = some i ∧ (nS i).length ≤ 2 ∧ (0 ≤ i → numW 0 (nS i) = some i) := by
  have := nS_fin (i + 1).toNat (by omega)
  have e : (((i + 1).toNat : Nat) : Int) - 1 = i := by omega
  rw [e] at this
  exact ⟨this.1, this.2.1, this.2.2.1, fun h => this.2.2.2 (by omega)⟩
inductive Rw where
  | th (d : Int) (m : List Int) | hp (r : Int) | cl (w : List Int) (x : Int)
def Rw.word : Rw → Str
  | .th _ _ => "thing"
  | .hp _ => "helper"
  | .cl _ _ => "claim"
def Rw.nums : Rw → List Int
  | .th d m => d :: m
  | .hp r => [r]
  | .cl w x => w ++ [x]
def Rw.words (r : Rw) : List Str := r.word :: r.nums.map nS
def Rw.txt (r : Rw) : Str := Txt.join " " r.words
def OkRw : Rw → Prop
  | .th d m => 0 ≤ d ∧ d ≤ 2 ∧ OkM 0 m
  | .hp r => 0 ≤ r ∧ r ≤ 4
  | .cl w x => OkM (-1) w ∧ 0 ≤ x ∧ x ≤ 9
theorem OkRw.rng {r : Rw} (h : OkRw r) : ∀ i ∈ r.nums, -1 ≤ i ∧ i ≤ 9 := by
  intro i hi
  cases r with
  | th d m =>
    obtain ⟨a, b, c⟩ := h
    rcases List.mem_cons.mp hi with rfl | hi
    · omega
    · have := c.2 i hi; omega
  | hp r =>
    obtain ⟨a, b⟩ := h
    have : i = r := List.mem_singleton.mp hi
    omega
  | cl w x =>
    obtain ⟨a, b, c⟩ := h
    rcases List.mem_append.mp hi with hi | hi
    · have := a.2 i hi; omega
    · have : i = x := List.mem_singleton.mp hi
      omega
theorem okW_no {x : Str} (h : okW x = true) : 32 ∉ x.cps.toList ∧ 10 ∉ x.cps.toList := by
  unfold okW at h
  rw [List.all_eq_true] at h
  exact ⟨fun z => by have := h 32 z; simp at this, fun z => by have := h 10 z; simp at this⟩
theorem OkRw.words_ok {r : Rw} (h : OkRw r) : ∀ x ∈ r.words, okW x = true := by
  intro x hx
  rcases List.mem_cons.mp hx with rfl | hx
  · cases r
    · show okW "thing" = true; decide +kernel
    · show okW "helper" = true; decide +kernel
    · show okW "claim" = true; decide +kernel
  · obtain ⟨i, hi, rfl⟩ := List.mem_map.mp hx
    have := h.rng i hi
    exact (nS_ok this.1 this.2).1
/-- a row's words come back -/
theorem split_txt {r : Rw} (h : OkRw r) : Txt.split r.txt " " = r.words :=
  TL.split_join (y := " ") (s := 32) (S := []) (by decide +kernel) (by decide +kernel) (by unfold Rw.words; simp) fun p hp => (okW_no (h.words_ok p hp)).1
theorem tl_txt (r : Rw) (h : OkRw r) : 10 ∉ TL.tl r.txt := by
  unfold Rw.txt
  rw [TL.join_eq, TL.tl_join]
  have key : ∀ l : List (List Nat), (∀ p ∈ l, 10 ∉ p) → 10 ∉ TL.joinL (TL.tl " ") l := by
    intro l
    induction l with
    | nil => intro _ z; cases z
    | cons p l ih =>
      intro hp
      cases l with
      | nil => exact hp p List.mem_cons_self
      | cons q l =>
        intro z
        have z : 10 ∈ p ++ (TL.tl " " ++ TL.joinL (TL.tl " ") (q :: l)) := z
        rcases List.mem_append.mp z with z | z
        · exact hp p List.mem_cons_self z
        · rcases List.mem_append.mp z with z | z
          · exact absurd z (by decide +kernel)
          · exact ih (fun p' hp' => hp p' (List.mem_cons_of_mem _ hp')) z
  refine key _ fun p hp => ?_
  obtain ⟨x, hx, rfl⟩ := List.mem_map.mp hp
  exact (okW_no (h.words_ok x hx)).2
/-- a text's rows come back -/
theorem split_rows {l : List Rw} (h : ∀ r ∈ l, OkRw r) (hne : l ≠ []) : Txt.split (Txt.join "\n" (l.map Rw.txt)) "\n" = l.map Rw.txt :=
  TL.split_join (y := "\n") (s := 10) (S := []) (by decide +kernel) (by decide +kernel) (by simpa using hne) fun p hp => by
    obtain ⟨r, hr, rfl⟩ := List.mem_map.mp hp
    exact tl_txt r (h r hr)
end DM

namespace DM
open PySem PySem.Spec PyProof.Rows L2
/-! ### rows taken -/
theorem numsW_of {least : Int} : ∀ {l : List Int}, (∀ i ∈ l, -1 ≤ i ∧ i ≤ 9 ∧ (least = -1 ∨ least = 0 ∧ 0 ≤ i)) → numsW least (l.map nS) = some l
  | [], _ => rfl
  | i :: l, h => by
    obtain ⟨h0, h1, h2⟩ := h i List.mem_cons_self
    have ih := numsW_of (l := l) fun j hj => h j (List.mem_cons_of_mem _ hj)
    have e : numW least (nS i) = some i := by
      obtain ⟨_, a, _, b⟩ := nS_ok h0 h1
      rcases h2 with rfl | ⟨rfl, h3⟩
      · exact a
      · exact b h3
    show (match numW least (nS i), numsW least (l.map nS) with
      | some i, some l => some (i :: l)
      | _, _ => none) = some (i :: l)
    rw [e, ih]
def putRw (r : Rst) : Rw → Option Rst
  | .th d m => thingP r d m
  | .hp n => some { r with who := r.who ++ [(n, [])] }
  | .cl w x => match r.who.getLast? with
    | none => none
    | some y => if y.2.length = 6 then none else some { r with who := r.who.dropLast ++ [(y.1, y.2 ++ [(w, x)])] }
theorem take_rw {r r' : Rst} {q : Rw} (h : OkRw q) (e : putRw r q = some r') : takesP r q.word (q.nums.map nS) = (true, r') := by
  cases q with
  | th d m =>
    obtain ⟨a, b, c⟩ := h
    have hn : numsW (if (Rw.th d m).word = ("claim" : Str) then -1 else 0) ((Rw.th d m).nums.map nS) = some (d :: m) := by
      rw [if_neg (by show ¬ (("thing" : Str) = "claim"); decide)]
      refine numsW_of fun i hi => ?_
      rcases List.mem_cons.mp hi with rfl | hi
      · exact ⟨by omega, by omega, .inr ⟨rfl, a⟩⟩
      · have := c.2 i hi
        exact ⟨by omega, by omega, .inr ⟨rfl, by omega⟩⟩
    unfold takesP
    rw [hn]
    have h3 : m.length = 3 := c.1
    have hw : ¬ (((d :: m).length : Int) ≠ wantN (Rw.th d m).word) := fun z => z (by rw [List.length_cons, h3]; rfl)
    show (if ((d :: m).length : Int) ≠ wantN (Rw.th d m).word then (false, r) else _) = _
    rw [if_neg hw]
    show (match thingP r d m with | none => (false, r) | some r' => (true, r')) = (true, r')
    have e : thingP r d m = some r' := e
    rw [e]
  | hp n =>
    obtain ⟨a, b⟩ := h
    have hn : numsW (if (Rw.hp n).word = ("claim" : Str) then -1 else 0) ((Rw.hp n).nums.map nS) = some [n] := by
      rw [if_neg (by show ¬ (("helper" : Str) = "claim"); decide)]
      refine numsW_of fun i hi => ?_
      have : i = n := List.mem_singleton.mp hi
      exact ⟨by omega, by omega, .inr ⟨rfl, by omega⟩⟩
    unfold takesP
    rw [hn]
    show (decide (n ≤ 4), _) = (true, r')
    rw [decide_eq_true b]
    cases e
    rfl
  | cl w x =>
    obtain ⟨a, b, c⟩ := h
    have hn : numsW (if (Rw.cl w x).word = ("claim" : Str) then -1 else 0) ((Rw.cl w x).nums.map nS) = some (w ++ [x]) := by
      rw [if_pos (by show (("claim" : Str) = "claim"); rfl)]
      refine numsW_of fun i hi => ?_
      rcases List.mem_append.mp hi with hi | hi
      · have := a.2 i hi
        exact ⟨by omega, by omega, .inl rfl⟩
      · have : i = x := List.mem_singleton.mp hi
        exact ⟨by omega, by omega, .inl rfl⟩
    have h3 : w.length = 3 := a.1
    unfold takesP
    rw [hn]
    have hw : ¬ (((w ++ [x]).length : Int) ≠ wantN (Rw.cl w x).word) := fun z => z (by rw [List.length_append, h3]; rfl)
    show (if ((w ++ [x]).length : Int) ≠ wantN (Rw.cl w x).word then (false, r) else _) = _
    rw [if_neg hw]
    have e1 : (w ++ [x]).getD 3 0 = x := by rw [List.getD_eq_getElem?_getD, ← h3, List.getElem?_concat_length]; rfl
    have e2 : (w ++ [x]).take 3 = w := by rw [← h3, List.take_left']; rfl
    show (match r.who.getLast? with
      | none => (false, r)
      | some y => if y.2.length = 6 ∨ (w ++ [x]).getD 3 0 < 0 then (false, r) else (true, { r with who := r.who.dropLast ++ [(y.1, y.2 ++ [((w ++ [x]).take 3, (w ++ [x]).getD 3 0)])] })) = _
    rw [e1, e2]
    have e : (match r.who.getLast? with
      | none => none
      | some y => if y.2.length = 6 then none else some { r with who := r.who.dropLast ++ [(y.1, y.2 ++ [(w, x)])] }) = some r' := e
    cases eg : r.who.getLast? with
    | none => rw [eg] at e; cases e
    | some y =>
      rw [eg] at e
      have e : (if y.2.length = 6 then none else some { r with who := r.who.dropLast ++ [(y.1, y.2 ++ [(w, x)])] }) = some r' := e
      by_cases h6 : y.2.length = 6
      · rw [if_pos h6] at e; cases e
      · rw [if_neg h6] at e
        cases e
        show (if y.2.length = 6 ∨ x < 0 then (false, r) else _) = _
        rw [if_neg (by omega)]
/-- rows put one behind the other -/
def putAllR : Rst → List Rw → Option Rst
  | r, [] => some r
  | r, q :: l => match putRw r q with
    | none => none
    | some r' => putAllR r' l
theorem take_all : ∀ {l : List Rw} {r r' : Rst}, (∀ q ∈ l, OkRw q) → putAllR r l = some r' → takeAll r (l.map Rw.words) = some r'
  | [], r, r', _, e => e
  | q :: l, r, r', h, e => by
    cases e1 : putRw r q with
    | none =>
      have e : (match putRw r q with | none => none | some r' => putAllR r' l) = some r' := e
      rw [e1] at e; cases e
    | some r1 =>
      have e : (match putRw r q with | none => none | some r' => putAllR r' l) = some r' := e
      rw [e1] at e
      have t := take_rw (h q List.mem_cons_self) e1
      show (if (takesP r q.word (q.nums.map nS)).1 = true then takeAll (takesP r q.word (q.nums.map nS)).2 (l.map Rw.words) else none) = some r'
      rw [t, if_pos rfl]
      exact take_all (fun p hp => h p (List.mem_cons_of_mem _ hp)) e
theorem putAllR_app : ∀ {l m : List Rw} {r r1 r2 : Rst}, putAllR r l = some r1 → putAllR r1 m = some r2 → putAllR r (l ++ m) = some r2
  | [], m, r, r1, r2, e, e2 => by cases e; exact e2
  | q :: l, m, r, r1, r2, e, e2 => by
    cases e1 : putRw r q with
    | none =>
      have e : (match putRw r q with | none => none | some r' => putAllR r' l) = some r1 := e
      rw [e1] at e; cases e
    | some r3 =>
      have e : (match putRw r q with | none => none | some r' => putAllR r' l) = some r1 := e
      rw [e1] at e
      show (match putRw r q with | none => none | some r' => putAllR r' (l ++ m)) = some r2
      rw [e1]
      exact putAllR_app e e2
end DM

namespace DM
open PySem PySem.Spec PyProof.Rows L2
/-! ### the rows of things -/
mutual
def rwT (d : Int) : Th → List (Int × List Int)
  | .mk m xs => (d, m) :: rwTs (d + 1) xs
def rwTs (d : Int) : List Th → List (Int × List Int)
  | [] => []
  | x :: xs => rwT d x ++ rwTs d xs
end
def thR (x : Int × List Int) : Rw := .th x.1 x.2
mutual
theorem rwT_ge (d : Int) : ∀ (t : Th), ∀ x ∈ rwT d t, d ≤ x.1
  | .mk m xs, x, hx => by
    rcases List.mem_cons.mp (show x ∈ (d, m) :: rwTs (d + 1) xs from hx) with rfl | hx
    · exact Int.le_refl _
    · have := rwTs_ge (d + 1) xs x hx
      omega
theorem rwTs_ge (d : Int) : ∀ (xs : List Th), ∀ x ∈ rwTs d xs, d ≤ x.1
  | [], x, hx => by cases hx
  | t :: ts, x, hx => by
    rcases List.mem_append.mp (show x ∈ rwT d t ++ rwTs d ts from hx) with hx | hx
    · exact rwT_ge d t x hx
    · exact rwTs_ge d ts x hx
end
theorem many_app {e : Int} : ∀ {A B : List (Int × List Int)}, (∀ x ∈ A, e < x.1) → manyP e (A ++ B) = manyP e B
  | [], B, _ => rfl
  | x :: A, B, h => by
    have hx := h x List.mem_cons_self
    show (if x.1 < e then 0 else manyP e (A ++ B) + (if x.1 = e then 1 else 0)) = manyP e B
    rw [if_neg (by omega), if_neg (by omega), many_app fun y hy => h y (List.mem_cons_of_mem _ hy)]
    omega
theorem many_one {e : Int} {m : List Int} {B : List (Int × List Int)} : manyP e ((e, m) :: B) = manyP e B + 1 := by
  show (if e < e then 0 else manyP e B + (if e = e then 1 else 0)) = _
  rw [if_neg (by omega), if_pos rfl]
theorem many_low {e d : Int} {m : List Int} {B : List (Int × List Int)} (h : d < e) : manyP e ((d, m) :: B) = 0 := if_pos h
theorem ahead_snoc {R A : List (Int × List Int)} {d : Int} {m : List Int} (h : ∀ x ∈ A, d ≤ x.1) : d ≤ aheadP (R ++ [(d, m)] ++ A) := by
  unfold aheadP
  rcases List.eq_nil_or_concat A with rfl | ⟨A', x, rfl⟩
  · rw [List.append_nil, List.getLast?_concat]
    exact Int.le_refl _
  · rw [List.concat_eq_append] at *
    rw [← List.append_assoc, List.getLast?_concat]
    exact h x (by simp)
theorem many_rwT {d : Int} (t : Th) (R : List (Int × List Int)) : manyP d (R ++ rwT d t).reverse = manyP d R.reverse + 1 := by
  obtain ⟨m, xs⟩ := t
  show manyP d (R ++ (d, m) :: rwTs (d + 1) xs).reverse = _
  rw [List.reverse_append, List.reverse_cons, List.append_assoc, many_app fun x hx => by
    have := rwTs_ge (d + 1) xs x (List.mem_reverse.mp hx)
    omega]
  exact many_one
theorem ahead_rwT {d : Int} (t : Th) (R : List (Int × List Int)) : d ≤ aheadP (R ++ rwT d t) := by
  obtain ⟨m, xs⟩ := t
  have := ahead_snoc (R := R) (A := rwTs (d + 1) xs) (d := d) (m := m) fun x hx => by
    have := rwTs_ge (d + 1) xs x hx
    omega
  rw [List.append_assoc] at this
  exact this
theorem thing_put {R : List (Int × List Int)} {d : Int} {m : List Int} (h1 : d ≤ aheadP R + 1) (h2 : d ≤ 2) (h3 : 0 < d → manyP d R.reverse ≠ 3) : putRw ⟨R, []⟩ (thR (d, m)) = some ⟨R ++ [(d, m)], []⟩ := by
  show thingP ⟨R, []⟩ d m = _
  unfold thingP
  rw [if_neg (fun z => by
    rcases z with z | z | z
    · exact z rfl
    · have z : aheadP R + 1 < d := z
      omega
    · omega), if_neg (fun z => h3 z.1 z.2)]
theorem put_th : ∀ (k : Nat) (t : Th) (d : Int) (R : List (Int × List Int)), OkT k t → 0 ≤ d → d + (k : Int) ≤ 2 → d ≤ aheadP R + 1 → (0 < d → manyP d R.reverse ≠ 3) → putAllR ⟨R, []⟩ ((rwT d t).map thR) = some ⟨R ++ rwT d t, []⟩ := by
  intro k
  induction k with
  | zero =>
    rintro ⟨m, xs⟩ d R ok h0 hk ha hm
    have e : xs = [] := ok.2
    subst e
    show (match putRw ⟨R, []⟩ (thR (d, m)) with | none => none | some r' => putAllR r' []) = some ⟨R ++ [(d, m)], []⟩
    rw [thing_put ha (by omega) hm]
    rfl
  | succ k ih =>
    rintro ⟨m, xs⟩ d R ok h0 hk ha hm
    have ok3 : xs.length ≤ 3 := ok.2.1
    have okx : ∀ x ∈ xs, OkT k x := ok.2.2
    have inner : ∀ (l : List Th), (∀ x ∈ l, OkT k x) → ∀ R, d + 1 ≤ aheadP R + 1 → manyP (d + 1) R.reverse + (l.length : Int) ≤ 3 → putAllR ⟨R, []⟩ ((rwTs (d + 1) l).map thR) = some ⟨R ++ rwTs (d + 1) l, []⟩ := by
      intro l
      induction l with
      | nil => intro _ R _ _; show some _ = some _; rw [show rwTs (d + 1) [] = [] from rfl, List.append_nil]
      | cons x l ihl =>
        intro hok R h1 h2
        rw [List.length_cons] at h2
        have p1 := ih x (d + 1) R (hok x List.mem_cons_self) (by omega) (by omega) h1 fun _ => by omega
        have p2 := ihl (fun y hy => hok y (List.mem_cons_of_mem _ hy)) (R ++ rwT (d + 1) x) (by have := ahead_rwT (d := d + 1) x R; omega) (by rw [many_rwT]; omega)
        show putAllR ⟨R, []⟩ ((rwT (d + 1) x ++ rwTs (d + 1) l).map thR) = some ⟨R ++ (rwT (d + 1) x ++ rwTs (d + 1) l), []⟩
        rw [List.map_append, ← List.append_assoc]
        exact putAllR_app p1 p2
    show (match putRw ⟨R, []⟩ (thR (d, m)) with | none => none | some r' => putAllR r' ((rwTs (d + 1) xs).map thR)) = some ⟨R ++ (d, m) :: rwTs (d + 1) xs, []⟩
    rw [thing_put ha (by omega) hm]
    have a1 : d + 1 ≤ aheadP (R ++ [(d, m)]) + 1 := by
      have := ahead_snoc (R := R) (A := []) (d := d) (m := m) fun _ z => by cases z
      rw [List.append_nil] at this
      omega
    have a2 : manyP (d + 1) (R ++ [(d, m)]).reverse + (xs.length : Int) ≤ 3 := by
      rw [List.reverse_append, List.reverse_singleton, List.singleton_append, many_low (by omega)]
      omega
    have := inner xs okx (R ++ [(d, m)]) a1 a2
    rw [List.append_assoc] at this
    exact this
/-- all things' rows are taken -/
theorem put_things : ∀ (ts : List Th) (R : List (Int × List Int)), (∀ t ∈ ts, OkT 2 t) → -1 ≤ aheadP R → putAllR ⟨R, []⟩ ((rwTs 0 ts).map thR) = some ⟨R ++ rwTs 0 ts, []⟩
  | [], R, _, _ => by show some _ = some _; rw [show rwTs 0 [] = [] from rfl, List.append_nil]
  | t :: ts, R, h, ha => by
    have p1 := put_th 2 t 0 R (h t List.mem_cons_self) (by omega) (by omega) (by omega) fun z => by omega
    have p2 := put_things ts (R ++ rwT 0 t) (fun x hx => h x (List.mem_cons_of_mem _ hx)) (by have := ahead_rwT (d := 0) t R; omega)
    show putAllR ⟨R, []⟩ ((rwT 0 t ++ rwTs 0 ts).map thR) = some ⟨R ++ (rwT 0 t ++ rwTs 0 ts), []⟩
    rw [List.map_append, ← List.append_assoc]
    exact putAllR_app p1 p2
end DM

namespace DM
open PySem PySem.Spec PyProof.Rows L2
/-! ### things of their rows -/
mutual
theorem fs_rwT (d : Nat) : ∀ (t : Th) (fs : Nat → List Th), (∀ j, d < j → fs j = []) → (rwT (d : Int) t).reverse.foldl fsStep fs = fun j => if j = d then fs j ++ [t] else fs j
  | .mk m xs, fs, h => by
    have e : rwT (d : Int) (.mk m xs) = ((d : Int), m) :: rwTs ((d + 1 : Nat) : Int) xs := rfl
    rw [e, List.reverse_cons, List.foldl_append, fs_rwTs (d + 1) xs fs fun j hj => h j (by omega)]
    show fsStep _ ((d : Int), m) = _
    funext j
    unfold fsStep
    show (if j = d + 1 then [] else if j = d then _ else _) = _
    by_cases h1 : j = d + 1
    · subst h1
      rw [if_pos rfl, if_neg (by omega)]
      exact (h _ (by omega)).symm
    · rw [if_neg h1]
      by_cases h2 : j = d
      · subst h2
        rw [if_pos rfl, if_pos rfl]
        show (if j = j + 1 then _ else fs j) ++ [Th.mk m (if j + 1 = j + 1 then fs (j + 1) ++ xs.reverse else fs (j + 1)).reverse] = _
        rw [if_neg (by omega), if_pos rfl, h (j + 1) (by omega), List.nil_append, List.reverse_reverse]
      · rw [if_neg h2, if_neg h2]
        exact if_neg h1
theorem fs_rwTs (d : Nat) : ∀ (xs : List Th) (fs : Nat → List Th), (∀ j, d < j → fs j = []) → (rwTs (d : Int) xs).reverse.foldl fsStep fs = fun j => if j = d then fs j ++ xs.reverse else fs j
  | [], fs, h => by
    show fs = _
    funext j
    by_cases h1 : j = d
    · rw [if_pos h1, List.reverse_nil, List.append_nil]
    · rw [if_neg h1]
  | t :: ts, fs, h => by
    have e : rwTs (d : Int) (t :: ts) = rwT (d : Int) t ++ rwTs (d : Int) ts := rfl
    rw [e, List.reverse_append, List.foldl_append, fs_rwTs d ts fs h, fs_rwT d t _ fun j hj => by
      show (if j = d then _ else fs j) = []
      rw [if_neg (by omega)]
      exact h j hj]
    funext j
    by_cases h1 : j = d
    · subst h1
      rw [if_pos rfl, if_pos rfl]
      show fs j ++ ts.reverse ++ [t] = if j = j then fs j ++ (t :: ts).reverse else fs j
      rw [if_pos rfl, List.reverse_cons, List.append_assoc]
    · rw [if_neg h1, if_neg h1]
      exact (if_neg h1).symm
end
theorem things_rows (ts : List Th) : thingsP (rwTs 0 ts) = ts := by
  unfold thingsP fsOf
  have := fs_rwTs 0 ts (fun _ => []) fun _ _ => rfl
  have e : (rwTs 0 ts).reverse.foldl fsStep (fun _ => []) = fun j => if j = 0 then ([] : List Th) ++ ts.reverse else [] := this
  rw [e]
  show (if (0 : Nat) = 0 then ([] : List Th) ++ ts.reverse else []).reverse = ts
  rw [if_pos rfl, List.nil_append, List.reverse_reverse]
/-! ### the rows of helpers -/
def heR (h : He) : List Rw := .hp h.2.2 :: h.2.1.map fun c => .cl c.1 c.2
def heRs (hs : List He) : List Rw := hs.flatMap heR
theorem put_claims (R : List (Int × List Int)) (n : Int) : ∀ (cs : List Clm) (who : List (Int × List Clm)) (b : List Clm), b.length + cs.length ≤ 6 → putAllR ⟨R, who ++ [(n, b)]⟩ (cs.map fun c : Clm => Rw.cl c.1 c.2) = some ⟨R, who ++ [(n, b ++ cs)]⟩
  | [], who, b, _ => by rw [List.append_nil]; rfl
  | c :: cs, who, b, h => by
    rw [List.length_cons] at h
    have e : putRw ⟨R, who ++ [(n, b)]⟩ (.cl c.1 c.2) = some ⟨R, who ++ [(n, b ++ [c])]⟩ := by
      show (match (who ++ [(n, b)]).getLast? with
        | none => none
        | some y => if y.2.length = 6 then none else some (⟨R, (who ++ [(n, b)]).dropLast ++ [(y.1, y.2 ++ [(c.1, c.2)])]⟩ : Rst)) = _
      rw [List.getLast?_concat, List.dropLast_concat]
      show (if b.length = 6 then none else some (⟨R, who ++ [(n, b ++ [(c.1, c.2)])]⟩ : Rst)) = _
      rw [if_neg (by omega)]
    show (match putRw ⟨R, who ++ [(n, b)]⟩ (.cl c.1 c.2) with | none => none | some r' => putAllR r' (cs.map fun c : Clm => Rw.cl c.1 c.2)) = _
    rw [e]
    have := put_claims R n cs who (b ++ [c]) (by rw [List.length_append, List.length_singleton]; omega)
    rw [List.append_assoc] at this
    exact this
theorem put_helpers (R : List (Int × List Int)) : ∀ (hs : List He) (who : List (Int × List Clm)), (∀ h ∈ hs, h.2.1.length ≤ 6) → putAllR ⟨R, who⟩ (heRs hs) = some ⟨R, who ++ hs.map fun h => (h.2.2, h.2.1)⟩
  | [], who, _ => by rw [List.map_nil, List.append_nil]; rfl
  | h :: hs, who, ok => by
    have p1 : putAllR ⟨R, who⟩ (heR h) = some ⟨R, who ++ [(h.2.2, h.2.1)]⟩ := by
      have := put_claims R h.2.2 h.2.1 who [] (by have := ok h List.mem_cons_self; simpa using this)
      rw [List.nil_append] at this
      exact this
    have p2 := put_helpers R hs (who ++ [(h.2.2, h.2.1)]) fun x hx => ok x (List.mem_cons_of_mem _ hx)
    have e : heRs (h :: hs) = heR h ++ heRs hs := rfl
    rw [e, List.map_cons]
    rw [List.append_assoc] at p2
    exact putAllR_app p1 p2
end DM

namespace DM
open PySem PySem.Spec PyProof.Rows L2
/-! ### a whole text -/
def txtR (l : List Rw) : Str := Txt.join "\n" (l.map Rw.txt)
theorem words_two {r : Rw} (h : OkRw r) : 2 ≤ r.words.length := by
  unfold Rw.words
  rw [List.length_cons, List.length_map]
  cases r with
  | th d m => show 2 ≤ (d :: m).length + 1; rw [List.length_cons]; omega
  | hp n => exact Nat.le_refl _
  | cl w x => show 2 ≤ (w ++ [x]).length + 1; rw [List.length_append, List.length_singleton]; omega
theorem txt_ne {r : Rw} (h : OkRw r) : r.txt ≠ ("" : Str) := fun z => by
  have e := split_txt h
  rw [z] at e
  have e2 : Txt.split ("" : Str) " " = [("" : Str)] := by decide +kernel
  rw [e2] at e
  have := words_two h
  rw [← e] at this
  exact absurd this (by decide)
theorem rowsT_txt {l : List Rw} (h : ∀ r ∈ l, OkRw r) : rowsT (txtR l) = l.map Rw.txt := by
  cases l with
  | nil => decide +kernel
  | cons r l =>
    have e := split_rows h (by intro z; cases z)
    unfold rowsT
    by_cases hz : txtR (r :: l) = ("" : Str)
    · exfalso
      unfold txtR at hz
      rw [hz] at e
      have e2 : Txt.split ("" : Str) "\n" = [("" : Str)] := by decide +kernel
      rw [e2, List.map_cons] at e
      exact txt_ne (h r List.mem_cons_self) (List.cons.inj e).1.symm
    · rw [if_neg hz]; exact e
theorem rowsT_words {l : List Rw} (h : ∀ r ∈ l, OkRw r) : (rowsT (txtR l)).map (fun t => Txt.split t " ") = l.map Rw.words := by
  rw [rowsT_txt h, List.map_map]
  exact List.map_congr_left fun r hr => split_txt (h r hr)
/-- lengths -/
theorem len_join (y : Str) : ∀ parts : List Str, (Txt.join y parts).length ≤ (parts.map (·.length)).sum + parts.length * y.length := by
  intro parts
  have gen : ∀ (S : List Nat) (l : List (List Nat)), (TL.joinL S l).length ≤ (l.map List.length).sum + l.length * S.length := by
    intro S l
    induction l with
    | nil => exact Nat.zero_le _
    | cons p l ih =>
      cases l with
      | nil => show p.length ≤ _; simp
      | cons q l =>
        show (p ++ (S ++ TL.joinL S (q :: l))).length ≤ _
        rw [List.length_append, List.length_append, List.map_cons, List.sum_cons, List.length_cons (as := q :: l), Nat.succ_mul]
        omega
  have e : (Txt.join y parts).length = (TL.tl (Txt.join y parts)).length := by show _ = (Txt.join y parts).cps.toList.length; rw [Array.length_toList]; rfl
  have e2 : (parts.map TL.tl).map List.length = parts.map (·.length) := by
    rw [List.map_map]
    exact List.map_congr_left fun p _ => by show p.cps.toList.length = _; rw [Array.length_toList]; rfl
  have e3 : (TL.tl y).length = y.length := by show y.cps.toList.length = _; rw [Array.length_toList]; rfl
  have := gen (TL.tl y) (parts.map TL.tl)
  rw [e2, e3, List.length_map] at this
  rw [e, TL.join_eq, TL.tl_join]
  exact this
theorem len_txt {r : Rw} (h : OkRw r) : r.txt.length ≤ 30 := by
  have h5 : r.words.length ≤ 5 := by
    unfold Rw.words
    rw [List.length_cons, List.length_map]
    cases r with
    | th d m => show (d :: m).length + 1 ≤ 5; rw [List.length_cons, h.2.2.1]; decide
    | hp n => show 1 + 1 ≤ 5; decide
    | cl w x => show (w ++ [x]).length + 1 ≤ 5; rw [List.length_append, h.1.1]; show 3 + 1 + 1 ≤ 5; decide
  have h6 : (r.words.map (·.length)).sum ≤ 6 + r.nums.length * 2 := by
    unfold Rw.words
    rw [List.map_cons, List.sum_cons, List.map_map]
    have w6 : r.word.length ≤ 6 := by
      cases r
      · show (("thing" : Str)).length ≤ 6; decide +kernel
      · show (("helper" : Str)).length ≤ 6; decide +kernel
      · show (("claim" : Str)).length ≤ 6; decide +kernel
    have gen : ∀ l : List Int, (∀ i ∈ l, -1 ≤ i ∧ i ≤ 9) → (l.map ((·.length) ∘ nS)).sum ≤ l.length * 2 := by
      intro l
      induction l with
      | nil => intro _; exact Nat.le_refl _
      | cons i l ih =>
        intro hl
        have := ih fun j hj => hl j (List.mem_cons_of_mem _ hj)
        have h2 := (nS_ok (hl i List.mem_cons_self).1 (hl i List.mem_cons_self).2).2.2.1
        rw [List.map_cons, List.sum_cons, List.length_cons, Nat.succ_mul]
        show (nS i).length + _ ≤ _
        omega
    have := gen r.nums h.rng
    omega
  have h4 : r.nums.length ≤ 4 := by
    unfold Rw.words at h5
    rw [List.length_cons, List.length_map] at h5
    omega
  have := len_join " " r.words
  have e1 : ((" " : Str)).length = 1 := by decide +kernel
  rw [e1] at this
  unfold Rw.txt
  omega
end DM

namespace DM
open PySem PySem.Spec PyProof.Rows L2
/-! ### rows as all_within tells them -/
def depR (p : List Int × List Int) : Int × List Int := ((p.1.length : Int) - 1, p.2)
mutual
theorem within_rows : ∀ (nm : List Int) (t : Th), (within nm t).map depR = rwT ((nm.length : Int) - 1) t
  | nm, .mk m xs => by
    show depR (nm, m) :: (withins nm 0 xs).map depR = ((nm.length : Int) - 1, m) :: rwTs ((nm.length : Int) - 1 + 1) xs
    rw [withins_rows nm 0 xs, show (nm.length : Int) - 1 + 1 = (nm.length : Int) by omega]
    rfl
theorem withins_rows : ∀ (nm : List Int) (k : Nat) (xs : List Th), (withins nm k xs).map depR = rwTs (nm.length : Int) xs
  | nm, k, [] => rfl
  | nm, k, x :: xs => by
    show ((within (nm ++ [(k : Int)]) x) ++ withins nm (k + 1) xs).map depR = rwT (nm.length : Int) x ++ rwTs (nm.length : Int) xs
    rw [List.map_append, within_rows (nm ++ [(k : Int)]) x, withins_rows nm (k + 1) xs, List.length_append, List.length_singleton]
    congr 2
    omega
end
/-- a thing's rows -/
theorem within_top (n : Int) (t : Th) : (within [n] t).map depR = rwT 0 t := within_rows [n] t
/-- numbered from 0 on -/
def num0 {α : Type} (l : List α) : List (Int × α) := l.zipIdx.map fun p => ((p.2 : Int), p.1)
theorem enum_things (ts : List Th) : enumD (ts.map eT) = (num0 ts).map thD := by
  apply List.ext_getElem?
  intro i
  unfold enumD num0
  rw [List.getElem?_map, List.getElem?_map, List.getElem?_map, List.getElem?_zipIdx, List.length_map]
  by_cases hi : i < ts.length
  · rw [List.getElem?_range hi, List.getElem?_eq_getElem hi]
    show some (D.tup [.int (i : Int), (ts.map eT).getD i .non]) = some (thD ((0 + i : Nat), ts[i]))
    rw [List.getD_eq_getElem?_getD, List.getElem?_map, List.getElem?_eq_getElem hi, Nat.zero_add]
    rfl
  · rw [List.getElem?_eq_none (by simp; omega), List.getElem?_eq_none (by omega : ts.length ≤ i)]
    rfl
end DM

namespace DM
open PySem PySem.Spec PyProof.Rows L2
/-! ### all rows of things and helpers, and what is read of them -/
def rowsAll (ts : List (Int × Th)) (hs : List He) : List Rw := (rwTs 0 (ts.map (·.2))).map thR ++ heRs hs
def rwoD (x : Int × List Int) : D := .tup (.str "thing" :: .int x.1 :: x.2.map D.int)
def rwDD (r : Rw) : D := .tup (.str r.word :: r.nums.map D.int)
theorem bel_rwDD (n : Nat) (r : Rw) : bel n (rwDD r) = true := by
  show (true && bel.belAll n (r.nums.map D.int)) = true
  rw [belInts]; rfl
theorem rwTs_marked : ∀ ts : List (Int × Th), rwTs 0 (ts.map (·.2)) = (markedOf ts).map depR
  | [] => rfl
  | p :: ts => by
    show rwT 0 p.2 ++ rwTs 0 (ts.map (·.2)) = (within [p.1] p.2 ++ markedOf ts).map depR
    rw [List.map_append, within_top, rwTs_marked ts]
theorem rwTs_len {ts : List (Int × Th)} (h : ∀ p ∈ ts, OkT 2 p.2) : (rwTs 0 (ts.map (·.2))).length ≤ 13 * ts.length := by
  rw [rwTs_marked, List.length_map]; exact marked_len h
theorem heR_len (x : He) : (heR x).length = 1 + x.2.1.length := by unfold heR; rw [List.length_cons, List.length_map]; omega
theorem heRs_len {hs : List He} (h : ∀ x ∈ hs, x.2.1.length ≤ 6) : (heRs hs).length ≤ 7 * hs.length := by
  induction hs with
  | nil => exact Nat.le_refl _
  | cons x hs ih =>
    have := ih fun y hy => h y (List.mem_cons_of_mem _ hy)
    have h1 := h x List.mem_cons_self
    show (heR x ++ heRs hs).length ≤ 7 * (hs.length + 1)
    rw [List.length_append, heR_len]; omega
theorem rowsAll_ok {ts : List (Int × Th)} {hs : List He} (ot : OkTs ts) (oh : OkHs hs) (t60 : ts.length ≤ 60) : ∀ r ∈ rowsAll ts hs, OkRw r := by
  intro r hr
  rcases List.mem_append.mp hr with hr | hr
  · obtain ⟨x, hx, rfl⟩ := List.mem_map.mp hr
    rw [rwTs_marked] at hx
    obtain ⟨p, hp, rfl⟩ := List.mem_map.mp hx
    have := (marked_ok ot.2.2 t60).2 p hp
    show 0 ≤ (p.1.length : Int) - 1 ∧ (p.1.length : Int) - 1 ≤ 2 ∧ OkM 0 p.2
    exact ⟨by omega, by omega, this.2.2⟩
  · obtain ⟨h, hh, hr⟩ := List.mem_flatMap.mp hr
    have o := oh.2.2 h hh
    rcases List.mem_cons.mp hr with rfl | hr
    · exact o.2
    · obtain ⟨c, hc, rfl⟩ := List.mem_map.mp hr
      exact o.1.2 c hc
theorem rowsAll_len {ts : List (Int × Th)} {hs : List He} (ot : OkTs ts) (oh : OkHs hs) (t60 : ts.length ≤ 60) (h60 : hs.length ≤ 60) : (rowsAll ts hs).length ≤ 1200 := by
  have h1 := rwTs_len ot.2.2
  have h2 := heRs_len (hs := hs) fun x hx => (oh.2.2 x hx).1.1
  unfold rowsAll
  rw [List.length_append, List.length_map]
  omega
theorem sum_le {α : Type} (f : α → Nat) (b : Nat) : ∀ l : List α, (∀ x ∈ l, f x ≤ b) → (l.map f).sum ≤ l.length * b
  | [], _ => Nat.zero_le _
  | x :: l, h => by
    have h1 := h x List.mem_cons_self
    have h2 := sum_le f b l fun y hy => h y (List.mem_cons_of_mem _ hy)
    rw [List.map_cons, List.sum_cons, List.length_cons, Nat.succ_mul]
    omega
theorem txts_sum {l : List Rw} (h : ∀ r ∈ l, OkRw r) : ((l.map Rw.txt).map (·.length)).sum ≤ l.length * 30 := by
  have := sum_le (fun x : Str => x.length) 30 (l.map Rw.txt) fun x hx => by
    obtain ⟨r, hr, rfl⟩ := List.mem_map.mp hx
    exact len_txt (h r hr)
  rw [List.length_map] at this
  exact this
theorem nl_len : ("\n" : Str).length = 1 := by decide +kernel
theorem txts_fit {l : List Rw} (h : ∀ r ∈ l, OkRw r) (hl : l.length ≤ 3000) : ((l.map Rw.txt).map (·.length)).sum + (l.map Rw.txt).length * ("\n" : Str).length ≤ 93000 := by
  have := txts_sum h
  rw [List.length_map, nl_len]
  omega
theorem words_fit {r : Rw} (h : OkRw r) : ((r.words).map (·.length)).sum + r.words.length * (" " : Str).length ≤ 100 := by
  have h5 : r.words.length ≤ 5 := by
    unfold Rw.words
    rw [List.length_cons, List.length_map]
    cases r with
    | th d m => show (d :: m).length + 1 ≤ 5; rw [List.length_cons, h.2.2.1]; decide
    | hp n => show 1 + 1 ≤ 5; decide
    | cl w x => show (w ++ [x]).length + 1 ≤ 5; rw [List.length_append, h.1.1]; show 3 + 1 + 1 ≤ 5; decide
  have := sum_le (fun x : Str => x.length) 6 r.words fun x hx => by
    rcases List.mem_cons.mp hx with rfl | hx
    · cases r
      · show (("thing" : Str)).length ≤ 6; decide +kernel
      · show (("helper" : Str)).length ≤ 6; decide +kernel
      · show (("claim" : Str)).length ≤ 6; decide +kernel
    · obtain ⟨i, hi, rfl⟩ := List.mem_map.mp hx
      have := (nS_ok (h.rng i hi).1 (h.rng i hi).2).2.2.1
      omega
  have e1 : ((" " : Str)).length = 1 := by decide +kernel
  rw [e1]
  omega
theorem words_each {r : Rw} (h : OkRw r) : r.words.length ≤ 100 ∧ ∀ x ∈ r.words, x.length ≤ 100 := by
  have := words_fit h
  refine ⟨by have e1 : ((" " : Str)).length = 1 := by decide +kernel
             rw [e1] at this; omega, fun x hx => ?_⟩
  have key : ∀ l : List Str, x ∈ l → x.length ≤ (l.map (·.length)).sum := by
    intro l
    induction l with
    | nil => intro z; cases z
    | cons y l ih =>
      intro z
      rw [List.map_cons, List.sum_cons]
      rcases List.mem_cons.mp z with rfl | z
      · omega
      · have := ih z; omega
  have := key _ hx
  omega
/-- what read asks of a text -/
theorem read_ok {l : List Rw} (h : ∀ r ∈ l, OkRw r) (hl : l.length ≤ 3000) : (txtR l).length + 2 ≤ sizeLine ∧ (rowsT (txtR l)).length ≤ 80000 ∧ (∀ t ∈ rowsT (txtR l), t.length + 2 ≤ sizeLine ∧ (Txt.split t " ").length ≤ 90000 ∧ ∀ y ∈ Txt.split t " ", y.length ≤ sizeLine) := by
  have e := rowsT_txt h
  refine ⟨?_, by rw [e, List.length_map]; omega, fun t ht => ?_⟩
  · have h1 := len_join "\n" (l.map Rw.txt)
    have h2 := txts_fit h hl
    refine sz ?_
    unfold txtR
    omega
  · rw [e] at ht
    obtain ⟨r, hr, rfl⟩ := List.mem_map.mp ht
    have h1 := len_txt (h r hr)
    have h2 := words_each (h r hr)
    rw [split_txt (h r hr)]
    exact ⟨sz (by omega), by omega, fun y hy => sz (by have := h2.2 y hy; omega)⟩
theorem read_rows {ts : List (Int × Th)} {hs : List He} (ot : OkTs ts) (oh : OkHs hs) (t60 : ts.length ≤ 60) : takeAll ⟨[], []⟩ ((rowsT (txtR (rowsAll ts hs))).map fun t => Txt.split t " ") = some ⟨rwTs 0 (ts.map (·.2)), hs.map fun h => (h.2.2, h.2.1)⟩ := by
  rw [rowsT_words (rowsAll_ok ot oh t60)]
  refine take_all (rowsAll_ok ot oh t60) ?_
  have p1 := put_things (ts.map (·.2)) [] (fun t ht => by
    obtain ⟨p, hp, rfl⟩ := List.mem_map.mp ht
    exact ot.2.2 p hp) (by decide)
  have p2 := put_helpers (rwTs 0 (ts.map (·.2))) hs [] fun h hh => (oh.2.2 h hh).1.1
  rw [List.nil_append] at p1 p2
  exact putAllR_app p1 p2
theorem whoD_num {hs : List He} (h : hs.map (·.1) = (List.range hs.length).map fun k : Nat => (k : Int)) : whoD (hs.map fun h => (h.2.2, h.2.1)) = hs.map heD := by
  unfold whoD
  apply List.ext_getElem?
  intro i
  rw [List.getElem?_map, List.getElem?_map, List.length_map]
  by_cases hi : i < hs.length
  · have e : (hs.map (·.1))[i]? = ((List.range hs.length).map fun k : Nat => (k : Int))[i]? := by rw [h]
    rw [List.getElem?_map, List.getElem?_map, List.getElem?_range hi, List.getElem?_eq_getElem hi] at e
    have e : hs[i].1 = (i : Int) := Option.some.inj e
    rw [List.getElem?_range hi, List.getElem?_eq_getElem hi]
    show some (heD ((i : Int), ((hs.map fun h => (h.2.2, h.2.1)).getD i (0, [])).2, ((hs.map fun h => (h.2.2, h.2.1)).getD i (0, [])).1)) = some (heD hs[i])
    rw [List.getD_eq_getElem?_getD, List.getElem?_map, List.getElem?_eq_getElem hi, ← e]
    rfl
  · rw [List.getElem?_eq_none (by simp; omega), List.getElem?_eq_none (by omega : hs.length ≤ i)]
    rfl
theorem num0_snd {α : Type} (l : List α) : (num0 l).map (·.2) = l := by
  unfold num0
  rw [List.map_map]
  show l.zipIdx.map (fun p => p.1) = l
  rw [List.zipIdx_map_fst]
theorem num0_len {α : Type} (l : List α) : (num0 l).length = l.length := by unfold num0; rw [List.length_map, List.length_zipIdx]
theorem num0_fst {α : Type} (l : List α) : (num0 l).map (·.1) = (List.range (num0 l).length).map fun k : Nat => (k : Int) := by
  rw [num0_len]
  apply List.ext_getElem?
  intro i
  unfold num0
  rw [List.getElem?_map, List.getElem?_map, List.getElem?_map, List.getElem?_zipIdx]
  by_cases hi : i < l.length
  · rw [List.getElem?_range hi, List.getElem?_eq_getElem hi]
    show some (((0 + i : Nat)) : Int) = some (i : Int)
    rw [Nat.zero_add]
  · rw [List.getElem?_eq_none (by omega : l.length ≤ i), List.getElem?_eq_none (by rw [List.length_range]; omega : (List.range l.length).length ≤ i)]
    rfl
theorem rise_from : ∀ (n k : Nat), k + n ≤ 1000 → Rise ((k : Int) - 1) ((List.range n).map fun j : Nat => (((k + j : Nat)) : Int))
  | 0, k, _ => trivial
  | n + 1, k, h => by
    rw [List.range_succ_eq_map, List.map_cons, List.map_map]
    refine ⟨by show (k : Int) - 1 < ((k + 0 : Nat) : Int); omega, by show ((k + 0 : Nat) : Int) ≤ 999; omega, ?_⟩
    have := rise_from n (k + 1) (by omega)
    have e : ((fun j : Nat => (((k + j : Nat)) : Int)) ∘ Nat.succ) = fun j : Nat => (((k + 1 + j : Nat)) : Int) := by
      funext j
      show (((k + (j + 1) : Nat)) : Int) = _
      rw [show k + (j + 1) = k + 1 + j by omega]
    rw [e, show ((k + 0 : Nat) : Int) = ((k + 1 : Nat) : Int) - 1 by omega]
    exact this
theorem rise_range {n : Nat} (h : n ≤ 1000) : Rise (-1) ((List.range n).map fun k : Nat => (k : Int)) := by
  have := rise_from n 0 (by omega)
  have e : (fun j : Nat => (((0 + j : Nat)) : Int)) = fun j : Nat => (j : Int) := by funext j; rw [Nat.zero_add]
  rw [e] at this
  exact this
/-- all that read tells of what is written -/
theorem things_all {ts : List (Int × Th)} (h : ts.map (·.1) = (List.range ts.length).map fun k : Nat => (k : Int)) : enumD ((thingsP (rwTs 0 (ts.map (·.2)))).map eT) = ts.map thD := by
  rw [things_rows, enum_things]
  congr 1
  apply List.ext_getElem?
  intro i
  have a : ((num0 (ts.map (·.2))).map (·.1))[i]? = (ts.map (·.1))[i]? := by rw [num0_fst, num0_len, List.length_map, h]
  have b : ((num0 (ts.map (·.2))).map (·.2))[i]? = (ts.map (·.2))[i]? := by rw [num0_snd]
  rw [List.getElem?_map, List.getElem?_map] at a b
  cases e1 : (num0 (ts.map (·.2)))[i]? with
  | none =>
    rw [e1] at a
    cases e2 : ts[i]? with
    | none => rfl
    | some y => rw [e2] at a; cases a
  | some x =>
    rw [e1] at a b
    cases e2 : ts[i]? with
    | none => rw [e2] at a; cases a
    | some y =>
      rw [e2] at a b
      have a : x.1 = y.1 := Option.some.inj a
      have b : x.2 = y.2 := Option.some.inj b
      rw [show x = (x.1, x.2) from rfl, a, b]
theorem log_small {i : Int} (h0 : -1 ≤ i) (h1 : i ≤ 9) : i.natAbs.log2 < 1920 := by
  have key : ∀ n, n < 10 → Nat.log2 n < 1920 := by decide +kernel
  exact key _ (by omega)
theorem fm_strs (l : List Int) : (l.filterMap fun i => some (D.str (nS i))) = (l.map nS).map D.str := by
  rw [List.map_map]
  show List.filterMap (some ∘ fun i : Int => D.str (nS i)) _ = _
  rw [List.filterMap_eq_map]; rfl
/-! ### a row's text, word by word -/
theorem join_cons (y a b : Str) (l : List Str) : Txt.join y (a :: b :: l) = a ++ y ++ Txt.join y (b :: l) := by
  rw [TL.join_eq, TL.join_eq]
  refine TL.ext_tl ?_
  rw [TL.tl_append, TL.tl_append, TL.tl_join, TL.tl_join]
  show TL.tl a ++ (TL.tl y ++ TL.joinL (TL.tl y) ((b :: l).map TL.tl)) = _
  rw [List.append_assoc]
theorem txt_eq {w : Str} {k : Int} {l : List Int} (w2 : Str) (e : w2 = w ++ " ") : w2 ++ Txt.join " " ((k :: l).map nS) = Txt.join " " (w :: (k :: l).map nS) := by
  rw [List.map_cons, join_cons, e]
end DM

namespace DM
open PySem PySem.Spec PyProof.Rows L2
/-! ### data without texts as the laws' comparison goes through them -/
theorem okP_pu : ∀ (n : Nat) (x : D), pu n x = true → okP n (toP x) = true := by
  intro n
  induction n with
  | zero =>
    intro x h
    cases x <;> first | rfl | (simp [pu] at h; done)
  | succ m ih =>
    intro x h
    cases x with
    | tup xs =>
      obtain ⟨k, e, h1, h2⟩ := pu_tup h
      cases e
      have key : ∀ l : List D, (∀ y ∈ l, pu m y = true) → (toPs l).length = l.length ∧ (toPs l).all (okP m) = true := by
        intro l
        induction l with
        | nil => intro _; exact ⟨rfl, rfl⟩
        | cons y l ihl =>
          intro hl
          have := ihl fun z hz => hl z (List.mem_cons_of_mem _ hz)
          refine ⟨congrArg (· + 1) this.1, ?_⟩
          show (okP m (toP y) && (toPs l).all (okP m)) = true
          rw [ih y (hl y List.mem_cons_self), this.2]; rfl
      have := key xs h2
      show (decide ((toPs xs).length ≤ 100000) && (toPs xs).all (okP m)) = true
      rw [this.1, this.2, decide_eq_true h1]; rfl
    | non => rfl
    | int _ => rfl
    | _ => simp [pu] at h
theorem okP_pus {n : Nat} {xs : List D} (h : ∀ x ∈ xs, pu n x = true) (hl : xs.length ≤ 100000) : okP (n + 1) (.list (toPs xs)) = true := by
  have := okP_pu (n + 1) (.tup xs) (by
    show (decide (xs.length ≤ 100000) && xs.all (pu n)) = true
    rw [decide_eq_true hl, List.all_eq_true.mpr h]; rfl)
  exact this
theorem pu8_thD {p : Int × Th} (h : OkT 2 p.2) : pu 8 (thD p) = true := by
  show (decide (2 ≤ 100000) && (pu 7 (.int p.1) && (pu 7 (eT p.2) && true))) = true
  rw [pu_int, pu_eT h (by decide)]; rfl
theorem pu8_heD {h : He} (hc : OkCs h.2.1) : pu 8 (heD h) = true := by
  show (decide (3 ≤ 100000) && (pu 7 (.int h.1) && (pu 7 (eCs h.2.1) && (pu 7 (.int h.2.2) && true)))) = true
  rw [pu_int, pu_int, pu_eCs (n := 4) hc]; rfl
theorem CovE.dropX {n : Nat} {v v2 : Fv} {S S' : Store} (e : ∃ G, S' = S ++ G) (hn : n ≤ S.length) (b : belS S.length S) (le : lessV v2 v) (bv : belV S.length v2) : CovE n v S' v2 S := by
  obtain ⟨G, rfl⟩ := e
  exact CovE.drop hn b le bv
/-! ### a thing's rows: how many -/
mutual
theorem rwT_len (d : Int) : ∀ t : Th, (rwT d t).length = t.size
  | .mk m xs => by
    show (rwTs (d + 1) xs).length + 1 = 1 + Th.sizes xs
    rw [rwTs_lenS (d + 1) xs]; omega
theorem rwTs_lenS (d : Int) : ∀ xs : List Th, (rwTs d xs).length = Th.sizes xs
  | [] => rfl
  | x :: xs => by
    show (rwT d x ++ rwTs d xs).length = x.size + Th.sizes xs
    rw [List.length_append, rwT_len d x, rwTs_lenS d xs]
end
theorem rwTs_app (d : Int) : ∀ (a b : List Th), rwTs d (a ++ b) = rwTs d a ++ rwTs d b
  | [], b => rfl
  | x :: a, b => by
    show rwT d x ++ rwTs d (a ++ b) = rwT d x ++ rwTs d a ++ rwTs d b
    rw [rwTs_app d a b, List.append_assoc]
theorem rwTs_snoc (d : Int) (a : List Th) (x : Th) : rwTs d (a ++ [x]) = rwTs d a ++ rwT d x := by
  rw [rwTs_app]
  show _ ++ (rwT d x ++ []) = _
  rw [List.append_nil]
theorem sizes_two {n : Nat} {t : Th} (h : OkT n t) (hn : n ≤ 2) : t.size ≤ 13 := by
  have := size_le h
  have : bnd n ≤ 13 := by
    match n, hn with
    | 0, _ => decide
    | 1, _ => decide
    | 2, _ => decide
  omega
/-! ### rows as texts -/
def tD (r : Rw) : D := .str r.txt
theorem bel_tD (n : Nat) (r : Rw) : bel n (tD r) = true := rfl
theorem tDs (l : List Rw) : l.map tD = (l.map Rw.txt).map D.str := by rw [List.map_map]; rfl
theorem txt_th (d : Int) (m : List Int) : ("thing " : Str) ++ Txt.join " " (nS d :: m.map nS) = (thR (d, m)).txt := txt_eq (w := "thing") (k := d) (l := m) _ (by decide +kernel)
theorem join_one (y a : Str) : Txt.join y [a] = a := by
  rw [TL.join_eq]
  refine TL.ext_tl ?_
  rw [TL.tl_join]; rfl
theorem txt_hp (r : Int) : ("helper " : Str) ++ nS r = (Rw.hp r).txt := by
  have := txt_eq (w := "helper") (k := r) (l := []) ("helper " : Str) (by decide +kernel)
  rw [List.map_singleton, join_one] at this
  exact this
theorem txt_cl {w : List Int} {x : Int} : ("claim " : Str) ++ Txt.join " " ((w ++ [x]).map nS) = (Rw.cl w x).txt := by
  cases w with
  | nil => exact txt_eq (w := "claim") (k := x) (l := []) _ (by decide +kernel)
  | cons a w => exact txt_eq (w := "claim") (k := a) (l := w ++ [x]) _ (by decide +kernel)
/-! ### signs that there are -/
def smS (x : Str) : Prop := ∀ c ∈ TL.tl x, c < 0x110000
theorem sm_ok {x : Str} (h : smS x) : PyData.strOk x = true := by
  show x.cps.all (fun c => decide (c < 0x110000)) = true
  rw [← Array.all_toList, List.all_eq_true]
  intro c hc
  exact decide_eq_true (h c hc)
theorem sm_join {y : Str} (hy : smS y) {l : List Str} (h : ∀ x ∈ l, smS x) : smS (Txt.join y l) := by
  unfold smS
  rw [TL.join_eq, TL.tl_join]
  have key : ∀ l : List (List Nat), (∀ p ∈ l, ∀ c ∈ p, c < 0x110000) → ∀ c ∈ TL.joinL (TL.tl y) l, c < 0x110000 := by
    intro l
    induction l with
    | nil => intro _ c z; cases z
    | cons p l ih =>
      intro hp c hc
      cases l with
      | nil => exact hp p List.mem_cons_self c hc
      | cons q l =>
        have hc : c ∈ p ++ (TL.tl y ++ TL.joinL (TL.tl y) (q :: l)) := hc
        rcases List.mem_append.mp hc with z | z
        · exact hp p List.mem_cons_self c z
        · rcases List.mem_append.mp z with z | z
          · exact hy c z
          · exact ih (fun p' hp' => hp p' (List.mem_cons_of_mem _ hp')) c z
  refine key _ fun p hp => ?_
  obtain ⟨x, hx, rfl⟩ := List.mem_map.mp hp
  exact h x hx
theorem sm_word (r : Rw) : smS r.word := by
  cases r
  · show smS "thing"; unfold smS; decide +kernel
  · show smS "helper"; unfold smS; decide +kernel
  · show smS "claim"; unfold smS; decide +kernel
theorem sm_nS {i : Int} (h0 : -1 ≤ i) (h1 : i ≤ 9) : smS (nS i) := by
  have key : ∀ k : Nat, k < 11 → ∀ c ∈ TL.tl (nS ((k : Int) - 1)), c < 0x110000 := by decide +kernel
  have := key (i + 1).toNat (by omega)
  have e : (((i + 1).toNat : Nat) : Int) - 1 = i := by omega
  rw [e] at this
  exact this
theorem sm_txtR {l : List Rw} (h : ∀ r ∈ l, OkRw r) : smS (txtR l) := by
  refine sm_join (by unfold smS; decide +kernel) fun x hx => ?_
  obtain ⟨r, hr, rfl⟩ := List.mem_map.mp hx
  refine sm_join (by unfold smS; decide +kernel) fun x hx => ?_
  rcases List.mem_cons.mp hx with rfl | hx
  · exact sm_word r
  · obtain ⟨i, hi, rfl⟩ := List.mem_map.mp hx
    have := (h r hr).rng i hi
    exact sm_nS this.1 this.2
theorem okP_str {n : Nat} {x : Str} (h : smS x) : okP n (.str x) = true := by
  have : SeqAt.shaped (.str x) = true := shaped_of (show (PyData.str x).canLay0 = true from sm_ok h) (by show 0 ≤ 64; decide)
  cases n <;> exact this
end DM

set_option maxHeartbeats 0
namespace DM
open PySem PySem.Spec PyProof.Rows L2
/-! ### the text by places (printed by gen.py) -/
def top (i : Nat) : Stmt := PySem.Challenge.pw_drivermatch_k13_written_and_read.main.body.getD i (.Pass ⟨0, 0, 0, 0⟩)
abbrev s_is_number : Stmt := top 15
abbrev s_are_marks : Stmt := top 16
abbrev s_need_thing : Stmt := top 17
abbrev s_is_claim : Stmt := top 18
abbrev s_need_claims : Stmt := top 19
abbrev s_need_room : Stmt := top 20
abbrev s_need_numbers : Stmt := top 21
abbrev s_need_both : Stmt := top 22
abbrev s_all_within : Stmt := top 23
abbrev s_written : Stmt := top 26
abbrev s_numbers_of : Stmt := top 27
abbrev s_Reader___init__ : Stmt := inClass (top 28) 0
abbrev s_Reader_takes : Stmt := inClass (top 28) 1
abbrev s_Reader_thing : Stmt := inClass (top 28) 2
abbrev s_Reader_things : Stmt := inClass (top 28) 3
abbrev s_read : Stmt := top 29
abbrev s__law_mix : Stmt := top 31
abbrev s__law_next : Stmt := top 32
abbrev s__law_alike : Stmt := top 33
abbrev s__law_marks : Stmt := top 34
abbrev s__law_thing : Stmt := top 35
abbrev s__law_claims : Stmt := top 36
abbrev s__law_rows : Stmt := top 37
abbrev s_law : Stmt := top 38

/-! ### words: numbers, marks, claims -/
section
variable {P : Program} {w : World} {K : PySem.W.Frag} {mg : Str → Option Value} {base : Heap} {f : Addr}
abbrev N_is_number : List Str := ["part", "low", "high"]
theorem sc_is_number : FnScope N_is_number ["part", "low", "high"] (defScope s_is_number) := ⟨rfl, rfl, rfl, by decide +kernel, rfl, by decide +kernel, by decide +kernel⟩
theorem bd_is_number : BindOk "is_number" "is_number" s_is_number ["part", "low", "high"] := fun _ _ _ _ _ _ us hl => match us, hl with | [_, _, _], _ => rfl
def sp_is_number : SpD := fun ds S Q => ∃ x lo hi, ds = [x, .int lo, .int hi] ∧ kn x = true ∧ Q (.bl (numOk x lo hi)) S
abbrev C_is_number (P : Program) (w : World) (K : PySem.W.Frag) (mg : Str → Option Value) (base : Heap) : Prop := Cal P w K mg base "is_number" 1 ["part", "low", "high"] sp_is_number
theorem c_is_number (B : Bt mg) (df : Df K "is_number" "is_number" s_is_number f) (hm : mg "is_number" = some (.ref f)) : C_is_number P w K mg base := by
  refine calD df hm sc_is_number bd_is_number (fun ds S Q ⟨x, lo, hi, e, _⟩ => by rw [e]; rfl) ?_
  rintro cdv A outer s H E ds S Q hr bS bD ⟨x, lo, hi, rfl, hx, q⟩
  have ty := kn_ty hx S
  refine WSs.one (WS.ret (WE.and (WE.callB (WA.cons (WE.var 0 rfl (WA.cons (WE.bty B.int boot_int (WA.nil ?_))))) B.isinstance boot_isinstance)))
  cases x with
  | int i =>
    refine CW.isi ty kit_int_int ⟨true, rfl, fun _ => ?_, fun z => (by cases z)⟩
    refine WE.and (WE.not (WE.callB (WA.cons (WE.var 0 rfl (WA.cons (WE.bty B.bool boot_bool (WA.nil (CW.isi ty kit_int_bool ⟨_, rfl, ⟨true, rfl, fun _ => ?_, fun z => (by cases z)⟩⟩)))))) B.isinstance boot_isinstance))
    refine WE.one (WE.chain (WE.var 1 rfl (WE.var 0 rfl (BW.le ⟨_, rfl, fun h1 => (WE.var 2 rfl (BW.le (WkD.same ?_))), fun h1 => WkD.same ?_⟩))))
    · have : numOk (.int i) lo hi = decide (i ≤ hi) := by show (decide (lo ≤ i) && decide (i ≤ hi)) = _; rw [h1]; rfl
      rw [← this]; exact q
    · have : numOk (.int i) lo hi = false := by show (decide (lo ≤ i) && decide (i ≤ hi)) = _; rw [h1]; rfl
      rw [← this]; exact q
  | bl b =>
    refine CW.isi ty kit_bl_int ⟨true, rfl, fun _ => ?_, fun z => (by cases z)⟩
    exact WE.and (WE.not (WE.callB (WA.cons (WE.var 0 rfl (WA.cons (WE.bty B.bool boot_bool (WA.nil (CW.isi ty kit_bl_bool ⟨_, rfl, ⟨false, rfl, fun z => (by cases z), fun _ => WkD.same q⟩⟩)))))) B.isinstance boot_isinstance))
  | non => exact CW.isi ty kit_non_int ⟨false, rfl, fun z => (by cases z), fun _ => WkD.same q⟩
  | str b => exact CW.isi ty kit_str_int ⟨false, rfl, fun z => (by cases z), fun _ => WkD.same q⟩
  | tup b => exact CW.isi ty kit_tup_int ⟨false, rfl, fun z => (by cases z), fun _ => WkD.same q⟩
  | ty _ => cases hx
  | ref _ => cases hx
  | loc _ => cases hx
  | scr _ => cases hx
abbrev N_are_marks : List Str := ["marks", "least", "mark"]
theorem sc_are_marks : FnScope N_are_marks ["marks", "least"] (defScope s_are_marks) := ⟨rfl, rfl, rfl, by decide +kernel, rfl, by decide +kernel, by decide +kernel⟩
theorem bd_are_marks : BindOk "are_marks" "are_marks" s_are_marks ["marks", "least"] := fun _ _ _ _ _ _ us hl => match us, hl with | [_, _], _ => rfl
def sp_are_marks : SpD := fun ds S Q => ∃ x least, ds = [x, .int least] ∧ pu 20 x = true ∧ Q (.bl (marksOk x least)) S
abbrev C_are_marks (P : Program) (w : World) (K : PySem.W.Frag) (mg : Str → Option Value) (base : Heap) : Prop := Cal P w K mg base "are_marks" 2 ["marks", "least"] sp_are_marks
theorem c_are_marks (B : Bt mg) (c_MARKS : ∃ tk, mg "MARKS" = some (.int 3 tk)) (c_MOST_MARK : ∃ tk, mg "MOST_MARK" = some (.int 9 tk)) (G_is_number : C_is_number P w K mg base) (df : Df K "are_marks" "are_marks" s_are_marks f) (hm : mg "are_marks" = some (.ref f)) : C_are_marks P w K mg base := by
  obtain ⟨t1, c_MARKS⟩ := c_MARKS
  obtain ⟨t2, c_MOST_MARK⟩ := c_MOST_MARK
  refine calD df hm sc_are_marks bd_are_marks (fun ds S Q ⟨x, lo, e, _⟩ => by rw [e]; rfl) ?_
  rintro cdv A outer s H E ds S Q hr bS bD ⟨x, least, rfl, hx, q⟩
  have ty := kn_ty (pu_kn hx) S
  refine WSs.cons (WS.ite (WT.bool (WP.or (WT.not (WT.val (WE.callB (WA.cons (WE.var 0 rfl (WA.cons (WE.bty B.tuple boot_tuple (WA.nil ?_))))) B.isinstance boot_isinstance))))))
  have no : ∀ v : Fv, v = v → marksOk x least = false → WkD S.length (.bl false) S Q := fun v _ e => WkD.same (by rw [← e]; exact q)
  cases x with
  | tup xs =>
    obtain ⟨m, _, hlen, hk⟩ := pu_tup hx
    refine CW.isi ty kit_tup_tuple ⟨true, rfl, fun z => (by cases z), fun _ => WP.or1 (WT.cmp (WE.callB (WA.cons (WE.var 0 rfl (WA.nil (CW.lenT (WE.globI c_MARKS (BW.neI ⟨_, rfl, ⟨fun h1 => ?_, fun h1 => ?_⟩⟩)))))) B.len PySem.boot_len))⟩
    · refine WSs.one (WS.ret (WE.bl (no [] rfl ?_)))
      show (decide (xs.length = 3) && _) = false
      have h3 : ¬ xs.length = 3 := fun z => by simp [z] at h1
      rw [decide_eq_false h3]; rfl
    · have h3 : xs.length = 3 := by
        have : (xs.length : Int) = 3 := by simpa using h1
        omega
      refine WSs.nil ?_
      refine WSs.one (WS.ret (WE.cmp (WE.lcN 2 [("mark", 2)] (WI.tup (WE.var 0 rfl ⟨xs, rfl, ?_⟩)) (by decide) rfl sc_are_marks.nd (blkOk_by (N := N_are_marks) (sc := defScope s_are_marks) (by decide +kernel))
        (fun Y hY => by obtain ⟨_, _, _, _, _, rfl⟩ := hY; exact pg_name sc_are_marks.nd rfl (Or.inl rfl)))))
      refine lc_pure (fun y => if numOk y least 9 then none else some y) bS (by show xs.length ≤ 100000; exact hlen) (fun _ => trivial) ?_ ?_
      · intro i d acc hd
        have hd : xs[i]? = some d := hd
        have kd : kn d = true := pu_kn (hk d (List.mem_of_getElem? hd))
        refine ⟨_, rfl, fun Y hY => ?_⟩
        obtain ⟨_, _, _, _, _, rfl⟩ := hY
        refine (WT.not (WT.val (WE.cal G_is_number (hr.mono (by first|decide|omega)) (WA.cons (WE.var 2 rfl (WA.cons (WE.var 1 rfl (WA.cons (WE.globI c_MOST_MARK (WA.nil ⟨d, least, 9, rfl, kd, ⟨_, rfl, ⟨⟨[], by simp⟩, fun hb Z hZ => ?_, fun hb => ?_⟩⟩⟩))))))))))
        · obtain ⟨_, _, _, _, _, rfl⟩ := hZ
          have hn : numOk d least 9 = false := by simpa using hb
          exact WE.var 2 rfl ⟨⟨[], by simp⟩, bel_get (show bel.belAll S.length xs = true from (Bool.and_eq_true_iff.mp bD).1) hd, by simp [hn]⟩
        · have : numOk d least 9 = true := by simpa using hb
          simp [this]
      · refine WE.lst (WA.nil ⟨by show 0 ≤ sizeLine; exact sz (by decide), ?_⟩)
        have hf : ∀ y ∈ xs.filterMap fun y => if numOk y least 9 then none else some y, pu 60 y = true := fun y hy => by
          obtain ⟨z, hz, e⟩ := List.mem_filterMap.mp hy
          have : z = y := by
            by_cases hn : numOk z least 9 = true <;> simp [hn] at e
            exact e
          subst this
          exact pu_mono (by omega) (hk z hz)
        refine BW.eqL (xs := xs.filterMap fun y => if numOk y least 9 then none else some y) (ys := []) (by simp) (by simp) hf (fun _ h => by cases h) hr.units ?_
        refine ⟨_, S, by rw [List.append_assoc]; exact CovD.drop bS rfl, ?_⟩
        have : marksOk (.tup xs) least = decide ((xs.filterMap fun y => if numOk y least 9 then none else some y) = []) := by
          show (decide (xs.length = 3) && xs.all fun y => numOk y least 9) = _
          rw [decide_eq_true h3, Bool.true_and]
          rw [Bool.eq_iff_iff, List.all_eq_true, decide_eq_true_eq, List.filterMap_eq_nil_iff]
          exact ⟨fun h a ha => by simp [h a ha], fun h a ha => by
            have := h a ha
            by_cases hn : numOk a least 9 = true
            · exact hn
            · simp [hn] at this⟩
        rw [← this]; exact q
  | non => exact CW.isi ty kit_non_tuple ⟨false, rfl, fun _ => iT (WSs.one (WS.ret (WE.bl (no [] rfl rfl)))), fun z => (by cases z)⟩
  | bl b => exact CW.isi ty kit_bl_tuple ⟨false, rfl, fun _ => iT (WSs.one (WS.ret (WE.bl (no [] rfl rfl)))), fun z => (by cases z)⟩
  | int b => exact CW.isi ty kit_int_tuple ⟨false, rfl, fun _ => iT (WSs.one (WS.ret (WE.bl (no [] rfl rfl)))), fun z => (by cases z)⟩
  | str b => exact CW.isi ty kit_str_tuple ⟨false, rfl, fun _ => iT (WSs.one (WS.ret (WE.bl (no [] rfl rfl)))), fun z => (by cases z)⟩
  | ty _ => cases (pu_kn hx)
  | ref _ => cases (pu_kn hx)
  | loc _ => cases (pu_kn hx)
  | scr _ => cases (pu_kn hx)
end

section
variable {P : Program} {w : World} {K : PySem.W.Frag} {mg : Str → Option Value} {base : Heap} {f : Addr}
abbrev N_is_claim : List Str := ["claim"]
theorem sc_is_claim : FnScope N_is_claim ["claim"] (defScope s_is_claim) := ⟨rfl, rfl, rfl, by decide +kernel, rfl, by decide +kernel, by decide +kernel⟩
theorem bd_is_claim : BindOk "is_claim" "is_claim" s_is_claim ["claim"] := fun _ _ _ _ _ _ us hl => match us, hl with | [_], _ => rfl
def sp_is_claim : SpD := fun ds S Q => ∃ x, ds = [x] ∧ pu 20 x = true ∧ Q (.bl (claimOk x)) S
abbrev C_is_claim (P : Program) (w : World) (K : PySem.W.Frag) (mg : Str → Option Value) (base : Heap) : Prop := Cal P w K mg base "is_claim" 3 ["claim"] sp_is_claim
theorem c_is_claim (B : Bt mg) (G_is_number : C_is_number P w K mg base) (G_are_marks : C_are_marks P w K mg base) (df : Df K "is_claim" "is_claim" s_is_claim f) (hm : mg "is_claim" = some (.ref f)) : C_is_claim P w K mg base := by
  refine calD df hm sc_is_claim bd_is_claim (fun ds S Q ⟨x, e, _⟩ => by rw [e]; rfl) ?_
  rintro cdv A outer s H E ds S Q hr bS bD ⟨x, rfl, hx, q⟩
  have ty := kn_ty (pu_kn hx) S
  refine WSs.cons (WS.ite (WT.bool (WP.or (WT.not (WT.val (WE.callB (WA.cons (WE.var 0 rfl (WA.cons (WE.bty B.tuple boot_tuple (WA.nil ?_))))) B.isinstance boot_isinstance))))))
  have no : claimOk x = false → WkD S.length (.bl false) S Q := fun e => WkD.same (by rw [← e]; exact q)
  cases x with
  | tup xs =>
    obtain ⟨m, em, hlen, hk⟩ := pu_tup hx
    refine CW.isi ty kit_tup_tuple ⟨true, rfl, fun z => (by cases z), fun _ => WP.or (WT.cmp (WE.callB (WA.cons (WE.var 0 rfl (WA.nil (CW.lenT (WE.int (BW.neI ⟨_, rfl, ⟨fun h1 => iT ?_, fun h1 => ?_⟩⟩)))))) B.len PySem.boot_len))⟩
    · refine WSs.one (WS.ret (WE.bl (no ?_)))
      match xs, h1 with
      | [], _ => rfl
      | [a], _ => rfl
      | [a, b], h1 => simp at h1
      | a :: b :: c :: r, _ => rfl
    · match xs, h1, hk with
      | [], h1, _ => simp at h1
      | [a], h1, _ => simp at h1
      | a :: b :: c :: r, h1, _ => simp at h1; omega
      | [a, b], _, hk =>
        have pa := pu_mono (m := 20) (by omega) (hk a (by simp))
        have pb := pu_mono (m := 20) (by omega) (hk b (by simp))
        refine WP.or1 (WT.not (WT.val (WE.cal G_are_marks (hr.mono (by first|decide|omega)) (WA.cons (WE.ix (WE.var 0 rfl (WE.int (IW.tup rfl (WA.cons (WE.un (WE.int (UW.neg (WA.nil ⟨a, -1, rfl, pa, ⟨_, rfl, ⟨fun h2 => ?_, fun h2 => WSs.nil ?_⟩⟩⟩)))))))))))))
        · have : marksOk a (-1) = false := by simpa using h2
          exact WSs.one (WS.ret (WE.bl (no (by show (marksOk a (-1) && numOk b 0 9) = false; rw [this]; rfl))))
        · have : marksOk a (-1) = true := by simpa using h2
          refine WSs.one (WS.ret (WE.cal G_is_number (hr.mono (by first|decide|omega)) (WA.cons (WE.ix (WE.var 0 rfl (WE.int (IW.tup rfl (WA.cons (WE.int (WA.cons (WE.int (WA.nil ⟨b, 0, 9, rfl, pu_kn pb, (WkD.same ?_)⟩))))))))))))
          have e : claimOk (.tup [a, b]) = numOk b 0 9 := by show (marksOk a (-1) && numOk b 0 9) = _; rw [this]; rfl
          rw [← e]; exact q
  | non => exact CW.isi ty kit_non_tuple ⟨false, rfl, fun _ => iT (WSs.one (WS.ret (WE.bl (no rfl)))), fun z => (by cases z)⟩
  | int b => exact CW.isi ty kit_int_tuple ⟨false, rfl, fun _ => iT (WSs.one (WS.ret (WE.bl (no rfl)))), fun z => (by cases z)⟩
  | bl b => simp [pu] at hx
  | str b => simp [pu] at hx
  | ty _ => cases (pu_kn hx)
  | ref _ => cases (pu_kn hx)
  | loc _ => cases (pu_kn hx)
  | scr _ => cases (pu_kn hx)
abbrev N_need_claims : List Str := ["claims", "number"]
theorem sc_need_claims : FnScope N_need_claims ["claims"] (defScope s_need_claims) := ⟨rfl, rfl, rfl, by decide +kernel, rfl, by decide +kernel, by decide +kernel⟩
theorem bd_need_claims : BindOk "need_claims" "need_claims" s_need_claims ["claims"] := fun _ _ _ _ _ _ us hl => match us, hl with | [_], _ => rfl
def sp_need_claims : SpD := fun ds S Q => ∃ xs, ds = [.tup xs] ∧ pu 20 (.tup xs) = true ∧ xs.length ≤ 6 ∧ (∀ x ∈ xs, claimOk x = true) ∧ Q .non S
abbrev C_need_claims (P : Program) (w : World) (K : PySem.W.Frag) (mg : Str → Option Value) (base : Heap) : Prop := Cal P w K mg base "need_claims" 4 ["claims"] sp_need_claims
theorem c_need_claims (B : Bt mg) (c_MOST_CLAIMS : ∃ tk, mg "MOST_CLAIMS" = some (.int 6 tk)) (G_is_claim : C_is_claim P w K mg base) (df : Df K "need_claims" "need_claims" s_need_claims f) (hm : mg "need_claims" = some (.ref f)) : C_need_claims P w K mg base := by
  obtain ⟨t1, c_MOST_CLAIMS⟩ := c_MOST_CLAIMS
  refine calD df hm sc_need_claims bd_need_claims (fun ds S Q ⟨x, e, _⟩ => by rw [e]; rfl) ?_
  rintro cdv A outer s H E ds S Q hr bS bD ⟨xs, rfl, hx, hl, hc, q⟩
  have ty := kn_ty (pu_kn hx) S
  obtain ⟨m, em, hlen, hk⟩ := pu_tup hx
  refine WSs.cons (WS.ite (WT.not (WT.val (WE.callB (WA.cons (WE.var 0 rfl (WA.cons (WE.bty B.tuple boot_tuple (WA.nil (CW.isi ty kit_tup_tuple ⟨_, rfl, (iF (WSs.nil ?_))⟩)))))) B.isinstance boot_isinstance))))
  refine WSs.one (WS.for (WI.range1 (WA.cons (WE.callB (WA.cons (WE.var 0 rfl (WA.nil (CW.lenT (WA.nil ⟨_, rfl, by omega, by omega, ?_⟩))))) B.len PySem.boot_len)) B.range) PassesOwn.never rfl)
  refine ⟨fun i v2 S2 => S2 = S ∧ ∃ z, v2 = [some (.tup xs), z], ⟨rfl, none, rfl⟩, fun _ _ _ _ _ => trivial, ?_, ?_⟩
  · rintro i d v2 S2 hd ⟨rfl, z, rfl⟩
    obtain ⟨hi, rfl⟩ := rngD_get.mp hd
    have hi : i < xs.length := by simpa using hi
    have hxi : xs[i]? = some xs[i] := List.getElem?_eq_getElem hi
    refine WG.name 1 ?_ sc_need_claims.nd
    refine WSs.one (WS.ite (WT.bool (WP.or (WT.cmp (WE.var 1 rfl (WE.globI c_MOST_CLAIMS (BW.ge ⟨_, rfl, ⟨fun h1 => iT ?_, fun h1 => (WP.or1 (WT.not (WT.val (WE.cal G_is_claim (hr.mono (by first|decide|omega)) (WA.cons (WE.ix (WE.var 0 rfl (WE.var 1 rfl (IW.tup (d := xs[i]) (by rw [Int.zero_add]; exact atI_nat hxi) (WA.nil ⟨xs[i], rfl, pu_mono (by omega) (hk _ (List.getElem_mem hi)), ⟨_, rfl, ⟨fun h2 => ?_, fun h2 => WSs.nil (WkE.same ⟨rfl, _, rfl⟩)⟩⟩⟩))))))))))⟩⟩)))))))
    · simp at h1; omega
    · simp [hc _ (List.getElem_mem hi)] at h2
  · rintro v2 S2 ⟨rfl, _⟩
    exact WkD.same q
end

section
variable {P : Program} {w : World} {K : PySem.W.Frag} {mg : Str → Option Value} {base : Heap} {f : Addr}
abbrev N_need_room : List Str := ["room"]
theorem sc_need_room : FnScope N_need_room ["room"] (defScope s_need_room) := ⟨rfl, rfl, rfl, by decide +kernel, rfl, by decide +kernel, by decide +kernel⟩
theorem bd_need_room : BindOk "need_room" "need_room" s_need_room ["room"] := fun _ _ _ _ _ _ us hl => match us, hl with | [_], _ => rfl
def sp_need_room : SpD := fun ds S Q => ∃ i, ds = [.int i] ∧ 0 ≤ i ∧ i ≤ 4 ∧ Q .non S
abbrev C_need_room (P : Program) (w : World) (K : PySem.W.Frag) (mg : Str → Option Value) (base : Heap) : Prop := Cal P w K mg base "need_room" 2 ["room"] sp_need_room
theorem c_need_room (c_MOST_ROOM : ∃ tk, mg "MOST_ROOM" = some (.int 4 tk)) (G_is_number : C_is_number P w K mg base) (df : Df K "need_room" "need_room" s_need_room f) (hm : mg "need_room" = some (.ref f)) : C_need_room P w K mg base := by
  obtain ⟨t1, c_MOST_ROOM⟩ := c_MOST_ROOM
  refine calD df hm sc_need_room bd_need_room (fun ds S Q ⟨x, e, _⟩ => by rw [e]; rfl) ?_
  rintro cdv A outer s H E ds S Q hr bS bD ⟨i, rfl, h0, h4, q⟩
  refine WSs.one (WS.ite (WT.not (WT.val (WE.cal G_is_number (hr.mono (by first|decide|omega)) (WA.cons (WE.var 0 rfl (WA.cons (WE.int (WA.cons (WE.globI c_MOST_ROOM (WA.nil ⟨.int i, 0, 4, rfl, rfl, ⟨_, rfl, ⟨fun h => ?_, fun _ => WSs.nil (WkD.same q)⟩⟩⟩)))))))))))
  simp [numOk_e (x := i) (lo := 0) (hi := 4) ⟨h0, h4⟩] at h
abbrev N_need_numbers : List Str := ["numbers", "ahead", "number"]
theorem sc_need_numbers : FnScope N_need_numbers ["numbers"] (defScope s_need_numbers) := ⟨rfl, rfl, rfl, by decide +kernel, rfl, by decide +kernel, by decide +kernel⟩
theorem bd_need_numbers : BindOk "need_numbers" "need_numbers" s_need_numbers ["numbers"] := fun _ _ _ _ _ _ us hl => match us, hl with | [_], _ => rfl
def sp_need_numbers : SpD := fun ds S Q => ∃ l ns, ds = [.loc l] ∧ S[l]? = some (.lst (ns.map D.int)) ∧ Rise (-1) ns ∧ Q .non S
abbrev C_need_numbers (P : Program) (w : World) (K : PySem.W.Frag) (mg : Str → Option Value) (base : Heap) : Prop := Cal P w K mg base "need_numbers" 2 ["numbers"] sp_need_numbers
theorem c_need_numbers (c_MOST_NUMBER : ∃ tk, mg "MOST_NUMBER" = some (.int 999 tk)) (G_is_number : C_is_number P w K mg base) (df : Df K "need_numbers" "need_numbers" s_need_numbers f) (hm : mg "need_numbers" = some (.ref f)) : C_need_numbers P w K mg base := by
  obtain ⟨t1, c_MOST_NUMBER⟩ := c_MOST_NUMBER
  refine calD df hm sc_need_numbers bd_need_numbers (fun ds S Q ⟨x, ns, e, _⟩ => by rw [e]; rfl) ?_
  rintro cdv A outer s H E ds S Q hr bS bD ⟨l, ns, rfl, hl, hri, q⟩
  refine WSs.cons (WS.set 1 (WE.un (WE.int (UW.neg ?_))) sc_need_numbers.nd)
  refine WSs.one (WS.for (WI.list (WE.var 0 rfl ⟨l, ns.map D.int, rfl, hl, ?_⟩)) PassesOwn.never rfl)
  refine ⟨fun i v2 S2 => S2 = S ∧ ∃ a z, Rise a (ns.drop i) ∧ v2 = [some (.loc l), some (.int a), z], ⟨rfl, -1, none, hri, rfl⟩, fun _ _ _ _ h => by rw [h.1]; exact hl, ?_, ?_⟩
  · rintro i d v2 S2 hd ⟨e0, a, z, ri, rfl⟩
    subst S2
    have hd : (ns.map D.int)[i]? = some d := hd
    obtain ⟨n, hn, rfl⟩ : ∃ n, ns[i]? = some n ∧ d = .int n := by
      rw [List.getElem?_map] at hd
      cases e : ns[i]? with
      | none => rw [e] at hd; cases hd
      | some c => rw [e] at hd; exact ⟨c, rfl, (Option.some.inj hd).symm⟩
    rw [drop_get hn] at ri
    obtain ⟨r1, r2, r3⟩ := ri
    refine WG.name 2 ?_ sc_need_numbers.nd
    refine WSs.cons (WS.ite (WT.not (WT.val (WE.cal G_is_number (hr.mono (by first|decide|omega)) (WA.cons (WE.var 2 rfl (WA.cons (WE.bin (WE.var 1 rfl (WE.int (BW.add (WA.cons (WE.globI c_MOST_NUMBER (WA.nil ⟨.int n, a + 1, 999, rfl, rfl, ⟨_, rfl, ⟨fun h => ?_, fun _ => WSs.nil ?_⟩⟩⟩))))))))))))))
    · simp [numOk_e (x := n) (lo := a + 1) (hi := 999) ⟨by omega, r2⟩] at h
    · exact WSs.one (WS.set 1 (WE.var 2 rfl (WkE.same ⟨rfl, n, _, r3, rfl⟩)) sc_need_numbers.nd)
  · rintro v2 S2 ⟨rfl, a, z, _, rfl⟩
    exact WkD.same q
abbrev N_need_thing : List Str := ["thing", "left", "number", "one", "deep", "good", "inner"]
theorem sc_need_thing : FnScope N_need_thing ["thing"] (defScope s_need_thing) := ⟨rfl, rfl, rfl, by decide +kernel, rfl, by decide +kernel, by decide +kernel⟩
theorem bd_need_thing : BindOk "need_thing" "need_thing" s_need_thing ["thing"] := fun _ _ _ _ _ _ us hl => match us, hl with | [_], _ => rfl
def sp_need_thing : SpD := fun ds S Q => ∃ t, ds = [eT t] ∧ OkT 2 t ∧ Q .non S
abbrev C_need_thing (P : Program) (w : World) (K : PySem.W.Frag) (mg : Str → Option Value) (base : Heap) : Prop := Cal P w K mg base "need_thing" 3 ["thing"] sp_need_thing
def stD (p : Th × Nat) : D := .tup [eT p.1, .int (p.2 : Int)]
theorem c_need_thing (B : Bt mg) (c_MOST_INNER : ∃ tk, mg "MOST_INNER" = some (.int 3 tk)) (c_MOST_DEEP : ∃ tk, mg "MOST_DEEP" = some (.int 2 tk)) (G_are_marks : C_are_marks P w K mg base) (df : Df K "need_thing" "need_thing" s_need_thing f) (hm : mg "need_thing" = some (.ref f)) : C_need_thing P w K mg base := by
  obtain ⟨t1, c_MOST_INNER⟩ := c_MOST_INNER
  obtain ⟨t2, c_MOST_DEEP⟩ := c_MOST_DEEP
  refine calD df hm sc_need_thing bd_need_thing (fun ds S Q ⟨x, e, _⟩ => by rw [e]; rfl) ?_
  rintro cdv A outer s H E ds S Q hr bS bD ⟨t, rfl, ok, q⟩
  refine WSs.cons (WS.set 1 (WE.lst (WA.cons (WE.tup (WA.cons (WE.var 0 rfl (WA.cons (WE.int (WA.nil ⟨by show 2 ≤ sizeLine; exact sz (by decide), (WA.nil ⟨by show 1 ≤ sizeLine; exact sz (by decide), ?_⟩)⟩)))))))) sc_need_thing.nd)
  refine WSs.cons (WS.set 2 (WE.int ?_) sc_need_thing.nd)
  refine WSs.one (WS.while (fun m v2 S2 => ∃ (st : List (Th × Nat)) (j : Int) (z3 z4 z5 z6 : Option D), S2 = S ++ [.lst (st.map stD)] ∧ v2 = [some (eT t), some (.loc S.length), some (.int j), z3, z4, z5, z6] ∧ (∀ p ∈ st, p.2 ≤ 2 ∧ OkT (2 - p.2) p.1) ∧ Th.sizes (st.map (·.1)) = m ∧ m ≤ 100)
    ⟨t.size, [(t, 0)], 0, none, none, none, none, rfl, rfl, fun p hp => by rw [List.mem_singleton.mp hp]; exact ⟨Nat.zero_le _, ok⟩, by show t.size + 0 = _; omega, Nat.le_trans (size_le ok) (by decide)⟩ ?_ PassesOwn.never)
  rintro m v2 S2 ⟨st, j, z3, z4, z5, z6, e0, rfl, hst, hsz, hm100⟩
  subst S2
  have hpu : ∀ x ∈ st.map stD, pu 60 x = true := fun x hx => by
    obtain ⟨p, hp, rfl⟩ := List.mem_map.mp hx
    have h1 : pu 59 (eT p.1) = true := pu_eT (hst p hp).2 (by omega)
    show (decide (2 ≤ 100000) && (pu 59 (eT p.1) && (pu 59 (.int _) && true))) = true
    rw [h1]; rfl
  refine WT.cmp (WE.var 1 rfl (WE.lst (WA.nil ⟨by show 0 ≤ sizeLine; exact sz (by decide), ?_⟩)))
  refine BW.neL (xs := st.map stD) (ys := []) (by simp) (by simp) hpu (fun _ h => by cases h) hr.units ⟨_, rfl, fun h => ?_, fun h => ⟨.non, S, by rw [List.append_assoc]; exact CovD.drop bS rfl, q⟩⟩
  have hne : st ≠ [] := fun z => by rw [z] at h; simp at h
  obtain ⟨st', p, rfl⟩ : ∃ st' p, st = st' ++ [p] := ⟨st.dropLast, st.getLast hne, (List.dropLast_concat_getLast hne).symm⟩
  obtain ⟨⟨ms, xs⟩, dp⟩ := p
  obtain ⟨hdp, okp⟩ := hst (.mk ms xs, dp) (by simp)
  have hdp : dp ≤ 2 := hdp
  have okp : OkT (2 - dp) (.mk ms xs) := okp
  have hlx : xs.length ≤ 3 := okp.len
  have hmo : OkM 0 ms := okp.m
  have hm3 := hmo.1
  rw [List.map_append] at hsz ⊢
  rw [sizes_append] at hsz
  have hsz : Th.sizes (st'.map (·.1)) + (1 + Th.sizes xs + 0) = m := hsz
  refine WSs.cons (WS.asg (WE.bm0 PySem.F.plainAttrs_list PySem.F.slot_list_pop PySem.F.type_list_pop (WE.var 1 rfl ⟨?_, (MW.pop (xs := st'.map stD) (d := stD (.mk ms xs, dp)) (by simp) ?_)⟩)))
  · exact Or.inl ⟨rfl, (st' ++ [(Th.mk ms xs, dp)]).map stD, by simp⟩
  refine WG.tup rfl (WGs.cons (WG.name 3 (WGs.cons (WG.name 4 (WGs.nil ?_) sc_need_thing.nd)) sc_need_thing.nd)) rfl
  have es : (S ++ [Ob.lst (st'.map stD ++ [(Th.mk ms xs, dp)].map stD)] ++ [Ob.lst []]).set S.length (.lst (st'.map stD)) = S ++ [Ob.lst (st'.map stD)] ++ [Ob.lst []] := by simp
  rw [es]
  have ty : ∀ S2, tyName (eT (.mk ms xs)) S2 = some "tuple" := fun _ => rfl
  have ty2 : ∀ S2, tyName (D.tup (eTs xs)) S2 = some "tuple" := fun _ => rfl
  refine WSs.cons (WS.set 5 (WE.and (WE.callB (WA.cons (WE.var 3 rfl (WA.cons (WE.bty B.tuple boot_tuple (WA.nil (CW.isi (ty _) kit_tup_tuple ⟨_, rfl, fun h1 => (WE.and (WE.cmp (WE.callB (WA.cons (WE.var 3 rfl (WA.nil (CW.lenT (xs := [eM ms, .tup (eTs xs)]) (WE.int (BW.eqI ⟨_, rfl, fun h2 => (WE.and (WE.cal G_are_marks (hr.mono (by first|decide|omega)) (WA.cons (WE.ix (WE.var 3 rfl (WE.int (IW.tup (xs := [eM ms, .tup (eTs xs)]) (d := eM ms) rfl (WA.cons (WE.int (WA.nil ⟨eM ms, 0, rfl, pu_eM (n := 19) (by omega), ⟨_, rfl, fun h3 => (WE.one (WE.callB (WA.cons (WE.ix (WE.var 3 rfl (WE.int (IW.tup (xs := [eM ms, .tup (eTs xs)]) (d := .tup (eTs xs)) rfl (WA.cons (WE.bty B.tuple boot_tuple (WA.nil (CW.isi (ty2 _) kit_tup_tuple ?_))))))))) B.isinstance boot_isinstance)), fun h3 => ?_⟩⟩)))))))))), fun h2 => ?_⟩)))))) B.len PySem.boot_len))), fun h1 => ?_⟩)))))) B.isinstance boot_isinstance)) sc_need_thing.nd)
  all_goals first | (exfalso; simp at h1; done) | (exfalso; simp at h2; done) | (exfalso; rw [marksOk_e hmo] at h3; cases h3; done) | skip
  have lx : (eTs xs).length = xs.length := by rw [eTs_map, List.length_map]
  refine WSs.cons (WS.ite (WT.bool (WP.or (WT.not (WT.val (WE.var 5 rfl ⟨_, rfl, ⟨fun h1 => iT ?_, fun h1 => (WP.or (WT.cmp (WE.callB (WA.cons (WE.ix (WE.var 3 rfl (WE.int (IW.tup (xs := [eM ms, .tup (eTs xs)]) (d := .tup (eTs xs)) rfl (WA.nil (CW.lenT (xs := eTs xs) (WE.globI c_MOST_INNER (BW.gt ⟨_, rfl, ⟨fun h2 => iT ?_, fun h2 => (WP.or1 (WT.cmp (WE.var 4 rfl (WE.globI c_MOST_DEEP (BW.gt ⟨_, rfl, ⟨fun h => ?_, fun h => WSs.nil ?_⟩⟩)))))⟩⟩))))))))) B.len PySem.boot_len)))⟩⟩))))))
  · exfalso; simp at h1
  · exfalso; rw [lx] at h2; simp at h2; omega
  · exfalso; simp at h; omega
  have b1 : belS (S.length + 1) (S ++ [Ob.lst (st'.map stD)]) := belS_snoc (belS_mono (Nat.le_succ _) bS) (belAll_map (fun p => by show (bel _ (eT p.1) && (true && true)) = true; rw [bel_eT]; rfl) _)
  have b2 : belS (S.length + 2) (S ++ [Ob.lst (st'.map stD)] ++ [Ob.lst []]) := belS_snoc (belS_mono (Nat.le_succ _) b1) rfl
  have l2 : (S ++ [Ob.lst (st'.map stD)] ++ [Ob.lst []]).length = S.length + 2 := by simp
  refine WSs.cons (WS.expr (WE.bm PySem.F.plainAttrs_list PySem.F.slot_list_extend PySem.F.type_list_extend (WE.var 1 rfl ⟨Or.inl ⟨rfl, st'.map stD, by simp⟩, WA.cons (WE.lcN 6 [("inner", 6)] (WI.tup (WE.backT (WE.ix (WE.var 3 rfl (WE.int (IW.tup (xs := [eM ms, .tup (eTs xs)]) (d := .tup (eTs xs)) rfl (WE.un (WE.int (UW.neg ⟨eTs xs, rfl, rfl, (eTs xs).reverse, rfl, ?_⟩)))))))))
      (by decide) rfl sc_need_thing.nd (blkOk_by (N := N_need_thing) (sc := defScope s_need_thing) (by decide +kernel)) (fun Y hY => by obtain ⟨_, _, _, _, _, rfl⟩ := hY; exact pg_name sc_need_thing.nd rfl (Or.inl rfl)))⟩)))
  refine lc_pure (fun d => some (.tup [d, .int ((dp : Int) + 1)])) (by rw [l2]; exact b2) (by show (eTs xs).reverse.length ≤ 100000; rw [List.length_reverse, lx]; omega) (fun _ => trivial) ?_ ?_
  · intro i d acc hd
    have hd : (eTs xs).reverse[i]? = some d := hd
    obtain ⟨x, hx, rfl⟩ : ∃ x, x ∈ xs ∧ d = eT x := by
      have := List.mem_reverse.mp (List.mem_of_getElem? hd)
      rw [eTs_map] at this
      obtain ⟨x, h1, h2⟩ := List.mem_map.mp this
      exact ⟨x, h1, h2.symm⟩
    refine ⟨_, rfl, fun Y hY => ⟨⟨[], by simp⟩, fun _ Z hZ => ?_, fun z => (by cases z)⟩⟩
    obtain ⟨_, _, _, _, _, rfl⟩ := hZ
    refine (WE.tup (WA.cons (WE.var 6 rfl (WA.cons (WE.bin (WE.var 4 rfl (WE.int (BW.add (WA.nil ⟨by show 2 ≤ sizeLine; exact sz (by decide), ⟨⟨[], by simp⟩, ?_, rfl⟩⟩)))))))))
    show (bel _ (eT x) && (true && true)) = true
    rw [bel_eT]; rfl
  have e1 : ((eTs xs).reverse.filterMap fun d => some (D.tup [d, .int ((dp : Int) + 1)])) = (xs.reverse.map fun x => (x, dp + 1)).map stD := by
    show List.filterMap (some ∘ fun d => D.tup [d, .int ((dp : Int) + 1)]) _ = _
    rw [List.filterMap_eq_map, eTs_map, ← List.map_reverse, List.map_map, List.map_map]
    rfl
  rw [show (Src.items ⟨(eTs xs).reverse, fun _ => True⟩) = (eTs xs).reverse from rfl, e1]
  have hl3 : st'.length + xs.length ≤ 100 := by
    have := len_sizes (st'.map (·.1))
    have h2 := len_sizes xs
    rw [List.length_map] at this
    omega
  refine WA.nil (MW.extend (xs := st'.map stD) (ys := (xs.reverse.map fun x => (x, dp + 1)).map stD) (by simp) (by simp) (by simp only [List.length_map, List.length_reverse]; exact sz (by omega)) ?_)
  refine WSs.one (WS.set 2 (WE.bin (WE.var 2 rfl (WE.int (BW.add ?_)))) sc_need_thing.nd)
  have e2 : (S ++ [Ob.lst (st'.map stD)] ++ [Ob.lst []] ++ [Ob.lst ((xs.reverse.map fun x => (x, dp + 1)).map stD)]).set S.length (.lst (st'.map stD ++ (xs.reverse.map fun x => (x, dp + 1)).map stD)) = S ++ [Ob.lst ((st' ++ xs.reverse.map fun x => (x, dp + 1)).map stD)] ++ [Ob.lst [], Ob.lst ((xs.reverse.map fun x => (x, dp + 1)).map stD)] := by simp
  show WkE _ _ ((S ++ [Ob.lst (st'.map stD)] ++ [Ob.lst []] ++ [Ob.lst ((xs.reverse.map fun x => (x, dp + 1)).map stD)]).set S.length (.lst (st'.map stD ++ (xs.reverse.map fun x => (x, dp + 1)).map stD))) _
  rw [e2]
  refine ⟨_, _, CovE.drop (v2 := [some (eT t), some (.loc S.length), some (.int (j + 1)), none, none, none, none]) ?_ ?_ ?_ ?_, Th.sizes (st'.map (·.1)) + Th.sizes xs, by omega, st' ++ xs.reverse.map fun x => (x, dp + 1), j + 1, none, none, none, none, rfl, rfl, ?_, ?_, by omega⟩
  · simp
  · simp only [List.length_append, List.length_cons, List.length_nil]
    exact belS_snoc (belS_mono (Nat.le_succ _) bS) (belAll_map (fun p => by show (bel _ (eT p.1) && (true && true)) = true; rw [bel_eT]; rfl) _)
  · exact lessK (lessK (lessK (lessS (lessS (lessS (lessS lessN))))))
  · exact belY (bel_eT _ t) (belY (bel_loc (by simp)) (belY rfl (belZ (belZ (belZ (belZ belN))))))
  · intro p hp
    rcases List.mem_append.mp hp with hp | hp
    · exact hst p (by simp [hp])
    · obtain ⟨x, hx, rfl⟩ := List.mem_map.mp hp
      have hx := List.mem_reverse.mp hx
      have : dp < 2 := by
        rcases Nat.lt_or_ge dp 2 with z | z
        · exact z
        · have e : 2 - dp = 0 := by omega
          rw [e] at okp
          have : xs = [] := okp.2
          rw [this] at hx; cases hx
      obtain ⟨dd, hdd⟩ : ∃ dd, 2 - dp = dd + 1 := ⟨1 - dp, by omega⟩
      rw [hdd] at okp
      have : OkT dd x := okp.2.2 x hx
      refine ⟨by show dp + 1 ≤ 2; omega, ?_⟩
      show OkT (2 - (dp + 1)) x
      have e : 2 - (dp + 1) = dd := by omega
      rw [e]; exact this
  · rw [List.map_append, sizes_append, List.map_map]
    have : ((fun p : Th × Nat => p.1) ∘ fun x : Th => (x, dp + 1)) = id := rfl
    rw [this, List.map_id, sizes_reverse]
abbrev N_all_within : List Str := ["number", "thing", "found", "left", "name", "one", "k"]
theorem sc_all_within : FnScope N_all_within ["number", "thing"] (defScope s_all_within) := ⟨rfl, rfl, rfl, by decide +kernel, rfl, by decide +kernel, by decide +kernel⟩
theorem bd_all_within : BindOk "all_within" "all_within" s_all_within ["number", "thing"] := fun _ _ _ _ _ _ us hl => match us, hl with | [_, _], _ => rfl
def sp_all_within : SpD := fun ds S Q => ∃ n t, ds = [.int n, eT t] ∧ OkT 2 t ∧ Q (.loc S.length) (S ++ [.lst ((within [n] t).map wD)])
abbrev C_all_within (P : Program) (w : World) (K : PySem.W.Frag) (mg : Str → Option Value) (base : Heap) : Prop := Cal P w K mg base "all_within" 1 ["number", "thing"] sp_all_within
theorem c_all_within (B : Bt mg) (df : Df K "all_within" "all_within" s_all_within f) (hm : mg "all_within" = some (.ref f)) : C_all_within P w K mg base := by
  refine calD df hm sc_all_within bd_all_within (fun ds S Q ⟨n, t, e, _⟩ => by rw [e]; rfl) ?_
  rintro cdv A outer s H E ds S Q hr bS bD ⟨n, t, rfl, ok, q⟩
  have bw : ∀ (k : Nat) (ws : List (List Int × List Int)), bel.belAll k (ws.map wD) = true := fun k ws => belAll_map (fun p => by show (bel _ (eM p.1) && (bel _ (eM p.2) && true)) = true; rw [bel_eM, bel_eM]; rfl) _
  have bp : ∀ (k : Nat) (ws : List (List Int × Th)), bel.belAll k (ws.map prD) = true := fun k ws => belAll_map (fun p => by show (bel _ (eM p.1) && (bel _ (eT p.2) && true)) = true; rw [bel_eM, bel_eT]; rfl) _
  refine WSs.cons (WS.set 2 (WE.lst (WA.nil ⟨by show 0 ≤ sizeLine; exact sz (by decide), ?_⟩)) sc_all_within.nd)
  refine WSs.cons (WS.set 3 (WE.lst (WA.cons (WE.tup (WA.cons (WE.tup (WA.cons (WE.var 0 rfl (WA.nil ⟨by show 1 ≤ sizeLine; exact sz (by decide), (WA.cons (WE.var 1 rfl (WA.nil ⟨by show 2 ≤ sizeLine; exact sz (by decide), (WA.nil ⟨by show 1 ≤ sizeLine; exact sz (by decide), ?_⟩)⟩)))⟩)))))))) sc_all_within.nd)
  have e00 : S ++ [Ob.lst []] ++ [Ob.lst [D.tup [D.tup [.int n], eT t]]] = S ++ [Ob.lst [], Ob.lst [D.tup [D.tup [.int n], eT t]]] := by simp
  have e01 : (S ++ [Ob.lst []]).length = S.length + 1 := by simp
  refine WSs.cons (WS.while (fun m v2 S2 => ∃ (fs : List (List Int × List Int)) (st : List (List Int × Th)) (z4 z5 z6 : Option D), S2 = S ++ [.lst (fs.map wD), .lst (st.map prD)] ∧ v2 = [some (.int n), some (eT t), some (.loc S.length), some (.loc (S.length + 1)), z4, z5, z6] ∧ (∀ p ∈ st, 1 ≤ p.1.length ∧ p.1.length ≤ 3 ∧ OkT (3 - p.1.length) p.2) ∧ Th.sizes (st.map (·.2)) = m ∧ fs.length + m ≤ 100 ∧ fs ++ (st.reverse.flatMap fun p => within p.1 p.2) = within [n] t)
    ⟨t.size, [], [([n], t)], none, none, none, ?_, ?_, fun p hp => by rw [List.mem_singleton.mp hp]; exact ⟨Nat.le_refl 1, (by decide : 1 ≤ 3), ok⟩, by show t.size + 0 = _; omega, by have := size_le ok; have e : bnd 2 = 13 := rfl; show 0 + t.size ≤ 100; omega, by simp⟩ ?_ PassesOwn.never)
  · exact e00
  · rw [e01]
    rfl
  rintro m v2 S2 ⟨fs, st, z4, z5, z6, e0, rfl, hst, hsz, hm100, hw⟩
  subst S2
  have hpu : ∀ x ∈ st.map prD, pu 60 x = true := fun x hx => by
    obtain ⟨p, hp, rfl⟩ := List.mem_map.mp hx
    obtain ⟨g1, g2, g3⟩ := hst p hp
    have h1 : pu 59 (eT p.2) = true := pu_eT g3 (by omega)
    show (decide (2 ≤ 100000) && (pu 59 (eM p.1) && (pu 59 (eT p.2) && true))) = true
    rw [h1, pu_eM (by omega)]; rfl
  refine WT.cmp (WE.var 3 rfl (WE.lst (WA.nil ⟨by show 0 ≤ sizeLine; exact sz (by decide), ?_⟩)))
  refine BW.neL (xs := st.map prD) (ys := []) (by simp) (by simp) hpu (fun _ h => by cases h) hr.units ⟨_, rfl, fun h => ?_, fun h => ?_⟩
  · have hne : st ≠ [] := fun z => by rw [z] at h; simp at h
    obtain ⟨st', p, rfl⟩ : ∃ st' p, st = st' ++ [p] := ⟨st.dropLast, st.getLast hne, (List.dropLast_concat_getLast hne).symm⟩
    obtain ⟨nm, ms, xs⟩ := p
    obtain ⟨hn1, hn3, okp⟩ := hst (nm, .mk ms xs) (by simp)
    have hn1 : 1 ≤ nm.length := hn1
    have hn3 : nm.length ≤ 3 := hn3
    have okp : OkT (3 - nm.length) (.mk ms xs) := okp
    have hlx : xs.length ≤ 3 := okp.len
    have hnn : nm.map D.int ≠ [] := fun z => by
      have := congrArg List.length z
      rw [List.length_map, List.length_nil] at this
      omega
    rw [List.map_append, sizes_append] at hsz
    have hsz : Th.sizes (st'.map (·.2)) + (1 + Th.sizes xs + 0) = m := hsz
    refine WSs.cons (WS.asg (WE.bm0 PySem.F.plainAttrs_list PySem.F.slot_list_pop PySem.F.type_list_pop (WE.var 3 rfl ⟨?_, (MW.pop (xs := st'.map prD) (d := prD (nm, .mk ms xs)) (by simp) ?_)⟩)))
    · exact Or.inl ⟨rfl, (st' ++ [(nm, Th.mk ms xs)]).map prD, by simp⟩
    refine WG.tup rfl (WGs.cons (WG.name 4 (WGs.cons (WG.name 5 (WGs.nil ?_) sc_all_within.nd)) sc_all_within.nd)) rfl
    have es : (S ++ [Ob.lst (fs.map wD), Ob.lst ((st' ++ [(nm, Th.mk ms xs)]).map prD)] ++ [Ob.lst []]).set (S.length + 1) (.lst (st'.map prD)) = S ++ [Ob.lst (fs.map wD), Ob.lst (st'.map prD)] ++ [Ob.lst []] := by simp
    rw [es]
    have lx : (eTs xs).length = xs.length := by rw [eTs_map, List.length_map]
    refine WSs.cons (WS.expr (WE.bm PySem.F.plainAttrs_list PySem.F.slot_list_append PySem.F.type_list_append (WE.var 2 rfl ⟨?_, (WA.cons (WE.tup (WA.cons (WE.var 4 rfl (WA.cons (WE.ix (WE.var 5 rfl (WE.int (IW.tup (xs := [eM ms, .tup (eTs xs)]) (d := eM ms) rfl (WA.nil ⟨by show 2 ≤ sizeLine; exact sz (by decide), (WA.nil (MW.append (xs := fs.map wD) (by simp) (by rw [List.length_map]; exact szl (by omega)) ?_))⟩))))))))))⟩)))
    · exact Or.inl ⟨rfl, fs.map wD, by simp⟩
    have es2 : (S ++ [Ob.lst (fs.map wD), Ob.lst (st'.map prD)] ++ [Ob.lst []]).set S.length (.lst (fs.map wD ++ [.tup [eM nm, eM ms]])) = S ++ [Ob.lst ((fs ++ [(nm, ms)]).map wD), Ob.lst (st'.map prD)] ++ [Ob.lst []] := by simp [wD]
    show WSs _ _ _ _ ((S ++ [Ob.lst (fs.map wD), Ob.lst (st'.map prD)] ++ [Ob.lst []]).set S.length (.lst (fs.map wD ++ [.tup [eM nm, eM ms]]))) _
    rw [es2]
    have b1 : belS (S.length + 3) (S ++ [Ob.lst ((fs ++ [(nm, ms)]).map wD), Ob.lst (st'.map prD)] ++ [Ob.lst []]) := by
      refine belS_append (belS_append (belS_mono (by omega) bS) (belS_cons (bw _ _) (belS_cons (bp _ _) belS_nil))) (belS_cons rfl belS_nil)
    have l1 : (S ++ [Ob.lst ((fs ++ [(nm, ms)]).map wD), Ob.lst (st'.map prD)] ++ [Ob.lst []]).length = S.length + 3 := by simp
    refine WSs.one (WS.expr (WE.bm PySem.F.plainAttrs_list PySem.F.slot_list_extend PySem.F.type_list_extend (WE.var 3 rfl ⟨Or.inl ⟨rfl, st'.map prD, by simp⟩, WA.cons (WE.lcN 6 [("k", 6)] (WI.revR (WE.callB (WA.cons (WE.ix (WE.var 5 rfl (WE.int (IW.tup (xs := [eM ms, .tup (eTs xs)]) (d := .tup (eTs xs)) rfl (WA.nil (CW.lenT (xs := eTs xs) ⟨xs.length, by rw [lx], by omega, ?_⟩))))))) B.len PySem.boot_len) B.reversed B.range)
      (by decide) rfl sc_all_within.nd (blkOk_by (N := N_all_within) (sc := defScope s_all_within) (by decide +kernel)) (fun Y hY => by obtain ⟨_, _, _, _, _, rfl⟩ := hY; exact pg_name sc_all_within.nd rfl (Or.inl rfl)))⟩)))
    refine lc_pure (kidF nm xs) (by rw [l1]; exact b1) (by show (backD xs.length).length ≤ 100000; rw [backD_len]; omega) (fun _ => trivial) ?_ ?_
    · intro i d acc hd
      obtain ⟨hi, rfl⟩ := backD_get.mp hd
      obtain ⟨x, hx⟩ : ∃ x, xs[xs.length - 1 - i]? = some x := ⟨xs[xs.length - 1 - i], List.getElem?_eq_getElem (by omega)⟩
      refine ⟨_, rfl, fun Y hY => ⟨⟨[], by simp⟩, fun _ Z hZ => ?_, fun z => (by cases z)⟩⟩
      obtain ⟨_, _, _, _, _, rfl⟩ := hZ
      refine (WE.tup (WA.cons (WE.bin (WE.var 4 rfl (WE.tup (WA.cons (WE.var 6 rfl (WA.nil ⟨by show 1 ≤ sizeLine; exact sz (by decide), (BW.catT (xs := nm.map D.int) (ys := [.int ((xs.length - 1 - i : Nat) : Int)]) hnn (by rw [List.length_map]; exact sz (by show nm.length + 1 ≤ _; omega)) (WA.cons (WE.ix (WE.ix (WE.var 5 rfl (WE.int (IW.tup (xs := [eM ms, .tup (eTs xs)]) (d := .tup (eTs xs)) rfl (WE.var 6 rfl (IW.tup (xs := eTs xs) (d := eT x) (atI_nat (by rw [eTs_map, List.getElem?_map, hx]; rfl)) (WA.nil ⟨by show 2 ≤ sizeLine; exact sz (by decide), ⟨⟨[], by simp⟩, ?_, ?_⟩⟩))))))))))⟩))))))))
      · have e : D.tup (nm.map D.int ++ [.int ((xs.length - 1 - i : Nat) : Int)]) = eM (nm ++ [((xs.length - 1 - i : Nat) : Int)]) := by simp [eM]
        rw [e]
        show (bel _ (eM _) && (bel _ (eT x) && true)) = true
        rw [bel_eM, bel_eT]; rfl
      · show (xs[((xs.length - 1 - i : Nat) : Int).toNat]?).map _ = _
        rw [Int.toNat_natCast, hx]; rfl
    rw [show (Src.items ⟨backD xs.length, fun _ => True⟩) = backD xs.length from rfl, kids_back]
    have hl3 : st'.length + xs.length ≤ 100 := by
      have := len_sizes (st'.map (·.2))
      have h2 := len_sizes xs
      rw [List.length_map] at this
      omega
    refine WA.nil (MW.extend (xs := st'.map prD) (ys := (kids nm 0 xs).reverse.map prD) (by simp) (by simp) (by simp only [List.length_map, List.length_reverse, kids_len]; exact sz (by omega)) ?_)
    have e2 : (S ++ [Ob.lst ((fs ++ [(nm, ms)]).map wD), Ob.lst (st'.map prD)] ++ [Ob.lst []] ++ [Ob.lst ((kids nm 0 xs).reverse.map prD)]).set (S.length + 1) (.lst (st'.map prD ++ (kids nm 0 xs).reverse.map prD)) = S ++ [Ob.lst ((fs ++ [(nm, ms)]).map wD), Ob.lst ((st' ++ (kids nm 0 xs).reverse).map prD)] ++ [Ob.lst [], Ob.lst ((kids nm 0 xs).reverse.map prD)] := by simp
    show WkE _ _ ((S ++ [Ob.lst ((fs ++ [(nm, ms)]).map wD), Ob.lst (st'.map prD)] ++ [Ob.lst []] ++ [Ob.lst ((kids nm 0 xs).reverse.map prD)]).set (S.length + 1) (.lst (st'.map prD ++ (kids nm 0 xs).reverse.map prD))) _
    rw [e2]
    refine ⟨_, _, CovE.drop (v2 := [some (.int n), some (eT t), some (.loc S.length), some (.loc (S.length + 1)), none, none, none]) ?_ ?_ ?_ ?_, Th.sizes (st'.map (·.2)) + Th.sizes xs, by omega, fs ++ [(nm, ms)], st' ++ (kids nm 0 xs).reverse, none, none, none, rfl, rfl, ?_, ?_, ?_, ?_⟩
    · simp
    · simp only [List.length_append, List.length_cons, List.length_nil]
      exact belS_append (belS_mono (by omega) bS) (belS_cons (bw _ _) (belS_cons (bp _ _) belS_nil))
    · exact lessK (lessK (lessK (lessK (lessS (lessS (lessS lessN))))))
    · exact belY rfl (belY (bel_eT _ t) (belY (bel_loc (by simp)) (belY (bel_loc (by simp)) (belZ (belZ (belZ belN))))))
    · intro p hp
      rcases List.mem_append.mp hp with hp | hp
      · exact hst p (by simp [hp])
      · obtain ⟨k, hk⟩ := List.mem_iff_getElem?.mp (List.mem_reverse.mp hp)
        rw [kids_get] at hk
        cases hx : xs[k]? with
        | none => rw [hx] at hk; cases hk
        | some x =>
          rw [hx] at hk
          cases hk
          have hxm := List.mem_of_getElem? hx
          have h2 : nm.length < 3 := by
            rcases Nat.lt_or_ge nm.length 3 with z | z
            · exact z
            · have e : 3 - nm.length = 0 := by omega
              rw [e] at okp
              have : xs = [] := okp.2
              rw [this] at hxm; cases hxm
          obtain ⟨dd, hdd⟩ : ∃ dd, 3 - nm.length = dd + 1 := ⟨2 - nm.length, by omega⟩
          rw [hdd] at okp
          have ox : OkT dd x := okp.2.2 x hxm
          have el : (nm ++ [((0 + k : Nat) : Int)]).length = nm.length + 1 := by simp
          refine ⟨by show 1 ≤ (nm ++ [((0 + k : Nat) : Int)]).length; omega, by show (nm ++ [((0 + k : Nat) : Int)]).length ≤ 3; omega, ?_⟩
          show OkT (3 - (nm ++ [((0 + k : Nat) : Int)]).length) x
          have e : 3 - (nm ++ [((0 + k : Nat) : Int)]).length = dd := by omega
          rw [e]; exact ox
    · rw [List.map_append, sizes_append, List.map_reverse, sizes_reverse, kids_snd]
    · rw [List.length_append]; show fs.length + 1 + _ ≤ _; omega
    · rw [← hw]
      simp [within_eq nm (.mk ms xs), Th.m, Th.xs]
  · have hnil : st = [] := by
      cases st with
      | nil => rfl
      | cons a b => simp at h
    subst hnil
    have hf : fs = within [n] t := by simpa using hw
    subst hf
    refine WSs.one (WS.ret (WE.var 2 rfl ?_))
    have := CovD.one (S := S) (G := [.lst ((within [n] t).map wD), .lst [], .lst []]) (k := S.length) (o := .lst ((within [n] t).map wD)) bS (Nat.le_refl _) (by simp) (bw _ _)
    exact ⟨_, _, by simpa using this, q⟩
end

section
variable {P : Program} {w : World} {K : PySem.W.Frag} {mg : Str → Option Value} {base : Heap} {f : Addr}
abbrev N_need_both : List Str := ["things", "helpers", "number", "thing", "claims", "room", "one"]
theorem sc_need_both : FnScope N_need_both ["things", "helpers"] (defScope s_need_both) := ⟨rfl, rfl, rfl, by decide +kernel, rfl, by decide +kernel, by decide +kernel⟩
theorem bd_need_both : BindOk "need_both" "need_both" s_need_both ["things", "helpers"] := fun _ _ _ _ _ _ us hl => match us, hl with | [_, _], _ => rfl
def sp_need_both : SpD := fun ds S Q => ∃ l1 l2 ts hs, ds = [.loc l1, .loc l2] ∧ S[l1]? = some (.lst (ts.map thD)) ∧ S[l2]? = some (.lst (hs.map heD)) ∧ OkTs ts ∧ OkHs hs ∧ Q .non S
abbrev C_need_both (P : Program) (w : World) (K : PySem.W.Frag) (mg : Str → Option Value) (base : Heap) : Prop := Cal P w K mg base "need_both" 5 ["things", "helpers"] sp_need_both
theorem c_need_both (B : Bt mg) (G_need_numbers : C_need_numbers P w K mg base) (G_need_thing : C_need_thing P w K mg base) (G_need_claims : C_need_claims P w K mg base) (G_need_room : C_need_room P w K mg base) (df : Df K "need_both" "need_both" s_need_both f) (hm : mg "need_both" = some (.ref f)) : C_need_both P w K mg base := by
  refine calD df hm sc_need_both bd_need_both (fun ds S Q ⟨l1, l2, ts, hs, e, _⟩ => by rw [e]; rfl) ?_
  rintro cdv A outer s H E ds S Q hr bS bD ⟨l1, l2, ts, hs, rfl, hl1, hl2, ot, oh, q⟩
  have lt1 := (List.getElem?_eq_some_iff.mp hl1).1
  have lt2 := (List.getElem?_eq_some_iff.mp hl2).1
  refine WSs.cons (WS.expr (WE.cal G_need_numbers (hr.mono (by decide)) (WA.cons (WE.lcN 6 [("one", 6)] (WI.list (WE.var 0 rfl ⟨l1, ts.map thD, rfl, hl1, ?_⟩)) (by decide) rfl sc_need_both.nd (blkOk_by (N := N_need_both) (sc := defScope s_need_both) (by decide +kernel)) (fun Y hY => by obtain ⟨_, _, _, _, _, rfl⟩ := hY; exact pg_name sc_need_both.nd rfl (Or.inl rfl))))))
  refine lc_pure fstD bS (by show (ts.map thD).length ≤ 100000; rw [List.length_map]; have := ot.1; omega) (fun acc => get_app hl1) ?_ ?_
  · intro i d acc hd
    have hd : (ts.map thD)[i]? = some d := hd
    obtain ⟨x, hx, rfl⟩ := List.mem_map.mp (List.mem_of_getElem? hd)
    refine ⟨_, rfl, fun Y hY => ⟨⟨[], by simp⟩, fun _ Z hZ => ?_, fun z => (by cases z)⟩⟩
    obtain ⟨_, _, _, _, _, rfl⟩ := hZ
    exact (WE.ix (WE.var 6 rfl (WE.int (IW.tup (xs := [.int x.1, eT x.2]) (d := .int x.1) rfl ⟨⟨[], by simp⟩, rfl, rfl⟩))))
  have e1 : (ts.map thD).filterMap fstD = (ts.map (·.1)).map D.int := by
    rw [List.filterMap_map, List.map_map]; exact List.filterMap_eq_map ▸ rfl
  rw [show (Src.items ⟨ts.map thD, fun S2 => S2[l1]? = some (.lst (ts.map thD))⟩) = ts.map thD from rfl, e1]
  refine WA.nil ⟨S.length, ts.map (·.1), rfl, by simp, ot.2.1, ?_⟩
  refine WSs.cons (WS.for (WI.list (WE.var 0 rfl ⟨l1, ts.map thD, rfl, get_app hl1, ?_⟩)) PassesOwn.never rfl)
  refine ⟨fun i v2 S2 => S2 = S ++ [.lst ((ts.map (·.1)).map D.int)] ∧ ∃ z2 z3, v2 = [some (.loc l1), some (.loc l2), z2, z3, none, none, none], ⟨rfl, none, none, rfl⟩, fun _ _ _ _ h => by rw [h.1]; exact get_app hl1, ?_, ?_⟩
  · rintro i d v2 S2 hd ⟨e0, z2, z3, rfl⟩
    subst S2
    have hd : (ts.map thD)[i]? = some d := hd
    obtain ⟨x, hx, rfl⟩ := List.mem_map.mp (List.mem_of_getElem? hd)
    refine WG.tup rfl (WGs.cons (WG.name 2 (WGs.cons (WG.name 3 (WGs.nil ?_) sc_need_both.nd)) sc_need_both.nd)) rfl
    exact WSs.one (WS.expr (WE.cal G_need_thing (hr.mono (by first|decide|omega)) (WA.cons (WE.var 3 rfl (WA.nil ⟨x.2, rfl, ot.2.2 x hx, (WkE.same ⟨rfl, _, _, rfl⟩)⟩)))))
  rintro v2 S2 ⟨rfl, z2, z3, rfl⟩
  refine WSs.cons (WS.expr (WE.cal G_need_numbers (hr.mono (by decide)) (WA.cons (WE.lcN 6 [("one", 6)] (WI.list (WE.var 1 rfl ⟨l2, hs.map heD, rfl, get_app hl2, ?_⟩)) (by decide) rfl sc_need_both.nd (blkOk_by (N := N_need_both) (sc := defScope s_need_both) (by decide +kernel)) (fun Y hY => by obtain ⟨_, _, _, _, _, rfl⟩ := hY; exact pg_name sc_need_both.nd rfl (Or.inl rfl))))))
  have b1 : belS (S ++ [Ob.lst ((ts.map (·.1)).map D.int)]).length (S ++ [Ob.lst ((ts.map (·.1)).map D.int)]) := by
    rw [List.length_append]; exact belS_snoc (belS_mono (Nat.le_succ _) bS) (belInts _)
  refine lc_pure fstD b1 (by show (hs.map heD).length ≤ 100000; rw [List.length_map]; have := oh.1; omega) (fun acc => get_app (get_app hl2)) ?_ ?_
  · intro i d acc hd
    have hd : (hs.map heD)[i]? = some d := hd
    obtain ⟨x, hx, rfl⟩ := List.mem_map.mp (List.mem_of_getElem? hd)
    refine ⟨_, rfl, fun Y hY => ⟨⟨[], by simp⟩, fun _ Z hZ => ?_, fun z => (by cases z)⟩⟩
    obtain ⟨_, _, _, _, _, rfl⟩ := hZ
    exact (WE.ix (WE.var 6 rfl (WE.int (IW.tup (xs := [.int x.1, eCs x.2.1, .int x.2.2]) (d := .int x.1) rfl ⟨⟨[], by simp⟩, rfl, rfl⟩))))
  have e2 : (hs.map heD).filterMap fstD = (hs.map (·.1)).map D.int := by
    rw [List.filterMap_map, List.map_map]; exact List.filterMap_eq_map ▸ rfl
  rw [show (Src.items ⟨hs.map heD, fun S2 => S2[l2]? = some (.lst (hs.map heD))⟩) = hs.map heD from rfl, e2]
  refine WA.nil ⟨(S ++ [Ob.lst ((ts.map (·.1)).map D.int)]).length, hs.map (·.1), rfl, by simp, oh.2.1, ?_⟩
  refine WSs.one (WS.for (WI.list (WE.var 1 rfl ⟨l2, hs.map heD, rfl, get_app (get_app hl2), ?_⟩)) PassesOwn.never rfl)
  refine ⟨fun i v2 S2 => S2 = S ++ [.lst ((ts.map (·.1)).map D.int)] ++ [.lst ((hs.map (·.1)).map D.int)] ∧ ∃ z2 z4 z5, v2 = [some (.loc l1), some (.loc l2), z2, z3, z4, z5, none], ⟨rfl, z2, none, none, rfl⟩, fun _ _ _ _ h => by rw [h.1]; exact get_app (get_app hl2), ?_, ?_⟩
  · rintro i d v2 S2 hd ⟨e0, z2, z4, z5, rfl⟩
    subst S2
    have hd : (hs.map heD)[i]? = some d := hd
    obtain ⟨x, hx, rfl⟩ := List.mem_map.mp (List.mem_of_getElem? hd)
    obtain ⟨o1, o2, o3⟩ := oh.2.2 x hx
    refine WG.tup rfl (WGs.cons (WG.name 2 (WGs.cons (WG.name 4 (WGs.cons (WG.name 5 (WGs.nil ?_) sc_need_both.nd)) sc_need_both.nd)) sc_need_both.nd)) rfl
    refine WSs.cons (WS.expr (WE.cal G_need_claims (hr.mono (by first|decide|omega)) (WA.cons (WE.var 4 rfl (WA.nil ⟨x.2.1.map eC, rfl, pu_eCs (n := 17) o1, by rw [List.length_map]; exact o1.1, fun y hy => by obtain ⟨c, hc, rfl⟩ := List.mem_map.mp hy; exact claimOk_e (o1.2 c hc), ?_⟩)))))
    exact WSs.one (WS.expr (WE.cal G_need_room (hr.mono (by first|decide|omega)) (WA.cons (WE.var 5 rfl (WA.nil ⟨x.2.2, rfl, o2, o3, (WkE.same ⟨rfl, _, _, _, rfl⟩)⟩)))))
  · rintro v2 S2 ⟨rfl, z2, z4, z5, rfl⟩
    exact ⟨.non, S, by rw [List.append_assoc]; exact CovD.drop bS rfl, q⟩
end

section
variable {P : Program} {w : World} {K : PySem.W.Frag} {mg : Str → Option Value} {base : Heap} {f : Addr}
abbrev N_numbers_of : List Str := ["words", "least", "found", "word"]
theorem sc_numbers_of : FnScope N_numbers_of ["words", "least"] (defScope s_numbers_of) := ⟨rfl, rfl, rfl, by decide +kernel, rfl, by decide +kernel, by decide +kernel⟩
theorem bd_numbers_of : BindOk "numbers_of" "numbers_of" s_numbers_of ["words", "least"] := fun _ _ _ _ _ _ us hl => match us, hl with | [_, _], _ => rfl
def sp_numbers_of : SpD := fun ds S Q => ∃ l least ws, ds = [.loc l, .int least] ∧ S[l]? = some (.lst (ws.map D.str)) ∧ (∀ x ∈ ws, x.length ≤ sizeLine) ∧ ws.length ≤ 90000 ∧ (numsW least ws = none → Q .non S) ∧ (∀ ns, numsW least ws = some ns → Q (.loc S.length) (S ++ [.lst (ns.map D.int)]))
abbrev C_numbers_of (P : Program) (w : World) (K : PySem.W.Frag) (mg : Str → Option Value) (base : Heap) : Prop := Cal P w K mg base "numbers_of" 1 ["words", "least"] sp_numbers_of
theorem c_numbers_of (B : Bt mg) (c_FIGURES : ∃ tk, mg "FIGURES" = some (.str "0123456789" tk)) (df : Df K "numbers_of" "numbers_of" s_numbers_of f) (hm : mg "numbers_of" = some (.ref f)) : C_numbers_of P w K mg base := by
  obtain ⟨t1, c_FIGURES⟩ := c_FIGURES
  refine calD df hm sc_numbers_of bd_numbers_of (fun ds S Q ⟨_, _, _, e, _⟩ => by rw [e]; rfl) ?_
  rintro cdv A outer s H E ds S Q hr bS bD ⟨l, least, ws, rfl, hl, hx, hz, qN, qS⟩
  refine WSs.cons (WS.set 2 (WE.lst (WA.nil ⟨by show 0 ≤ sizeLine; exact sz (by decide), ?_⟩)) sc_numbers_of.nd)
  have lcat : ∀ (A : Store) (o : Ob), (A ++ [o])[A.length]? = some o := fun A o => List.getElem?_concat_length
  refine WSs.cons (WS.forL D.str (WE.var 0 rfl ⟨l, ws, rfl, get_app hl, ?_⟩) PassesOwn.never rfl)
  refine ⟨fun pre v2 S2 => ∃ ns z3, numsW least pre = some ns ∧ S2 = S ++ [.lst (ns.map D.int)] ∧ v2 = [some (.loc l), some (.int least), some (.loc S.length), z3], ⟨[], none, rfl, rfl, rfl⟩, fun _ _ _ ⟨_, _, _, h, _⟩ => by rw [h]; exact get_app hl, ?_, ?_⟩
  · rintro pre x post v2 S2 e ⟨ns, z3, hns, rfl, rfl⟩
    refine (WG.name 3 ?_ sc_numbers_of.nd)
    have hxm : x ∈ ws := by rw [e]; simp
    have hnl := numsW_len hns
    have hpl : pre.length ≤ 90000 := by have := congrArg List.length e; rw [List.length_append] at this; omega
    have step : numsW least (pre ++ [x]) = match numW least x with | some i => some (ns ++ [i]) | none => none := by
      rw [numsW_snoc, hns]
      cases numW least x <;> rfl
    have app : ∀ i : Int, (S ++ [Ob.lst (ns.map D.int)]).set S.length (.lst (ns.map D.int ++ [D.int i])) = S ++ [Ob.lst ((ns ++ [i]).map D.int)] := fun i => by simp
    refine WSs.one (WS.ite (WT.mono2 (Q := fun k S1 => S1 = S ++ [Ob.lst (ns.map D.int)] ∧ k = decide (x = ("-1" : Str) ∧ least < 0)) ?_ fun k S1 ⟨e1, hk⟩ => ⟨fun z => ?_, fun z => ?_⟩))
    · refine (WT.bool (WP.and (WT.cmp (WE.var 3 rfl (WE.str (BW.eqS ⟨_, rfl, ⟨fun h1 => (WP.and1 (WT.cmp (WE.var 1 rfl (WE.int (BW.lt ⟨_, rfl, ⟨rfl, ?_⟩⟩))))), fun h1 => ?_⟩⟩))))))
      · have h1 := of_decide_eq_true h1
        exact decide_eq_decide.mpr ⟨fun y => ⟨h1, y⟩, fun y => y.2⟩
      · have h1 := of_decide_eq_false h1
        exact ⟨rfl, (decide_eq_false fun y => h1 y.1).symm⟩
    · subst e1
      rw [z] at hk
      have c1 := of_decide_eq_true hk.symm
      have hn : numW least x = some (-1) := by unfold numW; rw [if_pos c1]
      refine WSs.one (WS.expr (WE.bm PySem.F.plainAttrs_list PySem.F.slot_list_append PySem.F.type_list_append (WE.var 2 rfl ⟨?_, (WA.cons (WE.un (WE.int (UW.neg (WA.nil (MW.append (xs := ns.map D.int) (lcat _ _) (by rw [List.length_map]; exact szl (by omega)) ?_))))))⟩)))
      · exact Or.inl ⟨rfl, _, lcat _ _⟩
      · exact WkE.same ⟨ns ++ [-1], _, by rw [step, hn], app _, rfl⟩
    · subst e1
      rw [z] at hk
      have c1 := of_decide_eq_false hk.symm
      refine WSs.one (WS.ite (WT.mono2 (Q := fun k S1 => S1 = S ++ [Ob.lst (ns.map D.int)] ∧ k = (match sign1 x with | some c => decide (c ∈ figs.cps.toList) | none => false)) ?_ fun k S1 ⟨e1, hk⟩ => ⟨fun z => ?_, fun z => ?_⟩))
      · cases es : sign1 x with
        | none =>
          have hne : decide (x.length = 1) = false := by rw [← sign1_len, es]; rfl
          refine WT.bool (WP.and (WT.cmp (WE.callB (WA.cons (WE.var 3 rfl (WA.nil (CW.lenS (hx x hxm) (WE.int (BW.eqI ⟨_, rfl, ⟨fun h1 => ?_, fun _ => ⟨rfl, rfl⟩⟩⟩)))))) B.len PySem.boot_len)))
          have h1 := of_decide_eq_true h1
          rw [decide_eq_true (by omega)] at hne
          cases hne
        | some c =>
          have ex := sign1_some es
          subst ex
          refine (WT.bool (WP.and (WT.cmp (WE.callB (WA.cons (WE.var 3 rfl (WA.nil (CW.lenS (hx _ hxm) (WE.int (BW.eqI ⟨_, rfl, ⟨fun h1 => (WP.and1 (WT.cmp (WE.var 3 rfl (WE.globS c_FIGURES (BW.inSg ⟨_, rfl, ⟨rfl, rfl⟩⟩))))), fun h1 => ?_⟩⟩)))))) B.len PySem.boot_len))))
          have h1 := of_decide_eq_false h1
          exact absurd rfl h1
      · subst e1
        rw [z] at hk
        cases es : sign1 x with
        | none => rw [es] at hk; cases hk
        | some c =>
          rw [es] at hk
          have hc := of_decide_eq_true hk.symm
          have ex := sign1_some es
          subst ex
          have hn : numW least ⟨#[c]⟩ = some ((c : Int) - 48) := by unfold numW; rw [if_neg c1, es]; exact if_pos hc
          refine WSs.one (WS.expr (WE.bm PySem.F.plainAttrs_list PySem.F.slot_list_append PySem.F.type_list_append (WE.var 2 rfl ⟨?_, (WA.cons (WE.callT (WA.cons (WE.var 3 rfl (WA.nil (CW.intS (int_fig hc) (by show 1 ≤ 640; decide) (WA.nil (MW.append (xs := ns.map D.int) (lcat _ _) (by rw [List.length_map]; exact szl (by omega)) ?_)))))) B.int boot_int))⟩)))
          · exact Or.inl ⟨rfl, _, lcat _ _⟩
          · exact WkE.same ⟨ns ++ [(c : Int) - 48], _, by rw [step, hn], app _, rfl⟩
      · subst e1
        rw [z] at hk
        have hn : numW least x = none := by
          unfold numW
          rw [if_neg c1]
          cases es : sign1 x with
          | none => rfl
          | some c =>
            rw [es] at hk
            exact if_neg (of_decide_eq_false hk.symm)
        refine WSs.one (WS.ret (WE.non ?_))
        refine ⟨_, S, CovD.drop bS rfl, qN ?_⟩
        rw [e, show pre ++ x :: post = (pre ++ [x]) ++ post by simp]
        exact numsW_none (by rw [step, hn])
  · rintro v2 S2 ⟨ns, z3, hns, rfl, rfl⟩
    refine WSs.one (WS.ret (WE.var 2 rfl ?_))
    exact WkD.same (qS ns hns)
end

section
variable {P : Program} {w : World} {K : PySem.W.Frag} {mg : Str → Option Value} {base : Heap} {f : Addr} {CR : Addr}
abbrev N_Reader___init__ : List Str := ["self"]
theorem sc_Reader___init__ : FnScope N_Reader___init__ ["self"] (defScope s_Reader___init__) := ⟨rfl, rfl, rfl, by decide +kernel, rfl, by decide +kernel, by decide +kernel⟩
theorem bd_Reader___init__ : BindOk "__init__" "Reader.__init__" s_Reader___init__ ["self"] := fun _ _ _ _ _ _ us hl => match us, hl with | [_], _ => rfl
def sp_Reader___init__ (CR : Addr) : SpD := fun ds S Q => ∃ l S0, ds = [.loc l] ∧ S = S0 ++ [.ins CR []] ∧ l = S0.length ∧ ∀ S' a', RdrAt CR S' a' ⟨[], []⟩ → a'.l = l → (∃ G, S' = S0 ++ G) → (∀ j ∈ a'.all, S0.length ≤ j) → Q .non S'
abbrev C_Reader___init__ (P : Program) (w : World) (K : PySem.W.Frag) (mg : Str → Option Value) (base : Heap) (CR : Addr) : Prop := ICal P w K mg base CR 1 ["self"] (sp_Reader___init__ CR)
theorem c_Reader___init__ (B : Bt mg) (T : RdrTxt K CR) (df : Df K "__init__" "Reader.__init__" s_Reader___init__ f) (hm : Mk K CR f) : C_Reader___init__ P w K mg base CR := by
  refine icalD df hm sc_Reader___init__ bd_Reader___init__ (fun ds S Q ⟨l, _, e, _⟩ => by rw [e]; rfl) ?_
  rintro cdv A outer s Hh E ds S Q hr bS bD ⟨l, S0, rfl, rfl, rfl, q⟩
  have st : ∀ (fs : List (Str × D)) (G : List Ob), (S0 ++ Ob.ins CR fs :: G)[S0.length]? = some (.ins CR fs) := fun fs G => by rw [List.getElem?_append_right (Nat.le_refl _)]; simp
  have se : ∀ (fs gs : List (Str × D)) (G : List Ob), (S0 ++ Ob.ins CR fs :: G).set S0.length (.ins CR gs) = S0 ++ Ob.ins CR gs :: G := fun fs gs G => by rw [List.set_append_right _ _ (Nat.le_refl _)]; simp
  have ap : ∀ (fs : List (Str × D)) (G : List Ob) (o : Ob), (S0 ++ Ob.ins CR fs :: G) ++ [o] = S0 ++ Ob.ins CR fs :: (G ++ [o]) := fun fs G o => by simp
  have ln : ∀ (fs : List (Str × D)) (G : List Ob), (S0 ++ Ob.ins CR fs :: G).length = S0.length + (G.length + 1) := fun fs G => by simp
  refine WSs.cons (WS.fld (C := CR) (WE.lst (WA.nil ⟨by show 0 ≤ sizeLine; exact sz (by decide), WE.var 0 rfl ?_⟩)) T.cd T.n_rows)
  rw [ap, ln]
  refine ⟨_, _, rfl, st _ _, by decide, ?_⟩
  rw [se]
  refine WSs.one (WS.fld (C := CR) (WE.lst (WA.nil ⟨by show 0 ≤ sizeLine; exact sz (by decide), WE.var 0 rfl ?_⟩)) T.cd T.n_who)
  rw [ap, ln]
  refine ⟨_, _, rfl, st _ _, by show 1 < 1000; decide, ?_⟩
  rw [se]
  have get : ∀ (G : List Ob) (i : Nat), (S0 ++ G)[S0.length + i]? = G[i]? := fun G i => by rw [List.getElem?_append_right (by omega)]; congr 1; omega
  refine WkD.same (q _ ⟨S0.length, S0.length + 1, S0.length + 2, []⟩ ⟨st _ _, get _ 1, get _ 2, rfl, fun i w x e => (by cases e), ?_⟩ rfl ⟨_, rfl⟩ ?_)
  · simp [RA.all, hpL]
  · intro j hj
    simp [RA.all, hpL] at hj
    omega
abbrev N_Reader_thing : List Str := ["self", "deep", "marks", "ahead", "many", "other", "some"]
theorem sc_Reader_thing : FnScope N_Reader_thing ["self", "deep", "marks"] (defScope s_Reader_thing) := ⟨rfl, rfl, rfl, by decide +kernel, rfl, by decide +kernel, by decide +kernel⟩
theorem bd_Reader_thing : BindOk "thing" "Reader.thing" s_Reader_thing ["self", "deep", "marks"] := fun _ _ _ _ _ _ us hl => match us, hl with | [_, _, _], _ => rfl
def RPost (CR : Addr) (S : Store) (a : RA) (r : Rst) (o : Option Rst) (Q : D → Store → Prop) : Prop :=
  (o = none → ∀ S', RdrAt CR S' a r → RFr S S' a a → Q (.bl false) S') ∧ (∀ r', o = some r' → ∀ S', RdrAt CR S' a r' → RFr S S' a a → Q (.bl true) S')
def sp_Reader_thing (CR : Addr) : SpD := fun ds S Q => ∃ a r d m, ds = [.loc a.l, .int d, eM m] ∧ RdrAt CR S a r ∧ r.rows.length ≤ 90000 ∧ RPost CR S a r (thingP r d m) Q
abbrev C_Reader_thing (P : Program) (w : World) (K : PySem.W.Frag) (mg : Str → Option Value) (base : Heap) (CR : Addr) : Prop := MCal P w K mg base CR "thing" 1 ["self", "deep", "marks"] (sp_Reader_thing CR)
theorem c_Reader_thing (B : Bt mg) (T : RdrTxt K CR) (c_MOST_DEEP : ∃ tk, mg "MOST_DEEP" = some (.int 2 tk)) (c_MOST_INNER : ∃ tk, mg "MOST_INNER" = some (.int 3 tk)) (df : Df K "thing" "Reader.thing" s_Reader_thing f) (hm : Meth K CR "thing" f) : C_Reader_thing P w K mg base CR := by
  obtain ⟨t0, c_MOST_DEEP⟩ := c_MOST_DEEP
  obtain ⟨t1, c_MOST_INNER⟩ := c_MOST_INNER
  refine mcalD df hm sc_Reader_thing bd_Reader_thing (fun ds S Q ⟨a, r, d, m, e, _⟩ => by rw [e]; rfl) ?_
  rintro cdv A outer s Hh E ds S Q hr bS bD ⟨a, r, d, m, rfl, H, hl, qN, qS⟩
  have lcat : ∀ (A : Store) (o : Ob), (A ++ [o])[A.length]? = some o := fun A o => List.getElem?_concat_length
  refine WSs.cutS (fun v2 S2 => (∃ G, S2 = S ++ G) ∧ v2 = [some (.loc a.l), some (.int d), some (eM m), some (.int (aheadP r.rows)), none, none, none]) (fun E' hE => ?_) ?_
  · refine (WS.set 3 (WE.ite (WT.cmp (WE.fld (WE.var 0 rfl ⟨_, _, _, rfl, (H.at).self, rfl, (WE.lst (WA.nil ⟨by show 0 ≤ sizeLine; exact sz (by decide), (BW.neVL (xs := r.rows.map rwD) (ys := []) (get_app H.rows) (lcat _ _) (pv_rws _) (fun _ h => by cases h) hr.units ⟨_, rfl, ⟨fun h1 => ?_, fun h1 => ?_⟩⟩)⟩))⟩) T.cd T.n_rows))) sc_Reader_thing.nd)
    · have hne : r.rows ≠ [] := fun z => by rw [z] at h1; simp at h1
      cases eg : r.rows.getLast? with
      | none => exact absurd (List.getLast?_eq_none_iff.mp eg) hne
      | some x =>
        refine (WE.ix (WE.ix (WE.fld (WE.var 0 rfl ⟨_, _, _, rfl, ((H.grow _).at).self, rfl, (WE.un (WE.int (UW.neg (IW.list (xs := r.rows.map rwD) (get_app H.rows) (d := rwD x) (atI_last (by rw [List.getLast?_map, eg]; rfl)) (WE.int (IW.tup (xs := [.int x.1, eM x.2]) (d := .int x.1) rfl (hE _ _ ⟨⟨_, rfl⟩, ?_⟩)))))))⟩) T.cd T.n_rows)))
        unfold aheadP
        rw [eg]; rfl
    · have he : r.rows = [] := by
        have h1 : (!decide (r.rows.map rwD = [])) = false := h1
        simpa using h1
      refine (WE.un (WE.int (UW.neg (hE _ _ ⟨⟨_, rfl⟩, ?_⟩))))
      rw [he]; rfl
  rintro v2 S2 ⟨⟨G, rfl⟩, rfl⟩
  have H1 := H.grow G
  refine WSs.cons (WS.ite (WT.mono2 (Q := fun k S1 => (∃ G2, S1 = S ++ G2) ∧ k = decide (r.who ≠ [] ∨ aheadP r.rows + 1 < d ∨ 2 < d)) ?_ fun k S1 ⟨⟨G2, e1⟩, hk⟩ => ⟨fun z => ?_, fun z => ?_⟩))
  · refine (WT.bool (WP.or (WT.cmp (WE.fld (WE.var 0 rfl ⟨_, _, _, rfl, (H1.at).self, rfl, (WE.lst (WA.nil ⟨by show 0 ≤ sizeLine; exact sz (by decide), (BW.neWho (H1.grow _) (lcat _ _) hr.units ⟨_, rfl, ⟨fun h1 => ?_, fun h1 => (WP.or (WT.cmp (WE.var 1 rfl (WE.bin (WE.var 3 rfl (WE.int (BW.add (BW.gt ⟨_, rfl, ⟨fun h2 => ?_, fun h2 => (WP.or1 (WT.cmp (WE.var 1 rfl (WE.globI c_MOST_DEEP (BW.gt ⟨_, rfl, ⟨⟨_, List.append_assoc _ _ _⟩, ?_⟩⟩)))))⟩⟩))))))))⟩⟩)⟩))⟩) T.cd T.n_who))))
    · have h1 : (!r.who.isEmpty) = true := h1
      refine ⟨⟨_, List.append_assoc _ _ _⟩, (decide_eq_true (.inl fun z => ?_)).symm⟩
      rw [z] at h1; cases h1
    · exact ⟨⟨_, List.append_assoc _ _ _⟩, (decide_eq_true (.inr (.inl (of_decide_eq_true h2)))).symm⟩
    · have h1 : (!r.who.isEmpty) = false := h1
      have e1 : r.who = [] := by cases e : r.who with
        | nil => rfl
        | cons _ _ => rw [e] at h1; cases h1
      have h2 := of_decide_eq_false h2
      exact decide_eq_decide.mpr ⟨fun y => .inr (.inr y), fun y => by
        rcases y with y | y | y
        · exact absurd e1 y
        · exact absurd y h2
        · exact y⟩
  · subst e1
    rw [z] at hk
    have c1 := of_decide_eq_true hk.symm
    refine WSs.one (WS.ret (WE.bl (WkD.same (qN ?_ _ (H.grow G2) RFr.grow))))
    unfold thingP
    exact if_pos c1
  · subst e1
    rw [z] at hk
    have c1 := of_decide_eq_false hk.symm
    have H2 := H.grow G2
    refine WSs.nil ?_
    refine WSs.cons (WS.set 4 (WE.int ?_) sc_Reader_thing.nd)
    refine WSs.cutS (fun v2 S2 => S2 = S ++ G2 ∧ ∃ z5 z6, v2 = [some (.loc a.l), some (.int d), some (eM m), some (.int (aheadP r.rows)), some (.int (manyP d r.rows.reverse)), z5, z6]) (fun E' hE => ?_) ?_
    · refine WS.for (WI.rev (WE.fld (WE.var 0 rfl ⟨_, _, _, rfl, (H2.at).self, rfl, ⟨a.lr, r.rows.map rwD, rfl, H2.rows, ?_⟩⟩) T.cd T.n_rows) B.reversed) PassesOwn.never rfl
      refine ⟨fun i v2 S2 => S2 = S ++ G2 ∧ ∃ k z5 z6, k + manyP d (r.rows.reverse.drop i) = manyP d r.rows.reverse ∧ v2 = [some (.loc a.l), some (.int d), some (eM m), some (.int (aheadP r.rows)), some (.int k), z5, z6], ⟨rfl, 0, none, none, by rw [List.drop_zero]; omega, rfl⟩, fun _ _ _ _ h => by rw [h.1]; exact H2.rows, ?_, ?_⟩
      · rintro i dd v2 S2 hd ⟨rfl, k, z5, z6, hk, rfl⟩
        have hd : ((r.rows.map rwD).reverse)[i]? = some dd := hd
        rw [← List.map_reverse, List.getElem?_map] at hd
        obtain ⟨x, hx, rfl⟩ : ∃ x, r.rows.reverse[i]? = some x ∧ dd = rwD x := by
          cases e : r.rows.reverse[i]? with
          | none => rw [e] at hd; cases hd
          | some x => rw [e] at hd; exact ⟨x, rfl, (Option.some.inj hd).symm⟩
        rw [drop_get hx] at hk
        refine (WG.tup rfl (WGs.cons (WG.name 5 (WGs.cons (WG.name 6 (WGs.nil ?_) sc_Reader_thing.nd)) sc_Reader_thing.nd)) rfl)
        refine WSs.cons (WS.ite (WT.cmp (WE.var 5 rfl (WE.var 1 rfl (BW.lt ⟨_, rfl, ⟨fun h => ?_, fun h => WSs.nil ?_⟩⟩)))))
        · have h := of_decide_eq_true h
          have e0 : manyP d (x :: r.rows.reverse.drop (i + 1)) = 0 := if_pos h
          refine WSs.one (WS.break (hE _ _ ⟨rfl, some (.int x.1), some (eM x.2), ?_⟩))
          have ek : k = manyP d r.rows.reverse := by rw [← hk, e0, Int.add_zero]
          rw [← ek]; rfl
        · have h := of_decide_eq_false h
          have e0 : manyP d (x :: r.rows.reverse.drop (i + 1)) = manyP d (r.rows.reverse.drop (i + 1)) + (if x.1 = d then 1 else 0) := if_neg h
          refine WSs.one (WS.set 4 (WE.bin (WE.var 4 rfl (WE.callT (WA.cons (WE.cmp (WE.var 5 rfl (WE.var 1 rfl (BW.eqI (WA.nil (CW.intB (BW.add ?_)))))))) B.int boot_int))) sc_Reader_thing.nd)
          refine WkE.same ⟨rfl, k + (if x.1 = d then 1 else 0), some (.int x.1), some (eM x.2), by rw [← hk, e0]; omega, ?_⟩
          by_cases hc : x.1 = d
          · rw [decide_eq_true hc, if_pos hc]; rfl
          · rw [decide_eq_false hc, if_neg hc]; rfl
      · rintro v2 S2 ⟨rfl, k, z5, z6, hk, rfl⟩
        refine hE _ _ ⟨rfl, z5, z6, ?_⟩
        have e0 : r.rows.reverse.drop ((r.rows.map rwD).reverse).length = [] := by
          rw [List.length_reverse, List.length_map, List.drop_eq_nil_iff, List.length_reverse]
          exact Nat.le_refl _
        have hk : k + manyP d (r.rows.reverse.drop ((r.rows.map rwD).reverse).length) = manyP d r.rows.reverse := hk
        rw [e0] at hk
        rw [← hk, show manyP d [] = 0 from rfl, Int.add_zero]
    rintro v2 S2 ⟨rfl, z5, z6, rfl⟩
    refine WSs.cons (WS.ite (WT.mono2 (Q := fun k S1 => S1 = S ++ G2 ∧ k = decide (0 < d ∧ manyP d r.rows.reverse = 3)) ?_ fun k S1 ⟨e1, hk⟩ => ⟨fun z => ?_, fun z => ?_⟩))
    · refine (WT.bool (WP.and (WT.cmp (WE.var 1 rfl (WE.int (BW.gt ⟨_, rfl, ⟨fun h1 => (WP.and1 (WT.cmp (WE.var 4 rfl (WE.globI c_MOST_INNER (BW.eqI ⟨_, rfl, ⟨rfl, ?_⟩⟩))))), fun h1 => ?_⟩⟩))))))
      · have h1 := of_decide_eq_true h1
        exact decide_eq_decide.mpr ⟨fun y => ⟨h1, y⟩, fun y => y.2⟩
      · exact ⟨rfl, (decide_eq_false fun y => of_decide_eq_false h1 y.1).symm⟩
    · subst e1
      rw [z] at hk
      have c2 := of_decide_eq_true hk.symm
      refine WSs.one (WS.ret (WE.bl (WkD.same (qN ?_ _ H2 RFr.grow))))
      unfold thingP
      rw [if_neg c1, if_pos c2]
    · subst e1
      rw [z] at hk
      have c2 := of_decide_eq_false hk.symm
      refine WSs.nil ?_
      refine WSs.cons (WS.expr (WE.bm PySem.F.plainAttrs_list PySem.F.slot_list_append PySem.F.type_list_append (WE.fld (WE.var 0 rfl ⟨_, _, _, rfl, (H2.at).self, rfl, ⟨?_, (WA.cons (WE.tup (WA.cons (WE.var 1 rfl (WA.cons (WE.var 2 rfl (WA.nil ⟨by show 2 ≤ sizeLine; exact sz (by decide), (WA.nil (MW.append (xs := r.rows.map rwD) H2.rows (by rw [List.length_map]; exact szl (by omega)) ?_))⟩)))))))⟩⟩) T.cd T.n_rows)))
      · exact Or.inl ⟨rfl, _, H2.rows⟩
      obtain ⟨H3, F3⟩ := H2.setRows (r.rows ++ [(d, m)])
      rw [List.map_append] at H3 F3
      refine WSs.one (WS.ret (WE.bl (WkD.same (qS { r with rows := r.rows ++ [(d, m)] } ?_ _ H3 (RFr.grow.trans F3)))))
      unfold thingP
      rw [if_neg c1, if_neg c2]
end

section
variable {P : Program} {w : World} {K : PySem.W.Frag} {mg : Str → Option Value} {base : Heap} {f : Addr} {CR : Addr}
abbrev N_Reader_takes : List Str := ["self", "words", "least", "numbers"]
theorem sc_Reader_takes : FnScope N_Reader_takes ["self", "words"] (defScope s_Reader_takes) := ⟨rfl, rfl, rfl, by decide +kernel, rfl, by decide +kernel, by decide +kernel⟩
theorem bd_Reader_takes : BindOk "takes" "Reader.takes" s_Reader_takes ["self", "words"] := fun _ _ _ _ _ _ us hl => match us, hl with | [_, _], _ => rfl
def sp_Reader_takes (CR : Addr) : SpD := fun ds S Q => ∃ a r lw w0 ws, ds = [.loc a.l, .loc lw] ∧ S[lw]? = some (.lst ((w0 :: ws).map D.str)) ∧ lw ∉ a.all ∧ (∀ x ∈ w0 :: ws, x.length ≤ sizeLine) ∧ ws.length ≤ 90000 ∧ RdrAt CR S a r ∧ r.rows.length ≤ 90000 ∧ r.who.length ≤ 90000 ∧ (∀ y ∈ r.who, y.2.length ≤ 6) ∧
  ∀ S' a', RdrAt CR S' a' (takesP r w0 ws).2 → RFr S S' a a' → Q (.bl (takesP r w0 ws).1) S'
abbrev C_Reader_takes (P : Program) (w : World) (K : PySem.W.Frag) (mg : Str → Option Value) (base : Heap) (CR : Addr) : Prop := MCal P w K mg base CR "takes" 2 ["self", "words"] (sp_Reader_takes CR)
theorem at_ns {ns : List Int} {i : Nat} (h : i < ns.length) : atI (ns.map D.int) (i : Int) = some (.int (ns.getD i 0)) := atI_nat (by rw [List.getElem?_map, List.getElem?_eq_getElem h]; simp [List.getD, List.getElem?_eq_getElem h])
theorem c_Reader_takes (B : Bt mg) (T : RdrTxt K CR) (c_MOST_ROOM : ∃ tk, mg "MOST_ROOM" = some (.int 4 tk)) (c_MOST_CLAIMS : ∃ tk, mg "MOST_CLAIMS" = some (.int 6 tk)) (G_numbers_of : C_numbers_of P w K mg base) (G_Reader_thing : C_Reader_thing P w K mg base CR) (df : Df K "takes" "Reader.takes" s_Reader_takes f) (hm : Meth K CR "takes" f) : C_Reader_takes P w K mg base CR := by
  obtain ⟨t0, c_MOST_ROOM⟩ := c_MOST_ROOM
  obtain ⟨t1, c_MOST_CLAIMS⟩ := c_MOST_CLAIMS
  refine mcalD df hm sc_Reader_takes bd_Reader_takes (fun ds S Q ⟨_, _, _, _, _, e, _⟩ => by rw [e]; rfl) ?_
  rintro cdv A outer s Hh E ds S Q hr bS bD ⟨a, r, lw, w0, ws, rfl, hlw, hna, hx, hz, H, hrl, hwl, hcl, q⟩
  have lcat : ∀ (A : Store) (o : Ob), (A ++ [o])[A.length]? = some o := fun A o => List.getElem?_concat_length
  have h00 : atI ((w0 :: ws).map D.str) 0 = some (.str w0) := atI_nat (j := 0) rfl
  obtain ⟨least, hle⟩ : ∃ i : Int, i = if w0 = ("claim" : Str) then -1 else 0 := ⟨_, rfl⟩
  refine WSs.cutS (fun v2 S2 => S = S2 ∧ v2 = [some (.loc a.l), some (.loc lw), some (.int least), none]) (fun E' hE => ?_) ?_
  · refine (WS.set 2 (WE.ite (WT.cmp (WE.ix (WE.var 1 rfl (WE.int (IW.list (xs := (w0 :: ws).map D.str) hlw (d := .str w0) h00 (WE.str (BW.eqS ⟨_, rfl, ⟨fun h1 => ?_, fun h1 => ?_⟩⟩)))))))) sc_Reader_takes.nd)
    · have h1 := of_decide_eq_true h1
      refine (WE.un (WE.int (UW.neg (hE _ _ ⟨rfl, ?_⟩))))
      rw [hle, if_pos h1]; rfl
    · have h1 := of_decide_eq_false h1
      refine (WE.int (hE _ _ ⟨rfl, ?_⟩))
      rw [hle, if_neg h1]; rfl
  rintro v2 S2 ⟨rfl, rfl⟩
  have ecut : cutD ((w0 :: ws).map D.str) (some 1) none = ws.map D.str := cutD_from ((w0 :: ws).map D.str) 1
  have same : takesP r w0 ws = (false, r) → ∀ G, WkD S.length (.bl false) (S ++ G) Q := fun e G => WkD.same (by
    have := q (S ++ G) a (by rw [e]; exact H.grow G) RFr.grow
    rw [e] at this
    exact this)
  refine WSs.cons (WS.set 3 (WE.cal G_numbers_of (hr.mono (by first|decide|omega)) (WA.cons (WE.slL (WE.var 1 rfl (WO.some (WE.int ⟨_, rfl, (WO.none ⟨lw, (w0 :: ws).map D.str, rfl, hlw, (WA.cons (WE.var 2 rfl (WA.nil ⟨S.length, least, ws, rfl, by rw [ecut]; exact lcat _ _, fun x hm => hx x (List.mem_cons_of_mem _ hm), hz, fun hn => ?_, fun ns hn => ?_⟩)))⟩)⟩)))))) sc_Reader_takes.nd)
  · refine WSs.cons (WS.ite (WT.bool (WP.or (WT.cmp (WE.var 3 rfl (WE.non (BW.isN true rfl ⟨_, rfl, (iT (iT (WSs.one (WS.ret (WE.bl (same ?_ _))))))⟩)))))))
    unfold takesP
    rw [← hle, hn]
  have gn : ∀ G, (S ++ [Ob.lst (cutD ((w0 :: ws).map D.str) (some 1) none)] ++ [Ob.lst (ns.map D.int)] ++ G)[S.length + 1]? = some (.lst (ns.map D.int)) := fun G => by simp
  have lS : (S ++ [Ob.lst (cutD ((w0 :: ws).map D.str) (some 1) none)]).length = S.length + 1 := by simp
  rw [lS]
  obtain ⟨G0, hG0⟩ : ∃ G0, G0 = [Ob.lst (cutD ((w0 :: ws).map D.str) (some 1) none)] ++ [Ob.lst (ns.map D.int)] := ⟨_, rfl⟩
  rw [List.append_assoc S, ← hG0]
  have gn : ∀ G, (S ++ (G0 ++ G))[S.length + 1]? = some (.lst (ns.map D.int)) := fun G => by rw [← List.append_assoc, hG0, ← List.append_assoc]; exact gn G
  have gn0 : (S ++ G0)[S.length + 1]? = some (.lst (ns.map D.int)) := by have := gn []; rw [List.append_nil] at this; exact this
  clear hG0 lS
  have nl := numsW_len hn
  have eset : ∀ (A : Store) (o o' : Ob), (A ++ [o]).set A.length o' = A ++ [o'] := fun A o o' => by simp
  refine WSs.cons (WS.ite (WT.mono2 (Q := fun k S1 => (∃ G, S1 = S ++ (G0 ++ G)) ∧ k = decide ((ns.length : Int) ≠ wantN w0)) ?_ fun k S1 ⟨⟨G, e1⟩, hk⟩ => ⟨fun z => ?_, fun z => ?_⟩))
  · refine (WT.bool (WP.or (WT.cmp (WE.var 3 rfl (WE.non (BW.isN false rfl ⟨_, rfl, ⟨fun h1 => ?_, fun h1 => (WP.or1 (WT.cmp (WE.callB (WA.cons (WE.var 3 rfl (WA.nil (CW.lenL gn0 (WE.bm PySem.F.plainAttrs_dict PySem.F.slot_dict_get PySem.F.type_dict_get (WE.disp (WE.str (WE.int (WE.str (WE.int (WE.str (WE.int ⟨by simp, wantT, by simp [wantT, kdD], ⟨?_, (WA.cons (WE.ix (WE.var 1 rfl (WE.int (IW.list (xs := (w0 :: ws).map D.str) (d := .str w0) ?_ h00 (WA.cons (WE.un (WE.int (UW.neg (WA.nil (MW.get2e (d := .int (wantN w0)) (o := getT wantT (Sum.inr w0)) ?_ (want_get w0) hr.units (BW.neI ⟨_, rfl, ⟨?_, ?_⟩⟩))))))))))))⟩⟩)))))))))))) B.len PySem.boot_len)))⟩⟩))))))
    · cases h1
    · exact Or.inr ⟨rfl, Or.inl ⟨_, List.getElem?_set_self (by simp)⟩⟩
    · rw [eset]; exact get_app (get_app hlw)
    · rw [eset]
      exact DG.k (S := S ++ G0 ++ [Ob.dK (putAllT [] wantT)]) (l := (S ++ G0).length) (kvs := wantT) (k := Sum.inr w0) (lcat _ _)
    · rw [eset]; exact ⟨_, List.append_assoc _ _ _⟩
    · rw [List.length_map]
      by_cases hc : (ns.length : Int) = wantN w0
      · rw [decide_eq_true hc, decide_eq_false (fun y => y hc)]; rfl
      · rw [decide_eq_false hc, decide_eq_true hc]; rfl
  · subst e1
    rw [z] at hk
    have c1 := of_decide_eq_true hk.symm
    refine WSs.one (WS.ret (WE.bl (same ?_ _)))
    unfold takesP
    rw [← hle, hn]
    exact if_pos c1
  subst e1
  rw [z] at hk
  have c1 : (ns.length : Int) = wantN w0 := Decidable.not_not.mp (of_decide_eq_false hk.symm)
  have H2 := H.grow (G0 ++ G)
  have hlt := H.lt
  refine WSs.nil ?_
  refine WSs.cons (WS.ite (WT.cmp (WE.ix (WE.var 1 rfl (WE.int (IW.list (xs := (w0 :: ws).map D.str) (get_app hlw) (d := .str w0) h00 (WE.str (BW.eqS ⟨_, rfl, ⟨fun h => ?_, fun h => WSs.nil ?_⟩⟩))))))))
  · have h := of_decide_eq_true h
    have n4 : ns.length = 4 := by
      have e4 : wantN w0 = 4 := by unfold wantN; rw [if_pos h]
      rw [e4] at c1
      omega
    have ecut2 : cutD (ns.map D.int) (some 1) none = (ns.drop 1).map D.int := by rw [show (some (1 : Int)) = some ((1 : Nat) : Int) from rfl, cutD_from, List.map_drop]
    have eT : ∀ o, thingP r (ns.getD 0 0) (ns.drop 1) = o → takesP r w0 ws = match o with | none => (false, r) | some r' => (true, r') := fun o e => by
      unfold takesP
      rw [← hle, hn]
      show (if (ns.length : Int) ≠ wantN w0 then (false, r) else _) = _
      rw [if_neg (fun y => y c1), if_pos h, e]
      all_goals (cases o <;> rfl)
    refine WSs.one (WS.ret (WE.mcal G_Reader_thing (hr.mono (by first|decide|omega)) T.cd (WE.var 0 rfl ⟨_, _, rfl, (H2.at).self, rfl, (WA.cons (WE.ix (WE.var 3 rfl (WE.int (IW.list (xs := ns.map D.int) (gn G) (d := .int (ns.getD 0 0)) (at_ns (i := 0) (by omega)) (WA.cons (WE.callT (WA.cons (WE.slL (WE.var 3 rfl (WO.some (WE.int ⟨_, rfl, (WO.none ⟨S.length + 1, ns.map D.int, rfl, gn G, (WA.nil (CW.tupL (lcat _ _) (WA.nil ⟨a, r, ns.getD 0 0, ns.drop 1, by rw [ecut2]; rfl, H2.grow _, hrl, fun e S' h' f' => ?_, fun r' e S' h' f' => ?_⟩)))⟩)⟩))))) B.tuple boot_tuple)))))))⟩)))
    · have e2 := eT none e
      refine WkD.same ?_
      have := q S' a (by rw [e2]; exact h') ((RFr.grow.trans RFr.grow).trans f')
      rw [e2] at this; exact this
    · have e2 := eT (some r') e
      refine WkD.same ?_
      have := q S' a (by rw [e2]; exact h') ((RFr.grow.trans RFr.grow).trans f')
      rw [e2] at this; exact this
  have h := of_decide_eq_false h
  refine WSs.cons (WS.ite (WT.cmp (WE.ix (WE.var 1 rfl (WE.int (IW.list (xs := (w0 :: ws).map D.str) (get_app hlw) (d := .str w0) h00 (WE.str (BW.eqS ⟨_, rfl, ⟨fun h2 => ?_, fun h2 => WSs.nil ?_⟩⟩))))))))
  · have h2 := of_decide_eq_true h2
    have n1 : ns.length = 1 := by
      have e4 : wantN w0 = 1 := by unfold wantN; rw [if_neg h, if_pos h2]
      rw [e4] at c1
      omega
    have eT : takesP r w0 ws = (decide (ns.getD 0 0 ≤ 4), { r with who := r.who ++ [(ns.getD 0 0, [])] }) := by
      unfold takesP
      rw [← hle, hn]
      show (if (ns.length : Int) ≠ wantN w0 then (false, r) else _) = _
      rw [if_neg (fun y => y c1), if_neg h, if_pos h2]
    refine WSs.cons (WS.expr (WE.bm PySem.F.plainAttrs_list PySem.F.slot_list_append PySem.F.type_list_append (WE.fld (WE.var 0 rfl ⟨_, _, _, rfl, (H2.at).self, rfl, ⟨?_, (WA.cons (WE.lst (WA.cons (WE.ix (WE.var 3 rfl (WE.int (IW.list (xs := ns.map D.int) (gn G) (d := .int (ns.getD 0 0)) (at_ns (i := 0) (by omega)) (WA.cons (WE.lst (WA.nil ⟨by show 0 ≤ sizeLine; exact sz (by decide), (WA.nil ⟨by show 2 ≤ sizeLine; exact sz (by decide), (WA.nil (MW.append (xs := a.hp.map fun x => D.loc x.1) (get_app (get_app H2.who)) (by rw [List.length_map, H.len]; exact szl (by omega)) ?_))⟩)⟩))))))))))⟩⟩) T.cd T.n_who)))
    · exact Or.inl ⟨rfl, _, H2.who⟩
    obtain ⟨H3, F3⟩ := H2.addWho (ns.getD 0 0)
    have lS3 : (S ++ (G0 ++ G) ++ [Ob.lst []]).length = (S ++ (G0 ++ G)).length + 1 := List.length_append
    rw [← lS3] at H3 F3
    have lwl : a.lw < S.length := hlt _ (by simp [RA.all])
    refine WSs.one (WS.ret (WE.cmp (WE.ix (WE.var 3 rfl (WE.int (IW.list (xs := ns.map D.int) (d := .int (ns.getD 0 0)) ?_ (at_ns (i := 0) (by omega)) (WE.globI c_MOST_ROOM (BW.le ?_))))))))
    · rw [List.getElem?_set_ne (by omega)]
      exact get_app (get_app (gn G))
    · refine WkD.same ?_
      have := q _ _ (by rw [eT]; exact H3) (RFr.grow.trans F3)
      rw [eT] at this; exact this
  have h2 := of_decide_eq_false h2
  have n4 : ns.length = 4 := by
    unfold wantN at c1
    rw [if_neg h, if_neg h2] at c1
    split at c1 <;> omega
  have eT : takesP r w0 ws = (match r.who.getLast? with
      | none => (false, r)
      | some y => if y.2.length = 6 ∨ ns.getD 3 0 < 0 then (false, r) else (true, { r with who := r.who.dropLast ++ [(y.1, y.2 ++ [(ns.take 3, ns.getD 3 0)])] })) := by
    unfold takesP
    rw [← hle, hn]
    show (if (ns.length : Int) ≠ wantN w0 then (false, r) else _) = _
    rw [if_neg (fun y => y c1), if_neg h, if_neg h2]
    all_goals (cases r.who.getLast? <;> rfl)
  cases eg : r.who.getLast? with
  | none =>
    rw [eg] at eT
    have e0 := List.getLast?_eq_none_iff.mp eg
    refine WSs.cons (WS.ite (WT.bool (WP.or (WT.cmp (WE.fld (WE.var 0 rfl ⟨_, _, _, rfl, (H2.at).self, rfl, (WE.lst (WA.nil ⟨by show 0 ≤ sizeLine; exact sz (by decide), (BW.eqWho (H2.grow _) (lcat _ _) hr.units ⟨_, rfl, ⟨fun _ => iT (WSs.one (WS.ret (WE.bl ?_))), fun h3 => ?_⟩⟩)⟩))⟩) T.cd T.n_who)))))
    · rw [List.append_assoc]; exact same eT _
    · rw [e0] at h3; cases h3
  | some y =>
    rw [eg] at eT
    obtain ⟨x, ex⟩ : ∃ x, a.hp.getLast? = some x := by
      cases e : a.hp.getLast? with
      | some x => exact ⟨x, rfl⟩
      | none =>
        have e1 := List.getLast?_eq_none_iff.mp e
        have := H.len
        rw [e1] at this
        have e2 : r.who = [] := List.eq_nil_of_length_eq_zero this.symm
        rw [e2] at eg; cases eg
    have hxw : atI (a.hp.map fun x => D.loc x.1) (-1) = some (.loc x.1) := atI_last (by rw [List.getLast?_map, ex]; rfl)
    have hy := List.mem_of_getLast? eg
    have gx : S[x.1]? = some (.lst [.int y.1, .loc x.2]) ∧ S[x.2]? = some (.lst (y.2.map eC)) := by
      obtain ⟨who, e1⟩ := List.getLast?_eq_some_iff.mp eg
      obtain ⟨hp, e2⟩ := List.getLast?_eq_some_iff.mp ex
      have hl := H.len
      rw [e1, e2, List.length_append, List.length_append] at hl
      have hl : hp.length = who.length := Nat.add_right_cancel hl
      exact H.help who.length y x (by rw [e1]; exact List.getElem?_concat_length) (by rw [e2, ← hl]; exact List.getElem?_concat_length)
    have ex1 : atI ([.int y.1, .loc x.2] : List D) 1 = some (.loc x.2) := rfl
    have hyl := hcl y hy
    have fin : ∀ (b : Bool) G3, takesP r w0 ws = (b, r) → WkD S.length (.bl b) (S ++ G3) Q := fun b G3 e => WkD.same (by
      have := q (S ++ G3) a (by rw [e]; exact H.grow G3) RFr.grow
      rw [e] at this; exact this)
    refine WSs.cons (WS.ite (WT.mono2 (Q := fun k S1 => (∃ G2, S1 = S ++ (G0 ++ G2)) ∧ k = decide (y.2.length = 6 ∨ ns.getD 3 0 < 0)) ?_ fun k S1 ⟨⟨G2, e1⟩, hk⟩ => ⟨fun z => ?_, fun z => ?_⟩))
    · refine (WT.bool (WP.or (WT.cmp (WE.fld (WE.var 0 rfl ⟨_, _, _, rfl, (H2.at).self, rfl, (WE.lst (WA.nil ⟨by show 0 ≤ sizeLine; exact sz (by decide), (BW.eqWho (H2.grow _) (lcat _ _) hr.units ⟨_, rfl, ⟨fun h1 => ?_, fun h1 => (WP.or (WT.cmp (WE.callB (WA.cons (WE.ix (WE.ix (WE.fld (WE.var 0 rfl ⟨_, _, _, rfl, ((H2.grow _).at).self, rfl, (WE.un (WE.int (UW.neg (IW.list (xs := a.hp.map fun x => D.loc x.1) (get_app H2.who) hxw (WE.int (IW.list (xs := [.int y.1, .loc x.2]) (get_app (get_app gx.1)) ex1 (WA.nil (CW.lenL (get_app (get_app gx.2)) (WE.globI c_MOST_CLAIMS (BW.eqI ⟨_, rfl, ⟨fun h2 => ?_, fun h2 => (WP.or1 (WT.cmp (WE.ix (WE.var 3 rfl (WE.int (IW.list (xs := ns.map D.int) (d := .int (ns.getD 3 0)) (get_app (gn G)) (at_ns (i := 3) (by omega)) (WE.int (BW.lt ⟨_, rfl, ⟨⟨_, by rw [List.append_assoc, List.append_assoc]⟩, ?_⟩⟩))))))))⟩⟩))))))))))⟩) T.cd T.n_who)))) B.len PySem.boot_len)))⟩⟩)⟩))⟩) T.cd T.n_who))))
      · have h1 : r.who.isEmpty = true := h1
        have := List.isEmpty_iff.mp h1
        rw [this] at eg; cases eg
      · have h2 := of_decide_eq_true h2
        rw [List.length_map] at h2
        exact ⟨⟨_, by rw [List.append_assoc, List.append_assoc]⟩, (decide_eq_true (.inl (by omega))).symm⟩
      · have h2 := of_decide_eq_false h2
        rw [List.length_map] at h2
        exact decide_eq_decide.mpr ⟨fun w => .inr w, fun w => w.resolve_left (by omega)⟩
    · subst e1
      rw [z] at hk
      have c2 := of_decide_eq_true hk.symm
      refine WSs.one (WS.ret (WE.bl (fin false _ ?_)))
      rw [eT]
      exact if_pos c2
    · subst e1
      rw [z] at hk
      have c2 := of_decide_eq_false hk.symm
      have eT2 : takesP r w0 ws = (true, { r with who := r.who.dropLast ++ [(y.1, y.2 ++ [(ns.take 3, ns.getD 3 0)])] }) := by rw [eT]; exact if_neg c2
      have H3 := H.grow (G0 ++ G2)
      refine WSs.nil ?_
      refine WSs.cons (WS.expr (WE.bm PySem.F.plainAttrs_list PySem.F.slot_list_append PySem.F.type_list_append (WE.ix (WE.ix (WE.fld (WE.var 0 rfl ⟨_, _, _, rfl, (H3.at).self, rfl, (WE.un (WE.int (UW.neg (IW.list (xs := a.hp.map fun x => D.loc x.1) H3.who hxw (WE.int (IW.list (xs := [.int y.1, .loc x.2]) (get_app gx.1) ex1 ⟨?_, (WA.cons (WE.tup (WA.cons (WE.callT (WA.cons (WE.slL (WE.var 3 rfl (WO.none (WO.some (WE.int ⟨_, rfl, ⟨S.length + 1, ns.map D.int, rfl, gn G2, (WA.nil (CW.tupL (lcat _ _) (WA.cons (WE.ix (WE.var 3 rfl (WE.int (IW.list (xs := ns.map D.int) (d := .int (ns.getD 3 0)) (get_app (gn G2)) (at_ns (i := 3) (by omega)) (WA.nil ⟨by show 2 ≤ sizeLine; exact sz (by decide), (WA.nil (MW.append (xs := y.2.map eC) (get_app (get_app gx.2)) (by rw [List.length_map]; exact szl (by omega)) ?_))⟩))))))))⟩⟩)))))) B.tuple boot_tuple))))⟩))))))⟩) T.cd T.n_who)))))
      · exact Or.inl ⟨rfl, _, get_app gx.2⟩
      have ecut3 : cutD (ns.map D.int) none (some 3) = (ns.take 3).map D.int := by rw [show (some (3 : Int)) = some ((3 : Nat) : Int) from rfl, cutD_to, List.map_take]
      obtain ⟨H5, F5⟩ := (H3.grow [Ob.lst (cutD (ns.map D.int) none (some 3))]).setClaims eg ex (y.2 ++ [(ns.take 3, ns.getD 3 0)])
      rw [List.map_append] at H5 F5
      rw [ecut3] at H5 F5 ⊢
      refine WSs.one (WS.ret (WE.bl (WkD.same ?_)))
      have := q _ a (by rw [eT2]; exact H5) ((RFr.grow.trans RFr.grow).trans F5)
      rw [eT2] at this; exact this
end

section
variable {P : Program} {w : World} {K : PySem.W.Frag} {mg : Str → Option Value} {base : Heap} {f : Addr} {CR : Addr}
abbrev N_Reader_things : List Str := ["self", "found", "deep", "marks"]
theorem sc_Reader_things : FnScope N_Reader_things ["self"] (defScope s_Reader_things) := ⟨rfl, rfl, rfl, by decide +kernel, rfl, by decide +kernel, by decide +kernel⟩
theorem bd_Reader_things : BindOk "things" "Reader.things" s_Reader_things ["self"] := fun _ _ _ _ _ _ us hl => match us, hl with | [_], _ => rfl
def sp_Reader_things (CR : Addr) : SpD := fun ds S Q => ∃ a r, ds = [.loc a.l] ∧ RdrAt CR S a r ∧ r.rows.length ≤ 90000 ∧ (∀ x ∈ r.rows, 0 ≤ x.1 ∧ x.1 ≤ 2) ∧ Q (.loc S.length) (S ++ [.lst (enumD ((thingsP r.rows).map eT))])
abbrev C_Reader_things (P : Program) (w : World) (K : PySem.W.Frag) (mg : Str → Option Value) (base : Heap) (CR : Addr) : Prop := MCal P w K mg base CR "things" 1 ["self"] (sp_Reader_things CR)
theorem c_Reader_things (B : Bt mg) (T : RdrTxt K CR) (df : Df K "things" "Reader.things" s_Reader_things f) (hm : Meth K CR "things" f) : C_Reader_things P w K mg base CR := by
  refine mcalD df hm sc_Reader_things bd_Reader_things (fun ds S Q ⟨_, _, e, _⟩ => by rw [e]; rfl) ?_
  rintro cdv A outer s Hh E ds S Q hr bS bD ⟨a, r, rfl, H, hl, hd, q⟩
  have lcat : ∀ (A : Store) (o : Ob), (A ++ [o])[A.length]? = some o := fun A o => List.getElem?_concat_length
  refine WSs.cons (WS.set 1 (WE.lst (WA.cons (WE.lst (WA.nil ⟨by show 0 ≤ sizeLine; exact sz (by decide), (WA.cons (WE.lst (WA.nil ⟨by show 0 ≤ sizeLine; exact sz (by decide), (WA.cons (WE.lst (WA.nil ⟨by show 0 ≤ sizeLine; exact sz (by decide), (WA.cons (WE.lst (WA.nil ⟨by show 0 ≤ sizeLine; exact sz (by decide), (WA.nil ⟨by show 4 ≤ sizeLine; exact sz (by decide), ?_⟩)⟩)))⟩)))⟩)))⟩)))) sc_Reader_things.nd)
  have F0 : FdAt S.length (S ++ [Ob.lst []] ++ [Ob.lst []] ++ [Ob.lst []] ++ [Ob.lst []] ++ [Ob.lst [.loc S.length, .loc (S ++ [Ob.lst []]).length, .loc (S ++ [Ob.lst []] ++ [Ob.lst []]).length, .loc (S ++ [Ob.lst []] ++ [Ob.lst []] ++ [Ob.lst []]).length]]) (S ++ [Ob.lst []] ++ [Ob.lst []] ++ [Ob.lst []] ++ [Ob.lst []]).length (fun i => S.length + i) (fsOf ([] : List (Int × List Int))) := by
    refine ⟨by rw [lcat]; simp [fdL], fun i hi => ?_, fun i j _ _ e => by omega, fun i hi => by simp; omega, fun i hi => by omega, by simp⟩
    have : i = 0 ∨ i = 1 ∨ i = 2 ∨ i = 3 := by omega
    rcases this with rfl | rfl | rfl | rfl <;> simp [fsOf]
  obtain ⟨G0, hG0⟩ : ∃ G0, S ++ [Ob.lst []] ++ [Ob.lst []] ++ [Ob.lst []] ++ [Ob.lst []] ++ [Ob.lst [.loc S.length, .loc (S ++ [Ob.lst []]).length, .loc (S ++ [Ob.lst []] ++ [Ob.lst []]).length, .loc (S ++ [Ob.lst []] ++ [Ob.lst []] ++ [Ob.lst []]).length]] = S ++ G0 := ⟨_, by simp only [List.append_assoc]; rfl⟩
  obtain ⟨pf, hpf⟩ : ∃ pf, pf = (S ++ [Ob.lst []] ++ [Ob.lst []] ++ [Ob.lst []] ++ [Ob.lst []]).length := ⟨_, rfl⟩
  rw [hG0, ← hpf] at F0 ⊢
  clear hG0 hpf
  have gr : ∀ G, (S ++ G)[a.lr]? = some (.lst (r.rows.map rwD)) := fun G => get_app H.rows
  refine WSs.cons (WS.for (WI.rev (WE.fld (WE.var 0 rfl ⟨_, _, _, rfl, ((H.grow G0).at).self, rfl, ⟨a.lr, r.rows.map rwD, rfl, gr _, ?_⟩⟩) T.cd T.n_rows) B.reversed) PassesOwn.never rfl)
  refine ⟨fun i v2 S2 => ∃ G p z2 z3, S2 = S ++ G ∧ FdAt S.length S2 pf p (fsOf (r.rows.reverse.take i)) ∧ v2 = [some (.loc a.l), some (.loc pf), z2, z3], ⟨G0, _, none, none, rfl, F0, rfl⟩, fun _ _ _ _ ⟨G, _, _, _, e, _⟩ => by rw [e]; exact gr G, ?_, ?_⟩
  · rintro i dd v2 S2 hdd ⟨G, p, z2, z3, rfl, F, rfl⟩
    have hdd : ((r.rows.map rwD).reverse)[i]? = some dd := hdd
    rw [← List.map_reverse, List.getElem?_map] at hdd
    obtain ⟨x, hx, rfl⟩ : ∃ x, r.rows.reverse[i]? = some x ∧ dd = rwD x := by
      cases e : r.rows.reverse[i]? with
      | none => rw [e] at hdd; cases hdd
      | some x => rw [e] at hdd; exact ⟨x, rfl, (Option.some.inj hdd).symm⟩
    have hxm := hd x (List.mem_reverse.mp (List.mem_of_getElem? hx))
    have tk : fsOf (r.rows.reverse.take (i + 1)) = fsStep (fsOf (r.rows.reverse.take i)) x := by rw [take_at hx, fsOf_snoc]
    obtain ⟨fs, hfs⟩ : ∃ fs, fs = fsOf (r.rows.reverse.take i) := ⟨_, rfl⟩
    have hfl : ∀ j, (fs j).length ≤ 90000 := fun j => by
      rw [hfs]
      refine Nat.le_trans (fs_len _ j) (Nat.le_trans (List.length_take_le _ _) ?_)
      have := (List.getElem?_eq_some_iff.mp hx).1
      rw [List.length_reverse] at this
      omega
    rw [← hfs] at F tk
    clear hfs
    obtain ⟨d0, m⟩ := x
    obtain ⟨d, rfl⟩ : ∃ d : Nat, d0 = (d : Int) := ⟨d0.toNat, (Int.toNat_of_nonneg hxm.1).symm⟩
    have d2 : d ≤ 2 := by have := hxm.2; omega
    refine (WG.tup rfl (WGs.cons (WG.name 2 (WGs.cons (WG.name 3 (WGs.nil ?_) sc_Reader_things.nd)) sc_Reader_things.nd)) rfl)
    have a1 : atI (fdL p) ((d : Int) + 1) = some (.loc (p (d + 1))) := by
      rw [show (d : Int) + 1 = ((d + 1 : Nat) : Int) by omega]
      exact atI_nat (fdL_at (by omega))
    have a0 : atI (fdL p) (d : Int) = some (.loc (p d)) := atI_nat (fdL_at (by omega))
    refine WSs.cons (WS.expr (WE.bm PySem.F.plainAttrs_list PySem.F.slot_list_append PySem.F.type_list_append (WE.ix (WE.var 1 rfl (WE.var 2 rfl (IW.list (xs := fdL p) F.top a0 ⟨?_, (WA.cons (WE.tup (WA.cons (WE.var 3 rfl (WA.cons (WE.tupRev (WE.ix (WE.var 1 rfl (WE.bin (WE.var 2 rfl (WE.int (BW.add (IW.list (xs := fdL p) F.top a1 ⟨p (d + 1), (fs (d + 1)).map eT, rfl, F.on _ (by omega), (WA.nil ⟨by show 2 ≤ sizeLine; exact sz (by decide), (WA.nil (MW.append (xs := (fs d).map eT) (F.on d (by omega)) (by rw [List.length_map]; have := hfl d; exact szl (by omega)) ?_))⟩)⟩))))))) B.tuple B.reversed rfl))))))⟩))))))
    · exact Or.inl ⟨rfl, _, F.on d (by omega)⟩
    have F1 := F.put (d := d) (by omega) (fs d ++ [Th.mk m (fs (d + 1)).reverse])
    have eL : (fs d ++ [Th.mk m (fs (d + 1)).reverse]).map eT = (fs d).map eT ++ [.tup [eM m, .tup ((fs (d + 1)).map eT).reverse]] := by
      rw [List.map_append, ← List.map_reverse]
      show (fs d).map eT ++ [D.tup [eM m, .tup (eTs (fs (d + 1)).reverse)]] = _
      rw [eTs_map]
    rw [eL] at F1
    obtain ⟨G1, hG1⟩ := set_app (G := G) (o := .lst ((fs d).map eT ++ [.tup [eM m, .tup ((fs (d + 1)).map eT).reverse]])) (F.ge d (by omega))
    show WSs _ _ _ _ ((S ++ G).set (p d) (.lst ((fs d).map eT ++ [.tup [eM m, .tup ((fs (d + 1)).map eT).reverse]]))) _
    rw [hG1] at F1 ⊢
    have F2 := F1.new (d := d + 1) (by omega)
    have F3 := (F1.grow [Ob.lst []])
    refine WSs.one (WS.asg (WE.lst (WA.nil ⟨by show 0 ≤ sizeLine; exact sz (by decide), (WG.setL (WE.var 1 rfl (WE.bin (WE.var 2 rfl (WE.int (BW.add ⟨pf, fdL p, (d : Int) + 1, d + 1, rfl, rfl, F3.top, ?_, ?_⟩))))))⟩)))
    · show ixN 4 ((d : Int) + 1) = some (d + 1)
      unfold ixN
      rw [if_pos (by omega), if_pos (by omega)]
      congr 1
    · rw [fdL_set (by omega)]
      obtain ⟨G2, hG2⟩ := set_app (S := S) (G := G1 ++ [Ob.lst []]) (o := .lst (fdL (pAt p (d + 1) (S ++ G1).length))) F3.gf
      rw [← List.append_assoc] at hG2
      rw [hG2] at F2 ⊢
      refine WkE.same ⟨G2, pAt p (d + 1) (S ++ G1).length, some (.int (d : Int)), some (eM m), rfl, ?_, rfl⟩
      have e : (fun j => if j = d + 1 then [] else (fun j => if j = d then fs d ++ [Th.mk m (fs (d + 1)).reverse] else fs j) j) = fsStep fs ((d : Int), m) := by
        funext j
        unfold fsStep
        show _ = if j = d + 1 then [] else if j = d then fs j ++ [Th.mk m (fs (d + 1)).reverse] else fs j
        by_cases h1 : j = d + 1
        · rw [if_pos h1, if_pos h1]
        · rw [if_neg h1, if_neg h1]
          by_cases h2 : j = d
          · subst h2; rw [if_pos rfl]; exact if_pos rfl
          · rw [if_neg h2]; exact if_neg h2
      show FdAt S.length (S ++ G2) pf _ (fsOf (r.rows.reverse.take (i + 1)))
      rw [tk, ← e]; exact F2
  · rintro v2 S2 ⟨G, p, z2, z3, rfl, F, rfl⟩
    have et : r.rows.reverse.take ((r.rows.map rwD).reverse).length = r.rows.reverse := List.take_of_length_le (by simp)
    have F : FdAt S.length (S ++ G) pf p (fsOf (r.rows.reverse.take ((r.rows.map rwD).reverse).length)) := F
    rw [et] at F
    have hf0 : (fsOf r.rows.reverse 0).length ≤ 90000 := Nat.le_trans (fs_len _ 0) (by rw [List.length_reverse]; exact hl)
    refine WSs.one (WS.ret (WE.listEnumR (WE.ix (WE.var 1 rfl (WE.int (IW.list (xs := fdL p) F.top (d := .loc (p 0)) rfl ⟨p 0, (fsOf r.rows.reverse 0).map eT, rfl, F.on 0 (by omega), by rw [List.length_map]; omega, ?_⟩)))) B.list B.enumerate B.reversed rfl))
    have er : ((fsOf r.rows.reverse 0).map eT).reverse = (thingsP r.rows).map eT := by unfold thingsP; rw [List.map_reverse]
    rw [er, List.append_assoc]
    have := CovD.one (S := S) (G := G ++ [Ob.lst (enumD ((thingsP r.rows).map eT))]) (k := (S ++ G).length) (o := .lst (enumD ((thingsP r.rows).map eT))) bS (by simp) (by rw [← List.append_assoc]; exact lcat _ _) (bel_enum _ _)
    exact ⟨_, _, this, q⟩
end

section
variable {P : Program} {w : World} {K : PySem.W.Frag} {mg : Str → Option Value} {base : Heap} {f : Addr} {CR : Addr}
abbrev N_read : List Str := ["text", "reader", "line", "row", "helpers", "number", "room", "claims"]
theorem sc_read : FnScope N_read ["text"] (defScope s_read) := ⟨rfl, rfl, rfl, by decide +kernel, rfl, by decide +kernel, by decide +kernel⟩
theorem bd_read : BindOk "read" "read" s_read ["text"] := fun _ _ _ _ _ _ us hl => match us, hl with | [_], _ => rfl
def sp_read : SpD := fun ds S Q => ∃ x r, ds = [.str x] ∧ x.length + 2 ≤ sizeLine ∧ (rowsT x).length ≤ 80000 ∧ (∀ t ∈ rowsT x, t.length + 2 ≤ sizeLine ∧ (Txt.split t " ").length ≤ 90000 ∧ ∀ y ∈ Txt.split t " ", y.length ≤ sizeLine) ∧ takeAll ⟨[], []⟩ ((rowsT x).map fun t => Txt.split t " ") = some r ∧
  Q (.tup [.loc S.length, .loc (S.length + 1)]) (S ++ [.lst (enumD ((thingsP r.rows).map eT)), .lst (whoD r.who)])
abbrev C_read (P : Program) (w : World) (K : PySem.W.Frag) (mg : Str → Option Value) (base : Heap) : Prop := Cal P w K mg base "read" 3 ["text"] sp_read
theorem c_read (B : Bt mg) (T : RdrTxt K CR) (g_Reader : mg "Reader" = some (.ref CR)) (G_Reader___init__ : C_Reader___init__ P w K mg base CR) (G_Reader_takes : C_Reader_takes P w K mg base CR) (G_Reader_things : C_Reader_things P w K mg base CR) (df : Df K "read" "read" s_read f) (hm : mg "read" = some (.ref f)) : C_read P w K mg base := by
  refine calD df hm sc_read bd_read (fun ds S Q ⟨_, _, e, _⟩ => by rw [e]; rfl) ?_
  rintro cdv A outer s Hh E ds S Q hr bS bD ⟨x, r, rfl, hx, hn, hrow, hta, q⟩
  have lcat : ∀ (A : Store) (o : Ob), (A ++ [o])[A.length]? = some o := fun A o => List.getElem?_concat_length
  refine WSs.cons (WS.set 1 (WE.mk0 G_Reader___init__ (hr.mono (by decide)) g_Reader ⟨S.length, S, rfl, rfl, rfl, fun S1 a H ea eG hge => ⟨rfl, ?_⟩⟩) sc_read.nd)
  obtain ⟨G, rfl⟩ := eG
  rw [← ea]
  generalize hrows : rowsT x = rows at *
  refine WSs.cons (WS.for (WI.enum (WA.cons (WE.mono (Q := fun d S2 => ∃ l G2, d = .loc l ∧ S2 = S ++ G ++ G2 ∧ S2[l]? = some (.lst (rows.map D.str)) ∧ (S ++ G).length ≤ l) ?_ fun d S2 ⟨l, G2, ed, eS, hl, hge2⟩ => WA.nil ⟨l, rows.map D.str, by rw [ed], hl, ?_⟩)) B.enumerate) PassesOwn.never rfl)
  · unfold rowsT at hrows
    refine (WE.ite (WT.cmp (WE.var 0 rfl (WE.str (BW.neS ⟨_, rfl, ⟨fun h1 => ?_, fun h1 => ?_⟩⟩)))))
    · have h1 : ¬ x = ("" : Str) := by simpa using h1
      rw [if_neg h1] at hrows
      refine (WE.split (WE.var 0 rfl ⟨_, rfl, (WE.str ⟨_, rfl, by decide, hx, ⟨_, _, rfl, rfl, ?_, Nat.le_refl _⟩⟩)⟩))
      rw [hrows]; exact lcat _ _
    · have h1 : x = ("" : Str) := by simpa using h1
      rw [if_pos h1] at hrows
      refine (WE.lst (WA.nil ⟨by show 0 ≤ sizeLine; exact sz (by decide), ⟨_, _, rfl, rfl, ?_, Nat.le_refl _⟩⟩))
      rw [← hrows]; exact lcat _ _
  subst eS
  have a0lt := H.lt
  refine ⟨fun i v2 S3 => ∃ a1 r2 z2 z3, RdrAt CR S3 a1 r2 ∧ a1.l = a.l ∧ takeAll r2 ((rows.drop i).map fun t => Txt.split t " ") = some r ∧ r2.rows.length ≤ i ∧ r2.who.length ≤ i ∧ (∀ y ∈ r2.who, y.2.length ≤ 6) ∧ (∀ y ∈ r2.rows, 0 ≤ y.1 ∧ y.1 ≤ 2) ∧ (∃ G3, S3 = S ++ G3) ∧ (∀ j ∈ a1.all, S.length ≤ j) ∧ S3[l]? = some (.lst (rows.map D.str)) ∧ l ∉ a1.all ∧ v2 = [some (.str x), some (.loc a.l), z2, z3, none, none, none, none],
    ⟨a, ⟨[], []⟩, none, none, H.grow G2, rfl, by rw [List.drop_zero]; exact hta, Nat.le_refl _, Nat.le_refl _, fun _ h => (by cases h), fun _ h => (by cases h), ⟨_, List.append_assoc _ _ _⟩, hge, hl, fun z => by have := a0lt l z; omega, rfl⟩, fun _ _ _ _ h => by obtain ⟨_, _, _, _, _, _, _, _, _, _, _, _, _, h, _⟩ := h; exact h, ?_, ?_⟩
  · rintro i dd v2 S3 hdd ⟨a1, r2, z2, z3, H1, el, ht, b1, b2, b3, b4, ⟨G3, rfl⟩, b5, b6, b7, rfl⟩
    obtain ⟨y, hy, rfl⟩ := enum_get hdd
    rw [List.getElem?_map] at hy
    obtain ⟨t, ht0, rfl⟩ : ∃ t, rows[i]? = some t ∧ y = .str t := by
      cases e : rows[i]? with
      | none => rw [e] at hy; cases hy
      | some t => rw [e] at hy; exact ⟨t, rfl, (Option.some.inj hy).symm⟩
    have hi := (List.getElem?_eq_some_iff.mp ht0).1
    rw [drop_get ht0, List.map_cons] at ht
    obtain ⟨m1, m2, m3⟩ := hrow t (List.mem_of_getElem? ht0)
    cases esp : Txt.split t " " with
    | nil => rw [esp] at ht; cases ht
    | cons w0 ws =>
      rw [esp] at ht m2 m3
      have hb : (takesP r2 w0 ws).1 = true := by
        cases e : (takesP r2 w0 ws).1 with
        | true => rfl
        | false =>
          have ht : (if (takesP r2 w0 ws).1 = true then takeAll (takesP r2 w0 ws).2 ((rows.drop (i + 1)).map fun t => Txt.split t " ") else none) = some r := ht
          rw [e] at ht; cases ht
      have ht : takeAll (takesP r2 w0 ws).2 ((rows.drop (i + 1)).map fun t => Txt.split t " ") = some r := by
        have ht : (if (takesP r2 w0 ws).1 = true then takeAll (takesP r2 w0 ws).2 ((rows.drop (i + 1)).map fun t => Txt.split t " ") else none) = some r := ht
        rw [if_pos hb] at ht; exact ht
      obtain ⟨g1, g2, g3, g4⟩ := takes_grow r2 w0 ws
      refine (WG.tup rfl (WGs.cons (WG.name 2 (WGs.cons (WG.name 3 (WGs.nil ?_) sc_read.nd)) sc_read.nd)) rfl)
      have a1lt := H1.lt
      refine WSs.one (WS.ite (WT.not (WT.val (WE.mcal G_Reader_takes (hr.mono (by first|decide|omega)) T.cd (WE.var 1 rfl ⟨_, _, rfl, ((show RSelf CR (S ++ G3) a.l a1 from ⟨by rw [← el]; exact H1.self⟩)).self, rfl, (WA.cons (WE.split (WE.var 3 rfl ⟨_, rfl, (WE.str ⟨_, rfl, by decide, m1, (WA.nil ⟨a1, r2, (S ++ G3).length, w0, ws, by rw [el], by rw [esp]; exact lcat _ _, fun z => by have := a1lt _ z; omega, m3, by rw [List.length_cons] at m2; omega, H1.grow _, by omega, by omega, b3, fun S4 a4 H4 F4 => ⟨_, rfl, ⟨fun h => ?_, fun h => WSs.nil ?_⟩⟩⟩)⟩)⟩)))⟩)))))
      · rw [hb] at h; cases h
      have F5 : RFr (S ++ G3) S4 a1 a4 := RFr.grow.trans F4
      have ge4 : ∀ j ∈ a4.all, S.length ≤ j := fun j hj => by
        rcases F5.new j hj with z | z
        · exact b5 j z
        · have : S.length ≤ (S ++ G3).length := by simp
          omega
      have l4 : l ∉ a4.all := fun z => by
        rcases F5.new l z with y | y
        · exact b7 y
        · have := lt_of_some b6
          omega
      have pre4 : ∃ G4, S4 = S ++ G4 := pre_app (Nat.le_trans (by simp) F5.len) fun j o e => F5.old j o (fun z => by have := b5 j z; have := lt_of_some e; omega) (get_app e)
      exact WkE.same ⟨a4, _, some (.int (i : Int)), some (.str t), H4, F5.l.trans el, ht, by omega, by omega, g3 b3, g4 b4, pre4, ge4, F5.old l _ b7 b6, l4, rfl⟩
  · rintro v2 S3 ⟨a1, r2, z2, z3, H1, el, ht, b1, b2, b3, b4, ⟨G3, rfl⟩, b5, b6, b7, rfl⟩
    have et : rows.drop (enumD (rows.map D.str)).length = [] := by
      rw [List.drop_eq_nil_iff]
      simp [enumD]
    have ht : takeAll r2 ((rows.drop (enumD (rows.map D.str)).length).map fun t => Txt.split t " ") = some r := ht
    rw [et] at ht
    cases (show some r2 = some r from ht)
    have eln : (enumD (rows.map D.str)).length = rows.length := by simp [enumD]
    have b1 : r.rows.length ≤ (enumD (rows.map D.str)).length := b1
    have b2 : r.who.length ≤ (enumD (rows.map D.str)).length := b2
    rw [eln] at b1 b2
    refine WSs.cons (WS.set 4 (WE.lst (WA.nil ⟨by show 0 ≤ sizeLine; exact sz (by decide), ?_⟩)) sc_read.nd)
    have a1lt := H1.lt
    obtain ⟨kh, hkh⟩ : ∃ k, k = (S ++ G3).length := ⟨_, rfl⟩
    have khge : S.length ≤ kh := by rw [hkh]; simp
    have hw1 : ∀ G (o : Ob), (S ++ G3 ++ [o] ++ G)[a1.lw]? = some (.lst (a1.hp.map fun x => D.loc x.1)) := fun G o => get_app (get_app H1.who)
    have e0 : S ++ G3 ++ [Ob.lst []] = S ++ G3 ++ [Ob.lst ((whoD r.who).take 0)] ++ [] := by rw [List.append_nil]; rfl
    rw [← hkh, e0]
    have gk : ∀ (o : Ob) (G : Store), (S ++ G3 ++ [o] ++ G)[kh]? = some o := fun o G => get_app (by rw [hkh]; exact lcat _ _)
    have sf : ∀ G, RSelf CR (S ++ G3 ++ G) a.l a1 := fun G => ⟨by rw [← el]; exact get_app H1.self⟩
    refine WSs.cons (WS.forN (WA.cons (WE.callB (WA.cons (WE.fld (WE.var 1 rfl ⟨_, _, _, rfl, ((show RSelf CR (S ++ G3 ++ [Ob.lst ((whoD r.who).take 0)] ++ []) a.l a1 by rw [List.append_assoc]; exact sf _)).self, rfl, (WA.nil (CW.lenL (hw1 _ _) (WA.nil ⟨r.who.length, by rw [List.length_map, H1.len], by omega, ?_⟩)))⟩) T.cd T.n_who)) B.len PySem.boot_len)) B.range PassesOwn.never rfl)
    refine ⟨fun i v2 S2 => ∃ G z5 z6 z7, S2 = S ++ G3 ++ [.lst ((whoD r.who).take i)] ++ G ∧ v2 = [some (.str x), some (.loc a.l), z2, z3, some (.loc kh), z5, z6, z7], ⟨[], none, none, none, rfl, rfl⟩, ?_, ?_⟩
    · rintro i v2 S2 hi ⟨G, z5, z6, z7, rfl, rfl⟩
      obtain ⟨y, hy⟩ : ∃ y, r.who[i]? = some y := ⟨_, List.getElem?_eq_getElem hi⟩
      obtain ⟨p, hp⟩ : ∃ p, a1.hp[i]? = some p := ⟨_, List.getElem?_eq_getElem (by rw [H1.len]; exact hi)⟩
      obtain ⟨gp1, gp2⟩ := H1.help i y p hy hp
      have hcl := b3 y (List.mem_of_getElem? hy)
      refine (WG.name 5 ?_ sc_read.nd)
      refine WSs.cons (WS.asg (WE.ix (WE.fld (WE.var 1 rfl ⟨_, _, _, rfl, ((show RSelf CR (S ++ G3 ++ [Ob.lst ((whoD r.who).take i)] ++ G) a.l a1 by rw [List.append_assoc]; exact sf _)).self, rfl, (WE.var 5 rfl (IW.list (xs := a1.hp.map fun x => D.loc x.1) (hw1 _ _) (d := .loc p.1) (atI_nat (by rw [List.getElem?_map, hp]; rfl)) ?_))⟩) T.cd T.n_who)))
      refine WG.unp (l := p.1) (ds := [.int y.1, .loc p.2]) rfl (get_app (get_app gp1)) ?_ rfl
      refine WGs.cons (WG.name 6 (WGs.cons (WG.name 7 (WGs.nil ?_) sc_read.nd)) sc_read.nd)
      refine WSs.one (WS.expr (WE.bm PySem.F.plainAttrs_list PySem.F.slot_list_append PySem.F.type_list_append (WE.var 4 rfl ⟨?_, (WA.cons (WE.tup (WA.cons (WE.var 5 rfl (WA.cons (WE.callT (WA.cons (WE.var 7 rfl (WA.nil (CW.tupL (get_app (get_app gp2)) (WA.cons (WE.var 6 rfl (WA.nil ⟨by show 3 ≤ sizeLine; exact sz (by decide), (WA.nil (MW.append (xs := (whoD r.who).take i) (gk _ _) (by rw [List.length_take, whoD_len]; exact szl (by omega)) ?_))⟩))))))) B.tuple boot_tuple))))))⟩)))
      · exact Or.inl ⟨rfl, _, gk _ _⟩
      refine WkE.same ⟨G, some (.int (i : Int)), some (.int y.1), some (.loc p.2), ?_, rfl⟩
      rw [who_snoc hy]
      show (S ++ G3 ++ [Ob.lst ((whoD r.who).take i)] ++ G).set kh (.lst ((whoD r.who).take i ++ [heD ((i : Int), y.2, y.1)])) = _
      rw [hkh]
      simp
    · rintro v2 S2 ⟨G, z5, z6, z7, rfl, rfl⟩
      have ew : (whoD r.who).take r.who.length = whoD r.who := List.take_of_length_le (by rw [whoD_len]; exact Nat.le_refl _)
      rw [ew]
      have H9 : RdrAt CR (S ++ G3 ++ [Ob.lst (whoD r.who)] ++ G) a1 r := (H1.grow _).grow _
      refine WSs.one (WS.ret (WE.tup (WA.cons (WE.mcal0 G_Reader_things (hr.mono (by first|decide|omega)) T.cd (WE.var 1 rfl ⟨_, _, rfl, ((show RSelf CR (S ++ G3 ++ [Ob.lst (whoD r.who)] ++ G) a.l a1 by rw [List.append_assoc]; exact sf _)).self, rfl, ⟨a1, r, by rw [el], H9, by omega, b4, (WA.cons (WE.var 4 rfl (WA.nil ⟨by show 2 ≤ sizeLine; exact sz (by decide), ?_⟩)))⟩⟩)))))
      have hst : S ++ G3 ++ [Ob.lst (whoD r.who)] ++ G ++ [Ob.lst (enumD ((thingsP r.rows).map eT))] = S ++ (G3 ++ [Ob.lst (whoD r.who)] ++ G ++ [Ob.lst (enumD ((thingsP r.rows).map eT))]) := by simp only [List.append_assoc]
      rw [hst]
      refine ⟨_, _, ?_, q⟩
      rw [ea]
      refine CovD.two (o1 := .lst (enumD ((thingsP r.rows).map eT))) (o2 := .lst (whoD r.who)) bS (by simp only [List.length_append]; omega) khge ?_ (by rw [← hst]; exact lcat _ _) (by rw [← hst]; exact get_app (gk _ _)) (bel_enum _ _) (bel_who _ _)
      rw [hkh]
      simp only [List.length_append, List.length_singleton]
      omega
end

section
variable {P : Program} {w : World} {K : PySem.W.Frag} {mg : Str → Option Value} {base : Heap} {f : Addr}
abbrev N_written : List Str := ["things", "helpers", "some", "rows", "number", "thing", "name", "marks", "claims", "room", "one", "wanted", "worth", "row", "part"]
theorem sc_written : FnScope N_written ["things", "helpers"] (defScope s_written) := ⟨rfl, rfl, rfl, by decide +kernel, rfl, by decide +kernel, by decide +kernel⟩
theorem bd_written : BindOk "written" "written" s_written ["things", "helpers"] := fun _ _ _ _ _ _ us hl => match us, hl with | [_, _], _ => rfl
def sp_written : SpD := fun ds S Q => ∃ l1 l2 ts hs, ds = [.loc l1, .loc l2] ∧ S[l1]? = some (.lst (ts.map thD)) ∧ S[l2]? = some (.lst (hs.map heD)) ∧ OkTs ts ∧ OkHs hs ∧ ts.length ≤ 60 ∧ hs.length ≤ 60 ∧ ts.map (·.1) = (List.range ts.length).map (fun k : Nat => (k : Int)) ∧ hs.map (·.1) = (List.range hs.length).map (fun k : Nat => (k : Int)) ∧ Q (.str (txtR (rowsAll ts hs))) S
abbrev C_written (P : Program) (w : World) (K : PySem.W.Frag) (mg : Str → Option Value) (base : Heap) : Prop := Cal P w K mg base "written" 6 ["things", "helpers"] sp_written
theorem c_written (B : Bt mg) (G_need_both : C_need_both P w K mg base) (G_all_within : C_all_within P w K mg base) (df : Df K "written" "written" s_written f) (hm : mg "written" = some (.ref f)) : C_written P w K mg base := by
  refine calD df hm sc_written bd_written (fun ds S Q ⟨_, _, _, _, e, _⟩ => by rw [e]; rfl) ?_
  rintro cdv A outer s H E ds S Q hr bS bD ⟨l1, l2, ts, hs, rfl, hl1, hl2, ot, oh, t6, h6, nt, nh, q⟩
  have lcat : ∀ (A : Store) (o : Ob), (A ++ [o])[A.length]? = some o := fun A o => List.getElem?_concat_length
  refine WSs.cons (WS.expr (WE.cal G_need_both (hr.mono (by first|decide|omega)) (WA.cons (WE.var 0 rfl (WA.cons (WE.var 1 rfl (WA.nil ⟨l1, l2, ts, hs, rfl, hl1, hl2, ot, oh, ?_⟩)))))))
  refine WSs.cons (WS.for (WI.tup (WE.tup (WA.cons (WE.var 0 rfl (WA.cons (WE.var 1 rfl (WA.nil ⟨by show 2 ≤ sizeLine; exact sz (by decide), ⟨_, rfl, ?_⟩⟩))))))) PassesOwn.never rfl)
  refine ⟨fun i v2 S2 => ∃ G z2, S2 = S ++ G ∧ v2 = [some (.loc l1), some (.loc l2), z2, none, none, none, none, none, none, none, none, none, none, none, none], ⟨[], none, by simp, rfl⟩, fun _ _ _ _ _ => trivial, ?_, ?_⟩
  · rintro i d v2 S2 hd ⟨G, z2, rfl, rfl⟩
    have hd : ([.loc l1, .loc l2] : List D)[i]? = some d := hd
    obtain ⟨l, xs, rfl, hl, hx, hf, hn⟩ : ∃ l xs, d = .loc l ∧ S[l]? = some (.lst xs) ∧ (∀ y ∈ xs, ∃ (k : Int) (r : List D), y = .tup (.int k :: r)) ∧ xs.filterMap fstD = rngD 0 xs.length ∧ xs.length ≤ 60 := by
      have key : ∀ {α : Type} (enc : Int × α → D) (l : List (Int × α)) (he : ∀ x, fstD (enc x) = some (.int x.1)), l.map (·.1) = (List.range l.length).map (fun k : Nat => (k : Int)) → (l.map enc).filterMap fstD = rngD 0 (l.map enc).length := fun enc l he hn => by
        rw [List.filterMap_map, List.length_map]
        have e : (fstD ∘ enc) = fun x => some (D.int x.1) := funext he
        rw [e, show (l.filterMap fun x => some (D.int x.1)) = l.map fun x => D.int x.1 from List.filterMap_eq_map ▸ rfl]
        have e2 : (l.map fun x => D.int x.1) = (l.map (·.1)).map D.int := by rw [List.map_map]; rfl
        rw [e2, hn, List.map_map]
        unfold rngD
        exact List.map_congr_left fun k _ => by show D.int (k : Int) = D.int (0 + (k : Int)); rw [Int.zero_add]
      match i, hd with
      | 0, hd =>
        cases hd
        exact ⟨l1, ts.map thD, rfl, hl1, fun y hy => by obtain ⟨p, _, rfl⟩ := List.mem_map.mp hy; exact ⟨p.1, _, rfl⟩, key thD ts (fun _ => rfl) nt, by rw [List.length_map]; exact t6⟩
      | 1, hd =>
        cases hd
        exact ⟨l2, hs.map heD, rfl, hl2, fun y hy => by obtain ⟨p, _, rfl⟩ := List.mem_map.mp hy; exact ⟨p.1, _, rfl⟩, key heD hs (fun _ => rfl) nh, by rw [List.length_map]; exact h6⟩
    refine (WG.name 2 ?_ sc_written.nd)
    refine WSs.bel fun b3 => ?_
    refine WSs.one (WS.ite (WT.cmp (WE.lcN 10 [("one", 10)] (WI.list (WE.var 2 rfl ⟨l, xs, rfl, get_app hl, ?_⟩)) (by decide) rfl sc_written.nd (blkOk_by (N := N_written) (sc := defScope s_written) (by decide +kernel)) (fun Y hY => by obtain ⟨_, _, _, _, _, rfl⟩ := hY; exact pg_name sc_written.nd rfl (by first | exact Or.inl rfl | exact Or.inr rfl)))))
    refine lc_fm id xs fstD (by simp) b3 (by omega) (fun _ => get_app (get_app hl)) ?_ ?_
    · intro y acc hy
      obtain ⟨k, r, rfl⟩ := hx y hy
      refine ⟨_, rfl, fun Y hY => ⟨⟨[], by simp⟩, fun _ Z hZ => ?_, fun z => (by cases z)⟩⟩
      obtain ⟨_, _, _, _, _, rfl⟩ := hZ
      exact (WE.ix (WE.var 10 rfl (WE.int (IW.tup (xs := .int k :: r) (d := .int k) (atI_nat (j := 0) rfl) ⟨⟨[], by simp⟩, rfl, rfl⟩))))
    · rw [hf]
      refine (WE.listRg (WE.callB (WA.cons (WE.var 2 rfl (WA.nil (CW.lenL (get_app (get_app hl)) ⟨xs.length, rfl, by omega, ?_⟩)))) B.len PySem.boot_len) B.list B.range rfl)
      have pr : ∀ y ∈ rngD 0 xs.length, pv 60 y = true := fun y hy => by
        unfold rngD at hy
        obtain ⟨k, _, rfl⟩ := List.mem_map.mp hy
        rfl
      refine BW.neVL (xs := rngD 0 xs.length) (ys := rngD 0 xs.length) (get_app (lcat _ _)) (lcat _ _) pr pr hr.units ⟨_, rfl, fun h => ?_, fun h => WSs.nil ?_⟩
      · simp at h
      · exact WkE.same ⟨G ++ [Ob.lst (rngD 0 xs.length)] ++ [Ob.lst (rngD 0 xs.length)], _, by simp only [List.append_assoc], rfl⟩
  · rintro v2 S2 ⟨G, z2, rfl, rfl⟩
    refine WSs.cons (WS.set 3 (WE.lst (WA.nil ⟨by show 0 ≤ sizeLine; exact sz (by decide), ?_⟩)) sc_written.nd)
    obtain ⟨kr, hkr⟩ : ∃ k, k = (S ++ G).length := ⟨_, rfl⟩
    rw [← hkr]
    have gk : ∀ (o : Ob) (G2 : Store), (S ++ G ++ [o] ++ G2)[kr]? = some o := fun o G2 => get_app (by rw [hkr]; exact lcat _ _)
    have sk : ∀ (o o' : Ob) (G2 : Store), (S ++ G ++ [o] ++ G2).set kr o' = S ++ G ++ [o'] ++ G2 := fun o o' G2 => by rw [hkr]; simp
    have rl : ∀ (l : List (Int × Th)), (∀ p ∈ l, OkT 2 p.2) → (rwTs 0 (l.map (·.2))).length ≤ 13 * l.length := fun l h => by
      have e : ∀ l : List (Int × Th), rwTs 0 (l.map (·.2)) = (markedOf l).map depR := by
        intro l
        induction l with
        | nil => rfl
        | cons p l ih =>
          show rwT 0 p.2 ++ rwTs 0 (l.map (·.2)) = (within [p.1] p.2 ++ markedOf l).map depR
          rw [List.map_append, within_top, ih]
      rw [e, List.length_map]
      exact marked_len h
    have sn : ∀ (l : List (Int × Th)) (p : Int × Th), rwTs 0 ((l ++ [p]).map (·.2)) = rwTs 0 (l.map (·.2)) ++ rwT 0 p.2 := fun l p => by
      induction l with
      | nil => show rwT 0 p.2 ++ [] = [] ++ rwT 0 p.2; simp
      | cons y l ih =>
        show rwT 0 y.2 ++ rwTs 0 ((l ++ [p]).map (·.2)) = rwT 0 y.2 ++ rwTs 0 (l.map (·.2)) ++ rwT 0 p.2
        rw [ih, List.append_assoc]
    refine WSs.cons (WS.forL thD (WE.var 0 rfl ⟨l1, ts, rfl, get_app (get_app hl1), ?_⟩) PassesOwn.never rfl)
    refine ⟨fun pre v2 S2 => ∃ G2 z4 z5 z6 z7, S2 = S ++ G ++ [.lst ((rwTs 0 (pre.map (·.2))).map rwoD)] ++ G2 ∧ v2 = [some (.loc l1), some (.loc l2), z2, some (.loc kr), z4, z5, z6, z7, none, none, none, none, none, none, none], ⟨[], none, none, none, none, by rw [List.append_nil]; rfl, rfl⟩, fun _ _ _ ⟨_, _, _, _, _, h, _⟩ => by rw [h]; exact get_app (get_app (get_app hl1)), ?_, ?_⟩
    · rintro pre p post v2 S2 e ⟨G2, z4, z5, z6, z7, rfl, rfl⟩
      have hp : p ∈ ts := by rw [e]; simp
      have okp := ot.2.2 p hp
      have hpre : pre.length ≤ 60 := by have := congrArg List.length e; rw [List.length_append] at this; omega
      have hrl := rl pre fun x hx => ot.2.2 x (by rw [e]; exact List.mem_append_left _ hx)
      have w13 := marked_len (ts := [p]) fun x hx => by rw [List.mem_singleton.mp hx]; exact okp
      have w13 : (within [p.1] p.2).length ≤ 13 := by
        have e1 : markedOf [p] = within [p.1] p.2 := by show within [p.1] p.2 ++ [] = _; rw [List.append_nil]
        rw [e1] at w13; exact w13
      refine (WG.tup rfl (WGs.cons (WG.name 4 (WGs.cons (WG.name 5 (WGs.nil ?_) sc_written.nd)) sc_written.nd)) rfl)
      refine WSs.one (WS.forL wD (WE.cal G_all_within (hr.mono (by first|decide|omega)) (WA.cons (WE.var 4 rfl (WA.cons (WE.var 5 rfl (WA.nil ⟨p.1, p.2, rfl, okp, ⟨_, within [p.1] p.2, rfl, lcat _ _, ?_⟩⟩)))))) PassesOwn.never rfl)
      refine ⟨fun pre2 v3 S3 => ∃ G3 z6 z7, S3 = S ++ G ++ [.lst ((rwTs 0 (pre.map (·.2)) ++ pre2.map depR).map rwoD)] ++ (G2 ++ [.lst ((within [p.1] p.2).map wD)] ++ G3) ∧ v3 = [some (.loc l1), some (.loc l2), z2, some (.loc kr), some (.int p.1), some (eT p.2), z6, z7, none, none, none, none, none, none, none], ⟨[], z6, z7, by rw [List.map_nil, List.append_nil, List.append_nil, List.append_assoc _ G2], rfl⟩, fun _ _ _ ⟨G3, _, _, h, _⟩ => ?_, ?_, ?_⟩
      · rw [h, ← List.append_assoc]
        refine get_app ?_
        rw [← List.append_assoc]
        have el : ∀ o o' : Ob, (S ++ G ++ [o] ++ G2).length = (S ++ G ++ [o'] ++ G2).length := fun o o' => by simp
        rw [el _ (.lst ((rwTs 0 (pre.map (·.2)) ++ _).map rwoD))]
        exact lcat _ _
      · rintro pre2 x2 post2 v3 S3 e2 ⟨G3, z6, z7, rfl, rfl⟩
        have hx2 : x2 ∈ within [p.1] p.2 := by rw [e2]; simp
        have hp2 : pre2.length ≤ 13 := by have := congrArg List.length e2; rw [List.length_append] at this; omega
        refine (WG.tup rfl (WGs.cons (WG.name 6 (WGs.cons (WG.name 7 (WGs.nil ?_) sc_written.nd)) sc_written.nd)) rfl)
        refine WSs.one (WS.expr (WE.bm PySem.F.plainAttrs_list PySem.F.slot_list_append PySem.F.type_list_append (WE.var 3 rfl ⟨?_, (WA.cons (WE.bin (WE.tup (WA.cons (WE.str (WA.cons (WE.bin (WE.callB (WA.cons (WE.var 6 rfl (WA.nil (CW.lenT (xs := x2.1.map D.int) (WE.int (BW.sub (WA.nil ⟨by show 2 ≤ sizeLine; exact sz (by decide), (WE.var 7 rfl (BW.catT (by simp) ?_ (WA.nil (MW.append (xs := (rwTs 0 (pre.map (·.2)) ++ pre2.map depR).map rwoD) (gk _ _) (by rw [List.length_map, List.length_append, List.length_map]; exact szl (by omega)) ?_))))⟩))))))) B.len PySem.boot_len))))))))⟩)))
        · exact Or.inl ⟨rfl, _, gk _ _⟩
        · have o3 := ((marked_ok (ts := [p]) (fun y hy => by rw [List.mem_singleton.mp hy]; exact okp) (by show 1 ≤ 60; decide)).2 x2 (by
            show x2 ∈ within [p.1] p.2 ++ []
            rw [List.append_nil]; exact hx2)).2.2.1
          refine sz ?_
          show 2 + (x2.2.map D.int).length ≤ 100000
          rw [List.length_map]
          omega
        · refine WkE.same ⟨G3, some (eM x2.1), some (eM x2.2), ?_, rfl⟩
          have en : (rwTs 0 (pre.map (·.2)) ++ (pre2 ++ [x2]).map depR).map rwoD = (rwTs 0 (pre.map (·.2)) ++ pre2.map depR).map rwoD ++ [.tup ([.str "thing", .int (((x2.1.map D.int).length : Nat) - 1)] ++ x2.2.map D.int)] := by
            rw [List.map_append (f := depR), ← List.append_assoc, List.map_append (f := rwoD), List.length_map]; rfl
          rw [en]
          exact sk _ _ _
      · rintro v3 S3 ⟨G3, z6, z7, rfl, rfl⟩
        exact WkE.same ⟨G2 ++ [.lst ((within [p.1] p.2).map wD)] ++ G3, some (.int p.1), some (eT p.2), z6, z7, by rw [sn, within_top], rfl⟩
    · rintro v2 S2 ⟨G2, z4, z5, z6, z7, rfl, rfl⟩
      have hrl := rl ts ot.2.2
      have er : (rwTs 0 (ts.map (·.2))).map rwoD = ((rwTs 0 (ts.map (·.2))).map thR).map rwDD := by rw [List.map_map]; rfl
      rw [er]
      obtain ⟨rt, hrt⟩ : ∃ rt, rt = (rwTs 0 (ts.map (·.2))).map thR := ⟨_, rfl⟩
      have rtl : rt.length ≤ 780 := by rw [hrt, List.length_map]; omega
      rw [← hrt]
      refine WSs.cons (WS.forL heD (WE.var 1 rfl ⟨l2, hs, rfl, get_app (get_app (get_app hl2)), ?_⟩) PassesOwn.never rfl)
      refine ⟨fun pre v3 S3 => ∃ G3 z4 z8 z9, S3 = S ++ G ++ [.lst ((rt ++ heRs pre).map rwDD)] ++ G3 ∧ (heRs pre).length ≤ 7 * pre.length ∧ v3 = [some (.loc l1), some (.loc l2), z2, some (.loc kr), z4, z5, z6, z7, z8, z9, none, none, none, none, none], ⟨G2, z4, none, none, by rw [show heRs [] = [] from rfl, List.append_nil], Nat.le_refl _, rfl⟩, fun _ _ _ ⟨_, _, _, _, h, _⟩ => by rw [h]; exact get_app (get_app (get_app hl2)), ?_, ?_⟩
      · rintro pre x post v3 S3 e ⟨G3, z4, z8, z9, rfl, hl7, rfl⟩
        have hx : x ∈ hs := by rw [e]; simp
        have okx := oh.2.2 x hx
        have hpre : pre.length ≤ 60 := by have := congrArg List.length e; rw [List.length_append] at this; omega
        have ehe : heRs (pre ++ [x]) = heRs pre ++ ([Rw.hp x.2.2] ++ x.2.1.map fun c : Clm => Rw.cl c.1 c.2) := by
          unfold heRs
          rw [List.flatMap_append]
          show _ ++ (heR x ++ []) = _
          rw [List.append_nil]; rfl
        refine (WG.tup rfl (WGs.cons (WG.name 4 (WGs.cons (WG.name 8 (WGs.cons (WG.name 9 (WGs.nil ?_) sc_written.nd)) sc_written.nd)) sc_written.nd)) rfl)
        refine WSs.cons (WS.expr (WE.bm PySem.F.plainAttrs_list PySem.F.slot_list_append PySem.F.type_list_append (WE.var 3 rfl ⟨?_, (WA.cons (WE.tup (WA.cons (WE.str (WA.cons (WE.var 9 rfl (WA.nil ⟨by show 2 ≤ sizeLine; exact sz (by decide), (WA.nil (MW.append (xs := (rt ++ heRs pre).map rwDD) (gk _ _) (by rw [List.length_map, List.length_append]; exact szl (by omega)) ?_))⟩)))))))⟩)))
        · exact Or.inl ⟨rfl, _, gk _ _⟩
        rw [sk]
        have e1 : (rt ++ heRs pre).map rwDD ++ [D.tup [.str "helper", .int x.2.2]] = (rt ++ heRs pre ++ [Rw.hp x.2.2]).map rwDD := by rw [List.map_append (l₁ := rt ++ heRs pre)]; rfl
        rw [e1]
        refine WSs.bel fun b4 => ?_
        refine WSs.one (WS.expr (WE.bm PySem.F.plainAttrs_list PySem.F.slot_list_extend PySem.F.type_list_extend (WE.var 3 rfl ⟨?_, (WA.cons (WE.lcT [11, 12] [("wanted", 11), ("worth", 12)] (WI.tup (WE.var 8 rfl ⟨x.2.1.map eC, rfl, ?_⟩)) (by decide) rfl sc_written.nd (blkOk_by (N := N_written) (sc := defScope s_written) (by decide +kernel)) (fun Y hY => by obtain ⟨_, _, _, _, _, rfl⟩ := hY; exact pg_tup rfl (pgs_cons (pg_name sc_written.nd rfl (by first | exact Or.inl rfl | exact Or.inr rfl)) (pgs_cons (pg_name sc_written.nd rfl (by first | exact Or.inl rfl | exact Or.inr rfl)) pgs_nil rfl) rfl) rfl rfl)))⟩)))
        · exact Or.inl ⟨rfl, _, gk _ _⟩
        refine lc_fm eC x.2.1 (fun c => some (rwDD (.cl c.1 c.2))) rfl b4 (by have := okx.1.1; omega) (fun _ => trivial) ?_ ?_
        · intro c acc hc
          refine ⟨_, rfl, fun Y hY => ⟨⟨[], by simp⟩, fun _ Z hZ => ?_, fun z => (by cases z)⟩⟩
          obtain ⟨_, _, _, _, _, rfl⟩ := hZ
          have c3 := (okx.1.2 c hc).1.1
          refine (WE.bin (WE.bin (WE.tup (WA.cons (WE.str (WA.nil ⟨by show 1 ≤ sizeLine; exact sz (by decide), (WE.var 11 rfl (BW.catT (by simp) ?_ (WE.tup (WA.cons (WE.var 12 rfl (WA.nil ⟨by show 1 ≤ sizeLine; exact sz (by decide), (BW.catT (by simp) ?_ ⟨⟨[], by simp⟩, ?_, ?_⟩)⟩))))))⟩))))))
          · refine sz ?_
            show 1 + (c.1.map D.int).length ≤ 100000
            rw [List.length_map]; omega
          · refine sz ?_
            rw [List.length_append]
            show 1 + (c.1.map D.int).length + 1 ≤ 100000
            rw [List.length_map]; omega
          · show bel.belAll _ ([D.str "claim"] ++ c.1.map D.int ++ [D.int c.2]) = true
            exact belAll_append (belAll_append rfl (belInts _)) rfl
          · show some (D.tup (.str "claim" :: (c.1 ++ [c.2]).map D.int)) = some (D.tup ([D.str "claim"] ++ c.1.map D.int ++ [D.int c.2]))
            rw [List.map_append]; rfl
        · have ef : (x.2.1.filterMap fun c : Clm => some (rwDD (.cl c.1 c.2))) = (x.2.1.map fun c : Clm => Rw.cl c.1 c.2).map rwDD := by
            rw [List.map_map]
            show List.filterMap (some ∘ fun c : Clm => rwDD (.cl c.1 c.2)) _ = _
            rw [List.filterMap_eq_map]; rfl
          rw [ef]
          refine WA.nil (MW.extend (xs := (rt ++ heRs pre ++ [Rw.hp x.2.2]).map rwDD) (ys := (x.2.1.map fun c : Clm => Rw.cl c.1 c.2).map rwDD) (get_app (gk _ _)) (lcat _ _) (by simp only [List.length_map, List.length_append, List.length_singleton]; have := okx.1.1; exact sz (by omega)) ?_)
          rw [List.append_assoc _ G3, sk]
          refine WkE.same ⟨G3 ++ [Ob.lst ((x.2.1.map fun c : Clm => Rw.cl c.1 c.2).map rwDD)], some (.int x.1), some (eCs x.2.1), some (.int x.2.2), ?_, ?_, rfl⟩
          · rw [ehe, ← List.map_append]; simp only [List.append_assoc]
          · rw [ehe, List.length_append, List.length_append, List.length_map, List.length_append, List.length_singleton, List.length_singleton]
            have := okx.1.1
            omega
      · rintro v3 S3 ⟨G3, z4, z8, z9, rfl, hl7, rfl⟩
        have era : rt ++ heRs hs = rowsAll ts hs := by rw [hrt]; rfl
        rw [era]
        have okr := rowsAll_ok ot oh t6
        have lnr := rowsAll_len ot oh t6 h6
        generalize rowsAll ts hs = rs at *
        refine WSs.bel fun b4 => ?_
        refine WSs.one (WS.ret (WE.join (WE.str ⟨_, rfl, (WE.lcN 13 [("row", 13)] (WI.list (WE.var 3 rfl ⟨kr, rs.map rwDD, rfl, gk _ _, ?_⟩)) (by decide) rfl sc_written.nd (blkOk_by (N := N_written) (sc := defScope s_written) (by decide +kernel)) (fun Y hY => by obtain ⟨_, _, _, _, _, rfl⟩ := hY; exact pg_name sc_written.nd rfl (by first | exact Or.inl rfl | exact Or.inr rfl)))⟩)))
        refine lc_fm rwDD rs (fun r => some (.str r.txt)) rfl b4 (by omega) (fun _ => get_app (gk _ _)) ?_ ?_
        · intro r acc hr2
          have okr1 := okr r hr2
          have w100 := words_each okr1
          have wfit := words_fit okr1
          refine ⟨_, rfl, fun Y hY => ⟨⟨[], by simp⟩, fun _ Z hZ => ?_, fun z => (by cases z)⟩⟩
          obtain ⟨_, _, _, _, _, rfl⟩ := hZ
          refine WE.join (WE.str ⟨_, rfl, WE.bin (WE.lst (WA.cons (WE.ix (WE.var 13 rfl (WE.int (IW.tup (xs := .str r.word :: r.nums.map D.int) (d := .str r.word) (atI_nat (j := 0) rfl) (WA.nil ⟨by show 1 ≤ sizeLine; exact sz (by decide), ?_⟩)))))))⟩)
          refine WE.bel fun b5 => ?_
          have n100 : r.nums.length ≤ 100 := by
            have := w100.1
            unfold Rw.words at this
            rw [List.length_cons, List.length_map] at this
            omega
          refine (WE.lcN 14 [("part", 14)] (WI.tup (WE.slTA (WE.var 13 rfl (WO.some (WE.int ⟨_, rfl, (WO.none ⟨_, rfl, ⟨r.nums.map D.int, congrArg D.tup (cutD_from (.str r.word :: r.nums.map D.int) 1), ?_⟩⟩)⟩))))) (by decide) rfl sc_written.nd (blkOk_by (N := N_written) (by first | decide +kernel | kernel_rfl)) (fun Y hY => by obtain ⟨_, _, _, _, _, rfl⟩ := hY; exact pg_name sc_written.nd rfl (by first | exact Or.inl rfl | exact Or.inr rfl)))
          refine lc_fm D.int r.nums (fun i => some (.str (nS i))) rfl b5 (by omega) (fun _ => trivial) ?_ ?_
          · intro i acc2 hi
            refine ⟨_, rfl, fun Y hY => ⟨⟨[], by simp⟩, fun _ Z hZ => ?_, fun z => (by cases z)⟩⟩
            obtain ⟨_, _, _, _, _, rfl⟩ := hZ
            have ir := okr1.rng i hi
            exact (WE.callT (WA.cons (WE.var 14 rfl (WA.nil (CW.strI (log_small ir.1 ir.2) ⟨⟨[], by simp⟩, rfl, rfl⟩)))) B.str boot_str)
          · rw [fm_strs]
            refine BW.catL (xs := [.str r.word]) (ys := (r.nums.map nS).map D.str) (get_app (lcat _ _)) (lcat _ _) (by rw [List.length_map, List.length_map]; show 1 + _ ≤ sizeLine; exact sz (by omega)) ⟨_, r.words, rfl, lcat _ _, by omega, ⟨_, by simp only [List.append_assoc]; rfl⟩, rfl, rfl⟩
        · have ef : (rs.filterMap fun r => some (D.str r.txt)) = (rs.map Rw.txt).map D.str := by
            rw [List.map_map]
            show List.filterMap (some ∘ fun r : Rw => D.str r.txt) _ = _
            rw [List.filterMap_eq_map]; rfl
          rw [ef]
          refine ⟨_, rs.map Rw.txt, rfl, lcat _ _, Nat.le_trans (txts_fit okr (by omega)) (by decide), _, S, ?_, q⟩
          simp only [List.append_assoc]
          exact CovD.drop bS rfl
end

/-! ### what the laws draw -/
section
variable {P : Program} {w : World} {K : PySem.W.Frag} {mg : Str → Option Value} {base : Heap} {f : Addr}
abbrev N__law_mix : List Str := ["_law_script", "_law_seed", "_law_mixed", "_law_cell"]
theorem sc__law_mix : FnScope N__law_mix ["_law_script", "_law_seed"] (defScope s__law_mix) := ⟨rfl, rfl, rfl, by decide +kernel, rfl, by decide +kernel, by decide +kernel⟩
theorem bd__law_mix : BindOk "_law_mix" "_law_mix" s__law_mix ["_law_script", "_law_seed"] := fun _ _ _ _ _ _ us hl => match us, hl with | [_, _], _ => rfl
def sp__law_mix (K : PySem.W.Frag) : SpD := fun ds S Q => ∃ d ns seed, ds = [d, .int seed] ∧ S = [] ∧ ScrD K d ns ∧ ns.length ≤ 63 ∧ Q (.loc 1) (dS (mixDr ns seed) [])
abbrev C__law_mix (P : Program) (w : World) (K : PySem.W.Frag) (mg : Str → Option Value) (base : Heap) : Prop := Cal P w K mg base "_law_mix" 1 ["_law_script", "_law_seed"] (sp__law_mix K)
theorem c__law_mix (B : Bt mg) (df : Df K "_law_mix" "_law_mix" s__law_mix f) (hm : mg "_law_mix" = some (.ref f)) : C__law_mix P w K mg base := by
  refine calD df hm sc__law_mix bd__law_mix (fun ds S Q ⟨d, ns, seed, e, _⟩ => by rw [e]; rfl) ?_
  rintro cdv A outer s H E ds S Q hr bS bD ⟨d, ns, seed, rfl, rfl, hs, hl, q⟩
  refine WSs.cons (WS.set 2 (WE.var 1 rfl ?_) sc__law_mix.nd)
  refine WSs.cons (WS.for (WI.scr (WE.var 0 rfl ⟨ns, hs, ?_⟩)) PassesOwn.never rfl)
  refine ⟨fun i v2 S2 => S2 = [] ∧ ∃ z, v2 = [some d, some (.int seed), some (.int (mixI (ns.take i) seed)), z], ⟨rfl, none, rfl⟩, fun _ _ _ _ _ => trivial, ?_, ?_⟩
  · rintro i d' v2 S2 hd ⟨rfl, z, rfl⟩
    have hd : (ns.map D.int)[i]? = some d' := hd
    obtain ⟨c, hci, rfl⟩ : ∃ c, ns[i]? = some c ∧ d' = .int c := by
      rw [List.getElem?_map] at hd
      cases e : ns[i]? with
      | none => rw [e] at hd; cases hd
      | some c => rw [e] at hd; exact ⟨c, rfl, (Option.some.inj hd).symm⟩
    refine WG.name 3 ?_ sc__law_mix.nd
    refine WSs.one (WS.set 2 (WE.bin (WE.bin (WE.bin (WE.bin (WE.var 2 rfl (WE.int (BW.mul (by first | exact .inr ⟨by decide, by decide⟩ | exact .inl ⟨by decide, by decide⟩) (WE.bin (WE.var 3 rfl (WE.int (BW.mod (by decide) (BW.add (WE.int (BW.add (WE.int (BW.mod (by decide) (WkE.same ⟨rfl, some (.int c), ?_⟩))))))))))))))))) sc__law_mix.nd)
    have : ns.take (i + 1) = ns.take i ++ [c] := by rw [List.take_add_one, hci]; rfl
    unfold mixI
    rw [this, List.foldl_append]
    rfl
  · rintro v2 S2 ⟨rfl, z, rfl⟩
    rw [show (Src.items ⟨ns.map D.int, fun _ => True⟩) = ns.map D.int from rfl, List.length_map, List.take_length]
    refine WSs.one (WS.ret (WE.lst (WA.cons (WE.var 2 rfl (WA.cons (WE.callT (WA.cons (WE.var 0 rfl (WA.nil (CW.listScr hs (WA.cons (WE.int (WA.nil ⟨by show 3 ≤ sizeLine; exact sz (by decide), (WkD.same q)⟩))))))) B.list boot_list))))))
abbrev N__law_next : List Str := ["_law_h", "_law_many", "_law_at", "_law_cell"]
theorem sc__law_next : FnScope N__law_next ["_law_h", "_law_many"] (defScope s__law_next) := ⟨rfl, rfl, rfl, by decide +kernel, rfl, by decide +kernel, by decide +kernel⟩
theorem bd__law_next : BindOk "_law_next" "_law_next" s__law_next ["_law_h", "_law_many"] := fun _ _ _ _ _ _ us hl => match us, hl with | [_, _], _ => rfl
def sp__law_next : SpD := fun ds S Q => ∃ dr R k, ds = [.loc 1, .int k] ∧ S = dS dr R ∧ 0 < k ∧ k < 1073741824 ∧ Q (.int (nx dr k).1) (dS (nx dr k).2 R)
abbrev C__law_next (P : Program) (w : World) (K : PySem.W.Frag) (mg : Str → Option Value) (base : Heap) : Prop := Cal P w K mg base "_law_next" 1 ["_law_h", "_law_many"] sp__law_next
theorem c__law_next (B : Bt mg) (df : Df K "_law_next" "_law_next" s__law_next f) (hm : mg "_law_next" = some (.ref f)) : C__law_next P w K mg base := by
  refine calD df hm sc__law_next bd__law_next (fun ds S Q ⟨dr, R, k, e, _⟩ => by rw [e]; rfl) ?_
  rintro cdv A outer s H E ds S Q hr bS bD ⟨dr, R, k, rfl, rfl, hk0, hk1, q⟩
  have e0 : ∀ dr' : Dr, (dS dr' R)[0]? = some (.lst (dr'.cells.map D.int)) := fun _ => rfl
  have hmx : 0 < (if 1 < dr.cells.length then dr.cells.length else 1) := by split <;> omega
  have hpl : dr.pl < dr.cells.length ∨ dr.cells = [] := by
    by_cases h : dr.cells = []
    · exact .inr h
    · have : 0 < dr.cells.length := List.length_pos_iff.mpr h
      have h2 := Nat.mod_lt dr.at_ hmx
      have h3 : dr.pl = dr.at_ % (if 1 < dr.cells.length then dr.cells.length else 1) := rfl
      left
      rw [h3]
      split at h2 <;> rename_i h4
      · rw [if_pos h4]; exact h2
      · rw [if_neg h4]; omega
  refine WSs.cons (WS.set 2 (WE.bin (WE.ix (WE.var 0 rfl (WE.int (IW.list (l := 1) rfl rfl (WE.callB (WA.cons (WE.int (WA.cons (WE.callB (WA.cons (WE.ix (WE.var 0 rfl (WE.int (IW.list (l := 1) rfl rfl (WA.nil (CW.lenL (e0 dr) (WA.nil (CW.max2 rfl (BW.mod (by split <;> omega) ?_)))))))))) B.len PySem.boot_len)))) B.max boot_max)))))) sc__law_next.nd)
  have eat : ((dr.at_ : Int) % (if ((dr.cells.map D.int).length : Int) > 1 then ((dr.cells.map D.int).length : Int) else 1)) = (dr.pl : Int) := by
    rw [List.length_map]
    show _ = ((dr.at_ % (if 1 < dr.cells.length then dr.cells.length else 1) : Nat) : Int)
    by_cases h : 1 < dr.cells.length
    · rw [if_pos h, if_pos (by omega)]; omega
    · rw [if_neg h, if_neg (by omega)]; omega
  rw [eat]
  refine WSs.cons (WS.set 3 (WE.ite (WT.cmp (WE.ix (WE.var 0 rfl (WE.int (IW.list (l := 1) rfl rfl (WE.lst (WA.nil ⟨by show 0 ≤ sizeLine; exact sz (by decide), ?_⟩)))))))) sc__law_next.nd)
  refine BW.neL (l := 0) (xs := dr.cells.map D.int) (ys := []) rfl (by simp) (fun x hx => by obtain ⟨c, _, rfl⟩ := List.mem_map.mp hx; rfl) (fun _ h => by cases h) hr.units ?_
  have go : WSs (cxOf CX0 P w K mg base N__law_next "_law_next" (defScope s__law_next) f cdv A outer s H E).nox (dS dr R).length ((defBody s__law_next).drop 2) [some (.loc 1), some (.int k), some (.int (dr.pl : Int)), some (.int dr.cell)] (dS dr R ++ [.lst []]) (fnEnds (dS dr R).length Q) := by
    have fin : ∀ G, WkD (dS dr R).length (.int (nx dr k).1) (dS (nx dr k).2 R ++ G) Q := fun G => ⟨_, _, cov_dS bS rfl, q⟩
    refine WSs.cons (WS.ite (WT.cmp (WE.var 3 rfl (WE.bin (WE.int (WE.int (BW.pow ⟨by decide, by decide, by decide⟩ (BW.ge ⟨_, rfl, ⟨fun h1 => ?_, fun h1 => ?_⟩⟩))))))))
    · have hc : (1000000000000000000 : Int) ≤ dr.cell := by
        have := of_decide_eq_true h1
        exact Int.le_trans (by decide) this
      have en : nx dr k = (dr.cell % k, ⟨dr.m, dr.cells.set dr.pl (dr.cell / k), dr.at_⟩) := by unfold nx; rw [if_pos hc]
      have hne : dr.pl < dr.cells.length := hpl.resolve_right fun z => by
        have : dr.cell = 0 := by unfold Dr.cell; rw [if_pos z]
        omega
      refine WSs.cons (WS.asg (WE.bin (WE.var 3 rfl (WE.var 1 rfl (BW.fdiv ⟨hk0, hk1⟩ (WG.setL (WE.ix (WE.var 0 rfl (WE.int (IW.list (l := 1) rfl rfl (WE.var 2 rfl ⟨0, dr.cells.map D.int, (dr.pl : Int), dr.pl, rfl, rfl, rfl, ?_, ?_⟩)))))))))))
      · unfold ixN
        rw [List.length_map, if_pos (by omega), if_pos (by omega)]
        simp
      · refine WSs.one (WS.ret (WE.bin (WE.var 3 rfl (WE.var 1 rfl (BW.mod hk0 ?_)))))
        have := fin [.lst []]
        rw [en] at this
        have e2 : (dr.cells.map D.int).set dr.pl (.int (dr.cell / k)) = (dr.cells.set dr.pl (dr.cell / k)).map D.int := by rw [List.map_set]
        show WkD _ _ (.lst ((dr.cells.map D.int).set dr.pl (.int (dr.cell / k))) :: _) Q
        rw [e2]
        exact this
    · have hc : ¬ (1000000000000000000 : Int) ≤ dr.cell := fun z => by
        have := of_decide_eq_false h1
        exact this (Int.le_trans (by decide) z)
      have en : nx dr k = ((dr.m * 48271 + dr.cell * 69621 + 11) % 2147483647 / 7 % k, ⟨(dr.m * 48271 + dr.cell * 69621 + 11) % 2147483647, dr.cells, dr.at_ + 1⟩) := by unfold nx; rw [if_neg hc]
      refine WSs.nil ?_
      refine WSs.cons (WS.asg (WE.bin (WE.bin (WE.bin (WE.bin (WE.ix (WE.var 0 rfl (WE.int (IW.list (l := 1) rfl rfl (WE.int (BW.mul (by first | exact .inr ⟨by decide, by decide⟩ | exact .inl ⟨by decide, by decide⟩) (WE.bin (WE.var 3 rfl (WE.int (BW.mul (by first | exact .inr ⟨by decide, by decide⟩ | exact .inl ⟨by decide, by decide⟩) (BW.add (WE.int (BW.add (WE.int (BW.mod (by decide) (WG.setL (WE.var 0 rfl (WE.int ⟨1, _, 0, 0, rfl, rfl, rfl, rfl, ?_⟩)))))))))))))))))))))))
      refine WSs.cons (WS.asg (WE.bin (WE.ix (WE.var 0 rfl (WE.int (IW.list (l := 1) rfl rfl (WE.int (BW.add (WG.setL (WE.var 0 rfl (WE.int ⟨1, _, 2, 2, rfl, rfl, rfl, rfl, ?_⟩)))))))))))
      refine WSs.one (WS.ret (WE.bin (WE.bin (WE.ix (WE.var 0 rfl (WE.int (IW.list (l := 1) rfl rfl (WE.int (BW.fdiv ⟨by decide, by decide⟩ (WE.var 1 rfl (BW.mod hk0 ?_)))))))))))
      have := fin [.lst []]
      rw [en] at this
      exact this
  refine ⟨_, rfl, fun h1 => ?_, fun h1 => ?_⟩
  · have hne : dr.cells ≠ [] := by simpa using h1
    have hp := hpl.resolve_right hne
    refine (WE.ix (WE.ix (WE.var 0 rfl (WE.int (IW.list (l := 1) rfl rfl (WE.var 2 rfl (IW.list (l := 0) (xs := dr.cells.map D.int) (d := .int (dr.cells.getD dr.pl 0)) rfl (at_ints hp) ?_)))))))
    have : dr.cell = dr.cells.getD dr.pl 0 := by unfold Dr.cell; rw [if_neg hne]
    rw [← this]
    exact go
  · have hne : dr.cells = [] := by simpa using h1
    refine WE.int ?_
    have : dr.cell = 0 := by unfold Dr.cell; rw [if_pos hne]
    rw [this] at go
    exact go
end

section
variable {P : Program} {w : World} {K : PySem.W.Frag} {mg : Str → Option Value} {base : Heap} {f : Addr}
abbrev N__law_marks : List Str := ["_law_h", "_law_k"]
theorem sc__law_marks : FnScope N__law_marks ["_law_h"] (defScope s__law_marks) := ⟨rfl, rfl, rfl, by decide +kernel, rfl, by decide +kernel, by decide +kernel⟩
theorem bd__law_marks : BindOk "_law_marks" "_law_marks" s__law_marks ["_law_h"] := fun _ _ _ _ _ _ us hl => match us, hl with | [_], _ => rfl
def sp__law_marks : SpD := fun ds S Q => ∃ dr R, ds = [.loc 1] ∧ S = dS dr R ∧ Q (eM (dMarks dr).1) (dS (dMarks dr).2 R)
abbrev C__law_marks (P : Program) (w : World) (K : PySem.W.Frag) (mg : Str → Option Value) (base : Heap) : Prop := Cal P w K mg base "_law_marks" 2 ["_law_h"] sp__law_marks
theorem c__law_marks (B : Bt mg) (G__law_next : C__law_next P w K mg base) (df : Df K "_law_marks" "_law_marks" s__law_marks f) (hm : mg "_law_marks" = some (.ref f)) : C__law_marks P w K mg base := by
  refine calD df hm sc__law_marks bd__law_marks (fun ds S Q ⟨dr, R, e, _⟩ => by rw [e]; rfl) ?_
  rintro cdv A outer s H E ds S Q hr bS bD ⟨dr, R, rfl, rfl, q⟩
  refine WSs.one (WS.ret (WE.callT (WA.cons (WE.lcN 1 [("_law_k", 1)] (WI.range1 (WA.cons (WE.int (WA.nil ⟨3, rfl, by decide, by decide, ?_⟩))) B.range) (by decide) rfl sc__law_marks.nd (blkOk_by (N := N__law_marks) (sc := defScope s__law_marks) (by decide +kernel))
        (fun Y hY => by obtain ⟨_, _, _, _, _, rfl⟩ := hY; exact pg_name sc__law_marks.nd rfl (Or.inl rfl)))) B.tuple boot_tuple))
  refine lc_draw (fun (k : Nat) => D.int (0 + (k : Int))) D.int dMark (List.range 3) (fun _ _ => rfl) bS (by decide) (fun _ _ => trivial) ?_ ?_
  · intro b dr' acc hb
    refine ⟨_, rfl, fun Y hY => ?_⟩
    obtain ⟨_, _, _, _, _, rfl⟩ := hY
    have h1 := nx_bd dr' (k := 3) (by decide)
    have h2 := pick3_bd h1
    refine (WE.cal G__law_next (hr.mono (by first|decide|omega)) (WA.cons (WE.var 0 rfl (WA.cons (WE.ix (WE.lst (WA.cons (WE.int (WA.cons (WE.int (WA.cons (WE.int (WA.nil ⟨by show 3 ≤ sizeLine; exact sz (by decide), (WE.cal G__law_next (hr.mono (by first|decide|omega)) (WA.cons (WE.var 0 rfl (WA.cons (WE.int (WA.nil ⟨dr', R ++ [.lst acc] ++ [.lst [.int 2, .int 3, .int 10]], 3, rfl, rfl, by decide, by decide, (IW.list (xs := [.int 2, .int 3, .int 10]) (by simp [dS]) h2.2.2 (WA.nil ⟨(nx dr' 3).2, R ++ [.lst acc] ++ [.lst [.int 2, .int 3, .int 10]], pick3 (nx dr' 3).1, rfl, rfl, by omega, by omega, ⟨rfl, [.lst [.int 2, .int 3, .int 10]], rfl⟩⟩))⟩))))))⟩)))))))))))))
  · refine WA.nil (CW.tupL (xs := (dMarks dr).1.map D.int) ?_ ?_)
    · show (R ++ [Ob.lst ((dMarks dr).1.map D.int)])[R.length]? = _
      simp
    · exact ⟨_, _, cov_dS (dr' := (dMarks dr).2) (G := [.lst ((dMarks dr).1.map D.int)]) bS (bel_eM _), q⟩
abbrev N__law_claims : List Str := ["_law_h", "_law_found", "_law_k", "_law_marks_here", "_law_wanted", "_law_mark"]
theorem sc__law_claims : FnScope N__law_claims ["_law_h"] (defScope s__law_claims) := ⟨rfl, rfl, rfl, by decide +kernel, rfl, by decide +kernel, by decide +kernel⟩
theorem bd__law_claims : BindOk "_law_claims" "_law_claims" s__law_claims ["_law_h"] := fun _ _ _ _ _ _ us hl => match us, hl with | [_], _ => rfl
def sp__law_claims : SpD := fun ds S Q => ∃ dr R, ds = [.loc 1] ∧ S = dS dr R ∧ Q (eCs (dClaims dr).1) (dS (dClaims dr).2 R)
abbrev C__law_claims (P : Program) (w : World) (K : PySem.W.Frag) (mg : Str → Option Value) (base : Heap) : Prop := Cal P w K mg base "_law_claims" 3 ["_law_h"] sp__law_claims
theorem c__law_claims (B : Bt mg) (G__law_next : C__law_next P w K mg base) (G__law_marks : C__law_marks P w K mg base) (df : Df K "_law_claims" "_law_claims" s__law_claims f) (hm : mg "_law_claims" = some (.ref f)) : C__law_claims P w K mg base := by
  refine calD df hm sc__law_claims bd__law_claims (fun ds S Q ⟨dr, R, e, _⟩ => by rw [e]; rfl) ?_
  rintro cdv A outer s H E ds S Q hr bS bD ⟨dr, R, rfl, rfl, q⟩
  refine WSs.cons (WS.set 1 (WE.lst (WA.nil ⟨by show 0 ≤ sizeLine; exact sz (by decide), ?_⟩)) sc__law_claims.nd)
  have h1 := nx_bd dr (k := 2) (by decide)
  have h2 := pick2_bd 3 7 h1
  have h3 := nx_bd (nx dr 2).2 (k := (([3, 7] : List Int).getD (nx dr 2).1.toNat 0)) (by rcases h2.1 with e | e <;> rw [e] <;> decide)
  have hk : 0 < (([3, 7] : List Int).getD (nx dr 2).1.toNat 0) ∧ (([3, 7] : List Int).getD (nx dr 2).1.toNat 0) ≤ 7 := by rcases h2.1 with e | e <;> rw [e] <;> decide
  refine WSs.cons (WS.for (WI.range1 (WA.cons (WE.cal G__law_next (hr.mono (by first|decide|omega)) (WA.cons (WE.var 0 rfl (WA.cons (WE.ix (WE.lst (WA.cons (WE.int (WA.cons (WE.int (WA.nil ⟨by show 2 ≤ sizeLine; exact sz (by decide), (WE.cal G__law_next (hr.mono (by first|decide|omega)) (WA.cons (WE.var 0 rfl (WA.cons (WE.int (WA.nil ⟨dr, R ++ [.lst []] ++ [.lst [.int 3, .int 7]], 2, rfl, rfl, by decide, by decide, (IW.list (xs := [.int 3, .int 7]) (by simp [dS]) h2.2 (WA.nil ⟨(nx dr 2).2, R ++ [.lst []] ++ [.lst [.int 3, .int 7]], _, rfl, rfl, hk.1, by omega, (WA.nil ⟨_, rfl, by omega, by omega, ?_⟩)⟩))⟩))))))⟩)))))))))))) B.range) PassesOwn.never rfl)
  generalize hn : (nx (nx dr 2).2 (([3, 7] : List Int).getD (nx dr 2).1.toNat 0)).1.toNat = n at *
  generalize hd1 : (nx (nx dr 2).2 (([3, 7] : List Int).getD (nx dr 2).1.toNat 0)).2 = dr1 at *
  have hdc : dClaims dr = dMap dClaim (List.range n) dr1 := by
    show dMap dClaim (List.range (nx (nx dr 2).2 (([3, 7] : List Int).getD (nx dr 2).1.toNat 0)).1.toNat) (nx (nx dr 2).2 (([3, 7] : List Int).getD (nx dr 2).1.toNat 0)).2 = _
    rw [hn, hd1]
  have hn7 : n ≤ 7 := by omega
  refine ⟨fun i v2 S2 => S2 = dS (dMap dClaim (List.range i) dr1).2 (R ++ [.lst ((dMap dClaim (List.range i) dr1).1.map eC), .lst [.int 3, .int 7]]) ∧ ∃ z2 z3 z4 z5, v2 = [some (.loc 1), some (.loc (R.length + 2)), z2, z3, z4, z5], ⟨by simp [dMap, dS], none, none, none, none, rfl⟩, fun _ _ _ _ _ => trivial, ?_, ?_⟩
  · rintro i d v2 S2 hd ⟨rfl, z2, z3, z4, z5, rfl⟩
    obtain ⟨hi, rfl⟩ := rngD_get.mp hd
    generalize he : dMap dClaim (List.range i) dr1 = st at *
    obtain ⟨cl, dr2⟩ := st
    have hcl : cl.length = i := by have := dMap_len dClaim (List.range i) dr1; rw [he, List.length_range] at this; exact this
    refine WG.name 2 ?_ sc__law_claims.nd
    refine WSs.cons (WS.set 3 (WE.cal G__law_marks (hr.mono (by first|decide|omega)) (WA.cons (WE.var 0 rfl (WA.nil ⟨dr2, _, rfl, rfl, ?_⟩)))) sc__law_claims.nd)
    have b1 : belS (R.length + 4) R := belS_mono (by show R.length + 2 ≤ _; omega) (bel_dR bS)
    have bR : ∀ (cs' : List (List Int × Int)) (dr' : Dr), belS (dS dr' (R ++ [Ob.lst (cs'.map eC), Ob.lst [D.int 3, D.int 7]])).length (dS dr' (R ++ [Ob.lst (cs'.map eC), Ob.lst [D.int 3, D.int 7]])) := fun cs' dr' => by
      have e : (dS dr' (R ++ [Ob.lst (cs'.map eC), Ob.lst [D.int 3, D.int 7]])).length = R.length + 4 := by simp [dS]
      rw [e]
      refine belS_cons (belInts _) (belS_cons ?_ (belS_append b1 (belS_cons (belAll_map bel_eC _) (belS_cons rfl belS_nil))))
      show (true && (decide (0 < R.length + 4) && (true && true))) = true
      simp
    refine WSs.cons (WS.set 4 (WE.callT (WA.cons (WE.lcN 5 [("_law_mark", 5)] (WI.tup (WE.var 3 rfl ⟨(dMarks dr2).1.map D.int, rfl, ?_⟩)) (by decide) rfl sc__law_claims.nd (blkOk_by (N := N__law_claims) (sc := defScope s__law_claims) (by decide +kernel))
        (fun Y hY => by obtain ⟨_, _, _, _, _, rfl⟩ := hY; exact pg_name sc__law_claims.nd rfl (Or.inl rfl)))) B.tuple boot_tuple) sc__law_claims.nd)
    refine lc_draw D.int D.int dWant (dMarks dr2).1 (fun _ _ => rfl) (bR cl _) (by rw [(dMarks_ok dr2).1]; decide) (fun _ _ => trivial) ?_ ?_
    · intro b dr' acc hb
      refine ⟨_, rfl, fun Y hY => ?_⟩
      obtain ⟨_, _, _, _, _, rfl⟩ := hY
      refine WE.ite (WT.cmp (WE.cal G__law_next (hr.mono (by first|decide|omega)) (WA.cons (WE.var 0 rfl (WA.cons (WE.int (WA.nil ⟨dr', _ ++ [.lst acc], 2, rfl, rfl, by decide, by decide, (WE.int (BW.eqI ⟨_, rfl, ⟨fun h => ?_, fun h => ?_⟩⟩))⟩)))))))
      · have h0 : (nx dr' 2).1 = 0 := of_decide_eq_true h
        refine WE.var 5 rfl ⟨?_, [], ?_⟩
        · show D.int b = .int (if (nx dr' 2).1 = 0 then b else -1)
          rw [if_pos h0]
        · simp [dS, dWant]
      · have h0 : ¬ (nx dr' 2).1 = 0 := of_decide_eq_false h
        refine WE.un (WE.int (UW.neg ⟨?_, [], ?_⟩))
        · show D.int (-1) = .int (if (nx dr' 2).1 = 0 then b else -1)
          rw [if_neg h0]
        · simp [dS, dWant]
    · refine WA.nil (CW.tupL (xs := (dMap dWant (dMarks dr2).1 (dMarks dr2).2).1.map D.int) (by simp [dS]) ?_)
      generalize hw : dMap dWant (dMarks dr2).1 (dMarks dr2).2 = wt
      obtain ⟨want, dr4⟩ := wt
      have g1 := nx_bd dr4 (k := 2) (by decide)
      have g2 := pick2_bd 2 10 g1
      have gk : 0 < (([2, 10] : List Int).getD (nx dr4 2).1.toNat 0) ∧ (([2, 10] : List Int).getD (nx dr4 2).1.toNat 0) ≤ 10 := by rcases g2.1 with e | e <;> rw [e] <;> decide
      refine WSs.one (WS.expr (WE.bm PySem.F.plainAttrs_list PySem.F.slot_list_append PySem.F.type_list_append (WE.var 1 rfl ⟨?_, (WA.cons (WE.tup (WA.cons (WE.var 4 rfl (WA.cons (WE.cal G__law_next (hr.mono (by first|decide|omega)) (WA.cons (WE.var 0 rfl (WA.cons (WE.ix (WE.lst (WA.cons (WE.int (WA.cons (WE.int (WA.nil ⟨by show 2 ≤ sizeLine; exact sz (by decide), (WE.cal G__law_next (hr.mono (by first|decide|omega)) (WA.cons (WE.var 0 rfl (WA.cons (WE.int (WA.nil ⟨dr4, R ++ [.lst (cl.map eC), .lst [.int 3, .int 7]] ++ [.lst (want.map D.int)] ++ [.lst [.int 2, .int 10]], 2, rfl, rfl, by decide, by decide, (IW.list (xs := [.int 2, .int 10]) (by simp [dS]) g2.2 (WA.nil ⟨(nx dr4 2).2, R ++ [.lst (cl.map eC), .lst [.int 3, .int 7]] ++ [.lst (want.map D.int)] ++ [.lst [.int 2, .int 10]], _, rfl, rfl, gk.1, by omega, (WA.nil ⟨by show 2 ≤ sizeLine; exact sz (by decide), (WA.nil (MW.append (xs := cl.map eC) (by simp [dS]) (by rw [List.length_map, hcl]; exact szl (by omega)) ?_))⟩)⟩))⟩))))))⟩))))))))))))))))⟩)))
      · exact Or.inl ⟨rfl, cl.map eC, by simp [dS]⟩
      · have ec : dMap dClaim (List.range (i + 1)) dr1 = (cl ++ [(want, (nx (nx dr4 2).2 (([2, 10] : List Int).getD (nx dr4 2).1.toNat 0)).1)], (nx (nx dr4 2).2 (([2, 10] : List Int).getD (nx dr4 2).1.toNat 0)).2) := by
          rw [List.range_succ, dMap_snoc, he]
          show (cl ++ [(dClaim i dr2).1], (dClaim i dr2).2) = _
          have : dClaim i dr2 = ((want, (nx (nx dr4 2).2 (([2, 10] : List Int).getD (nx dr4 2).1.toNat 0)).1), (nx (nx dr4 2).2 (([2, 10] : List Int).getD (nx dr4 2).1.toNat 0)).2) := by
            unfold dClaim
            simp only [hw]
          rw [this]
        generalize nx (nx dr4 2).2 (([2, 10] : List Int).getD (nx dr4 2).1.toNat 0) = r5 at *
        have es : (dS r5.2 (R ++ [.lst (cl.map eC), .lst [.int 3, .int 7]] ++ [.lst (want.map D.int)] ++ [.lst [.int 2, .int 10]])).set (R.length + 2) (.lst (cl.map eC ++ [.tup [.tup (want.map D.int), .int r5.1]])) =
            dS r5.2 (R ++ [.lst ((cl ++ [(want, r5.1)]).map eC), .lst [.int 3, .int 7]]) ++ [.lst (want.map D.int), .lst [.int 2, .int 10]] := by
          have := set_dR (dr := r5.2) (R := R) (G := [.lst [.int 3, .int 7], .lst (want.map D.int), .lst [.int 2, .int 10]]) (o := .lst (cl.map eC)) (u := .lst (cl.map eC ++ [.tup [.tup (want.map D.int), .int r5.1]]))
          simp only [List.append_assoc, List.cons_append, List.nil_append]
          rw [this]
          simp [dS, eC, eM]
        show WkE _ _ ((dS r5.2 (R ++ [.lst (cl.map eC), .lst [.int 3, .int 7]] ++ [.lst (want.map D.int)] ++ [.lst [.int 2, .int 10]])).set (R.length + 2) (.lst (cl.map eC ++ [.tup [.tup (want.map D.int), .int r5.1]]))) _
        rw [es]
        refine ⟨_, _, CovE.drop (v2 := [some (.loc 1), some (.loc (R.length + 2)), none, none, none, none]) ?_ (bR _ _) ?_ ?_, by rw [ec], _, _, _, _, rfl⟩
        · simp [dS]
        · exact lessK (lessK (lessS (lessS (lessS (lessS lessN)))))
        · exact belY (bel_loc (by rw [dS_len]; omega)) (belY (bel_loc (by rw [dS_len]; simp)) (belZ (belZ (belZ (belZ belN)))))
  · rintro v2 S2 ⟨rfl, z2, z3, z4, z5, rfl⟩
    have en : (Src.items ⟨rngD 0 n, fun _ => True⟩).length = n := rngD_len
    rw [en, ← hdc]
    refine WSs.one (WS.ret (WE.callT (WA.cons (WE.var 1 rfl (WA.nil (CW.tupL (xs := (dClaims dr).1.map eC) (by simp [dS]) ?_)))) B.tuple boot_tuple))
    exact ⟨_, _, cov_dS (dr' := (dClaims dr).2) (G := [.lst ((dClaims dr).1.map eC), .lst [.int 3, .int 7]]) bS (bel_eCs _), q⟩
end

section
variable {P : Program} {w : World} {K : PySem.W.Frag} {mg : Str → Option Value} {base : Heap} {f : Addr}
abbrev N__law_thing : List Str := ["_law_h", "_law_deep", "_law_many", "_law_k"]
theorem sc__law_thing : FnScope N__law_thing ["_law_h", "_law_deep"] (defScope s__law_thing) := ⟨rfl, rfl, rfl, by decide +kernel, rfl, by decide +kernel, by decide +kernel⟩
theorem bd__law_thing : BindOk "_law_thing" "_law_thing" s__law_thing ["_law_h", "_law_deep"] := fun _ _ _ _ _ _ us hl => match us, hl with | [_, _], _ => rfl
def sp__law_thing (n : Nat) : SpD := fun ds S Q => ∃ dr R, ds = [.loc 1, .int (n : Int)] ∧ S = dS dr R ∧ Q (eT (dThing n dr).1) (dS (dThing n dr).2 R)
abbrev C__law_thing (P : Program) (w : World) (K : PySem.W.Frag) (mg : Str → Option Value) (base : Heap) (n : Nat) : Prop := Cal P w K mg base "_law_thing" (n + 3) ["_law_h", "_law_deep"] (sp__law_thing n)
theorem body__law_thing (B : Bt mg) (G__law_next : C__law_next P w K mg base) (G__law_marks : C__law_marks P w K mg base) (n : Nat) (G : ∀ m, n = m + 1 → C__law_thing P w K mg base m) : BodyOk P w K mg base N__law_thing "_law_thing" s__law_thing f (n + 2) (sp__law_thing n) := by
  rintro cdv A outer s H E ds S Q hr bS bD ⟨dr, R, rfl, rfl, q⟩
  have go : ∀ (dr1 : Dr) (G0 : Store) (many : Nat), (∀ k, belS k G0) → many ≤ 3 → (many = 0 ∨ ∃ m, n = m + 1) →
      Q (eT (.mk (dMarks dr1).1 (dMap (fun _ => dThing (n - 1)) (List.range many) (dMarks dr1).2).1)) (dS (dMap (fun _ => dThing (n - 1)) (List.range many) (dMarks dr1).2).2 R) →
      WSs (cxOf CX0 P w K mg base N__law_thing "_law_thing" (defScope s__law_thing) f cdv A outer s H E).nox (dS dr R).length ((defBody s__law_thing).drop 1) [some (.loc 1), some (.int (n : Int)), some (.int (many : Int)), none] (dS dr1 (R ++ G0)) (fnEnds (dS dr R).length Q) := by
    intro dr1 G0 many hG hm3 hm0 q
    have bRG : ∀ dr', belS (dS dr' (R ++ G0)).length (dS dr' (R ++ G0)) := fun dr' => by
      have e : dS dr' (R ++ G0) = dS dr' R ++ G0 := rfl
      rw [e]
      refine belS_append (belS_mono (by simp [dS]) (bel_dS (dr := dr) bS (by show 0 < R.length + 2; omega))) (hG _)
    refine WSs.one (WS.ret (WE.tup (WA.cons (WE.cal G__law_marks (hr.mono (by first|decide|omega)) (WA.cons (WE.var 0 rfl (WA.nil ⟨dr1, R ++ G0, rfl, rfl, (WA.cons (WE.callT (WA.cons (WE.lcN 3 [("_law_k", 3)] (WI.range1 (WA.cons (WE.var 2 rfl (WA.nil ⟨_, rfl, by omega, by omega, ?_⟩))) B.range) (by decide) rfl sc__law_thing.nd (blkOk_by (N := N__law_thing) (sc := defScope s__law_thing) (by decide +kernel)) (fun Y hY => by obtain ⟨_, _, _, _, _, rfl⟩ := hY; exact pg_name sc__law_thing.nd rfl (by first | exact Or.inl rfl | exact Or.inr rfl)))) B.tuple boot_tuple))⟩)))))))
    have e1 : ((many : Nat) : Int).toNat = many := by omega
    rw [e1]
    refine lc_draw (fun (k : Nat) => D.int (0 + (k : Int))) eT (fun _ => dThing (n - 1)) (List.range many) (fun t _ => bel_eT _ t) (bRG _) (by rw [List.length_range]; omega) (fun _ _ => trivial) ?_ ?_
    · intro b dr' acc hb
      refine ⟨_, rfl, fun Y hY => ?_⟩
      obtain ⟨_, _, _, _, _, rfl⟩ := hY
      obtain ⟨m, rfl⟩ : ∃ m, n = m + 1 := by
        rcases hm0 with h | h
        · rw [h] at hb; cases hb
        · exact h
      have G__law_thing := G m rfl
      refine (WE.cal G__law_thing (hr.mono (by first|decide|omega)) (WA.cons (WE.var 0 rfl (WA.cons (WE.bin (WE.var 1 rfl (WE.int (BW.sub (WA.nil ⟨dr', R ++ G0 ++ [.lst acc], by rw [show ((m + 1 : Nat) : Int) - 1 = (m : Int) by omega], rfl, ⟨rfl, [], by simp [dS]⟩⟩)))))))))
    · generalize hxs : dMap (fun _ => dThing (n - 1)) (List.range many) (dMarks dr1).2 = xs at *
      refine WA.nil (CW.tupL (xs := xs.1.map eT) (by simp [dS]) (WA.nil ⟨by show 2 ≤ sizeLine; exact sz (by decide), ?_⟩))
      have := cov_dS (dr := dr) (dr' := xs.2) (R := R) (G := G0 ++ [.lst (xs.1.map eT)]) (d := eT (.mk (dMarks dr1).1 xs.1)) bS (bel_eT _ _)
      have e2 : D.tup [eM (dMarks dr1).1, D.tup (xs.1.map eT)] = eT (.mk (dMarks dr1).1 xs.1) := by rw [eT_eq]; rfl
      have e3 : dS xs.2 (R ++ G0) ++ [Ob.lst (xs.1.map eT)] = dS xs.2 R ++ (G0 ++ [Ob.lst (xs.1.map eT)]) := by simp [dS]
      show WkD _ (D.tup [eM (dMarks dr1).1, D.tup (xs.1.map eT)]) _ _
      rw [e2, e3]
      exact ⟨_, _, this, q⟩
  cases n with
  | zero =>
    refine WSs.cons (WS.set 2 (WE.ite (WT.cmp (WE.var 1 rfl (WE.int (BW.gt ⟨_, rfl, ⟨fun h => (by cases h), fun _ => WE.int ?_⟩⟩))))) sc__law_thing.nd)
    have := go dr [] 0 (fun _ => belS_nil) (by decide) (.inl rfl) q
    rw [List.append_nil] at this
    exact this
  | succ m =>
    refine WSs.cons (WS.set 2 (WE.ite (WT.cmp (WE.var 1 rfl (WE.int (BW.gt ⟨_, rfl, ⟨fun _ => ?_, fun h => ?_⟩⟩))))) sc__law_thing.nd)
    · have h1 := nx_bd dr (k := 4) (by decide)
      have h2 := nx_bd (nx dr 4).2 (k := 4) (by decide)
      have h3 := many4_bd h1 h2
      refine (WE.ix (WE.lst (WA.cons (WE.int (WA.cons (WE.int (WA.cons (WE.int (WA.cons (WE.cal G__law_next (hr.mono (by first|decide|omega)) (WA.cons (WE.var 0 rfl (WA.cons (WE.int (WA.nil ⟨dr, R, 4, rfl, rfl, by decide, by decide, (WA.nil ⟨by show 4 ≤ sizeLine; exact sz (by decide), (WE.cal G__law_next (hr.mono (by first|decide|omega)) (WA.cons (WE.var 0 rfl (WA.cons (WE.int (WA.nil ⟨(nx dr 4).2, R ++ [.lst [.int 0, .int 0, .int 1, .int (nx dr 4).1]], 4, rfl, rfl, by decide, by decide, (IW.list (xs := [.int 0, .int 0, .int 1, .int (nx dr 4).1]) (by simp [dS]) h3.2 ?_)⟩))))))⟩)⟩)))))))))))))))
      exact go (nx (nx dr 4).2 4).2 [.lst [.int 0, .int 0, .int 1, .int (nx dr 4).1]] (many4 (nx dr 4).1 (nx (nx dr 4).2 4).1) (fun _ => belS_cons rfl belS_nil) h3.1 (.inr ⟨m, rfl⟩) q
    · exfalso
      have := of_decide_eq_false h
      omega
theorem c__law_thing (B : Bt mg) (G__law_next : C__law_next P w K mg base) (G__law_marks : C__law_marks P w K mg base) (df : Df K "_law_thing" "_law_thing" s__law_thing f) (hm : mg "_law_thing" = some (.ref f)) (n : Nat) : C__law_thing P w K mg base n := by
  induction n with
  | zero => exact calD df hm sc__law_thing bd__law_thing (fun ds S Q ⟨dr, R, e, _⟩ => by rw [e]; rfl) (body__law_thing B G__law_next G__law_marks 0 fun m e => by cases e)
  | succ n ih => exact calD df hm sc__law_thing bd__law_thing (fun ds S Q ⟨dr, R, e, _⟩ => by rw [e]; rfl) (body__law_thing B G__law_next G__law_marks (n + 1) fun m e => by cases e; exact ih)
end

section
variable {P : Program} {w : World} {K : PySem.W.Frag} {mg : Str → Option Value} {base : Heap} {f : Addr}
abbrev N__law_alike : List Str := ["_law_found", "_law_due", "_law_k"]
theorem sc__law_alike : FnScope N__law_alike ["_law_found", "_law_due"] (defScope s__law_alike) := ⟨rfl, rfl, rfl, by decide +kernel, rfl, by decide +kernel, by decide +kernel⟩
theorem bd__law_alike : BindOk "_law_alike" "_law_alike" s__law_alike ["_law_found", "_law_due"] := fun _ _ _ _ _ _ us hl => match us, hl with | [_, _], _ => rfl
def sp__law_alike (n : Nat) : SpD := fun ds S Q => ∃ x y p, ds = [x, y] ∧ PD S x p ∧ PD S y p ∧ okP n p = true ∧ Q (.bl true) S
abbrev C__law_alike (P : Program) (w : World) (K : PySem.W.Frag) (mg : Str → Option Value) (base : Heap) (n : Nat) : Prop := Cal P w K mg base "_law_alike" (n + 1) ["_law_found", "_law_due"] (sp__law_alike n)
theorem body__law_alike (B : Bt mg) (n : Nat) (G : ∀ m, n = m + 1 → C__law_alike P w K mg base m) : BodyOk P w K mg base N__law_alike "_law_alike" s__law_alike f n (sp__law_alike n) := by
  rintro cdv A outer s H E ds S Q hr bS bD ⟨x, y, p, rfl, hx, hy, ok, q⟩
  have done : WkD S.length (.bl true) S Q := WkD.same q
  have deep : ∀ (xs ys : List D) (ps : List PyData), PDs S xs ps → PDs S ys ps → (∃ m, n = m + 1 ∧ ps.length ≤ 100000 ∧ ∀ p ∈ ps, okP m p = true) →
      (∀ (Y : Cx) (S2 : Store) (Q2 : D → Store → Prop) (i : Nat) (d : D), (∃ G, S2 = S ++ G) → xs[i]? = some d → Q2 d S2 → IW Y x (.int (i : Int)) S2 Q2) →
      (∀ (Y : Cx) (S2 : Store) (Q2 : D → Store → Prop) (i : Nat) (d : D), (∃ G, S2 = S ++ G) → ys[i]? = some d → Q2 d S2 → IW Y y (.int (i : Int)) S2 Q2) →
      (∀ (Y : Cx) (Q2 : D → Store → Prop), Q2 (.int xs.length) S → CW Y (.builtin "len") [x] S Q2) → (∀ (Y : Cx) (Q2 : D → Store → Prop), Q2 (.int ys.length) S → CW Y (.builtin "len") [y] S Q2) →
      ∀ E' : Ed, E'.rt = (fnEnds S.length Q).rt → WSs (cxOf CX0 P w K mg base N__law_alike "_law_alike" (defScope s__law_alike) f cdv A outer s H E).nox S.length (match (defBody s__law_alike) with | (.If _ b _ _) :: _ => b.drop 1 | _ => []) (startD N__law_alike [x, y]) S E' := by
    rintro xs ys ps hxs hys ⟨m, hn, hlen, hall⟩ ix iy lx ly E' hE
    have lxs := hxs.len
    have lys := hys.len
    refine WSs.cons (WS.ite (WT.cmp (WE.callB (WA.cons (WE.var 0 rfl (WA.nil (lx _ _ (WE.callB (WA.cons (WE.var 1 rfl (WA.nil (ly _ _ (BW.neI ⟨_, rfl, ⟨fun h => ?_, fun h => WSs.nil ?_⟩⟩))))) B.len PySem.boot_len))))) B.len PySem.boot_len)))
    · exfalso
      rw [lxs, lys] at h
      simp at h
    refine WSs.one (WS.ret (WE.cmp (WE.lcN 2 [("_law_k", 2)] (WI.range1 (WA.cons (WE.callB (WA.cons (WE.var 1 rfl (WA.nil (ly _ _ (WA.nil ⟨_, rfl, by omega, by omega, ?_⟩))))) B.len PySem.boot_len)) B.range) (by decide) rfl sc__law_alike.nd (blkOk_by (N := N__law_alike) (sc := defScope s__law_alike) (by decide +kernel))
        (fun Y hY => by obtain ⟨_, _, _, _, _, rfl⟩ := hY; exact pg_name sc__law_alike.nd rfl (Or.inl rfl)))))
    have e1 : ((ys.length : Nat) : Int).toNat = ys.length := by omega
    rw [e1]
    refine lc_pure (fun _ => none) bS (by show (rngD 0 ys.length).length ≤ 100000; rw [rngD_len]; omega) (fun _ => trivial) ?_ ?_
    · intro j d acc hd
      obtain ⟨hj, rfl⟩ := rngD_get.mp hd
      rw [Int.zero_add]
      have hp : ps[j]? = some ps[j] := List.getElem?_eq_getElem (by omega)
      obtain ⟨xj, hxj, pxj⟩ := hxs.get hp
      obtain ⟨yj, hyj, pyj⟩ := hys.get hp
      have G__law_alike := G m hn
      refine ⟨_, rfl, fun Y hY => ?_⟩
      obtain ⟨_, _, _, _, _, rfl⟩ := hY
      refine WT.not (WT.val (WE.cal (G m hn) (hr.mono (by omega)) (WA.cons (WE.ix (WE.var 0 rfl (WE.var 2 rfl ?_))))))
      refine ix _ _ _ j xj ⟨_, rfl⟩ hxj (WA.cons (WE.ix (WE.var 1 rfl (WE.var 2 rfl ?_))))
      refine iy _ _ _ j yj ⟨_, rfl⟩ hyj (WA.nil ⟨xj, yj, ps[j], rfl, PD.app _ _ _ pxj, PD.app _ _ _ pyj, hall _ (List.getElem_mem _), true, rfl, ⟨[], by simp⟩, fun hb => (by cases hb), fun _ => rfl⟩)
    · rw [filterMap_nil fun _ _ => rfl]
      refine WE.lst (WA.nil ⟨by show 0 ≤ sizeLine; exact sz (by decide), ?_⟩)
      refine BW.eqL (xs := []) (ys := []) (by simp) (by simp) (fun _ h => by cases h) (fun _ h => by cases h) hr.units ?_
      show E'.rt _ _
      rw [hE]
      exact ⟨_, S, by rw [List.append_assoc]; exact CovD.drop bS rfl, q⟩
  cases p with
  | tuple ps =>
    obtain ⟨m, hn, k1, k2⟩ : ∃ m, n = m + 1 ∧ ps.length ≤ 100000 ∧ ∀ p ∈ ps, okP m p = true := by
      cases n with
      | zero => simp [okP] at ok
      | succ m =>
        have ok' : (decide (ps.length ≤ 100000) && ps.all (okP m)) = true := ok
        rw [Bool.and_eq_true, decide_eq_true_eq, List.all_eq_true] at ok'
        exact ⟨m, rfl, ok'⟩
    cases hx with
    | @tup xs _ hxs =>
    cases hy with
    | @tup ys _ hys =>
    refine WSs.cons (WS.ite (WT.val (WE.callB (WA.cons (WE.var 1 rfl (WA.cons (WE.tup (WA.cons (WE.bty B.tuple boot_tuple (WA.cons (WE.bty B.list boot_list (WA.nil ⟨by show 2 ≤ sizeLine; exact sz (by decide), (WA.nil (CW.isi2 rfl kit_tup_tuple kit_tup_list ⟨_, rfl, (iT ?_)⟩))⟩))))))))) B.isinstance boot_isinstance)))
    refine WSs.cons (WS.ite (WT.bool (WP.or (WT.not (WT.val (WE.callB (WA.cons (WE.var 0 rfl (WA.cons (WE.tup (WA.cons (WE.bty B.tuple boot_tuple (WA.cons (WE.bty B.list boot_list (WA.nil ⟨by show 2 ≤ sizeLine; exact sz (by decide), (WA.nil (CW.isi2 rfl kit_tup_tuple kit_tup_list ⟨_, rfl, ⟨fun h1 => iT ?_, fun h1 => (WP.or1 (WT.cmp (WE.callB (WA.cons (WE.var 0 rfl (WA.cons (WE.bty B.list boot_list (WA.nil (CW.isi rfl kit_tup_list (WE.callB (WA.cons (WE.var 1 rfl (WA.cons (WE.bty B.list boot_list (WA.nil (CW.isi rfl kit_tup_list (BW.neB ⟨_, rfl, (iF (WSs.nil ?_))⟩))))))) B.isinstance boot_isinstance))))))) B.isinstance boot_isinstance)))⟩⟩))⟩))))))))) B.isinstance boot_isinstance))))))
    · cases h1
    · exact deep xs ys ps hxs hys ⟨m, hn, k1, k2⟩ (fun Y S2 Q2 i d _ hd h => IW.tup (atI_nat hd) h) (fun Y S2 Q2 i d _ hd h => IW.tup (atI_nat hd) h) (fun Y Q2 h => CW.lenT h) (fun Y Q2 h => CW.lenT h) _ rfl
  | list ps =>
    obtain ⟨m, hn, k1, k2⟩ : ∃ m, n = m + 1 ∧ ps.length ≤ 100000 ∧ ∀ p ∈ ps, okP m p = true := by
      cases n with
      | zero => simp [okP] at ok
      | succ m =>
        have ok' : (decide (ps.length ≤ 100000) && ps.all (okP m)) = true := ok
        rw [Bool.and_eq_true, decide_eq_true_eq, List.all_eq_true] at ok'
        exact ⟨m, rfl, ok'⟩
    cases hx with
    | @lst l xs _ hl hxs =>
    cases hy with
    | @lst l' ys _ hl' hys =>
    have tx : tyName (.loc l) S = some "list" := by simp [tyName, hl]
    have ty : tyName (.loc l') S = some "list" := by simp [tyName, hl']
    refine WSs.cons (WS.ite (WT.val (WE.callB (WA.cons (WE.var 1 rfl (WA.cons (WE.tup (WA.cons (WE.bty B.tuple boot_tuple (WA.cons (WE.bty B.list boot_list (WA.nil ⟨by show 2 ≤ sizeLine; exact sz (by decide), (WA.nil (CW.isi2 ty kit_lst_tuple kit_lst_list ⟨_, rfl, (iT ?_)⟩))⟩))))))))) B.isinstance boot_isinstance)))
    refine WSs.cons (WS.ite (WT.bool (WP.or (WT.not (WT.val (WE.callB (WA.cons (WE.var 0 rfl (WA.cons (WE.tup (WA.cons (WE.bty B.tuple boot_tuple (WA.cons (WE.bty B.list boot_list (WA.nil ⟨by show 2 ≤ sizeLine; exact sz (by decide), (WA.nil (CW.isi2 tx kit_lst_tuple kit_lst_list ⟨_, rfl, ⟨fun h1 => iT ?_, fun h1 => (WP.or1 (WT.cmp (WE.callB (WA.cons (WE.var 0 rfl (WA.cons (WE.bty B.list boot_list (WA.nil (CW.isi tx kit_lst_list (WE.callB (WA.cons (WE.var 1 rfl (WA.cons (WE.bty B.list boot_list (WA.nil (CW.isi ty kit_lst_list (BW.neB ⟨_, rfl, (iF (WSs.nil ?_))⟩))))))) B.isinstance boot_isinstance))))))) B.isinstance boot_isinstance)))⟩⟩))⟩))))))))) B.isinstance boot_isinstance))))))
    · cases h1
    · have dd := deep xs ys ps hxs hys ⟨m, hn, k1, k2⟩ (fun Y S2 Q2 i d ⟨G, e⟩ hd h => by subst e; exact IW.list (get_app hl) (atI_nat hd) h) (fun Y S2 Q2 i d ⟨G, e⟩ hd h => by subst e; exact IW.list (get_app hl') (atI_nat hd) h) (fun Y Q2 h => CW.lenL hl h) (fun Y Q2 h => CW.lenL hl' h)
      exact dd _ rfl
  | none =>
    cases hx; cases hy
    refine WSs.cons (WS.ite (WT.val (WE.callB (WA.cons (WE.var 1 rfl (WA.cons (WE.tup (WA.cons (WE.bty B.tuple boot_tuple (WA.cons (WE.bty B.list boot_list (WA.nil ⟨by show 2 ≤ sizeLine; exact sz (by decide), (WA.nil (CW.isi2 rfl kit_non_tuple kit_non_list ⟨_, rfl, (iF (WSs.nil ?_))⟩))⟩))))))))) B.isinstance boot_isinstance)))
    refine WSs.cons (WS.ite (WT.cmp (WE.var 1 rfl (WE.non (BW.isN true rfl ⟨_, rfl, (iT ?_)⟩)))))
    exact WSs.one (WS.ret (WE.cmp (WE.var 0 rfl (WE.non (BW.isN true rfl done)))))
  | str z =>
    cases hx; cases hy
    refine WSs.cons (WS.ite (WT.val (WE.callB (WA.cons (WE.var 1 rfl (WA.cons (WE.tup (WA.cons (WE.bty B.tuple boot_tuple (WA.cons (WE.bty B.list boot_list (WA.nil ⟨by show 2 ≤ sizeLine; exact sz (by decide), (WA.nil (CW.isi2 rfl kit_str_tuple kit_str_list ⟨_, rfl, (iF (WSs.nil ?_))⟩))⟩))))))))) B.isinstance boot_isinstance)))
    refine WSs.cons (WS.ite (WT.cmp (WE.var 1 rfl (WE.non (BW.isN false rfl ⟨_, rfl, (iF (WSs.nil ?_))⟩)))))
    refine WSs.cons (WS.ite (WT.val (WE.callB (WA.cons (WE.var 1 rfl (WA.cons (WE.bty B.str boot_str (WA.nil (CW.isi rfl kit_str_str ⟨_, rfl, (iT ?_)⟩)))))) B.isinstance boot_isinstance)))
    refine WSs.one (WS.ret (WE.and (WE.callB (WA.cons (WE.var 0 rfl (WA.cons (WE.bty B.str boot_str (WA.nil (CW.isi rfl kit_str_str ⟨_, rfl, fun h1 => (WE.one (WE.cmp (WE.var 0 rfl (WE.var 1 rfl (BW.eqS ?_))))), fun h1 => ?_⟩)))))) B.isinstance boot_isinstance)))
    · rw [decide_eq_true rfl]; exact done
    · cases h1
  | int i =>
    cases hx; cases hy
    refine WSs.cons (WS.ite (WT.val (WE.callB (WA.cons (WE.var 1 rfl (WA.cons (WE.tup (WA.cons (WE.bty B.tuple boot_tuple (WA.cons (WE.bty B.list boot_list (WA.nil ⟨by show 2 ≤ sizeLine; exact sz (by decide), (WA.nil (CW.isi2 rfl kit_int_tuple kit_int_list ⟨_, rfl, (iF (WSs.nil ?_))⟩))⟩))))))))) B.isinstance boot_isinstance)))
    refine WSs.cons (WS.ite (WT.cmp (WE.var 1 rfl (WE.non (BW.isN false rfl ⟨_, rfl, (iF (WSs.nil ?_))⟩)))))
    refine WSs.cons (WS.ite (WT.val (WE.callB (WA.cons (WE.var 1 rfl (WA.cons (WE.bty B.str boot_str (WA.nil (CW.isi rfl kit_int_str ⟨_, rfl, (iF (WSs.nil ?_))⟩)))))) B.isinstance boot_isinstance)))
    refine WSs.cons (WS.ite (WT.bool (WP.or (WT.val (WE.callB (WA.cons (WE.var 1 rfl (WA.cons (WE.bty B.bool boot_bool (WA.nil (CW.isi rfl kit_int_bool ⟨_, rfl, ⟨fun h1 => iT ?_, fun h1 => (WP.or1 (WT.val (WE.callB (WA.cons (WE.var 0 rfl (WA.cons (WE.bty B.bool boot_bool (WA.nil (CW.isi rfl kit_int_bool ⟨_, rfl, (iF (WSs.nil ?_))⟩)))))) B.isinstance boot_isinstance)))⟩⟩)))))) B.isinstance boot_isinstance)))))
    · cases h1
    refine WSs.one (WS.ret (WE.and (WE.callB (WA.cons (WE.var 0 rfl (WA.cons (WE.bty B.int boot_int (WA.nil (CW.isi rfl kit_int_int ⟨_, rfl, fun h1 => (WE.one (WE.cmp (WE.var 0 rfl (WE.var 1 rfl (BW.eqI ?_))))), fun h1 => ?_⟩)))))) B.isinstance boot_isinstance)))
    · rw [decide_eq_true rfl]; exact done
    · cases h1
  | bool b =>
    cases hx; cases hy
    refine WSs.cons (WS.ite (WT.val (WE.callB (WA.cons (WE.var 1 rfl (WA.cons (WE.tup (WA.cons (WE.bty B.tuple boot_tuple (WA.cons (WE.bty B.list boot_list (WA.nil ⟨by show 2 ≤ sizeLine; exact sz (by decide), (WA.nil (CW.isi2 rfl kit_bl_tuple kit_bl_list ⟨_, rfl, (iF (WSs.nil ?_))⟩))⟩))))))))) B.isinstance boot_isinstance)))
    refine WSs.cons (WS.ite (WT.cmp (WE.var 1 rfl (WE.non (BW.isN false rfl ⟨_, rfl, (iF (WSs.nil ?_))⟩)))))
    refine WSs.cons (WS.ite (WT.val (WE.callB (WA.cons (WE.var 1 rfl (WA.cons (WE.bty B.str boot_str (WA.nil (CW.isi rfl kit_bl_str ⟨_, rfl, (iF (WSs.nil ?_))⟩)))))) B.isinstance boot_isinstance)))
    refine WSs.cons (WS.ite (WT.bool (WP.or (WT.val (WE.callB (WA.cons (WE.var 1 rfl (WA.cons (WE.bty B.bool boot_bool (WA.nil (CW.isi rfl kit_bl_bool ⟨_, rfl, ⟨fun h1 => iT ?_, fun h1 => (WP.or1 (WT.val (WE.callB (WA.cons (WE.var 0 rfl (WA.cons (WE.bty B.bool boot_bool (WA.nil (CW.isi rfl kit_bl_bool ⟨_, rfl, ?_⟩)))))) B.isinstance boot_isinstance)))⟩⟩)))))) B.isinstance boot_isinstance)))))
    · refine WSs.one (WS.ret (WE.and (WE.callB (WA.cons (WE.var 1 rfl (WA.cons (WE.bty B.bool boot_bool (WA.nil (CW.isi rfl kit_bl_bool ⟨_, rfl, fun h1 => (WE.and (WE.callB (WA.cons (WE.var 0 rfl (WA.cons (WE.bty B.bool boot_bool (WA.nil (CW.isi rfl kit_bl_bool ⟨_, rfl, fun h2 => (WE.one (WE.cmp (WE.var 0 rfl (WE.var 1 rfl (BW.eqB ?_))))), fun h2 => ?_⟩)))))) B.isinstance boot_isinstance)), fun h1 => ?_⟩)))))) B.isinstance boot_isinstance)))
      · rw [decide_eq_true rfl]; exact done
      · cases h2
      · cases h1
    · cases h1
  | dict kvs => cases hx
theorem c__law_alike (B : Bt mg) (df : Df K "_law_alike" "_law_alike" s__law_alike f) (hm : mg "_law_alike" = some (.ref f)) (n : Nat) : C__law_alike P w K mg base n := by
  induction n with
  | zero => exact calD df hm sc__law_alike bd__law_alike (fun ds S Q ⟨x, y, p, e, _⟩ => by rw [e]; rfl) (body__law_alike B 0 fun m e => by cases e)
  | succ n ih => exact calD df hm sc__law_alike bd__law_alike (fun ds S Q ⟨x, y, p, e, _⟩ => by rw [e]; rfl) (body__law_alike B (n + 1) fun m e => by cases e; exact ih)
end

section
variable {P : Program} {w : World} {K : PySem.W.Frag} {mg : Str → Option Value} {base : Heap} {f : Addr}
abbrev N__law_rows : List Str := ["_law_deep", "_law_thing_here", "_law_found", "_law_one", "_law_mark"]
theorem sc__law_rows : FnScope N__law_rows ["_law_deep", "_law_thing_here"] (defScope s__law_rows) := ⟨rfl, rfl, rfl, by decide +kernel, rfl, by decide +kernel, by decide +kernel⟩
theorem bd__law_rows : BindOk "_law_rows" "_law_rows" s__law_rows ["_law_deep", "_law_thing_here"] := fun _ _ _ _ _ _ us hl => match us, hl with | [_, _], _ => rfl
def sp__law_rows (n : Nat) : SpD := fun ds S Q => ∃ d t, ds = [.int d, eT t] ∧ OkT n t ∧ n ≤ 2 ∧ 0 ≤ d ∧ d + (n : Int) ≤ 2 ∧ Q (.loc S.length) (S ++ [.lst (((rwT d t).map thR).map tD)])
abbrev C__law_rows (P : Program) (w : World) (K : PySem.W.Frag) (mg : Str → Option Value) (base : Heap) (n : Nat) : Prop := Cal P w K mg base "_law_rows" (n + 1) ["_law_deep", "_law_thing_here"] (sp__law_rows n)
theorem body__law_rows (B : Bt mg) (n : Nat) (G : ∀ m, n = m + 1 → C__law_rows P w K mg base m) : BodyOk P w K mg base N__law_rows "_law_rows" s__law_rows f n (sp__law_rows n) := by
  rintro cdv A outer s H E ds S Q hr bS bD ⟨d, t, rfl, ok, n2, h0, h2, q⟩
  have lcat : ∀ (A : Store) (o : Ob), (A ++ [o])[A.length]? = some o := fun A o => List.getElem?_concat_length
  have hsz := sizes_two ok n2
  obtain ⟨m, xs⟩ := t
  have om : OkM 0 m := ok.m
  have ox : xs.length ≤ 3 := ok.len
  have okr : OkRw (.th d m) := ⟨h0, by omega, om⟩
  have wfit := words_fit okr
  refine WSs.cons (WS.set 2 (WE.lst (WA.cons (WE.bin (WE.str (WE.join (WE.str ⟨_, rfl, WE.bin (WE.lst (WA.cons (WE.callT (WA.cons (WE.var 0 rfl (WA.nil (CW.strI (log_small (by omega) (by omega)) (WA.nil ⟨by show 1 ≤ sizeLine; exact sz (by decide), ?_⟩))))) B.str boot_str)))⟩)))))) sc__law_rows.nd)
  refine WE.bel fun b5 => ?_
  refine (WE.lcN 4 [("_law_mark", 4)] (WI.tup (WE.ix (WE.var 1 rfl (WE.int (IW.tup (xs := [eM m, .tup (eTs xs)]) (d := eM m) rfl ⟨m.map D.int, rfl, ?_⟩))))) (by decide) rfl sc__law_rows.nd (blkOk_by (N := N__law_rows) (sc := defScope s__law_rows) (by decide +kernel)) (fun Y hY => by obtain ⟨_, _, _, _, _, rfl⟩ := hY; exact pg_name sc__law_rows.nd rfl (by first | exact Or.inl rfl | exact Or.inr rfl)))
  refine lc_fm D.int m (fun i => some (.str (nS i))) rfl b5 (by have := om.1; omega) (fun _ => trivial) ?_ ?_
  · intro i acc2 hi
    refine ⟨_, rfl, fun Y hY => ⟨⟨[], by simp⟩, fun _ Z hZ => ?_, fun z => (by cases z)⟩⟩
    obtain ⟨_, _, _, _, _, rfl⟩ := hZ
    have ir := om.2 i hi
    exact (WE.callT (WA.cons (WE.var 4 rfl (WA.nil (CW.strI (log_small (by omega) ir.2) ⟨⟨[], by simp⟩, rfl, rfl⟩)))) B.str boot_str)
  rw [fm_strs]
  have wl : ("thing " : Str).length ≤ 10 := by decide +kernel
  have tl3 : (Txt.join " " (nS d :: m.map nS)).length ≤ 100 := by
    have h1 := len_join " " (nS d :: m.map nS)
    have h3 : (((Rw.th d m).words).map (·.length)).sum = ("thing" : Str).length + ((nS d :: m.map nS).map (·.length)).sum := rfl
    have h4 : (Rw.th d m).words.length = (nS d :: m.map nS).length + 1 := rfl
    rw [h3, h4, Nat.succ_mul] at wfit
    omega
  have tf : ((nS d :: m.map nS).map (·.length)).sum + (nS d :: m.map nS).length * (" " : Str).length ≤ 16777216 := by
    have h3 : (((Rw.th d m).words).map (·.length)).sum = ("thing" : Str).length + ((nS d :: m.map nS).map (·.length)).sum := rfl
    have h4 : (Rw.th d m).words.length = (nS d :: m.map nS).length + 1 := rfl
    rw [h3, h4, Nat.succ_mul] at wfit
    omega
  refine BW.catL (xs := [.str (nS d)]) (ys := (m.map nS).map D.str) (get_app (lcat _ _)) (lcat _ _) (by rw [List.length_map, List.length_map, om.1]; show 1 + 3 ≤ sizeLine; exact sz (by decide)) ⟨_, nS d :: m.map nS, rfl, lcat _ _, tf, BW.addS (sz (by omega)) (WA.nil ⟨by show 1 ≤ sizeLine; exact sz (by decide), ?_⟩)⟩
  rw [txt_th]
  obtain ⟨G0, hG0⟩ : ∃ G0, G0 = [Ob.lst [D.str (nS d)], Ob.lst ((m.map nS).map D.str), Ob.lst ([D.str (nS d)] ++ (m.map nS).map D.str), Ob.lst [D.str (thR (d, m)).txt]] := ⟨_, rfl⟩
  refine WSs.cons (WS.forT eT (WE.ix (WE.var 1 rfl (WE.int (IW.tup (xs := [eM m, .tup (eTs xs)]) (d := .tup (eTs xs)) rfl ⟨xs, by rw [eTs_map], ?_⟩)))) PassesOwn.never rfl)
  refine ⟨fun pre v2 S2 => ∃ G k z3, S2 = S ++ G ∧ S.length ≤ k ∧ S2[k]? = some (.lst ((((d, m) :: rwTs (d + 1) pre).map thR).map tD)) ∧ v2 = [some (.int d), some (eT (.mk m xs)), some (.loc k), z3, none], ⟨G0, _, none, ?_, ?_, lcat _ _, rfl⟩, fun _ _ _ _ => trivial, ?_, ?_⟩
  · rw [hG0]; simp only [List.append_assoc]; rfl
  · simp only [List.length_append]; omega
  · rintro pre x post v2 S2 e ⟨G1, k, z3, rfl, hkl, hk, rfl⟩
    have hx : x ∈ xs := by rw [e]; simp
    obtain ⟨mm, rfl⟩ : ∃ mm, n = mm + 1 := by
      cases n with
      | zero =>
        have : xs = [] := ok.2
        rw [this] at hx; cases hx
      | succ mm => exact ⟨mm, rfl⟩
    have okx : OkT mm x := ok.2.2 x hx
    have G__law_rows := G mm rfl
    have s1 := sizes_two okx (by omega)
    have s2 : Th.sizes pre + x.size ≤ 13 := by
      rw [size_eq] at hsz
      have hsz : 1 + Th.sizes xs ≤ 13 := hsz
      rw [e, sizes_append] at hsz
      have : Th.sizes (x :: post) = x.size + Th.sizes post := rfl
      omega
    refine (WG.name 3 ?_ sc__law_rows.nd)
    refine WSs.one (WS.set 2 (WE.bin (WE.var 2 rfl (WE.cal G__law_rows (hr.mono (by first|decide|omega)) (WA.cons (WE.bin (WE.var 0 rfl (WE.int (BW.add (WA.cons (WE.var 3 rfl (WA.nil ⟨d + 1, x, rfl, okx, by omega, by omega, by omega, (BW.catL (get_app hk) (lcat _ _) ?_ ?_)⟩))))))))))) sc__law_rows.nd)
    · simp only [List.length_map, List.length_cons, rwTs_lenS, rwT_len]
      exact sz (by omega)
    · refine WkE.same ⟨_, _, some (eT x), (by simp only [List.append_assoc]; rfl), ?_, ?_, rfl⟩
      · simp only [List.length_append]; omega
      · rw [rwTs_snoc, ← List.cons_append, List.map_append, List.map_append]
        exact lcat _ _
  · rintro v2 S2 ⟨G1, k, z3, rfl, hkl, hk, rfl⟩
    refine WSs.one (WS.ret (WE.var 2 rfl ?_))
    exact ⟨_, _, CovD.one (S := S) (G := G1) bS hkl hk (belAll_map (fun r => bel_tD _ r) _), q⟩
theorem c__law_rows (B : Bt mg) (df : Df K "_law_rows" "_law_rows" s__law_rows f) (hm : mg "_law_rows" = some (.ref f)) (n : Nat) : C__law_rows P w K mg base n := by
  induction n with
  | zero => exact calD df hm sc__law_rows bd__law_rows (fun ds S Q ⟨_, _, e, _⟩ => by rw [e]; rfl) (body__law_rows B 0 fun m e => by cases e)
  | succ n ih => exact calD df hm sc__law_rows bd__law_rows (fun ds S Q ⟨_, _, e, _⟩ => by rw [e]; rfl) (body__law_rows B (n + 1) fun m e => by cases e; exact ih)
end

section
variable {P : Program} {w : World} {K : PySem.W.Frag} {mg : Str → Option Value} {base : Heap} {f : Addr} {fd : FuncData}
abbrev N_law : List Str := ["_law_script", "_law_h", "_law_turn", "_law_things", "_law_helpers", "_law_k", "_law_rows_here", "_law_number", "_law_thing_here", "_law_claims_here", "_law_room", "_law_wanted", "_law_worth", "_law_handed", "_law_text", "_law_part"]
theorem sc_law : FnScope N_law ["_law_script"] (defScope s_law) := ⟨rfl, rfl, rfl, by decide +kernel, rfl, by decide +kernel, by decide +kernel⟩
theorem bd_law : BindOk "law" "law" s_law ["_law_script"] := fun _ _ _ _ _ _ us hl => match us, hl with | [_], _ => rfl
theorem c_law (B : Bt mg) (G__law_mix : C__law_mix P w K mg base) (G__law_next : C__law_next P w K mg base) (G__law_claims : C__law_claims P w K mg base) (G__law_thing : C__law_thing P w K mg base 2) (G__law_rows : C__law_rows P w K mg base 2) (G_written : C_written P w K mg base) (G_read : C_read P w K mg base) (G__law_alike : C__law_alike P w K mg base 10)
    (Fn : FunD K "law" "law" (defArgs s_law) (defBody s_law) (defScope s_law) [] [] f fd) : FnOk P w K mg base CX0 12 f fd ["_law_script"] (spLaw K) := by
  refine lawD Fn sc_law ?_
  intro cdv A outer s H E d ns hr hd hl
  have lcat : ∀ (A : Store) (o : Ob), (A ++ [o])[A.length]? = some o := fun A o => List.getElem?_concat_length
  have bd : ∀ n, bel n d = true := fun n => by rcases hd with rfl | ⟨a, rfl, _⟩ <;> rfl
  refine WSs.cons (WS.set 1 (WE.cal G__law_mix (hr.mono (by first|decide|omega)) (WA.cons (WE.var 0 rfl (WA.cons (WE.int (WA.nil ⟨d, ns, 43, rfl, rfl, hd, hl, ?_⟩)))))) sc_law.nd)
  refine WSs.cons (WS.forN (WA.cons (WE.int (WA.nil ⟨4, rfl, by decide, ?_⟩))) B.range PassesOwn.never rfl)
  refine ⟨fun i v2 S2 => ∃ dr z2 z3 z4 z5 z6 z7 z8 z9 z10 z11 z12 z13 z14, S2 = dS dr [] ∧ v2 = [some d, some (.loc 1), z2, z3, z4, z5, z6, z7, z8, z9, z10, z11, z12, z13, z14, none], ⟨_, none, none, none, none, none, none, none, none, none, none, none, none, none, rfl, rfl⟩, ?_, ?_⟩
  · rintro i v2 S2 hi ⟨dr, z2, z3, z4, z5, z6, z7, z8, z9, z10, z11, z12, z13, z14, rfl, rfl⟩
    refine (WG.name 2 ?_ sc_law.nd)
    refine WSs.bel fun b1 => ?_
    have a9 := nx_bd dr (k := 9) (by decide)
    refine WSs.cons (WS.set 3 (WE.listEnum (WE.lcN 5 [("_law_k", 5)] (WI.range1 (WA.cons (WE.cal G__law_next (hr.mono (by first|decide|omega)) (WA.cons (WE.var 1 rfl (WA.cons (WE.int (WA.nil ⟨dr, [], 9, rfl, rfl, by decide, by decide, (WA.nil ⟨_, rfl, by omega, by omega, ?_⟩)⟩))))))) B.range) (by decide) rfl sc_law.nd (blkOk_by (N := N_law) (sc := defScope s_law) (by decide +kernel)) (fun Y hY => by obtain ⟨_, _, _, _, _, rfl⟩ := hY; exact pg_name sc_law.nd rfl (by first | exact Or.inl rfl | exact Or.inr rfl))) B.list B.enumerate rfl) sc_law.nd)
    have hn8 : (nx dr 9).1.toNat ≤ 8 := by omega
    generalize (nx dr 9).1.toNat = n at *
    generalize (nx dr 9).2 = dr0 at *
    refine lc_draw (fun (k : Nat) => D.int (0 + (k : Int))) eT (fun _ => dThing 2) (List.range n) (fun t _ => bel_eT _ t) (bel_dS (dr := dr) b1 (by show 0 < 2; decide)) (by rw [List.length_range]; omega) (fun _ _ => trivial) ?_ ?_
    · intro b dr' acc hb
      refine ⟨_, rfl, fun Y hY => ?_⟩
      obtain ⟨_, _, _, _, _, rfl⟩ := hY
      refine (WE.cal G__law_thing (hr.mono (by first|decide|omega)) (WA.cons (WE.var 1 rfl (WA.cons (WE.int (WA.nil ⟨dr', [.lst acc], rfl, rfl, ⟨rfl, [], by simp [dS]⟩⟩))))))
    have okl := dMap_all (f := fun _ : Nat => dThing 2) (p := OkT 2) (bs := List.range n) (dr := dr0) fun b _ dr => dThing_ok 2 dr
    have ll := dMap_len (fun _ : Nat => dThing 2) (List.range n) dr0
    rw [List.length_range] at ll
    generalize dMap (fun _ : Nat => dThing 2) (List.range n) dr0 = md at *
    obtain ⟨l, dr1⟩ := md
    have ll : l.length = n := ll
    refine ⟨_, l.map eT, rfl, lcat _ _, by rw [List.length_map]; omega, ?_⟩
    rw [enum_things]
    obtain ⟨ts, hts⟩ : ∃ ts, ts = num0 l := ⟨_, rfl⟩
    have nt : ts.map (·.1) = (List.range ts.length).map (fun k : Nat => (k : Int)) := by rw [hts]; exact num0_fst l
    have lt8 : ts.length ≤ 8 := by rw [hts, num0_len]; omega
    have ot : OkTs ts := ⟨by omega, by rw [nt]; exact rise_range (by omega), fun p hp => okl p.2 (by
      have : p.2 ∈ (num0 l).map (·.2) := List.mem_map.mpr ⟨p, hts ▸ hp, rfl⟩
      rw [num0_snd] at this; exact this)⟩
    rw [← hts]
    clear hts okl
    refine WSs.cons (WS.set 4 (WE.lst (WA.nil ⟨by show 0 ≤ sizeLine; exact sz (by decide), ?_⟩)) sc_law.nd)
    have a10 := nx_bd dr1 (k := 9) (by decide)
    refine WSs.cons (WS.forN (WA.cons (WE.cal G__law_next (hr.mono (by first|decide|omega)) (WA.cons (WE.var 1 rfl (WA.cons (WE.int (WA.nil ⟨dr1, [.lst (l.map eT), .lst (ts.map thD), .lst []], 9, rfl, rfl, by decide, by decide, (WA.nil ⟨(nx dr1 9).1.toNat, by rw [Int.toNat_of_nonneg a10.1], by omega, ?_⟩)⟩))))))) B.range PassesOwn.never rfl)
    have hk8 : (nx dr1 9).1.toNat ≤ 8 := by omega
    generalize (nx dr1 9).1.toNat = k at *
    generalize (nx dr1 9).2 = dr2 at *
    refine ⟨fun j v2 S2 => ∃ (hs : List He) (dr : Dr) (z5 : Option D), S2 = dS dr [.lst (l.map eT), .lst (ts.map thD), .lst (hs.map heD)] ∧ hs.length = j ∧ hs.map (·.1) = (List.range hs.length).map (fun k : Nat => (k : Int)) ∧ (∀ h ∈ hs, OkCs h.2.1 ∧ 0 ≤ h.2.2 ∧ h.2.2 ≤ 4) ∧ v2 = [some d, some (.loc 1), some (.int (i : Int)), some (.loc 3), some (.loc 4), z5, z6, z7, z8, z9, z10, z11, z12, z13, z14, none], ⟨[], dr2, z5, rfl, rfl, rfl, fun _ h => (by cases h), rfl⟩, ?_, ?_⟩
    · rintro j v2 S2 hj ⟨hs, dr, z5, rfl, hl1, nh, okh, rfl⟩
      refine (WG.name 5 ?_ sc_law.nd)
      have g5 := nx_bd (dClaims dr).2 (k := 5) (by decide)
      refine WSs.one (WS.expr (WE.bm PySem.F.plainAttrs_list PySem.F.slot_list_append PySem.F.type_list_append (WE.var 4 rfl ⟨?_, (WA.cons (WE.tup (WA.cons (WE.var 5 rfl (WA.cons (WE.cal G__law_claims (hr.mono (by first|decide|omega)) (WA.cons (WE.var 1 rfl (WA.nil ⟨dr, [.lst (l.map eT), .lst (ts.map thD), .lst (hs.map heD)], rfl, rfl, (WA.cons (WE.cal G__law_next (hr.mono (by first|decide|omega)) (WA.cons (WE.var 1 rfl (WA.cons (WE.int (WA.nil ⟨(dClaims dr).2, [.lst (l.map eT), .lst (ts.map thD), .lst (hs.map heD)], 5, rfl, rfl, by decide, by decide, (WA.nil ⟨by show 3 ≤ sizeLine; exact sz (by decide), (WA.nil (MW.append (l := 4) (xs := hs.map heD) rfl (by rw [List.length_map]; exact szl (by omega)) ?_))⟩)⟩)))))))⟩)))))))))⟩)))
      · exact Or.inl ⟨rfl, hs.map heD, rfl⟩
      · refine WkE.same ⟨hs ++ [((j : Int), (dClaims dr).1, (nx (dClaims dr).2 5).1)], (nx (dClaims dr).2 5).2, some (.int (j : Int)), ?_, ?_, ?_, ?_, rfl⟩
        · rw [List.map_append]; rfl
        · rw [List.length_append, hl1]; rfl
        · rw [List.map_append, nh, List.length_append, List.length_singleton, List.range_succ, List.map_append, hl1]; rfl
        · intro h hh
          rcases List.mem_append.mp hh with hh | hh
          · exact okh h hh
          · rw [List.mem_singleton.mp hh]
            exact ⟨dClaims_ok dr, g5.1, by have := g5.2; show (nx (dClaims dr).2 5).1 ≤ 4; omega⟩
    rintro v2 S2 ⟨hs, dr3, z5, rfl, hl1, nh, okh, rfl⟩
    have oh : OkHs hs := ⟨by omega, by rw [nh]; exact rise_range (by omega), okh⟩
    obtain ⟨B0, hB0⟩ : ∃ B0, B0 = dS dr3 [.lst (l.map eT), .lst (ts.map thD), .lst (hs.map heD)] := ⟨_, rfl⟩
    have l5 : B0.length = 5 := by rw [hB0]; rfl
    have g3 : ∀ G, (B0 ++ G)[3]? = some (.lst (ts.map thD)) := fun G => by rw [hB0]; rfl
    have g4 : ∀ G, (B0 ++ G)[4]? = some (.lst (hs.map heD)) := fun G => by rw [hB0]; rfl
    rw [← hB0]
    have okr := rowsAll_ok ot oh (by omega)
    have lnr := rowsAll_len ot oh (by omega) (by omega)
    refine WSs.cons (WS.set 6 (WE.lst (WA.nil ⟨by show 0 ≤ sizeLine; exact sz (by decide), ?_⟩)) sc_law.nd)
    refine WSs.cons (WS.forL thD (WE.var 3 rfl ⟨3, ts, rfl, g3 _, ?_⟩) PassesOwn.never rfl)
    refine ⟨fun pre v2 S2 => ∃ G k z7 z8, S2 = B0 ++ G ∧ 5 ≤ k ∧ S2[k]? = some (.lst (((rwTs 0 (pre.map (·.2))).map thR).map tD)) ∧ v2 = [some d, some (.loc 1), some (.int (i : Int)), some (.loc 3), some (.loc 4), z5, some (.loc k), z7, z8, z9, z10, z11, z12, z13, z14, none], ⟨[.lst []], B0.length, z7, z8, rfl, by omega, lcat _ _, rfl⟩, fun _ _ _ ⟨G, _, _, _, h, _⟩ => by rw [h]; exact g3 G, ?_, ?_⟩
    · rintro pre p post v2 S2 e ⟨G, k2, z7, z8, rfl, hk5, hk, rfl⟩
      have hp : p ∈ ts := by rw [e]; simp
      have okp := ot.2.2 p hp
      have hpre : pre.length ≤ 8 := by have := congrArg List.length e; rw [List.length_append] at this; omega
      have w1 := rwTs_len (ts := pre) fun x hx => ot.2.2 x (by rw [e]; exact List.mem_append_left _ hx)
      have w2 := sizes_two okp (by decide)
      refine (WG.tup rfl (WGs.cons (WG.name 7 (WGs.cons (WG.name 8 (WGs.nil ?_) sc_law.nd)) sc_law.nd)) rfl)
      refine WSs.one (WS.set 6 (WE.bin (WE.var 6 rfl (WE.cal G__law_rows (hr.mono (by first|decide|omega)) (WA.cons (WE.int (WA.cons (WE.var 8 rfl (WA.nil ⟨0, p.2, rfl, okp, by decide, by decide, by decide, (BW.catL (get_app hk) (lcat _ _) ?_ ?_)⟩)))))))) sc_law.nd)
      · simp only [List.length_map, rwT_len]
        exact sz (by omega)
      · refine WkE.same ⟨_, _, some (.int p.1), some (eT p.2), (by simp only [List.append_assoc]; rfl), ?_, ?_, rfl⟩
        · simp only [List.length_append, l5]; omega
        · rw [List.map_append, List.map_singleton, rwTs_snoc, List.map_append, List.map_append]
          exact lcat _ _
    rintro v2 S2 ⟨G, k2, z7, z8, rfl, hk5, hk, rfl⟩
    have w1 := rwTs_len ot.2.2
    have era : rowsAll ts hs = (rwTs 0 (ts.map (·.2))).map thR ++ heRs hs := rfl
    generalize hrt : (rwTs 0 (ts.map (·.2))).map thR = rt at *
    have rtl : rt.length ≤ 104 := by rw [← hrt, List.length_map]; omega
    refine WSs.cons (WS.forL heD (WE.var 4 rfl ⟨4, hs, rfl, g4 _, ?_⟩) PassesOwn.never rfl)
    refine ⟨fun pre v2 S2 => ∃ G z7 z9 z10 z11 z12, S2 = B0 ++ G ∧ S2[k2]? = some (.lst ((rt ++ heRs pre).map tD)) ∧ v2 = [some d, some (.loc 1), some (.int (i : Int)), some (.loc 3), some (.loc 4), z5, some (.loc k2), z7, z8, z9, z10, z11, z12, z13, z14, none], ⟨G, z7, z9, z10, z11, z12, rfl, by rw [show heRs [] = [] from rfl, List.append_nil]; exact hk, rfl⟩, fun _ _ _ ⟨G, _, _, _, _, _, h, _⟩ => by rw [h]; exact g4 G, ?_, ?_⟩
    · rintro pre x post v2 S2 e ⟨G, z7, z9, z10, z11, z12, rfl, hk, rfl⟩
      have hx : x ∈ hs := by rw [e]; simp
      have okx := oh.2.2 x hx
      have hpre : pre.length ≤ 8 := by have := congrArg List.length e; rw [List.length_append] at this; omega
      have w3 := heRs_len (hs := pre) fun y hy => (oh.2.2 y (by rw [e]; exact List.mem_append_left _ hy)).1.1
      have okh0 : OkRw (.hp x.2.2) := okx.2
      have lhp := len_txt okh0
      refine (WG.tup rfl (WGs.cons (WG.name 7 (WGs.cons (WG.name 9 (WGs.cons (WG.name 10 (WGs.nil ?_) sc_law.nd)) sc_law.nd)) sc_law.nd)) rfl)
      refine WSs.cons (WS.expr (WE.bm PySem.F.plainAttrs_list PySem.F.slot_list_append PySem.F.type_list_append (WE.var 6 rfl ⟨?_, (WA.cons (WE.bin (WE.str (WE.callT (WA.cons (WE.var 10 rfl (WA.nil (CW.strI (log_small (by omega) (by omega)) (BW.addS ?_ (WA.nil (MW.append (xs := (rt ++ heRs pre).map tD) hk (by rw [List.length_map, List.length_append]; exact szl (by omega)) ?_))))))) B.str boot_str))))⟩)))
      · exact Or.inl ⟨rfl, _, hk⟩
      · have e1 : ("helper " : Str).length ≤ 10 := by decide +kernel
        have e2 := (nS_ok (i := x.2.2) (by omega) (by omega)).2.2.1
        have e2 : (toString x.2.2 : Str).length ≤ 2 := e2
        exact sz (by omega)
      have et : ("helper " : Str) ++ (toString x.2.2 : Str) = (Rw.hp x.2.2).txt := txt_hp x.2.2
      rw [et]
      obtain ⟨G2, hG2⟩ := set_app (S := B0) (G := G) (k := k2) (o := .lst ((rt ++ heRs pre).map tD ++ [.str (Rw.hp x.2.2).txt])) (by omega)
      have hk' : (B0 ++ G2)[k2]? = some (.lst ((rt ++ heRs pre ++ [Rw.hp x.2.2] ++ ([] : List Clm).map fun c : Clm => Rw.cl c.1 c.2).map tD)) := by
        rw [← hG2, List.getElem?_set_self (lt_of_some hk), List.map_nil, List.append_nil, List.map_append (l₁ := rt ++ heRs pre)]; rfl
      rw [hG2]
      clear hk hG2
      refine WSs.one (WS.forT eC (WE.var 9 rfl ⟨x.2.1, rfl, ?_⟩) PassesOwn.never rfl)
      refine ⟨fun pre2 v3 S3 => ∃ G z11 z12, S3 = B0 ++ G ∧ S3[k2]? = some (.lst ((rt ++ heRs pre ++ [Rw.hp x.2.2] ++ pre2.map fun c : Clm => Rw.cl c.1 c.2).map tD)) ∧ v3 = [some d, some (.loc 1), some (.int (i : Int)), some (.loc 3), some (.loc 4), z5, some (.loc k2), some (.int x.1), z8, some (eCs x.2.1), some (.int x.2.2), z11, z12, z13, z14, none], ⟨G2, z11, z12, rfl, hk', rfl⟩, fun _ _ _ _ => trivial, ?_, ?_⟩
      · rintro pre2 c post2 v3 S3 e2 ⟨G, z11, z12, rfl, hk, rfl⟩
        have hc : c ∈ x.2.1 := by rw [e2]; simp
        have okc := okx.1.2 c hc
        have hp2 : pre2.length ≤ 6 := by have := congrArg List.length e2; have := okx.1.1; rw [List.length_append] at *; omega
        have okc1 : OkRw (.cl c.1 c.2) := okc
        have wfit := words_fit okc1
        refine (WG.tup rfl (WGs.cons (WG.name 11 (WGs.cons (WG.name 12 (WGs.nil ?_) sc_law.nd)) sc_law.nd)) rfl)
        refine WSs.one (WS.expr (WE.bm PySem.F.plainAttrs_list PySem.F.slot_list_append PySem.F.type_list_append (WE.var 6 rfl ⟨Or.inl ⟨rfl, _, hk⟩, WA.cons (WE.bin (WE.str (WE.join (WE.str ⟨_, rfl, ?_⟩))))⟩)))
        refine WE.bel fun b5 => ?_
        refine (WE.lcN 15 [("_law_part", 15)] (WI.tup (WE.bin (WE.var 11 rfl (WE.tup (WA.cons (WE.var 12 rfl (WA.nil ⟨by show 1 ≤ sizeLine; exact sz (by decide), (BW.catT (xs := c.1.map D.int) (ys := [.int c.2]) (fun z => by have := congrArg List.length z; rw [List.length_map, okc.1.1] at this; cases this) (by rw [List.length_map, okc.1.1]; show 3 + 1 ≤ sizeLine; exact sz (by decide)) ⟨(c.1 ++ [c.2]).map D.int, by rw [List.map_append]; rfl, ?_⟩)⟩))))))) (by decide) rfl sc_law.nd (blkOk_by (N := N_law) (sc := defScope s_law) (by decide +kernel)) (fun Y hY => by obtain ⟨_, _, _, _, _, rfl⟩ := hY; exact pg_name sc_law.nd rfl (by first | exact Or.inl rfl | exact Or.inr rfl)))
        refine lc_fm D.int (c.1 ++ [c.2]) (fun i => some (.str (nS i))) rfl b5 (by rw [List.length_append, okc.1.1]; show 3 + 1 ≤ 100000; decide) (fun _ => trivial) ?_ ?_
        · intro q acc2 hq
          refine ⟨_, rfl, fun Y hY => ⟨⟨[], by simp⟩, fun _ Z hZ => ?_, fun z => (by cases z)⟩⟩
          obtain ⟨_, _, _, _, _, rfl⟩ := hZ
          have ir := okc1.rng q hq
          exact (WE.callT (WA.cons (WE.var 15 rfl (WA.nil (CW.strI (log_small ir.1 ir.2) ⟨⟨[], by simp⟩, rfl, rfl⟩)))) B.str boot_str)
        rw [fm_strs]
        have h3 : (((Rw.cl c.1 c.2).words).map (·.length)).sum = ("claim" : Str).length + (((c.1 ++ [c.2]).map nS).map (·.length)).sum := rfl
        have h4 : (Rw.cl c.1 c.2).words.length = ((c.1 ++ [c.2]).map nS).length + 1 := rfl
        have h5 : ("claim " : Str).length ≤ 10 := by decide +kernel
        have h1 := len_join " " ((c.1 ++ [c.2]).map nS)
        rw [h3, h4, Nat.succ_mul] at wfit
        refine ⟨_, (c.1 ++ [c.2]).map nS, rfl, lcat _ _, by omega, BW.addS (sz (by omega)) (WA.nil (MW.append (xs := (rt ++ heRs pre ++ [Rw.hp x.2.2] ++ pre2.map fun c : Clm => Rw.cl c.1 c.2).map tD) (get_app hk) (by simp only [List.length_map, List.length_append, List.length_singleton]; exact szl (by omega)) ?_))⟩
        rw [txt_cl, List.append_assoc B0 G]
        obtain ⟨G3, hG3⟩ := set_app (S := B0) (G := G ++ [Ob.lst (((c.1 ++ [c.2]).map nS).map D.str)]) (k := k2) (o := .lst ((rt ++ heRs pre ++ [Rw.hp x.2.2] ++ pre2.map fun c : Clm => Rw.cl c.1 c.2).map tD ++ [.str (Rw.cl c.1 c.2).txt])) (by omega)
        refine WkE.same ⟨G3, some (eM c.1), some (.int c.2), hG3, ?_, rfl⟩
        have hk3 := lt_of_some hk
        rw [List.getElem?_set_self (by rw [List.length_append, List.length_append]; rw [List.length_append] at hk3; omega)]
        simp only [List.map_append, List.append_assoc, List.map_cons, List.map_nil]
        rfl
      · rintro v3 S3 ⟨G, z11, z12, rfl, hk, rfl⟩
        refine WkE.same ⟨G, some (.int x.1), some (eCs x.2.1), some (.int x.2.2), z11, z12, rfl, ?_, rfl⟩
        have ehe : heRs (pre ++ [x]) = heRs pre ++ ([Rw.hp x.2.2] ++ x.2.1.map fun c : Clm => Rw.cl c.1 c.2) := by
          unfold heRs
          rw [List.flatMap_append]
          show _ ++ (heR x ++ []) = _
          rw [List.append_nil]; rfl
        rw [ehe, ← List.append_assoc, ← List.append_assoc]
        exact hk
    rintro v2 S2 ⟨G, z7, z9, z10, z11, z12, rfl, hk, rfl⟩
    rw [← era, tDs] at hk
    have etx : Txt.join "\n" ((rowsAll ts hs).map Rw.txt) = txtR (rowsAll ts hs) := rfl
    have rok := read_ok okr (by omega)
    have rrw := read_rows ot oh (by omega)
    have stx := sm_txtR okr
    have tfit := txts_fit okr (by omega)
    have pts : ∀ x ∈ ts.map thD, pu 60 x = true := fun x hx => by
      obtain ⟨p, hp, rfl⟩ := List.mem_map.mp hx
      exact pu_thD (ot.2.2 p hp)
    have phs : ∀ x ∈ hs.map heD, pu 60 x = true := fun x hx => by
      obtain ⟨p, hp, rfl⟩ := List.mem_map.mp hx
      exact pu_heD (oh.2.2 p hp).1
    have pts8 : ∀ x ∈ ts.map thD, pu 8 x = true := fun x hx => by
      obtain ⟨p, hp, rfl⟩ := List.mem_map.mp hx
      exact pu8_thD (ot.2.2 p hp)
    have phs8 : ∀ x ∈ hs.map heD, pu 8 x = true := fun x hx => by
      obtain ⟨p, hp, rfl⟩ := List.mem_map.mp hx
      exact pu8_heD (oh.2.2 p hp).1
    have gA : ∀ o : Ob, (B0 ++ G ++ [Ob.lst (ts.map thD)] ++ [Ob.lst (hs.map heD)] ++ [o])[(B0 ++ G).length]? = some (.lst (ts.map thD)) := fun o => get_app (get_app (lcat _ _))
    have gB : ∀ o : Ob, (B0 ++ G ++ [Ob.lst (ts.map thD)] ++ [Ob.lst (hs.map heD)] ++ [o])[(B0 ++ G ++ [Ob.lst (ts.map thD)]).length]? = some (.lst (hs.map heD)) := fun o => get_app (lcat _ _)
    have gH : ∀ o : Ob, (B0 ++ G ++ [Ob.lst (ts.map thD)] ++ [Ob.lst (hs.map heD)] ++ [o])[(B0 ++ G ++ [Ob.lst (ts.map thD)] ++ [Ob.lst (hs.map heD)]).length]? = some o := fun o => lcat _ _
    have gK : ∀ o : Ob, (B0 ++ G ++ [Ob.lst (ts.map thD)] ++ [Ob.lst (hs.map heD)] ++ [o])[k2]? = some (.lst (((rowsAll ts hs).map Rw.txt).map D.str)) := fun o => get_app (get_app (get_app hk))
    have gT : ∀ o : Ob, (B0 ++ G ++ [Ob.lst (ts.map thD)] ++ [Ob.lst (hs.map heD)] ++ [o])[3]? = some (.lst (ts.map thD)) := fun o => get_app (get_app (get_app (g3 _)))
    have gU : ∀ o : Ob, (B0 ++ G ++ [Ob.lst (ts.map thD)] ++ [Ob.lst (hs.map heD)] ++ [o])[4]? = some (.lst (hs.map heD)) := fun o => get_app (get_app (get_app (g4 _)))
    have gX : ∀ o : Ob, ∃ G', B0 ++ G ++ [Ob.lst (ts.map thD)] ++ [Ob.lst (hs.map heD)] ++ [o] = dS dr3 [] ++ G' := fun o => ⟨[.lst (l.map eT), .lst (ts.map thD), .lst (hs.map heD)] ++ G ++ [Ob.lst (ts.map thD)] ++ [Ob.lst (hs.map heD)] ++ [o], by rw [hB0]; rfl⟩
    have okR : okP 10 (.tuple [.list (toPs (ts.map thD)), .list (toPs (hs.map heD))]) = true := by
      show (decide (2 ≤ 100000) && (okP 9 (.list (toPs (ts.map thD))) && (okP 9 (.list (toPs (hs.map heD))) && true))) = true
      rw [okP_pus pts8 (by rw [List.length_map]; omega), okP_pus phs8 (by rw [List.length_map]; omega)]; rfl
    have ew := whoD_num nh
    have eth := things_all nt
    refine WSs.cons (WS.set 13 (WE.lst (WA.cons (WE.callT (WA.cons (WE.var 3 rfl (WA.nil (CW.listL (l := 3) (xs := ts.map thD) (g3 _) (WA.cons (WE.callT (WA.cons (WE.var 4 rfl (WA.nil (CW.listL (l := 4) (xs := hs.map heD) (get_app (g4 _)) (WA.nil ⟨by show 2 ≤ sizeLine; exact sz (by decide), ?_⟩))))) B.list boot_list)))))) B.list boot_list))) sc_law.nd)
    refine WSs.cons (WS.set 14 (WE.join (WE.str ⟨_, rfl, (WE.var 6 rfl ⟨k2, (rowsAll ts hs).map Rw.txt, rfl, gK _, Nat.le_trans tfit (by decide), ?_⟩)⟩)) sc_law.nd)
    rw [etx]
    refine WSs.cons (WS.ite (WT.bool (WP.or (WT.not (WT.val (WE.cal G__law_alike (hr.mono (by first|decide|omega)) (WA.cons (WE.cal G_written (hr.mono (by first|decide|omega)) (WA.cons (WE.ix (WE.var 13 rfl (WE.int (IW.list (gH _) rfl (WA.cons (WE.ix (WE.var 13 rfl (WE.int (IW.list (gH _) rfl (WA.nil ⟨_, _, ts, hs, rfl, gA _, gB _, ot, oh, by omega, by omega, nt, nh, (WA.cons (WE.var 14 rfl (WA.nil ⟨_, _, .str (txtR (rowsAll ts hs)), rfl, .str _, .str _, okP_str stx, ⟨_, rfl, ⟨fun h1 => iT ?_, fun h1 => (WP.or1 (WT.cmp (WE.var 13 rfl (WE.lst (WA.cons (WE.var 3 rfl (WA.cons (WE.var 4 rfl (WA.nil ⟨by show 2 ≤ sizeLine; exact sz (by decide), (BW.neD (p := .list [.list (toPs (ts.map thD)), .list (toPs (hs.map heD))]) (q := .list [.list (toPs (ts.map thD)), .list (toPs (hs.map heD))]) ?_ ?_ ?_ ?_ hr.units ⟨_, rfl, ⟨fun h => ?_, fun h => WSs.nil ?_⟩⟩)⟩)))))))))⟩⟩⟩)))⟩)))))))))))))))))))
    · cases h1
    · exact .lst (get_app (gH _)) (.cons (.lst (get_app (gA _)) (pus_pd _ _ pts).1) (.cons (.lst (get_app (gB _)) (pus_pd _ _ phs).1) .nil))
    · exact .lst (lcat _ _) (.cons (.lst (get_app (gT _)) (pus_pd _ _ pts).1) (.cons (.lst (get_app (gU _)) (pus_pd _ _ phs).1) .nil))
    · exact shp2 (pus_pd [] _ pts).2 (pus_pd [] _ phs).2
    · exact shp2 (pus_pd [] _ pts).2 (pus_pd [] _ phs).2
    · have : PyData.eqv (.list [.list (toPs (ts.map thD)), .list (toPs (hs.map heD))]) (.list [.list (toPs (ts.map thD)), .list (toPs (hs.map heD))]) = true := by
        show (PyData.eqvAll (toPs (ts.map thD)) (toPs (ts.map thD)) && (PyData.eqvAll (toPs (hs.map heD)) (toPs (hs.map heD)) && true)) = true
        rw [eqv_pus pts, eqv_pus phs]; rfl
      rw [this] at h
      cases h
    refine WSs.cons (WS.ite (WT.not (WT.val (WE.cal G__law_alike (hr.mono (by first|decide|omega)) (WA.cons (WE.cal G_read (hr.mono (by first|decide|omega)) (WA.cons (WE.var 14 rfl (WA.nil ⟨_, _, rfl, rok.1, rok.2.1, rok.2.2, rrw, (WA.cons (WE.tup (WA.cons (WE.var 3 rfl (WA.cons (WE.var 4 rfl (WA.nil ⟨by show 2 ≤ sizeLine; exact sz (by decide), (WA.nil ⟨_, _, .tuple [.list (toPs (ts.map thD)), .list (toPs (hs.map heD))], rfl, ?_, ?_, okR, ⟨_, rfl, (iF (WSs.nil ?_))⟩⟩)⟩)))))))⟩)))))))))
    · rw [eth, ew]
      exact .tup (.cons (.lst at_mid (pus_pd _ _ pts).1) (.cons (.lst at_two (pus_pd _ _ phs).1) .nil))
    · exact .tup (.cons (.lst (get_app (get_app (gT _))) (pus_pd _ _ pts).1) (.cons (.lst (get_app (get_app (gU _))) (pus_pd _ _ phs).1) .nil))
    refine WSs.one (WS.expr (WE.bm PySem.F.plainAttrs_list PySem.F.slot_list_append PySem.F.type_list_append (WE.ix (WE.cal G_read (hr.mono (by first|decide|omega)) (WA.cons (WE.var 14 rfl (WA.nil ⟨_, _, rfl, rok.1, rok.2.1, rok.2.2, rrw, (WE.int (IW.tup rfl ⟨?_, (WA.cons (WE.int (WA.nil (MW.append (xs := ts.map thD) (by rw [eth]; exact at_mid) (by rw [List.length_map]; exact szl (by omega)) ?_))))⟩))⟩)))))))
    · exact Or.inl ⟨rfl, _, at_mid⟩
    refine ⟨_, dS dr3 [], CovE.dropX (v2 := [some d, some (.loc 1), none, none, none, none, none, none, none, none, none, none, none, none, none, none]) ?_ (Nat.le_refl _) (bel_dS (dr := dr) b1 (by show 0 < 2; decide)) ?_ ?_, dr3, none, none, none, none, none, none, none, none, none, none, none, none, none, rfl, rfl⟩
    · obtain ⟨G5, hG5⟩ := gX (.lst [.loc (B0 ++ G).length, .loc (B0 ++ G ++ [Ob.lst (ts.map thD)]).length])
      rw [hG5]
      simp only [List.append_assoc]
      exact set_app (by simp only [List.length_append]; omega)
    · exact lessK (lessK (lessS (lessS (lessS (lessS (lessS (lessS (lessS (lessS (lessS (lessS (lessS (lessS (lessS (lessS lessN)))))))))))))))
    · exact belY (bd _) (belY (rfl) (belZ (belZ (belZ (belZ (belZ (belZ (belZ (belZ (belZ (belZ (belZ (belZ (belZ (belZ belN)))))))))))))))
  · rintro v2 S2 ⟨dr, z2, z3, z4, z5, z6, z7, z8, z9, z10, z11, z12, z13, z14, rfl, rfl⟩
    exact WSs.one (WS.ret (WE.bl rfl))
end


/-! ### the head: facts by names, the run (printed by gen.py) -/
def d_is_number : He.DefD := ⟨("is_number", none), "is_number", "is_number", defArgs s_is_number, defBody s_is_number, defScope s_is_number, [], []⟩
def d_are_marks : He.DefD := ⟨("are_marks", none), "are_marks", "are_marks", defArgs s_are_marks, defBody s_are_marks, defScope s_are_marks, [], []⟩
def d_need_thing : He.DefD := ⟨("need_thing", none), "need_thing", "need_thing", defArgs s_need_thing, defBody s_need_thing, defScope s_need_thing, [], []⟩
def d_is_claim : He.DefD := ⟨("is_claim", none), "is_claim", "is_claim", defArgs s_is_claim, defBody s_is_claim, defScope s_is_claim, [], []⟩
def d_need_claims : He.DefD := ⟨("need_claims", none), "need_claims", "need_claims", defArgs s_need_claims, defBody s_need_claims, defScope s_need_claims, [], []⟩
def d_need_room : He.DefD := ⟨("need_room", none), "need_room", "need_room", defArgs s_need_room, defBody s_need_room, defScope s_need_room, [], []⟩
def d_need_numbers : He.DefD := ⟨("need_numbers", none), "need_numbers", "need_numbers", defArgs s_need_numbers, defBody s_need_numbers, defScope s_need_numbers, [], []⟩
def d_need_both : He.DefD := ⟨("need_both", none), "need_both", "need_both", defArgs s_need_both, defBody s_need_both, defScope s_need_both, [], []⟩
def d_all_within : He.DefD := ⟨("all_within", none), "all_within", "all_within", defArgs s_all_within, defBody s_all_within, defScope s_all_within, [], []⟩
def d_written : He.DefD := ⟨("written", none), "written", "written", defArgs s_written, defBody s_written, defScope s_written, [], []⟩
def d_numbers_of : He.DefD := ⟨("numbers_of", none), "numbers_of", "numbers_of", defArgs s_numbers_of, defBody s_numbers_of, defScope s_numbers_of, [], []⟩
def d_Reader___init__ : He.DefD := ⟨("Reader", some "__init__"), "__init__", "Reader.__init__", defArgs s_Reader___init__, defBody s_Reader___init__, defScope s_Reader___init__, [], []⟩
def d_Reader_takes : He.DefD := ⟨("Reader", some "takes"), "takes", "Reader.takes", defArgs s_Reader_takes, defBody s_Reader_takes, defScope s_Reader_takes, [], []⟩
def d_Reader_thing : He.DefD := ⟨("Reader", some "thing"), "thing", "Reader.thing", defArgs s_Reader_thing, defBody s_Reader_thing, defScope s_Reader_thing, [], []⟩
def d_Reader_things : He.DefD := ⟨("Reader", some "things"), "things", "Reader.things", defArgs s_Reader_things, defBody s_Reader_things, defScope s_Reader_things, [], []⟩
def d_read : He.DefD := ⟨("read", none), "read", "read", defArgs s_read, defBody s_read, defScope s_read, [], []⟩
def d__law_mix : He.DefD := ⟨("_law_mix", none), "_law_mix", "_law_mix", defArgs s__law_mix, defBody s__law_mix, defScope s__law_mix, [], []⟩
def d__law_next : He.DefD := ⟨("_law_next", none), "_law_next", "_law_next", defArgs s__law_next, defBody s__law_next, defScope s__law_next, [], []⟩
def d__law_alike : He.DefD := ⟨("_law_alike", none), "_law_alike", "_law_alike", defArgs s__law_alike, defBody s__law_alike, defScope s__law_alike, [], []⟩
def d__law_marks : He.DefD := ⟨("_law_marks", none), "_law_marks", "_law_marks", defArgs s__law_marks, defBody s__law_marks, defScope s__law_marks, [], []⟩
def d__law_thing : He.DefD := ⟨("_law_thing", none), "_law_thing", "_law_thing", defArgs s__law_thing, defBody s__law_thing, defScope s__law_thing, [], []⟩
def d__law_claims : He.DefD := ⟨("_law_claims", none), "_law_claims", "_law_claims", defArgs s__law_claims, defBody s__law_claims, defScope s__law_claims, [], []⟩
def d__law_rows : He.DefD := ⟨("_law_rows", none), "_law_rows", "_law_rows", defArgs s__law_rows, defBody s__law_rows, defScope s__law_rows, [], []⟩
def d_law : He.DefD := ⟨("law", none), "law", "law", defArgs s_law, defBody s_law, defScope s_law, [], []⟩
def fn : List He.DefD := [d_is_number, d_are_marks, d_need_thing, d_is_claim, d_need_claims, d_need_room, d_need_numbers, d_need_both, d_all_within, d_written, d_numbers_of, d_Reader___init__, d_Reader_takes, d_Reader_thing, d_Reader_things, d_read, d__law_mix, d__law_next, d__law_alike, d__law_marks, d__law_thing, d__law_claims, d__law_rows, d_law]
def fa : List He.Fa := [.glo "is_number", .glo "are_marks", .glo "need_thing", .glo "is_claim", .glo "need_claims", .glo "need_room", .glo "need_numbers", .glo "need_both", .glo "all_within", .glo "written", .glo "numbers_of", .glo "read", .glo "_law_mix", .glo "_law_next", .glo "_law_alike", .glo "_law_marks", .glo "_law_thing", .glo "_law_claims", .glo "_law_rows", .glo "law", .free "len", .free "range", .free "isinstance", .free "sorted", .free "max", .free "min", .free "list", .free "tuple", .free "dict", .free "int", .free "str", .free "bool", .free "enumerate", .free "reversed", .free "sum", .free "set", .int "MOST_MARK" 9, .int "MARKS" 3, .int "MOST_INNER" 3, .int "MOST_DEEP" 2, .int "MOST_CLAIMS" 6, .int "MOST_ROOM" 4, .int "MOST_NUMBER" 999, .str "FIGURES" "0123456789", .glo "Reader", .cls "Reader", .mkr "Reader", .noat "Reader" "rows", .noat "Reader" "who", .meth "Reader" "takes", .meth "Reader" "thing", .meth "Reader" "things"]
def loose : List Str := (["MatchError", "BadThing", "BadClaims", "BadRoom", "BadNumbers", "BadText", "MOST_MARK", "MARKS", "MOST_INNER", "MOST_DEEP", "MOST_CLAIMS", "MOST_ROOM", "MOST_NUMBER", "is_number", "are_marks", "need_thing", "is_claim", "need_claims", "need_room", "need_numbers", "need_both", "all_within", "FIGURES", "written", "numbers_of", "Reader", "read", "_law_mix", "_law_next", "_law_alike"] : List Str) ++ (["_law_marks", "_law_thing", "_law_claims", "_law_rows"] : List Str)
abbrev R : PySem.W.OpenRow := PySem.W.OpenLaw.row PySem.Challenge.rw_drivermatch_k13_written_and_read
abbrev hk : PySem.W.Hook := He.hookD 4 fa fn
def ob (s : PySem.W.SharedT) : He.AlD := He.obsDG 4 fa fn (HandSHeadRun.getT s)
theorem ob_eq (s : PySem.W.SharedT) : ob s = hk.obs s.abs := He.obsDG_eq (HandSHeadRun.getT_eq s)
theorem run (w : World) : HandSHeadRun.RunEq R (PySem.W.view R.prog [38]) hk ob 12000 loose w := by
  intro os
  kernel_rfl

theorem facts {P : Program} {w : World} {K : PySem.W.Frag} {h : Heap} {mg : Str → Option Value} {f : Addr} (X : K.In h) (G : h.Ns mainGlobals mg) (hfa : mg ("law" : Str) = some (.ref f)) (c : He.SaysD fa fn K) :
    ∃ fd : FuncData, (∀ (s : Shared) (v : Value), BindsTo s fd ⟨[v], []⟩ [("_law_script", v)]) ∧ ∀ base : Heap, K.In base → base.Ns mainGlobals mg → FnOk P w K mg base CX0 12 f fd ["_law_script"] (spLaw K) := by
  have D_is_number : Df K "is_number" "is_number" s_is_number (He.ga K "is_number") := ⟨c.def_ 0 (d := d_is_number) rfl⟩
  have M_is_number : mg "is_number" = some (.ref (He.ga K "is_number")) := He.glo_ok X G (c.fact 0 (f := .glo "is_number") rfl)
  have D_are_marks : Df K "are_marks" "are_marks" s_are_marks (He.ga K "are_marks") := ⟨c.def_ 1 (d := d_are_marks) rfl⟩
  have M_are_marks : mg "are_marks" = some (.ref (He.ga K "are_marks")) := He.glo_ok X G (c.fact 1 (f := .glo "are_marks") rfl)
  have D_need_thing : Df K "need_thing" "need_thing" s_need_thing (He.ga K "need_thing") := ⟨c.def_ 2 (d := d_need_thing) rfl⟩
  have M_need_thing : mg "need_thing" = some (.ref (He.ga K "need_thing")) := He.glo_ok X G (c.fact 2 (f := .glo "need_thing") rfl)
  have D_is_claim : Df K "is_claim" "is_claim" s_is_claim (He.ga K "is_claim") := ⟨c.def_ 3 (d := d_is_claim) rfl⟩
  have M_is_claim : mg "is_claim" = some (.ref (He.ga K "is_claim")) := He.glo_ok X G (c.fact 3 (f := .glo "is_claim") rfl)
  have D_need_claims : Df K "need_claims" "need_claims" s_need_claims (He.ga K "need_claims") := ⟨c.def_ 4 (d := d_need_claims) rfl⟩
  have M_need_claims : mg "need_claims" = some (.ref (He.ga K "need_claims")) := He.glo_ok X G (c.fact 4 (f := .glo "need_claims") rfl)
  have D_need_room : Df K "need_room" "need_room" s_need_room (He.ga K "need_room") := ⟨c.def_ 5 (d := d_need_room) rfl⟩
  have M_need_room : mg "need_room" = some (.ref (He.ga K "need_room")) := He.glo_ok X G (c.fact 5 (f := .glo "need_room") rfl)
  have D_need_numbers : Df K "need_numbers" "need_numbers" s_need_numbers (He.ga K "need_numbers") := ⟨c.def_ 6 (d := d_need_numbers) rfl⟩
  have M_need_numbers : mg "need_numbers" = some (.ref (He.ga K "need_numbers")) := He.glo_ok X G (c.fact 6 (f := .glo "need_numbers") rfl)
  have D_need_both : Df K "need_both" "need_both" s_need_both (He.ga K "need_both") := ⟨c.def_ 7 (d := d_need_both) rfl⟩
  have M_need_both : mg "need_both" = some (.ref (He.ga K "need_both")) := He.glo_ok X G (c.fact 7 (f := .glo "need_both") rfl)
  have D_all_within : Df K "all_within" "all_within" s_all_within (He.ga K "all_within") := ⟨c.def_ 8 (d := d_all_within) rfl⟩
  have M_all_within : mg "all_within" = some (.ref (He.ga K "all_within")) := He.glo_ok X G (c.fact 8 (f := .glo "all_within") rfl)
  have D_written : Df K "written" "written" s_written (He.ga K "written") := ⟨c.def_ 9 (d := d_written) rfl⟩
  have M_written : mg "written" = some (.ref (He.ga K "written")) := He.glo_ok X G (c.fact 9 (f := .glo "written") rfl)
  have D_numbers_of : Df K "numbers_of" "numbers_of" s_numbers_of (He.ga K "numbers_of") := ⟨c.def_ 10 (d := d_numbers_of) rfl⟩
  have M_numbers_of : mg "numbers_of" = some (.ref (He.ga K "numbers_of")) := He.glo_ok X G (c.fact 10 (f := .glo "numbers_of") rfl)
  have D_Reader___init__ : Df K "__init__" "Reader.__init__" s_Reader___init__ (He.ma K (He.ga K "Reader") "__init__") := ⟨c.def_ 11 (d := d_Reader___init__) rfl⟩
  have M_Reader___init__ : Mk K (He.ga K "Reader") (He.ma K (He.ga K "Reader") "__init__") := He.mkr_ok (c.fact 46 (f := .mkr "Reader") rfl)
  have D_Reader_takes : Df K "takes" "Reader.takes" s_Reader_takes (He.ma K (He.ga K "Reader") "takes") := ⟨c.def_ 12 (d := d_Reader_takes) rfl⟩
  have M_Reader_takes : Meth K (He.ga K "Reader") "takes" (He.ma K (He.ga K "Reader") "takes") := He.meth_ok (c.fact 49 (f := .meth "Reader" "takes") rfl)
  have D_Reader_thing : Df K "thing" "Reader.thing" s_Reader_thing (He.ma K (He.ga K "Reader") "thing") := ⟨c.def_ 13 (d := d_Reader_thing) rfl⟩
  have M_Reader_thing : Meth K (He.ga K "Reader") "thing" (He.ma K (He.ga K "Reader") "thing") := He.meth_ok (c.fact 50 (f := .meth "Reader" "thing") rfl)
  have D_Reader_things : Df K "things" "Reader.things" s_Reader_things (He.ma K (He.ga K "Reader") "things") := ⟨c.def_ 14 (d := d_Reader_things) rfl⟩
  have M_Reader_things : Meth K (He.ga K "Reader") "things" (He.ma K (He.ga K "Reader") "things") := He.meth_ok (c.fact 51 (f := .meth "Reader" "things") rfl)
  have D_read : Df K "read" "read" s_read (He.ga K "read") := ⟨c.def_ 15 (d := d_read) rfl⟩
  have M_read : mg "read" = some (.ref (He.ga K "read")) := He.glo_ok X G (c.fact 11 (f := .glo "read") rfl)
  have D__law_mix : Df K "_law_mix" "_law_mix" s__law_mix (He.ga K "_law_mix") := ⟨c.def_ 16 (d := d__law_mix) rfl⟩
  have M__law_mix : mg "_law_mix" = some (.ref (He.ga K "_law_mix")) := He.glo_ok X G (c.fact 12 (f := .glo "_law_mix") rfl)
  have D__law_next : Df K "_law_next" "_law_next" s__law_next (He.ga K "_law_next") := ⟨c.def_ 17 (d := d__law_next) rfl⟩
  have M__law_next : mg "_law_next" = some (.ref (He.ga K "_law_next")) := He.glo_ok X G (c.fact 13 (f := .glo "_law_next") rfl)
  have D__law_alike : Df K "_law_alike" "_law_alike" s__law_alike (He.ga K "_law_alike") := ⟨c.def_ 18 (d := d__law_alike) rfl⟩
  have M__law_alike : mg "_law_alike" = some (.ref (He.ga K "_law_alike")) := He.glo_ok X G (c.fact 14 (f := .glo "_law_alike") rfl)
  have D__law_marks : Df K "_law_marks" "_law_marks" s__law_marks (He.ga K "_law_marks") := ⟨c.def_ 19 (d := d__law_marks) rfl⟩
  have M__law_marks : mg "_law_marks" = some (.ref (He.ga K "_law_marks")) := He.glo_ok X G (c.fact 15 (f := .glo "_law_marks") rfl)
  have D__law_thing : Df K "_law_thing" "_law_thing" s__law_thing (He.ga K "_law_thing") := ⟨c.def_ 20 (d := d__law_thing) rfl⟩
  have M__law_thing : mg "_law_thing" = some (.ref (He.ga K "_law_thing")) := He.glo_ok X G (c.fact 16 (f := .glo "_law_thing") rfl)
  have D__law_claims : Df K "_law_claims" "_law_claims" s__law_claims (He.ga K "_law_claims") := ⟨c.def_ 21 (d := d__law_claims) rfl⟩
  have M__law_claims : mg "_law_claims" = some (.ref (He.ga K "_law_claims")) := He.glo_ok X G (c.fact 17 (f := .glo "_law_claims") rfl)
  have D__law_rows : Df K "_law_rows" "_law_rows" s__law_rows (He.ga K "_law_rows") := ⟨c.def_ 22 (d := d__law_rows) rfl⟩
  have M__law_rows : mg "_law_rows" = some (.ref (He.ga K "_law_rows")) := He.glo_ok X G (c.fact 18 (f := .glo "_law_rows") rfl)
  have D_law : Df K "law" "law" s_law (He.ga K "law") := ⟨c.def_ 23 (d := d_law) rfl⟩
  have M_law : mg "law" = some (.ref (He.ga K "law")) := He.glo_ok X G (c.fact 19 (f := .glo "law") rfl)
  have B : Bt mg := ⟨He.free_ok X G (c.fact 20 (f := .free "len") rfl), He.free_ok X G (c.fact 21 (f := .free "range") rfl), He.free_ok X G (c.fact 22 (f := .free "isinstance") rfl), He.free_ok X G (c.fact 23 (f := .free "sorted") rfl), He.free_ok X G (c.fact 24 (f := .free "max") rfl), He.free_ok X G (c.fact 25 (f := .free "min") rfl), He.free_ok X G (c.fact 26 (f := .free "list") rfl), He.free_ok X G (c.fact 27 (f := .free "tuple") rfl), He.free_ok X G (c.fact 28 (f := .free "dict") rfl), He.free_ok X G (c.fact 29 (f := .free "int") rfl), He.free_ok X G (c.fact 30 (f := .free "str") rfl), He.free_ok X G (c.fact 31 (f := .free "bool") rfl), He.free_ok X G (c.fact 32 (f := .free "enumerate") rfl), He.free_ok X G (c.fact 33 (f := .free "reversed") rfl), He.free_ok X G (c.fact 34 (f := .free "sum") rfl), He.free_ok X G (c.fact 35 (f := .free "set") rfl)⟩
  have c_MOST_MARK : ∃ tk, mg "MOST_MARK" = some (.int 9 tk) := He.int_ok X G (c.fact 36 (f := .int "MOST_MARK" 9) rfl)
  have c_MARKS : ∃ tk, mg "MARKS" = some (.int 3 tk) := He.int_ok X G (c.fact 37 (f := .int "MARKS" 3) rfl)
  have c_MOST_INNER : ∃ tk, mg "MOST_INNER" = some (.int 3 tk) := He.int_ok X G (c.fact 38 (f := .int "MOST_INNER" 3) rfl)
  have c_MOST_DEEP : ∃ tk, mg "MOST_DEEP" = some (.int 2 tk) := He.int_ok X G (c.fact 39 (f := .int "MOST_DEEP" 2) rfl)
  have c_MOST_CLAIMS : ∃ tk, mg "MOST_CLAIMS" = some (.int 6 tk) := He.int_ok X G (c.fact 40 (f := .int "MOST_CLAIMS" 6) rfl)
  have c_MOST_ROOM : ∃ tk, mg "MOST_ROOM" = some (.int 4 tk) := He.int_ok X G (c.fact 41 (f := .int "MOST_ROOM" 4) rfl)
  have c_MOST_NUMBER : ∃ tk, mg "MOST_NUMBER" = some (.int 999 tk) := He.int_ok X G (c.fact 42 (f := .int "MOST_NUMBER" 999) rfl)
  have c_FIGURES : ∃ tk, mg "FIGURES" = some (.str "0123456789" tk) := He.str_ok X G (c.fact 43 (f := .str "FIGURES" "0123456789") rfl)
  have g_Reader : mg "Reader" = some (.ref (He.ga K "Reader")) := He.glo_ok X G (c.fact 44 (f := .glo "Reader") rfl)
  have cl_Reader : Cls K (He.ga K "Reader") := He.cls_ok (c.fact 45 (f := .cls "Reader") rfl)
  have n_Reader_rows : NoAttr K (He.ga K "Reader") "rows" := He.noat_ok (c.fact 47 (f := .noat "Reader" "rows") rfl)
  have n_Reader_who : NoAttr K (He.ga K "Reader") "who" := He.noat_ok (c.fact 48 (f := .noat "Reader" "who") rfl)
  obtain ⟨fd, F⟩ := c.def_ 23 (d := d_law) rfl
  have e := hfa.symm.trans M_law
  cases e
  have b := FunD.bindsA (ps := ["_law_script"]) F fun _ _ _ _ _ _ us hl => match us, hl with | [_], _ => rfl
  refine ⟨fd, fun s v => b s [v] rfl, fun base _ _ => ?_⟩
  have TR : RdrTxt K (He.ga K "Reader") := ⟨cl_Reader, n_Reader_rows, n_Reader_who⟩
  have G_is_number := c_is_number (P := P) (w := w) (K := K) (mg := mg) (base := base) B D_is_number M_is_number
  have G_are_marks := c_are_marks (P := P) (w := w) (K := K) (mg := mg) (base := base) B c_MARKS c_MOST_MARK G_is_number D_are_marks M_are_marks
  have G_is_claim := c_is_claim (P := P) (w := w) (K := K) (mg := mg) (base := base) B G_is_number G_are_marks D_is_claim M_is_claim
  have G_need_claims := c_need_claims (P := P) (w := w) (K := K) (mg := mg) (base := base) B c_MOST_CLAIMS G_is_claim D_need_claims M_need_claims
  have G_need_room := c_need_room (P := P) (w := w) (K := K) (mg := mg) (base := base) c_MOST_ROOM G_is_number D_need_room M_need_room
  have G_need_numbers := c_need_numbers (P := P) (w := w) (K := K) (mg := mg) (base := base) c_MOST_NUMBER G_is_number D_need_numbers M_need_numbers
  have G_need_thing := c_need_thing (P := P) (w := w) (K := K) (mg := mg) (base := base) B c_MOST_INNER c_MOST_DEEP G_are_marks D_need_thing M_need_thing
  have G_all_within := c_all_within (P := P) (w := w) (K := K) (mg := mg) (base := base) B D_all_within M_all_within
  have G_need_both := c_need_both (P := P) (w := w) (K := K) (mg := mg) (base := base) B G_need_numbers G_need_thing G_need_claims G_need_room D_need_both M_need_both
  have G_numbers_of := c_numbers_of (P := P) (w := w) (K := K) (mg := mg) (base := base) B c_FIGURES D_numbers_of M_numbers_of
  have G_Reader___init__ := c_Reader___init__ (P := P) (w := w) (K := K) (mg := mg) (base := base) B TR D_Reader___init__ M_Reader___init__
  have G_Reader_thing := c_Reader_thing (P := P) (w := w) (K := K) (mg := mg) (base := base) B TR c_MOST_DEEP c_MOST_INNER D_Reader_thing M_Reader_thing
  have G_Reader_takes := c_Reader_takes (P := P) (w := w) (K := K) (mg := mg) (base := base) B TR c_MOST_ROOM c_MOST_CLAIMS G_numbers_of G_Reader_thing D_Reader_takes M_Reader_takes
  have G_Reader_things := c_Reader_things (P := P) (w := w) (K := K) (mg := mg) (base := base) B TR D_Reader_things M_Reader_things
  have G_read := c_read (P := P) (w := w) (K := K) (mg := mg) (base := base) B TR g_Reader G_Reader___init__ G_Reader_takes G_Reader_things D_read M_read
  have G_written := c_written (P := P) (w := w) (K := K) (mg := mg) (base := base) B G_need_both G_all_within D_written M_written
  have G__law_mix := c__law_mix (P := P) (w := w) (K := K) (mg := mg) (base := base) B D__law_mix M__law_mix
  have G__law_next := c__law_next (P := P) (w := w) (K := K) (mg := mg) (base := base) B D__law_next M__law_next
  have G__law_marks := c__law_marks (P := P) (w := w) (K := K) (mg := mg) (base := base) B G__law_next D__law_marks M__law_marks
  have G__law_claims := c__law_claims (P := P) (w := w) (K := K) (mg := mg) (base := base) B G__law_next G__law_marks D__law_claims M__law_claims
  have G__law_thing := c__law_thing (P := P) (w := w) (K := K) (mg := mg) (base := base) B G__law_next G__law_marks D__law_thing M__law_thing 2
  have G__law_thing1 := c__law_thing (P := P) (w := w) (K := K) (mg := mg) (base := base) B G__law_next G__law_marks D__law_thing M__law_thing 1
  have G__law_alike := c__law_alike (P := P) (w := w) (K := K) (mg := mg) (base := base) B D__law_alike M__law_alike 10
  have G__law_rows := c__law_rows (P := P) (w := w) (K := K) (mg := mg) (base := base) B D__law_rows M__law_rows 2
  exact c_law B G__law_mix G__law_next G__law_claims G__law_thing G__law_rows G_written G_read G__law_alike F

end DM
open PySem PySem.W PySem.Calls PyProof.Rows
theorem PySem.Challenge.cw_drivermatch_k13_written_and_read_holds : PySem.Challenge.rw_drivermatch_k13_written_and_read.Holds := by
  w_on; o_law
  refine HandSHeadRun.head_any (r := OpenLaw.row PySem.Challenge.rw_drivermatch_k13_written_and_read) (q := view (OpenLaw.row PySem.Challenge.rw_drivermatch_k13_written_and_read).prog [38]) (H := DM.hk) (ob := DM.ob) (M := 12000) (loose := DM.loose) (d := HandSHeadRun.topDef (OpenLaw.row PySem.Challenge.rw_drivermatch_k13_written_and_read).prog 38) (kwd := []) DM.ob_eq
    (by kernel_rfl) (fun s => by kernel_rfl) DM.run (by kernel_rfl) (by kernel_rfl) (by kernel_rfl) (by rfl) (by first | assumption | decide +kernel) (by decide +kernel) ⟨rfl, rfl, rfl, rfl, rfl, by decide +kernel⟩ ?hw ?hc
  case hw => w_witness2
  case hc =>
    refine L2.walk_ofE (l := PySem.Challenge.rw_drivermatch_k13_written_and_read) (n := 63) (k := 12) (x := "_law_script") (CX := L2.CX0) rfl (by decide) (by kernel_rfl) ⟨rfl, by decide, by decide⟩ ?F (fun _ _ _ _ z => z)
    intro w mg fa h Y G hmg0
    obtain ⟨K, KX, c⟩ := Y
    have hmg : mg ("law" : PySem.Str) = some (.ref fa) := by
      have e : (HandSHeadRun.topDef (OpenLaw.row PySem.Challenge.rw_drivermatch_k13_written_and_read).prog 38).name = ("law" : PySem.Str) := by kernel_rfl
      rw [← e]
      exact hmg0
    obtain ⟨fd, hb, hF⟩ := DM.facts (P := (PySem.Challenge.rw_drivermatch_k13_written_and_read).prog) (w := w) KX G hmg c
    exact ⟨K, fd, DM.spLaw K, KX, hb, fun H a ns hl ho hS => ⟨a, ns, rfl, hS, ho, by omega, fun _ => rfl⟩, hF⟩
