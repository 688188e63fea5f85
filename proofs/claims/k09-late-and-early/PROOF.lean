import PyProof.Rows.All
import Wide.All
import OpenK.AllK
import Wide.FinOn
import KE.KStateDown
import HandS.Base
import HandS.Call
import HandS.List
import HandS.Comp
import HandS.Ends
import HandS.Dict
import HandS.Iter
import HandS.Words
import HandS.WordsExc
import HandS.More
import HandS.Rev
import HandS.RevRange
import HandS.IsInst
import HandS.Defaults
import HandS.Head0
import HandS.Head1
import HandS.Head2
import HandS.HeadEnd
import HandS.HeadHook1
import HandS.HeadHook2
import KE.SortData
import KE.KDictCopyH
import HandS.SetFor
import KE.KDictDisplayH
import KE.KRevSl
import HandS.Conv
import PyProof.DictMoreH
import KE.KDictPairs
import HandS.Deep
import HandS.WordsDict
import HandS.DictTup
import HandS.DictComp
import HandS.TupSets
import HandS.TupAny
import HandS.Zip
import HandS.Style
import PySem.Challenge.RW_drivermatch_k09_whole_late_and_early
set_option Elab.async false
set_option linter.all false
set_option maxRecDepth 100000
set_option maxHeartbeats 4000000
/-! A cleaner store over the hand layer: data, objects by place, and what is wanted behind a piece of code (WE, WT, WA, WS). -/
namespace DM
open PySem L2

/-- a datum: tuples as trees, changing objects by their place in the store -/
inductive D where
  | non | bl (b : Bool) | int (i : Int) | str (x : Str) | ty (n : String) | ref (a : Addr) | tup (xs : List D) | loc (l : Nat) | scr (ns : List Int)
mutual
def D.beq : D → D → Bool
  | .non, .non => true
  | .bl a, .bl b => decide (a = b)
  | .int a, .int b => decide (a = b)
  | .str a, .str b => decide (a = b)
  | .ty a, .ty b => decide (a = b)
  | .ref a, .ref b => decide (a = b)
  | .loc a, .loc b => decide (a = b)
  | .scr a, .scr b => decide (a = b)
  | .tup xs, .tup ys => D.beqs xs ys
  | _, _ => false
def D.beqs : List D → List D → Bool
  | [], [] => true
  | x :: xs, y :: ys => D.beq x y && D.beqs xs ys
  | _, _ => false
end
mutual
theorem D.beq_iff : ∀ (x y : D), D.beq x y = true ↔ x = y
  | .non, y => by cases y <;> simp [D.beq]
  | .bl a, y => by cases y <;> simp [D.beq]
  | .int a, y => by cases y <;> simp [D.beq]
  | .str a, y => by cases y <;> simp [D.beq]
  | .ty a, y => by cases y <;> simp [D.beq]
  | .ref a, y => by cases y <;> simp [D.beq]
  | .loc a, y => by cases y <;> simp [D.beq]
  | .scr a, y => by cases y <;> simp [D.beq]
  | .tup xs, y => by
    cases y with
    | tup ys => simp only [D.beq, D.tup.injEq]; exact D.beqs_iff xs ys
    | _ => simp [D.beq]
theorem D.beqs_iff : ∀ (xs ys : List D), D.beqs xs ys = true ↔ xs = ys
  | [], ys => by cases ys <;> simp [D.beqs]
  | x :: xs, ys => by
    cases ys with
    | nil => simp [D.beqs]
    | cons y ys => simp only [D.beqs, Bool.and_eq_true, List.cons.injEq]; rw [D.beq_iff x y, D.beqs_iff xs ys]
end
instance : DecidableEq D := fun x y => decidable_of_iff _ (D.beq_iff x y)
abbrev Fv := List (Option D)
/-- what stands at a place -/
inductive Ob where
  | lst (xs : List D) | dK (kvs : List (Key × D)) | dT (kvs : List (List Key × D)) | ins (C : Addr) (fs : List (Str × D)) | frz (o : Obj) (u : Ob)
abbrev Store := List Ob

section rel
variable (F : List Addr) (H : Hp)
mutual
def RD : D → V → Prop
  | .non, v => v = .non
  | .bl b, v => v = .bl b
  | .int i, v => v = .int i
  | .str x, v => v = .str x
  | .ty n, v => v = .ty n
  | .ref a, v => v = .ref a
  | .tup xs, v => ∃ a vs, v = .ref a ∧ H a = some (.tup vs) ∧ RDs xs vs
  | .loc l, v => ∃ a, v = .ref a ∧ F[l]? = some a
  | .scr ns, v => ∃ a o, v = .ref a ∧ H a = some (.frz o (.lst (ns.map V.int)))
def RDs : List D → List V → Prop
  | [], vs => vs = []
  | x :: xs, vs => ∃ v r, vs = v :: r ∧ RD x v ∧ RDs xs r
end
def RKs {κ : Type} : List (κ × D) → List (κ × V) → Prop
  | [], vs => vs = []
  | x :: xs, vs => ∃ v r, vs = (x.1, v) :: r ∧ RD F H x.2 v ∧ RKs xs r
def RO : Ob → HO → Prop
  | .lst xs, h => ∃ vs, h = .lst vs ∧ RDs F H xs vs
  | .dK kvs, h => ∃ vs, h = .dK vs ∧ RKs F H kvs vs
  | .dT kvs, h => ∃ vs, h = .dT vs ∧ RKs F H kvs vs
  | .ins C fs, h => ∃ dx vs, h = .ins C dx vs ∧ RKs F H fs vs
  | .frz o u, h => ∃ g, h = .frz o g ∧ RO u g
structure RS (S : Store) : Prop where
  len : F.length = S.length
  nd : F.Nodup
  ob : ∀ (l : Nat) (o : Ob), S[l]? = some o → ∃ (a : Addr) (h : HO), F[l]? = some a ∧ H a = some h ∧ RO F H o h
structure RE (e : Fv) (t : L2.St) : Prop where
  len : e.length = t.length
  at_ : ∀ (i : Nat) (d : D), e[i]? = some (some d) → ∃ v, t[i]? = some (some v) ∧ RD F H d v
end rel
/-- tuples stay, and what is locked -/
def Keep (H H' : Hp) : Prop := (∀ a xs, H a = some (.tup xs) → H' a = some (.tup xs)) ∧ ∀ a o (u : HO), H a = some (.frz o u) → H' a = some (.frz o u)
theorem Keep.refl (H : Hp) : Keep H H := ⟨fun _ _ h => h, fun _ _ _ h => h⟩
theorem Keep.trans {H H1 H2 : Hp} (a : Keep H H1) (b : Keep H1 H2) : Keep H H2 := ⟨fun x y h => b.1 x y (a.1 x y h), fun x o y h => b.2 x o y (a.2 x o y h)⟩
theorem Keep.new {H : Hp} {p : Addr} {o : HO} (h : H p = none) : Keep H (upd H p o) := ⟨fun a xs q => by
  rw [upd_ne (ne_of_none q h)]; exact q, fun a ob xs q => by rw [upd_ne (ne_of_none q h)]; exact q⟩
/-- what is written is no tuple, nothing locked -/
def NoT : HO → Prop
  | .tup _ => False
  | .frz _ _ => False
  | _ => True
theorem Keep.upd {H : Hp} {p : Addr} {u o : HO} (h : H p = some u) (n : NoT u) : Keep H (upd H p o) := ⟨fun a xs q => by
  rw [upd_ne (fun z => by rw [z, h] at q; cases q; exact n)]; exact q, fun a ob xs q => by
  rw [upd_ne (fun z => by rw [z, h] at q; cases q; exact n)]; exact q⟩

section mono
variable {K : PySem.W.Frag} {F F' : List Addr} {H H' : Hp}
theorem pre_get {F F' : List Addr} (p : F <+: F') {l : Nat} {a : Addr} (h : F[l]? = some a) : F'[l]? = some a := by
  obtain ⟨t, rfl⟩ := p
  rw [List.getElem?_append_left (List.getElem?_eq_some_iff.mp h).1]
  exact h
mutual
theorem RD.mono (p : F <+: F') (k : Keep H H') : ∀ (d : D) (v : V), RD F H d v → RD F' H' d v
  | .non, _, h => h
  | .bl _, _, h => h
  | .int _, _, h => h
  | .str _, _, h => h
  | .ty _, _, h => h
  | .ref _, _, h => h
  | .tup xs, _, ⟨a, vs, e, s, r⟩ => ⟨a, vs, e, k.1 _ _ s, RDs.mono p k xs vs r⟩
  | .loc _, _, ⟨a, e, h⟩ => ⟨a, e, pre_get p h⟩
  | .scr _, _, ⟨a, o, e, h⟩ => ⟨a, o, e, k.2 _ _ _ h⟩
theorem RDs.mono (p : F <+: F') (k : Keep H H') : ∀ (xs : List D) (vs : List V), RDs F H xs vs → RDs F' H' xs vs
  | [], _, h => h
  | x :: xs, _, ⟨v, r, e, h1, h2⟩ => ⟨v, r, e, RD.mono p k x v h1, RDs.mono p k xs r h2⟩
end
theorem RKs.mono {κ : Type} (p : F <+: F') (k : Keep H H') : ∀ (xs : List (κ × D)) (vs : List (κ × V)), RKs F H xs vs → RKs F' H' xs vs
  | [], _, h => h
  | _ :: xs, _, ⟨v, r, e, h1, h2⟩ => ⟨v, r, e, RD.mono p k _ v h1, RKs.mono p k xs r h2⟩
theorem RO.mono (p : F <+: F') (k : Keep H H') : ∀ (o : Ob) (h : HO), RO F H o h → RO F' H' o h
  | .lst xs, _, ⟨vs, e, r⟩ => ⟨vs, e, RDs.mono p k xs vs r⟩
  | .dK xs, _, ⟨vs, e, r⟩ => ⟨vs, e, RKs.mono p k xs vs r⟩
  | .dT xs, _, ⟨vs, e, r⟩ => ⟨vs, e, RKs.mono p k xs vs r⟩
  | .ins C xs, _, ⟨dx, vs, e, r⟩ => ⟨dx, vs, e, RKs.mono p k xs vs r⟩
  | .frz o u, _, ⟨g, e, r⟩ => ⟨g, e, RO.mono p k u g r⟩
theorem RE.mono {e : Fv} {t : L2.St} (p : F <+: F') (k : Keep H H') (h : RE F H e t) : RE F' H' e t :=
  ⟨h.len, fun i d q => let ⟨v, a, b⟩ := h.at_ i d q; ⟨v, a, b.mono p k⟩⟩
theorem RDs.length : ∀ {xs : List D} {vs : List V}, RDs F H xs vs → vs.length = xs.length
  | [], _, h => by cases h; rfl
  | _ :: xs, _, ⟨v, r, e, _, h⟩ => by rw [e]; simp [RDs.length h]
theorem RKs.length {κ : Type} : ∀ {xs : List (κ × D)} {vs : List (κ × V)}, RKs F H xs vs → vs.length = xs.length
  | [], _, h => by cases h; rfl
  | _ :: xs, _, ⟨v, r, e, _, h⟩ => by rw [e]; simp [RKs.length h]
theorem RDs.append : ∀ {xs ys : List D} {vs ws : List V}, RDs F H xs vs → RDs F H ys ws → RDs F H (xs ++ ys) (vs ++ ws)
  | [], _, _, _, h, g => by cases h; exact g
  | _ :: xs, _, _, _, ⟨v, r, e, h1, h2⟩, g => ⟨v, _, by rw [e]; rfl, h1, RDs.append h2 g⟩
theorem RDs.get : ∀ {xs : List D} {vs : List V} {i : Nat} {d : D}, RDs F H xs vs → xs[i]? = some d → ∃ v, vs[i]? = some v ∧ RD F H d v
  | [], _, _, _, _, h => by simp at h
  | x :: xs, _, 0, d, ⟨v, r, e, h1, h2⟩, h => by
    have : x = d := by simpa using h
    subst this
    exact ⟨v, by rw [e]; rfl, h1⟩
  | x :: xs, _, i + 1, d, ⟨v, r, e, h1, h2⟩, h => by
    obtain ⟨w, a, b⟩ := RDs.get (i := i) (d := d) h2 (by simpa using h)
    exact ⟨w, by rw [e]; simpa using a, b⟩
theorem RDs.get' : ∀ {xs : List D} {vs : List V} {i : Nat} {v : V}, RDs F H xs vs → vs[i]? = some v → ∃ d, xs[i]? = some d ∧ RD F H d v
  | [], _, _, _, h, g => by cases h; simp at g
  | x :: xs, _, 0, v', ⟨v, r, e, h1, h2⟩, h => by
    subst e
    have : v = v' := by simpa using h
    subst this
    exact ⟨x, rfl, h1⟩
  | x :: xs, _, i + 1, v', ⟨v, r, e, h1, h2⟩, h => by
    subst e
    obtain ⟨w, a, b⟩ := RDs.get' (i := i) (v := v') h2 (by simpa using h)
    exact ⟨w, by simpa using a, b⟩
theorem RDs.set {d : D} {v : V} (r : RD F H d v) : ∀ {xs : List D} {vs : List V} (i : Nat), RDs F H xs vs → RDs F H (xs.set i d) (vs.set i v)
  | [], _, _, h => by cases h; rfl
  | x :: xs, _, 0, ⟨w, r', e, h1, h2⟩ => ⟨v, r', by rw [e]; rfl, r, h2⟩
  | x :: xs, _, i + 1, ⟨w, r', e, h1, h2⟩ => ⟨w, _, by rw [e]; rfl, h1, RDs.set r i h2⟩
theorem RDs.take : ∀ {xs : List D} {vs : List V} (n : Nat), RDs F H xs vs → RDs F H (xs.take n) (vs.take n)
  | _, _, 0, _ => rfl
  | [], _, _ + 1, h => by cases h; rfl
  | _ :: _, _, n + 1, ⟨v, r, e, h1, h2⟩ => ⟨v, _, by rw [e]; rfl, h1, RDs.take n h2⟩
theorem RDs.drop : ∀ {xs : List D} {vs : List V} (n : Nat), RDs F H xs vs → RDs F H (xs.drop n) (vs.drop n)
  | _, _, 0, h => h
  | [], _, _ + 1, h => by cases h; rfl
  | _ :: _, _, n + 1, ⟨v, r, e, h1, h2⟩ => by rw [e]; exact RDs.drop n h2
theorem RDs.dropLast {xs : List D} {vs : List V} (h : RDs F H xs vs) : RDs F H xs.dropLast vs.dropLast := by
  rw [List.dropLast_eq_take, List.dropLast_eq_take, h.length]
  exact h.take _
theorem RDs.eraseIdx : ∀ {xs : List D} {vs : List V} (i : Nat), RDs F H xs vs → RDs F H (xs.eraseIdx i) (vs.eraseIdx i)
  | [], _, _, h => by cases h; rfl
  | x :: xs, _, 0, ⟨w, r', e, h1, h2⟩ => by rw [e]; exact h2
  | x :: xs, _, i + 1, ⟨w, r', e, h1, h2⟩ => ⟨w, _, by rw [e]; rfl, h1, RDs.eraseIdx i h2⟩
theorem RDs.reverse : ∀ {xs : List D} {vs : List V}, RDs F H xs vs → RDs F H xs.reverse vs.reverse
  | [], _, h => by cases h; rfl
  | x :: xs, _, ⟨w, r', e, h1, h2⟩ => by
    rw [e, List.reverse_cons, List.reverse_cons]
    exact RDs.append (RDs.reverse h2) ⟨w, [], rfl, h1, rfl⟩
theorem RS.get {S : Store} (h : RS F H S) {l : Nat} {o : Ob} (e : S[l]? = some o) : ∃ (a : Addr) (u : HO), F[l]? = some a ∧ H a = some u ∧ RO F H o u := h.ob l o e
theorem RS.lt {S : Store} (h : RS F H S) {l : Nat} {a : Addr} (e : F[l]? = some a) : l < S.length := by
  rw [← h.len]; exact (List.getElem?_eq_some_iff.mp e).1
theorem RS.there {S : Store} (h : RS F H S) {a : Addr} (e : a ∈ F) : ∃ u, H a = some u := by
  obtain ⟨l, hl, e⟩ := List.mem_iff_getElem.mp e
  have : l < S.length := by rw [← h.len]; exact hl
  obtain ⟨b, u, q1, q2, _⟩ := h.ob l S[l] (List.getElem?_eq_getElem this)
  rw [List.getElem?_eq_getElem hl] at q1
  cases q1
  rw [e] at q2
  exact ⟨u, q2⟩
/-- the heap alone has grown, all of ours stands -/
theorem RS.heap {S : Store} (h : RS F H S) (k : Keep H H') (s : ∀ a u, a ∈ F → H a = some u → H' a = some u) : RS F H' S :=
  ⟨h.len, h.nd, fun l o e => by
    obtain ⟨a, u, q1, q2, q3⟩ := h.ob l o e
    exact ⟨a, u, q1, s a u (List.mem_of_getElem? q1) q2, q3.mono (List.prefix_refl F) k⟩⟩
/-- an address that isn't ours is laid -/
theorem RS.other {S : Store} {p : Addr} {o : HO} (h : RS F H S) (hp : H p = none) : RS F (upd H p o) S :=
  h.heap (Keep.new hp) fun a u _ q => by rw [upd_ne (ne_of_none q hp)]; exact q
/-- a new object of ours -/
theorem RS.new {S : Store} {p : Addr} {o : Ob} {u : HO} (h : RS F H S) (hp : H p = none) (r : RO F H o u) : RS (F ++ [p]) (upd H p u) (S ++ [o]) := by
  have pre : F <+: F ++ [p] := ⟨[p], rfl⟩
  refine ⟨by simp [h.len], ?_, fun l ob e => ?_⟩
  · rw [List.nodup_append]
    refine ⟨h.nd, by simp, fun a ha b hb e => ?_⟩
    have : b = p := by simpa using hb
    subst this; subst e
    obtain ⟨v, q⟩ := h.there ha
    rw [hp] at q; cases q
  · by_cases hl : l < S.length
    · rw [List.getElem?_append_left hl] at e
      obtain ⟨a, v, q1, q2, q3⟩ := h.ob l ob e
      exact ⟨a, v, pre_get pre q1, by rw [upd_ne (ne_of_none q2 hp)]; exact q2, q3.mono pre (Keep.new hp)⟩
    · have hl' : l = S.length := by
        have := (List.getElem?_eq_some_iff.mp e).1
        simp at this; omega
      subst hl'
      rw [List.getElem?_append_right (Nat.le_refl _)] at e
      simp at e
      subst e
      exact ⟨p, u, by rw [← h.len]; simp, upd_same, r.mono pre (Keep.new hp)⟩
/-- an object of ours is written -/
theorem RS.set {S : Store} {l : Nat} {a : Addr} {o : Ob} {u0 u : HO} (h : RS F H S) (hl : F[l]? = some a) (h0 : H a = some u0) (n : NoT u0) (r : RO F H o u) : RS F (upd H a u) (S.set l o) := by
  refine ⟨by simp [h.len], h.nd, fun j ob e => ?_⟩
  have k : Keep H (upd H a u) := Keep.upd h0 n
  by_cases hj : j = l
  · subst hj
    rw [List.getElem?_set_self (h.lt hl)] at e
    cases e
    exact ⟨a, u, hl, upd_same, r.mono (List.prefix_refl F) k⟩
  · rw [List.getElem?_set_ne (Ne.symm hj)] at e
    obtain ⟨b, v, q1, q2, q3⟩ := h.ob j ob e
    refine ⟨b, v, q1, ?_, q3.mono (List.prefix_refl F) k⟩
    rw [upd_ne ?_]
    · exact q2
    · intro z
      subst z
      have h1 := List.getElem?_eq_some_iff.mp q1
      have h2 := List.getElem?_eq_some_iff.mp hl
      exact hj ((List.getElem_inj h.nd).mp (h1.2.trans h2.2.symm))
end mono
end DM

namespace DM
open PySem PySem.Spec PyProof.Rows L2
/-! ### what is wanted, by the hand layer's own words: the reading of a piece of code is its own run -/
section canon
variable (X : Cx)
def wE (e : Expr) : TE := fun t H Q => ∀ pins s, Inv X pins t H s → wpAny (model X.prog X.w) X.A (eval e X.env) (EP X pins t Q) X.xe s
def wT (e : Expr) : TT := fun t H Q => ∀ pins s, Inv X pins t H s → wpAny (model X.prog X.w) X.A (isTrue e X.env (eval e X.env)) (TP X pins t Q) X.xe s
def wP (e : Expr) : TT := fun t H Q => ∀ whole pins s, Inv X pins t H s → wpAny (model X.prog X.w) X.A (isTrue e X.env whole) (TP X pins t Q) X.xe s
def wA (es : List Expr) : TA := fun t H Q => ∀ pos pins s, Inv X pins t H s → wpAny (model X.prog X.w) X.A (spliced (backTo pos (starEach es X.env))) (AP X pins t Q) X.xe s
def wS (st : Stmt) : TS := fun D t H => ∀ pins s, Inv X pins t H s → wpAny (model X.prog X.w) X.A (exec st X.env) (SP X pins D) X.xe s
def wSs (st : List Stmt) : TS := fun D t H => ∀ pins s, Inv X pins t H s → wpAny (model X.prog X.w) X.A (execs st X.env) (SP X pins D) X.xe s
def wG (tg : Expr) : TG := fun v t H Q => ∀ pins s u, Inv X pins t H s → RelV v u → wpAny (model X.prog X.w) X.A (assign tg X.env u) (fun _ s' => ∃ t' H', Inv X pins t' H' s' ∧ Q t' H') X.xe s
def wGs (ts : List Expr) : TGs := fun vs t H Q => ∀ pins s us, Inv X pins t H s → Vals vs us → wpAny (model X.prog X.w) X.A (assignInOrder ((assignEach ts X.env).map (·.2)) us) (fun _ s' => ∃ t' H', Inv X pins t' H' s' ∧ Q t' H') X.xe s
def wO (e : Option Expr) : TO := fun t H Q => ∀ pins s, Inv X pins t H s → wpAny (model X.prog X.w) X.A (evalPart e X.env) (fun u s' => ∃ o H', Inv X pins t H' s' ∧ IsPart u o ∧ Q o H') X.xe s
def wB (f : Value → Value → Sem Value) : R2 := fun x y H Q => ∀ pins s t v u, Inv X pins t H s → RelV x v → RelV y u → wpAny (model X.prog X.w) X.A (f v u) (EP X pins t Q) X.xe s
def wU (f : Value → Sem Value) : V → Hp → VK → Prop := fun x H Q => ∀ pins s t v, Inv X pins t H s → RelV x v → wpAny (model X.prog X.w) X.A (f v) (EP X pins t Q) X.xe s
def wIx : R2 := fun x y H Q => ∀ (value slice : Expr) pins s t v u, Inv X pins t H s → RelV x v → RelV y u → subscripted slice false v u = operate [v, u] (getItem v u) → wpAny (model X.prog X.w) X.A (subscriptTail value slice v u) (EP X pins t Q) X.xe s
def wC (f : Value) : List V → Hp → VK → Prop := fun xs H Q => ∀ pins s t us, Inv X pins t H s → Vals xs us → wpAny (model X.prog X.w) X.A (call f us) (EP X pins t Q) X.xe s
def wM (id : String) : V → List V → Hp → VK → Prop := fun x xs H Q => ∀ pins s t v us, Inv X pins t H s → RelV x v → Vals xs us → wpAny (model X.prog X.w) X.A (call (.builtin id) (v :: us)) (EP X pins t Q) X.xe s
variable {X}
theorem pe_w {e : Expr} : PE X e (wE X e) := ⟨fun pins s t H Q I h => h pins s I⟩
theorem pt_w {e : Expr} : PT X e (wT X e) := ⟨fun pins s t H Q I h => h pins s I⟩
theorem pw_w {e : Expr} : PW X e (wP X e) := ⟨fun wh pins s t H Q I h => h wh pins s I⟩
theorem pa_w {es : List Expr} : PA X es (wA X es) := ⟨fun pos pins s t H Q I h => h pos pins s I⟩
theorem ps_w {st : Stmt} : PS X st (wS X st) := ⟨fun pins s t H D I h => h pins s I⟩
theorem pss_w {st : List Stmt} : PSs X st (wSs X st) := ⟨fun pins s t H D I h => h pins s I⟩
theorem pg_w {tg : Expr} : PG X tg (wG X tg) := ⟨fun pins s t H v u Q I r h => h pins s u I r⟩
theorem pgs_w {ts : List Expr} : PGs X ts (wGs X ts) := ⟨fun pins s t H vs us Q I r h => h pins s us I r⟩
theorem po_w {e : Option Expr} : PO X e (wO X e) := ⟨fun pins s t H Q I h => h pins s I⟩
theorem op_w {f : Value → Value → Sem Value} : OpR X f (wB X f) := fun pins s t H x y v u Q I rx ry h => h pins s t v u I rx ry
theorem un_w {f : Value → Sem Value} : UnR X f (wU X f) := fun pins s t H x v Q I rx h => h pins s t v I rx
theorem ix_w : IxR X (wIx X) := fun value slice pins s t H x y v u Q I rx ry h hs => h value slice pins s t v u I rx ry hs
theorem call_w {f : Value} : CallR X f (wC X f) := fun pins s t H xs us Q I r h => h pins s t us I r
theorem mt_w {id : String} : MtR X id (wM X id) := fun pins s t H x xs v us Q I rx r h => h pins s t v us I rx r
theorem wE_of {e : Expr} {te : TE} {t : L2.St} {H : Hp} {Q : VK} (p : PE X e te) (h : te t H Q) : wE X e t H Q := fun pins s I => p.run pins s t H Q I h
theorem wT_of {e : Expr} {te : TT} {t : L2.St} {H : Hp} {Q : Bool → Hp → Prop} (p : PT X e te) (h : te t H Q) : wT X e t H Q := fun pins s I => p.run pins s t H Q I h
theorem wP_of {e : Expr} {te : TT} {t : L2.St} {H : Hp} {Q : Bool → Hp → Prop} (p : PW X e te) (h : te t H Q) : wP X e t H Q := fun wh pins s I => p.run wh pins s t H Q I h
theorem wA_of {e : List Expr} {te : TA} {t : L2.St} {H : Hp} {Q : List V → Hp → Prop} (p : PA X e te) (h : te t H Q) : wA X e t H Q := fun pos pins s I => p.run pos pins s t H Q I h
theorem wS_of {e : Stmt} {te : TS} {t : L2.St} {H : Hp} {D : Ends} (p : PS X e te) (h : te D t H) : wS X e D t H := fun pins s I => p.run pins s t H D I h
theorem wSs_of {e : List Stmt} {te : TS} {t : L2.St} {H : Hp} {D : Ends} (p : PSs X e te) (h : te D t H) : wSs X e D t H := fun pins s I => p.run pins s t H D I h
theorem wG_of {e : Expr} {te : TG} {t : L2.St} {H : Hp} {v : V} {Q : L2.St → Hp → Prop} (p : PG X e te) (h : te v t H Q) : wG X e v t H Q := fun pins s u I r => p.run pins s t H v u Q I r h
theorem wGs_of {e : List Expr} {te : TGs} {t : L2.St} {H : Hp} {vs : List V} {Q : L2.St → Hp → Prop} (p : PGs X e te) (h : te vs t H Q) : wGs X e vs t H Q := fun pins s us I r => p.run pins s t H vs us Q I r h
theorem wO_of {e : Option Expr} {te : TO} {t : L2.St} {H : Hp} {Q : Option Int → Hp → Prop} (p : PO X e te) (h : te t H Q) : wO X e t H Q := fun pins s I => p.run pins s t H Q I h
theorem wB_of {f : Value → Value → Sem Value} {r : R2} {x y : V} {H : Hp} {Q : VK} (p : OpR X f r) (h : r x y H Q) : wB X f x y H Q := fun pins s t v u I rx ry => p pins s t H x y v u Q I rx ry h
theorem wU_of {f : Value → Sem Value} {r : V → Hp → VK → Prop} {x : V} {H : Hp} {Q : VK} (p : UnR X f r) (h : r x H Q) : wU X f x H Q := fun pins s t v I rx => p pins s t H x v Q I rx h
theorem wIx_of {r : R2} {x y : V} {H : Hp} {Q : VK} (p : IxR X r) (h : r x y H Q) : wIx X x y H Q := fun value slice pins s t v u I rx ry hs => p value slice pins s t H x y v u Q I rx ry h hs
theorem wC_of {f : Value} {r : List V → Hp → VK → Prop} {xs : List V} {H : Hp} {Q : VK} (p : CallR X f r) (h : r xs H Q) : wC X f xs H Q := fun pins s t us I rx => p pins s t H xs us Q I rx h
theorem wM_of {id : String} {r : V → List V → Hp → VK → Prop} {x : V} {xs : List V} {H : Hp} {Q : VK} (p : MtM X id r) (h : r x xs H Q) : wM X id x xs H Q := fun pins s t v us I rx r => p pins s t H x xs v us Q I rx r h
theorem wM_ofR {id : String} {r : V → List V → Hp → VK → Prop} {x : V} {xs : List V} {H : Hp} {Q : VK} (p : MtR X id r) (h : r x xs H Q) : wM X id x xs H Q := fun pins s t v us I rx r => p pins s t H x xs v us Q I rx r h
end canon

/-! ### the ends, over the store -/
section posts
variable (F : List Addr) (H : Hp)
def Post (Q : D → Store → Prop) (Q' : VK) : Prop := ∀ F' d v H' S', F <+: F' → Keep H H' → RS F' H' S' → RD F' H' d v → Q d S' → Q' v H'
def PostT (Q : Bool → Store → Prop) (Q' : Bool → Hp → Prop) : Prop := ∀ F' b H' S', F <+: F' → Keep H H' → RS F' H' S' → Q b S' → Q' b H'
def PostA (Q : List D → Store → Prop) (Q' : List V → Hp → Prop) : Prop := ∀ F' ds vs H' S', F <+: F' → Keep H H' → RS F' H' S' → RDs F' H' ds vs → Q ds S' → Q' vs H'
def PostO (Q : Option Int → Store → Prop) (Q' : Option Int → Hp → Prop) : Prop := ∀ F' o H' S', F <+: F' → Keep H H' → RS F' H' S' → Q o S' → Q' o H'
def PostG (Q : Fv → Store → Prop) (Q' : L2.St → Hp → Prop) : Prop := ∀ F' e t H' S', F <+: F' → Keep H H' → RE F' H' e t → RS F' H' S' → Q e S' → Q' t H'
structure Ed where
  nx : Fv → Store → Prop
  rt : D → Store → Prop
  bk : Fv → Store → Prop := fun _ _ => False
  ct : Fv → Store → Prop := fun _ _ => False
structure PostS (E : Ed) (E' : Ends) : Prop where
  nx : PostG F H E.nx E'.nx
  rt : Post F H E.rt E'.rt
  bk : PostG F H E.bk E'.bk
  ct : PostG F H E.ct E'.ct
end posts
section
variable {K : PySem.W.Frag} {F F' : List Addr} {H H' : Hp}
theorem Post.mono {Q : D → Store → Prop} {Q' : VK} (h : Post F H Q Q') (p : F <+: F') (k : Keep H H') : Post F' H' Q Q' := fun F2 d v H2 S2 p2 k2 => h F2 d v H2 S2 (p.trans p2) (k.trans k2)
theorem PostT.mono {Q : Bool → Store → Prop} {Q' : Bool → Hp → Prop} (h : PostT F H Q Q') (p : F <+: F') (k : Keep H H') : PostT F' H' Q Q' := fun F2 d H2 S2 p2 k2 => h F2 d H2 S2 (p.trans p2) (k.trans k2)
theorem PostA.mono {Q : List D → Store → Prop} {Q' : List V → Hp → Prop} (h : PostA F H Q Q') (p : F <+: F') (k : Keep H H') : PostA F' H' Q Q' := fun F2 d v H2 S2 p2 k2 => h F2 d v H2 S2 (p.trans p2) (k.trans k2)
theorem PostO.mono {Q : Option Int → Store → Prop} {Q' : Option Int → Hp → Prop} (h : PostO F H Q Q') (p : F <+: F') (k : Keep H H') : PostO F' H' Q Q' := fun F2 d H2 S2 p2 k2 => h F2 d H2 S2 (p.trans p2) (k.trans k2)
theorem PostG.mono {Q : Fv → Store → Prop} {Q' : L2.St → Hp → Prop} (h : PostG F H Q Q') (p : F <+: F') (k : Keep H H') : PostG F' H' Q Q' := fun F2 d v H2 S2 p2 k2 => h F2 d v H2 S2 (p.trans p2) (k.trans k2)
theorem PostS.mono {E : Ed} {E' : Ends} (h : PostS F H E E') (p : F <+: F') (k : Keep H H') : PostS F' H' E E' := ⟨h.nx.mono p k, h.rt.mono p k, h.bk.mono p k, h.ct.mono p k⟩
end

/-! ### the judgements over the store -/
section judg
variable (X : Cx)
def WE (e : Expr) (v : Fv) (S : Store) (Q : D → Store → Prop) : Prop := ∀ F t H Q', RE F H v t → RS F H S → Post F H Q Q' → wE X e t H Q'
def WT (e : Expr) (v : Fv) (S : Store) (Q : Bool → Store → Prop) : Prop := ∀ F t H Q', RE F H v t → RS F H S → PostT F H Q Q' → wT X e t H Q'
def WP (e : Expr) (v : Fv) (S : Store) (Q : Bool → Store → Prop) : Prop := ∀ F t H Q', RE F H v t → RS F H S → PostT F H Q Q' → wP X e t H Q'
def WA (e : List Expr) (v : Fv) (S : Store) (Q : List D → Store → Prop) : Prop := ∀ F t H Q', RE F H v t → RS F H S → PostA F H Q Q' → wA X e t H Q'
def WO (e : Option Expr) (v : Fv) (S : Store) (Q : Option Int → Store → Prop) : Prop := ∀ F t H Q', RE F H v t → RS F H S → PostO F H Q Q' → wO X e t H Q'
def WG (tg : Expr) (d : D) (v : Fv) (S : Store) (Q : Fv → Store → Prop) : Prop := ∀ F t H u Q', RE F H v t → RS F H S → RD F H d u → PostG F H Q Q' → wG X tg u t H Q'
def WGs (tg : List Expr) (ds : List D) (v : Fv) (S : Store) (Q : Fv → Store → Prop) : Prop := ∀ F t H us Q', RE F H v t → RS F H S → RDs F H ds us → PostG F H Q Q' → wGs X tg us t H Q'
/-- n: the places below n stay where they are -/
def WS (n : Nat) (st : Stmt) (v : Fv) (S : Store) (E : Ed) : Prop := ∀ F0 H0 F t H E', F0.length = n → F0 <+: F → Keep H0 H → RE F H v t → RS F H S → PostS F0 H0 E E' → wS X st E' t H
def WSs (n : Nat) (st : List Stmt) (v : Fv) (S : Store) (E : Ed) : Prop := ∀ F0 H0 F t H E', F0.length = n → F0 <+: F → Keep H0 H → RE F H v t → RS F H S → PostS F0 H0 E E' → wSs X st E' t H
/-- by values -/
def BW (f : Value → Value → Sem Value) (x y : D) (S : Store) (Q : D → Store → Prop) : Prop := ∀ F H vx vy Q', RS F H S → RD F H x vx → RD F H y vy → Post F H Q Q' → wB X f vx vy H Q'
def UW (f : Value → Sem Value) (x : D) (S : Store) (Q : D → Store → Prop) : Prop := ∀ F H vx Q', RS F H S → RD F H x vx → Post F H Q Q' → wU X f vx H Q'
def IW (x y : D) (S : Store) (Q : D → Store → Prop) : Prop := ∀ F H vx vy Q', RS F H S → RD F H x vx → RD F H y vy → Post F H Q Q' → wIx X vx vy H Q'
def CW (f : Value) (ds : List D) (S : Store) (Q : D → Store → Prop) : Prop := ∀ F H vs Q', RS F H S → RDs F H ds vs → Post F H Q Q' → wC X f vs H Q'
def MW (id : String) (x : D) (ds : List D) (S : Store) (Q : D → Store → Prop) : Prop := ∀ F H vx vs Q', RS F H S → RD F H x vx → RDs F H ds vs → Post F H Q Q' → wM X id vx vs H Q'
end judg

section rules
variable {X : Cx} {a b c e : Expr} {es : List Expr} {v : Fv} {S : Store} {Q : D → Store → Prop} {pos : Pos}
theorem WE.mono {Q2 : D → Store → Prop} (h : WE X e v S Q) (k : ∀ d S', Q d S' → Q2 d S') : WE X e v S Q2 := fun F t H Q' re rs p => h F t H Q' re rs fun F' d u H' S' a b c r q => p F' d u H' S' a b c r (k _ _ q)
theorem WE.var (i : Nat) {x : Str} {d : D} (hv : v[i]? = some (some d)) (h : Q d S) (hN : X.N[i]? = some x := by rfl) (hx : Vis X.env.scope x := by first | exact Or.inl rfl | exact Or.inr (Or.inl rfl) | exact Or.inr (Or.inr rfl))
    (hd : (x == ("__debug__" : Str)) = false := by decide) (hcd : (x == ("__classdict__" : Str)) = false := by decide) : WE X (.Name x pos) v S Q := fun F t H Q' re rs p => by
  obtain ⟨u, e1, r⟩ := re.at_ i d hv
  exact wE_of (pe_var hN hx hd hcd) ⟨u, e1, p F d u H S (List.prefix_refl F) (Keep.refl H) rs r h⟩
theorem WE.cst {te : V} {d : D} (hp : PE X e (tC te)) (hr : ∀ F H, RD F H d te) (h : Q d S) : WE X e v S Q := fun F t H Q' re rs p =>
  wE_of hp (p F d te H S (List.prefix_refl F) (Keep.refl H) rs (hr F H) h)
theorem WE.int {i : Int} {j : Nat} (h : Q (.int i) S) : WE X (.Constant (.int i) j pos) v S Q := WE.cst (d := .int i) pe_int (fun _ _ => rfl) h
theorem WE.bl {b : Bool} {j : Nat} (h : Q (.bl b) S) : WE X (.Constant (.bool b) j pos) v S Q := WE.cst (d := .bl b) pe_bl (fun _ _ => rfl) h
theorem WE.non {j : Nat} (h : Q .non S) : WE X (.Constant .none j pos) v S Q := WE.cst (d := .non) pe_non (fun _ _ => rfl) h
theorem WE.str {x : Str} {j : Nat} (h : Q (.str x) S) : WE X (.Constant (.str x) j pos) v S Q := WE.cst (d := .str x) pe_str (fun _ _ => rfl) h
/-- a module's int constant -/
theorem WE.globI {x : Str} {i : Int} {tk : Tok} (hm : X.mg x = some (.int i tk)) (h : Q (.int i) S) (hg : Gl X x := by rfl) (hd : (x == ("__debug__" : Str)) = false := by decide) : WE X (.Name x pos) v S Q := WE.cst (d := .int i) (pe_glob hg hm (v := .int i) ⟨tk, rfl⟩ hd) (fun _ _ => rfl) h
theorem WE.globS {x : Str} {i : Str} {tk : Tok} (hm : X.mg x = some (.str i tk)) (h : Q (.str i) S) (hg : Gl X x := by rfl) (hd : (x == ("__debug__" : Str)) = false := by decide) : WE X (.Name x pos) v S Q := WE.cst (d := .str i) (pe_glob hg hm (v := .str i) ⟨tk, rfl⟩ hd) (fun _ _ => rfl) h
theorem WE.globR {x : Str} {i : Addr} (hm : X.mg x = some (.ref i)) (h : Q (.ref i) S) (hg : Gl X x := by rfl) (hd : (x == ("__debug__" : Str)) = false := by decide) : WE X (.Name x pos) v S Q := WE.cst (d := .ref i) (pe_glob hg hm (v := .ref i) rfl hd) (fun _ _ => rfl) h
theorem WE.bty {x : Str} {n : String} (hm : X.mg x = none) (hv : bootBuiltins x = some (.type n)) (h : Q (.ty n) S) (hg : Gl X x := by rfl) (hn : x ≠ "__name__" := by decide) (hd : (x == ("__debug__" : Str)) = false := by decide) : WE X (.Name x pos) v S Q :=
  WE.cst (d := .ty n) (pe_bltn hg hm hv (v := .ty n) rfl hn hd) (fun _ _ => rfl) h
/-- two parts, then the operation on their values -/
theorem WE.bin {op : Operator} (h : WE X a v S fun x S1 => WE X b v S1 fun y S2 => BW X (binaryOp op) x y S2 Q) : WE X (.BinOp a op b pos) v S Q := fun F t H Q' re rs k => by
  refine wE_of (pe_op (op_w (f := binaryOp op)) pe_w pe_w) ?_
  refine h F t H _ re rs fun F1 x vx H1 S1 p1 k1 rs1 r1 h1 => ?_
  refine h1 F1 t H1 _ (re.mono p1 k1) rs1 fun F2 y vy H2 S2 p2 k2 rs2 r2 h2 => ?_
  exact h2 F2 H2 vx vy Q' rs2 (r1.mono p2 k2) r2 (k.mono (p1.trans p2) (k1.trans k2))
theorem WE.un {op : UnaryOp} (h : WE X a v S fun x S1 => UW X (unaryOp op) x S1 Q) : WE X (.UnaryOp op a pos) v S Q := fun F t H Q' re rs k => by
  refine wE_of (pe_un (un_w (f := unaryOp op)) pe_w) ?_
  refine h F t H _ re rs fun F1 x vx H1 S1 p1 k1 rs1 r1 h1 => ?_
  exact h1 F1 H1 vx Q' rs1 r1 (k.mono p1 k1)
theorem WE.cmp {op : CmpOp} (h : WE X a v S fun x S1 => WE X b v S1 fun y S2 => BW X (compareOp op) x y S2 Q) (hm : behindInMarks op b = false := by first | exact nobehind _ (by decide) (by decide) | rfl) : WE X (.Compare a [op] [b] pos) v S Q := fun F t H Q' re rs k => by
  refine wE_of (pe_cmpR (op_w (f := compareOp op)) pe_w pe_w hm) ?_
  refine h F t H _ re rs fun F1 x vx H1 S1 p1 k1 rs1 r1 h1 => ?_
  refine h1 F1 t H1 _ (re.mono p1 k1) rs1 fun F2 y vy H2 S2 p2 k2 rs2 r2 h2 => ?_
  exact h2 F2 H2 vx vy Q' rs2 (r1.mono p2 k2) r2 (k.mono (p1.trans p2) (k1.trans k2))
theorem WT.cmp {op : CmpOp} {Q : Bool → Store → Prop} (h : WE X a v S fun x S1 => WE X b v S1 fun y S2 => BW X (compareOp op) x y S2 fun z S3 => ∃ k, z = .bl k ∧ Q k S3) (hm : behindInMarks op b = false := by first | exact nobehind _ (by decide) (by decide) | rfl) : WT X (.Compare a [op] [b] pos) v S Q := fun F t H Q' re rs k => by
  refine wT_of (pt_cmpR (op_w (f := compareOp op)) pe_w pe_w hm) ?_
  refine h F t H _ re rs fun F1 x vx H1 S1 p1 k1 rs1 r1 h1 => ?_
  refine h1 F1 t H1 _ (re.mono p1 k1) rs1 fun F2 y vy H2 S2 p2 k2 rs2 r2 h2 => ?_
  refine h2 F2 H2 vx vy _ rs2 (r1.mono p2 k2) r2 fun F3 z vz H3 S3 p3 k3 rs3 r3 q => ?_
  obtain ⟨b, rfl, q⟩ := q
  exact ⟨b, r3, k F3 b H3 S3 ((p1.trans p2).trans p3) ((k1.trans k2).trans k3) rs3 q⟩
/-- a op b op' c -/
theorem WE.chain {op op' : CmpOp} (h : WE X a v S fun x S1 => WE X b v S1 fun y S2 => BW X (compareOp op) x y S2 fun z S3 => ∃ k, z = .bl k ∧ (k = true → WE X c v S3 fun w S4 => BW X (compareOp op') y w S4 Q) ∧ (k = false → Q (.bl false) S3))
    (hm : lastMarks [op, op'] [b, c] = false := by with_unfolding_all rfl) : WE X (.Compare a [op, op'] [b, c] pos) v S Q := fun F t H Q' re rs k => by
  refine wE_of (pe_chain (op_w (f := compareOp op)) (op_w (f := compareOp op')) pe_w pe_w pe_w hm) ?_
  refine h F t H _ re rs fun F1 x vx H1 S1 p1 k1 rs1 r1 h1 => ?_
  refine h1 F1 t H1 _ (re.mono p1 k1) rs1 fun F2 y vy H2 S2 p2 k2 rs2 r2 h2 => ?_
  refine h2 F2 H2 vx vy _ rs2 (r1.mono p2 k2) r2 fun F3 z vz H3 S3 p3 k3 rs3 r3 q => ?_
  obtain ⟨b, rfl, qt, qf⟩ := q
  refine ⟨b, r3, ?_⟩
  have p13 := (p1.trans p2).trans p3
  have k13 := (k1.trans k2).trans k3
  cases b with
  | false => exact iteF (k F3 (.bl false) _ H3 S3 p13 k13 rs3 rfl (qf rfl))
  | true =>
    refine iteT (qt rfl F3 t H3 _ (re.mono p13 k13) rs3 fun F4 w vw H4 S4 p4 k4 rs4 r4 h4 => ?_)
    exact h4 F4 H4 vy vw Q' rs4 (r2.mono (p3.trans p4) (k3.trans k4)) r4 (k.mono (p13.trans p4) (k13.trans k4))
/-- tests -/
theorem WT.val {Q : Bool → Store → Prop} (h : WE X e v S fun d S1 => ∃ k, d = .bl k ∧ Q k S1) (he : ∀ whole, isTrue e X.env whole = (do let v ← whole; standAt e.pos; holding [v] (truthy v)) := by intro _; rfl) : WT X e v S Q := fun F t H Q' re rs k => by
  refine wT_of (pt_val pe_w he) ?_
  refine h F t H _ re rs fun F1 x vx H1 S1 p1 k1 rs1 r1 h1 => ?_
  obtain ⟨b, rfl, q⟩ := h1
  exact ⟨b, r1, k F1 b H1 S1 p1 k1 rs1 q⟩
theorem WT.not {Q : Bool → Store → Prop} (h : WT X a v S fun c S1 => Q (!c) S1) : WT X (.UnaryOp .Not a pos) v S Q := fun F t H Q' re rs k => by
  refine wT_of (pt_not pt_w) ?_
  exact h F t H _ re rs fun F1 b H1 S1 p1 k1 rs1 q => k F1 _ H1 S1 p1 k1 rs1 q
theorem WT.bool {op : BoolOp} {Q : Bool → Store → Prop} (h : WP X (.BoolOp op es pos) v S Q) : WT X (.BoolOp op es pos) v S Q := fun F t H Q' re rs k => wT_of (PW.pt pw_w) (h F t H Q' re rs k)
theorem WP.and1 {Q : Bool → Store → Prop} (h : WT X a v S Q) : WP X (.BoolOp .And [a] pos) v S Q := fun F t H Q' re rs k => wP_of (pw_and1 pt_w) (h F t H Q' re rs k)
theorem WP.or1 {Q : Bool → Store → Prop} (h : WT X a v S Q) : WP X (.BoolOp .Or [a] pos) v S Q := fun F t H Q' re rs k => wP_of (pw_or1 pt_w) (h F t H Q' re rs k)
theorem WP.and {Q : Bool → Store → Prop} (h : WT X a v S fun k S1 => (k = true → WP X (.BoolOp .And (b :: es) pos) v S1 Q) ∧ (k = false → Q false S1)) : WP X (.BoolOp .And (a :: b :: es) pos) v S Q := fun F t H Q' re rs k => by
  refine wP_of (pw_and pt_w pw_w) ?_
  refine h F t H _ re rs fun F1 c H1 S1 p1 k1 rs1 q => ?_
  cases c with
  | true => exact iteT (q.1 rfl F1 t H1 _ (re.mono p1 k1) rs1 (k.mono p1 k1))
  | false => exact iteF (k F1 _ H1 S1 p1 k1 rs1 (q.2 rfl))
theorem WP.or {Q : Bool → Store → Prop} (h : WT X a v S fun k S1 => (k = true → Q true S1) ∧ (k = false → WP X (.BoolOp .Or (b :: es) pos) v S1 Q)) : WP X (.BoolOp .Or (a :: b :: es) pos) v S Q := fun F t H Q' re rs k => by
  refine wP_of (pw_or pt_w pw_w) ?_
  refine h F t H _ re rs fun F1 c H1 S1 p1 k1 rs1 q => ?_
  cases c with
  | true => exact iteT (k F1 _ H1 S1 p1 k1 rs1 (q.1 rfl))
  | false => exact iteF (q.2 rfl F1 t H1 _ (re.mono p1 k1) rs1 (k.mono p1 k1))
/-- and, or, not as values: all but the last are bools -/
theorem WE.one {op : BoolOp} (h : WE X a v S Q) : WE X (.BoolOp op [a] pos) v S Q := fun F t H Q' re rs k => wE_of (pe_one pe_w) (h F t H Q' re rs k)
theorem WE.and (h : WE X a v S fun d S1 => ∃ k, d = .bl k ∧ (k = true → WE X (.BoolOp .And (b :: es) pos) v S1 Q) ∧ (k = false → Q (.bl false) S1)) : WE X (.BoolOp .And (a :: b :: es) pos) v S Q := fun F t H Q' re rs k => by
  refine wE_of (pe_and pe_w pe_w) ?_
  refine h F t H _ re rs fun F1 c vc H1 S1 p1 k1 rs1 r1 q => ?_
  obtain ⟨b, rfl, qt, qf⟩ := q
  refine ⟨b, r1, ?_⟩
  cases b with
  | true => exact iteT (qt rfl F1 t H1 _ (re.mono p1 k1) rs1 (k.mono p1 k1))
  | false => exact iteF (k F1 (.bl false) _ H1 S1 p1 k1 rs1 rfl (qf rfl))
theorem WE.or (h : WE X a v S fun d S1 => ∃ k, d = .bl k ∧ (k = true → Q (.bl true) S1) ∧ (k = false → WE X (.BoolOp .Or (b :: es) pos) v S1 Q)) : WE X (.BoolOp .Or (a :: b :: es) pos) v S Q := fun F t H Q' re rs k => by
  refine wE_of (pe_or pe_w pe_w) ?_
  refine h F t H _ re rs fun F1 c vc H1 S1 p1 k1 rs1 r1 q => ?_
  obtain ⟨b, rfl, qt, qf⟩ := q
  refine ⟨b, r1, ?_⟩
  cases b with
  | true => exact iteT (k F1 (.bl true) _ H1 S1 p1 k1 rs1 rfl (qt rfl))
  | false => exact iteF (qf rfl F1 t H1 _ (re.mono p1 k1) rs1 (k.mono p1 k1))
theorem WE.not (h : WE X a v S fun d S1 => ∃ k, d = .bl k ∧ Q (.bl (!k)) S1) : WE X (.UnaryOp .Not a pos) v S Q := fun F t H Q' re rs k => by
  refine wE_of (pe_not pe_w) ?_
  refine h F t H _ re rs fun F1 c vc H1 S1 p1 k1 rs1 r1 q => ?_
  obtain ⟨b, rfl, q⟩ := q
  exact ⟨b, r1, k F1 (.bl (!b)) _ H1 S1 p1 k1 rs1 rfl q⟩
theorem WE.ite (h : WT X c v S fun k S1 => (k = true → WE X a v S1 Q) ∧ (k = false → WE X b v S1 Q)) : WE X (.IfExp c a b pos) v S Q := fun F t H Q' re rs k => by
  refine wE_of (pe_ifExp pt_w pe_w pe_w) ?_
  refine h F t H _ re rs fun F1 c H1 S1 p1 k1 rs1 q => ?_
  cases c with
  | true => exact iteT (q.1 rfl F1 t H1 _ (re.mono p1 k1) rs1 (k.mono p1 k1))
  | false => exact iteF (q.2 rfl F1 t H1 _ (re.mono p1 k1) rs1 (k.mono p1 k1))
/-- argument lists -/
theorem WA.nil {Q : List D → Store → Prop} (h : Q [] S) : WA X [] v S Q := fun F t H Q' re rs k => wA_of pa_nil (k F [] [] H S (List.prefix_refl F) (Keep.refl H) rs rfl h)
theorem WA.cons {Q : List D → Store → Prop} (h : WE X e v S fun x S1 => WA X es v S1 fun xs S2 => Q (x :: xs) S2) (hs : starEach (e :: es) X.env = (false, eval e X.env) :: starEach es X.env := by rfl) : WA X (e :: es) v S Q := fun F t H Q' re rs k => by
  refine wA_of (pa_cons pe_w pa_w hs) ?_
  refine h F t H _ re rs fun F1 x vx H1 S1 p1 k1 rs1 r1 h1 => ?_
  refine h1 F1 t H1 _ (re.mono p1 k1) rs1 fun F2 ds vs H2 S2 p2 k2 rs2 r2 h2 => ?_
  exact k F2 (x :: ds) (vx :: vs) H2 S2 (p1.trans p2) (k1.trans k2) rs2 ⟨vx, vs, rfl, r1.mono p2 k2, r2⟩ h2
/-- a written tuple, a written list -/
theorem WE.tup {x1} (h : WA X es v S fun xs S1 => xs.length ≤ sizeLine ∧ Q (.tup xs) S1) : WE X (.Tuple es x1 pos) v S Q := fun F t H Q' re rs k => by
  refine wE_of (pe_tup pa_w) ?_
  refine h F t H _ re rs fun F1 ds vs H1 S1 p1 k1 rs1 r1 h1 => ⟨by rw [r1.length]; exact h1.1, fun p hp => ?_⟩
  refine k F1 (.tup ds) (.ref p) (upd H1 p (.tup vs)) S1 p1 (k1.trans (Keep.new hp)) (rs1.other hp) ⟨p, vs, rfl, upd_same, r1.mono (List.prefix_refl F1) (Keep.new hp)⟩ h1.2
theorem WE.lst (h : WA X es v S fun xs S1 => xs.length ≤ sizeLine ∧ Q (.loc S1.length) (S1 ++ [.lst xs])) : WE X (.List es pos) v S Q := fun F t H Q' re rs k => by
  refine wE_of (pe_lst pa_w) ?_
  refine h F t H _ re rs fun F1 ds vs H1 S1 p1 k1 rs1 r1 h1 => ⟨by rw [r1.length]; exact h1.1, fun p hp => ?_⟩
  exact k (F1 ++ [p]) (.loc S1.length) _ _ _ (p1.trans ⟨[p], rfl⟩) (k1.trans (Keep.new hp)) (rs1.new (o := .lst ds) hp ⟨vs, rfl, r1⟩) ⟨p, rfl, by rw [← rs1.len]; simp⟩ h1.2
/-- subscripts -/
theorem WE.ix (h : WE X a v S fun x S1 => WE X b v S1 fun y S2 => IW X x y S2 Q) (hs : PlainIx b := by intro _ _; rfl) : WE X (.Subscript a b pos) v S Q := fun F t H Q' re rs k => by
  refine wE_of (pe_ix (ix_w) pe_w pe_w hs) ?_
  refine h F t H _ re rs fun F1 x vx H1 S1 p1 k1 rs1 r1 h1 => ?_
  refine h1 F1 t H1 _ (re.mono p1 k1) rs1 fun F2 y vy H2 S2 p2 k2 rs2 r2 h2 => ?_
  exact h2 F2 H2 vx vy Q' rs2 (r1.mono p2 k2) r2 (k.mono (p1.trans p2) (k1.trans k2))
end rules
end DM

namespace DM
open PySem PySem.Spec PyProof.Rows L2
/-! ### forgetting: a state seen with fewer, or other, names for its places -/
/-- the places below n stay; S2 tells a part of S -/
def CovE (n : Nat) (v : Fv) (S : Store) (v2 : Fv) (S2 : Store) : Prop := ∀ F H t, RE F H v t → RS F H S → ∃ F2, F.take n <+: F2 ∧ RE F2 H v2 t ∧ RS F2 H S2
def CovD (n : Nat) (d : D) (S : Store) (d2 : D) (S2 : Store) : Prop := ∀ F H u, RD F H d u → RS F H S → ∃ F2, F.take n <+: F2 ∧ RD F2 H d2 u ∧ RS F2 H S2
def CovS (n : Nat) (S : Store) (S2 : Store) : Prop := ∀ F H, RS F H S → ∃ F2, F.take n <+: F2 ∧ RS F2 H S2
def WkE (n : Nat) (v : Fv) (S : Store) (P : Fv → Store → Prop) : Prop := ∃ v2 S2, CovE n v S v2 S2 ∧ P v2 S2
def WkD (n : Nat) (d : D) (S : Store) (P : D → Store → Prop) : Prop := ∃ d2 S2, CovD n d S d2 S2 ∧ P d2 S2
theorem CovE.refl {n : Nat} {v : Fv} {S : Store} : CovE n v S v S := fun F H t re rs => ⟨F, List.take_prefix n F, re, rs⟩
theorem CovD.refl {n : Nat} {d : D} {S : Store} : CovD n d S d S := fun F H t re rs => ⟨F, List.take_prefix n F, re, rs⟩
theorem WkE.same {n : Nat} {v : Fv} {S : Store} {P : Fv → Store → Prop} (h : P v S) : WkE n v S P := ⟨v, S, CovE.refl, h⟩
theorem WkD.same {n : Nat} {d : D} {S : Store} {P : D → Store → Prop} (h : P d S) : WkD n d S P := ⟨d, S, CovD.refl, h⟩
theorem pre_of_take {F0 F : List Addr} {n : Nat} (hl : F0.length = n) (p : F0 <+: F) : F0 = F.take n := by
  obtain ⟨t, rfl⟩ := p
  rw [← hl]
  simp

section stm
variable {X : Cx} {n : Nat} {a b c e o : Expr} {st : Stmt} {es : List Expr} {sts : List Stmt} {v : Fv} {S : Store} {E : Ed} {pos pos' : Pos}
theorem WSs.nil (h : E.nx v S) : WSs X n [] v S E := fun F0 H0 F t H E' hl p k re rs q => wSs_of pss_nil (q.nx F v t H S p k re rs h)
theorem WSs.cons (h : WS X n st v S { E with nx := fun v1 S1 => WSs X n sts v1 S1 E }) : WSs X n (st :: sts) v S E := fun F0 H0 F t H E' hl p k re rs q => by
  refine wSs_of (pss_cons ps_w pss_w) ?_
  exact h F0 H0 F t H _ hl p k re rs ⟨fun F1 v1 t1 H1 S1 p1 k1 re1 rs1 h1 => h1 F0 H0 F1 t1 H1 E' hl p1 k1 re1 rs1 q, q.rt, q.bk, q.ct⟩
theorem WSs.one (h : WS X n st v S E) : WSs X n [st] v S E := fun F0 H0 F t H E' hl p k re rs q => wSs_of (pss_one ps_w) (h F0 H0 F t H E' hl p k re rs q)
theorem WS.imp {E2 : Ed} (h : WS X n st v S E) (h1 : ∀ v S, E.nx v S → E2.nx v S) (h2 : ∀ v S, E.rt v S → E2.rt v S) (h3 : ∀ v S, E.bk v S → E2.bk v S) (h4 : ∀ v S, E.ct v S → E2.ct v S) : WS X n st v S E2 :=
  fun F0 H0 F t H E' hl p k re rs q => h F0 H0 F t H E' hl p k re rs ⟨fun F1 v1 t1 H1 S1 p1 k1 re1 rs1 z => q.nx F1 v1 t1 H1 S1 p1 k1 re1 rs1 (h1 _ _ z), fun F1 v1 t1 H1 S1 p1 k1 re1 rs1 z => q.rt F1 v1 t1 H1 S1 p1 k1 re1 rs1 (h2 _ _ z), fun F1 v1 t1 H1 S1 p1 k1 re1 rs1 z => q.bk F1 v1 t1 H1 S1 p1 k1 re1 rs1 (h3 _ _ z), fun F1 v1 t1 H1 S1 p1 k1 re1 rs1 z => q.ct F1 v1 t1 H1 S1 p1 k1 re1 rs1 (h4 _ _ z)⟩
/-- forget ahead of a block -/
theorem WSs.wk {v2 : Fv} {S2 : Store} (c : CovE n v S v2 S2) (h : WSs X n sts v2 S2 E) : WSs X n sts v S E := fun F0 H0 F t H E' hl p k re rs q => by
  obtain ⟨F2, p2, re2, rs2⟩ := c F H t re rs
  rw [← pre_of_take hl p] at p2
  exact h F0 H0 F2 t H E' hl p2 k re2 rs2 q
theorem WS.pass (h : E.nx v S) : WS X n (.Pass pos) v S E := fun F0 H0 F t H E' hl p k re rs q => wS_of ps_pass (q.nx F v t H S p k re rs h)
theorem WS.break (h : E.bk v S) : WS X n (.Break pos) v S E := fun F0 H0 F t H E' hl p k re rs q => wS_of ps_break (q.bk F v t H S p k re rs h)
theorem WS.continue (h : E.ct v S) : WS X n (.Continue pos) v S E := fun F0 H0 F t H E' hl p k re rs q => wS_of ps_continue (q.ct F v t H S p k re rs h)
theorem WS.expr (h : WE X e v S fun _ S1 => E.nx v S1) (hs : swapsWith e none pos.line X.env = pure false := by rfl) : WS X n (.Expr e pos) v S E := fun F0 H0 F t H E' hl p k re rs q => by
  refine wS_of (ps_expr pe_w hs) ?_
  exact h F t H _ re rs fun F1 d u H1 S1 p1 k1 rs1 r1 h1 => q.nx F1 v t H1 S1 (p.trans p1) (k.trans k1) (re.mono p1 k1) rs1 h1
theorem WS.ret (h : WE X e v S E.rt) : WS X n (.Return (some e) pos) v S E := fun F0 H0 F t H E' hl p k re rs q => by
  refine wS_of (ps_ret pe_w) ?_
  exact h F t H _ re rs fun F1 d u H1 S1 p1 k1 rs1 r1 h1 => q.rt F1 d u H1 S1 (p.trans p1) (k.trans k1) rs1 r1 h1
theorem WS.retN (h : E.rt .non S) : WS X n (.Return none pos) v S E := fun F0 H0 F t H E' hl p k re rs q => by
  refine wS_of ps_retN ?_
  exact q.rt F .non .non H S p k rs rfl h
theorem WS.ite {A B : List Stmt} (h : WT X c v S fun k S1 => (k = true → WSs X n A v S1 E) ∧ (k = false → WSs X n B v S1 E)) : WS X n (.If c A B pos) v S E := fun F0 H0 F t H E' hl p k re rs q => by
  refine wS_of (ps_if pt_w pss_w pss_w) ?_
  refine h F t H _ re rs fun F1 b H1 S1 p1 k1 rs1 h1 => ?_
  cases b with
  | true => exact iteT (h1.1 rfl F0 H0 F1 t H1 E' hl (p.trans p1) (k.trans k1) (re.mono p1 k1) rs1 q)
  | false => exact iteF (h1.2 rfl F0 H0 F1 t H1 E' hl (p.trans p1) (k.trans k1) (re.mono p1 k1) rs1 q)
theorem RE.set {F : List Addr} {H : Hp} {t : L2.St} {i : Nat} {d : D} {u : V} (re : RE F H v t) (r : RD F H d u) : RE F H (v.set i (some d)) (t.set i (some u)) :=
  ⟨by simp [re.len], fun j d' h => by
    by_cases hj : i = j
    · subst hj
      have hi : i < v.length := by
        have := (List.getElem?_eq_some_iff.mp h).1
        simpa using this
      rw [List.getElem?_set_self hi] at h
      cases h
      exact ⟨u, by rw [List.getElem?_set_self (by rw [← re.len]; exact hi)], r⟩
    · rw [List.getElem?_set_ne hj] at h
      obtain ⟨w, q1, q2⟩ := re.at_ j d' h
      exact ⟨w, by rw [List.getElem?_set_ne hj]; exact q1, q2⟩⟩
theorem RE.drop {F : List Addr} {H : Hp} {t : L2.St} {i : Nat} (re : RE F H v t) : RE F H (v.set i none) (t.set i none) :=
  ⟨by simp [re.len], fun j d' h => by
    by_cases hj : i = j
    · subst hj
      have hi : i < v.length := by
        have := (List.getElem?_eq_some_iff.mp h).1
        simpa using this
      rw [List.getElem?_set_self hi] at h
      cases h
    · rw [List.getElem?_set_ne hj] at h
      obtain ⟨w, q1, q2⟩ := re.at_ j d' h
      exact ⟨w, by rw [List.getElem?_set_ne hj]; exact q1, q2⟩⟩
/-- name = e -/
theorem WS.set (i : Nat) {x : Str} {px : Pos} (h : WE X e v S fun d S1 => E.nx (v.set i (some d)) S1) (hN : X.N.Nodup) (hi : X.N[i]? = some x := by rfl) (hx : Loc X.env.scope x := by first | exact Or.inl rfl | exact Or.inr rfl)
    (hs : swapsWith e (some (.Name x px)) pos.line X.env = pure false := by rfl) (hf : X.fn x = true ∨ X.env.scope.names.lookup x = some .local := by first | exact .inl rfl | exact .inr rfl) : WS X n (.Assign [.Name x px] e pos) v S E := fun F0 H0 F t H E' hl p k re rs q => by
  refine wS_of (ps_set hN hi hx pe_w hs hf) ?_
  exact h F t H _ re rs fun F1 d u H1 S1 p1 k1 rs1 r1 h1 => q.nx F1 _ _ H1 S1 (p.trans p1) (k.trans k1) ((re.mono p1 k1).set r1) rs1 h1
/-- target = e -/
theorem WS.asg {tg : Expr} (h : WE X e v S fun d S1 => WG X tg d v S1 E.nx) (hs : swapsWithSole [tg] e pos.line X.env = pure false := by rfl) (hw : swappedStores [tg] e X.env = pure none := by rfl) (h1 : (assignEach [tg] X.env).map (·.2) = [assign tg X.env] := by rfl) : WS X n (.Assign [tg] e pos) v S E := fun F0 H0 F t H E' hl p k re rs q => by
  refine wS_of (ps_asg pe_w pg_w hs hw h1) ?_
  refine h F t H _ re rs fun F1 d u H1 S1 p1 k1 rs1 r1 h1 => ?_
  exact h1 F1 t H1 u _ (re.mono p1 k1) rs1 r1 (q.nx.mono (p.trans p1) (k.trans k1))
/-- a, b = e1, e2, two names -/
theorem WS.par (i j : Nat) {x y : Str} {px py pt : Pos} {kt k2 pt2} (h : WA X [a, b] v S fun ds S1 => ∃ d1 d2, ds = [d1, d2] ∧ E.nx ((v.set i (some d1)).set j (some d2)) S1) (hc : X.calm = true) (hN : X.N.Nodup) (hi : X.N[i]? = some x := by rfl) (hj : X.N[j]? = some y := by rfl) (hij : i ≠ j := by decide)
    (hx : X.env.scope.names.lookup x = some .local := by rfl) (hy : X.env.scope.names.lookup y = some .local := by rfl)
    (hw : swappedStores [.Tuple [.Name x px, .Name y py] kt pt] (.Tuple [a, b] k2 pt2) X.env = pure (some [x, y]) := by rfl)
    (hs : swapsWithSole [.Tuple [.Name x px, .Name y py] kt pt] (.Tuple [a, b] k2 pt2) pos.line X.env = pure false := by rfl) : WS X n (.Assign [.Tuple [.Name x px, .Name y py] kt pt] (.Tuple [a, b] k2 pt2) pos) v S E := fun F0 H0 F t H E' hl p k re rs q => by
  refine wS_of (ps_par hc hN hi hj hij hx hy pa_w hw hs) ?_
  refine h F t H _ re rs fun F1 ds vs H1 S1 p1 k1 rs1 r1 h1 => ?_
  obtain ⟨d1, d2, rfl, h1⟩ := h1
  obtain ⟨v1, _, e1, q1, v2, _, e2, q2, e3⟩ := r1
  subst e1 e2 e3
  exact ⟨v1, v2, rfl, q.nx F1 _ _ H1 S1 (p.trans p1) (k.trans k1) (((re.mono p1 k1).set q1).set q2) rs1 h1⟩
/-- targets -/
theorem WG.name (i : Nat) {x : Str} {d : D} {Q : Fv → Store → Prop} (h : Q (v.set i (some d)) S) (hN : X.N.Nodup) (hi : X.N[i]? = some x := by rfl) (hx : Loc X.env.scope x := by first | exact Or.inl rfl | exact Or.inr rfl)
    (hf : X.fn x = true ∨ X.env.scope.names.lookup x = some .local := by first | exact .inl rfl | exact .inr rfl) : WG X (.Name x pos) d v S Q := fun F t H u Q' re rs r k => by
  refine wG_of (pg_name hN hi hx hf) ?_
  exact k F _ _ H S (List.prefix_refl F) (Keep.refl H) (re.set r) rs h
theorem WGs.nil {Q : Fv → Store → Prop} (h : Q v S) : WGs X [] [] v S Q := fun F t H us Q' re rs r k => by
  cases (show us = [] from r)
  exact wGs_of pgs_nil ⟨rfl, k F v t H S (List.prefix_refl F) (Keep.refl H) re rs h⟩
theorem WGs.cons {d : D} {ds : List D} {Q : Fv → Store → Prop} (h : WG X e d v S fun v1 S1 => WGs X es ds v1 S1 Q) (hs : (assignEach (e :: es) X.env).map (·.2) = assign e X.env :: (assignEach es X.env).map (·.2) := by rfl) : WGs X (e :: es) (d :: ds) v S Q := fun F t H us Q' re rs r k => by
  obtain ⟨u, ur, rfl, r1, r2⟩ := r
  refine wGs_of (pgs_cons pg_w pgs_w hs) ⟨u, ur, rfl, ?_⟩
  refine h F t H u _ re rs r1 fun F1 v1 t1 H1 S1 p1 k1 re1 rs1 h1 => ?_
  exact h1 F1 t1 H1 ur Q' re1 rs1 (RDs.mono p1 k1 _ _ r2) (k.mono p1 k1)
theorem WG.tup {d : D} {Q : Fv → Store → Prop} {kk : Nat} {ds : List D} (hd : d = .tup ds) (h : WGs X es ds v S Q) (hc : X.calm = true) (hn : (assignEach es X.env).length = ds.length := by rfl) (hst : (assignEach es X.env).findIdx? (·.1) = none := by rfl) : WG X (.Tuple es kk pos) d v S Q := fun F t H u Q' re rs r k => by
  subst hd
  obtain ⟨p, vs, rfl, sq, rs'⟩ := r
  exact wG_of (pg_tup hc pgs_w hn hst) ⟨p, vs, rfl, SqT.of sq, rs'.length, h F t H vs Q' re rs rs' k⟩
/-- o[i] = .., a list -/
theorem WG.setL {d : D} {Q : Fv → Store → Prop} (h : WE X o v S fun x S1 => WE X e v S1 fun y S2 => ∃ l xs i j, x = .loc l ∧ y = .int i ∧ S2[l]? = some (.lst xs) ∧ ixN xs.length i = some j ∧ Q v (S2.set l (.lst (xs.set j d))))
    (ha : ∀ v, assign (.Subscript o e pos) X.env v = (do
      let ov ← holding [v] (eval o X.env)
      let iv ← holding [v, ov] (eval e X.env)
      standAt pos
      holding [v, ov, iv] (setItem ov iv v)
      release [v, ov, iv] []) := by intro _; rfl) : WG X (.Subscript o e pos) d v S Q := fun F t H u Q' re rs r k => by
  refine wG_of (pg_sub pe_w pe_w set_list ha) ?_
  refine h F t H _ re rs fun F1 x vx H1 S1 p1 k1 rs1 r1 h1 => ?_
  refine h1 F1 t H1 _ (re.mono p1 k1) rs1 fun F2 y vy H2 S2 p2 k2 rs2 r2 h2 => ?_
  obtain ⟨l, xs, i, j, rfl, rfl, hl, hj, q⟩ := h2
  obtain ⟨a, rfl, ha⟩ := r1
  cases r2
  obtain ⟨a', h', e1, e2, vs, e3, e4⟩ := rs2.get hl
  have ea : a = a' := by
    have := pre_get p2 ha
    rw [e1] at this
    exact (Option.some.inj this).symm
  subst ea
  subst e3
  refine ⟨a, vs, i, j, rfl, rfl, e2, by rw [e4.length]; exact hj, ?_⟩
  have kk : Keep H2 (upd H2 a (.lst (vs.set j u))) := Keep.upd e2 trivial
  exact k F2 v t _ _ (p1.trans p2) ((k1.trans k2).trans kk) (((re.mono p1 k1).mono p2 k2).mono (List.prefix_refl F2) kk) (rs2.set (o := .lst (xs.set j d)) e1 e2 trivial ⟨_, rfl, RDs.set (RD.mono p2 k2 _ _ (RD.mono p1 k1 _ _ r)) j e4⟩) q

/-! ### fields -/
theorem RKs.lookup {F : List Addr} {H : Hp} {f : Str} : ∀ {fs : List (Str × D)} {vs : List (Str × V)}, RKs F H fs vs → (fs.lookup f = none → vs.lookup f = none) ∧ ∀ d, fs.lookup f = some d → ∃ u, vs.lookup f = some u ∧ RD F H d u
  | [], vs, h => by
    cases (show vs = [] from h)
    exact ⟨fun _ => rfl, fun d q => by cases q⟩
  | (g, x) :: fs, _, ⟨u, r, e, h1, h2⟩ => by
    subst e
    have ih := RKs.lookup (f := f) h2
    by_cases hk : f = g
    · have hb : (f == g) = true := beq_iff_eq.mpr hk
      simp only [List.lookup, hb]
      exact ⟨fun z => (by cases z), fun d q => ⟨u, rfl, (by cases q; exact h1)⟩⟩
    · have hb : (f == g) = false := beq_eq_false_iff_ne.mpr hk
      simp only [List.lookup, hb]
      exact ih
def putD (f : Str) (y : D) : List (Str × D) → List (Str × D)
  | [] => [(f, y)]
  | (g, x) :: r => if g = f then (g, y) :: r else (g, x) :: putD f y r
theorem RKs.putF {F : List Addr} {H : Hp} {f : Str} {d : D} {u : V} (r : RD F H d u) : ∀ {fs : List (Str × D)} {vs : List (Str × V)}, RKs F H fs vs → RKs F H (putD f d fs) (L2.putF f u vs)
  | [], vs, h => by
    cases (show vs = [] from h)
    exact ⟨u, [], rfl, r, rfl⟩
  | (g, x) :: fs, _, ⟨w, r', e, h1, h2⟩ => by
    subst e
    unfold putD L2.putF
    by_cases hk : g = f
    · rw [if_pos hk, if_pos hk]
      exact ⟨u, r', rfl, r, h2⟩
    · rw [if_neg hk, if_neg hk]
      exact ⟨w, _, rfl, h1, RKs.putF r h2⟩
variable {C : Addr} {f : Str} {Q : D → Store → Prop}
theorem WE.fld (h : WE X o v S fun d S1 => ∃ l fs y, d = .loc l ∧ S1[l]? = some (.ins C fs) ∧ fs.lookup f = some y ∧ Q y S1) (c : Cls X.K C) (na : NoAttr X.K C f) (hb : attributeBase o f X.env (eval o X.env) = eval o X.env := by rfl) : WE X (.Attribute o f pos) v S Q := fun F t H Q' re rs k => by
  refine wE_of (pe_fld pe_w hb) ?_
  refine h F t H _ re rs fun F1 d u H1 S1 p1 k1 rs1 r1 h1 => ?_
  obtain ⟨l, fs, y, rfl, hl, hf, q⟩ := h1
  obtain ⟨a, rfl, ha⟩ := r1
  obtain ⟨a', h', e1, e2, dx, vs, e3, e4⟩ := rs1.get hl
  rw [e1] at ha; cases ha
  subst e3
  obtain ⟨uy, g1, g2⟩ := e4.lookup.2 y hf
  exact ⟨a, C, dx, vs, uy, rfl, e2, c, na, g1, k F1 y uy H1 S1 p1 k1 rs1 g2 q⟩
theorem WS.fld (h : WE X e v S fun y S1 => WE X o v S1 fun d S2 => ∃ l fs, d = .loc l ∧ S2[l]? = some (.ins C fs) ∧ fs.length < 1000 ∧ E.nx v (S2.set l (.ins C (putD f y fs)))) (c : Cls X.K C) (na : NoAttr X.K C f)
    (hs : swapsWith e (some (.Attribute o f pos')) pos.line X.env = pure false := by rfl) : WS X n (.Assign [.Attribute o f pos'] e pos) v S E := fun F0 H0 F t H E' hl p k re rs q => by
  refine wS_of (ps_fld pe_w pe_w hs) ?_
  refine h F t H _ re rs fun F1 y uy H1 S1 p1 k1 rs1 r1 h1 => ?_
  refine h1 F1 t H1 _ (re.mono p1 k1) rs1 fun F2 d u H2 S2 p2 k2 rs2 r2 h2 => ?_
  obtain ⟨l, fs, rfl, hl', hf, z⟩ := h2
  obtain ⟨a, rfl, ha⟩ := r2
  obtain ⟨a', h', e1, e2, dx, vs, e3, e4⟩ := rs2.get hl'
  rw [e1] at ha; cases ha
  subst e3
  refine ⟨a, C, dx, vs, rfl, e2, c, na, by rw [e4.length]; exact hf, ?_⟩
  have kk : Keep H2 (upd H2 a (.ins C dx (L2.putF f uy vs))) := Keep.upd e2 trivial
  exact q.nx F2 v t _ _ ((p.trans p1).trans p2) (((k.trans k1).trans k2).trans kk) (((re.mono p1 k1).mono p2 k2).mono (List.prefix_refl F2) kk) (rs2.set (o := .ins C (putD f y fs)) e1 e2 trivial ⟨dx, _, rfl, RKs.putF (RD.mono p2 k2 _ _ r1) e4⟩) z
end stm

/-! ### calls -/
abbrev SpD := List D → Store → (D → Store → Prop) → Prop
def spD (K : PySem.W.Frag) (sp : SpD) : Sp := fun vs H Q _ => ∃ F ds S Qd, RS F H S ∧ RDs F H ds vs ∧ sp ds S Qd ∧ Post F H Qd Q
section calls
variable {X : Cx} {n k : Nat} {f C : Addr} {fd : FuncData} {ps : List Str} {sp : SpD} {x m : Str} {a o : Expr} {es : List Expr} {v : Fv} {S : Store} {Q : D → Store → Prop} {p pos apos : Pos}
theorem WE.call (G : FnOk X.prog X.w X.K X.mg X.base CX0 k f fd ps (spD X.K sp)) (hr : Room k X.A) (hm : X.mg x = some (.ref f)) (hk : PySem.W.keepIn X.K (.ref f) = true) (hb : Binds X.K fd ps []) (h : WA X (a :: es) v S fun ds S1 => sp ds S1 Q) (hg : Gl X x := by rfl)
    (hdb : (x == ("__debug__" : Str)) = false := by decide) (he : starEach (a :: es) X.env = (false, eval a X.env) :: starEach es X.env := by rfl) (hpl : (backTo pos (starEach es X.env)).any (·.1) = false := by rfl) : WE X (.Call (.Name x p) (a :: es) [] pos) v S Q := fun F t H Q' re rs k => by
  refine wE_of (pe_call (E := E0) G hr hg hm hk hb .nil pass0 pa_w hdb he hpl) ?_
  refine h F t H _ re rs fun F1 ds vs H1 S1 p1 k1 rs1 r1 h1 => ?_
  rw [List.append_nil]
  exact ⟨F1, ds, S1, Q, rs1, r1, h1, k.mono p1 k1⟩
theorem WE.call0 (G : FnOk X.prog X.w X.K X.mg X.base CX0 k f fd ps (spD X.K sp)) (hr : Room k X.A) (hm : X.mg x = some (.ref f)) (hk : PySem.W.keepIn X.K (.ref f) = true) (hb : Binds X.K fd ps []) (h : sp [] S Q) (hg : Gl X x := by rfl)
    (hdb : (x == ("__debug__" : Str)) = false := by decide) : WE X (.Call (.Name x p) [] [] pos) v S Q := fun F t H Q' re rs k => by
  refine wE_of (pe_call0 (E := E0) G hr hg hm hk hb .nil pass0 hdb) ?_
  exact ⟨F, [], S, Q, rs, rfl, h, k⟩
theorem WE.meth {pl : Sem Bool} (G : FnOk X.prog X.w X.K X.mg X.base CX0 k f fd ps (spD X.K sp)) (hr : Room k X.A) (c : Cls X.K C) (hm : Meth X.K C m f) (hb : Binds X.K fd ps [])
    (h : WE X o v S fun d S1 => ∃ l fs, d = .loc l ∧ S1[l]? = some (.ins C fs) ∧ fs.lookup m = none ∧ WA X (a :: es) v S1 fun ds S2 => sp (.loc l :: ds) S2 Q)
    (hst : starEach (a :: es) X.env = (false, eval a X.env) :: starEach es X.env := by rfl) (hpl : (backTo pos (starEach es X.env)).any (·.1) = false := by rfl)
    (ht : eval (.Call (.Attribute o m apos) (a :: es) [] pos) X.env = (do
      let ov ← eval o X.env
      standAt apos.atName
      let (f, first) ← holding [ov] (getMethod ov m pl)
      callWith pos f first (backTo pos (starEach (a :: es) X.env)) (backToKw pos (keywordEach [] X.env))) := by rfl) : WE X (.Call (.Attribute o m apos) (a :: es) [] pos) v S Q := fun F t H Q' re rs k => by
  refine wE_of (pe_meth (E := E0) (pl := pl) pe_w c hm G hr hb .nil pass0 pa_w hst hpl ht) ?_
  refine h F t H _ re rs fun F1 d u H1 S1 p1 k1 rs1 r1 h1 => ?_
  obtain ⟨l, fs, rfl, hl, hf, h1⟩ := h1
  obtain ⟨a, rfl, ha⟩ := r1
  obtain ⟨a', h', e1, e2, dx, vs, e3, e4⟩ := rs1.get hl
  rw [e1] at ha; cases ha
  subst e3
  refine ⟨a, dx, vs, rfl, e2, e4.lookup.1 hf, ?_⟩
  refine h1 F1 t H1 _ (re.mono p1 k1) rs1 fun F2 ds ws H2 S2 p2 k2 rs2 r2 h2 => ?_
  rw [List.append_nil]
  exact ⟨F2, .loc l :: ds, S2, Q, rs2, ⟨.ref a, ws, rfl, ⟨a, rfl, pre_get p2 e1⟩, r2⟩, h2, (k.mono p1 k1).mono p2 k2⟩
theorem WE.meth0 {pl : Sem Bool} (G : FnOk X.prog X.w X.K X.mg X.base CX0 k f fd ps (spD X.K sp)) (hr : Room k X.A) (c : Cls X.K C) (hm : Meth X.K C m f) (hb : Binds X.K fd ps [])
    (h : WE X o v S fun d S1 => ∃ l fs, d = .loc l ∧ S1[l]? = some (.ins C fs) ∧ fs.lookup m = none ∧ sp [.loc l] S1 Q)
    (ht : eval (.Call (.Attribute o m apos) [] [] pos) X.env = (do
      let ov ← eval o X.env
      standAt apos.atName
      let (f, first) ← holding [ov] (getMethod ov m pl)
      callWith pos f first (backTo pos (starEach [] X.env)) (backToKw pos (keywordEach [] X.env))) := by rfl) : WE X (.Call (.Attribute o m apos) [] [] pos) v S Q := fun F t H Q' re rs k => by
  refine wE_of (pe_meth0 (E := E0) (pl := pl) pe_w c hm G hr hb .nil pass0 ht) ?_
  refine h F t H _ re rs fun F1 d u H1 S1 p1 k1 rs1 r1 h1 => ?_
  obtain ⟨l, fs, rfl, hl, hf, h1⟩ := h1
  obtain ⟨a, rfl, ha⟩ := r1
  obtain ⟨a', h', e1, e2, dx, vs, e3, e4⟩ := rs1.get hl
  rw [e1] at ha; cases ha
  subst e3
  refine ⟨a, dx, vs, rfl, e2, e4.lookup.1 hf, ?_⟩
  show spD X.K sp ([V.ref a] ++ []) H1 Q' E0
  exact ⟨F1, [.loc l], S1, Q, rs1, ⟨.ref a, [], rfl, ⟨a, rfl, e1⟩, rfl⟩, h1, k.mono p1 k1⟩
/-- C(..) -/
theorem made_rs {F : List Addr} {H : Hp} {x dx : Addr} (rs : RS F H S) (hx : H x = none) (hdx : H dx = none) (ne : dx ≠ x) :
    Keep H (upd (upd H dx (.own x)) x (.ins C dx [])) ∧ RS (F ++ [x]) (upd (upd H dx (.own x)) x (.ins C dx [])) (S ++ [.ins C []]) := by
  have k1 : Keep H (upd H dx (.own x)) := Keep.new hdx
  have hx' : (upd H dx (.own x)) x = none := by rw [upd_ne (Ne.symm ne)]; exact hx
  exact ⟨k1.trans (Keep.new hx'), (rs.other hdx).new (o := .ins C []) hx' ⟨dx, [], rfl, rfl⟩⟩
theorem WE.make (M : Mk X.K C f) (G : FnOk X.prog X.w X.K X.mg X.base CX0 k f fd ps (spD X.K sp)) (hr : Room (k + 1) X.A) (hm : X.mg x = some (.ref C)) (hb : Binds X.K fd ps [])
    (h : WA X (a :: es) v S fun ds S1 => sp (.loc S1.length :: ds) (S1 ++ [.ins C []]) fun d S2 => d = .non ∧ Q (.loc S1.length) S2) (hg : Gl X x := by rfl)
    (hdb : (x == ("__debug__" : Str)) = false := by decide) (he : starEach (a :: es) X.env = (false, eval a X.env) :: starEach es X.env := by rfl) (hpl : (backTo pos (starEach es X.env)).any (·.1) = false := by rfl) : WE X (.Call (.Name x p) (a :: es) [] pos) v S Q := fun F t H Q' re rs k => by
  refine wE_of (pe_make (E := E0) M G hr hg hm hb .nil pass0 pa_w hdb he hpl) ?_
  refine h F t H _ re rs fun F1 ds vs H1 S1 p1 k1 rs1 r1 h1 => ?_
  intro x dx hx hdx ne
  obtain ⟨kk, rs2⟩ := made_rs (C := C) rs1 hx hdx ne
  rw [List.append_nil]
  have pp : F1 <+: F1 ++ [x] := ⟨[x], rfl⟩
  have hlx : (F1 ++ [x])[S1.length]? = some x := by rw [← rs1.len]; simp
  refine ⟨F1 ++ [x], .loc S1.length :: ds, _, _, rs2, ⟨.ref x, vs, rfl, ⟨x, rfl, hlx⟩, RDs.mono pp kk _ _ r1⟩, h1, ?_⟩
  intro F3 d u H3 S3 p3 k3 rs3 r3 q
  obtain ⟨rfl, q⟩ := q
  exact ⟨r3, k F3 (.loc S1.length) (.ref x) H3 S3 ((p1.trans pp).trans p3) ((k1.trans kk).trans k3) rs3 ⟨x, rfl, pre_get p3 hlx⟩ q⟩
theorem WE.make0 (M : Mk X.K C f) (G : FnOk X.prog X.w X.K X.mg X.base CX0 k f fd ps (spD X.K sp)) (hr : Room (k + 1) X.A) (hm : X.mg x = some (.ref C)) (hb : Binds X.K fd ps [])
    (h : sp [.loc S.length] (S ++ [.ins C []]) fun d S2 => d = .non ∧ Q (.loc S.length) S2) (hg : Gl X x := by rfl)
    (hdb : (x == ("__debug__" : Str)) = false := by decide) : WE X (.Call (.Name x p) [] [] pos) v S Q := fun F t H Q' re rs k => by
  refine wE_of (pe_make0 (E := E0) M G hr hg hm hb .nil pass0 hdb) ?_
  intro x dx hx hdx ne
  obtain ⟨kk, rs2⟩ := made_rs (C := C) rs hx hdx ne
  have pp : F <+: F ++ [x] := ⟨[x], rfl⟩
  have hlx : (F ++ [x])[S.length]? = some x := by rw [← rs.len]; simp
  show spD X.K sp ([V.ref x] ++ []) _ _ E0
  refine ⟨F ++ [x], [.loc S.length], _, _, rs2, ⟨.ref x, [], rfl, ⟨x, rfl, hlx⟩, rfl⟩, h, ?_⟩
  intro F3 d u H3 S3 p3 k3 rs3 r3 q
  obtain ⟨rfl, q⟩ := q
  exact ⟨r3, k F3 (.loc S.length) (.ref x) H3 S3 (pp.trans p3) (kk.trans k3) rs3 ⟨x, rfl, pre_get p3 hlx⟩ q⟩
/-- a builtin by its name -/
theorem WE.callB {id : String} (h : WA X (a :: es) v S fun ds S1 => CW X (.builtin id) ds S1 Q) (hm : X.mg x = none) (hv : bootBuiltins x = some (.builtin id)) (hg : Gl X x := by rfl) (hn : x ≠ "__name__" := by decide) (hdb : (x == ("__debug__" : Str)) = false := by decide)
    (he : starEach (a :: es) X.env = (false, eval a X.env) :: starEach es X.env := by rfl) (hpl : (backTo pos (starEach es X.env)).any (·.1) = false := by rfl) : WE X (.Call (.Name x p) (a :: es) [] pos) v S Q := fun F t H Q' re rs k => by
  refine wE_of (pe_callB call_w hg hm hv pa_w hn hdb he hpl) ?_
  exact h F t H _ re rs fun F1 ds vs H1 S1 p1 k1 rs1 r1 h1 => h1 F1 H1 vs Q' rs1 r1 (k.mono p1 k1)
theorem WE.callT {T : String} (h : WA X (a :: es) v S fun ds S1 => CW X (.type T) ds S1 Q) (hm : X.mg x = none) (hv : bootBuiltins x = some (.type T)) (hg : Gl X x := by rfl) (hn : x ≠ "__name__" := by decide) (hdb : (x == ("__debug__" : Str)) = false := by decide)
    (he : starEach (a :: es) X.env = (false, eval a X.env) :: starEach es X.env := by rfl) (hpl : (backTo pos (starEach es X.env)).any (·.1) = false := by rfl) : WE X (.Call (.Name x p) (a :: es) [] pos) v S Q := fun F t H Q' re rs k => by
  refine wE_of (pe_callTy call_w hg hm hv pa_w hn hdb he hpl) ?_
  exact h F t H _ re rs fun F1 ds vs H1 S1 p1 k1 rs1 r1 h1 => h1 F1 H1 vs Q' rs1 r1 (k.mono p1 k1)
/-- a builtin type's method -/
def tyD (T : String) (d : D) (S : Store) : Prop := match d with
  | .str _ => T = "str"
  | .loc l => (T = "list" ∧ ∃ xs, S[l]? = some (.lst xs)) ∨ (T = "dict" ∧ ((∃ kvs, S[l]? = some (.dK kvs)) ∨ ∃ kvs, S[l]? = some (.dT kvs)))
  | _ => False
theorem tyD_v {K : PySem.W.Frag} {F : List Addr} {H : Hp} {T : String} {d : D} {u : V} (rs : RS F H S) (r : RD F H d u) (h : tyD T d S) : tyV K T u H := by
  cases d with
  | str y => cases (show u = .str y from r); exact h
  | loc l =>
    obtain ⟨a, rfl, ha⟩ := r
    rcases h with ⟨rfl, xs, hl⟩ | ⟨rfl, ⟨kvs, hl⟩ | ⟨kvs, hl⟩⟩
    · obtain ⟨a', h', e1, e2, vs, e3, e4⟩ := rs.get hl
      rw [e1] at ha; cases ha; subst e3
      exact Or.inl ⟨rfl, _, SqL.of e2⟩
    · obtain ⟨a', h', e1, e2, vs, e3, e4⟩ := rs.get hl
      rw [e1] at ha; cases ha; subst e3
      exact Or.inr (Or.inr (Or.inl ⟨rfl, Or.inl ⟨_, e2⟩⟩))
    · obtain ⟨a', h', e1, e2, vs, e3, e4⟩ := rs.get hl
      rw [e1] at ha; cases ha; subst e3
      exact Or.inr (Or.inr (Or.inl ⟨rfl, Or.inr ⟨_, e2⟩⟩))
  | _ => exact h.elim
theorem WE.bm0 {T id : String} (pa : PlainAttrs T) (slot : Slot T m id) (hty : typeOf (.builtin id) = pure (.type "method_descriptor")) (h : WE X o v S fun d S1 => tyD T d S1 ∧ MW X id d [] S1 Q)
    (hbase : attributeBase o m X.env (eval o X.env) = eval o X.env := by rfl) (hline : (apos.endLine == pos.line) = true := by rfl) : WE X (.Call (.Attribute o m apos) [] [] pos) v S Q := fun F t H Q' re rs k => by
  refine wE_of (pe_bm0 pa slot hty mt_w pe_w hbase hline) ?_
  exact h F t H _ re rs fun F1 d u H1 S1 p1 k1 rs1 r1 h1 => ⟨tyD_v rs1 r1 h1.1, h1.2 F1 H1 u [] Q' rs1 r1 rfl (k.mono p1 k1)⟩
theorem WE.bm {T id : String} (pa : PlainAttrs T) (slot : Slot T m id) (hty : typeOf (.builtin id) = pure (.type "method_descriptor")) (h : WE X o v S fun d S1 => tyD T d S1 ∧ WA X (a :: es) v S1 fun ds S2 => MW X id d ds S2 Q)
    (hbase : attributeBase o m X.env (eval o X.env) = eval o X.env := by rfl)
    (hfew : ((backTo pos (starEach (a :: es) X.env)).all (fun x => !x.1) && (backToKw pos (keywordEach [] X.env)).all (fun x => x.1.isSome)
      && decide ((a :: es).length + ([] : List Keyword).length + (if ([] : List Keyword).isEmpty then 0 else 1) < 30)) = true := by rfl)
    (hline : (apos.endLine == pos.line) = true := by rfl) (hs : starEach (a :: es) X.env = (false, eval a X.env) :: starEach es X.env := by rfl) (hplain : (backTo pos (starEach es X.env)).any (·.1) = false := by rfl) : WE X (.Call (.Attribute o m apos) (a :: es) [] pos) v S Q := fun F t H Q' re rs k => by
  refine wE_of (pe_bm pa slot hty mt_w pe_w pa_w hbase hfew hline hs hplain) ?_
  refine h F t H _ re rs fun F1 d u H1 S1 p1 k1 rs1 r1 h1 => ⟨tyD_v rs1 r1 h1.1, ?_⟩
  exact h1.2 F1 t H1 _ (re.mono p1 k1) rs1 fun F2 ds vs H2 S2 p2 k2 rs2 r2 h2 => h2 F2 H2 u vs Q' rs2 (r1.mono p2 k2) r2 ((k.mono p1 k1).mono p2 k2)
end calls

/-! ### a def by its body -/
def startD (N : List Str) (ds : List D) : Fv := ds.map some ++ List.replicate (N.length - ds.length) none
def fnEnds (n : Nat) (Q : D → Store → Prop) : Ed := { nx := fun _ S => WkD n .non S Q, rt := fun d S => WkD n d S Q }
theorem re_start {F : List Addr} {H : Hp} {N : List Str} {ds : List D} {vs : List V} (r : RDs F H ds vs) : RE F H (startD N ds) (L2.start N vs) := by
  refine ⟨by simp [startD, L2.start, r.length], fun i d h => ?_⟩
  unfold startD at h
  unfold L2.start
  by_cases hi : i < ds.length
  · rw [List.getElem?_append_left (by simpa using hi), List.getElem?_map] at h
    cases e : ds[i]? with
    | none => rw [e] at h; cases h
    | some x =>
      rw [e] at h
      cases h
      obtain ⟨u, h1, h2⟩ := r.get e
      refine ⟨u, ?_, h2⟩
      rw [List.getElem?_append_left (by rw [List.length_map, r.length]; exact hi), List.getElem?_map, h1]
      rfl
  · rw [List.getElem?_append_right (by simpa using hi), List.getElem?_replicate] at h
    split at h <;> cases h
section defs
variable {P : Program} {w : World} {K : PySem.W.Frag} {mg : Str → Option Value} {base : Heap}
theorem post_fn {F : List Addr} {H : Hp} {Q : D → Store → Prop} {Q' : VK} (k : Post F H Q Q') : PostS F H (fnEnds F.length Q) { nx := fun _ H' => Q' .non H', rt := Q' } := by
  have go : ∀ F' d u H' S', F <+: F' → Keep H H' → RS F' H' S' → RD F' H' d u → WkD F.length d S' Q → Q' u H' := fun F' d u H' S' p kk rs r h => by
    obtain ⟨d2, S2, c, q⟩ := h
    obtain ⟨F2, p2, r2, rs2⟩ := c F' H' u r rs
    rw [← pre_of_take rfl p] at p2
    exact k F2 d2 u H' S2 p2 kk rs2 r2 q
  exact ⟨fun F' e t H' S' p kk re rs h => go F' .non .non H' S' p kk rs rfl h, go, fun _ _ _ _ _ _ _ _ _ h => h.elim, fun _ _ _ _ _ _ _ _ _ h => h.elim⟩
theorem fnD {x qual : Str} {st : Stmt} {f : Addr} {fd : FuncData} {N ps : List Str} {k : Nat} {sp : SpD} (Fn : Fun K x qual st f fd) (Sc : FnScope N ps (defScope st)) (len : ∀ ds S Q, sp ds S Q → ds.length = ps.length)
    (body : ∀ (X : Cx) (ds : List D) (S : Store) (Q : D → Store → Prop), (∃ (cdv : Value) (A : Around) (outer : List Env) (s : Shared) (H : Hp) (E : XK), X = (cxOf CX0 P w K mg base N qual (defScope st) f cdv A outer s H E).nox) → Room k X.A → sp ds S Q → WSs X S.length (defBody st) (startD N ds) S (fnEnds S.length Q)) :
    FnOk P w K mg base CX0 (k + 1) f fd ps (spD K sp) := by
  refine Fn.ok Sc (fun vs H Q E h => ?_) (fun cdv A outer s H vs Q E hr h => ?_)
  · obtain ⟨F, ds, S, Qd, rs, r, hs, k⟩ := h
    rw [r.length]
    exact len ds S Qd hs
  · obtain ⟨F, ds, S, Qd, rs, r, hs, kp⟩ := h
    refine ⟨_, pss_w, ?_⟩
    have q := body _ ds S Qd ⟨cdv, A, outer, s, H, E, rfl⟩ hr hs
    have hp := post_fn kp
    rw [rs.len] at hp
    exact q F H F (L2.start N vs) H _ rs.len (List.prefix_refl F) (Keep.refl H) (re_start r) rs hp
end defs
end DM

namespace DM
open PySem PySem.Spec PyProof.Rows L2
/-! ### what is walked -/
/-- the items, and what must stand at each turn -/
structure Src where
  items : List D
  ok : Store → Prop
def wI (X : Cx) (tg it : Expr) : TI := fun t H R => ∀ pins s, Inv X pins t H s → wpAny (model X.prog X.w) X.A (eval it X.env) (fun v s1 => wpAny (model X.prog X.w) X.A (pyIter v) (PIE X pins t tg R) X.xe s1) X.xe s
theorem pi_w {X : Cx} {tg it : Expr} : PI X tg it (wI X tg it) := ⟨fun pins s t H R I h => h pins s I⟩
theorem wI_of {X : Cx} {tg it : Expr} {ti : TI} {t : L2.St} {H : Hp} {R : It → Hp → Prop} (p : PI X tg it ti) (h : ti t H R) : wI X tg it t H R := fun pins s I => p.run pins s t H R I h
def SrcOk (F : List Addr) (H : Hp) (J : It) (c : Src) : Prop := ∀ F2 H2 S2, F <+: F2 → Keep H H2 → RS F2 H2 S2 → c.ok S2 →
  (∀ i, i < c.items.length → J.go i H2 ∧ ∀ x H3, J.yld i H2 x H3 → Keep H2 H3 ∧ RS F2 H3 S2 ∧ ∃ d, c.items[i]? = some d ∧ RD F2 H3 d x) ∧ J.stop c.items.length H2
def WI (X : Cx) (tg it : Expr) (v : Fv) (S : Store) (R : Src → Store → Prop) : Prop := ∀ F t H (R' : It → Hp → Prop), RE F H v t → RS F H S →
  (∀ F' J H' S' c, F <+: F' → Keep H H' → RS F' H' S' → SrcOk F' H' J c → R c S' → R' J H') → wI X tg it t H R'
section iters
variable {X : Cx} {tg e a b : Expr} {v : Fv} {S : Store} {R : Src → Store → Prop} {p pos : Pos}
theorem WI.list (h : WE X e v S fun d S1 => ∃ l xs, d = .loc l ∧ S1[l]? = some (.lst xs) ∧ R ⟨xs, fun S2 => S2[l]? = some (.lst xs)⟩ S1) : WI X tg e v S R := fun F t H R' re rs k => by
  refine wI_of (pi_list pe_w) ?_
  refine h F t H _ re rs fun F1 d u H1 S1 p1 k1 rs1 r1 h1 => ?_
  obtain ⟨l, xs, rfl, hl, q⟩ := h1
  obtain ⟨a, rfl, ha⟩ := r1
  obtain ⟨a', h', e1, e2, vs, e3, e4⟩ := rs1.get hl
  rw [e1] at ha; cases ha
  subst e3
  refine ⟨a, rfl, ⟨vs, SqL.of e2⟩, k F1 (Itl X.K a) H1 S1 _ p1 k1 rs1 (fun F2 H2 S2 p2 _ rs2 ok => ?_) q⟩
  obtain ⟨a2, h2, g1, g2, ws, g3, g4⟩ := rs2.get (show S2[l]? = some (.lst xs) from ok)
  rw [pre_get p2 e1] at g1; cases g1
  subst g3
  refine ⟨fun i hi => ?_, ws, SqL.of g2, by rw [g4.length]; exact Nat.le_refl _⟩
  obtain ⟨x, q1, q2⟩ := g4.get (List.getElem?_eq_getElem hi)
  refine ⟨⟨ws, x, SqL.of g2, q1⟩, fun y H3 hy => ?_⟩
  obtain ⟨rfl, hy⟩ := hy
  have := hy ws (SqL.of g2)
  rw [q1] at this; cases this
  exact ⟨Keep.refl _, rs2, _, List.getElem?_eq_getElem hi, q2⟩
theorem WI.tup (h : WE X e v S fun d S1 => ∃ xs, d = .tup xs ∧ R ⟨xs, fun _ => True⟩ S1) : WI X tg e v S R := fun F t H R' re rs k => by
  refine wI_of (pi_tup pe_w) ?_
  refine h F t H _ re rs fun F1 d u H1 S1 p1 k1 rs1 r1 h1 => ?_
  obtain ⟨xs, rfl, q⟩ := h1
  obtain ⟨a, vs, rfl, sq, r⟩ := r1
  refine ⟨a, rfl, ⟨vs, SqT.of sq⟩, ?_⟩
  refine k F1 (Itt X.K a) H1 S1 ⟨xs, fun _ => True⟩ p1 k1 rs1 (fun F2 H2 S2 p2 k2 rs2 ok => ?_) q
  have r2 := RDs.mono p2 k2 _ _ r
  have sq2 : SqT X.K H2 a vs := SqT.of (k2.1 _ _ sq)
  refine ⟨fun i hi => ?_, vs, sq2, by rw [r2.length]; exact Nat.le_refl _⟩
  obtain ⟨x, q1, q2⟩ := r2.get (List.getElem?_eq_getElem hi)
  refine ⟨⟨vs, x, sq2, q1⟩, fun y H3 hy => ?_⟩
  obtain ⟨rfl, hy⟩ := hy
  have := hy vs sq2
  rw [q1] at this; cases this
  exact ⟨Keep.refl _, rs2, _, List.getElem?_eq_getElem hi, q2⟩
def rngD (lo : Int) (n : Nat) : List D := (List.range n).map fun (k : Nat) => .int (lo + (k : Int))
theorem rngD_get {lo : Int} {n i : Nat} {d : D} : (rngD lo n)[i]? = some d ↔ i < n ∧ d = .int (lo + (i : Int)) := by
  unfold rngD
  rw [List.getElem?_map]
  by_cases h : i < n
  · rw [List.getElem?_range h]
    simp [h, eq_comm]
  · rw [List.getElem?_eq_none (by simpa using h)]
    simp [h]
theorem rngD_len {lo : Int} {n : Nat} : (rngD lo n).length = n := by simp [rngD]
theorem srcR {F : List Addr} {H : Hp} {lo : Int} {n : Nat} : SrcOk F H (Itr lo n) ⟨rngD lo n, fun _ => True⟩ := fun F2 H2 S2 p2 k2 rs2 _ => by
  refine ⟨fun i hi => ?_, Nat.le_of_eq rngD_len.symm⟩
  have hi : i < n := by rw [show (Src.items ⟨rngD lo n, fun _ => True⟩) = rngD lo n from rfl, rngD_len] at hi; exact hi
  refine ⟨hi, fun x H3 hy => ?_⟩
  obtain ⟨rfl, rfl⟩ := hy
  exact ⟨Keep.refl _, rs2, .int (lo + i), rngD_get.mpr ⟨hi, rfl⟩, rfl⟩
theorem WI.range1 (h : WA X [a] v S fun ds S1 => ∃ j : Int, ds = [.int j] ∧ -(2 ^ 62) ≤ j ∧ j < 2 ^ 62 ∧ R ⟨rngD 0 j.toNat, fun _ => True⟩ S1) (hm : X.mg "range" = none) (hg : Gl X "range" := by rfl) (hs : starEach [a] X.env = [(false, eval a X.env)] := by rfl) : WI X tg (.Call (.Name "range" p) [a] [] pos) v S R := fun F t H R' re rs k => by
  refine wI_of (pi_range1 hg hm pa_w hs) ?_
  refine h F t H _ re rs fun F1 ds vs H1 S1 p1 k1 rs1 r1 h1 => ?_
  obtain ⟨j, rfl, h2, h3, q⟩ := h1
  obtain ⟨u, r, rfl, e1, e2⟩ := r1
  cases e1
  cases (show r = [] from e2)
  exact ⟨j, rfl, h2, h3, k F1 _ H1 S1 _ p1 k1 rs1 srcR q⟩
theorem WI.range2 (h : WA X [a, b] v S fun ds S1 => ∃ i j : Int, ds = [.int i, .int j] ∧ (-(2 ^ 62) ≤ i ∧ i < 2 ^ 62 ∧ -(2 ^ 62) ≤ j ∧ j < 2 ^ 62) ∧ R ⟨rngD i (j - i).toNat, fun _ => True⟩ S1) (hm : X.mg "range" = none) (hg : Gl X "range" := by rfl)
    (hs : starEach [a, b] X.env = [(false, eval a X.env), (false, eval b X.env)] := by rfl) (hs2 : starEach [b] X.env = [(false, eval b X.env)] := by rfl) : WI X tg (.Call (.Name "range" p) [a, b] [] pos) v S R := fun F t H R' re rs k => by
  refine wI_of (pi_range2 hg hm pa_w hs hs2) ?_
  refine h F t H _ re rs fun F1 ds vs H1 S1 p1 k1 rs1 r1 h1 => ?_
  obtain ⟨i, j, rfl, h2, q⟩ := h1
  obtain ⟨u, r, rfl, e1, u2, r2, rfl, e2, e3⟩ := r1
  cases e1
  cases e2
  cases (show r2 = [] from e3)
  exact ⟨i, j, rfl, h2, k F1 _ H1 S1 _ p1 k1 rs1 srcR q⟩
/-- enumerate(list): new pairs -/
def enumD (xs : List D) : List D := (List.range xs.length).map fun (k : Nat) => .tup [.int (k : Int), xs.getD k .non]
theorem WI.enum {tpos : Pos} {elts : List Expr} {kk : Nat} (h : WA X [a] v S fun ds S1 => ∃ l xs, ds = [.loc l] ∧ S1[l]? = some (.lst xs) ∧ R ⟨enumD xs, fun S2 => S2[l]? = some (.lst xs)⟩ S1) (hm : X.mg "enumerate" = none) (hg : Gl X "enumerate" := by rfl) (hs : starEach [a] X.env = [(false, eval a X.env)] := by rfl) :
    WI X (.Tuple elts kk tpos) (.Call (.Name "enumerate" p) [a] [] pos) v S R := fun F t H R' re rs k => by
  refine wI_of (pi_enum hg hm pa_w hs) ?_
  refine h F t H _ re rs fun F1 ds vs H1 S1 p1 k1 rs1 r1 h1 => ?_
  obtain ⟨l, xs, rfl, hl, q⟩ := h1
  obtain ⟨u, r, rfl, ⟨a, rfl, ha⟩, e2⟩ := r1
  cases (show r = [] from e2)
  obtain ⟨a', h', e1, e2, vs, e3, e4⟩ := rs1.get hl
  rw [e1] at ha; cases ha
  subst e3
  refine ⟨a, vs, rfl, SqL.of e2, k F1 (Ite X.K a) H1 S1 ⟨enumD xs, _⟩ p1 k1 rs1 (fun F2 H2 S2 p2 _ rs2 ok => ?_) q⟩
  obtain ⟨a2, h2, g1, g2, ws, g3, g4⟩ := rs2.get (show S2[l]? = some (.lst xs) from ok)
  rw [pre_get p2 e1] at g1; cases g1
  subst g3
  have hlen : (enumD xs).length = xs.length := by simp [enumD]
  refine ⟨fun i hi => ?_, ws, SqL.of g2, by rw [g4.length]; exact Nat.le_of_eq hlen.symm⟩
  have hi : i < xs.length := by rw [← hlen]; exact hi
  obtain ⟨x, q1, q2⟩ := g4.get (List.getElem?_eq_getElem hi)
  refine ⟨⟨ws, x, SqL.of g2, q1⟩, fun y H3 hy => ?_⟩
  obtain ⟨T, x', rfl, hT, rfl, hy⟩ := hy
  have := hy ws (SqL.of g2)
  rw [q1] at this; cases this
  have kk : Keep H2 (upd H2 T (.tup [.int (i : Nat), x])) := Keep.new hT
  refine ⟨kk, rs2.other hT, .tup [.int (i : Int), xs[i]], ?_, T, [.int (i : Nat), x], rfl, upd_same, ⟨.int (i : Int), [x], rfl, rfl, x, [], rfl, q2.mono (List.prefix_refl _) kk, rfl⟩⟩
  show (enumD xs)[i]? = _
  unfold enumD
  rw [List.getElem?_map, List.getElem?_range hi]
  simp [List.getD, List.getElem?_eq_getElem hi]
/-- reversed(list) -/
theorem WI.rev (h : WE X a v S fun d S1 => ∃ l xs, d = .loc l ∧ S1[l]? = some (.lst xs) ∧ R ⟨xs.reverse, fun S2 => S2[l]? = some (.lst xs)⟩ S1) (hm : X.mg "reversed" = none) (hg : Gl X "reversed" := by rfl) (hs : starEach [a] X.env = [(false, eval a X.env)] := by rfl) :
    WI X tg (.Call (.Name "reversed" p) [a] [] pos) v S R := fun F t H R' re rs k => by
  refine wI_of (RT.pi_revA hg hm pe_w (by rw [hs]; rfl)) ?_
  refine h F t H _ re rs fun F1 d u H1 S1 p1 k1 rs1 r1 h1 => ?_
  obtain ⟨l, xs, rfl, hl, q⟩ := h1
  obtain ⟨a, rfl, ha⟩ := r1
  obtain ⟨a', h', e1, e2, vs, e3, e4⟩ := rs1.get hl
  rw [e1] at ha; cases ha
  subst e3
  refine ⟨a, vs, rfl, .inl ⟨SqL.of e2, k F1 (Itv X.K a vs.length) H1 S1 ⟨xs.reverse, _⟩ p1 k1 rs1 (fun F2 H2 S2 p2 _ rs2 ok => ?_) q⟩⟩
  obtain ⟨a2, h2, g1, g2, ws, g3, g4⟩ := rs2.get (show S2[l]? = some (.lst xs) from ok)
  rw [pre_get p2 e1] at g1; cases g1
  subst g3
  have hlen : ws.length = xs.length := g4.length
  have hlv : vs.length = xs.length := e4.length
  refine ⟨fun i hi => ?_, by show vs.length ≤ xs.reverse.length; rw [List.length_reverse, hlv]; exact Nat.le_refl _⟩
  have hi : i < xs.length := by rw [show (Src.items ⟨xs.reverse, fun S2 => S2[l]? = some (.lst xs)⟩) = xs.reverse from rfl, List.length_reverse] at hi; exact hi
  have hi2 : vs.length - 1 - i < xs.length := by omega
  obtain ⟨x, q1, q2⟩ := g4.get (List.getElem?_eq_getElem hi2)
  refine ⟨⟨by omega, ws, x, SqL.of g2, q1⟩, fun y H3 hy => ?_⟩
  obtain ⟨rfl, hy⟩ := hy
  have := hy ws (SqL.of g2)
  rw [q1] at this; cases this
  refine ⟨Keep.refl _, rs2, _, ?_, q2⟩
  show xs.reverse[i]? = _
  rw [List.getElem?_reverse hi, List.getElem?_eq_getElem (by omega)]
  simp only [hlv]
end iters

/-! ### for, while -/
section loops
variable {X : Cx} {n : Nat} {tg it c : Expr} {body : List Stmt} {v : Fv} {S : Store} {E : Ed} {pos : Pos}
/-- I i: what holds ahead of turn i. The places that are there at the loop's start stay where they are -/
theorem WS.for (h : WI X tg it v S fun c S1 => ∃ I : Nat → Fv → Store → Prop, I 0 v S1 ∧ (∀ i v2 S2, i ≤ c.items.length → I i v2 S2 → c.ok S2) ∧
      (∀ i d v2 S2, c.items[i]? = some d → I i v2 S2 → WG X tg d v2 S2 fun v3 S3 => WSs X S1.length body v3 S3 { nx := fun v4 S4 => WkE S1.length v4 S4 (I (i + 1)), ct := fun v4 S4 => WkE S1.length v4 S4 (I (i + 1)), bk := E.nx, rt := E.rt }) ∧
      (∀ v2 S2, I c.items.length v2 S2 → E.nx v2 S2)) (hp : PassesOwn (model X.prog X.w) X.A X.env X.xe) (hc : X.calm = true) (hs : ∀ x, foldedSetIterable it X.env x = pure x := by intro _; rfl) : WS X n (.For tg it body [] pos) v S E := fun F0 H0 F t H E' hl p k re rs q => by
  refine wS_of (ps_for hp hc pi_w pg_w pss_w hs) ?_
  refine h F t H _ re rs fun F1 J H1 S1 c p1 k1 rs1 sk h1 => ?_
  obtain ⟨I, i0, iok, turn, done⟩ := h1
  have l1 : F1.length = S1.length := rs1.len
  refine ⟨fun i m t2 H2 => m + i = c.items.length ∧ ∃ F2 v2 S2, F1 <+: F2 ∧ Keep H1 H2 ∧ RE F2 H2 v2 t2 ∧ RS F2 H2 S2 ∧ I i v2 S2, ⟨c.items.length, by omega, F1, v, S1, List.prefix_refl _, Keep.refl _, re.mono p1 k1, rs1, i0⟩, ?_⟩
  rintro i m t2 H2 ⟨hm, F2, v2, S2, p2, k2, re2, rs2, i2⟩
  obtain ⟨goes, stops⟩ := sk F2 H2 S2 p2 k2 rs2 (iok i v2 S2 (by omega) i2)
  by_cases hi : i < c.items.length
  · obtain ⟨go, yld⟩ := goes i hi
    refine .inr ⟨go, fun t' H' => ∃ F2 v2 S2, F1 <+: F2 ∧ Keep H1 H' ∧ RE F2 H' v2 t' ∧ RS F2 H' S2 ∧ I (i + 1) v2 S2, fun t' H' z => ⟨m - 1, by omega, by omega, z⟩, fun x H3 hy => ?_⟩
    obtain ⟨k3, rs3, d, hd, r3⟩ := yld x H3 hy
    refine turn i d v2 S2 hd i2 F2 t2 H3 x _ (re2.mono (List.prefix_refl _) k3) rs3 r3 fun F4 v4 t4 H4 S4 p4 k4 re4 rs4 h4 => ?_
    have step : ∀ F5 v5 t5 H5 S5, F1 <+: F5 → Keep H1 H5 → RE F5 H5 v5 t5 → RS F5 H5 S5 → WkE S1.length v5 S5 (I (i + 1)) → ∃ F2 v2 S2, F1 <+: F2 ∧ Keep H1 H5 ∧ RE F2 H5 v2 t5 ∧ RS F2 H5 S2 ∧ I (i + 1) v2 S2 := fun F5 v5 t5 H5 S5 p5 k5 re5 rs5 h5 => by
      obtain ⟨v6, S6, cv, i6⟩ := h5
      obtain ⟨F6, p6, re6, rs6⟩ := cv F5 H5 t5 re5 rs5
      rw [← pre_of_take l1 p5] at p6
      exact ⟨F6, v6, S6, p6, k5, re6, rs6, i6⟩
    refine h4 F1 H1 F4 t4 H4 _ l1 (p2.trans p4) ((k2.trans k3).trans k4) re4 rs4 ⟨fun F5 v5 t5 H5 S5 p5 k5 re5 rs5 h5 => step F5 v5 t5 H5 S5 p5 k5 re5 rs5 h5, q.rt.mono (p.trans p1) (k.trans k1), q.nx.mono (p.trans p1) (k.trans k1), fun F5 v5 t5 H5 S5 p5 k5 re5 rs5 h5 => step F5 v5 t5 H5 S5 p5 k5 re5 rs5 h5⟩
  · have e : i = c.items.length := by omega
    subst e
    exact .inl ⟨stops, q.nx F2 v2 t2 H2 S2 ((p.trans p1).trans p2) ((k.trans k1).trans k2) re2 rs2 (done v2 S2 i2)⟩
/-- I m: what holds ahead of a turn; m falls -/
theorem WS.while (I : Nat → Fv → Store → Prop) (h0 : ∃ m, I m v S) (turn : ∀ m v2 S2, I m v2 S2 → WT X c v2 S2 fun b S3 => (b = true → WSs X S.length body v2 S3 { nx := fun v4 S4 => WkE S.length v4 S4 fun v5 S5 => ∃ m', m' < m ∧ I m' v5 S5, ct := fun v4 S4 => WkE S.length v4 S4 fun v5 S5 => ∃ m', m' < m ∧ I m' v5 S5, bk := E.nx, rt := E.rt }) ∧ (b = false → E.nx v2 S3))
    (hp : PassesOwn (model X.prog X.w) X.A X.env X.xe) : WS X n (.While c body [] pos) v S E := fun F0 H0 F t H E' hl p k re rs q => by
  refine wS_of (ps_while hp pt_w pss_w) ?_
  have l1 : F.length = S.length := rs.len
  refine ⟨fun m t2 H2 => ∃ F2 v2 S2, F <+: F2 ∧ Keep H H2 ∧ RE F2 H2 v2 t2 ∧ RS F2 H2 S2 ∧ I m v2 S2, ?_, ?_⟩
  · obtain ⟨m, i0⟩ := h0
    exact ⟨m, F, v, S, List.prefix_refl _, Keep.refl _, re, rs, i0⟩
  · rintro m t2 H2 ⟨F2, v2, S2, p2, k2, re2, rs2, i2⟩
    refine turn m v2 S2 i2 F2 t2 H2 _ re2 rs2 fun F3 b H3 S3 p3 k3 rs3 h3 => ?_
    cases b with
    | false => exact iteF (q.nx F3 v2 t2 H3 S3 ((p.trans p2).trans p3) ((k.trans k2).trans k3) (re2.mono p3 k3) rs3 (h3.2 rfl))
    | true =>
      refine iteT ⟨fun t' H' => ∃ m', m' < m ∧ ∃ F2 v2 S2, F <+: F2 ∧ Keep H H' ∧ RE F2 H' v2 t' ∧ RS F2 H' S2 ∧ I m' v2 S2, fun t' H' z => z, ?_⟩
      have step : ∀ F5 v5 t5 H5 S5, F <+: F5 → Keep H H5 → RE F5 H5 v5 t5 → RS F5 H5 S5 → (WkE S.length v5 S5 fun v5 S5 => ∃ m', m' < m ∧ I m' v5 S5) → ∃ m', m' < m ∧ ∃ F2 v2 S2, F <+: F2 ∧ Keep H H5 ∧ RE F2 H5 v2 t5 ∧ RS F2 H5 S2 ∧ I m' v2 S2 := fun F5 v5 t5 H5 S5 p5 k5 re5 rs5 h5 => by
        obtain ⟨v6, S6, cv, m', hm', i6⟩ := h5
        obtain ⟨F6, p6, re6, rs6⟩ := cv F5 H5 t5 re5 rs5
        rw [← pre_of_take l1 p5] at p6
        exact ⟨m', hm', F6, v6, S6, p6, k5, re6, rs6, i6⟩
      exact h3.1 rfl F H F3 t2 H3 _ l1 (p2.trans p3) (k2.trans k3) (re2.mono p3 k3) rs3 ⟨fun F5 v5 t5 H5 S5 p5 k5 re5 rs5 h5 => step F5 v5 t5 H5 S5 p5 k5 re5 rs5 h5, q.rt.mono p k, q.nx.mono p k, fun F5 v5 t5 H5 S5 p5 k5 re5 rs5 h5 => step F5 v5 t5 H5 S5 p5 k5 re5 rs5 h5⟩
end loops
end DM

namespace DM
open PySem PySem.Spec PyProof.Rows L2
/-! ### comprehensions -/
def wipeD (v : Fv) : List Nat → Fv
  | [] => v
  | i :: is => (wipeD v is).set i none
theorem re_wipe {F : List Addr} {H : Hp} {v : Fv} {t : L2.St} (re : RE F H v t) : ∀ is : List Nat, RE F H (wipeD v is) (wipe t is)
  | [] => re
  | i :: is => (re_wipe re is).drop
theorem wipe_get (t : L2.St) (j : Nat) : ∀ is : List Nat, j < t.length → (wipe t is)[j]? = if j ∈ is then some none else t[j]?
  | [], h => by simp [wipe]
  | i :: is, h => by
    have ih := wipe_get t j is h
    show ((wipe t is).set i none)[j]? = _
    by_cases hj : i = j
    · subst hj
      rw [List.getElem?_set_self (by rw [wipe_length]; exact h)]
      simp
    · rw [List.getElem?_set_ne hj, ih]
      have : ¬ j = i := fun z => hj z.symm
      simp [this]
theorem wipe_ext {t t2 : L2.St} {is : List Nat} (hl : t2.length = t.length) (h : ∀ j, j ∉ is → t2[j]? = t[j]?) : wipe t2 is = wipe t is := by
  apply List.ext_getElem?
  intro j
  by_cases hj : j < t.length
  · rw [wipe_get t2 j is (by omega), wipe_get t j is hj]
    by_cases hm : j ∈ is
    · simp [hm]
    · simp [hm, h j hm]
  · rw [List.getElem?_eq_none (by rw [wipe_length]; omega), List.getElem?_eq_none (by rw [wipe_length]; omega)]
theorem wipe_idem {t t2 : L2.St} {is : List Nat} (hl : t2.length = t.length) (h : ∀ j, j ∉ is → t2[j]? = (wipe t is)[j]?) : wipe t2 is = wipe t is := by
  refine wipe_ext hl fun j hj => ?_
  rw [h j hj]
  by_cases hl2 : j < t.length
  · rw [wipe_get t j is hl2]; simp [hj]
  · rw [List.getElem?_eq_none (by rw [wipe_length]; omega), List.getElem?_eq_none (by omega)]
/-- the block of a comprehension of X's -/
def BlkOf (X : Cx) (scope : Scope) (Y : Cx) : Prop := ∃ (s : Shared) (H : Hp) (C : Addr) (cl : List (Str × Addr)) (fp : List Addr), Y = X.blk s H scope (compEnvC scope cl C X.env) fp
def wTs (X : Cx) : List Expr → TT
  | [] => tYes
  | [c] => wT X c
  | _ => fun _ _ _ => False
theorem pts_w {X : Cx} : ∀ {ifs : List Expr}, PTs X ifs (wTs X ifs)
  | [] => pts_nil
  | [c] => pts_one pt_w
  | _ :: _ :: _ => ⟨fun _ _ _ _ _ _ h => h.elim⟩
def WTs (X : Cx) (ifs : List Expr) (v : Fv) (S : Store) (Q : Bool → Store → Prop) : Prop := match ifs with
  | [] => Q true S
  | [c] => WT X c v S Q
  | _ => False
theorem wTs_of {X : Cx} {v : Fv} {S : Store} {Q : Bool → Store → Prop} {F : List Addr} {t : L2.St} {H : Hp} {Q' : Bool → Hp → Prop} : ∀ {ifs : List Expr}, WTs X ifs v S Q → RE F H v t → RS F H S → PostT F H Q Q' → wTs X ifs t H Q'
  | [], h, re, rs, k => k F true H S (List.prefix_refl F) (Keep.refl H) rs h
  | [c], h, re, rs, k => h F t H Q' re rs k
  | _ :: _ :: _, h, _, _, _ => h.elim
theorem pre_len {α : Type} {l m : List α} (p : l <+: m) (h : m.length = l.length) : l = m := p.eq_of_length h.symm
section
variable {X : Cx} {tg it elt : Expr} {ifs : List Expr} {scope : Scope} {own : List (Str × Nat)} {v : Fv} {S : Store} {Q : D → Store → Prop} {pos : Pos}
theorem lc_core2 {g : TG} {up : D → Fv → Option Fv} (h : WI X tg it v S fun c S1 => ∃ I : Nat → List D → Store → Prop, I 0 [] S1 ∧
      (∀ i acc S2, i ≤ c.items.length → I i acc S2 → S2.length = S1.length ∧ c.ok (S2 ++ [.lst acc])) ∧
      (∀ i d acc S2, c.items[i]? = some d → I i acc S2 → ∃ v3, up d (wipeD v (own.map (·.2))) = some v3 ∧ ∀ Y, BlkOf X scope Y → WTs Y ifs v3 (S2 ++ [.lst acc]) fun b S3 =>
        (b = true → ∀ Z, BlkOf X scope Z → WE Z elt v3 S3 fun y S4 => WkD (S1.length + 1) y S4 fun y2 S5 => acc.length < sizeLine ∧ ∃ S6, S5 = S6 ++ [.lst acc] ∧ I (i + 1) (acc ++ [y2]) S6) ∧
        (b = false → ∃ S5, CovS (S1.length + 1) S3 S5 ∧ ∃ S6, S5 = S6 ++ [.lst acc] ∧ I (i + 1) acc S6)) ∧
      (∀ acc S2, I c.items.length acc S2 → Q (.loc S1.length) (S2 ++ [.lst acc])))
    (hup : ∀ F H d x v t Qt v3, RE F H v t → RD F H d x → up d v = some v3 → (∀ t3, RE F H v3 t3 → t3.length = t.length → (∀ j, j ∉ own.map (·.2) → t3[j]? = t[j]?) → Qt t3 H) → g x t H Qt)
    {F : List Addr} {t : L2.St} {H : Hp} {Q' : VK} (re : RE F H v t) (rs : RS F H S) (k : Post F H Q Q') :
    tLc (wI X tg it) g (fun t H Q => ∀ Y, BlkOf X scope Y → wTs Y ifs t H Q) (fun t H Q => ∀ Y, BlkOf X scope Y → wE Y elt t H Q) (own.map (·.2)) t H Q' := by
  refine h F t H _ re rs fun F1 J H1 S1 c p1 k1 rs1 sk h1 => ?_
  obtain ⟨I, i0, iok, turn, done⟩ := h1
  intro D hD
  have l1 : F1.length = S1.length := rs1.len
  have pp : F1 <+: F1 ++ [D] := ⟨[D], rfl⟩
  have rs1' : RS (F1 ++ [D]) (upd H1 D (.lst [])) (S1 ++ [.lst []]) := rs1.new (o := .lst []) hD ⟨[], rfl, rfl⟩
  have kD : Keep H1 (upd H1 D (.lst [])) := Keep.new hD
  refine ⟨fun i m H2 => m + i = c.items.length ∧ ∃ acc S2, Keep H1 H2 ∧ RS (F1 ++ [D]) H2 (S2 ++ [.lst acc]) ∧ I i acc S2, ⟨c.items.length, by omega, [], S1, kD, rs1', i0⟩, ?_⟩
  rintro i m H2 ⟨hm, acc, S2, k2, rs2, i2⟩
  obtain ⟨hlen, ok2⟩ := iok i acc S2 (by omega) i2
  obtain ⟨goes, stops⟩ := sk (F1 ++ [D]) H2 (S2 ++ [.lst acc]) pp k2 rs2 ok2
  by_cases hi : i < c.items.length
  · obtain ⟨go, yld⟩ := goes i hi
    refine .inr ⟨go, fun H' => ∃ acc S2, Keep H1 H' ∧ RS (F1 ++ [D]) H' (S2 ++ [.lst acc]) ∧ I (i + 1) acc S2, fun H' z => ⟨m - 1, by omega, by omega, z⟩, fun x H3 hy => ?_⟩
    obtain ⟨k3, rs3, d, hd, r3⟩ := yld x H3 hy
    obtain ⟨v3, hu, body⟩ := turn i d acc S2 hd i2
    have re3 : RE (F1 ++ [D]) H3 (wipeD v (own.map (·.2))) (wipe t (own.map (·.2))) := re_wipe (re.mono (p1.trans pp) (k1.trans (k2.trans k3))) _
    refine hup (F1 ++ [D]) H3 d x _ _ _ v3 re3 r3 hu fun t4 re4 hl4 ht4 => ⟨?_, fun Y hY => ?_⟩
    · exact wipe_idem (by rw [hl4, wipe_length]) ht4
    · have YK : Y.K = X.K := by obtain ⟨_, _, _, _, _, rfl⟩ := hY; rfl
      have bd := body Y hY
      refine wTs_of bd re4 rs3 fun F5 b H5 S5 p5 k5 rs5 h5 => ?_
      have l2 : (F1 ++ [D]).length = S1.length + 1 := by simp [l1]
      cases b with
      | true =>
        refine iteT fun Z hZ => ?_
        refine h5.1 rfl Z hZ F5 t4 H5 _ (re4.mono p5 k5) rs5 fun F6 y vy H6 S6 p6 k6 rs6 r6 h6 => ?_
        obtain ⟨y2, S7, cv, hsz, S8, rfl, i8⟩ := h6
        obtain ⟨F7, p7, r7, rs7⟩ := cv F6 H6 vy r6 rs6
        rw [← pre_of_take l2 (p5.trans p6)] at p7
        have hS8 := (iok (i + 1) (acc ++ [y2]) S8 (by omega) i8).1
        have hF7 : F7 = F1 ++ [D] := (pre_len p7 (by rw [rs7.len]; simp [l1, hS8])).symm
        subst hF7
        obtain ⟨a, u, e1, e2, vs, e3, e4⟩ := rs7.get (l := S1.length) (o := .lst acc) (by rw [← hS8]; simp)
        have ea : a = D := by
          rw [← l1] at e1
          simpa using e1.symm
        subst ea
        subst e3
        have kk : Keep H6 (upd H6 a (.lst (vs ++ [vy]))) := Keep.upd e2 trivial
        refine ⟨vs, e2, by rw [e4.length]; exact hsz, acc ++ [y2], S8, ((((k2.trans k3).trans k5).trans k6).trans kk), ?_, i8⟩
        have w := rs7.set (o := .lst (acc ++ [y2])) (u := .lst (vs ++ [vy])) e1 e2 trivial ⟨_, rfl, e4.append ⟨vy, [], rfl, r7, rfl⟩⟩
        have es : (S8 ++ [Ob.lst acc]).set S1.length (.lst (acc ++ [y2])) = S8 ++ [.lst (acc ++ [y2])] := by
          rw [← hS8, List.set_append_right _ _ (Nat.le_refl _)]
          simp
        rw [es] at w
        exact w
      | false =>
        refine iteF ?_
        obtain ⟨S5', cv, S6, rfl, i6⟩ := h5.2 rfl
        obtain ⟨F6, p6, rs6⟩ := cv F5 H5 rs5
        rw [← pre_of_take l2 p5] at p6
        have hS6 := (iok (i + 1) acc S6 (by omega) i6).1
        have hF6 : F6 = F1 ++ [D] := (pre_len p6 (by rw [rs6.len]; simp [l1, hS6])).symm
        subst hF6
        exact ⟨acc, S6, (k2.trans k3).trans k5, rs6, i6⟩
  · have e : i = c.items.length := by omega
    subst e
    refine .inl ⟨stops, k (F1 ++ [D]) (.loc S1.length) (.ref D) H2 _ (p1.trans pp) (k1.trans k2) rs2 ⟨D, rfl, by rw [← l1]; simp⟩ (done acc S2 i2)⟩
/-- the new list from the turns; an element's value may bear no new place -/
def LcTurns (X : Cx) (scope : Scope) (ifs : List Expr) (elt : Expr) (up : D → Fv → Option Fv) (vs : List Nat) (v : Fv) (n : Nat) (c : Src) (S1 : Store) (Q : D → Store → Prop) : Prop := ∃ I : Nat → List D → Store → Prop, I 0 [] S1 ∧
      (∀ i acc S2, i ≤ c.items.length → I i acc S2 → S2.length = S1.length ∧ c.ok (S2 ++ [.lst acc])) ∧
      (∀ i d acc S2, c.items[i]? = some d → I i acc S2 → ∃ v3, up d (wipeD v vs) = some v3 ∧ ∀ Y, BlkOf X scope Y → WTs Y ifs v3 (S2 ++ [.lst acc]) fun b S3 =>
        (b = true → ∀ Z, BlkOf X scope Z → WE Z elt v3 S3 fun y S4 => WkD (S1.length + 1) y S4 fun y2 S5 => acc.length < sizeLine ∧ ∃ S6, S5 = S6 ++ [.lst acc] ∧ I (i + 1) (acc ++ [y2]) S6) ∧
        (b = false → ∃ S5, CovS (S1.length + 1) S3 S5 ∧ ∃ S6, S5 = S6 ++ [.lst acc] ∧ I (i + 1) acc S6)) ∧
      (∀ acc S2, I c.items.length acc S2 → Q (.loc S1.length) (S2 ++ [.lst acc]))
def upN (i : Nat) (d : D) (v : Fv) : Option Fv := some (v.set i (some d))
def setsD (v : Fv) : List Nat → List D → Fv
  | i :: is, d :: ds => setsD (v.set i (some d)) is ds
  | _, _ => v
def upT (is : List Nat) (d : D) (v : Fv) : Option Fv := match d with
  | .tup ds => if ds.length = is.length then some (setsD v is ds) else none
  | _ => none
theorem upN_ok {i : Nat} {is : List Nat} (hi : i ∈ is) : ∀ F H d x v t Qt v3, RE F H v t → RD F H d x → upN i d v = some v3 → (∀ t3, RE F H v3 t3 → t3.length = t.length → (∀ j, j ∉ is → t3[j]? = t[j]?) → Qt t3 H) → gName i x t H Qt := by
  intro F H d x v t Qt v3 re r hu k
  cases hu
  exact k _ (re.set r) (by simp) fun j hj => by rw [List.getElem?_set_ne (by intro z; subst z; exact hj hi)]
def gNs : List Nat → TGs
  | [] => gNil
  | i :: is => gCons (gName i) (gNs is)
theorem gNs_ok {F : List Addr} {H : Hp} {ks : List Nat} : ∀ {is : List Nat} {ds : List D} {xs : List V} {v : Fv} {t : L2.St} {Qt : L2.St → Hp → Prop}, (∀ i ∈ is, i ∈ ks) → RE F H v t → RDs F H ds xs → ds.length = is.length →
    (∀ t3, RE F H (setsD v is ds) t3 → t3.length = t.length → (∀ j, j ∉ ks → t3[j]? = t[j]?) → Qt t3 H) → gNs is xs t H Qt
  | [], ds, xs, v, t, Qt, hk, re, r, hl, k => by
    have : ds = [] := by simpa using hl
    subst this
    cases (show xs = [] from r)
    exact ⟨rfl, k t re rfl fun _ _ => rfl⟩
  | i :: is, d :: ds, xs, v, t, Qt, hk, re, ⟨x, r, e, r1, r2⟩, hl, k => by
    subst e
    refine ⟨x, r, rfl, ?_⟩
    refine gNs_ok (ks := ks) (v := v.set i (some d)) (fun j hj => hk j (List.mem_cons_of_mem _ hj)) (re.set r1) r2 (by simpa using hl) fun t3 re3 hl3 h3 => k t3 re3 (by rw [hl3]; simp) fun j hj => ?_
    rw [h3 j hj, List.getElem?_set_ne (by intro z; subst z; exact hj (hk _ List.mem_cons_self))]
theorem upT_ok {K : PySem.W.Frag} {is ks : List Nat} (hi : ∀ i ∈ is, i ∈ ks) : ∀ F H d x v t Qt v3, RE F H v t → RD F H d x → upT is d v = some v3 → (∀ t3, RE F H v3 t3 → t3.length = t.length → (∀ j, j ∉ ks → t3[j]? = t[j]?) → Qt t3 H) → gTup K is.length (gNs is) x t H Qt := by
  intro F H d x v t Qt v3 re r hu k
  cases d with
  | tup ds =>
    unfold upT at hu
    by_cases hl : ds.length = is.length
    · simp only [hl, if_true] at hu
      cases hu
      obtain ⟨a, vs, rfl, sq, r⟩ := r
      exact ⟨a, vs, rfl, SqT.of sq, by rw [r.length, hl], gNs_ok hi re r hl k⟩
    · simp only [hl, if_false] at hu
      cases hu
  | _ => cases hu
theorem pgs_names {Y : Cx} (hN : Y.N.Nodup) : ∀ {es : List Expr} {is : List Nat}, (∀ (j : Nat) (e : Expr) (i : Nat), es[j]? = some e → is[j]? = some i → ∃ x p, e = Expr.Name x p ∧ Y.N[i]? = some x ∧ Loc Y.env.scope x ∧ (Y.fn x = true ∨ Y.env.scope.names.lookup x = some .local)) → es.length = is.length → PGs Y es (gNs is)
  | [], [], _, _ => pgs_nil
  | e :: es, i :: is, h, hl => by
    obtain ⟨x, p, rfl, h1, h2, h3⟩ := h 0 e i rfl rfl
    exact pgs_cons (pg_name hN h1 h2 h3) (pgs_names hN (fun j e i h4 h5 => h (j + 1) e i (by simpa using h4) (by simpa using h5)) (by simpa using hl)) rfl
/-- [elt for x in it ..], x in slot i -/
theorem WE.lcN (i : Nat) (own : List (Str × Nat)) {x : Str} {px : Pos} (h : WI X (.Name x px) it v S fun c S1 => LcTurns X scope ifs elt (upN i) (own.map (·.2)) v S.length c S1 Q) (hi : i ∈ own.map (·.2)) (hc : X.calm = true) (hN : X.N.Nodup) (ok : BlkOk X.N X.env.scope scope own)
    (hg : ∀ Y, BlkOf X scope Y → PG Y (.Name x px) (gName i)) (hs : ∀ x, foldedSetIterable it X.env x = pure x := by intro _; rfl) : WE X (.ListComp elt [⟨.Name x px, it, ifs, 0⟩] scope pos) v S Q := fun F t H Q' re rs k => by
  refine wE_of (pe_lc hc hN pi_w ok (fun s H C cl fp => hg _ ⟨s, H, C, cl, fp, rfl⟩) (tt := fun t H Q => ∀ Y, BlkOf X scope Y → wTs Y ifs t H Q) (fun s H C cl fp => ?_) (te := fun t H Q => ∀ Y, BlkOf X scope Y → wE Y elt t H Q) (fun s H C cl fp => ?_) hs) ?_
  · exact ⟨fun pins s2 t H2 Q I h => pts_w.run pins s2 t H2 Q I (h _ ⟨s, H, C, cl, fp, rfl⟩)⟩
  · exact ⟨fun pins s2 t H2 Q I h => pe_w.run pins s2 t H2 Q I (h _ ⟨s, H, C, cl, fp, rfl⟩)⟩
  · exact lc_core2 (up := upN i) h (upN_ok hi) re rs k
/-- y = [elt for x in it ..] -/
theorem WS.setLcN {n : Nat} {E : Ed} (i : Nat) (own : List (Str × Nat)) (j : Nat) {x y : Str} {px py spos : Pos} (h : WI X (.Name x px) it v S fun c S1 => LcTurns X scope ifs elt (upN i) (own.map (·.2)) v S.length c S1 fun d S2 => E.nx (v.set j (some d)) S2) (hi : i ∈ own.map (·.2)) (hc : X.calm = true) (hN : X.N.Nodup)
    (hy : X.N[j]? = some y) (hyl : X.env.scope.names.lookup y = some .local) (hsw : swapsWith (.ListComp elt [⟨.Name x px, it, ifs, 0⟩] scope pos) (some (.Name y py)) spos.line X.env = pure true) (ok : BlkOk X.N X.env.scope scope own)
    (hg : ∀ Y, BlkOf X scope Y → PG Y (.Name x px) (gName i)) (hs : ∀ x, foldedSetIterable it X.env x = pure x := by intro _; rfl) : WS X n (.Assign [.Name y py] (.ListComp elt [⟨.Name x px, it, ifs, 0⟩] scope pos) spos) v S E := fun F0 H0 F t H E' hl p k re rs q => by
  refine wS_of (ps_setLc hc hN hy hyl hsw pi_w ok (fun s H C cl fp => hg _ ⟨s, H, C, cl, fp, rfl⟩) (tt := fun t H Q => ∀ Y, BlkOf X scope Y → wTs Y ifs t H Q) (fun s H C cl fp => ?_) (te := fun t H Q => ∀ Y, BlkOf X scope Y → wE Y elt t H Q) (fun s H C cl fp => ?_) hs) ?_
  · exact ⟨fun pins s2 t H2 Q I h => pts_w.run pins s2 t H2 Q I (h _ ⟨s, H, C, cl, fp, rfl⟩)⟩
  · exact ⟨fun pins s2 t H2 Q I h => pe_w.run pins s2 t H2 Q I (h _ ⟨s, H, C, cl, fp, rfl⟩)⟩
  · exact lc_core2 (up := upN i) h (upN_ok hi) re rs fun F1 d u H1 S1 p1 k1 rs1 r1 h1 => q.nx F1 _ _ H1 S1 (p.trans p1) (k.trans k1) ((re.mono p1 k1).set r1) rs1 h1
/-- [elt for a, b, .. in it ..], the names in slots is -/
theorem WE.lcT (is : List Nat) (own : List (Str × Nat)) {es : List Expr} {kk : Nat} {px : Pos} (h : WI X (.Tuple es kk px) it v S fun c S1 => LcTurns X scope ifs elt (upT is) (own.map (·.2)) v S.length c S1 Q) (hi : ∀ i ∈ is, i ∈ own.map (·.2)) (hc : X.calm = true) (hN : X.N.Nodup) (ok : BlkOk X.N X.env.scope scope own)
    (hg : ∀ Y, BlkOf X scope Y → PG Y (.Tuple es kk px) (gTup Y.K is.length (gNs is))) (hs : ∀ x, foldedSetIterable it X.env x = pure x := by intro _; rfl) : WE X (.ListComp elt [⟨.Tuple es kk px, it, ifs, 0⟩] scope pos) v S Q := fun F t H Q' re rs k => by
  refine wE_of (pe_lc hc hN pi_w ok (g := gTup X.K is.length (gNs is)) (fun s H C cl fp => hg _ ⟨s, H, C, cl, fp, rfl⟩) (tt := fun t H Q => ∀ Y, BlkOf X scope Y → wTs Y ifs t H Q) (fun s H C cl fp => ?_) (te := fun t H Q => ∀ Y, BlkOf X scope Y → wE Y elt t H Q) (fun s H C cl fp => ?_) hs) ?_
  · exact ⟨fun pins s2 t H2 Q I h => pts_w.run pins s2 t H2 Q I (h _ ⟨s, H, C, cl, fp, rfl⟩)⟩
  · exact ⟨fun pins s2 t H2 Q I h => pe_w.run pins s2 t H2 Q I (h _ ⟨s, H, C, cl, fp, rfl⟩)⟩
  · exact lc_core2 (up := upT is) (g := gTup X.K is.length (gNs is)) h (upT_ok (K := X.K) hi) re rs k
theorem WS.setLcT {n : Nat} {E : Ed} (is : List Nat) (own : List (Str × Nat)) (j : Nat) {es : List Expr} {kk : Nat} {y : Str} {px py spos : Pos} (h : WI X (.Tuple es kk px) it v S fun c S1 => LcTurns X scope ifs elt (upT is) (own.map (·.2)) v S.length c S1 fun d S2 => E.nx (v.set j (some d)) S2) (hi : ∀ i ∈ is, i ∈ own.map (·.2)) (hc : X.calm = true) (hN : X.N.Nodup)
    (hy : X.N[j]? = some y) (hyl : X.env.scope.names.lookup y = some .local) (hsw : swapsWith (.ListComp elt [⟨.Tuple es kk px, it, ifs, 0⟩] scope pos) (some (.Name y py)) spos.line X.env = pure true) (ok : BlkOk X.N X.env.scope scope own)
    (hg : ∀ Y, BlkOf X scope Y → PG Y (.Tuple es kk px) (gTup Y.K is.length (gNs is))) (hs : ∀ x, foldedSetIterable it X.env x = pure x := by intro _; rfl) : WS X n (.Assign [.Name y py] (.ListComp elt [⟨.Tuple es kk px, it, ifs, 0⟩] scope pos) spos) v S E := fun F0 H0 F t H E' hl p k re rs q => by
  refine wS_of (ps_setLc hc hN hy hyl hsw pi_w ok (g := gTup X.K is.length (gNs is)) (fun s H C cl fp => hg _ ⟨s, H, C, cl, fp, rfl⟩) (tt := fun t H Q => ∀ Y, BlkOf X scope Y → wTs Y ifs t H Q) (fun s H C cl fp => ?_) (te := fun t H Q => ∀ Y, BlkOf X scope Y → wE Y elt t H Q) (fun s H C cl fp => ?_) hs) ?_
  · exact ⟨fun pins s2 t H2 Q I h => pts_w.run pins s2 t H2 Q I (h _ ⟨s, H, C, cl, fp, rfl⟩)⟩
  · exact ⟨fun pins s2 t H2 Q I h => pe_w.run pins s2 t H2 Q I (h _ ⟨s, H, C, cl, fp, rfl⟩)⟩
  · exact lc_core2 (up := upT is) (g := gTup X.K is.length (gNs is)) h (upT_ok (K := X.K) hi) re rs fun F1 d u H1 S1 p1 k1 rs1 r1 h1 => q.nx F1 _ _ H1 S1 (p.trans p1) (k.trans k1) ((re.mono p1 k1).set r1) rs1 h1
end
end DM

namespace DM
open PySem PySem.Spec PyProof.Rows L2
/-! ### operations by values -/
section ops
variable {X : Cx} {S : Store} {Q : D → Store → Prop}
theorem Post.now {F : List Addr} {H : Hp} {Q' : VK} {d : D} {u : V} (k : Post F H Q Q') (rs : RS F H S) (r : RD F H d u) (h : Q d S) : Q' u H := k F d u H S (List.prefix_refl F) (Keep.refl H) rs r h
theorem Post.nowI {F : List Addr} {H : Hp} {Q' : VK} {i : Int} (k : Post F H Q Q') (rs : RS F H S) (h : Q (.int i) S) : Q' (.int i) H := k F (.int i) (.int i) H S (List.prefix_refl F) (Keep.refl H) rs rfl h
theorem Post.nowB {F : List Addr} {H : Hp} {Q' : VK} {b : Bool} (k : Post F H Q Q') (rs : RS F H S) (h : Q (.bl b) S) : Q' (.bl b) H := k F (.bl b) (.bl b) H S (List.prefix_refl F) (Keep.refl H) rs rfl h
theorem Post.nowB' {F : List Addr} {H : Hp} {Q' : VK} {b c : Bool} (e : c = b) (k : Post F H Q Q') (rs : RS F H S) (h : Q (.bl b) S) : Q' (.bl c) H := by subst e; exact k.nowB rs h
theorem BW.of {f : Value → Value → Sem Value} {r : R2} {x y : D} (p : OpR X f r) (h : ∀ F H vx vy Q', RS F H S → RD F H x vx → RD F H y vy → Post F H Q Q' → r vx vy H Q') : BW X f x y S Q := fun F H vx vy Q' rs rx ry k => wB_of p (h F H vx vy Q' rs rx ry k)
theorem UW.of {f : Value → Sem Value} {r : V → Hp → VK → Prop} {x : D} (p : UnR X f r) (h : ∀ F H vx Q', RS F H S → RD F H x vx → Post F H Q Q' → r vx H Q') : UW X f x S Q := fun F H vx Q' rs rx k => wU_of p (h F H vx Q' rs rx k)
theorem IW.of {r : R2} {x y : D} (p : IxR X r) (h : ∀ F H vx vy Q', RS F H S → RD F H x vx → RD F H y vy → Post F H Q Q' → r vx vy H Q') : IW X x y S Q := fun F H vx vy Q' rs rx ry k => wIx_of p (h F H vx vy Q' rs rx ry k)
theorem CW.of {f : Value} {r : List V → Hp → VK → Prop} {ds : List D} (p : CallR X f r) (h : ∀ F H vs Q', RS F H S → RDs F H ds vs → Post F H Q Q' → r vs H Q') : CW X f ds S Q := fun F H vs Q' rs r k => wC_of p (h F H vs Q' rs r k)
theorem MW.of {id : String} {r : V → List V → Hp → VK → Prop} {x : D} {ds : List D} (p : MtM X id r) (h : ∀ F H vx vs Q', RS F H S → RD F H x vx → RDs F H ds vs → Post F H Q Q' → r vx vs H Q') : MW X id x ds S Q := fun F H vx vs Q' rs rx r k => wM_of p (h F H vx vs Q' rs rx r k)
theorem MW.ofR {id : String} {r : V → List V → Hp → VK → Prop} {x : D} {ds : List D} (p : MtR X id r) (h : ∀ F H vx vs Q', RS F H S → RD F H x vx → RDs F H ds vs → Post F H Q Q' → r vx vs H Q') : MW X id x ds S Q := fun F H vx vs Q' rs rx r k => wM_ofR p (h F H vx vs Q' rs rx r k)
variable {i j : Int}
theorem BW.add (h : Q (.int (i + j)) S) : BW X (binaryOp .Add) (.int i) (.int j) S Q := BW.of op_add fun F H vx vy Q' rs rx ry k => ⟨i, j, rx, ry, k.nowI rs h⟩
theorem BW.sub (h : Q (.int (i - j)) S) : BW X (binaryOp .Sub) (.int i) (.int j) S Q := BW.of op_sub fun F H vx vy Q' rs rx ry k => ⟨i, j, rx, ry, k.nowI rs h⟩
/-- one factor below 2^64 in size -/
theorem BW.mul (hc : CMul i j) (h : Q (.int (i * j)) S) : BW X (binaryOp .Mult) (.int i) (.int j) S Q := BW.of op_mul fun F H vx vy Q' rs rx ry k => ⟨i, j, rx, ry, hc, k.nowI rs h⟩
theorem BW.mod (hc : 0 < j) (h : Q (.int (i % j)) S) : BW X (binaryOp .Mod) (.int i) (.int j) S Q := BW.of op_mod fun F H vx vy Q' rs rx ry k => ⟨i, j, rx, ry, hc, k.nowI rs h⟩
theorem BW.fdiv (hc : CDiv i j) (h : Q (.int (i / j)) S) : BW X (binaryOp .FloorDiv) (.int i) (.int j) S Q := BW.of op_fdiv fun F H vx vy Q' rs rx ry k => ⟨i, j, rx, ry, hc, k.nowI rs h⟩
theorem BW.pow (hc : CPow i j) (h : Q (.int (i ^ j.toNat)) S) : BW X (binaryOp .Pow) (.int i) (.int j) S Q := BW.of op_pow fun F H vx vy Q' rs rx ry k => ⟨i, j, rx, ry, hc, k.nowI rs h⟩
theorem UW.neg (h : Q (.int (-i)) S) : UW X (unaryOp .USub) (.int i) S Q := UW.of un_neg fun F H vx Q' rs rx k => ⟨i, rx, k.nowI rs h⟩
theorem BW.lt (h : Q (.bl (decide (i < j))) S) : BW X (compareOp .Lt) (.int i) (.int j) S Q := BW.of op_lt fun F H vx vy Q' rs rx ry k => ⟨i, j, rx, ry, k.nowB rs h⟩
theorem BW.le (h : Q (.bl (decide (i ≤ j))) S) : BW X (compareOp .LtE) (.int i) (.int j) S Q := BW.of op_le fun F H vx vy Q' rs rx ry k => ⟨i, j, rx, ry, k.nowB rs h⟩
theorem BW.gt (h : Q (.bl (decide (j < i))) S) : BW X (compareOp .Gt) (.int i) (.int j) S Q := BW.of op_gt fun F H vx vy Q' rs rx ry k => ⟨i, j, rx, ry, k.nowB rs h⟩
theorem BW.ge (h : Q (.bl (decide (j ≤ i))) S) : BW X (compareOp .GtE) (.int i) (.int j) S Q := BW.of op_ge fun F H vx vy Q' rs rx ry k => ⟨i, j, rx, ry, k.nowB rs h⟩
theorem BW.eqI (h : Q (.bl (decide (i = j))) S) : BW X (compareOp .Eq) (.int i) (.int j) S Q := BW.of op_eq fun F H vx vy Q' rs rx ry k => by
  cases rx; cases ry
  exact ⟨rfl, k.nowB' (by simp) rs h⟩
theorem BW.neI (h : Q (.bl (!decide (i = j))) S) : BW X (compareOp .NotEq) (.int i) (.int j) S Q := BW.of op_ne fun F H vx vy Q' rs rx ry k => by
  cases rx; cases ry
  exact ⟨rfl, k.nowB' (by simp) rs h⟩
theorem BW.eqB {i j : Bool} (h : Q (.bl (decide (i = j))) S) : BW X (compareOp .Eq) (.bl i) (.bl j) S Q := BW.of op_eq fun F H vx vy Q' rs rx ry k => by
  cases rx; cases ry
  exact ⟨rfl, k.nowB' (by simp) rs h⟩
theorem BW.neB {i j : Bool} (h : Q (.bl (!decide (i = j))) S) : BW X (compareOp .NotEq) (.bl i) (.bl j) S Q := BW.of op_ne fun F H vx vy Q' rs rx ry k => by
  cases rx; cases ry
  exact ⟨rfl, k.nowB' (by simp) rs h⟩
theorem BW.eqS {i j : Str} (h : Q (.bl (decide (i = j))) S) : BW X (compareOp .Eq) (.str i) (.str j) S Q := BW.of op_eq fun F H vx vy Q' rs rx ry k => by
  cases rx; cases ry
  exact ⟨rfl, k.nowB' (by simp) rs h⟩
theorem BW.neS {i j : Str} (h : Q (.bl (!decide (i = j))) S) : BW X (compareOp .NotEq) (.str i) (.str j) S Q := BW.of op_ne fun F H vx vy Q' rs rx ry k => by
  cases rx; cases ry
  exact ⟨rfl, k.nowB' (by simp) rs h⟩
/-- None or an int, against the same -/
def D.ofO : Option Int → D
  | none => .non
  | some i => .int i
theorem BW.eqO {i j : Option Int} (h : Q (.bl (decide (i = j))) S) : BW X (compareOp .Eq) (D.ofO i) (D.ofO j) S Q := BW.of op_eq fun F H vx vy Q' rs rx ry k => by
  cases i with
  | none => cases j with
    | none => cases (show vx = .non from rx); cases (show vy = .non from ry); exact ⟨rfl, k.nowB' (by simp) rs h⟩
    | some j => cases (show vx = .non from rx); cases (show vy = .int j from ry); exact ⟨rfl, k.nowB' (by simp) rs h⟩
  | some i => cases j with
    | none => cases (show vx = .int i from rx); cases (show vy = .non from ry); exact ⟨rfl, k.nowB' (by simp) rs h⟩
    | some j => cases (show vx = .int i from rx); cases (show vy = .int j from ry); exact ⟨rfl, k.nowB' (by simp) rs h⟩
theorem BW.neO {i j : Option Int} (h : Q (.bl (!decide (i = j))) S) : BW X (compareOp .NotEq) (D.ofO i) (D.ofO j) S Q := BW.of op_ne fun F H vx vy Q' rs rx ry k => by
  cases i with
  | none => cases j with
    | none => cases (show vx = .non from rx); cases (show vy = .non from ry); exact ⟨rfl, k.nowB' (by simp) rs h⟩
    | some j => cases (show vx = .non from rx); cases (show vy = .int j from ry); exact ⟨rfl, k.nowB' (by simp) rs h⟩
  | some i => cases j with
    | none => cases (show vx = .int i from rx); cases (show vy = .non from ry); exact ⟨rfl, k.nowB' (by simp) rs h⟩
    | some j => cases (show vx = .int i from rx); cases (show vy = .int j from ry); exact ⟨rfl, k.nowB' (by simp) rs h⟩
/-- is None -/
theorem BW.isN {x : D} (b : Bool) (hb : (match x with | .non => true | _ => false) = b) (h : Q (.bl b) S) : BW X (compareOp .Is) x .non S Q := BW.of op_isN fun F H vx vy Q' rs rx ry k => by
  refine ⟨ry, k.now rs (d := .bl b) ?_ h⟩
  subst hb
  cases x with
  | non => cases (show vx = .non from rx); rfl
  | tup xs => obtain ⟨a, vs, rfl, _⟩ := rx; rfl
  | loc l => obtain ⟨a, rfl, _⟩ := rx; rfl
  | bl b => cases (show vx = .bl b from rx); rfl
  | int b => cases (show vx = .int b from rx); rfl
  | str b => cases (show vx = .str b from rx); rfl
  | ty b => cases (show vx = .ty b from rx); rfl
  | ref b => cases (show vx = .ref b from rx); rfl
  | scr ns => obtain ⟨a, o, rfl, _⟩ := rx; rfl
theorem BW.notN {x : D} (b : Bool) (hb : (match x with | .non => false | _ => true) = b) (h : Q (.bl b) S) : BW X (compareOp .IsNot) x .non S Q := BW.of op_notN fun F H vx vy Q' rs rx ry k => by
  refine ⟨ry, k.now rs (d := .bl b) ?_ h⟩
  subst hb
  cases x with
  | non => cases (show vx = .non from rx); rfl
  | tup xs => obtain ⟨a, vs, rfl, _⟩ := rx; rfl
  | loc l => obtain ⟨a, rfl, _⟩ := rx; rfl
  | bl b => cases (show vx = .bl b from rx); rfl
  | int b => cases (show vx = .int b from rx); rfl
  | str b => cases (show vx = .str b from rx); rfl
  | ty b => cases (show vx = .ty b from rx); rfl
  | ref b => cases (show vx = .ref b from rx); rfl
  | scr ns => obtain ⟨a, o, rfl, _⟩ := rx; rfl

/-! ### == of data -/
mutual
inductive PD (S : Store) : D → PyData → Prop
  | non : PD S .non .none
  | bl (b : Bool) : PD S (.bl b) (.bool b)
  | int (i : Int) : PD S (.int i) (.int i)
  | str (x : Str) : PD S (.str x) (.str x)
  | tup {xs : List D} {ps : List PyData} : PDs S xs ps → PD S (.tup xs) (.tuple ps)
  | lst {l : Nat} {xs : List D} {ps : List PyData} : S[l]? = some (.lst xs) → PDs S xs ps → PD S (.loc l) (.list ps)
inductive PDs (S : Store) : List D → List PyData → Prop
  | nil : PDs S [] []
  | cons {x : D} {xs : List D} {p : PyData} {ps : List PyData} : PD S x p → PDs S xs ps → PDs S (x :: xs) (p :: ps)
end
section
variable {K : PySem.W.Frag} {F : List Addr} {H : Hp}
mutual
theorem PD.dp (rs : RS F H S) : ∀ (p : PyData) (d : D) (v : V), PD S d p → RD F H d v → Dp K H v p
  | .none, d, v, h, r => by cases h; cases (show v = .non from r); exact .non
  | .bool b, d, v, h, r => by cases h; cases (show v = .bl b from r); exact .bl b
  | .int i, d, v, h, r => by cases h; cases (show v = .int i from r); exact .int i
  | .str x, d, v, h, r => by cases h; cases (show v = .str x from r); exact .str x
  | .tuple ps, d, v, h, r => by
    cases h with
    | tup h =>
      obtain ⟨a, vs, rfl, e, r⟩ := r
      exact .tup (SqT.of e) (PDs.dp rs ps _ _ h r)
  | .list ps, d, v, h, r => by
    cases h with
    | lst hl h =>
      obtain ⟨a, rfl, ha⟩ := r
      obtain ⟨a', h', e1, e2, vs, e3, e4⟩ := rs.get hl
      rw [e1] at ha; cases ha
      subst e3
      exact .lst (SqL.of e2) (PDs.dp rs ps _ _ h e4)
  | .dict kvs, d, v, h, r => by cases h
theorem PDs.dp (rs : RS F H S) : ∀ (ps : List PyData) (ds : List D) (vs : List V), PDs S ds ps → RDs F H ds vs → DpAll K H vs ps
  | [], ds, vs, h, r => by cases h; cases (show vs = [] from r); exact .nil
  | p :: ps, ds, vs, h, r => by
    cases h with
    | cons h1 h2 =>
      obtain ⟨v, r', rfl, r1, r2⟩ := r
      exact .cons (PD.dp rs p _ v h1 r1) (PDs.dp rs ps _ r' h2 r2)
end
end
theorem BW.eqD {x y : D} {p q : PyData} (hx : PD S x p) (hy : PD S y q) (sp : SeqAt.shaped p = true) (sq : SeqAt.shaped q = true) (hu : X.A.units + 64 < cLine) (h : Q (.bl (PyData.eqv p q)) S) : BW X (compareOp .Eq) x y S Q := BW.of (op_eqD hu) fun F H vx vy Q' rs rx ry k =>
  ⟨p, q, PD.dp rs p x vx hx rx, PD.dp rs q y vy hy ry, sp, sq, k.nowB rs h⟩
theorem BW.neD {x y : D} {p q : PyData} (hx : PD S x p) (hy : PD S y q) (sp : SeqAt.shaped p = true) (sq : SeqAt.shaped q = true) (hu : X.A.units + 64 < cLine) (h : Q (.bl (!PyData.eqv p q)) S) : BW X (compareOp .NotEq) x y S Q := BW.of (op_neD hu) fun F H vx vy Q' rs rx ry k =>
  ⟨p, q, PD.dp rs p x vx hx rx, PD.dp rs q y vy hy ry, sp, sq, k.nowB rs h⟩

/-! ### subscripts, len, list, tuple -/
theorem IW.list {l : Nat} {xs : List D} {d : D} (hl : S[l]? = some (.lst xs)) (ha : atI xs i = some d) (h : Q d S) : IW X (.loc l) (.int i) S Q := IW.of ix_list fun F H vx vy Q' rs rx ry k => by
  obtain ⟨a, rfl, ha'⟩ := rx
  obtain ⟨a', h', e1, e2, vs, e3, e4⟩ := rs.get hl
  rw [e1] at ha'; cases ha'
  subst e3
  obtain ⟨n, hn, hd⟩ : ∃ n, ixN xs.length i = some n ∧ xs[n]? = some d := by
    unfold atI at ha
    cases e : ixN xs.length i with
    | none => rw [e] at ha; cases ha
    | some n => rw [e] at ha; exact ⟨n, rfl, ha⟩
  obtain ⟨v, hv, r⟩ := e4.get hd
  exact ⟨a, vs, i, v, rfl, ry, SqL.of e2, by unfold atI; rw [e4.length, hn]; exact hv, k.now rs r h⟩
theorem IW.tup {xs : List D} {d : D} (ha : atI xs i = some d) (h : Q d S) : IW X (.tup xs) (.int i) S Q := IW.of ix_tup fun F H vx vy Q' rs rx ry k => by
  obtain ⟨a, vs, rfl, e2, e4⟩ := rx
  obtain ⟨n, hn, hd⟩ : ∃ n, ixN xs.length i = some n ∧ xs[n]? = some d := by
    unfold atI at ha
    cases e : ixN xs.length i with
    | none => rw [e] at ha; cases ha
    | some n => rw [e] at ha; exact ⟨n, rfl, ha⟩
  obtain ⟨v, hv, r⟩ := e4.get hd
  exact ⟨a, vs, i, v, rfl, ry, SqT.of e2, by unfold atI; rw [e4.length, hn]; exact hv, k.now rs r h⟩
theorem CW.lenL {l : Nat} {xs : List D} (hl : S[l]? = some (.lst xs)) (h : Q (.int xs.length) S) : CW X (.builtin "len") [.loc l] S Q := CW.of call_len_seq fun F H vs Q' rs r k => by
  obtain ⟨v, r', rfl, ⟨a, rfl, ha⟩, e⟩ := r
  cases (show r' = [] from e)
  obtain ⟨a', h', e1, e2, vs, e3, e4⟩ := rs.get hl
  rw [e1] at ha; cases ha
  subst e3
  exact ⟨a, vs, rfl, .inl (SqL.of e2), (by rw [e4.length]; exact k.nowI rs h)⟩
theorem CW.lenT {xs : List D} (h : Q (.int xs.length) S) : CW X (.builtin "len") [.tup xs] S Q := CW.of call_len_seq fun F H vs Q' rs r k => by
  obtain ⟨v, r', rfl, ⟨a, vs, rfl, e2, e4⟩, e⟩ := r
  cases (show r' = [] from e)
  exact ⟨a, vs, rfl, .inr (SqT.of e2), (by rw [e4.length]; exact k.nowI rs h)⟩
theorem CW.lenS {x : Str} (hz : x.length ≤ sizeLine) (h : Q (.int x.length) S) : CW X (.builtin "len") [.str x] S Q := CW.of call_len_str fun F H vs Q' rs r k => by
  obtain ⟨v, r', rfl, e1, e⟩ := r
  cases (show r' = [] from e)
  cases e1
  exact ⟨x, rfl, hz, k.nowI rs h⟩
theorem CW.max2 (hc : X.calm = true) (h : Q (.int (if j > i then j else i)) S) : CW X (.builtin "max") [.int i, .int j] S Q := CW.of (call_max2 hc) fun F H vs Q' rs r k => by
  obtain ⟨v, r', rfl, e1, v2, r2, rfl, e2, e3⟩ := r
  cases e1; cases e2; cases (show r2 = [] from e3)
  exact ⟨i, j, rfl, k.nowI rs h⟩
theorem CW.min2 (hc : X.calm = true) (h : Q (.int (if j < i then j else i)) S) : CW X (.builtin "min") [.int i, .int j] S Q := CW.of (call_min2 hc) fun F H vs Q' rs r k => by
  obtain ⟨v, r', rfl, e1, v2, r2, rfl, e2, e3⟩ := r
  cases e1; cases e2; cases (show r2 = [] from e3)
  exact ⟨i, j, rfl, k.nowI rs h⟩
theorem CW.listL {l : Nat} {xs : List D} (hl : S[l]? = some (.lst xs)) (h : Q (.loc S.length) (S ++ [.lst xs])) : CW X (.type "list") [.loc l] S Q := CW.of call_list_of fun F H vs Q' rs r k => by
  obtain ⟨v, r', rfl, ⟨a, rfl, ha⟩, e⟩ := r
  cases (show r' = [] from e)
  obtain ⟨a', h', e1, e2, vs, e3, e4⟩ := rs.get hl
  rw [e1] at ha; cases ha
  subst e3
  refine ⟨a, vs, rfl, .inl (SqL.of e2), fun p hp => ?_⟩
  exact k (F ++ [p]) (.loc S.length) (.ref p) _ _ ⟨[p], rfl⟩ (Keep.new hp) (rs.new (o := .lst xs) hp ⟨vs, rfl, e4⟩) ⟨p, rfl, by rw [← rs.len]; simp⟩ h
theorem CW.listT {xs : List D} (h : Q (.loc S.length) (S ++ [.lst xs])) : CW X (.type "list") [.tup xs] S Q := CW.of call_list_of fun F H vs Q' rs r k => by
  obtain ⟨v, r', rfl, ⟨a, vs, rfl, e2, e4⟩, e⟩ := r
  cases (show r' = [] from e)
  refine ⟨a, vs, rfl, .inr (SqT.of e2), fun p hp => ?_⟩
  exact k (F ++ [p]) (.loc S.length) (.ref p) _ _ ⟨[p], rfl⟩ (Keep.new hp) (rs.new (o := .lst xs) hp ⟨vs, rfl, e4⟩) ⟨p, rfl, by rw [← rs.len]; simp⟩ h
theorem CW.tupL {l : Nat} {xs : List D} (hl : S[l]? = some (.lst xs)) (h : Q (.tup xs) S) : CW X (.type "tuple") [.loc l] S Q := CW.of call_tuple_of fun F H vs Q' rs r k => by
  obtain ⟨v, r', rfl, ⟨a, rfl, ha⟩, e⟩ := r
  cases (show r' = [] from e)
  obtain ⟨a', h', e1, e2, vs, e3, e4⟩ := rs.get hl
  rw [e1] at ha; cases ha
  subst e3
  refine ⟨a, vs, rfl, .inl ⟨SqL.of e2, fun p hp => ?_⟩⟩
  exact k F (.tup xs) (.ref p) _ _ (List.prefix_refl F) (Keep.new hp) (rs.other hp) ⟨p, vs, rfl, upd_same, RDs.mono (List.prefix_refl F) (Keep.new hp) _ _ e4⟩ h
theorem CW.tupT {xs : List D} (h : Q (.tup xs) S) : CW X (.type "tuple") [.tup xs] S Q := CW.of call_tuple_of fun F H vs Q' rs r k => by
  obtain ⟨v, r', rfl, ⟨a, vs, rfl, e2, e4⟩, e⟩ := r
  cases (show r' = [] from e)
  exact ⟨a, vs, rfl, .inr ⟨SqT.of e2, k.now rs (d := .tup xs) ⟨a, vs, rfl, e2, e4⟩ h⟩⟩
theorem CW.intB {b : Bool} (h : Q (.int (if b then 1 else 0)) S) : CW X (.type "int") [.bl b] S Q := CW.of call_int1 fun F H vs Q' rs r k => by
  obtain ⟨v, r', rfl, e1, e⟩ := r
  cases (show r' = [] from e); cases e1
  exact .inr ⟨b, rfl, k.nowI rs h⟩
/-- max of a list of ints -/
theorem ints_rd {F : List Addr} {H : Hp} : ∀ {ns : List Int} {vs : List V}, RDs F H (ns.map D.int) vs → vs = ns.map V.int
  | [], _, h => h
  | n :: ns, _, ⟨v, r, e, h1, h2⟩ => by
    subst e
    rw [ints_rd h2]
    cases h1
    rfl
theorem CW.maxL {l : Nat} {ns : List Int} (hl : S[l]? = some (.lst (ns.map D.int))) (hp : 0 < ns.length) (hc : X.calm = true) (h : ∀ m, m ∈ ns → (∀ y, y ∈ ns → y ≤ m) → Q (.int m) S) : CW X (.builtin "max") [.loc l] S Q := CW.of (cr_max hc) fun F H vs Q' rs r k => by
  obtain ⟨v, r', rfl, ⟨a, rfl, ha⟩, e⟩ := r
  cases (show r' = [] from e)
  obtain ⟨a', h', e1, e2, vs, e3, e4⟩ := rs.get hl
  rw [e1] at ha; cases ha
  subst e3
  cases (ints_rd e4)
  exact ⟨a, ns, rfl, SqL.of e2, hp, fun m h1 h2 => k.nowI rs (h m h1 h2)⟩
theorem CW.minL {l : Nat} {ns : List Int} (hl : S[l]? = some (.lst (ns.map D.int))) (hp : 0 < ns.length) (hc : X.calm = true) (h : ∀ m, m ∈ ns → (∀ y, y ∈ ns → m ≤ y) → Q (.int m) S) : CW X (.builtin "min") [.loc l] S Q := CW.of (cr_min hc) fun F H vs Q' rs r k => by
  obtain ⟨v, r', rfl, ⟨a, rfl, ha⟩, e⟩ := r
  cases (show r' = [] from e)
  obtain ⟨a', h', e1, e2, vs, e3, e4⟩ := rs.get hl
  rw [e1] at ha; cases ha
  subst e3
  cases (ints_rd e4)
  exact ⟨a, ns, rfl, SqL.of e2, hp, fun m h1 h2 => k.nowI rs (h m h1 h2)⟩

/-! ### isinstance of built-in types -/
/-- what type a datum is of, where that is known -/
def tyName (d : D) (S : Store) : Option String := match d with
  | .non => some "NoneType"
  | .bl _ => some "bool"
  | .int _ => some "int"
  | .str _ => some "str"
  | .tup _ => some "tuple"
  | .loc l => match S[l]? with
    | some (.lst _) => some "list"
    | some (.dK _) => some "dict"
    | some (.dT _) => some "dict"
    | _ => none
  | _ => none
theorem tyx {K : PySem.W.Frag} {F : List Addr} {H : Hp} {d : D} {v : V} {n : String} (rs : RS F H S) (r : RD F H d v) (h : tyName d S = some n) : TyX K H v (.type n) := by
  cases d with
  | non => cases (show v = .non from r); cases h; exact .base .non
  | bl b => cases (show v = .bl b from r); cases h; exact .base (.bl b)
  | int b => cases (show v = .int b from r); cases h; exact .base (.int b)
  | str b => cases (show v = .str b from r); cases h; exact .base (.str b)
  | tup xs => obtain ⟨a, vs, rfl, e, _⟩ := r; cases h; exact .base (.tup e)
  | loc l =>
    obtain ⟨a, rfl, ha⟩ := r
    unfold tyName at h
    cases e : S[l]? with
    | none => simp only [e] at h; cases h
    | some o =>
      obtain ⟨a', h', e1, e2, e3⟩ := rs.get e
      rw [e1] at ha; cases ha
      cases o with
      | lst xs => simp only [e] at h; cases h; obtain ⟨vs, rfl, _⟩ := e3; exact .base (.lst e2)
      | dK xs => simp only [e] at h; cases h; obtain ⟨vs, rfl, _⟩ := e3; exact .base (.dK e2)
      | dT xs => simp only [e] at h; cases h; obtain ⟨vs, rfl, _⟩ := e3; exact .base (.dT e2)
      | ins C fs => simp only [e] at h; cases h
      | frz o u => simp only [e] at h; cases h
  | _ => cases h
theorem clsV_ty (n : String) : ClsV (.ty n) (.type n) := by constructor
theorem CW.isi {x : D} {n c : String} {b : Bool} (hx : tyName x S = some n) (hb : kitB n c = some b) (h : Q (.bl b) S) : CW X (.builtin "isinstance") [x, .ty c] S Q := CW.of call_isi fun F H vs Q' rs r k => by
  obtain ⟨v, r', rfl, e1, v2, r2, rfl, e2, e3⟩ := r
  cases (show r2 = [] from e3)
  cases (show v2 = .ty c from e2)
  exact ⟨v, .ty c, _, _, b, rfl, clsV_ty c, tyx rs e1 hx, kit_ty hb, k.nowB rs h⟩
theorem CW.isi2 {x : D} {n c c' : String} {b b' : Bool} (hx : tyName x S = some n) (hb : kitB n c = some b) (hb' : kitB n c' = some b') (h : Q (.bl (b || b')) S) : CW X (.builtin "isinstance") [x, .tup [.ty c, .ty c']] S Q := CW.of call_isiT fun F H vs Q' rs r k => by
  obtain ⟨v, r', rfl, e1, v2, r2, rfl, ⟨tp, cs, rfl, et, u1, _, rfl, g1, u2, _, rfl, g2, rfl⟩, e3⟩ := r
  cases (show r2 = [] from e3)
  cases (show u1 = .ty c from g1)
  cases (show u2 = .ty c' from g2)
  refine ⟨v, tp, _, _, [.type c, .type c'], b || b', rfl, et, .cons (clsV_ty c) (.cons (clsV_ty c') .nil), tyx rs e1 hx, ?_, k.nowB rs h⟩
  refine kitAny_cons (kit_ty hb) (fun e => ?_) (fun e => by simp [e])
  refine kitAny_cons (kit_ty hb') (fun e' => ?_) (fun e' => by simp [e'])
  rw [e, e']
  exact kitAny_nil

/-! ### the script -/
def KList (K : PySem.W.Frag) (a : Addr) (xs : List V) : Prop := ∃ (o : Obj) (its : Array Value) (n : Nat), K.lookup a = some o ∧ o.cls = .type "list" ∧ o.dict = none ∧ o.data = .seq its n ∧ its.size ≤ sizeLine ∧ Vals xs its.toList
/-- the script as it is handed in -/
def ScrD (K : PySem.W.Frag) (d : D) (ns : List Int) : Prop := d = .scr ns ∨ ∃ a, d = .ref a ∧ KList K a (ns.map V.int)
theorem ScrD.sq {K : PySem.W.Frag} {F : List Addr} {H : Hp} {d : D} {v : V} {ns : List Int} (h : ScrD K d ns) (r : RD F H d v) : ∃ a, v = .ref a ∧ SqL K H a (ns.map V.int) := by
  rcases h with rfl | ⟨a, rfl, k⟩
  · obtain ⟨a, o, rfl, e⟩ := r
    exact ⟨a, rfl, .inl (.inr ⟨o, e⟩)⟩
  · exact ⟨a, r, .inr k⟩
theorem ints_of_rd {F : List Addr} {H : Hp} : ∀ (ns : List Int), RDs F H (ns.map D.int) (ns.map V.int)
  | [] => rfl
  | n :: ns => ⟨.int n, _, rfl, rfl, ints_of_rd ns⟩
theorem CW.listScr {d : D} {ns : List Int} (hs : ScrD X.K d ns) (h : Q (.loc S.length) (S ++ [.lst (ns.map D.int)])) : CW X (.type "list") [d] S Q := CW.of call_list_of fun F H vs Q' rs r k => by
  obtain ⟨v, r', rfl, r1, e⟩ := r
  cases (show r' = [] from e)
  obtain ⟨a, rfl, sq⟩ := hs.sq r1
  refine ⟨a, _, rfl, .inl sq, fun p hp => ?_⟩
  exact k (F ++ [p]) (.loc S.length) (.ref p) _ _ ⟨[p], rfl⟩ (Keep.new hp) (rs.new (o := .lst (ns.map D.int)) hp ⟨_, rfl, ints_of_rd ns⟩) ⟨p, rfl, by rw [← rs.len]; simp⟩ h
theorem WI.scr {tg e : Expr} {v : Fv} {R : Src → Store → Prop} (h : WE X e v S fun d S1 => ∃ ns, ScrD X.K d ns ∧ R ⟨ns.map D.int, fun _ => True⟩ S1) : WI X tg e v S R := fun F t H R' re rs k => by
  refine wI_of (pi_list pe_w) ?_
  refine h F t H _ re rs fun F1 d u H1 S1 p1 k1 rs1 r1 h1 => ?_
  obtain ⟨ns, hs, q⟩ := h1
  obtain ⟨a, rfl, sq⟩ := hs.sq r1
  refine ⟨a, rfl, ⟨_, sq⟩, k F1 (Itl X.K a) H1 S1 ⟨ns.map D.int, fun _ => True⟩ p1 k1 rs1 (fun F2 H2 S2 p2 k2 rs2 ok => ?_) q⟩
  obtain ⟨a', e', sq2⟩ := hs.sq (r1.mono p2 k2)
  cases e'
  refine ⟨fun i hi => ?_, _, sq2, by simp⟩
  have hi : i < ns.length := by simpa using hi
  have q1 : (ns.map V.int)[i]? = some (.int ns[i]) := by rw [List.getElem?_map, List.getElem?_eq_getElem hi]; rfl
  refine ⟨⟨_, _, sq2, q1⟩, fun y H3 hy => ?_⟩
  obtain ⟨rfl, hy⟩ := hy
  have := hy _ sq2
  rw [q1] at this; cases this
  exact ⟨Keep.refl _, rs2, .int ns[i], by show (ns.map D.int)[i]? = _; rw [List.getElem?_map, List.getElem?_eq_getElem hi]; rfl, rfl⟩
/-! ### list methods -/
theorem MW.append {l : Nat} {xs : List D} {d : D} (hl : S[l]? = some (.lst xs)) (hz : xs.length < sizeLine) (h : Q .non (S.set l (.lst (xs ++ [d])))) : MW X "list.append" (.loc l) [d] S Q := MW.of mt_append fun F H vx vs Q' rs rx r k => by
  obtain ⟨a, rfl, ha⟩ := rx
  obtain ⟨a', h', e1, e2, ws, e3, e4⟩ := rs.get hl
  rw [e1] at ha; cases ha
  subst e3
  obtain ⟨v, r', rfl, q1, q2⟩ := r
  cases (show r' = [] from q2)
  refine ⟨a, ws, v, rfl, rfl, e2, by rw [e4.length]; exact hz, ?_⟩
  exact k F .non .non _ _ (List.prefix_refl F) (Keep.upd e2 trivial) (rs.set (o := .lst (xs ++ [d])) e1 e2 trivial ⟨_, rfl, e4.append ⟨v, [], rfl, q1, rfl⟩⟩) rfl h
theorem MW.pop {l : Nat} {xs : List D} {d : D} (hl : S[l]? = some (.lst (xs ++ [d]))) (h : Q d (S.set l (.lst xs))) : MW X "list.pop" (.loc l) [] S Q := MW.of mt_pop fun F H vx vs Q' rs rx r k => by
  obtain ⟨a, rfl, ha⟩ := rx
  obtain ⟨a', h', e1, e2, ws, e3, e4⟩ := rs.get hl
  rw [e1] at ha; cases ha
  subst e3
  cases (show vs = [] from r)
  have hd : (xs ++ [d])[xs.length]? = some d := by simp
  obtain ⟨v, hv, rv⟩ := e4.get hd
  have hlen : ws.length = xs.length + 1 := by rw [e4.length]; simp
  refine ⟨a, ws, v, rfl, rfl, e2, by rw [hlen]; simpa using hv, ?_⟩
  have r2 : RDs F H xs ws.dropLast := by
    have := e4.dropLast
    rwa [List.dropLast_concat] at this
  have kk : Keep H (upd H a (.lst ws.dropLast)) := Keep.upd e2 trivial
  exact k F d v _ _ (List.prefix_refl F) kk (rs.set (o := .lst xs) e1 e2 trivial ⟨_, rfl, r2⟩) (rv.mono (List.prefix_refl F) kk) h
theorem MW.popAt {l : Nat} {xs : List D} {d : D} {n : Nat} (hl : S[l]? = some (.lst xs)) (hd : xs[n]? = some d) (hi : i = (n : Int)) (hz : n < 2 ^ 63) (h : Q d (S.set l (.lst (xs.eraseIdx n)))) : MW X "list.pop" (.loc l) [.int i] S Q := MW.of mt_popAt fun F H vx vs Q' rs rx r k => by
  obtain ⟨a, rfl, ha⟩ := rx
  obtain ⟨a', h', e1, e2, ws, e3, e4⟩ := rs.get hl
  rw [e1] at ha; cases ha
  subst e3
  obtain ⟨v0, r', rfl, q1, q2⟩ := r
  cases (show r' = [] from q2)
  cases (show v0 = .int i from q1)
  obtain ⟨v, hv, rv⟩ := e4.get hd
  have hn : n < xs.length := (List.getElem?_eq_some_iff.mp hd).1
  have hs : seqIndex? i ws.length = some n := by
    have := (ixN_seq (n := ws.length) (i := i) (j := n) (by
      unfold ixN
      rw [e4.length]
      rw [if_pos (by omega), if_pos (by omega)]
      simp [hi])).1
    exact this
  have kk : Keep H (upd H a (.lst (ws.eraseIdx n))) := Keep.upd e2 trivial
  refine ⟨a, ws, i, n, v, rfl, rfl, e2, by omega, by omega, hs, hv, ?_⟩
  exact k F d v _ _ (List.prefix_refl F) kk (rs.set (o := .lst (xs.eraseIdx n)) e1 e2 trivial ⟨_, rfl, RDs.eraseIdx n e4⟩) (rv.mono (List.prefix_refl F) kk) h
theorem MW.extend {l m : Nat} {xs ys : List D} (hl : S[l]? = some (.lst xs)) (hm : S[m]? = some (.lst ys)) (hz : xs.length + ys.length ≤ sizeLine) (h : Q .non (S.set l (.lst (xs ++ ys)))) : MW X "list.extend" (.loc l) [.loc m] S Q := MW.of mt_extend fun F H vx vs Q' rs rx r k => by
  obtain ⟨a, rfl, ha⟩ := rx
  obtain ⟨a', h', e1, e2, ws, e3, e4⟩ := rs.get hl
  rw [e1] at ha; cases ha
  subst e3
  obtain ⟨v0, r', rfl, ⟨b, rfl, hb⟩, q2⟩ := r
  cases (show r' = [] from q2)
  obtain ⟨b', h2, g1, g2, us, g3, g4⟩ := rs.get hm
  rw [g1] at hb; cases hb
  subst g3
  refine ⟨a, b, ws, us, rfl, rfl, e2, g2, by rw [e4.length, g4.length]; exact hz, ?_⟩
  exact k F .non .non _ _ (List.prefix_refl F) (Keep.upd e2 trivial) (rs.set (o := .lst (xs ++ ys)) e1 e2 trivial ⟨_, rfl, e4.append g4⟩) rfl h
/-! ### + of lists, tuples -/
theorem BW.catL {l m : Nat} {xs ys : List D} (hl : S[l]? = some (.lst xs)) (hm : S[m]? = some (.lst ys)) (hz : xs.length + ys.length ≤ sizeLine) (h : Q (.loc S.length) (S ++ [.lst (xs ++ ys)])) : BW X (binaryOp .Add) (.loc l) (.loc m) S Q := BW.of op_cat fun F H vx vy Q' rs rx ry k => by
  obtain ⟨a, rfl, ha⟩ := rx
  obtain ⟨a', h', e1, e2, ws, e3, e4⟩ := rs.get hl
  rw [e1] at ha; cases ha
  subst e3
  obtain ⟨b, rfl, hb⟩ := ry
  obtain ⟨b', h2, g1, g2, us, g3, g4⟩ := rs.get hm
  rw [g1] at hb; cases hb
  subst g3
  refine ⟨a, b, ws, us, rfl, rfl, e2, g2, by rw [e4.length, g4.length]; exact hz, fun p hp => ?_⟩
  exact k (F ++ [p]) (.loc S.length) (.ref p) _ _ ⟨[p], rfl⟩ (Keep.new hp) (rs.new (o := .lst (xs ++ ys)) hp ⟨_, rfl, e4.append g4⟩) ⟨p, rfl, by rw [← rs.len]; simp⟩ h
theorem BW.catT {xs ys : List D} (hn : xs ≠ []) (hz : xs.length + ys.length ≤ sizeLine) (h : Q (.tup (xs ++ ys)) S) : BW X (binaryOp .Add) (.tup xs) (.tup ys) S Q := BW.of op_catT fun F H vx vy Q' rs rx ry k => by
  obtain ⟨a, ws, rfl, e2, e4⟩ := rx
  obtain ⟨b, us, rfl, g2, g4⟩ := ry
  have hw : ws ≠ [] := fun z => hn (by have := e4.length; rw [z] at this; exact List.eq_nil_of_length_eq_zero this.symm)
  refine ⟨a, b, ws, us, rfl, rfl, SqT.of e2, SqT.of g2, hw, by rw [e4.length, g4.length]; exact hz, fun hu => ?_, fun hu => ?_⟩
  · have hy : ys = [] := by
      have := g4.length
      rw [hu] at this
      exact List.eq_nil_of_length_eq_zero this.symm
    rw [hy, List.append_nil] at h
    exact k.now rs (d := .tup xs) ⟨a, ws, rfl, e2, e4⟩ h
  · intro p hp
    exact k F (.tup (xs ++ ys)) (.ref p) _ _ (List.prefix_refl F) (Keep.new hp) (rs.other hp) ⟨p, _, rfl, upd_same, RDs.mono (List.prefix_refl F) (Keep.new hp) _ _ (e4.append g4)⟩ h
end ops
end DM

namespace DM
open PySem PySem.Spec PyProof.Rows L2
/-! ### places below a bound -/
/-- knowing less of the store at a return: what stands from n on is dropped -/
def bel (n : Nat) : D → Bool
  | .loc l => decide (l < n)
  | .tup xs => belAll n xs
  | _ => true
where belAll (n : Nat) : List D → Bool
  | [] => true
  | x :: xs => bel n x && belAll n xs
def belK {κ : Type} (n : Nat) : List (κ × D) → Bool
  | [] => true
  | x :: xs => bel n x.2 && belK n xs
def belO (n : Nat) : Ob → Bool
  | .lst xs => bel.belAll n xs
  | .dK kvs => belK n kvs
  | .dT kvs => belK n kvs
  | .ins _ fs => belK n fs
  | .frz _ u => belO n u
/-- every object below n bears places below n alone -/
def belS (n : Nat) (S : Store) : Prop := ∀ (l : Nat) (o : Ob), S[l]? = some o → belO n o = true
section
variable {F : List Addr} {H : Hp}
mutual
theorem RD.bel : ∀ {d : D} {v : V}, RD F H d v → bel F.length d = true
  | .non, _, _ => rfl
  | .bl _, _, _ => rfl
  | .int _, _, _ => rfl
  | .str _, _, _ => rfl
  | .ty _, _, _ => rfl
  | .ref _, _, _ => rfl
  | .tup xs, _, ⟨a, vs, e, s, r⟩ => RDs.bel (xs := xs) r
  | .loc l, _, ⟨a, e, h⟩ => decide_eq_true (List.getElem?_eq_some_iff.mp h).1
  | .scr _, _, _ => rfl
theorem RDs.bel : ∀ {xs : List D} {vs : List V}, RDs F H xs vs → bel.belAll F.length xs = true
  | [], _, _ => rfl
  | x :: xs, _, ⟨v, r, e, h1, h2⟩ => by
    show (DM.bel F.length x && bel.belAll F.length xs) = true
    rw [RD.bel h1, RDs.bel h2]; rfl
end
theorem RKs.bel {κ : Type} : ∀ {xs : List (κ × D)} {vs : List (κ × V)}, RKs F H xs vs → belK F.length xs = true
  | [], _, _ => rfl
  | x :: xs, _, ⟨v, r, e, h1, h2⟩ => by
    show (DM.bel F.length x.2 && belK F.length xs) = true
    rw [RD.bel h1, RKs.bel h2]; rfl
theorem RO.bel : ∀ {o : Ob} {h : HO}, RO F H o h → belO F.length o = true
  | .lst _, _, ⟨_, _, r⟩ => RDs.bel r
  | .dK _, _, ⟨_, _, r⟩ => RKs.bel r
  | .dT _, _, ⟨_, _, r⟩ => RKs.bel r
  | .ins _ _, _, ⟨_, _, _, r⟩ => RKs.bel r
  | .frz _ u, _, ⟨_, _, r⟩ => RO.bel (o := u) r
theorem RS.bel {S : Store} (rs : RS F H S) : belS S.length S := fun l o e => by
  obtain ⟨a, h, _, _, r⟩ := rs.ob l o e
  rw [← rs.len]
  exact r.bel
end
/-! ### defs by names -/
section
variable (P : Program) (w : World) (K : PySem.W.Frag) (mg : Str → Option Value) (base : Heap)
/-- a def of the module's, by its name: what it promises -/
structure Cal (x : Str) (k : Nat) (ps : List Str) (sp : SpD) : Prop where
  ex : ∃ (f : Addr) (fd : FuncData), FnOk P w K mg base CX0 k f fd ps (spD K sp) ∧ mg x = some (.ref f) ∧ PySem.W.keepIn K (.ref f) = true ∧ Binds K fd ps []
/-- a method -/
structure MCal (C : Addr) (m : Str) (k : Nat) (ps : List Str) (sp : SpD) : Prop where
  ex : ∃ (f : Addr) (fd : FuncData), FnOk P w K mg base CX0 k f fd ps (spD K sp) ∧ Meth K C m f ∧ Binds K fd ps []
/-- __init__ -/
structure ICal (C : Addr) (k : Nat) (ps : List Str) (sp : SpD) : Prop where
  ex : ∃ (f : Addr) (fd : FuncData), FnOk P w K mg base CX0 k f fd ps (spD K sp) ∧ Mk K C f ∧ Binds K fd ps []
/-- a def as it stands behind the top -/
structure Df (x qual : Str) (st : Stmt) (f : Addr) : Prop where
  ex : ∃ fd : FuncData, FunD K x qual (defArgs st) (defBody st) (defScope st) [] [] f fd
end
section
variable {P : Program} {w : World} {K : PySem.W.Frag} {mg : Str → Option Value} {base : Heap}
theorem Cal.mono {x : Str} {j k : Nat} {ps : List Str} {sp : SpD} (c : Cal P w K mg base x j ps sp) (h : j ≤ k) : Cal P w K mg base x k ps sp := by
  obtain ⟨f, fd, G, r⟩ := c.ex
  exact ⟨f, fd, G.mono h, r⟩
theorem MCal.mono {C : Addr} {x : Str} {j k : Nat} {ps : List Str} {sp : SpD} (c : MCal P w K mg base C x j ps sp) (h : j ≤ k) : MCal P w K mg base C x k ps sp := by
  obtain ⟨f, fd, G, r⟩ := c.ex
  exact ⟨f, fd, G.mono h, r⟩
def spImp (sp sp' : SpD) : Prop := ∀ ds S Q, sp' ds S Q → sp ds S Q
theorem Cal.imp {x : Str} {k : Nat} {ps : List Str} {sp sp' : SpD} (c : Cal P w K mg base x k ps sp) (h : spImp sp sp') : Cal P w K mg base x k ps sp' := by
  obtain ⟨f, fd, G, r⟩ := c.ex
  exact ⟨f, fd, G.imp (fun vs H Q E ⟨F, ds, S, Qd, a, b, c, d⟩ => ⟨F, ds, S, Qd, a, b, h _ _ _ c, d⟩), r⟩
/-- the body keeps the promise -/
def BodyOk (P : Program) (w : World) (K : PySem.W.Frag) (mg : Str → Option Value) (base : Heap) (N : List Str) (qual : Str) (st : Stmt) (f : Addr) (k : Nat) (sp : SpD) : Prop :=
  ∀ (cdv : Value) (A : Around) (outer : List Env) (s : Shared) (H : Hp) (E : XK) (ds : List D) (S : Store) (Q : D → Store → Prop), Room k (cxOf CX0 P w K mg base N qual (defScope st) f cdv A outer s H E).nox.A → belS S.length S → bel.belAll S.length ds = true → sp ds S Q →
    WSs (cxOf CX0 P w K mg base N qual (defScope st) f cdv A outer s H E).nox S.length (defBody st) (startD N ds) S (fnEnds S.length Q)
theorem fnOkD {x qual : Str} {st : Stmt} {f : Addr} {fd : FuncData} {N ps : List Str} {k : Nat} {sp : SpD} (Fn : FunD K x qual (defArgs st) (defBody st) (defScope st) [] [] f fd) (Sc : FnScope N ps (defScope st)) (len : ∀ ds S Q, sp ds S Q → ds.length = ps.length)
    (body : BodyOk P w K mg base N qual st f k sp) : FnOk P w K mg base CX0 (k + 1) f fd ps (spD K sp) := by
  refine Fn.ok Sc (fun vs H Q E h => ?_) (fun cdv A outer s H vs Q E hr h => ?_)
  · obtain ⟨F, ds, S, Qd, rs, r, hs, k⟩ := h
    rw [r.length]
    exact len ds S Qd hs
  · obtain ⟨F, ds, S, Qd, rs, r, hs, kp⟩ := h
    refine ⟨_, PSs.nox pss_w, ?_⟩
    have q := body cdv A outer s H E ds S Qd hr rs.bel (rs.len ▸ RDs.bel r) hs
    have hp := post_fn kp
    rw [rs.len] at hp
    exact q F H F (L2.start N vs) H _ rs.len (List.prefix_refl F) (Keep.refl H) (re_start r) rs hp
abbrev BindOk (x qual : Str) (st : Stmt) (ps : List Str) : Prop := ∀ (kV doc pm : Value) (an : Option Addr) (cdv ct : Value) (us : List Value), us.length = ps.length → bindArgs (PySem.W.fnOf x qual (defArgs st) (defBody st) (defScope st) .none kV doc pm an cdv ct) ⟨us, []⟩ = pure (ps.zip us)
theorem calD {x : Str} {st : Stmt} {f : Addr} {N ps : List Str} {k : Nat} {sp : SpD} (df : Df K x x st f) (hm : mg x = some (.ref f)) (Sc : FnScope N ps (defScope st)) (b : BindOk x x st ps) (len : ∀ ds S Q, sp ds S Q → ds.length = ps.length)
    (body : BodyOk P w K mg base N x st f k sp) : Cal P w K mg base x (k + 1) ps sp := by
  obtain ⟨fd, F⟩ := df.ex
  exact ⟨f, fd, fnOkD F Sc len body, hm, F.kp, F.bindsN b⟩
theorem mcalD {C : Addr} {x qual : Str} {st : Stmt} {f : Addr} {N ps : List Str} {k : Nat} {sp : SpD} (df : Df K x qual st f) (hm : Meth K C x f) (Sc : FnScope N ps (defScope st)) (b : BindOk x qual st ps) (len : ∀ ds S Q, sp ds S Q → ds.length = ps.length)
    (body : BodyOk P w K mg base N qual st f k sp) : MCal P w K mg base C x (k + 1) ps sp := by
  obtain ⟨fd, F⟩ := df.ex
  exact ⟨f, fd, fnOkD F Sc len body, hm, F.bindsN b⟩
theorem icalD {C : Addr} {x qual : Str} {st : Stmt} {f : Addr} {N ps : List Str} {k : Nat} {sp : SpD} (df : Df K x qual st f) (hm : Mk K C f) (Sc : FnScope N ps (defScope st)) (b : BindOk x qual st ps) (len : ∀ ds S Q, sp ds S Q → ds.length = ps.length)
    (body : BodyOk P w K mg base N qual st f k sp) : ICal P w K mg base C (k + 1) ps sp := by
  obtain ⟨fd, F⟩ := df.ex
  exact ⟨f, fd, fnOkD F Sc len body, hm, F.bindsN b⟩
end
section
variable {X : Cx} {k : Nat} {C : Addr} {ps : List Str} {sp : SpD} {x m : Str} {a o : Expr} {es : List Expr} {v : Fv} {S : Store} {Q : D → Store → Prop} {p pos apos : Pos}
theorem WE.cal (c : Cal X.prog X.w X.K X.mg X.base x k ps sp) (hr : Room k X.A) (h : WA X (a :: es) v S fun ds S1 => sp ds S1 Q) (hg : Gl X x := by rfl)
    (hdb : (x == ("__debug__" : Str)) = false := by decide) (he : starEach (a :: es) X.env = (false, eval a X.env) :: starEach es X.env := by rfl) (hpl : (backTo pos (starEach es X.env)).any (·.1) = false := by rfl) : WE X (.Call (.Name x p) (a :: es) [] pos) v S Q := by
  obtain ⟨f, fd, G, hm, hk, hb⟩ := c.ex
  exact WE.call G hr hm hk hb h hg hdb he hpl
theorem WE.cal0 (c : Cal X.prog X.w X.K X.mg X.base x k ps sp) (hr : Room k X.A) (h : sp [] S Q) (hg : Gl X x := by rfl) (hdb : (x == ("__debug__" : Str)) = false := by decide) : WE X (.Call (.Name x p) [] [] pos) v S Q := by
  obtain ⟨f, fd, G, hm, hk, hb⟩ := c.ex
  exact WE.call0 G hr hm hk hb h hg hdb
theorem WE.mcal {pl : Sem Bool} (c : MCal X.prog X.w X.K X.mg X.base C m k ps sp) (hr : Room k X.A) (cl : Cls X.K C)
    (h : WE X o v S fun d S1 => ∃ l fs, d = .loc l ∧ S1[l]? = some (.ins C fs) ∧ fs.lookup m = none ∧ WA X (a :: es) v S1 fun ds S2 => sp (.loc l :: ds) S2 Q)
    (hst : starEach (a :: es) X.env = (false, eval a X.env) :: starEach es X.env := by rfl) (hpl : (backTo pos (starEach es X.env)).any (·.1) = false := by rfl)
    (ht : eval (.Call (.Attribute o m apos) (a :: es) [] pos) X.env = (do
      let ov ← eval o X.env
      standAt apos.atName
      let (f, first) ← holding [ov] (getMethod ov m pl)
      callWith pos f first (backTo pos (starEach (a :: es) X.env)) (backToKw pos (keywordEach [] X.env))) := by rfl) : WE X (.Call (.Attribute o m apos) (a :: es) [] pos) v S Q := by
  obtain ⟨f, fd, G, hm, hb⟩ := c.ex
  exact WE.meth G hr cl hm hb h hst hpl ht
theorem WE.mcal0 {pl : Sem Bool} (c : MCal X.prog X.w X.K X.mg X.base C m k ps sp) (hr : Room k X.A) (cl : Cls X.K C)
    (h : WE X o v S fun d S1 => ∃ l fs, d = .loc l ∧ S1[l]? = some (.ins C fs) ∧ fs.lookup m = none ∧ sp [.loc l] S1 Q)
    (ht : eval (.Call (.Attribute o m apos) [] [] pos) X.env = (do
      let ov ← eval o X.env
      standAt apos.atName
      let (f, first) ← holding [ov] (getMethod ov m pl)
      callWith pos f first (backTo pos (starEach [] X.env)) (backToKw pos (keywordEach [] X.env))) := by rfl) : WE X (.Call (.Attribute o m apos) [] [] pos) v S Q := by
  obtain ⟨f, fd, G, hm, hb⟩ := c.ex
  exact WE.meth0 G hr cl hm hb h ht
end
/-! ### forgetting, made -/
section
variable {F : List Addr} {H : Hp} {n : Nat}
mutual
theorem RD.cut {G : List Addr} (hF : ∀ l, l < n → G[l]? = F[l]?) : ∀ (d : D) (v : V), bel n d = true → RD F H d v → RD G H d v
  | .non, _, _, h => h
  | .bl _, _, _, h => h
  | .int _, _, _, h => h
  | .str _, _, _, h => h
  | .ty _, _, _, h => h
  | .ref _, _, _, h => h
  | .tup xs, _, b, ⟨a, vs, e, s, r⟩ => ⟨a, vs, e, s, RDs.cut hF xs vs b r⟩
  | .loc l, _, b, ⟨a, e, h⟩ => ⟨a, e, (hF l (of_decide_eq_true b)).trans h⟩
  | .scr _, _, _, h => h
theorem RDs.cut {G : List Addr} (hF : ∀ l, l < n → G[l]? = F[l]?) : ∀ (xs : List D) (vs : List V), bel.belAll n xs = true → RDs F H xs vs → RDs G H xs vs
  | [], _, _, h => h
  | x :: xs, _, b, ⟨v, r, e, h1, h2⟩ => by
    have b' : (DM.bel n x && DM.bel.belAll n xs) = true := b
    rw [Bool.and_eq_true] at b'
    exact ⟨v, r, e, RD.cut hF x v b'.1 h1, RDs.cut hF xs r b'.2 h2⟩
end
theorem RKs.cut {κ : Type} {G : List Addr} (hF : ∀ l, l < n → G[l]? = F[l]?) : ∀ (xs : List (κ × D)) (vs : List (κ × V)), belK n xs = true → RKs F H xs vs → RKs G H xs vs
  | [], _, _, h => h
  | x :: xs, _, b, ⟨v, r, e, h1, h2⟩ => by
    have b' : (DM.bel n x.2 && belK n xs) = true := b
    rw [Bool.and_eq_true] at b'
    exact ⟨v, r, e, h1.cut hF _ _ b'.1, RKs.cut hF xs r b'.2 h2⟩
theorem RO.cut {G : List Addr} (hF : ∀ l, l < n → G[l]? = F[l]?) : ∀ (o : Ob) (h : HO), belO n o = true → RO F H o h → RO G H o h
  | .lst xs, _, b, ⟨vs, e, r⟩ => ⟨vs, e, RDs.cut hF xs vs b r⟩
  | .dK xs, _, b, ⟨vs, e, r⟩ => ⟨vs, e, RKs.cut hF xs vs b r⟩
  | .dT xs, _, b, ⟨vs, e, r⟩ => ⟨vs, e, RKs.cut hF xs vs b r⟩
  | .ins C xs, _, b, ⟨dx, vs, e, r⟩ => ⟨dx, vs, e, RKs.cut hF xs vs b r⟩
  | .frz o u, _, b, ⟨g, e, r⟩ => ⟨g, e, RO.cut hF u g b r⟩
theorem take_get {α : Type} {l : List α} {n i : Nat} (h : i < n) : (l.take n)[i]? = l[i]? := by
  rw [List.getElem?_take]
  simp [h]
theorem RS.cut {S : Store} (rs : RS F H S) (b : belS n (S.take n)) : RS (F.take n) H (S.take n) := by
  refine ⟨by simp [rs.len], rs.nd.sublist (List.take_sublist _ _), fun l o e => ?_⟩
  have hl : l < n := by
    have := (List.getElem?_eq_some_iff.mp e).1
    simp at this; omega
  have e' := e
  rw [take_get hl] at e'
  obtain ⟨a, h, q1, q2, q3⟩ := rs.ob l o e'
  exact ⟨a, h, by rw [take_get hl]; exact q1, q2, RO.cut (n := n) (fun j hj => take_get hj) o h (b l o e) q3⟩
/-- below n all is closed: what came behind is dropped -/
theorem CovD.take {m : Nat} {d : D} {S : Store} (hm : n ≤ m) (b : belS m (S.take m)) (bd : bel m d = true) : CovD n d S d (S.take m) := fun F H u r rs =>
  ⟨F.take m, by
    have : F.take n = (F.take m).take n := by rw [List.take_take, Nat.min_eq_left hm]
    rw [this]; exact List.take_prefix _ _, RD.cut (n := m) (fun j hj => take_get hj) d u bd r, rs.cut b⟩
theorem CovS.take {m : Nat} {S : Store} (hm : n ≤ m) (b : belS m (S.take m)) : CovS n S (S.take m) := fun F H rs =>
  ⟨F.take m, by
    have : F.take n = (F.take m).take n := by rw [List.take_take, Nat.min_eq_left hm]
    rw [this]; exact List.take_prefix _ _, rs.cut b⟩
/-- the frame with fewer names known -/
def lessV (v2 v : Fv) : Prop := v2.length = v.length ∧ ∀ (i : Nat) (d : D), v2[i]? = some (some d) → v[i]? = some (some d)
def belV (n : Nat) (v : Fv) : Prop := ∀ (i : Nat) (d : D), v[i]? = some (some d) → bel n d = true
theorem CovE.take {m : Nat} {v v2 : Fv} {S : Store} (hm : n ≤ m) (b : belS m (S.take m)) (le : lessV v2 v) (bv : belV m v2) : CovE n v S v2 (S.take m) := fun F H t re rs =>
  ⟨F.take m, by
    have : F.take n = (F.take m).take n := by rw [List.take_take, Nat.min_eq_left hm]
    rw [this]; exact List.take_prefix _ _, ⟨by rw [le.1]; exact re.len, fun i d h => by
      obtain ⟨u, q1, q2⟩ := re.at_ i d (le.2 i d h)
      exact ⟨u, q1, RD.cut (n := m) (fun j hj => take_get hj) d u (bv i d h) q2⟩⟩, rs.cut b⟩
theorem CovD.drop {S G : Store} {d : D} (b : belS S.length S) (bd : bel S.length d = true) : CovD S.length d (S ++ G) d S := by
  have := CovD.take (n := S.length) (m := S.length) (d := d) (S := S ++ G) (Nat.le_refl _) (by simpa using b) bd
  simpa using this
theorem CovS.drop {S G : Store} (hn : n ≤ S.length) (b : belS S.length S) : CovS n (S ++ G) S := by
  have := CovS.take (n := n) (m := S.length) (S := S ++ G) hn (by simpa using b)
  simpa using this
theorem CovE.drop {S G : Store} {v v2 : Fv} (hn : n ≤ S.length) (b : belS S.length S) (le : lessV v2 v) (bv : belV S.length v2) : CovE n v (S ++ G) v2 S := by
  have := CovE.take (n := n) (m := S.length) (v := v) (v2 := v2) (S := S ++ G) hn (by simpa using b) le bv
  simpa using this
/-- a new object alone is kept -/
theorem CovD.one {S G : Store} {k : Nat} {o : Ob} (b : belS S.length S) (hk : S.length ≤ k) (ho : (S ++ G)[k]? = some o) (bo : belO S.length o = true) : CovD S.length (.loc k) (S ++ G) (.loc S.length) (S ++ [o]) := fun F H u r rs => by
  obtain ⟨a, rfl, ha⟩ := r
  obtain ⟨a', h, q1, q2, q3⟩ := rs.ob k o ho
  rw [q1] at ha; cases ha
  have hc := rs.cut (n := S.length) (by simpa using b)
  simp only [List.take_left'] at hc
  have hlen : (F.take S.length).length = S.length := by
    rw [List.length_take, rs.len]; simp
  have hnot : a ∉ F.take S.length := fun hm => by
    obtain ⟨j, hj, e⟩ := List.mem_iff_getElem.mp hm
    have hj' : j < S.length := by rw [hlen] at hj; exact hj
    have e1 : F[j]? = some a := by
      rw [← take_get hj', List.getElem?_eq_getElem hj, e]
    have h1 := List.getElem?_eq_some_iff.mp q1
    have h2 := List.getElem?_eq_some_iff.mp e1
    have := (List.getElem_inj rs.nd).mp (h1.2.trans h2.2.symm)
    omega
  have pp : F.take S.length <+: F.take S.length ++ [a] := ⟨[a], rfl⟩
  have get1 : ∀ l, l < S.length → (F.take S.length ++ [a])[l]? = F[l]? := fun l hl => by
    rw [List.getElem?_append_left (by rw [hlen]; exact hl), take_get hl]
  refine ⟨F.take S.length ++ [a], pp, ⟨a, rfl, by rw [List.getElem?_append_right (by rw [hlen]; exact Nat.le_refl _), hlen]; simp⟩, ?_, ?_, fun l ob e => ?_⟩
  · simp [hlen]
  · rw [List.nodup_append]
    refine ⟨rs.nd.sublist (List.take_sublist _ _), by simp, fun x hx y hy e => ?_⟩
    have : y = a := by simpa using hy
    subst this; subst e
    exact hnot hx
  · by_cases hl : l < S.length
    · have e' : (S ++ G)[l]? = some ob := by
        rw [List.getElem?_append_left hl] at e
        rw [List.getElem?_append_left hl]; exact e
      obtain ⟨b', g, g1, g2, g3⟩ := rs.ob l ob e'
      rw [List.getElem?_append_left hl] at e
      exact ⟨b', g, (get1 l hl).trans g1, g2, RO.cut (n := S.length) get1 ob g (b l ob e) g3⟩
    · have hl' : l = S.length := by
        have := (List.getElem?_eq_some_iff.mp e).1
        simp at this; omega
      subst hl'
      have e2 : o = ob := by simpa using e
      subst e2
      exact ⟨a, h, by rw [List.getElem?_append_right (by rw [hlen]; exact Nat.le_refl _), hlen]; simp, q2, RO.cut (n := S.length) get1 o h bo q3⟩
theorem CovE.less {v v2 : Fv} {S : Store} (le : lessV v2 v) : CovE n v S v2 S := fun F H t re rs => ⟨F, List.take_prefix _ _, ⟨by rw [le.1]; exact re.len, fun i d h => re.at_ i d (le.2 i d h)⟩, rs⟩
end
end DM

namespace DM
open PySem PySem.Spec PyProof.Rows L2
theorem belAll_append {n : Nat} : ∀ {xs ys : List D}, bel.belAll n xs = true → bel.belAll n ys = true → bel.belAll n (xs ++ ys) = true
  | [], _, _, h => h
  | x :: xs, ys, h, g => by
    have h' : (bel n x && bel.belAll n xs) = true := h
    rw [Bool.and_eq_true] at h'
    show (bel n x && bel.belAll n (xs ++ ys)) = true
    rw [h'.1, belAll_append h'.2 g]; rfl
mutual
theorem bel_mono {n m : Nat} (hm : n ≤ m) : ∀ (d : D), bel n d = true → bel m d = true
  | .non, h => h
  | .bl _, h => h
  | .int _, h => h
  | .str _, h => h
  | .ty _, h => h
  | .ref _, h => h
  | .tup xs, h => belAll_mono hm xs h
  | .loc l, h => decide_eq_true (Nat.lt_of_lt_of_le (of_decide_eq_true h) hm)
  | .scr _, h => h
theorem belAll_mono {n m : Nat} (hm : n ≤ m) : ∀ (xs : List D), bel.belAll n xs = true → bel.belAll m xs = true
  | [], h => h
  | x :: xs, h => by
    have h' : (bel n x && bel.belAll n xs) = true := h
    rw [Bool.and_eq_true] at h'
    show (bel m x && bel.belAll m xs) = true
    rw [bel_mono hm x h'.1, belAll_mono hm xs h'.2]; rfl
end
theorem belK_mono {κ : Type} {n m : Nat} (hm : n ≤ m) : ∀ (xs : List (κ × D)), belK n xs = true → belK m xs = true
  | [], h => h
  | x :: xs, h => by
    have h' : (bel n x.2 && belK n xs) = true := h
    rw [Bool.and_eq_true] at h'
    show (bel m x.2 && belK m xs) = true
    rw [bel_mono hm x.2 h'.1, belK_mono hm xs h'.2]; rfl
theorem belO_mono {n m : Nat} (hm : n ≤ m) : ∀ (o : Ob), belO n o = true → belO m o = true
  | .lst xs, h => belAll_mono hm xs h
  | .dK xs, h => belK_mono hm xs h
  | .dT xs, h => belK_mono hm xs h
  | .ins _ xs, h => belK_mono hm xs h
  | .frz _ u, h => belO_mono hm u h
theorem belS_mono {n m : Nat} {S : Store} (hm : n ≤ m) (h : belS n S) : belS m S := fun l o e => belO_mono hm o (h l o e)
theorem belS_snoc {n : Nat} {S : Store} {o : Ob} (h : belS n S) (ho : belO n o = true) : belS n (S ++ [o]) := fun l u e => by
  by_cases hl : l < S.length
  · rw [List.getElem?_append_left hl] at e
    exact h l u e
  · rw [List.getElem?_append_right (by omega)] at e
    have := (List.getElem?_eq_some_iff.mp e).1
    have hz : l - S.length = 0 := by simp at this; omega
    rw [hz] at e
    have : o = u := by simpa using e
    subst this
    exact ho
theorem belS_append {n : Nat} {S G : Store} (h : belS n S) (g : belS n G) : belS n (S ++ G) := fun l u e => by
  by_cases hl : l < S.length
  · rw [List.getElem?_append_left hl] at e
    exact h l u e
  · rw [List.getElem?_append_right (by omega)] at e
    exact g _ u e
theorem belS_set {n l : Nat} {S : Store} {o : Ob} (h : belS n S) (ho : belO n o = true) : belS n (S.set l o) := fun j u e => by
  by_cases hj : l = j
  · subst hj
    have hl := (List.getElem?_eq_some_iff.mp e).1
    rw [List.getElem?_set_self (by simpa using hl)] at e
    cases e
    exact ho
  · rw [List.getElem?_set_ne hj] at e
    exact h j u e
theorem belS_nil {n : Nat} : belS n [] := fun l o e => by simp at e
theorem belS_cons {n : Nat} {S : Store} {o : Ob} (ho : belO n o = true) (h : belS n S) : belS n (o :: S) := fun l u e => by
  cases l with
  | zero => have : o = u := by simpa using e
            subst this; exact ho
  | succ l => exact h l u (by simpa using e)
/-- a comprehension whose elements are reckoned from the items alone, the store as it was -/
theorem lc_pure {X : Cx} {scope : Scope} {ifs : List Expr} {elt : Expr} {up : D → Fv → Option Fv} {vs : List Nat} {v : Fv} {n : Nat} {c : Src} {S1 : Store} {Q : D → Store → Prop} (f : D → Option D) (hb : belS S1.length S1) (hz : c.items.length ≤ 100000)
    (hok : ∀ acc, c.ok (S1 ++ [.lst acc])) (turn : ∀ (i : Nat) (d : D) (acc : List D), c.items[i]? = some d → ∃ v3, up d (wipeD v vs) = some v3 ∧ ∀ Y, BlkOf X scope Y → WTs Y ifs v3 (S1 ++ [.lst acc]) fun b S3 => (∃ G, S3 = S1 ++ [.lst acc] ++ G) ∧
      (b = true → ∀ Z, BlkOf X scope Z → WE Z elt v3 S3 fun y S4 => (∃ G, S4 = S1 ++ [.lst acc] ++ G) ∧ bel S1.length y = true ∧ f d = some y) ∧ (b = false → f d = none))
    (h : Q (.loc S1.length) (S1 ++ [.lst (c.items.filterMap f)])) : LcTurns X scope ifs elt up vs v n c S1 Q := by
  have ft : ∀ (i : Nat) (d : D), c.items[i]? = some d → (c.items.take (i + 1)).filterMap f = (c.items.take i).filterMap f ++ (f d).toList := fun i d hd => by
    have : c.items.take (i + 1) = c.items.take i ++ [d] := by rw [List.take_add_one, hd]; rfl
    rw [this, List.filterMap_append]
    cases e : f d <;> simp [List.filterMap, e]
  refine ⟨fun i acc S2 => S2 = S1 ∧ acc = (c.items.take i).filterMap f ∧ bel.belAll S1.length acc = true, ⟨rfl, by simp, rfl⟩, ?_, ?_, ?_⟩
  · rintro i acc S2 hi ⟨rfl, _⟩
    exact ⟨rfl, hok acc⟩
  · rintro i d acc S2 hd ⟨rfl, ha, hba⟩
    obtain ⟨v3, h1, h2⟩ := turn i d acc hd
    have cl : belS (S2.length + 1) (S2 ++ [.lst acc]) := belS_snoc (belS_mono (Nat.le_succ _) hb) (belAll_mono (Nat.le_succ _) acc hba)
    have hlen : acc.length ≤ i := by
      rw [ha]
      exact Nat.le_trans (List.length_filterMap_le _ _) (by simp; omega)
    have hi : i < c.items.length := (List.getElem?_eq_some_iff.mp hd).1
    refine ⟨v3, h1, fun Y hY => ?_⟩
    have w := h2 Y hY
    have imp : ∀ b S3, ((∃ G, S3 = S2 ++ [.lst acc] ++ G) ∧ (b = true → ∀ Z, BlkOf X scope Z → WE Z elt v3 S3 fun y S4 => (∃ G, S4 = S2 ++ [.lst acc] ++ G) ∧ bel S2.length y = true ∧ f d = some y) ∧ (b = false → f d = none)) →
        (b = true → ∀ Z, BlkOf X scope Z → WE Z elt v3 S3 fun y S4 => WkD (S2.length + 1) y S4 fun y2 S5 => acc.length < sizeLine ∧ ∃ S6, S5 = S6 ++ [.lst acc] ∧ (S6 = S2 ∧ acc ++ [y2] = (c.items.take (i + 1)).filterMap f ∧ bel.belAll S2.length (acc ++ [y2]) = true)) ∧
        (b = false → ∃ S5, CovS (S2.length + 1) S3 S5 ∧ ∃ S6, S5 = S6 ++ [.lst acc] ∧ (S6 = S2 ∧ acc = (c.items.take (i + 1)).filterMap f ∧ bel.belAll S2.length acc = true)) := by
      rintro b S3 ⟨⟨G0, rfl⟩, ht, hf⟩
      refine ⟨fun hb1 Z hZ => ?_, fun hb0 => ?_⟩
      · refine (ht hb1 Z hZ).mono fun y S4 ⟨⟨G, e⟩, by', fy⟩ => ?_
        subst e
        have hl : (S2 ++ [Ob.lst acc]).length = S2.length + 1 := by simp
        refine ⟨y, S2 ++ [.lst acc], ?_, Nat.lt_of_lt_of_le (show acc.length < 100001 by omega) (by decide), S2, rfl, rfl, ?_, belAll_append hba (by show (bel S2.length y && true) = true; rw [by']; rfl)⟩
        · have := CovD.drop (S := S2 ++ [.lst acc]) (G := G) (d := y) (by rw [hl]; exact cl) (by rw [hl]; exact bel_mono (Nat.le_succ _) y by')
          rw [hl] at this
          exact this
        · rw [ft i d hd, fy, ha]; rfl
      · have hl : (S2 ++ [Ob.lst acc]).length = S2.length + 1 := by simp
        refine ⟨S2 ++ [.lst acc], CovS.drop (by rw [hl]; exact Nat.le_refl _) (by rw [hl]; exact cl), S2, rfl, rfl, ?_, hba⟩
        rw [ft i d hd, hf hb0, ha]; simp
    match ifs, w with
    | [], w => exact imp true _ w
    | [c'], w => exact fun F t H Q' re rs k => w F t H Q' re rs fun F' b H' S' p kk rs' q => k F' b H' S' p kk rs' (imp b S' q)
  · rintro acc S2 ⟨rfl, ha, _⟩
    rw [ha, List.take_length]
    exact h
end DM

namespace DM
open PySem PySem.Spec PyProof.Rows L2
/-! ### built-ins that no name of the module hides -/
structure Bt (mg : Str → Option Value) : Prop where
  len : mg "len" = none
  range : mg "range" = none
  isinstance : mg "isinstance" = none
  sorted : mg "sorted" = none
  max : mg "max" = none
  min : mg "min" = none
  list : mg "list" = none
  tuple : mg "tuple" = none
  dict : mg "dict" = none
  int : mg "int" = none
  str : mg "str" = none
  bool : mg "bool" = none
  enumerate : mg "enumerate" = none
  reversed : mg "reversed" = none
  sum : mg "sum" = none
  set : mg "set" = none
/-- a datum whose own type is plain -/
def kn : D → Bool
  | .non | .bl _ | .int _ | .str _ | .tup _ => true
  | _ => false
def tyN : D → String
  | .non => "NoneType" | .bl _ => "bool" | .int _ => "int" | .str _ => "str" | .tup _ => "tuple" | _ => ""
theorem kn_ty {x : D} (h : kn x = true) (S : Store) : tyName x S = some (tyN x) := by
  cases x <;> first | rfl | cases h
/-- whether a datum is a number within bounds -/
def numOk (x : D) (lo hi : Int) : Bool := match x with
  | .int i => decide (lo ≤ i) && decide (i ≤ hi)
  | _ => false
def marksOk (x : D) (least : Int) : Bool := match x with
  | .tup xs => decide (xs.length = 3) && xs.all fun y => numOk y least 9
  | _ => false
/-- data of numbers, None and tuples of such, so deep at the most -/
def pu : Nat → D → Bool
  | 0, .tup _ => false
  | n + 1, .tup xs => decide (xs.length ≤ 100000) && xs.all (pu n)
  | _, .non => true
  | _, .int _ => true
  | _, _ => false
theorem pu_kn {n : Nat} {x : D} (h : pu n x = true) : kn x = true := by
  cases n <;> cases x <;> first | rfl | (simp [pu] at h)
theorem pu_tup {n : Nat} {xs : List D} (h : pu n (.tup xs) = true) : ∃ m, n = m + 1 ∧ xs.length ≤ 100000 ∧ ∀ x ∈ xs, pu m x = true := by
  cases n with
  | zero => simp [pu] at h
  | succ m =>
    have h' : (decide (xs.length ≤ 100000) && xs.all (pu m)) = true := h
    rw [Bool.and_eq_true, decide_eq_true_eq, List.all_eq_true] at h'
    exact ⟨m, rfl, h'⟩
theorem pu_mono : ∀ {n m : Nat} {x : D}, n ≤ m → pu n x = true → pu m x = true
  | 0, 0, _, _, h => h
  | 0, m + 1, x, _, h => by cases x <;> first | rfl | (simp [pu] at h; done)
  | n + 1, 0, _, hm, _ => absurd hm (Nat.not_succ_le_zero n)
  | n + 1, m + 1, x, hm, h => by
    cases x with
    | tup xs =>
      obtain ⟨k, e, h1, h2⟩ := pu_tup h
      cases e
      show (decide (xs.length ≤ 100000) && xs.all (pu m)) = true
      rw [decide_eq_true h1, List.all_eq_true.mpr fun x hx => pu_mono (Nat.le_of_succ_le_succ hm) (h2 x hx)]; rfl
    | non => rfl
    | int _ => rfl
    | _ => simp [pu] at h
mutual
def toP : D → PyData
  | .non => .none
  | .bl b => .bool b
  | .int i => .int i
  | .str x => .str x
  | .tup xs => .tuple (toPs xs)
  | _ => .none
def toPs : List D → List PyData
  | [] => []
  | x :: xs => toP x :: toPs xs
end
theorem pu_pd (S : Store) : ∀ (n : Nat) (x : D), pu n x = true → PD S x (toP x) ∧ (toP x).canLay0 = true ∧ (toP x).depth ≤ n
  | n, .non, _ => ⟨.non, rfl, Nat.zero_le _⟩
  | n, .int i, _ => ⟨.int i, rfl, Nat.zero_le _⟩
  | n, .tup xs, h => by
    obtain ⟨m, e, h1, h2⟩ := pu_tup h
    subst e
    have all : ∀ ys : List D, (∀ x ∈ ys, pu m x = true) → PDs S ys (toPs ys) ∧ PyData.canLayAll0 (toPs ys) = true ∧ PyData.depthAll (toPs ys) ≤ m := by
      intro ys
      induction ys with
      | nil => intro _; exact ⟨.nil, rfl, Nat.zero_le _⟩
      | cons y ys ih =>
        intro hy
        obtain ⟨a1, a2, a3⟩ := pu_pd S m y (hy y List.mem_cons_self)
        obtain ⟨b1, b2, b3⟩ := ih fun x hx => hy x (List.mem_cons_of_mem _ hx)
        refine ⟨.cons a1 b1, ?_, ?_⟩
        · show ((toP y).canLay0 && PyData.canLayAll0 (toPs ys)) = true
          rw [a2, b2]; rfl
        · show max (toP y).depth (PyData.depthAll (toPs ys)) ≤ m
          omega
    obtain ⟨a, b, c⟩ := all xs h2
    exact ⟨.tup a, b, Nat.succ_le_succ c⟩
  | 0, .bl _, h => by simp [pu] at h
  | n + 1, .bl _, h => by simp [pu] at h
  | 0, .str _, h => by simp [pu] at h
  | n + 1, .str _, h => by simp [pu] at h
  | 0, .ty _, h => by simp [pu] at h
  | n + 1, .ty _, h => by simp [pu] at h
  | 0, .ref _, h => by simp [pu] at h
  | n + 1, .ref _, h => by simp [pu] at h
  | 0, .loc _, h => by simp [pu] at h
  | n + 1, .loc _, h => by simp [pu] at h
  | 0, .scr _, h => by simp [pu] at h
  | n + 1, .scr _, h => by simp [pu] at h
theorem pus_pd (S : Store) {n : Nat} : ∀ (ys : List D), (∀ x ∈ ys, pu n x = true) → PDs S ys (toPs ys) ∧ PyData.canLayAll0 (toPs ys) = true ∧ PyData.depthAll (toPs ys) ≤ n
  | [], _ => ⟨.nil, rfl, Nat.zero_le _⟩
  | y :: ys, hy => by
    obtain ⟨a1, a2, a3⟩ := pu_pd S n y (hy y List.mem_cons_self)
    obtain ⟨b1, b2, b3⟩ := pus_pd S ys fun x hx => hy x (List.mem_cons_of_mem _ hx)
    refine ⟨.cons a1 b1, ?_, ?_⟩
    · show ((toP y).canLay0 && PyData.canLayAll0 (toPs ys)) = true
      rw [a2, b2]; rfl
    · show max (toP y).depth (PyData.depthAll (toPs ys)) ≤ n
      omega
/-- == on such data is being the same -/
theorem pu_eqv : ∀ (n : Nat) (x y : D), pu n x = true → pu n y = true → PyData.eqv (toP x) (toP y) = decide (x = y)
  | n, .non, y, _, h => by cases n <;> cases y <;> first | (simp [pu] at h; done) | simp [toP, PyData.eqv]
  | n, .int i, y, _, h => by cases n <;> cases y <;> first | (simp [pu] at h; done) | simp [toP, PyData.eqv] <;> rfl
  | 0, .tup xs, y, h, _ => by simp [pu] at h
  | n + 1, .tup xs, y, h, g => by
    cases y with
    | tup ys =>
      obtain ⟨m, e, _, h2⟩ := pu_tup h
      cases e
      obtain ⟨m', e', _, g2⟩ := pu_tup g
      cases e'
      have all : ∀ (xs ys : List D), (∀ x ∈ xs, pu n x = true) → (∀ x ∈ ys, pu n x = true) → PyData.eqvAll (toPs xs) (toPs ys) = decide (xs = ys) := by
        intro xs
        induction xs with
        | nil => intro ys _ _; cases ys <;> simp [toPs, PyData.eqvAll]
        | cons x xs ih =>
          intro ys hx hy
          cases ys with
          | nil => simp [toPs, PyData.eqvAll]
          | cons y ys =>
            have e1 := pu_eqv n x y (hx x List.mem_cons_self) (hy y List.mem_cons_self)
            have e2 := ih ys (fun z hz => hx z (List.mem_cons_of_mem _ hz)) (fun z hz => hy z (List.mem_cons_of_mem _ hz))
            show (PyData.eqv (toP x) (toP y) && PyData.eqvAll (toPs xs) (toPs ys)) = _
            rw [e1, e2]
            by_cases h1 : x = y <;> by_cases h2 : xs = ys <;> simp [h1, h2]
      show PyData.eqvAll (toPs xs) (toPs ys) = _
      rw [all xs ys h2 g2]
      simp
    | non => simp [toP, PyData.eqv]
    | int _ => simp [toP, PyData.eqv]
    | _ => simp [pu] at g
  | 0, .bl _, _, h, _ => by simp [pu] at h
  | n + 1, .bl _, _, h, _ => by simp [pu] at h
  | 0, .str _, _, h, _ => by simp [pu] at h
  | n + 1, .str _, _, h, _ => by simp [pu] at h
  | 0, .ty _, _, h, _ => by simp [pu] at h
  | n + 1, .ty _, _, h, _ => by simp [pu] at h
  | 0, .ref _, _, h, _ => by simp [pu] at h
  | n + 1, .ref _, _, h, _ => by simp [pu] at h
  | 0, .loc _, _, h, _ => by simp [pu] at h
  | n + 1, .loc _, _, h, _ => by simp [pu] at h
  | 0, .scr _, _, h, _ => by simp [pu] at h
  | n + 1, .scr _, _, h, _ => by simp [pu] at h
theorem pus_eqv {n : Nat} : ∀ (xs ys : List D), (∀ x ∈ xs, pu n x = true) → (∀ x ∈ ys, pu n x = true) → PyData.eqvAll (toPs xs) (toPs ys) = decide (xs = ys)
  | [], ys, _, _ => by cases ys <;> simp [toPs, PyData.eqvAll]
  | x :: xs, [], _, _ => by simp [toPs, PyData.eqvAll]
  | x :: xs, y :: ys, hx, hy => by
    have e1 := pu_eqv n x y (hx x List.mem_cons_self) (hy y List.mem_cons_self)
    have e2 := pus_eqv xs ys (fun z hz => hx z (List.mem_cons_of_mem _ hz)) (fun z hz => hy z (List.mem_cons_of_mem _ hz))
    show (PyData.eqv (toP x) (toP y) && PyData.eqvAll (toPs xs) (toPs ys)) = _
    rw [e1, e2]
    by_cases h1 : x = y <;> by_cases h2 : xs = ys <;> simp [h1, h2]
theorem shaped_of {p : PyData} (h1 : p.canLay0 = true) (h2 : p.depth ≤ 64) : SeqAt.shaped p = true := by
  unfold SeqAt.shaped
  rw [h1, decide_eq_true h2]; rfl
section
variable {X : Cx} {S : Store} {Q : D → Store → Prop}
theorem BW.eqP {x y : D} (hx : pu 60 x = true) (hy : pu 60 y = true) (hu : X.A.units + 64 < cLine) (h : Q (.bl (decide (x = y))) S) : BW X (compareOp .Eq) x y S Q := by
  obtain ⟨a1, a2, a3⟩ := pu_pd S 60 x hx
  obtain ⟨b1, b2, b3⟩ := pu_pd S 60 y hy
  refine BW.eqD a1 b1 (shaped_of a2 (by omega)) (shaped_of b2 (by omega)) hu ?_
  rw [pu_eqv 60 x y hx hy]; exact h
theorem BW.neP {x y : D} (hx : pu 60 x = true) (hy : pu 60 y = true) (hu : X.A.units + 64 < cLine) (h : Q (.bl (!decide (x = y))) S) : BW X (compareOp .NotEq) x y S Q := by
  obtain ⟨a1, a2, a3⟩ := pu_pd S 60 x hx
  obtain ⟨b1, b2, b3⟩ := pu_pd S 60 y hy
  refine BW.neD a1 b1 (shaped_of a2 (by omega)) (shaped_of b2 (by omega)) hu ?_
  rw [pu_eqv 60 x y hx hy]; exact h
theorem BW.eqL {l m : Nat} {xs ys : List D} (hl : S[l]? = some (.lst xs)) (hm : S[m]? = some (.lst ys)) (hx : ∀ x ∈ xs, pu 60 x = true) (hy : ∀ x ∈ ys, pu 60 x = true) (hu : X.A.units + 64 < cLine) (h : Q (.bl (decide (xs = ys))) S) : BW X (compareOp .Eq) (.loc l) (.loc m) S Q := by
  obtain ⟨a1, a2, a3⟩ := pus_pd S xs hx
  obtain ⟨b1, b2, b3⟩ := pus_pd S ys hy
  refine BW.eqD (.lst hl a1) (.lst hm b1) (shaped_of a2 (by show _ + 1 ≤ 64; omega)) (shaped_of b2 (by show _ + 1 ≤ 64; omega)) hu ?_
  show Q (.bl (PyData.eqvAll (toPs xs) (toPs ys))) S
  rw [pus_eqv xs ys hx hy]; exact h
theorem BW.neL {l m : Nat} {xs ys : List D} (hl : S[l]? = some (.lst xs)) (hm : S[m]? = some (.lst ys)) (hx : ∀ x ∈ xs, pu 60 x = true) (hy : ∀ x ∈ ys, pu 60 x = true) (hu : X.A.units + 64 < cLine) (h : Q (.bl (!decide (xs = ys))) S) : BW X (compareOp .NotEq) (.loc l) (.loc m) S Q := by
  obtain ⟨a1, a2, a3⟩ := pus_pd S xs hx
  obtain ⟨b1, b2, b3⟩ := pus_pd S ys hy
  refine BW.neD (.lst hl a1) (.lst hm b1) (shaped_of a2 (by show _ + 1 ≤ 64; omega)) (shaped_of b2 (by show _ + 1 ≤ 64; omega)) hu ?_
  show Q (.bl (!PyData.eqvAll (toPs xs) (toPs ys))) S
  rw [pus_eqv xs ys hx hy]; exact h
end
/-- what a call leaves of the room for == -/
theorem hu_of64 {X : Cx} {k : Nat} (hr : Room k X.A) : X.A.units + 64 < cLine := hr.units
theorem at_mid {S G : Store} {o : Ob} : (S ++ o :: G)[S.length]? = some o := by simp
theorem at_two {S G : Store} {o u : Ob} : (S ++ o :: u :: G)[S.length + 1]? = some u := by
  rw [List.getElem?_append_right (by omega)]; simp
theorem bel_get {n : Nat} : ∀ {xs : List D} {i : Nat} {d : D}, bel.belAll n xs = true → xs[i]? = some d → bel n d = true
  | [], _, _, _, h => by simp at h
  | x :: xs, 0, d, b, h => by
    have b' : (bel n x && bel.belAll n xs) = true := b
    rw [Bool.and_eq_true] at b'
    have : x = d := by simpa using h
    subst this; exact b'.1
  | x :: xs, i + 1, d, b, h => by
    have b' : (bel n x && bel.belAll n xs) = true := b
    rw [Bool.and_eq_true] at b'
    exact bel_get b'.2 (by simpa using h)
theorem iT {A B : Prop} (h : A) : (true = true → A) ∧ (true = false → B) := ⟨fun _ => h, fun z => (by cases z)⟩
theorem iF {A B : Prop} (h : B) : (false = true → A) ∧ (false = false → B) := ⟨fun z => (by cases z), fun _ => h⟩
theorem pg_blk {X : Cx} {scope : Scope} {i : Nat} {x : Str} {px : Pos} (hN : X.N.Nodup) (hi : X.N[i]? = some x) (h : ∀ Y, BlkOf X scope Y → Loc Y.env.scope x ∧ (Y.fn x = true ∨ Y.env.scope.names.lookup x = some .local)) : ∀ Y, BlkOf X scope Y → PG Y (.Name x px) (gName i) := fun Y hY => by
  have := h Y hY
  obtain ⟨_, _, _, _, _, rfl⟩ := hY
  exact pg_name hN hi this.1 this.2
theorem sz {n : Nat} (h : n ≤ 100000) : n ≤ sizeLine := Nat.le_trans h (by decide)
theorem szl {n : Nat} (h : n < 100000) : n < sizeLine := Nat.lt_of_lt_of_le h (by decide)
theorem kit_non_int : kitB "NoneType" "int" = some false := by decide +kernel
theorem kit_non_bool : kitB "NoneType" "bool" = some false := by decide +kernel
theorem kit_non_str : kitB "NoneType" "str" = some false := by decide +kernel
theorem kit_non_tuple : kitB "NoneType" "tuple" = some false := by decide +kernel
theorem kit_non_list : kitB "NoneType" "list" = some false := by decide +kernel
theorem kit_bl_int : kitB "bool" "int" = some true := by decide +kernel
theorem kit_bl_bool : kitB "bool" "bool" = some true := by decide +kernel
theorem kit_bl_str : kitB "bool" "str" = some false := by decide +kernel
theorem kit_bl_tuple : kitB "bool" "tuple" = some false := by decide +kernel
theorem kit_bl_list : kitB "bool" "list" = some false := by decide +kernel
theorem kit_int_int : kitB "int" "int" = some true := by decide +kernel
theorem kit_int_bool : kitB "int" "bool" = some false := by decide +kernel
theorem kit_int_str : kitB "int" "str" = some false := by decide +kernel
theorem kit_int_tuple : kitB "int" "tuple" = some false := by decide +kernel
theorem kit_int_list : kitB "int" "list" = some false := by decide +kernel
theorem kit_str_int : kitB "str" "int" = some false := by decide +kernel
theorem kit_str_bool : kitB "str" "bool" = some false := by decide +kernel
theorem kit_str_str : kitB "str" "str" = some true := by decide +kernel
theorem kit_str_tuple : kitB "str" "tuple" = some false := by decide +kernel
theorem kit_str_list : kitB "str" "list" = some false := by decide +kernel
theorem kit_tup_int : kitB "tuple" "int" = some false := by decide +kernel
theorem kit_tup_bool : kitB "tuple" "bool" = some false := by decide +kernel
theorem kit_tup_str : kitB "tuple" "str" = some false := by decide +kernel
theorem kit_tup_tuple : kitB "tuple" "tuple" = some true := by decide +kernel
theorem kit_tup_list : kitB "tuple" "list" = some false := by decide +kernel
theorem kit_lst_int : kitB "list" "int" = some false := by decide +kernel
theorem kit_lst_bool : kitB "list" "bool" = some false := by decide +kernel
theorem kit_lst_str : kitB "list" "str" = some false := by decide +kernel
theorem kit_lst_tuple : kitB "list" "tuple" = some false := by decide +kernel
theorem kit_lst_list : kitB "list" "list" = some true := by decide +kernel
/-- forgetting the frame's slots -/
theorem lessV.refl (v : Fv) : lessV v v := ⟨rfl, fun _ _ h => h⟩
theorem lessV.drop (i : Nat) {v v2 : Fv} (h : lessV v2 v) : lessV (v2.set i none) v := ⟨by simp [h.1], fun j d e => by
  by_cases hj : i = j
  · subst hj
    by_cases hi : i < v2.length
    · rw [List.getElem?_set_self hi] at e; cases e
    · rw [List.getElem?_eq_none (by simpa using hi)] at e; cases e
  · rw [List.getElem?_set_ne hj] at e
    exact h.2 j d e⟩
end DM

namespace DM
open PySem PySem.Spec PyProof.Rows L2
/-! ### marks, claims, as data and as such -/
def eM (m : List Int) : D := .tup (m.map .int)
def eC (c : List Int × Int) : D := .tup [eM c.1, .int c.2]
def eCs (cs : List (List Int × Int)) : D := .tup (cs.map eC)
def OkM (lo : Int) (m : List Int) : Prop := m.length = 3 ∧ ∀ x ∈ m, lo ≤ x ∧ x ≤ 9
def OkC (c : List Int × Int) : Prop := OkM (-1) c.1 ∧ 0 ≤ c.2 ∧ c.2 ≤ 9
def OkCs (cs : List (List Int × Int)) : Prop := cs.length ≤ 6 ∧ ∀ c ∈ cs, OkC c
def claimOk (x : D) : Bool := match x with
  | .tup [a, b] => marksOk a (-1) && numOk b 0 9
  | _ => false
theorem marksOk_e {lo : Int} {m : List Int} (h : OkM lo m) : marksOk (eM m) lo = true := by
  show (decide ((m.map D.int).length = 3) && (m.map D.int).all fun y => numOk y lo 9) = true
  rw [List.length_map, decide_eq_true h.1, Bool.true_and, List.all_eq_true]
  intro y hy
  obtain ⟨x, hx, rfl⟩ := List.mem_map.mp hy
  show (decide (lo ≤ x) && decide (x ≤ 9)) = true
  rw [decide_eq_true (h.2 x hx).1, decide_eq_true (h.2 x hx).2]; rfl
theorem numOk_e {x lo hi : Int} (h : lo ≤ x ∧ x ≤ hi) : numOk (.int x) lo hi = true := by
  show (decide (lo ≤ x) && decide (x ≤ hi)) = true
  rw [decide_eq_true h.1, decide_eq_true h.2]; rfl
theorem claimOk_e {c : List Int × Int} (h : OkC c) : claimOk (eC c) = true := by
  show (marksOk (eM c.1) (-1) && numOk (.int c.2) 0 9) = true
  rw [marksOk_e h.1, numOk_e h.2]; rfl
theorem pu_eM {n : Nat} {m : List Int} (h : m.length ≤ 100000) : pu (n + 1) (eM m) = true := by
  show (decide ((m.map D.int).length ≤ 100000) && (m.map D.int).all (pu n)) = true
  rw [List.length_map, decide_eq_true h, Bool.true_and, List.all_eq_true]
  intro y hy
  obtain ⟨x, hx, rfl⟩ := List.mem_map.mp hy
  cases n <;> rfl
theorem pu_int {n : Nat} {i : Int} : pu n (.int i) = true := by cases n <;> rfl
theorem pu_eC {n : Nat} {c : List Int × Int} (h : c.1.length ≤ 100000) : pu (n + 2) (eC c) = true := by
  show (decide (2 ≤ 100000) && (pu (n + 1) (eM c.1) && (pu (n + 1) (.int c.2) && true))) = true
  rw [pu_eM h, pu_int]; rfl
theorem pu_eCs {n : Nat} {cs : List (List Int × Int)} (h : OkCs cs) : pu (n + 3) (eCs cs) = true := by
  show (decide ((cs.map eC).length ≤ 100000) && (cs.map eC).all (pu (n + 2))) = true
  rw [List.length_map, decide_eq_true (by have := h.1; omega), Bool.true_and, List.all_eq_true]
  intro y hy
  obtain ⟨c, hc, rfl⟩ := List.mem_map.mp hy
  exact pu_eC (by have := (h.2 c hc).1.1; omega)
theorem belAll_map {α : Type} {n : Nat} {e : α → D} (h : ∀ a, bel n (e a) = true) : ∀ l : List α, bel.belAll n (l.map e) = true
  | [] => rfl
  | a :: l => by
    show (bel n (e a) && bel.belAll n (l.map e)) = true
    rw [h a, belAll_map h l]; rfl
theorem bel_eM {n : Nat} (m : List Int) : bel n (eM m) = true := belAll_map (fun _ => rfl) m
theorem bel_eC {n : Nat} (c : List Int × Int) : bel n (eC c) = true := by
  show (bel n (eM c.1) && (bel n (.int c.2) && true)) = true
  rw [bel_eM]; rfl
theorem bel_eCs {n : Nat} (c : List (List Int × Int)) : bel n (eCs c) = true := belAll_map bel_eC c
theorem belInts {n : Nat} (l : List Int) : bel.belAll n (l.map D.int) = true := belAll_map (fun _ => rfl) l
/-! ### how much claims fit: as the program reckons it -/
def toldL (w : List Int) (n : Nat) : List Nat := (List.range n).filter fun k => decide (0 ≤ w.getD k 0)
def fit1 (m : List Int) (c : List Int × Int) : Option Int :=
  if ((toldL c.1 m.length).filter fun k => !decide (c.1.getD k 0 = m.getD k 0)) = [] then some (10 * c.2 + (toldL c.1 m.length).length) else none
def fitOf (cs : List (List Int × Int)) (m : List Int) : Option Int := (cs.filterMap (fit1 m)).max?
theorem rngD0 (n : Nat) : rngD 0 n = (List.range n).map fun (k : Nat) => D.int (k : Int) := by
  unfold rngD
  exact List.map_congr_left fun k _ => by rw [Int.zero_add]
theorem max_is {l : List Int} {m : Int} (h : m ∈ l) (g : ∀ y ∈ l, y ≤ m) : l.max? = some m := (List.max?_eq_some_iff).mpr ⟨h, g⟩
theorem map_getD {l : List Int} {k : Nat} (h : k < l.length) : (l.map D.int)[k]? = some (.int (l.getD k 0)) := by
  rw [List.getElem?_map, List.getElem?_eq_getElem h]
  simp [List.getD, List.getElem?_eq_getElem h]
theorem at_ints {l : List Int} {k : Nat} (h : k < l.length) : atI (l.map D.int) (k : Int) = some (.int (l.getD k 0)) := atI_nat (map_getD h)
theorem list_fm {l : List Nat} {p : Nat → Bool} {f : D → Option D} (hf : ∀ k ∈ l, f (.int (k : Int)) = if p k then some (.int (k : Int)) else none) : (l.map fun (k : Nat) => D.int (k : Int)).filterMap f = (l.filter p).map fun (k : Nat) => D.int (k : Int) := by
  induction l with
  | nil => rfl
  | cons k l ih =>
    have e := hf k List.mem_cons_self
    have ih := ih fun j hj => hf j (List.mem_cons_of_mem _ hj)
    rw [List.map_cons, List.filterMap_cons, e]
    by_cases hp : p k = true
    · simp only [hp, if_true, List.filter_cons, List.map_cons]; rw [ih]
    · simp only [hp, List.filter_cons]; exact ih
theorem range_fm {n : Nat} {p : Nat → Bool} {f : D → Option D} (hf : ∀ k, k < n → f (.int (k : Int)) = if p k then some (.int (k : Int)) else none) : (rngD 0 n).filterMap f = ((List.range n).filter p).map fun (k : Nat) => D.int (k : Int) := by
  rw [rngD0]
  exact list_fm fun k hk => hf k (List.mem_range.mp hk)
def eO (o : Option Int) : D := D.ofO o
end DM

namespace DM
open PySem PySem.Spec PyProof.Rows L2
/-! ### what the laws draw -/
structure Dr where
  m : Int
  cells : List Int
  at_ : Nat
/-- the store of a law: the cells at 0, what is drawn from at 1, the rest -/
def dS (dr : Dr) (R : Store) : Store := .lst (dr.cells.map D.int) :: .lst [.int dr.m, .loc 0, .int dr.at_] :: R
def Dr.pl (dr : Dr) : Nat := dr.at_ % (if 1 < dr.cells.length then dr.cells.length else 1)
def Dr.cell (dr : Dr) : Int := if dr.cells = [] then 0 else dr.cells.getD dr.pl 0
def nx (dr : Dr) (k : Int) : Int × Dr :=
  if 1000000000000000000 ≤ dr.cell then (dr.cell % k, ⟨dr.m, dr.cells.set dr.pl (dr.cell / k), dr.at_⟩)
  else ((dr.m * 48271 + dr.cell * 69621 + 11) % 2147483647 / 7 % k, ⟨(dr.m * 48271 + dr.cell * 69621 + 11) % 2147483647, dr.cells, dr.at_ + 1⟩)
theorem nx_bd (dr : Dr) {k : Int} (h : 0 < k) : 0 ≤ (nx dr k).1 ∧ (nx dr k).1 < k := by
  unfold nx
  split
  · exact ⟨Int.emod_nonneg _ (by omega), Int.emod_lt_of_pos _ h⟩
  · exact ⟨Int.emod_nonneg _ (by omega), Int.emod_lt_of_pos _ h⟩
def mixI (ns : List Int) (seed : Int) : Int := ns.foldl (fun m c => (m * 48271 + c % 2147483629 + 1) % 2147483647) seed
def mixDr (ns : List Int) (seed : Int) : Dr := ⟨mixI ns seed, ns, 0⟩
theorem dS_len (dr : Dr) (R : Store) : (dS dr R).length = R.length + 2 := rfl
theorem bel_dS {n : Nat} {dr dr' : Dr} {R : Store} (h : belS n (dS dr R)) (hn : 0 < n) : belS n (dS dr' R) := by
  refine belS_cons (belInts _) (belS_cons ?_ fun l o e => h (l + 2) o e)
  show (true && (decide (0 < n) && (true && true))) = true
  rw [decide_eq_true hn]; rfl
theorem bel_dR {n : Nat} {dr : Dr} {R : Store} (h : belS n (dS dr R)) : belS n R := fun l o e => h (l + 2) o e
theorem cov_dS {dr dr' : Dr} {R G : Store} {d : D} (b : belS (dS dr R).length (dS dr R)) (bd : bel (dS dr R).length d = true) : CovD (dS dr R).length d (dS dr' R ++ G) d (dS dr' R) := by
  have hb : belS (dS dr' R).length (dS dr' R) := bel_dS (dr := dr) b (by show 0 < R.length + 2; omega)
  exact CovD.drop (S := dS dr' R) hb bd
end DM

namespace DM
open PySem PySem.Spec PyProof.Rows L2
theorem bel_loc {n l : Nat} (h : l < n) : bel n (.loc l) = true := decide_eq_true h
theorem lessN : lessV [] [] := ⟨rfl, fun _ _ h => h⟩
theorem lessK {x : Option D} {v2 v : Fv} (h : lessV v2 v) : lessV (x :: v2) (x :: v) := ⟨by simp [h.1], fun i d e => by
  cases i with
  | zero => exact e
  | succ i => exact h.2 i d (by simpa using e)⟩
theorem lessS {x : Option D} {v2 v : Fv} (h : lessV v2 v) : lessV (none :: v2) (x :: v) := ⟨by simp [h.1], fun i d e => by
  cases i with
  | zero => simp at e
  | succ i => exact h.2 i d (by simpa using e)⟩
theorem belN {n : Nat} : belV n [] := fun i d e => by simp at e
theorem belY {n : Nat} {d : D} {v : Fv} (hd : bel n d = true) (h : belV n v) : belV n (some d :: v) := fun i e q => by
  cases i with
  | zero => have : d = e := by simpa using q
            subst this; exact hd
  | succ i => exact h i e (by simpa using q)
theorem belZ {n : Nat} {v : Fv} (h : belV n v) : belV n (none :: v) := fun i e q => by
  cases i with
  | zero => simp at q
  | succ i => exact h i e (by simpa using q)
/-! ### drawing one by one -/
def dMap {α β : Type} (f : β → Dr → α × Dr) : List β → Dr → List α × Dr
  | [], dr => ([], dr)
  | b :: bs, dr => ((f b dr).1 :: (dMap f bs (f b dr).2).1, (dMap f bs (f b dr).2).2)
theorem dMap_snoc {α β : Type} (f : β → Dr → α × Dr) : ∀ (bs : List β) (b : β) (dr : Dr), dMap f (bs ++ [b]) dr = ((dMap f bs dr).1 ++ [(f b (dMap f bs dr).2).1], (f b (dMap f bs dr).2).2)
  | [], b, dr => rfl
  | c :: bs, b, dr => by
    show ((f c dr).1 :: (dMap f (bs ++ [b]) (f c dr).2).1, (dMap f (bs ++ [b]) (f c dr).2).2) = _
    rw [dMap_snoc f bs b (f c dr).2]
    rfl
theorem dMap_len {α β : Type} (f : β → Dr → α × Dr) : ∀ (bs : List β) (dr : Dr), (dMap f bs dr).1.length = bs.length
  | [], _ => rfl
  | b :: bs, dr => by
    show (dMap f bs (f b dr).2).1.length + 1 = bs.length + 1
    rw [dMap_len f bs]
theorem dMap_all {α β : Type} {f : β → Dr → α × Dr} {p : α → Prop} : ∀ {bs : List β} {dr : Dr}, (∀ b ∈ bs, ∀ dr, p (f b dr).1) → ∀ a ∈ (dMap f bs dr).1, p a
  | [], _, _, a, ha => by cases ha
  | b :: bs, dr, h, a, ha => by
    rcases List.mem_cons.mp ha with rfl | ha
    · exact h b List.mem_cons_self dr
    · exact dMap_all (fun c hc => h c (List.mem_cons_of_mem _ hc)) a ha
theorem take_snoc {α : Type} {l : List α} {i : Nat} {x : α} (h : l[i]? = some x) : l.take (i + 1) = l.take i ++ [x] := by rw [List.take_add_one, h]; rfl
theorem map_at {α β : Type} {e : α → β} {l : List α} {i : Nat} {d : β} (h : (l.map e)[i]? = some d) : ∃ c, l[i]? = some c ∧ d = e c := by
  rw [List.getElem?_map] at h
  cases q : l[i]? with
  | none => rw [q] at h; cases h
  | some c => rw [q] at h; exact ⟨c, rfl, (Option.some.inj h).symm⟩
theorem at_R {R G : Store} {o : Ob} : (R ++ o :: G)[R.length]? = some o := by simp
theorem set_R {R G : Store} {o u : Ob} : (R ++ o :: G).set R.length u = R ++ u :: G := by
  rw [List.set_append_right _ _ (Nat.le_refl _)]; simp
theorem at_dR {dr : Dr} {R G : Store} {o : Ob} : (dS dr (R ++ o :: G))[R.length + 2]? = some o := at_R
theorem set_dR {dr : Dr} {R G : Store} {o u : Ob} : (dS dr (R ++ o :: G)).set (R.length + 2) u = dS dr (R ++ u :: G) := by
  show _ :: _ :: (R ++ o :: G).set R.length u = _
  rw [set_R]; rfl
/-- a comprehension whose elements draw -/
theorem lc_draw {X : Cx} {scope : Scope} {elt : Expr} {up : D → Fv → Option Fv} {vs : List Nat} {v : Fv} {n : Nat} {ok : Store → Prop} {dr : Dr} {R : Store} {Q : D → Store → Prop} {α β : Type} (encB : β → D) (enc : α → D) (f : β → Dr → α × Dr) (bs : List β)
    (hbel : ∀ a m, bel m (enc a) = true) (hb : belS (dS dr R).length (dS dr R)) (hz : bs.length ≤ 100000) (hok : ∀ dr acc, ok (dS dr R ++ [.lst acc]))
    (turn : ∀ b dr' acc, b ∈ bs → ∃ v3, up (encB b) (wipeD v vs) = some v3 ∧ ∀ Y, BlkOf X scope Y → WE Y elt v3 (dS dr' R ++ [.lst acc]) fun y S4 => y = enc (f b dr').1 ∧ ∃ G, S4 = dS (f b dr').2 R ++ [.lst acc] ++ G)
    (h : Q (.loc (dS dr R).length) (dS (dMap f bs dr).2 R ++ [.lst ((dMap f bs dr).1.map enc)])) : LcTurns X scope [] elt up vs v n ⟨bs.map encB, ok⟩ (dS dr R) Q := by
  refine ⟨fun i acc S2 => S2 = dS (dMap f (bs.take i) dr).2 R ∧ acc = (dMap f (bs.take i) dr).1.map enc, ⟨rfl, rfl⟩, ?_, ?_, ?_⟩
  · rintro i acc S2 hi ⟨rfl, rfl⟩
    exact ⟨rfl, hok _ _⟩
  · rintro i d acc S2 hd ⟨rfl, rfl⟩
    obtain ⟨b, hbi, rfl⟩ := map_at hd
    obtain ⟨v3, h1, h2⟩ := turn b (dMap f (bs.take i) dr).2 ((dMap f (bs.take i) dr).1.map enc) (List.mem_of_getElem? hbi)
    have hi : i < bs.length := (List.getElem?_eq_some_iff.mp hbi).1
    refine ⟨v3, h1, fun Y hY => ⟨fun _ Z hZ => ?_, fun z => by cases z⟩⟩
    refine (h2 Z hZ).mono fun y S4 ⟨e1, G, e2⟩ => ?_
    subst e1 e2
    have ts : dMap f (bs.take (i + 1)) dr = ((dMap f (bs.take i) dr).1 ++ [(f b (dMap f (bs.take i) dr).2).1], (f b (dMap f (bs.take i) dr).2).2) := by rw [take_snoc hbi, dMap_snoc]
    refine ⟨enc (f b (dMap f (bs.take i) dr).2).1, dS (f b (dMap f (bs.take i) dr).2).2 R ++ [.lst ((dMap f (bs.take i) dr).1.map enc)], ?_, ?_, dS (f b (dMap f (bs.take i) dr).2).2 R, rfl, ?_, ?_⟩
    · have hl : ∀ dr' : Dr, ∀ acc, (dS dr' R ++ [Ob.lst acc]).length = (dS dr R).length + 1 := fun _ _ => by simp [dS]
      have := CovD.drop (S := dS (f b (dMap f (bs.take i) dr).2).2 R ++ [.lst ((dMap f (bs.take i) dr).1.map enc)]) (G := G) (d := enc (f b (dMap f (bs.take i) dr).2).1) (by
        rw [hl]
        exact belS_snoc (bel_dS (dr := dr) (belS_mono (Nat.le_succ _) hb) (by show 0 < R.length + 2 + 1; omega)) (belAll_map (fun a => hbel a _) _)) (hbel _ _)
      rw [hl] at this
      exact this
    · rw [List.length_map, dMap_len, List.length_take]
      exact szl (by omega)
    · rw [ts]
    · rw [ts]; simp
  · rintro acc S2 ⟨rfl, rfl⟩
    rw [show (Src.items ⟨bs.map encB, ok⟩) = bs.map encB from rfl, List.length_map, List.take_length]
    exact h
/-! ### marks, claims drawn -/
def pick3 (a : Int) : Int := ([2, 3, 10] : List Int).getD a.toNat 0
def dMark (_ : Nat) (dr : Dr) : Int × Dr := nx (nx dr 3).2 (pick3 (nx dr 3).1)
def dMarks (dr : Dr) : List Int × Dr := dMap dMark (List.range 3) dr
def dWant (m : Int) (dr : Dr) : Int × Dr := (if (nx dr 2).1 = 0 then m else -1, (nx dr 2).2)
def dClaim (_ : Nat) (dr : Dr) : (List Int × Int) × Dr :=
  let a := dMarks dr
  let b := dMap dWant a.1 a.2
  let c := nx b.2 2
  let e := nx c.2 (([2, 10] : List Int).getD c.1.toNat 0)
  ((b.1, e.1), e.2)
def dClaims (dr : Dr) : List (List Int × Int) × Dr :=
  let a := nx dr 2
  let b := nx a.2 (([3, 7] : List Int).getD a.1.toNat 0)
  dMap dClaim (List.range b.1.toNat) b.2
theorem pick3_bd {a : Int} (h : 0 ≤ a ∧ a < 3) : 2 ≤ pick3 a ∧ pick3 a ≤ 10 ∧ atI (([2, 3, 10] : List Int).map D.int) a = some (.int (pick3 a)) := by
  have : a = 0 ∨ a = 1 ∨ a = 2 := by omega
  rcases this with rfl | rfl | rfl <;> exact ⟨by decide, by decide, rfl⟩
theorem pick2_bd {a : Int} (x y : Int) (h : 0 ≤ a ∧ a < 2) : (([x, y] : List Int).getD a.toNat 0 = x ∨ ([x, y] : List Int).getD a.toNat 0 = y) ∧ atI (([x, y] : List Int).map D.int) a = some (.int (([x, y] : List Int).getD a.toNat 0)) := by
  have : a = 0 ∨ a = 1 := by omega
  rcases this with rfl | rfl
  · exact ⟨.inl rfl, rfl⟩
  · exact ⟨.inr rfl, rfl⟩
theorem dMarks_ok (dr : Dr) : OkM 0 (dMarks dr).1 := by
  refine ⟨dMap_len _ _ _, fun x hx => ?_⟩
  refine dMap_all (p := fun x => 0 ≤ x ∧ x ≤ 9) (f := dMark) (fun b _ dr => ?_) x hx
  have h1 := nx_bd dr (k := 3) (by decide)
  have h2 := pick3_bd h1
  have h3 := nx_bd (nx dr 3).2 (k := pick3 (nx dr 3).1) (by omega)
  show 0 ≤ (nx (nx dr 3).2 (pick3 (nx dr 3).1)).1 ∧ (nx (nx dr 3).2 (pick3 (nx dr 3).1)).1 ≤ 9
  omega
theorem dMap_allM {α β : Type} {f : β → Dr → α × Dr} {p : α → Prop} {bs : List β} {dr : Dr} (h : ∀ b ∈ bs, ∀ dr, p (f b dr).1) : ∀ a ∈ (dMap f bs dr).1, p a := dMap_all h
theorem dClaim_ok (b : Nat) (dr : Dr) : OkC (dClaim b dr).1 := by
  have hm := dMarks_ok dr
  refine ⟨⟨?_, fun x hx => ?_⟩, ?_⟩
  · show (dMap dWant (dMarks dr).1 (dMarks dr).2).1.length = 3
    rw [dMap_len]; exact hm.1
  · refine dMap_allM (p := fun x => -1 ≤ x ∧ x ≤ 9) (f := dWant) (bs := (dMarks dr).1) (fun m hmm dr' => ?_) x hx
    have := hm.2 m hmm
    show -1 ≤ (if (nx dr' 2).1 = 0 then m else -1) ∧ (if (nx dr' 2).1 = 0 then m else -1) ≤ 9
    split <;> omega
  · have h1 := nx_bd (dMap dWant (dMarks dr).1 (dMarks dr).2).2 (k := 2) (by decide)
    have h2 := (pick2_bd 2 10 h1).1
    have h3 := nx_bd (nx (dMap dWant (dMarks dr).1 (dMarks dr).2).2 2).2 (k := (([2, 10] : List Int).getD (nx (dMap dWant (dMarks dr).1 (dMarks dr).2).2 2).1.toNat 0)) (by rcases h2 with e | e <;> rw [e] <;> decide)
    show 0 ≤ (nx (nx (dMap dWant (dMarks dr).1 (dMarks dr).2).2 2).2 (([2, 10] : List Int).getD (nx (dMap dWant (dMarks dr).1 (dMarks dr).2).2 2).1.toNat 0)).1 ∧ (nx (nx (dMap dWant (dMarks dr).1 (dMarks dr).2).2 2).2 (([2, 10] : List Int).getD (nx (dMap dWant (dMarks dr).1 (dMarks dr).2).2 2).1.toNat 0)).1 ≤ 9
    rcases h2 with e | e <;> rw [e] at h3 ⊢ <;> omega
theorem dClaims_ok (dr : Dr) : OkCs (dClaims dr).1 := by
  have h1 := nx_bd dr (k := 2) (by decide)
  have h2 := (pick2_bd 3 7 h1).1
  have h3 := nx_bd (nx dr 2).2 (k := (([3, 7] : List Int).getD (nx dr 2).1.toNat 0)) (by rcases h2 with e | e <;> rw [e] <;> decide)
  refine ⟨?_, dMap_all (f := dClaim) fun b _ dr => dClaim_ok b dr⟩
  show (dMap dClaim (List.range (nx (nx dr 2).2 (([3, 7] : List Int).getD (nx dr 2).1.toNat 0)).1.toNat) _).1.length ≤ 6
  rw [dMap_len, List.length_range]
  rcases h2 with e | e <;> rw [e] at h3 ⊢ <;> omega
end DM

namespace DM
open PySem PySem.Spec PyProof.Rows L2
/-! ### data as _law_alike goes through it -/
theorem get_app {S G : Store} {l : Nat} {o : Ob} (h : S[l]? = some o) : (S ++ G)[l]? = some o := by
  rw [List.getElem?_append_left (List.getElem?_eq_some_iff.mp h).1]; exact h
mutual
theorem PD.app {S : Store} (G : Store) : ∀ (p : PyData) (x : D), PD S x p → PD (S ++ G) x p
  | .none, _, h => by cases h; exact .non
  | .bool b, _, h => by cases h; exact .bl b
  | .int i, _, h => by cases h; exact .int i
  | .str s, _, h => by cases h; exact .str s
  | .tuple ps, _, h => by
    cases h with
    | tup h => exact .tup (PDs.app G ps _ h)
  | .list ps, _, h => by
    cases h with
    | lst hl h => exact .lst (get_app hl) (PDs.app G ps _ h)
  | .dict _, _, h => by cases h
theorem PDs.app {S : Store} (G : Store) : ∀ (ps : List PyData) (xs : List D), PDs S xs ps → PDs (S ++ G) xs ps
  | [], _, h => by cases h; exact .nil
  | p :: ps, _, h => by
    cases h with
    | cons h1 h2 => exact .cons (PD.app G p _ h1) (PDs.app G ps _ h2)
end
theorem PDs.len {S : Store} : ∀ {ps : List PyData} {xs : List D}, PDs S xs ps → xs.length = ps.length
  | [], _, h => by cases h; rfl
  | p :: ps, _, h => by
    cases h with
    | cons h1 h2 => simp [PDs.len h2]
theorem PDs.get {S : Store} : ∀ {ps : List PyData} {xs : List D} {i : Nat} {p : PyData}, PDs S xs ps → ps[i]? = some p → ∃ x, xs[i]? = some x ∧ PD S x p
  | [], _, i, p, h, e => by simp at e
  | q :: ps, _, 0, p, h, e => by
    cases h with
    | cons h1 h2 =>
      have : q = p := by simpa using e
      subst this
      exact ⟨_, rfl, h1⟩
  | q :: ps, _, i + 1, p, h, e => by
    cases h with
    | cons h1 h2 =>
      obtain ⟨x, a, b⟩ := PDs.get (i := i) (p := p) h2 (by simpa using e)
      exact ⟨x, by simpa using a, b⟩
/-- so deep at the most, no list or tuple too long -/
def okP : Nat → PyData → Bool
  | _, .none => true
  | _, .bool _ => true
  | _, .int _ => true
  | _, .str x => SeqAt.shaped (.str x)
  | n + 1, .list ps => decide (ps.length ≤ 100000) && ps.all (okP n)
  | n + 1, .tuple ps => decide (ps.length ≤ 100000) && ps.all (okP n)
  | _, _ => false
theorem filterMap_nil {α β : Type} {f : α → Option β} {l : List α} (h : ∀ a ∈ l, f a = none) : l.filterMap f = [] := List.filterMap_eq_nil_iff.mpr h
theorem rngD_mem {lo : Int} {n : Nat} {d : D} (h : d ∈ rngD lo n) : ∃ k : Nat, k < n ∧ d = .int (lo + (k : Int)) := by
  obtain ⟨k, h1, h2⟩ := List.mem_map.mp h
  exact ⟨k, List.mem_range.mp h1, h2.symm⟩
end DM

namespace DM
open PySem PySem.Spec PyProof.Rows L2
/-! ### how much claims fit: as the laws reckon it -/
def eqL (w m : List Int) : List Nat := (List.range 3).filter fun k => decide (w.getD k 0 = m.getD k 0)
def neL (w : List Int) : List Nat := (List.range 3).filter fun k => !decide (w.getD k 0 = -1)
def lawStep (m : List Int) (b : Option Int) (c : List Int × Int) : Option Int :=
  if (eqL c.1 m).length = (neL c.1).length then (match b with
    | none => some (10 * c.2 + (eqL c.1 m).length)
    | some x => if x < 10 * c.2 + (eqL c.1 m).length then some (10 * c.2 + (eqL c.1 m).length) else some x) else b
def lawFit (cs : List (List Int × Int)) (m : List Int) : Option Int := cs.foldl (lawStep m) none
theorem filter_len_eq {α : Type} {p q : α → Bool} {l : List α} (h : ∀ a ∈ l, p a = q a) : (l.filter p) = (l.filter q) := List.filter_congr h
theorem getD_mem {l : List Int} {k : Nat} (h : k < l.length) : l.getD k 0 ∈ l := by
  have : l.getD k 0 = l[k] := by simp [List.getD, List.getElem?_eq_getElem h]
  rw [this]; exact List.getElem_mem h
/-- one claim, reckoned both ways -/
theorem fit1_law {m : List Int} {c : List Int × Int} (hc : OkC c) (hm : OkM 0 m) : fit1 m c = if (eqL c.1 m).length = (neL c.1).length then some (10 * c.2 + (eqL c.1 m).length) else none := by
  have h3 : m.length = 3 := hm.1
  have w3 : c.1.length = 3 := hc.1.1
  have t : toldL c.1 m.length = neL c.1 := by
    unfold toldL neL
    rw [h3]
    refine List.filter_congr fun k hk => ?_
    have hk3 : k < 3 := List.mem_range.mp hk
    have := hc.1.2 _ (getD_mem (l := c.1) (k := k) (by omega))
    by_cases h : 0 ≤ c.1.getD k 0
    · have h' : ¬ c.1.getD k 0 = -1 := by omega
      rw [decide_eq_true h, decide_eq_false h']; rfl
    · have h' : c.1.getD k 0 = -1 := by omega
      rw [decide_eq_false h, decide_eq_true h']; rfl
  have e : eqL c.1 m = (neL c.1).filter fun k => decide (c.1.getD k 0 = m.getD k 0) := by
    unfold eqL neL
    rw [List.filter_filter]
    refine List.filter_congr fun k hk => ?_
    have hk3 : k < 3 := List.mem_range.mp hk
    have := hm.2 _ (getD_mem (l := m) (k := k) (by omega))
    by_cases h : c.1.getD k 0 = m.getD k 0
    · have h' : ¬ c.1.getD k 0 = -1 := by omega
      rw [decide_eq_true h, decide_eq_false h']; rfl
    · rw [decide_eq_false h]; rfl
  have key : ((neL c.1).filter fun k => !decide (c.1.getD k 0 = m.getD k 0)) = [] ↔ (eqL c.1 m).length = (neL c.1).length := by
    rw [e, List.length_filter_eq_length_iff, List.filter_eq_nil_iff]
    constructor
    · intro h a ha
      have := h a ha
      simpa using this
    · intro h a ha
      have := h a ha
      simpa using this
  unfold fit1
  rw [t]
  by_cases h : (eqL c.1 m).length = (neL c.1).length
  · rw [if_pos (key.mpr h), if_pos h, h]
  · rw [if_neg (fun z => h (key.mp z)), if_neg h]
theorem max_fold : ∀ (l : List Int) (x : Int), l.foldl (fun b v => match b with | none => some v | some y => if y < v then some v else some y) (some x) = some (l.foldl max x)
  | [], x => rfl
  | v :: l, x => by
    show l.foldl _ (if x < v then some v else some x) = some (l.foldl max (max x v))
    by_cases h : x < v
    · rw [if_pos h, max_fold l v, Int.max_eq_right (by omega)]
    · rw [if_neg h, max_fold l x, Int.max_eq_left (by omega)]
theorem fit_law {cs : List (List Int × Int)} {m : List Int} (hcs : OkCs cs) (hm : OkM 0 m) : lawFit cs m = fitOf cs m := by
  have gen : ∀ (l : List (List Int × Int)) (b : Option Int), (∀ c ∈ l, OkC c) → l.foldl (lawStep m) b = (l.filterMap (fit1 m)).foldl (fun b v => match b with | none => some v | some y => if y < v then some v else some y) b := by
    intro l
    induction l with
    | nil => intro b _; rfl
    | cons c l ih =>
      intro b h
      have hc := h c List.mem_cons_self
      have e := fit1_law hc hm
      rw [List.foldl_cons, ih _ fun d hd => h d (List.mem_cons_of_mem _ hd), List.filterMap_cons, e]
      unfold lawStep
      by_cases h1 : (eqL c.1 m).length = (neL c.1).length
      · simp only [if_pos h1, List.foldl_cons]
      · simp only [if_neg h1]
  unfold lawFit fitOf
  rw [gen cs none hcs.2]
  cases e : cs.filterMap (fit1 m) with
  | nil => rfl
  | cons x xs => rw [List.foldl_cons, max_fold]; rfl
theorem lawFit_snoc (m : List Int) (cs : List (List Int × Int)) (c : List Int × Int) : lawFit (cs ++ [c]) m = lawStep m (lawFit cs m) c := by
  unfold lawFit; rw [List.foldl_append]; rfl
/-! ### a law's own end -/
def spLaw (K : PySem.W.Frag) : Sp := fun vs H Q _ => ∃ (a : Addr) (ns : List Int), vs = [.ref a] ∧ SqL K H a (ns.map V.int) ∧ Only H ∧ ns.length ≤ 63 ∧ ∀ H', Q (.bl true) H'
def lawEnds : Ed := { nx := fun _ _ => False, rt := fun d _ => d = .bl true }
section
variable {P : Program} {w : World} {K : PySem.W.Frag} {mg : Str → Option Value} {base : Heap}
theorem lawD {st : Stmt} {f : Addr} {fd : FuncData} {N : List Str} {k : Nat} (Fn : FunD K "law" "law" (defArgs st) (defBody st) (defScope st) [] [] f fd) (Sc : FnScope N ["_law_script"] (defScope st))
    (body : ∀ (cdv : Value) (A : Around) (outer : List Env) (s : Shared) (H : Hp) (E : XK) (d : D) (ns : List Int), Room k (cxOf CX0 P w K mg base N "law" (defScope st) f cdv A outer s H E).nox.A → ScrD K d ns → ns.length ≤ 63 →
      WSs (cxOf CX0 P w K mg base N "law" (defScope st) f cdv A outer s H E).nox 0 (defBody st) (startD N [d]) [] lawEnds) : FnOk P w K mg base CX0 (k + 1) f fd ["_law_script"] (spLaw K) := by
  refine Fn.ok Sc (fun vs H Q E h => ?_) (fun cdv A outer s H vs Q E hr h => ?_)
  · obtain ⟨a, ns, rfl, _⟩ := h
    rfl
  · obtain ⟨a, ns, rfl, sq, ho, hl, kq⟩ := h
    refine ⟨_, PSs.nox pss_w, ?_⟩
    obtain ⟨d, hd, rd⟩ : ∃ d, ScrD K d ns ∧ RD [] H d (.ref a) := by
      rcases sq with (sq | ⟨o, sq⟩) | sq
      · rcases ho a with z | ⟨o, xs, z⟩
        · rw [z] at sq; cases sq
        · rw [z] at sq; cases sq
      · exact ⟨.scr ns, .inl rfl, a, o, rfl, sq⟩
      · exact ⟨.ref a, .inr ⟨a, rfl, sq⟩, rfl⟩
    have rs : RS [] H [] := ⟨rfl, List.nodup_nil, fun l o e => by simp at e⟩
    refine body cdv A outer s H E d ns hr hd hl [] H [] _ H _ rfl (List.prefix_refl _) (Keep.refl H) (re_start (ds := [d]) (vs := [.ref a]) ⟨_, _, rfl, rd, rfl⟩) rs ⟨fun _ _ _ _ _ _ _ _ _ z => z.elim, fun F d v H' S' _ _ _ r e => ?_, fun _ _ _ _ _ _ _ _ _ z => z.elim, fun _ _ _ _ _ _ _ _ _ z => z.elim⟩
    subst e
    cases (show v = .bl true from r)
    exact kq H'
end
end DM

namespace DM
open PySem PySem.Spec PyProof.Rows L2
/-! ### sorted of pure data -/
def leD (x y : D) : Bool := PySem.W.dataLe false toP x y
def rSortD (K : PySem.W.Frag) : List V → Hp → VK → Prop := fun vs H Q => ∃ (a : Addr) (zs : List (D × V)), vs = [.ref a] ∧ SqL K H a (zs.map (·.2)) ∧ DpAll K H (zs.map (·.2)) (zs.map fun z => toP z.1) ∧ PySem.W.AllAlike (zs.map fun z => toP z.1) ∧ PySem.W.Sortable (zs.map fun z => toP z.1) ∧
  (∀ z ∈ zs, (toP z.1).depth ≤ 60) ∧ ∀ p, H p = none → Q (.ref p) (upd H p (.lst ((zs.mergeSort (PySem.W.dataLe false fun z => toP z.1)).map (·.2))))
theorem each_rel : ∀ {zs : List (D × V)} {us : List Value}, Vals (zs.map (·.2)) us → PySem.W.EachIs (fun u (z : D × V) => RelV z.2 u) us zs
  | [], _, .nil => .nil
  | z :: zs, _ :: us, .cons r t => .cons r (each_rel t)
theorem each_reads {h : Heap} : ∀ {zs : List (D × V)} {us : List Value} {as : List Addr}, ReadsAll h us (zs.map fun z => toP z.1) as → PySem.W.EachIs (fun u (z : D × V) => ∃ as, Reads h u (toP z.1) as) us zs
  | [], _, _, r => by cases r; exact .nil
  | z :: zs, _, _, r => by
    cases r with
    | cons r t => exact .cons ⟨_, r⟩ (each_reads t)
theorem rel_each : ∀ {zs : List (D × V)} {us : List Value}, PySem.W.EachIs (fun u (z : D × V) => RelV z.2 u) us zs → Vals (zs.map (·.2)) us
  | _, _, .nil => .nil
  | _, _, .cons r t => .cons r (rel_each t)
section
variable {X : Cx} {S : Store} {Q : D → Store → Prop}
theorem cr_sortD (hu : X.A.units + 64 < cLine) : CallR X (.builtin "sorted") (rSortD X.K) := by
  intro pins s σ H vs us Q I r h
  obtain ⟨a, zs, rfl, hs, hd, hal, hk, hdep, q⟩ := h
  obtain ⟨its, rv, hl, hz⟩ := I.list hs
  obtain ⟨u, rfl, ru⟩ := vals1 r
  obtain rfl : u = Value.ref a := ru
  obtain ⟨as, hr⟩ := Dp.readsAll I _ _ _ hd rv
  have hz' : zs.length ≤ sizeLine := by simpa using hz
  refine PySem.W.sorted_data (enc := fun z : D × V => toP z.1) hl.isList (each_rel rv) (each_reads hr) hal hk hz' (fun z hm => ?_) fun out ho eo => ?_
  · have := hdep z hm
    omega
  · obtain ⟨c, hc⟩ := sortedAll_at s.heap its out.toArray
    refine ⟨.ref (s.heap.objs.size + 1), upd H (s.heap.objs.size + 1) (.lst _), I.laid (t' := s.toks) (fun b o e => sortedAll_old e) (Nat.le_succ _) ⟨?_, out, c, rel_each eo, hc⟩, rfl, q _ (I.hok.fresh (Nat.le_succ _))⟩
    rw [List.length_map, List.length_mergeSort]; exact hz'
theorem sort_rd {F : List Addr} {H : Hp} : ∀ (zs : List (D × V)), (∀ z ∈ zs, RD F H z.1 z.2) → RDs F H (zs.map (·.1)) (zs.map (·.2))
  | [], _ => rfl
  | z :: zs, h => ⟨z.2, _, rfl, h z List.mem_cons_self, sort_rd zs fun y hy => h y (List.mem_cons_of_mem _ hy)⟩
theorem rds_zip {F : List Addr} {H : Hp} : ∀ {xs : List D} {vs : List V}, RDs F H xs vs → ∃ zs : List (D × V), xs = zs.map (·.1) ∧ vs = zs.map (·.2) ∧ ∀ z ∈ zs, RD F H z.1 z.2
  | [], vs, r => ⟨[], rfl, r, fun _ h => by cases h⟩
  | x :: xs, vs, r => by
    obtain ⟨v, r', rfl, h1, h2⟩ := r
    obtain ⟨zs, e1, e2, h⟩ := rds_zip h2
    refine ⟨(x, v) :: zs, by rw [e1]; rfl, by rw [e2]; rfl, fun z hz => ?_⟩
    rcases List.mem_cons.mp hz with rfl | hz
    · exact h1
    · exact h z hz
/-- sorted(xs): the list of the same, in order -/
theorem CW.sortL {l : Nat} {xs : List D} (hl : S[l]? = some (.lst xs)) (hp : ∀ x ∈ xs, pu 60 x = true) (hal : PySem.W.AllAlike (xs.map toP)) (hk : PySem.W.Sortable (xs.map toP)) (hu : X.A.units + 64 < cLine)
    (h : Q (.loc S.length) (S ++ [.lst (xs.mergeSort leD)])) : CW X (.builtin "sorted") [.loc l] S Q := CW.of (cr_sortD hu) fun F H vs Q' rs r k => by
  obtain ⟨v, r', rfl, ⟨a, rfl, ha⟩, e⟩ := r
  cases (show r' = [] from e)
  obtain ⟨a', h', e1, e2, vs, e3, e4⟩ := rs.get hl
  rw [e1] at ha; cases ha
  subst e3
  have hpd : PDs S xs (toPs xs) := (pus_pd S xs hp).1
  have dpa := PDs.dp (K := X.K) rs _ _ _ hpd e4
  obtain ⟨zs, z1, z2, z3⟩ := rds_zip e4
  have mapP : ∀ l : List D, toPs l = l.map toP := fun l => by
    induction l with
    | nil => rfl
    | cons x l ih => show toP x :: toPs l = _; rw [ih]; rfl
  have mz : xs.map toP = zs.map fun z => toP z.1 := by rw [z1, List.map_map]; rfl
  refine ⟨a, zs, rfl, by rw [← z2]; exact SqL.of e2, by rw [← z2, ← mz, ← mapP]; exact dpa, by rw [← mz]; exact hal, by rw [← mz]; exact hk, fun z hz => ?_, fun p hp' => ?_⟩
  · exact (pu_pd S 60 z.1 (hp _ (by rw [z1]; exact List.mem_map.mpr ⟨z, hz, rfl⟩))).2.2
  · have em : (zs.mergeSort (PySem.W.dataLe false fun z => toP z.1)).map (·.1) = xs.mergeSort leD := by
      rw [z1]; exact List.map_mergeSort fun _ _ _ _ => rfl
    have rd : RDs F H (xs.mergeSort leD) ((zs.mergeSort (PySem.W.dataLe false fun z => toP z.1)).map (·.2)) := by
      rw [← em]
      exact sort_rd _ fun z hz => z3 z (List.mem_mergeSort.mp hz)
    exact k (F ++ [p]) (.loc S.length) (.ref p) _ _ ⟨[p], rfl⟩ (Keep.new hp') (rs.new (o := .lst (xs.mergeSort leD)) hp' ⟨_, rfl, rd⟩) ⟨p, rfl, by rw [← rs.len]; simp⟩ h
end
end DM

namespace DM
open PySem PySem.Spec PyProof.Rows L2
/-! ### dicts as tables -/
section
variable {κ : Type} [DecidableEq κ] {β : Type}
def getT (kvs : List (κ × β)) (k : κ) : Option β := (kvs.find? fun kv => decide (kv.1 = k)).map (·.2)
def putT (kvs : List (κ × β)) (k : κ) (v : β) : List (κ × β) :=
  if (kvs.any fun kv => decide (kv.1 = k)) = true then kvs.map (fun kv => if kv.1 = k then (kv.1, v) else kv) else kvs ++ [(k, v)]
theorem getT_nil (k : κ) : getT ([] : List (κ × β)) k = none := rfl
theorem getT_cons (p : κ × β) (r : List (κ × β)) (k : κ) : getT (p :: r) k = if p.1 = k then some p.2 else getT r k := by
  by_cases e : p.1 = k <;> simp [getT, List.find?_cons, e]
theorem any_getT (kvs : List (κ × β)) (k : κ) : (kvs.any fun kv => decide (kv.1 = k)) = (getT kvs k).isSome := by
  induction kvs with
  | nil => rfl
  | cons p r ih =>
    rw [List.any_cons, getT_cons, ih]
    by_cases e : p.1 = k <;> simp [e]
theorem putT_new {kvs : List (κ × β)} {k : κ} (v : β) (h : getT kvs k = none) : putT kvs k v = kvs ++ [(k, v)] := by
  unfold putT
  rw [any_getT, h]; rfl
theorem getT_snoc (kvs : List (κ × β)) (k j : κ) (v : β) : getT (kvs ++ [(k, v)]) j = match getT kvs j with | some x => some x | none => if k = j then some v else none := by
  induction kvs with
  | nil => show getT [(k, v)] j = _; rw [getT_cons]; rfl
  | cons p r ih =>
    rw [List.cons_append, getT_cons, getT_cons, ih]
    by_cases e : p.1 = j
    · rw [if_pos e, if_pos e]
    · rw [if_neg e, if_neg e]
theorem getT_map (kvs : List (κ × β)) (k j : κ) (v : β) : getT (kvs.map fun kv => if kv.1 = k then (kv.1, v) else kv) j = if j = k then (getT kvs j).map fun _ => v else getT kvs j := by
  induction kvs with
  | nil => simp [getT_nil]
  | cons p r ih =>
    rw [List.map_cons, getT_cons, getT_cons, ih]
    by_cases e : p.1 = k <;> by_cases e2 : j = k <;> by_cases e3 : p.1 = j <;> simp_all
theorem getT_put (kvs : List (κ × β)) (k j : κ) (v : β) : getT (putT kvs k v) j = if j = k then some v else getT kvs j := by
  unfold putT
  rw [any_getT]
  cases h : getT kvs k with
  | none =>
    rw [if_neg (by simp), getT_snoc]
    by_cases e : j = k
    · subst e; rw [h, if_pos rfl]
    · rw [if_neg e, if_neg (fun z => e z.symm)]; cases getT kvs j <;> rfl
  | some x =>
    rw [if_pos (by simp), getT_map]
    by_cases e : j = k
    · subst e; rw [h, if_pos rfl, if_pos rfl]; rfl
    · rw [if_neg e, if_neg e]
theorem putT_len (kvs : List (κ × β)) (k : κ) (v : β) : (putT kvs k v).length ≤ kvs.length + 1 := by
  unfold putT
  split
  · rw [List.length_map]; omega
  · rw [List.length_append]; exact Nat.le_refl _
theorem putT_keys_mem (kvs : List (κ × β)) (k : κ) (v : β) (h : (getT kvs k).isSome = true) : (putT kvs k v).map (·.1) = kvs.map (·.1) := by
  unfold putT
  rw [any_getT, if_pos h, List.map_map]
  exact List.map_congr_left fun p _ => by show (if p.1 = k then (p.1, v) else p).1 = p.1; split <;> rfl
theorem getT_keys {kvs : List (κ × β)} {k : κ} : (getT kvs k).isSome = decide (k ∈ kvs.map (·.1)) := by
  induction kvs with
  | nil => rfl
  | cons p r ih =>
    rw [getT_cons, List.map_cons]
    by_cases e : p.1 = k
    · subst e; simp
    · rw [if_neg e, ih]
      have : k ≠ p.1 := fun z => e z.symm
      simp [this]
theorem getT_mem {kvs : List (κ × β)} {k : κ} {v : β} (h : getT kvs k = some v) : (k, v) ∈ kvs := by
  induction kvs with
  | nil => cases h
  | cons p r ih =>
    rw [getT_cons] at h
    by_cases e : p.1 = k
    · rw [if_pos e] at h; cases h; subst e; exact List.mem_cons_self
    · rw [if_neg e] at h; exact List.mem_cons_of_mem _ (ih h)
theorem getT_nd {kvs : List (κ × β)} {k : κ} {v : β} (nd : (kvs.map (·.1)).Nodup) (h : (k, v) ∈ kvs) : getT kvs k = some v := by
  induction kvs with
  | nil => cases h
  | cons p r ih =>
    rw [getT_cons]
    rw [List.map_cons, List.nodup_cons] at nd
    rcases List.mem_cons.mp h with rfl | h
    · rw [if_pos rfl]
    · have : p.1 ≠ k := fun z => nd.1 (by rw [z]; exact List.mem_map.mpr ⟨_, h, rfl⟩)
      rw [if_neg this]; exact ih nd.2 h
end
section
variable {κ : Type} [DecidableEq κ] {F : List Addr} {H : Hp}
theorem RKs.val {k : κ} : ∀ {kvs : List (κ × D)} {vs : List (κ × V)}, RKs F H kvs vs → (getT kvs k = none → valV vs k = none) ∧ ∀ d, getT kvs k = some d → ∃ u, valV vs k = some u ∧ RD F H d u
  | [], vs, r => by
    cases (show vs = [] from r)
    exact ⟨fun _ => rfl, fun d h => by cases h⟩
  | p :: kvs, vs, r => by
    obtain ⟨v, r', rfl, h1, h2⟩ := r
    obtain ⟨i1, i2⟩ := RKs.val (k := k) h2
    rw [getT_cons]
    by_cases e : p.1 = k
    · rw [if_pos e, valV_pos (p := (p.1, v)) e]
      exact ⟨fun z => (by cases z), fun d z => (by cases z; exact ⟨v, rfl, h1⟩)⟩
    · rw [if_neg e, valV_neg (p := (p.1, v)) e]
      exact ⟨i1, i2⟩
theorem RKs.some_eq {k : κ} {kvs : List (κ × D)} {vs : List (κ × V)} (r : RKs F H kvs vs) : (valV vs k).isSome = (getT kvs k).isSome := by
  obtain ⟨i1, i2⟩ := RKs.val (k := k) r
  cases h : getT kvs k with
  | none => rw [i1 h]; rfl
  | some d => obtain ⟨u, e, _⟩ := i2 d h; rw [e]; rfl
theorem RKs.repl {k : κ} {d : D} {u : V} (hu : RD F H d u) : ∀ {kvs : List (κ × D)} {vs : List (κ × V)}, RKs F H kvs vs → RKs F H (kvs.map fun kv => if kv.1 = k then (kv.1, d) else kv) (vs.map fun kv => if kv.1 = k then (kv.1, u) else kv)
  | [], vs, r => by
    cases (show vs = [] from r)
    rfl
  | p :: kvs, vs, r => by
    obtain ⟨v, r', rfl, h1, h2⟩ := r
    rw [List.map_cons, List.map_cons]
    by_cases e : p.1 = k
    · rw [if_pos e, if_pos e]; exact ⟨u, _, rfl, hu, RKs.repl hu h2⟩
    · rw [if_neg e, if_neg e]; exact ⟨v, _, rfl, h1, RKs.repl hu h2⟩
theorem RKs.snoc {k : κ} {d : D} {u : V} (hu : RD F H d u) : ∀ {kvs : List (κ × D)} {vs : List (κ × V)}, RKs F H kvs vs → RKs F H (kvs ++ [(k, d)]) (vs ++ [(k, u)])
  | [], vs, r => by
    cases (show vs = [] from r)
    exact ⟨u, [], rfl, hu, rfl⟩
  | p :: kvs, vs, r => by
    obtain ⟨v, r', rfl, h1, h2⟩ := r
    exact ⟨v, _, rfl, h1, RKs.snoc hu h2⟩
theorem RKs.put {k : κ} {d : D} {u : V} {kvs : List (κ × D)} {vs : List (κ × V)} (r : RKs F H kvs vs) (hu : RD F H d u) : RKs F H (putT kvs k d) (putK vs k u) := by
  unfold putT putK
  have e : (vs.any fun kv => decide (kv.1 = k)) = (kvs.any fun kv => decide (kv.1 = k)) := by rw [valV_any, any_getT, r.some_eq]
  rw [e]
  split
  · exact RKs.repl hu r
  · exact RKs.snoc hu r
end
/-! ### keys -/
def kdD : Key → D
  | .inl i => .int i
  | .inr x => .str x
def ktD (k : List Key) : D := .tup (k.map kdD)
theorem kd_rd {F : List Addr} {H : Hp} {k : Key} {v : V} (r : RD F H (kdD k) v) : v = kV k := by cases k <;> exact r
theorem kds_rd {F : List Addr} {H : Hp} : ∀ {ks : List Key} {vs : List V}, RDs F H (ks.map kdD) vs → vs = ks.map kV
  | [], _, r => r
  | k :: ks, _, r => by
    obtain ⟨v, r', rfl, h1, h2⟩ := r
    rw [kd_rd h1, kds_rd h2]; rfl
theorem kt_rd {F : List Addr} {H : Hp} {k : List Key} {v : V} (r : RD F H (ktD k) v) : ∃ b, v = .ref b ∧ H b = some (.tup (k.map kV)) := by
  obtain ⟨b, vs, rfl, e, r⟩ := r
  rw [kds_rd r] at e
  exact ⟨b, rfl, e⟩
/-- what a dict holds at a key -/
inductive DG (S : Store) : D → D → Option D → Prop
  | k {l : Nat} {kvs : List (Key × D)} {k : Key} : S[l]? = some (.dK kvs) → DG S (.loc l) (kdD k) (getT kvs k)
  | t {l : Nat} {kvs : List (List Key × D)} {k : List Key} : S[l]? = some (.dT kvs) → DG S (.loc l) (ktD k) (getT kvs k)
  | ft {l : Nat} {o : Obj} {kvs : List (List Key × D)} {k : List Key} : S[l]? = some (.frz o (.dT kvs)) → DG S (.loc l) (ktD k) (getT kvs k)
  | fk {l : Nat} {o : Obj} {kvs : List (Key × D)} {k : Key} : S[l]? = some (.frz o (.dK kvs)) → DG S (.loc l) (kdD k) (getT kvs k)
/-- the store behind a storing -/
inductive DP (S : Store) : D → D → D → Store → Prop
  | k {l : Nat} {kvs : List (Key × D)} {k : Key} {d : D} : S[l]? = some (.dK kvs) → kvs.length < sizeLine → DP S (.loc l) (kdD k) d (S.set l (.dK (putT kvs k d)))
  | t {l : Nat} {kvs : List (List Key × D)} {k : List Key} {d : D} : S[l]? = some (.dT kvs) → kvs.length < sizeLine → DP S (.loc l) (ktD k) d (S.set l (.dT (putT kvs k d)))
theorem DG.rd {F : List Addr} {H : Hp} {S : Store} {x y : D} {o : Option D} {u v : V} (g : DG S x y o) (rs : RS F H S) (rx : RD F H x u) (ry : RD F H y v) :
    ∃ a o', u = .ref a ∧ DGet H a v o' ∧ o'.isSome = o.isSome ∧ ∀ d, o = some d → ∃ w, o' = some w ∧ RD F H d w := by
  cases g with
  | k hl =>
    obtain ⟨a, rfl, ha⟩ := rx
    obtain ⟨a', h', e1, e2, vs, e3, e4⟩ := rs.get hl
    rw [e1] at ha; cases ha
    subst e3
    rw [kd_rd ry]
    exact ⟨a, _, rfl, DGet.k e2, e4.some_eq, e4.val.2⟩
  | t hl =>
    obtain ⟨a, rfl, ha⟩ := rx
    obtain ⟨a', h', e1, e2, vs, e3, e4⟩ := rs.get hl
    rw [e1] at ha; cases ha
    subst e3
    obtain ⟨b, rfl, hb⟩ := kt_rd ry
    exact ⟨a, _, rfl, DGet.t e2 hb, e4.some_eq, e4.val.2⟩
  | ft hl =>
    obtain ⟨a, rfl, ha⟩ := rx
    obtain ⟨a', h', e1, e2, g, e3, vs, e5, e4⟩ := rs.get hl
    rw [e1] at ha; cases ha
    subst e3 e5
    obtain ⟨b, rfl, hb⟩ := kt_rd ry
    exact ⟨a, _, rfl, .inr ⟨vs, _, b, .inr ⟨_, e2⟩, rfl, hb, rfl⟩, e4.some_eq, e4.val.2⟩
  | fk hl =>
    obtain ⟨a, rfl, ha⟩ := rx
    obtain ⟨a', h', e1, e2, g, e3, vs, e5, e4⟩ := rs.get hl
    rw [e1] at ha; cases ha
    subst e3 e5
    rw [kd_rd ry]
    exact ⟨a, _, rfl, .inl ⟨vs, _, .inr ⟨_, e2⟩, rfl, rfl⟩, e4.some_eq, e4.val.2⟩
section
variable {X : Cx} {S : Store} {Q : D → Store → Prop}
theorem op_inDct (hu : X.A.units + 1 < cLine) : OpR X (compareOp .In) (fun x y H Q => ∃ a o, y = .ref a ∧ DGet H a x o ∧ Q (.bl o.isSome) H) := by
  intro pins s σ H x y v u Q I rx ry h
  obtain ⟨a, o, rfl, g, q⟩ := h
  obtain rfl : u = Value.ref a := ry
  exact d_in hu I g rx fun s' I' => ⟨.bl o.isSome, H, I', rfl, q⟩
theorem op_notInDct (hu : X.A.units + 1 < cLine) : OpR X (compareOp .NotIn) (fun x y H Q => ∃ a o, y = .ref a ∧ DGet H a x o ∧ Q (.bl (!o.isSome)) H) := by
  intro pins s σ H x y v u Q I rx ry h
  obtain ⟨a, o, rfl, g, q⟩ := h
  obtain rfl : u = Value.ref a := ry
  exact d_notIn hu I g rx fun s' I' => ⟨.bl (!o.isSome), H, I', rfl, q⟩
theorem ix_dct (hu : X.A.units + 1 < cLine) : IxR X (fun x y H Q => ∃ a v, x = .ref a ∧ DGet H a y (some v) ∧ Q v H) := by
  intro value slice pins s σ H x y v u Q I rx ry h hs
  obtain ⟨a, r, rfl, g, q⟩ := h
  obtain rfl : v = Value.ref a := rx
  exact tail_any (dict_typeIs I g) slot_dict_getitem.lookup (d_getItem hu I g ry fun w' s3 I3 rw' => ⟨r, H, I3, rw', q⟩) hs
theorem u1 {a : Around} (hu : a.units + 64 < cLine) : a.units + 1 < cLine := by omega
theorem BW.inD {x y : D} {o : Option D} (g : DG S y x o) (hu : X.A.units + 64 < cLine) (h : Q (.bl o.isSome) S) : BW X (compareOp .In) x y S Q := BW.of (op_inDct (u1 hu)) fun F H vx vy Q' rs rx ry k => by
  obtain ⟨a, o', e, g', e2, _⟩ := g.rd rs ry rx
  exact ⟨a, o', e, g', k.nowB' e2 rs h⟩
theorem BW.notInD {x y : D} {o : Option D} (g : DG S y x o) (hu : X.A.units + 64 < cLine) (h : Q (.bl (!o.isSome)) S) : BW X (compareOp .NotIn) x y S Q := BW.of (op_notInDct (u1 hu)) fun F H vx vy Q' rs rx ry k => by
  obtain ⟨a, o', e, g', e2, _⟩ := g.rd rs ry rx
  exact ⟨a, o', e, g', k.nowB' (by rw [e2]) rs h⟩
theorem IW.dct {x y d : D} {o : Option D} (g : DG S x y o) (ho : o = some d) (hu : X.A.units + 64 < cLine) (h : Q d S) : IW X x y S Q := IW.of (ix_dct (u1 hu)) fun F H vx vy Q' rs rx ry k => by
  obtain ⟨a, o', e, g', _, e3⟩ := g.rd rs rx ry
  obtain ⟨w, rfl, rw'⟩ := e3 d ho
  exact ⟨a, w, e, g', k.now rs rw' h⟩
end
section
variable {X : Cx} {n : Nat} {o i e : Expr} {v : Fv} {S : Store} {E : Ed} {pos pos' : Pos}
/-- d[key] = value -/
theorem WS.dput (h : WE X e v S fun y S1 => WE X o v S1 fun d S2 => WE X i v S2 fun kd S3 => ∃ S4, DP S3 d kd y S4 ∧ E.nx v S4) (hu : X.A.units + 64 < cLine)
    (hs : swapsWith e (some (.Subscript o i pos')) pos.line X.env = pure false := by rfl) : WS X n (.Assign [.Subscript o i pos'] e pos) v S E := fun F0 H0 F t H E' hl p k re rs q => by
  refine wS_of (ps_dput (u1 hu) pe_w pe_w pe_w hs) ?_
  refine h F t H _ re rs fun F1 y uy H1 S1 p1 k1 rs1 r1 h1 => ?_
  refine h1 F1 t H1 _ (re.mono p1 k1) rs1 fun F2 d u H2 S2 p2 k2 rs2 r2 h2 => ?_
  refine h2 F2 t H2 _ ((re.mono p1 k1).mono p2 k2) rs2 fun F3 kd uk H3 S3 p3 k3 rs3 r3 h3 => ?_
  obtain ⟨S4, g, z⟩ := h3
  have r2' := RD.mono p3 k3 _ _ r2
  have r1' := RD.mono p3 k3 _ _ (RD.mono p2 k2 _ _ r1)
  have re3 := ((re.mono p1 k1).mono p2 k2).mono p3 k3
  cases g with
  | @k l kvs kk _ hl' hz =>
    obtain ⟨a, rfl, ha⟩ := r2'
    obtain ⟨a', h', e1, e2, vs, e3, e4⟩ := rs3.get hl'
    rw [e1] at ha; cases ha
    subst e3
    rw [kd_rd r3]
    refine ⟨a, _, rfl, DPut.k e2 (by rw [e4.length]; exact hz), ?_⟩
    have kp : Keep H3 (upd H3 a (.dK (putK vs kk uy))) := Keep.upd e2 trivial
    exact q.nx F3 v t _ _ (((p.trans p1).trans p2).trans p3) ((((k.trans k1).trans k2).trans k3).trans kp) (re3.mono (List.prefix_refl F3) kp) (rs3.set (o := .dK (putT kvs kk y)) e1 e2 trivial ⟨_, rfl, e4.put r1'⟩) z
  | @t l kvs kk _ hl' hz =>
    obtain ⟨a, rfl, ha⟩ := r2'
    obtain ⟨a', h', e1, e2, vs, e3, e4⟩ := rs3.get hl'
    rw [e1] at ha; cases ha
    subst e3
    obtain ⟨b, rfl, hb⟩ := kt_rd r3
    refine ⟨a, _, rfl, DPut.t e2 hb (by rw [e4.length]; exact hz), ?_⟩
    have kp : Keep H3 (upd H3 a (.dT (putK vs kk uy))) := Keep.upd e2 trivial
    exact q.nx F3 v t _ _ (((p.trans p1).trans p2).trans p3) ((((k.trans k1).trans k2).trans k3).trans kp) (re3.mono (List.prefix_refl F3) kp) (rs3.set (o := .dT (putT kvs kk y)) e1 e2 trivial ⟨_, rfl, e4.put r1'⟩) z
theorem WE.dT0 {Q : D → Store → Prop} (h : Q (.loc S.length) (S ++ [.dT []])) : WE X (.Dict [] [] pos) v S Q := fun F t H Q' re rs k => by
  refine wE_of pe_dnewT fun p hp => ?_
  exact k (F ++ [p]) (.loc S.length) (.ref p) _ _ ⟨[p], rfl⟩ (Keep.new hp) (rs.new (o := .dT []) hp ⟨_, rfl, rfl⟩) ⟨p, rfl, by rw [← rs.len]; simp⟩ h
theorem WE.dK0 {Q : D → Store → Prop} (h : Q (.loc S.length) (S ++ [.dK []])) : WE X (.Dict [] [] pos) v S Q := fun F t H Q' re rs k => by
  refine wE_of pe_dnewK fun p hp => ?_
  exact k (F ++ [p]) (.loc S.length) (.ref p) _ _ ⟨[p], rfl⟩ (Keep.new hp) (rs.new (o := .dK []) hp ⟨_, rfl, rfl⟩) ⟨p, rfl, by rw [← rs.len]; simp⟩ h
end
end DM

namespace DM
open PySem PySem.Spec PyProof.Rows L2
/-! ### sorted(d), d's keys tuples of ints -/
theorem rs0 (H : Hp) : RS [] H [] := ⟨rfl, List.nodup_nil, fun l o e => by simp at e⟩
theorem kds_of {F : List Addr} {H : Hp} : ∀ (ks : List Key), RDs F H (ks.map kdD) (ks.map kV)
  | [] => rfl
  | .inl i :: ks => ⟨.int i, _, rfl, rfl, kds_of ks⟩
  | .inr x :: ks => ⟨.str x, _, rfl, rfl, kds_of ks⟩
theorem key_rd {F : List Addr} {H : Hp} {k : List Key} {b : Addr} (e : H b = some (.tup (k.map kV))) : RD F H (ktD k) (.ref b) := ⟨b, _, rfl, e, kds_of k⟩
theorem key_dp {K : PySem.W.Frag} {H : Hp} {k : List Key} {b : Addr} (hp : pu 60 (ktD k) = true) (e : H b = some (.tup (k.map kV))) : Dp K H (.ref b) (toP (ktD k)) :=
  PD.dp (rs0 H) _ _ _ (pu_pd [] 60 _ hp).1 (key_rd e)
def rSortDT : List V → Hp → VK → Prop := fun vs H Q => ∃ (a : Addr) (kvs : List (List Key × V)), vs = [.ref a] ∧ Rd H a (.dT kvs) ∧ (∀ kv ∈ kvs, pu 60 (ktD kv.1) = true) ∧
  PySem.W.AllAlike (kvs.map fun kv => toP (ktD kv.1)) ∧ PySem.W.Sortable (kvs.map fun kv => toP (ktD kv.1)) ∧
  ∀ p (zs : List (List Key × Addr)), H p = none → zs.map (·.1) = (kvs.map (·.1)).mergeSort (PySem.W.dataLe false fun k => toP (ktD k)) → (∀ z ∈ zs, H z.2 = some (.tup (z.1.map kV))) → Q (.ref p) (upd H p (.lst (zs.map fun z => V.ref z.2)))
theorem kt_all {H : Hp} : ∀ {kvs : List (List Key × V)} {xs : List (List Key × Addr × Value)}, KT H kvs xs → kvs.map (·.1) = xs.map (·.1) ∧ ∀ x ∈ xs, H x.2.1 = some (.tup (x.1.map kV))
  | _, _, .nil => ⟨rfl, fun _ h => by cases h⟩
  | _, _, .cons h t => by
    obtain ⟨i1, i2⟩ := kt_all t
    refine ⟨by rw [List.map_cons, List.map_cons, i1, h.1], fun x hx => ?_⟩
    rcases List.mem_cons.mp hx with rfl | hx
    · rw [← h.1]; exact h.2.1
    · exact i2 x hx
theorem each_map_of {α β : Type} {R : Value → β → Prop} (f : α → β) (g : α → Value) : ∀ (l : List α), (∀ a ∈ l, R (g a) (f a)) → PySem.W.EachIs R (l.map g) (l.map f)
  | [], _ => .nil
  | a :: l, h => .cons (h a List.mem_cons_self) (each_map_of f g l fun b hb => h b (List.mem_cons_of_mem _ hb))
theorem each_refs : ∀ {us : List Value} {zs : List (List Key × Addr)}, PySem.W.EachIs (fun u (z : List Key × Addr) => u = .ref z.2) us zs → Vals (zs.map fun z => V.ref z.2) us
  | _, _, .nil => .nil
  | _, _, .cons r t => .cons (by rw [r]; exact (rfl : Value.ref _ = Value.ref _)) (each_refs t)
section
variable {X : Cx} {S : Store} {Q : D → Store → Prop}
theorem cr_sortDT (hc : X.calm = true) (hu : X.A.units + 64 < cLine) : CallR X (.builtin "sorted") rSortDT := by
  intro pins s σ H vs us Q I r h
  obtain ⟨a, kvs, rfl, hd, hp, hal, hk, q⟩ := h
  obtain ⟨u, rfl, ru⟩ := vals1 r
  obtain rfl : u = Value.ref a := ru
  obtain ⟨z, lo, xs, kt, dd⟩ := dt_rd I.hok hd
  obtain ⟨es, ep, raw, hsz, hes⟩ := dd.raw
  obtain ⟨ek, ea⟩ := kt_all kt
  have hxl : xs.length = kvs.length := by have := congrArg List.length ek; simpa using this.symm
  have h16 : es.size ≤ sizeLine := by rw [hsz, hxl]; exact z
  refine Calls.call_function_entry PyProof.Rows.kind_sorted PyProof.Rows.plain_sorted PyProof.Rows.entry_sorted (PyProof.Rows.args_sorted1 _) ?_
  unfold Builtin.«sorted»
  refine wpAny_bind (m := checkCount "sorted" 1 1 _) (wpAny_pure ?_)
  refine wpAny_bind (PySem.W.kdu_collect (A := X.A.in1) (KdlSrc.rawDict (es := es) (ep := ep) lo) (I.ok.hd hc) raw h16 fun h' tk acc hk' hacc => ?_)
  have eacc : acc.toList = xs.map fun x => Value.ref x.2.1 := by
    apply List.ext_getElem?
    intro j
    rw [List.getElem?_map, Array.getElem?_toList]
    cases e : acc[j]? with
    | none =>
      have : xs.length ≤ j := by rw [← hsz, ← hacc.1]; exact Array.getElem?_eq_none_iff.mp e
      rw [List.getElem?_eq_none this]; rfl
    | some v =>
      obtain ⟨hi, ev⟩ := hacc.2 j v e
      obtain ⟨y, e1, e2, _⟩ := hes j hi
      rw [e1, ev, e2]; rfl
  have I1 : Inv X pins σ H { s with heap := h', toks := tk } := I.kept hk'
  have hal' : acc.toList.length = xs.length := by rw [eacc, List.length_map]
  have hlz : acc.toList.length ≤ sizeLine := by rw [hal', hxl]; exact z
  refine wpAny_bind (wpAny_newList ?_ hlz)
  have hoL : (h'.push (seqObj "list" acc.toList.toArray 0)).get? h'.objs.size = some (seqObj "list" acc.toList.toArray 0) := Heap.get?_push_size _ rfl
  show wpAny _ _ _ _ _ { s with heap := h'.push (seqObj "list" acc.toList.toArray 0), toks := tk }
  -- the pairs of key and place
  have e1 : PySem.W.EachIs (fun u (z : List Key × Addr) => u = Value.ref z.2) acc.toList (xs.map fun x => (x.1, x.2.1)) := by
    rw [eacc]; exact each_map_of (R := fun u (z : List Key × Addr) => u = Value.ref z.2) (fun x : List Key × Addr × Value => (x.1, x.2.1)) _ xs fun x _ => rfl
  have hpx : ∀ x ∈ xs, pu 60 (ktD x.1) = true := fun x hx => by
    have : x.1 ∈ kvs.map (·.1) := by rw [ek]; exact List.mem_map.mpr ⟨x, hx, rfl⟩
    obtain ⟨kv, h1, h2⟩ := List.mem_map.mp this
    rw [← h2]; exact hp kv h1
  have er : PySem.W.EachIs (fun u (z : List Key × Addr) => ∃ as, Reads s.heap u (toP (ktD z.1)) as) acc.toList (xs.map fun x => (x.1, x.2.1)) := by
    rw [eacc]; exact each_map_of (R := fun u (z : List Key × Addr) => ∃ as, Reads s.heap u (toP (ktD z.1)) as) (fun x : List Key × Addr × Value => (x.1, x.2.1)) _ xs fun x hx =>
      Dp.reads I _ _ _ (key_dp (hpx x hx) (ea x hx)) (rfl : Value.ref _ = Value.ref _)
  have old : ∀ b o, s.heap.get? b = some o → (PySem.W.sortingHeap (h'.push (seqObj "list" acc.toList.toArray 0)) h'.objs.size acc.toList).get? b = some o := fun b o e =>
    PySem.W.sortingHeap_old (Nat.ne_of_lt (Heap.lt_size (hk' b o e))) (Heap.get?_push_of_some _ (hk' b o e))
  have er' : PySem.W.EachIs (fun u (z : List Key × Addr) => ∃ as, Reads (PySem.W.sortingHeap (h'.push (seqObj "list" acc.toList.toArray 0)) h'.objs.size acc.toList) u (toP (ktD z.1)) as) acc.toList (xs.map fun x => (x.1, x.2.1)) :=
    er.mono fun _ _ ⟨as, r⟩ => ⟨as, PyProof.Rows.Reads.keeps (fun b o e => old b o e) r⟩
  have mz : (kvs.map fun kv => toP (ktD kv.1)) = (xs.map fun x => (x.1, x.2.1)).map fun (z : List Key × Addr) => toP (ktD z.1) := by
    have := congrArg (List.map fun k => toP (ktD k)) ek
    simpa [List.map_map, Function.comp_def] using this
  rw [mz] at hal hk
  have hdep : ∀ z ∈ (xs.map fun x => (x.1, x.2.1) : List (List Key × Addr)), X.A.units + 4 + (toP (ktD z.1)).depth < cLine := fun z hz => by
    obtain ⟨x, hx, rfl⟩ := List.mem_map.mp hz
    have := (pu_pd [] 60 _ (hpx x hx)).2.2
    show X.A.units + 4 + (toP (ktD x.1)).depth < cLine
    omega
  refine wpAny_bind (wpAny_holding (wpAny_call_entry PyProof.Rows.slot_list_sort ⟨_, hoL, rfl⟩ PyProof.Rows.entry_list_sort
    (PySem.W.list_sort_vals (s := { s with heap := h'.push (seqObj "list" acc.toList.toArray 0), toks := tk }) hoL (PySem.W.SortsAt.data (s := { s with heap := PySem.W.sortingHeap (h'.push (seqObj "list" acc.toList.toArray 0)) h'.objs.size acc.toList, toks := tk }) (PySem.W.each_map (R := fun v d => ∃ as, Reads (PySem.W.sortingHeap (h'.push (seqObj "list" acc.toList.toArray 0)) h'.objs.size acc.toList) v d as) (fun z : List Key × Addr => toP (ktD z.1)) er') hal hk (PySem.W.bound_map (fun z hz => Nat.lt_of_le_of_lt (by show (X.A.units + 1 + 1) + _ ≤ _; omega) (hdep z hz)))) hlz ⟨_, rfl, ?_⟩)
    (PyProof.Rows.args_list_sort _)))
  have eo := PySem.W.sortVals_data false e1 er' hal
  have hol := PySem.W.sortVals_length (κ := PySem.W.dataKind (PySem.W.sortingHeap (h'.push (seqObj "list" acc.toList.toArray 0)) h'.objs.size acc.toList) ((xs.map fun x => (x.1, x.2.1)).map fun z : List Key × Addr => toP (ktD z.1))) false (ks := acc.toList) (vs := acc.toList) rfl
  generalize PySem.W.sortVals (PySem.W.dataKind (PySem.W.sortingHeap (h'.push (seqObj "list" acc.toList.toArray 0)) h'.objs.size acc.toList) ((xs.map fun x => (x.1, x.2.1)).map fun z : List Key × Addr => toP (ktD z.1))) false acc.toList acc.toList = out at *
  obtain ⟨e', he'⟩ := PyProof.Rows.sortedHeap_at (vs := acc.toList) (out := out.toArray) hoL
  refine wpAny_pure ⟨_, rfl, .ref h'.objs.size, upd H h'.objs.size (.lst (((xs.map fun x => (x.1, x.2.1)).mergeSort (PySem.W.dataLe false fun z : List Key × Addr => toP (ktD z.1))).map fun z => V.ref z.2)), I1.laid (t' := tk) (fun b u e => ?_) (Nat.le_refl _)
    (show ObjOk X.prog X.w _ _ _ (.lst _) from ⟨?_, out, e', each_refs eo, he'⟩), rfl, q _ _ (I1.hok.fresh (Nat.le_refl _)) ?_ ?_⟩
  · have hb : b < h'.objs.size := Heap.lt_size e
    rw [PyProof.Rows.sortedHeap_old (Nat.ne_of_lt hb) (by rw [size_push']; exact Nat.lt_succ_of_lt hb)]
    exact Heap.get?_push_of_some _ e
  · rw [List.length_map, List.length_mergeSort, List.length_map, hxl]; exact z
  · refine (List.map_mergeSort (f := fun z : List Key × Addr => z.1) (r := PySem.W.dataLe false fun z : List Key × Addr => toP (ktD z.1)) (s := PySem.W.dataLe false fun k => toP (ktD k)) (l := xs.map fun x => (x.1, x.2.1)) fun _ _ _ _ => rfl).trans ?_
    rw [List.map_map, ek]; rfl
  · intro z hz
    obtain ⟨x, hx, rfl⟩ := List.mem_map.mp (List.mem_mergeSort.mp hz)
    exact ea x hx
theorem RKs.keys {κ : Type} {F : List Addr} {H : Hp} : ∀ {kvs : List (κ × D)} {vs : List (κ × V)}, RKs F H kvs vs → vs.map (·.1) = kvs.map (·.1)
  | [], vs, r => by cases (show vs = [] from r); rfl
  | p :: kvs, vs, r => by
    obtain ⟨v, r', rfl, h1, h2⟩ := r
    rw [List.map_cons, List.map_cons, RKs.keys h2]
def leK (x y : List Key) : Bool := PySem.W.dataLe false (fun k => toP (ktD k)) x y
theorem keys_rds {F : List Addr} {H : Hp} : ∀ (zs : List (List Key × Addr)), (∀ z ∈ zs, H z.2 = some (.tup (z.1.map kV))) → RDs F H ((zs.map (·.1)).map ktD) (zs.map fun z => V.ref z.2)
  | [], _ => rfl
  | z :: zs, h => ⟨.ref z.2, _, rfl, key_rd (h z List.mem_cons_self), keys_rds zs fun y hy => h y (List.mem_cons_of_mem _ hy)⟩
/-- sorted(d): its keys in order -/
theorem CW.sortDT {l : Nat} {kvs : List (List Key × D)} (hl : S[l]? = some (.dT kvs)) (hp : ∀ k ∈ kvs.map (·.1), pu 60 (ktD k) = true) (hal : PySem.W.AllAlike ((kvs.map (·.1)).map fun k => toP (ktD k))) (hk : PySem.W.Sortable ((kvs.map (·.1)).map fun k => toP (ktD k)))
    (hc : X.calm = true) (hu : X.A.units + 64 < cLine) (h : Q (.loc S.length) (S ++ [.lst (((kvs.map (·.1)).mergeSort leK).map ktD)])) : CW X (.builtin "sorted") [.loc l] S Q := CW.of (cr_sortDT hc hu) fun F H vs Q' rs r k => by
  obtain ⟨v, r', rfl, ⟨a, rfl, ha⟩, e⟩ := r
  cases (show r' = [] from e)
  obtain ⟨a', h', e1, e2, vs, e3, e4⟩ := rs.get hl
  rw [e1] at ha; cases ha
  subst e3
  have ek := e4.keys
  have mk : (vs.map fun kv => toP (ktD kv.1)) = (kvs.map (·.1)).map fun k => toP (ktD k) := by rw [← ek, List.map_map]; rfl
  refine ⟨a, vs, rfl, .inl e2, fun kv hkv => hp _ (by rw [← ek]; exact List.mem_map.mpr ⟨kv, hkv, rfl⟩), by rw [mk]; exact hal, by rw [mk]; exact hk, fun p zs hp' hz ha => ?_⟩
  have rd : RDs F H (((kvs.map (·.1)).mergeSort leK).map ktD) (zs.map fun z => V.ref z.2) := by
    have e : (kvs.map (·.1)).mergeSort leK = zs.map (·.1) := by rw [hz, ek]; rfl
    rw [e]; exact keys_rds zs ha
  exact k (F ++ [p]) (.loc S.length) (.ref p) _ _ ⟨[p], rfl⟩ (Keep.new hp') (rs.new (o := .lst (((kvs.map (·.1)).mergeSort leK).map ktD)) hp' ⟨_, rfl, rd⟩) ⟨p, rfl, by rw [← rs.len]; simp⟩ h
end
end DM

namespace DM
open PySem PySem.Spec PyProof.Rows L2
/-! ### list(d.values()), xs.count(n), d.update(e) -/
def valsO (p d : Addr) : HO := .ext fun h => h.IsValuesView p d
theorem valsO_ok {P : Program} {w : World} {H : Hp} {h : Heap} {p d : Addr} (e : h.get? p = some { cls := .type "dict_values", data := .fields #[.ref d] }) : ObjOk P w H h p (valsO p d) :=
  ⟨⟨_, e, rfl, rfl⟩, ⟨_, e⟩, fun h1 h2 x k => let ⟨o, ho, r⟩ := x; ⟨o, k o ho, r⟩⟩
def putAllK {κ : Type} [DecidableEq κ] (kvs more : List (κ × V)) : List (κ × V) := more.foldl (fun acc kv => putK acc kv.1 kv.2) kvs
def putAllT {κ β : Type} [DecidableEq κ] (kvs more : List (κ × β)) : List (κ × β) := more.foldl (fun acc kv => putT acc kv.1 kv.2) kvs
theorem RKs.putAll {κ : Type} [DecidableEq κ] {F : List Addr} {H : Hp} : ∀ {more : List (κ × D)} {mv : List (κ × V)} {kvs : List (κ × D)} {vs : List (κ × V)}, RKs F H more mv → RKs F H kvs vs → RKs F H (putAllT kvs more) (putAllK vs mv)
  | [], mv, kvs, vs, r, q => by cases (show mv = [] from r); exact q
  | p :: more, mv, kvs, vs, r, q => by
    obtain ⟨v, r', rfl, h1, h2⟩ := r
    exact RKs.putAll (kvs := putT kvs p.1 p.2) (vs := putK vs p.1 v) h2 (q.put h1)
theorem KT.putAll {H : Hp} : ∀ {more : List (List Key × V)} {ys : List (List Key × Addr × Value)} {kvs : List (List Key × V)} {xs : List (List Key × Addr × Value)}, KT H more ys → KT H kvs xs → KT H (putAllK kvs more) (PySem.storedAllH xs ys)
  | _, _, _, _, .nil, q => q
  | _, _, _, _, .cons (a := p) (b := y) h t, q => by
    have := KT.put q p.1 h.2.1 h.2.2
    rw [h.1] at this
    have := KT.putAll t this
    unfold putAllK PySem.storedAllH at *
    rw [List.foldl_cons, List.foldl_cons, h.1]
    exact this
theorem putAllK_len {κ : Type} [DecidableEq κ] : ∀ (more kvs : List (κ × V)), (putAllK kvs more).length ≤ kvs.length + more.length
  | [], kvs => Nat.le_refl _
  | p :: more, kvs => by
    have := putAllK_len more (putK kvs p.1 p.2)
    have h := length_putK kvs p.1 p.2
    show (putAllK (putK kvs p.1 p.2) more).length ≤ _
    rw [List.length_cons]; omega
abbrev hashT (P : Program) (w : World) (k : List Key) := (tupleKind (mixKind P w)).hash k
section
variable {X : Cx} {S : Store} {Q : D → Store → Prop}
def rValuesT : V → List V → Hp → VK → Prop := fun x xs H Q => ∃ (a : Addr) (kvs : List (List Key × V)), x = .ref a ∧ xs = [] ∧ H a = some (.dT kvs) ∧ ∀ p, H p = none → Q (.ref p) (upd H p (valsO p a))
theorem mt_valuesT : MtR X "dict.values" rValuesT := by
  intro pins s σ H x xs v us Q I rx rxs h
  obtain ⟨a, kvs, rfl, rfl, ha, q⟩ := h
  cases rx
  cases rxs
  obtain ⟨z, hd, xs', rel, dd⟩ := dt_of I.hok ha
  obtain ⟨es, ep, raw, _⟩ := dd.raw
  have hf : H s.heap.objs.size = none := I.hok.fresh (Nat.le_refl _)
  exact call_meetsIn PySem.F.slot_dict_values raw.typeIs PySem.F.entry_dict_values (PySem.F.args_dict_values_1 _) (PySem.meets_dict_values_raw a hd) ⟨⟨es, ep, raw⟩,
    ⟨.ref s.heap.objs.size, upd H s.heap.objs.size (valsO s.heap.objs.size a), I.laid (t' := s.toks) (fun b u e => Heap.get?_push_of_some _ e) (Nat.le_refl _) (valsO_ok (Heap.get?_push_size _ rfl)), rfl, q _ hf⟩⟩
theorem kt_vals {H : Hp} : ∀ {kvs : List (List Key × V)} {xs : List (List Key × Addr × Value)}, KT H kvs xs → Vals (kvs.map (·.2)) (xs.map fun x => x.2.2)
  | _, _, .nil => .nil
  | _, _, .cons h t => .cons h.2.2 (kt_vals t)
theorem cr_listValsT (hc : X.calm = true) : CallR X (.type "list") (fun vs H Q => ∃ (p a : Addr) (kvs : List (List Key × V)), vs = [.ref p] ∧ H p = some (valsO p a) ∧ H a = some (.dT kvs) ∧ ∀ q, H q = none → Q (.ref q) (upd H q (.lst (kvs.map (·.2))))) := by
  intro pins s σ H vs us Q I r h
  obtain ⟨p, a, kvs, rfl, hp, ha, q⟩ := h
  obtain ⟨u, rfl, ru⟩ := vals1 r
  obtain rfl : u = Value.ref p := ru
  obtain ⟨z, hd, xs, kt, dd⟩ := dt_of I.hok ha
  obtain ⟨es, ep, raw, hsz, hes⟩ := dd.raw
  have hxl : xs.length = kvs.length := (Paired.length kt).symm
  have view : s.heap.IsValuesView p a := (I.hok _ _ hp).1
  refine PySem.W.kdl_call (PySem.KdlSrc.rawValues (es := es) (ep := ep)) (I.ok.hd hc) ⟨view, raw⟩ (by rw [hsz, hxl]; exact z) fun h' tk acc c hk ho hacc => ?_
  have eacc : acc.toList = xs.map fun x => x.2.2 := by
    apply List.ext_getElem?
    intro j
    rw [List.getElem?_map, Array.getElem?_toList]
    cases e : acc[j]? with
    | none =>
      have : xs.length ≤ j := by rw [← hsz, ← hacc.1]; exact Array.getElem?_eq_none_iff.mp e
      rw [List.getElem?_eq_none this]; rfl
    | some v =>
      obtain ⟨hi, ev⟩ := hacc.2 j v e
      obtain ⟨y, e1, _, e2, _⟩ := hes j hi
      rw [e1, ev, e2]; rfl
  refine ⟨.ref s.heap.objs.size, upd H s.heap.objs.size (.lst (kvs.map (·.2))), I.laid (t' := tk) hk (Nat.le_refl _) ⟨by rw [List.length_map]; exact z, acc.toList, c, by rw [eacc]; exact kt_vals kt, ?_⟩, rfl, q _ (I.hok.fresh (Nat.le_refl _))⟩
  rw [Array.toArray_toList]; exact ho
theorem RKs.vals {κ : Type} {F : List Addr} {H : Hp} : ∀ {kvs : List (κ × D)} {vs : List (κ × V)}, RKs F H kvs vs → RDs F H (kvs.map (·.2)) (vs.map (·.2))
  | [], vs, r => by cases (show vs = [] from r); rfl
  | p :: kvs, vs, r => by
    obtain ⟨v, r', rfl, h1, h2⟩ := r
    exact ⟨v, _, rfl, h1, RKs.vals h2⟩
/-- list(d.values()) -/
theorem WE.listVals {o : Expr} {v : Fv} {apos cpos p pos : Pos} (h : WE X o v S fun d S1 => ∃ l kvs, d = .loc l ∧ S1[l]? = some (.dT kvs) ∧ Q (.loc S1.length) (S1 ++ [.lst (kvs.map (·.2))])) (hc : X.calm = true) (hm : X.mg "list" = none) (hg : Gl X "list" := by rfl)
    (hbase : attributeBase o "values" X.env (eval o X.env) = eval o X.env := by rfl) (hline : (apos.endLine == cpos.line) = true := by rfl)
    (he : starEach [.Call (.Attribute o "values" apos) [] [] cpos] X.env = (false, eval (.Call (.Attribute o "values" apos) [] [] cpos) X.env) :: starEach [] X.env := by rfl) (hpl : (backTo pos (starEach [] X.env)).any (·.1) = false := by rfl) :
    WE X (.Call (.Name "list" p) [.Call (.Attribute o "values" apos) [] [] cpos] [] pos) v S Q := fun F t H Q' re rs k => by
  refine wE_of (pe_callTy (cr_listValsT hc) hg hm boot_list (pa_cons (pe_bm0 PySem.F.plainAttrs_dict PySem.F.slot_dict_values PySem.F.type_dict_values mt_valuesT pe_w hbase hline) pa_nil) (by decide) (by decide) he hpl) ?_
  refine h F t H _ re rs fun F1 d u H1 S1 p1 k1 rs1 r1 h1 => ?_
  obtain ⟨l, kvs, rfl, hl, q⟩ := h1
  obtain ⟨a, rfl, ha⟩ := r1
  obtain ⟨a', h', e1, e2, vs, e3, e4⟩ := rs1.get hl
  rw [e1] at ha; cases ha
  subst e3
  refine ⟨Or.inr (Or.inr (Or.inl ⟨rfl, Or.inr ⟨_, e2⟩⟩)), a, vs, rfl, rfl, e2, fun p hp => ?_⟩
  have e2' : (upd H1 p (valsO p a)) a = some (.dT vs) := by rw [upd_ne (ne_of_none e2 hp)]; exact e2
  refine ⟨p, a, vs, rfl, upd_same, e2', fun q' hq => ?_⟩
  have rs2 : RS F1 (upd H1 p (valsO p a)) S1 := rs1.other hp
  have k2 : Keep H1 (upd H1 p (valsO p a)) := Keep.new hp
  have e4' := RKs.vals e4
  have rd : RDs F1 (upd H1 p (valsO p a)) (kvs.map (·.2)) (vs.map (·.2)) := RDs.mono (List.prefix_refl F1) k2 _ _ e4'
  exact k (F1 ++ [q']) (.loc S1.length) (.ref q') _ _ (p1.trans ⟨[q'], rfl⟩) ((k1.trans k2).trans (Keep.new hq)) (rs2.new (o := .lst (kvs.map (·.2))) hq ⟨_, rfl, rd⟩) ⟨q', rfl, by rw [← rs1.len]; simp⟩ q
theorem MW.count {l : Nat} {ns : List Int} {j : Int} (hl : S[l]? = some (.lst (ns.map D.int))) (h : Q (.int (ns.count j : Nat)) S) : MW X "list.count" (.loc l) [.int j] S Q := MW.ofR mt_lcount fun F H vx vs Q' rs rx r k => by
  obtain ⟨a, rfl, ha⟩ := rx
  obtain ⟨a', h', e1, e2, ws, e3, e4⟩ := rs.get hl
  rw [e1] at ha; cases ha
  subst e3
  cases (ints_rd e4)
  obtain ⟨v, r', rfl, h1, h2⟩ := r
  cases (show r' = [] from h2)
  cases h1
  exact ⟨a, ns, j, rfl, rfl, SqL.of e2, k.nowI rs h⟩
def rUpdT (P : Program) (w : World) : V → List V → Hp → VK → Prop := fun x xs H Q => ∃ (a o : Addr) (kvs more : List (List Key × V)), x = .ref a ∧ xs = [.ref o] ∧ a ≠ o ∧ H a = some (.dT kvs) ∧ H o = some (.dT more) ∧ kvs.length + more.length ≤ sizeLine ∧
  (kvs ≠ [] ∨ (more.map fun kv => hashT P w kv.1).Nodup) ∧ Q .non (upd H a (.dT (putAllK kvs more)))
theorem mt_updT (hu : X.A.units + 1 < cLine) : MtR X "dict.update" (rUpdT X.prog X.w) := by
  intro pins s σ H x xs v us Q I rx rxs h
  obtain ⟨a, o, kvs, more, rfl, rfl, hne, ha, ho, hz, hap, q⟩ := h
  cases rx
  obtain ⟨u, rfl, ru⟩ := rxs.one
  obtain rfl : u = Value.ref o := ru
  obtain ⟨z, hd, ys, kt, dd⟩ := dt_of I.hok ha
  obtain ⟨z2, hd2, ms, kt2, dd2⟩ := dt_of I.hok ho
  have l1 : kvs.length = ys.length := Paired.length kt
  have l2 : more.length = ms.length := Paired.length kt2
  obtain ⟨ek, ea⟩ := kt_all kt2
  refine PySem.call_update_dictH (tupleKind_room_in1 hu) hne hd2 dd dd2 ?_ (by rw [← l1, ← l2]; exact hz) fun h' d1 d2 hs => ?_
  · rcases hap with e | e
    · exact .inl fun z => e (List.length_eq_zero_iff.mp (by rw [l1, z]; rfl))
    · refine .inr ⟨fun x hx => ?_, ?_⟩
      · obtain ⟨_, its, _, ob, ho', hc', _⟩ := I.hok _ _ (ea x hx)
        exact ⟨ob, ho', hc'⟩
      · have : (more.map fun kv => hashT X.prog X.w kv.1) = ms.map fun x => hashT X.prog X.w x.1 := by
          have := congrArg (List.map fun k => hashT X.prog X.w k) ek
          simpa [List.map_map, Function.comp_def] using this
        rw [← this]; exact e
  · obtain ⟨q0, es, ep, hq, h2, h3, h4, _, h5⟩ := id d1
    have hl : (putAllK kvs more).length ≤ sizeLine := Nat.le_trans (putAllK_len more kvs) hz
    refine ⟨.non, _, d_write (t' := s.toks) (ob := .dT (putAllK kvs more)) I (by rw [ha]; exact True.intro) hs ⟨q0, hq⟩ ⟨hl, hd, _, (KT.putAll kt2 kt).keeps fun c ws ec => ?_, q0, es, ep, hq, h2, h3, h4, h5⟩, rfl, q⟩
    rw [upd_ne (ne_of ec ha (fun z => nomatch z))]
    exact ec
/-- d.update(e) -/
theorem MW.updT {l m : Nat} {kvs more : List (List Key × D)} (hl : S[l]? = some (.dT kvs)) (hm : S[m]? = some (.dT more)) (hne : l ≠ m) (hz : kvs.length + more.length ≤ sizeLine) (hap : kvs ≠ [] ∨ (more.map fun kv => hashT X.prog X.w kv.1).Nodup) (hu : X.A.units + 64 < cLine)
    (h : Q .non (S.set l (.dT (putAllT kvs more)))) : MW X "dict.update" (.loc l) [.loc m] S Q := MW.ofR (mt_updT (u1 hu)) fun F H vx vs Q' rs rx r k => by
  obtain ⟨a, rfl, ha⟩ := rx
  obtain ⟨a', h', e1, e2, ws, e3, e4⟩ := rs.get hl
  rw [e1] at ha; cases ha
  subst e3
  obtain ⟨v, r', rfl, ⟨b, rfl, hb⟩, h2⟩ := r
  cases (show r' = [] from h2)
  obtain ⟨b', h', f1, f2, us, f3, f4⟩ := rs.get hm
  rw [f1] at hb; cases hb
  subst f3
  have ne : a ≠ b := fun e => by
    subst e
    have hi : l < F.length := (List.getElem?_eq_some_iff.mp e1).1
    have hj : m < F.length := (List.getElem?_eq_some_iff.mp f1).1
    have g1 : F[l] = a := (List.getElem?_eq_some_iff.mp e1).2
    have g2 : F[m] = a := (List.getElem?_eq_some_iff.mp f1).2
    exact hne ((List.getElem_inj rs.nd).mp (g1.trans g2.symm))
  refine ⟨a, b, ws, us, rfl, rfl, ne, e2, f2, by rw [e4.length, f4.length]; exact hz, ?_, ?_⟩
  · rcases hap with e | e
    · exact .inl fun z => e (List.length_eq_zero_iff.mp (by rw [← e4.length, z]; rfl))
    · have : (us.map fun kv => hashT X.prog X.w kv.1) = more.map fun kv => hashT X.prog X.w kv.1 := by
        have := congrArg (List.map fun k => hashT X.prog X.w k) f4.keys
        simpa [List.map_map, Function.comp_def] using this
      exact .inr (by rw [this]; exact e)
  · exact k F .non .non _ _ (List.prefix_refl F) (Keep.upd e2 trivial) (rs.set (o := .dT (putAllT kvs more)) e1 e2 trivial ⟨_, rfl, RKs.putAll f4 e4⟩) rfl h
end
end DM

namespace DM
open PySem PySem.Spec PyProof.Rows L2
/-! ### walking a dict: it is locked meanwhile -/
def Keep0 (H H' : Hp) : Prop := (∀ a xs, H a = some (.tup xs) → H' a = some (.tup xs)) ∧ ∀ a o xs, H a = some (.frz o (.lst xs)) → H' a = some (.frz o (.lst xs))
section
variable {F : List Addr} {H H' : Hp}
mutual
theorem RD.m0 (k : Keep0 H H') : ∀ (d : D) (v : V), RD F H d v → RD F H' d v
  | .non, _, h => h
  | .bl _, _, h => h
  | .int _, _, h => h
  | .str _, _, h => h
  | .ty _, _, h => h
  | .ref _, _, h => h
  | .tup xs, _, ⟨a, vs, e, s, r⟩ => ⟨a, vs, e, k.1 _ _ s, RDs.m0 k xs vs r⟩
  | .loc _, _, ⟨a, e, h⟩ => ⟨a, e, h⟩
  | .scr _, _, ⟨a, o, e, h⟩ => ⟨a, o, e, k.2 _ _ _ h⟩
theorem RDs.m0 (k : Keep0 H H') : ∀ (xs : List D) (vs : List V), RDs F H xs vs → RDs F H' xs vs
  | [], _, h => h
  | x :: xs, _, ⟨v, r, e, h1, h2⟩ => ⟨v, r, e, RD.m0 k x v h1, RDs.m0 k xs r h2⟩
end
theorem RKs.m0 {κ : Type} (k : Keep0 H H') : ∀ (xs : List (κ × D)) (vs : List (κ × V)), RKs F H xs vs → RKs F H' xs vs
  | [], _, h => h
  | x :: xs, _, ⟨v, r, e, h1, h2⟩ => ⟨v, r, e, RD.m0 k x.2 v h1, RKs.m0 k xs r h2⟩
theorem RO.m0 (k : Keep0 H H') : ∀ (o : Ob) (h : HO), RO F H o h → RO F H' o h
  | .lst xs, _, ⟨vs, e, r⟩ => ⟨vs, e, RDs.m0 k xs vs r⟩
  | .dK xs, _, ⟨vs, e, r⟩ => ⟨vs, e, RKs.m0 k xs vs r⟩
  | .dT xs, _, ⟨vs, e, r⟩ => ⟨vs, e, RKs.m0 k xs vs r⟩
  | .ins C xs, _, ⟨dx, vs, e, r⟩ => ⟨dx, vs, e, RKs.m0 k xs vs r⟩
  | .frz o u, _, ⟨g, e, r⟩ => ⟨g, e, RO.m0 k u g r⟩
theorem RE.m0 {e : Fv} {t : L2.St} (k : Keep0 H H') (h : RE F H e t) : RE F H' e t := ⟨h.len, fun i d q => by
  obtain ⟨v, q1, q2⟩ := h.at_ i d q
  exact ⟨v, q1, RD.m0 k d v q2⟩⟩
end
theorem keep_unlock {H H1 : Hp} {a : Addr} {g : HO} {od : Obj} (e2 : H a = some g) (n : NoT g) (k1 : Keep (upd H a (.frz od g)) H1) : Keep H (upd H1 a g) :=
  ⟨fun b xs q => by
    have ne : b ≠ a := fun z => by rw [z, e2] at q; cases q; exact n
    rw [upd_ne ne]; exact k1.1 b xs (by rw [upd_ne ne]; exact q),
   fun b o u q => by
    have ne : b ≠ a := fun z => by rw [z, e2] at q; cases q; exact n
    rw [upd_ne ne]; exact k1.2 b o u (by rw [upd_ne ne]; exact q)⟩
section
variable {X : Cx} {n l : Nat} {st : Stmt} {v : Fv} {S : Store} {E : Ed}
def lockEd (l : Nat) (o : Obj) (u : Ob) (E : Ed) : Ed := { nx := fun v1 S1 => S1[l]? = some (.frz o u) ∧ E.nx v1 (S1.set l u), rt := fun d S1 => S1[l]? = some (.frz o u) ∧ E.rt d (S1.set l u), bk := fun v1 S1 => S1[l]? = some (.frz o u) ∧ E.bk v1 (S1.set l u), ct := fun v1 S1 => S1[l]? = some (.frz o u) ∧ E.ct v1 (S1.set l u) }
theorem WS.lock {kvs : List (List Key × D)} (hl : S[l]? = some (.dT kvs)) (h : ∀ o, WS X S.length st v (S.set l (.frz o (.dT kvs))) (lockEd l o (.dT kvs) E)) : WS X n st v S E := fun F0 H0 F t H E' hl' p k re rs q => by
  refine wS_of (ps_lock ps_w) ?_
  obtain ⟨a, g, e1, e2, vs, e3, e4⟩ := rs.get hl
  subst e3
  refine ⟨a, .dT vs, e2, trivial, fun od => ?_⟩
  have kk : Keep H (upd H a (.frz od (.dT vs))) := Keep.upd e2 trivial
  have rs' : RS F (upd H a (.frz od (.dT vs))) (S.set l (.frz od (.dT kvs))) := rs.set (o := .frz od (.dT kvs)) e1 e2 trivial ⟨.dT vs, rfl, vs, rfl, e4⟩
  have re' := re.mono (List.prefix_refl F) kk
  -- what is left behind, unlocked
  have un : ∀ F1 H1 S1, F <+: F1 → Keep (upd H a (.frz od (.dT vs))) H1 → RS F1 H1 S1 → S1[l]? = some (.frz od (.dT kvs)) → H1 a = some (.frz od (.dT vs)) ∧ Keep H (upd H1 a (.dT vs)) ∧ Keep0 H1 (upd H1 a (.dT vs)) ∧ RS F1 (upd H1 a (.dT vs)) (S1.set l (.dT kvs)) := by
    intro F1 H1 S1 p1 k1 rs1 hS
    have ha := k1.2 a od (.dT vs) upd_same
    have k0 : Keep0 H1 (upd H1 a (.dT vs)) := ⟨fun b xs z => by rw [upd_ne (fun y => by rw [y, ha] at z; cases z)]; exact z, fun b o xs z => by rw [upd_ne (fun y => by rw [y, ha] at z; cases z)]; exact z⟩
    obtain ⟨a1, g1, f1, f2, g2, f3, f4⟩ := rs1.get hS
    have ea : a1 = a := by
      have := pre_get p1 e1
      rw [f1] at this
      exact Option.some.inj this
    subst ea
    rw [ha] at f2
    cases f2
    injection f3 with _ f3
    subst f3
    refine ⟨ha, keep_unlock e2 trivial k1, k0, by simp [rs1.len], rs1.nd, fun j ob e => ?_⟩
    by_cases hj : j = l
    · subst hj
      rw [List.getElem?_set_self (rs1.lt f1)] at e
      cases e
      exact ⟨a1, .dT vs, f1, upd_same, RO.m0 k0 _ _ f4⟩
    · rw [List.getElem?_set_ne (fun z => hj z.symm)] at e
      obtain ⟨b, w, q1, q2, q3⟩ := rs1.ob j ob e
      have nb : b ≠ a1 := fun z => by
        subst z
        obtain ⟨i1, i2⟩ := List.getElem?_eq_some_iff.mp q1
        obtain ⟨j1, j2⟩ := List.getElem?_eq_some_iff.mp f1
        exact hj ((List.getElem_inj rs1.nd).mp (i2.trans j2.symm))
      exact ⟨b, w, q1, by rw [upd_ne nb]; exact q2, RO.m0 k0 _ _ q3⟩
  refine h od F (upd H a (.frz od (.dT vs))) F t _ _ rs.len (List.prefix_refl F) (Keep.refl _) re' rs' ⟨fun F1 v1 t1 H1 S1 p1 k1 re1 rs1 z => ?_, fun F1 d1 u1 H1 S1 p1 k1 rs1 r1 z => ?_, fun F1 v1 t1 H1 S1 p1 k1 re1 rs1 z => ?_, fun F1 v1 t1 H1 S1 p1 k1 re1 rs1 z => ?_⟩
  · obtain ⟨u1, u2, u3, u4⟩ := un F1 H1 S1 p1 k1 rs1 z.1
    exact ⟨u1, q.nx F1 v1 t1 _ _ (p.trans p1) (k.trans u2) (RE.m0 u3 re1) u4 z.2⟩
  · obtain ⟨u1', u2, u3, u4⟩ := un F1 H1 S1 p1 k1 rs1 z.1
    exact ⟨u1', q.rt F1 d1 u1 _ _ (p.trans p1) (k.trans u2) u4 (RD.m0 u3 _ _ r1) z.2⟩
  · obtain ⟨u1, u2, u3, u4⟩ := un F1 H1 S1 p1 k1 rs1 z.1
    exact ⟨u1, q.bk F1 v1 t1 _ _ (p.trans p1) (k.trans u2) (RE.m0 u3 re1) u4 z.2⟩
  · obtain ⟨u1, u2, u3, u4⟩ := un F1 H1 S1 p1 k1 rs1 z.1
    exact ⟨u1, q.ct F1 v1 t1 _ _ (p.trans p1) (k.trans u2) (RE.m0 u3 re1) u4 z.2⟩
/-- for k in d, d locked -/
theorem WI.keysT {tg e : Expr} {R : Src → Store → Prop} (h : WE X e v S fun d S1 => ∃ l o kvs, d = .loc l ∧ S1[l]? = some (.frz o (.dT kvs)) ∧ R ⟨kvs.map fun kv => ktD kv.1, fun _ => True⟩ S1) : WI X tg e v S R := fun F t H R' re rs k => by
  refine wI_of (pi_keys pe_w) ?_
  refine h F t H _ re rs fun F1 d u H1 S1 p1 k1 rs1 r1 h1 => ?_
  obtain ⟨l, o, kvs, rfl, hl, q⟩ := h1
  obtain ⟨a, rfl, ha⟩ := r1
  obtain ⟨a', h', e1, e2, g, e3, vs, e4, e5⟩ := rs1.get hl
  rw [e1] at ha; cases ha
  subst e3 e4
  refine ⟨a, o, rfl, .inr ⟨vs, e2, ?_⟩⟩
  refine k F1 (Itkt a o vs) H1 S1 ⟨kvs.map fun kv => ktD kv.1, fun _ => True⟩ p1 k1 rs1 (fun F2 H2 S2 p2 k2 rs2 ok => ?_) q
  have hd := k2.2 _ _ _ e2
  have hl2 : (kvs.map fun kv => ktD kv.1).length = vs.length := by rw [List.length_map, e5.length]
  refine ⟨fun i hi => ⟨⟨hd, by rw [← hl2]; exact hi⟩, fun x H3 hy => ?_⟩, hd, by show vs.length ≤ (kvs.map fun kv => ktD kv.1).length; omega⟩
  obtain ⟨rfl, kk, v', q', hk, rfl, hq⟩ := hy
  refine ⟨Keep.refl _, rs2, ktD kk, ?_, key_rd hq⟩
  have e6 : (vs.map (·.1))[i]? = some kk := by rw [List.getElem?_map, hk]; rfl
  rw [e5.keys, List.getElem?_map] at e6
  show (kvs.map fun kv => ktD kv.1)[i]? = _
  rw [List.getElem?_map]
  cases e7 : kvs[i]? with
  | none => rw [e7] at e6; cases e6
  | some kv => rw [e7] at e6; cases e6; rfl
end
end DM

namespace DM
open PySem PySem.Spec PyProof.Rows L2
/-! ### {key: value}, dict(pairs), t[:i] -/
def tDispT (tk tv : TE) : TE := fun σ H Q => ∀ p, H p = none → tPairs [(tk, tv)] σ (upd H p (.dT [])) fun ps H2 => H2 p = some (.dT []) ∧ ∃ b k y, ps = [(V.ref b, y)] ∧ H2 b = some (.tup (k.map kV)) ∧ Q (.ref p) (upd H2 p (.dT [(k, y)]))
section
variable {X : Cx} {e f : Expr} {tk tv : TE} {pos : Pos}
theorem pe_dispT (hu : X.A.units + 1 < cLine) (hk : PE X e tk) (hv : PE X f tv) : PE X (.Dict [some e] [f] pos) (tDispT tk tv) := by
  refine ⟨fun pins s σ H Q I q => ?_⟩
  have hn := I.hok.fresh (Nat.le_refl s.heap.objs.size)
  have I1 := I.laid (a := s.heap.objs.size) (o := .dT []) (h' := s.heap.push { cls := .type "dict", data := .dict #[] }) (t' := s.toks) (fun _ _ q => Heap.get?_push_of_some _ q) (Nat.le_refl _) (dt_empty s.heap I.big)
  have hp : PPs X pos [some e] [f] [(tk, tv)] := pps_cons hk hv pps_nil
  have hsh := zip_pairTrees [some e] [f] X.env pos rfl rfl
  rw [arm_eval_Dict, hsh, dictDisplay_pairs (pairTrees [some e] [f] X.env pos) (by simp [pairTrees]) (by simp [pairTrees])]
  refine wpAny_bind (wpAny_standAt (wpAny_bind (wpAny_subDictH (knd := tupleKind (mixKind X.prog X.w)) (Q := fun d s' => wpAny (model X.prog X.w) X.A (pure (Value.ref d)) (EP X pins σ Q) X.xe s') (show X.A.units < cLine by omega) (by simp [pairTrees]) ?_)))
  refine thn (hp.run pins _ σ _ _ I1 (q _ hn)) fun ws s2 ⟨ps, H2, I2, rel, e1, b, k, y, eps, hb, q2⟩ => ?_
  subst eps
  obtain ⟨u, w, rfl, ru, rw'⟩ : ∃ u w, ws = [(u, w)] ∧ u = Value.ref b ∧ RelV y w := by
    cases rel with
    | cons h t => cases t; exact ⟨_, _, rfl, h.1, h.2⟩
  subst ru
  obtain ⟨z, hd, xs, rel, dd⟩ := dt_of I2.hok e1
  cases rel
  refine ⟨[(k, b, w)], ⟨rfl, rfl, key_of I2.hok hb, trivial⟩, dd, fun h' tk' dd' hs => wpAny_pure ⟨.ref s.heap.objs.size, _, ?_, rfl, q2⟩⟩
  obtain ⟨q0, es, ep, hq, h2, h3, h4, _, h5⟩ := id dd'
  refine d_write (t' := tk') (ob := .dT [(k, y)]) I2 (by rw [e1]; exact True.intro) hs ⟨q0, hq⟩ ⟨by show 1 ≤ sizeLine; decide, hd, _, KT.keeps (kvs := [(k, y)]) (xs := [(k, b, w)]) (Paired.cons ⟨rfl, hb, rw'⟩ .nil) fun c ws ec => ?_, q0, es, ep, hq, h2, h3, h4, h5⟩
  rw [upd_ne (ne_of ec e1 (fun z => nomatch z))]
  exact ec
end
section
variable {X : Cx} {S : Store} {Q : D → Store → Prop} {v : Fv} {e f hi : Expr} {pos p2 : Pos}
theorem WE.dispT (h : WE X e v (S ++ [.dT []]) fun x S1 => WE X f v S1 fun y S2 => ∃ k, x = ktD k ∧ S2[S.length]? = some (.dT []) ∧ Q (.loc S.length) (S2.set S.length (.dT [(k, y)]))) (hu : X.A.units + 64 < cLine) : WE X (.Dict [some e] [f] pos) v S Q := fun F t H Q' re rs k => by
  refine wE_of (pe_dispT (u1 hu) pe_w pe_w) fun p hp => ?_
  have kp : Keep H (upd H p (.dT [])) := Keep.new hp
  have rs' : RS (F ++ [p]) (upd H p (.dT [])) (S ++ [.dT []]) := rs.new (o := .dT []) hp ⟨_, rfl, rfl⟩
  have re' := re.mono (F' := F ++ [p]) ⟨[p], rfl⟩ kp
  have hlen : F.length = S.length := rs.len
  refine h (F ++ [p]) t _ _ re' rs' fun F1 x ux H1 S1 p1 k1 rs1 r1 h1 => ?_
  refine h1 F1 t H1 _ (re'.mono p1 k1) rs1 fun F2 y uy H2 S2 p2' k2 rs2 r2 h2 => ?_
  obtain ⟨kk, rfl, hl, q⟩ := h2
  have hF : F2[S.length]? = some p := pre_get (p1.trans p2') (by rw [← hlen]; simp)
  obtain ⟨a, g, e1, e2, vs, e3, e4⟩ := rs2.get hl
  rw [hF] at e1; cases e1
  subst e3
  cases (show vs = [] from e4)
  obtain ⟨b, rfl, hb⟩ := kt_rd (RD.mono p2' k2 _ _ r1)
  refine ⟨e2, b, kk, uy, rfl, hb, ?_⟩
  have k3 : Keep H2 (upd H2 p (.dT [(kk, uy)])) := Keep.upd e2 trivial
  exact k F2 (.loc S.length) (.ref p) _ _ ((List.prefix_append F [p]).trans (p1.trans p2')) (((kp.trans k1).trans k2).trans k3) (rs2.set (o := .dT [(kk, y)]) hF e2 trivial ⟨_, rfl, uy, [], rfl, r2, rfl⟩) ⟨p, rfl, hF⟩ q
/-- dict(pairs), the keys ints -/
theorem CW.dctL {l : Nat} {kvs : List (Key × D)} (hl : S[l]? = some (.lst (kvs.map fun kv => .tup [kdD kv.1, kv.2]))) (hc : X.calm = true) (h : Q (.loc S.length) (S ++ [.dK (putAllT [] kvs)])) : CW X (.type "dict") [.loc l] S Q := CW.of (call_dictP hc) fun F H vs Q' rs r k => by
  obtain ⟨v, r', rfl, ⟨a, rfl, ha⟩, e⟩ := r
  cases (show r' = [] from e)
  obtain ⟨a', h', e1, e2, vs, e3, e4⟩ := rs.get hl
  rw [e1] at ha; cases ha
  subst e3
  have go : ∀ (kvs : List (Key × D)) (vs : List V), RDs F H (kvs.map fun kv => D.tup [kdD kv.1, kv.2]) vs → ∃ (ps : List Addr) (ws : List (Key × V)), vs = ps.map V.ref ∧ Paired (fun p kv => SqT X.K H p [kV kv.1, kv.2]) ps ws ∧ RKs F H kvs ws := by
    intro kvs
    induction kvs with
    | nil => intro vs r; cases (show vs = [] from r); exact ⟨[], [], rfl, .nil, rfl⟩
    | cons kv kvs ih =>
      intro vs r
      obtain ⟨v, r', rfl, ⟨p, us, rfl, hp, hus⟩, h2⟩ := r
      obtain ⟨ps, ws, rfl, i1, i2⟩ := ih r' h2
      obtain ⟨x, us', rfl, hx, hy⟩ := hus
      obtain ⟨y, us2, rfl, hy1, hy2⟩ := hy
      cases (show us2 = [] from hy2)
      rw [kd_rd hx] at hp
      exact ⟨p :: ps, (kv.1, y) :: ws, rfl, .cons (SqT.of hp) i1, y, ws, rfl, hy1, i2⟩
  obtain ⟨ps, ws, rfl, i1, i2⟩ := go kvs vs e4
  refine ⟨a, ps, ws, rfl, SqL.of e2, i1, fun p hp => ?_⟩
  have rk : RKs F H (putAllT [] kvs) (mergeK [] ws) := RKs.putAll (kvs := []) (vs := []) i2 rfl
  exact k (F ++ [p]) (.loc S.length) (.ref p) _ _ ⟨[p], rfl⟩ (Keep.new hp) (rs.new (o := .dK (putAllT [] kvs)) hp ⟨_, rfl, rk⟩) ⟨p, rfl, by rw [← rs.len]; simp⟩ h
/-- t[:i], not the whole -/
theorem WE.slT (h : WE X e v S fun d S1 => WE X hi v S1 fun j S2 => ∃ xs i, d = .tup xs ∧ j = .int i ∧ ¬ HT.sIx xs.length xs.length (some i) = xs.length ∧ Q (.tup (xs.take (HT.sIx xs.length xs.length (some i)))) S2) : WE X (.Subscript e (.Slice none (some hi) none p2) pos) v S Q := fun F t H Q' re rs k => by
  refine wE_of (pe_slice sl_tup pe_w po_none (po_some pe_w)) ?_
  refine h F t H _ re rs fun F1 d u H1 S1 p1 k1 rs1 r1 h1 => ?_
  refine h1 F1 t H1 _ (re.mono p1 k1) rs1 fun F2 j uj H2 S2 p2' k2 rs2 r2 h2 => ?_
  obtain ⟨xs, i, rfl, rfl, hw, q⟩ := h2
  cases r2
  obtain ⟨a, vs, rfl, e1, e2⟩ := RD.mono p2' k2 _ _ r1
  have el : vs.length = xs.length := e2.length
  refine ⟨i, rfl, a, vs, rfl, SqT.of e1, fun z => hw (by rw [← el]; exact z.2), fun p hp => ?_⟩
  have ec : cutV vs none (some i) = vs.take (HT.sIx xs.length xs.length (some i)) := by
    unfold cutV
    rw [el]; rfl
  rw [ec]
  have kp : Keep H2 (upd H2 p (.tup (vs.take (HT.sIx xs.length xs.length (some i))))) := Keep.new hp
  exact k F2 (.tup _) (.ref p) _ _ (p1.trans p2') ((k1.trans k2).trans kp) (rs2.other hp) ⟨p, _, rfl, upd_same, RDs.mono (List.prefix_refl F2) kp _ _ (e2.take _)⟩ q
end
end DM

namespace DM
open PySem PySem.Spec PyProof.Rows L2
/-! ### t[::-1], t a tuple -/
theorem fm_congr {α β : Type} {f g : α → Option β} : ∀ {l : List α}, (∀ a ∈ l, f a = g a) → l.filterMap f = l.filterMap g
  | [], _ => rfl
  | a :: l, h => by
    rw [List.filterMap_cons, List.filterMap_cons, h a List.mem_cons_self, fm_congr fun b hb => h b (List.mem_cons_of_mem _ hb)]
theorem places_back (n : Nat) : Builtin.Slice.slicePlaces ((n : Int) - 1) (-1) (-1) = n := by
  unfold Builtin.Slice.slicePlaces
  rw [if_neg (by decide)]
  by_cases h : n = 0
  · subst h; rfl
  · rw [if_pos (by omega)]
    have : (-(-1 : Int)) = 1 := rfl
    rw [this, Int.ediv_one]
    omega
theorem pick_back (xs : Array Value) : ((List.range xs.size).filterMap fun (m : Nat) => xs[(((xs.size : Int) - 1) + (m : Int) * (-1)).toNat]?).toArray = xs.toList.reverse.toArray := by
  congr 1
  apply List.ext_getElem?
  intro j
  have e : ∀ m ∈ List.range xs.size, xs[(((xs.size : Int) - 1) + (m : Int) * (-1)).toNat]? = xs.toList.reverse[m]? := fun m hm => by
    have hm := List.mem_range.mp hm
    have : (((xs.size : Int) - 1) + (m : Int) * (-1)).toNat = xs.size - 1 - m := by omega
    rw [this, List.getElem?_reverse (by rw [Array.length_toList]; exact hm), Array.length_toList, Array.getElem?_toList]
  have e2 : ((List.range xs.size).filterMap fun (m : Nat) => xs[(((xs.size : Int) - 1) + (m : Int) * (-1)).toNat]?) = xs.toList.reverse := by
    rw [fm_congr e]
    have := PySem.W.krv_all xs.toList.reverse.toArray
    simpa using this
  rw [e2]
section
variable {prog : Program} {w : World} {A : Around} {E : Value → Shared → Prop} {s : Shared}
theorem sliceApplied_back {sl : Addr} {t : Tok} {n : Nat} {Q : Int × Int × Nat → Shared → Prop} (hs : s.heap.IsSliceOf sl .none .none (.int (-1) t))
    (h : Q ((n : Int) - 1, -1, n) s) : wpAny (model prog w) A (Builtin.Slice.sliceApplied (.ref sl) (pure (n : Int))) Q E s := by
  obtain ⟨os, hos, hcs, hds⟩ := id hs
  unfold Builtin.Slice.sliceApplied Builtin.Slice.sliceFields
  refine wpAny_bind (wpAny_bind (wpAny_field hos hds (x := .none) rfl (wpAny_bind (wpAny_field hos hds (x := .none) rfl (wpAny_bind (wpAny_field hos hds (x := .int (-1) t) rfl (wpAny_pure ?_)))))))
  refine wpAny_bind (slicePart_int ?_)
  show wpAny _ _ (if ((-1 : Int) == 0) = true then _ else _) _ _ s
  rw [if_neg (by decide)]
  refine wpAny_bind (slicePart_none (wpAny_bind (slicePart_none (wpAny_bind (wpAny_pure ?_)))))
  show wpAny _ _ (pure ((n : Int) - 1, (-1 : Int), Builtin.Slice.slicePlaces ((n : Int) - 1) (-1) (-1))) _ _ s
  rw [places_back]
  exact wpAny_pure h
theorem getItem_tuple_back {t sl : Addr} {tk : Tok} {items : Array Value} {Q : Value → Shared → Prop} (ht : IsTup s.heap t items) (hs : s.heap.IsSliceOf sl .none .none (.int (-1) tk))
    (h : Q (.ref s.heap.objs.size) { s with heap := s.heap.push { cls := .type "tuple", data := .seq items.toList.reverse.toArray } }) (hsz : items.size ≤ sizeLine) : wpAny (model prog w) A (getItem (.ref t) (.ref sl)) Q E s := by
  have htake : sizeOk (.seq items.toList.reverse.toArray) := by
    show items.toList.reverse.toArray.size ≤ sizeLine
    rw [List.size_toArray, List.length_reverse, Array.length_toList]
    exact hsz
  obtain ⟨os, hos, hcs, hds⟩ := id hs
  have hTs : s.TypeIs (.ref sl) "slice" := ⟨os, hos, hcs⟩
  unfold getItem
  try with_reducible refine wpAny_holding ?_
  first | refine wpAny_bind (wpAny_pure ?_) | skip
  refine wpAny_bind (wpAny_sequenceKey ht.typeIs (by decide) ?_)
  refine wpAny_bind (wpAny_callSpecial?_slot (name := Str.ofString "__getitem__") ht.typeIs PyProof.Rows.slot_tuple_getitem
    (wpAny_call_entry PyProof.Rows.slot_tuple_getitem ht.typeIs entry_tuple_getitem ?_ (args_tuple_getitem _ _)))
  show wpAny _ _ (Builtin.Tuple.tupleItemsOf (.ref t) >>= _) _ _ s
  refine wpAny_bind (tupleItemsOf_ ht ?_)
  refine wpAny_bind (wpAny_typeOf hTs ?_)
  rw [if_pos (by decide)]
  refine wpAny_bind (sliceApplied_back hs ?_)
  have hno : ¬ ((((items.size : Int) - 1) == 0 && (-1 : Int) == 1 && items.size == items.size) = true) := by
    intro q
    rw [Bool.and_eq_true, Bool.and_eq_true] at q
    exact absurd q.1.2 (by decide)
  show wpAny _ _ (if (((items.size : Int) - 1) == 0 && (-1 : Int) == 1 && items.size == items.size) = true then _ else _) _ _ s
  rw [if_neg hno, pick_back]
  first
    | exact wpAny_bind (m := Builtin.Tuple.tupleExact _) (wpAny_newObj_type (wpAny_pure ⟨_, rfl, wpAny_pure h⟩) htake)
    | exact wpAny_bind (m := Builtin.Tuple.tupleExact _) (wpAny_newObj_type (wpAny_bind (wpAny_pure (wpAny_pure ⟨_, rfl, wpAny_pure h⟩))) htake)
    | exact wpAny_bind (wpAny_bind (m := Builtin.Tuple.tupleExact _) (wpAny_newObj_type (wpAny_pure (wpAny_pure ⟨_, rfl, wpAny_pure h⟩)) htake))
    | exact wpAny_bind (wpAny_bind (m := Builtin.Tuple.tupleExact _) (wpAny_newObj_type (wpAny_pure ⟨_, rfl, wpAny_pure h⟩) htake))
end
theorem vals_reverse {xs : List V} {us : List Value} (r : Vals xs us) : Vals xs.reverse us.reverse := by
  induction r with
  | nil => exact .nil
  | cons h t ih =>
    rw [List.reverse_cons, List.reverse_cons]
    exact Paired.snoc ih h
theorem pe_backT {X : Cx} {e st : Expr} {te ts : TE} {pos p2 : Pos} (he : PE X e te) (hst : PE X st ts) : PE X (.Subscript e (.Slice none none (some st) p2) pos) (fun σ H Q => te σ H fun x H1 => ts σ H1 fun j H2 => ∃ a xs, x = .ref a ∧ j = .int (-1) ∧ SqT X.K H2 a xs ∧ ∀ p, H2 p = none → Q (.ref p) (upd H2 p (.tup xs.reverse))) := by
  refine ⟨fun pins s σ H Q I h => ?_⟩
  refine Subscript_ (thn (he.run pins s σ H _ I h) fun v s1 ⟨x, H1, I1, r1, q1⟩ => ?_)
  refine wpAny_Slice ?_
  rw [evalPart_none]
  refine wpAny_pure ?_
  refine wpAny_pure ?_
  rw [evalPart_some]
  refine thn (hst.run pins s1 σ H1 _ I1 q1) fun vs s3 ⟨j, H2, I3, r2, a, xs, ex, ej, hx, q3⟩ => ?_
  subst ex ej
  obtain ⟨tk, rfl⟩ := r2
  obtain rfl : v = Value.ref a := r1
  have I4 : Inv X pins σ H2 { s3 with heap := s3.heap.push { cls := .type "slice", data := .fields #[.none, .none, .int (-1) tk] } } := I3.kept (t' := s3.toks) fun b ob q => Heap.get?_push_of_some _ q
  obtain ⟨its, r, ht, hz⟩ := I4.tuple hx
  have hlen : its.toArray.size = xs.length := by rw [List.size_toArray]; exact r.length.symm
  show wpAny (model X.prog X.w) X.A (subscriptTail e (.Slice none none (some st) p2) (.ref a) (.ref s3.heap.objs.size)) (EP X pins σ Q) X.xe { s3 with heap := s3.heap.push { cls := .type "slice", data := .fields #[.none, .none, .int (-1) tk] } }
  refine tail_any (ops := [.ref a, .ref s3.heap.objs.size]) ht.typeIs PyProof.Rows.slot_tuple_getitem.lookup (getItem_tuple_back ht (Heap.IsSliceOf.new ..) ?_ (by rw [hlen]; exact hz)) (by with_unfolding_all rfl)
  refine ⟨.ref _, _, I4.laid (t' := s3.toks) (o := .tup xs.reverse) (fun b ob q => Heap.get?_push_of_some _ q) (Nat.le_refl _) ?_, rfl, q3 _ (I4.hok.fresh (Nat.le_refl _))⟩
  exact ⟨by rw [List.length_reverse]; exact hz, _, vals_reverse r, IsTup.new _ _⟩
theorem RDs.rev {F : List Addr} {H : Hp} : ∀ {xs : List D} {vs : List V}, RDs F H xs vs → RDs F H xs.reverse vs.reverse
  | [], vs, r => by cases (show vs = [] from r); rfl
  | x :: xs, _, ⟨v, r', e, h1, h2⟩ => by
    subst e
    rw [List.reverse_cons, List.reverse_cons]
    exact (RDs.rev h2).append ⟨v, [], rfl, h1, rfl⟩
theorem WE.backT {X : Cx} {S : Store} {Q : D → Store → Prop} {v : Fv} {e st : Expr} {pos p2 : Pos} (h : WE X e v S fun d S1 => WE X st v S1 fun j S2 => ∃ xs, d = .tup xs ∧ j = .int (-1) ∧ Q (.tup xs.reverse) S2) : WE X (.Subscript e (.Slice none none (some st) p2) pos) v S Q := fun F t H Q' re rs k => by
  refine wE_of (pe_backT pe_w pe_w) ?_
  refine h F t H _ re rs fun F1 d u H1 S1 p1 k1 rs1 r1 h1 => ?_
  refine h1 F1 t H1 _ (re.mono p1 k1) rs1 fun F2 j uj H2 S2 p2' k2 rs2 r2 h2 => ?_
  obtain ⟨xs, rfl, rfl, q⟩ := h2
  cases r2
  obtain ⟨a, vs, rfl, e1, e2⟩ := RD.mono p2' k2 _ _ r1
  refine ⟨a, vs, rfl, rfl, SqT.of e1, fun p hp => ?_⟩
  have kp : Keep H2 (upd H2 p (.tup vs.reverse)) := Keep.new hp
  exact k F2 (.tup _) (.ref p) _ _ (p1.trans p2') ((k1.trans k2).trans kp) (rs2.other hp) ⟨p, _, rfl, upd_same, RDs.mono (List.prefix_refl F2) kp _ _ (RDs.rev e2)⟩ q
end DM

namespace DM
open PySem PySem.Spec PyProof.Rows L2
/-! ### reversed(range(n)) -/
def backD (n : Nat) : List D := (List.range n).map fun (i : Nat) => D.int (((n - 1 - i : Nat) : Int))
theorem backD_len {n : Nat} : (backD n).length = n := by simp [backD]
theorem backD_get {n i : Nat} {d : D} : (backD n)[i]? = some d ↔ i < n ∧ d = .int ((n - 1 - i : Nat) : Int) := by
  unfold backD
  rw [List.getElem?_map]
  by_cases h : i < n
  · rw [List.getElem?_range h]
    simp [h, eq_comm]
  · rw [List.getElem?_eq_none (by simpa using h)]
    simp [h]
theorem WI.revR {X : Cx} {S : Store} {v : Fv} {tg a : Expr} {p p2 pos pos2 : Pos} {R : Src → Store → Prop} (h : WE X a v S fun d S1 => ∃ n : Nat, d = .int (n : Int) ∧ n ≤ 100000 ∧ R ⟨backD n, fun _ => True⟩ S1) (hm : X.mg "reversed" = none) (hm2 : X.mg "range" = none) (hg : Gl X "reversed" := by rfl) (hg2 : Gl X "range" := by rfl)
    (hs : starEach [.Call (.Name "range" p2) [a] [] pos2] X.env = (false, eval (.Call (.Name "range" p2) [a] [] pos2) X.env) :: starEach [] X.env := by rfl) (na : starEach [a] X.env = (false, eval a X.env) :: starEach [] X.env := by rfl) :
    WI X tg (.Call (.Name "reversed" p) [.Call (.Name "range" p2) [a] [] pos2] [] pos) v S R := fun F t H R' re rs k => by
  refine wI_of (pi_revR hg hm (prg_1 hg2 hm2 pe_w na) hs) ?_
  refine h F t H _ re rs fun F1 d u H1 S1 p1 k1 rs1 r1 h1 => ?_
  obtain ⟨n, rfl, hn, q⟩ := h1
  cases r1
  have e1 : ((n : Int) - 0).toNat = n := by omega
  refine ⟨n, rfl, ?_⟩
  first
  | refine ⟨by omega, by omega, by omega, by omega, ?_⟩
  | refine ⟨by omega, by omega, by omega, by omega, by omega, by omega, ?_⟩
  rw [e1]
  refine k F1 (Itc _ _ n) H1 S1 ⟨backD n, fun _ => True⟩ p1 k1 rs1 (fun F2 H2 S2 p2 k2 rs2 _ => ?_) q
  refine ⟨fun i hi => ?_, Nat.le_of_eq backD_len.symm⟩
  have hi : i < n := by rw [show (Src.items ⟨backD n, fun _ => True⟩) = backD n from rfl, backD_len] at hi; exact hi
  refine ⟨hi, fun x H3 hy => ?_⟩
  obtain ⟨rfl, rfl⟩ := hy
  refine ⟨Keep.refl _, rs2, .int ((n - 1 - i : Nat) : Int), backD_get.mpr ⟨hi, rfl⟩, ?_⟩
  show V.int _ = V.int _
  congr 1
  omega
end DM

namespace DM
open PySem PySem.Spec PyProof.Rows L2
/-! ### things -/
inductive Th where
  | mk (m : List Int) (xs : List Th)
def Th.m : Th → List Int | .mk m _ => m
def Th.xs : Th → List Th | .mk _ xs => xs
mutual
def eT : Th → D
  | .mk m xs => .tup [eM m, .tup (eTs xs)]
def eTs : List Th → List D
  | [] => []
  | x :: xs => eT x :: eTs xs
end
theorem eTs_map : ∀ xs : List Th, eTs xs = xs.map eT
  | [] => rfl
  | x :: xs => by rw [List.map_cons, ← eTs_map xs]; rfl
theorem eT_eq (t : Th) : eT t = .tup [eM t.m, .tup (t.xs.map eT)] := by
  cases t with
  | mk m xs => show D.tup [eM m, .tup (eTs xs)] = _; rw [eTs_map]; rfl
/-- deep at most d below -/
def OkT : Nat → Th → Prop
  | 0, t => OkM 0 t.m ∧ t.xs = []
  | d + 1, t => OkM 0 t.m ∧ t.xs.length ≤ 3 ∧ ∀ x ∈ t.xs, OkT d x
theorem OkT.m : ∀ {d : Nat} {t : Th}, OkT d t → OkM 0 t.m
  | 0, _, h => h.1
  | _ + 1, _, h => h.1
theorem OkT.len : ∀ {d : Nat} {t : Th}, OkT d t → t.xs.length ≤ 3
  | 0, _, h => by rw [h.2]; exact Nat.zero_le _
  | _ + 1, _, h => h.2.1
mutual
def Th.size : Th → Nat
  | .mk _ xs => 1 + Th.sizes xs
def Th.sizes : List Th → Nat
  | [] => 0
  | x :: xs => Th.size x + Th.sizes xs
end
theorem sizes_append : ∀ (a b : List Th), Th.sizes (a ++ b) = Th.sizes a + Th.sizes b
  | [], b => by simp [Th.sizes]
  | x :: a, b => by show Th.size x + Th.sizes (a ++ b) = _; rw [sizes_append a b]; show _ = Th.size x + Th.sizes a + Th.sizes b; omega
theorem size_eq (t : Th) : t.size = 1 + Th.sizes t.xs := by cases t; rfl
theorem sizes_reverse : ∀ (a : List Th), Th.sizes a.reverse = Th.sizes a
  | [] => rfl
  | x :: a => by rw [List.reverse_cons, sizes_append, sizes_reverse a]; show _ + (Th.size x + 0) = Th.size x + _; omega
/-! the names and marks of a thing and what is in it, the outer ahead -/
mutual
def within : List Int → Th → List (List Int × List Int)
  | nm, .mk m xs => (nm, m) :: withins nm 0 xs
def withins : List Int → Nat → List Th → List (List Int × List Int)
  | _, _, [] => []
  | nm, k, x :: xs => within (nm ++ [(k : Int)]) x ++ withins nm (k + 1) xs
end
theorem bel_eT (n : Nat) : ∀ t : Th, bel n (eT t) = true := by
  have h : ∀ (k : Nat) (t : Th), t.size ≤ k → bel n (eT t) = true := by
    intro k
    induction k with
    | zero => intro t h; rw [size_eq] at h; omega
    | succ k ih =>
      intro t h
      rw [eT_eq]
      have : bel.belAll n (t.xs.map eT) = true := by
        have go : ∀ xs : List Th, Th.sizes xs ≤ k → bel.belAll n (xs.map eT) = true := by
          intro xs
          induction xs with
          | nil => intro _; rfl
          | cons x xs ih2 =>
            intro hx
            have hx : Th.size x + Th.sizes xs ≤ k := hx
            show (bel n (eT x) && bel.belAll n (xs.map eT)) = true
            rw [ih x (by omega), ih2 (by omega)]; rfl
        exact go t.xs (by rw [size_eq] at h; omega)
      show (bel n (eM t.m) && (bel.belAll n (t.xs.map eT) && true)) = true
      rw [bel_eM, this]; rfl
  exact fun t => h t.size t (Nat.le_refl _)
theorem pu_eT : ∀ {d : Nat} {t : Th} {n : Nat}, OkT d t → 2 * d + 3 ≤ n → pu n (eT t) = true
  | 0, t, n, h, hn => by
    obtain ⟨n, rfl⟩ : ∃ m, n = m + 3 := ⟨n - 3, by omega⟩
    rw [eT_eq, h.2]
    have := h.1.1
    show (decide (2 ≤ 100000) && (pu (n + 2) (eM t.m) && (pu (n + 2) (.tup []) && true))) = true
    rw [pu_eM (by omega)]; rfl
  | d + 1, t, n, h, hn => by
    obtain ⟨n, rfl⟩ : ∃ m, n = m + 3 := ⟨n - 3, by omega⟩
    rw [eT_eq]
    have h3 := h.1.1
    have hl := h.2.1
    have ha : (t.xs.map eT).all (pu (n + 1)) = true := by
      rw [List.all_eq_true]
      intro y hy
      obtain ⟨x, hx, rfl⟩ := List.mem_map.mp hy
      exact pu_eT (h.2.2 x hx) (by omega)
    show (decide (2 ≤ 100000) && (pu (n + 2) (eM t.m) && ((decide ((t.xs.map eT).length ≤ 100000) && (t.xs.map eT).all (pu (n + 1))) && true))) = true
    rw [pu_eM (by omega), ha, List.length_map, decide_eq_true (show t.xs.length ≤ 100000 by omega)]; rfl
def bnd : Nat → Nat
  | 0 => 1
  | d + 1 => 1 + 3 * bnd d
theorem sizes_le {b : Nat} : ∀ {xs : List Th}, (∀ x ∈ xs, x.size ≤ b) → Th.sizes xs ≤ xs.length * b
  | [], _ => Nat.zero_le _
  | x :: xs, h => by
    have h1 := h x List.mem_cons_self
    have h2 := sizes_le (xs := xs) fun y hy => h y (List.mem_cons_of_mem _ hy)
    show x.size + Th.sizes xs ≤ (xs.length + 1) * b
    rw [Nat.succ_mul]; omega
theorem size_le : ∀ {d : Nat} {t : Th}, OkT d t → t.size ≤ bnd d
  | 0, t, h => by rw [size_eq, h.2]; exact Nat.le_refl _
  | d + 1, t, h => by
    have h1 := sizes_le (b := bnd d) fun x hx => size_le (h.2.2 x hx)
    have h2 : t.xs.length * bnd d ≤ 3 * bnd d := Nat.mul_le_mul_right _ h.2.1
    rw [size_eq]
    show 1 + _ ≤ 1 + 3 * bnd d
    omega
theorem len_sizes : ∀ (xs : List Th), xs.length ≤ Th.sizes xs
  | [] => Nat.zero_le _
  | x :: xs => by
    have h1 := len_sizes xs
    have h2 := size_eq x
    show xs.length + 1 ≤ x.size + Th.sizes xs
    omega
/-- rising from above a, at most 999 -/
def Rise : Int → List Int → Prop
  | _, [] => True
  | a, n :: ns => a < n ∧ n ≤ 999 ∧ Rise n ns
theorem drop_get {α : Type} : ∀ {l : List α} {i : Nat} {x : α}, l[i]? = some x → l.drop i = x :: l.drop (i + 1)
  | [], _, _, h => by simp at h
  | y :: l, 0, x, h => by
    have : y = x := by simpa using h
    rw [this]; rfl
  | y :: l, i + 1, x, h => by
    show l.drop i = x :: l.drop (i + 1)
    exact drop_get (by simpa using h)
/-- what is directly in a thing, with names -/
def kids : List Int → Nat → List Th → List (List Int × Th)
  | _, _, [] => []
  | nm, k, x :: xs => (nm ++ [(k : Int)], x) :: kids nm (k + 1) xs
theorem kids_get (nm : List Int) : ∀ (xs : List Th) (j k : Nat), (kids nm j xs)[k]? = xs[k]?.map fun x => (nm ++ [((j + k : Nat) : Int)], x)
  | [], _, _ => by simp [kids]
  | x :: xs, j, 0 => by simp [kids]
  | x :: xs, j, k + 1 => by
    show (kids nm (j + 1) xs)[k]? = _
    rw [kids_get nm xs (j + 1) k, List.getElem?_cons_succ, show j + 1 + k = j + (k + 1) by omega]
theorem kids_len (nm : List Int) : ∀ (xs : List Th) (j : Nat), (kids nm j xs).length = xs.length
  | [], _ => rfl
  | x :: xs, j => by show (kids nm (j + 1) xs).length + 1 = _; rw [kids_len nm xs (j + 1)]; rfl
theorem kids_snd (nm : List Int) : ∀ (xs : List Th) (j : Nat), (kids nm j xs).map (·.2) = xs
  | [], _ => rfl
  | x :: xs, j => by show x :: (kids nm (j + 1) xs).map (·.2) = _; rw [kids_snd nm xs (j + 1)]
theorem withins_kids (nm : List Int) : ∀ (xs : List Th) (j : Nat), withins nm j xs = (kids nm j xs).flatMap fun p => within p.1 p.2
  | [], _ => rfl
  | x :: xs, j => by
    show within (nm ++ [(j : Int)]) x ++ withins nm (j + 1) xs = _
    rw [withins_kids nm xs (j + 1)]; rfl
theorem within_eq (nm : List Int) (t : Th) : within nm t = (nm, t.m) :: (kids nm 0 t.xs).flatMap fun p => within p.1 p.2 := by
  cases t with
  | mk m xs => show (nm, m) :: withins nm 0 xs = _; rw [withins_kids]; rfl
def prD (p : List Int × Th) : D := .tup [eM p.1, eT p.2]
def wD (p : List Int × List Int) : D := .tup [eM p.1, eM p.2]
def kidF (nm : List Int) (xs : List Th) (d : D) : Option D := match d with
  | .int k => xs[k.toNat]?.map fun x => D.tup [.tup (nm.map D.int ++ [.int k]), eT x]
  | _ => none
theorem kids_back (nm : List Int) (xs : List Th) : (backD xs.length).filterMap (kidF nm xs) = (kids nm 0 xs).reverse.map prD := by
  have h1 : (backD xs.length).filterMap (kidF nm xs) = (List.range xs.length).filterMap fun i => ((kids nm 0 xs).reverse.map prD)[i]? := by
    unfold backD
    rw [List.filterMap_map]
    refine fm_congr fun i hi => ?_
    have hi := List.mem_range.mp hi
    show kidF nm xs (.int ((xs.length - 1 - i : Nat) : Int)) = _
    unfold kidF
    show (xs[((xs.length - 1 - i : Nat) : Int).toNat]?).map _ = _
    rw [Int.toNat_natCast, List.getElem?_map, List.getElem?_reverse (by rw [kids_len]; exact hi), kids_len, kids_get, Option.map_map]
    cases xs[xs.length - 1 - i]? with
    | none => rfl
    | some x =>
      show some _ = some (prD _)
      simp [prD, eM]
  rw [h1]
  have := PySem.W.krv_all ((kids nm 0 xs).reverse.map prD).toArray
  simpa [kids_len] using this
/-! ### lists of things and of helpers, as they are handed in -/
def thD (p : Int × Th) : D := .tup [.int p.1, eT p.2]
def heD (h : Int × List (List Int × Int) × Int) : D := .tup [.int h.1, eCs h.2.1, .int h.2.2]
def fstD (d : D) : Option D := match d with
  | .tup (x :: _) => some x
  | _ => none
def OkTs (ts : List (Int × Th)) : Prop := ts.length ≤ 100 ∧ Rise (-1) (ts.map (·.1)) ∧ ∀ p ∈ ts, OkT 2 p.2
def OkHs (hs : List (Int × List (List Int × Int) × Int)) : Prop := hs.length ≤ 100 ∧ Rise (-1) (hs.map (·.1)) ∧ ∀ h ∈ hs, OkCs h.2.1 ∧ 0 ≤ h.2.2 ∧ h.2.2 ≤ 4
end DM

namespace DM
open PySem PySem.Spec PyProof.Rows L2
/-! ### the pairs that fit, in order -/
abbrev He := Int × List (List Int × Int) × Int
abbrev Row := Int × Int × Int × List Int
def rowD (r : Row) : D := .tup [.int r.1, .int r.2.1, .int r.2.2.1, eM r.2.2.2]
def rowOf (p : List Int × List Int) (h : He) : Option Row := (fitOf h.2.1 p.2).map fun f => ((p.1.length : Int), -f, h.1, p.1)
def rowsOf (ps : List (List Int × List Int)) (hs : List He) : List Row := ps.flatMap fun p => hs.filterMap (rowOf p)
def OkW (ps : List (List Int × List Int)) : Prop := ps.length ≤ 900 ∧ ∀ p ∈ ps, 1 ≤ p.1.length ∧ p.1.length ≤ 3 ∧ OkM 0 p.2
theorem rows_snoc (ps : List (List Int × List Int)) (p : List Int × List Int) (hs : List He) : rowsOf (ps ++ [p]) hs = rowsOf ps hs ++ hs.filterMap (rowOf p) := by
  unfold rowsOf; rw [List.flatMap_append]; simp
theorem rows_len (ps : List (List Int × List Int)) (hs : List He) : (rowsOf ps hs).length ≤ ps.length * hs.length := by
  induction ps with
  | nil => exact Nat.zero_le _
  | cons p ps ih =>
    show (hs.filterMap (rowOf p) ++ rowsOf ps hs).length ≤ (ps.length + 1) * hs.length
    rw [List.length_append, Nat.succ_mul]
    have := List.length_filterMap_le (rowOf p) hs
    omega
theorem rows_of {ps : List (List Int × List Int)} {hs : List He} {r : Row} (h : r ∈ rowsOf ps hs) : ∃ p ∈ ps, ∃ x ∈ hs, ∃ v, fitOf x.2.1 p.2 = some v ∧ r = ((p.1.length : Int), -v, x.1, p.1) := by
  obtain ⟨p, hp, h⟩ := List.mem_flatMap.mp h
  obtain ⟨x, hx, h⟩ := List.mem_filterMap.mp h
  unfold rowOf at h
  cases e : fitOf x.2.1 p.2 with
  | none => rw [e] at h; cases h
  | some v => rw [e] at h; cases h; exact ⟨p, hp, x, hx, v, e, rfl⟩
theorem rows_name {ps : List (List Int × List Int)} {hs : List He} (op : OkW ps) {r : Row} (h : r ∈ rowsOf ps hs) : r.2.2.2.length ≤ 3 := by
  obtain ⟨p, hp, x, hx, v, e, rfl⟩ := rows_of h
  exact (op.2 p hp).2.1
theorem row_alike (a b : Row) : PySem.W.alike (toP (rowD a)) (toP (rowD b)) = true := by
  have h : ∀ x y : List Int, PySem.W.alikeAll (toPs (x.map D.int)) (toPs (y.map D.int)) = true := by
    intro x
    induction x with
    | nil => intro y; cases y <;> simp [toPs, PySem.W.alikeAll]
    | cons i x ih =>
      intro y
      cases y with
      | nil => simp [toPs, PySem.W.alikeAll]
      | cons j y =>
        have := ih y
        simp [toPs, toP, PySem.W.alikeAll, PySem.W.alike, this]
  have := h a.2.2.2 b.2.2.2
  simp [rowD, toP, toPs, eM, PySem.W.alike, PySem.W.alikeAll, this]
theorem rows_alike (l : List Row) : PySem.W.AllAlike ((l.map rowD).map toP) := by
  rw [List.map_map]; exact PySem.W.AllAlike.of (enc := toP ∘ rowD) fun a b => row_alike a b
theorem rows_sortable (l : List Row) : PySem.W.Sortable ((l.map rowD).map toP) := by
  rw [List.map_map]; exact PySem.W.Sortable.tuples (enc := toP ∘ rowD) fun a => ⟨_, _, rfl⟩
theorem pu_row {r : Row} (h : r.2.2.2.length ≤ 100000) : pu 60 (rowD r) = true := by
  show (decide (4 ≤ 100000) && (pu 59 (.int _) && (pu 59 (.int _) && (pu 59 (.int _) && (pu 59 (eM r.2.2.2) && true))))) = true
  rw [pu_eM h, pu_int, pu_int, pu_int]; rfl
end DM

namespace DM
open PySem PySem.Spec PyProof.Rows L2
/-! ### tables through their keys and values -/
section
variable {κ κ' β β' : Type} [DecidableEq κ] [DecidableEq κ'] {g : κ → κ'} {e : β → β'}
def mapT (g : κ → κ') (e : β → β') (kvs : List (κ × β)) : List (κ' × β') := kvs.map fun p => (g p.1, e p.2)
theorem getT_mapT (inj : ∀ a b, g a = g b → a = b) (kvs : List (κ × β)) (k : κ) : getT (mapT g e kvs) (g k) = (getT kvs k).map e := by
  induction kvs with
  | nil => rfl
  | cons p r ih =>
    show getT ((g p.1, e p.2) :: mapT g e r) (g k) = _
    rw [getT_cons, getT_cons, ih]
    by_cases h : p.1 = k
    · rw [if_pos h, if_pos (by rw [h])]; rfl
    · rw [if_neg h, if_neg (fun z => h (inj _ _ z))]
theorem putT_mapT (inj : ∀ a b, g a = g b → a = b) (kvs : List (κ × β)) (k : κ) (v : β) : putT (mapT g e kvs) (g k) (e v) = mapT g e (putT kvs k v) := by
  unfold putT
  rw [any_getT, any_getT, getT_mapT inj, Option.isSome_map]
  split
  · unfold mapT
    rw [List.map_map, List.map_map]
    refine List.map_congr_left fun p _ => ?_
    show (if g p.1 = g k then (g p.1, e v) else (g p.1, e p.2)) = _
    by_cases h : p.1 = k
    · rw [if_pos (by rw [h])]; simp [h]
    · rw [if_neg (fun z => h (inj _ _ z))]; simp [h]
  · unfold mapT; rw [List.map_append]; rfl
end
def kI (i : Int) : Key := .inl i
def kN (nm : List Int) : List Key := nm.map kI
theorem kI_inj : ∀ a b, kI a = kI b → a = b := fun a b h => by injection h
theorem kN_inj : ∀ a b, kN a = kN b → a = b
  | [], [], _ => rfl
  | [], _ :: _, h => by simp [kN] at h
  | _ :: _, [], h => by simp [kN] at h
  | x :: a, y :: b, h => by
    have h : kI x :: kN a = kI y :: kN b := h
    injection h with h1 h2
    rw [kI_inj _ _ h1, kN_inj a b h2]
theorem eM_key (nm : List Int) : eM nm = ktD (kN nm) := by
  show D.tup (nm.map D.int) = D.tup ((nm.map kI).map kdD)
  rw [List.map_map]; rfl
/-- rooms left, and what is had -/
abbrev Had := List (Int × Int) × List (List Int × Int)
def hadStep (s : Had) (r : Row) : Had :=
  if getT s.2 r.2.2.2 = none ∧ 0 < ((getT s.1 r.2.2.1).getD 0) ∧ (r.1 = 1 ∨ (getT s.2 r.2.2.2.dropLast).isSome = true) then (putT s.1 r.2.2.1 ((getT s.1 r.2.2.1).getD 0 - 1), putT s.2 r.2.2.2 r.2.2.1) else s
def dRm (rm : List (Int × Int)) : Ob := .dK (mapT kI D.int rm)
def dFd (fd : List (List Int × Int)) : Ob := .dT (mapT kN D.int fd)
theorem hadStep_rooms (s : Had) (r : Row) (k : Int) (h : (getT s.1 k).isSome = true) : (getT (hadStep s r).1 k).isSome = true := by
  unfold hadStep
  split
  · show (getT (putT s.1 _ _) k).isSome = true
    rw [getT_put]
    split
    · rfl
    · exact h
  · exact h
theorem hadStep_len (s : Had) (r : Row) : (hadStep s r).2.length ≤ s.2.length + 1 := by
  unfold hadStep
  split
  · exact putT_len _ _ _
  · exact Nat.le_succ _
def roomsOf (hs : List He) : List (Int × Int) := putAllT [] (hs.map fun h => (h.1, h.2.2))
def leR (a b : Row) : Bool := leD (rowD a) (rowD b)
def sortR (ps : List (List Int × List Int)) (hs : List He) : List Row := (rowsOf ps hs).mergeSort leR
theorem sortR_map (ps : List (List Int × List Int)) (hs : List He) : ((rowsOf ps hs).map rowD).mergeSort leD = (sortR ps hs).map rowD := (List.map_mergeSort (f := rowD) (r := leR) (s := leD) (l := rowsOf ps hs) fun _ _ _ _ => rfl).symm
def hadOf (ps : List (List Int × List Int)) (hs : List He) : List (List Int × Int) := ((sortR ps hs).foldl hadStep (roomsOf hs, [])).2
theorem putAllT_mapT {κ κ' β β' : Type} [DecidableEq κ] [DecidableEq κ'] {g : κ → κ'} {e : β → β'} (inj : ∀ a b, g a = g b → a = b) : ∀ (more kvs : List (κ × β)), putAllT (mapT g e kvs) (mapT g e more) = mapT g e (putAllT kvs more)
  | [], _ => rfl
  | p :: more, kvs => by
    show putAllT (putT (mapT g e kvs) (g p.1) (e p.2)) (mapT g e more) = mapT g e (putAllT (putT kvs p.1 p.2) more)
    rw [putT_mapT inj, putAllT_mapT inj more]
theorem getT_putAll {κ β : Type} [DecidableEq κ] {k : κ} : ∀ (more kvs : List (κ × β)), ((getT kvs k).isSome = true ∨ ∃ v, (k, v) ∈ more) → (getT (putAllT kvs more) k).isSome = true
  | [], kvs, h => by
    rcases h with h | ⟨v, h⟩
    · exact h
    · cases h
  | p :: more, kvs, h => by
    refine getT_putAll more (putT kvs p.1 p.2) ?_
    rw [getT_put]
    rcases h with h | ⟨v, h⟩
    · left; split
      · rfl
      · exact h
    · rcases List.mem_cons.mp h with rfl | h
      · left; rw [if_pos rfl]; rfl
      · exact .inr ⟨v, h⟩
theorem rooms_some {hs : List He} {h : He} (m : h ∈ hs) : (getT (roomsOf hs) h.1).isSome = true := getT_putAll _ _ (.inr ⟨h.2.2, List.mem_map.mpr ⟨h, m, rfl⟩⟩)
theorem fold_rooms {k : Int} : ∀ (rs : List Row) (s : Had), (getT s.1 k).isSome = true → (getT (rs.foldl hadStep s).1 k).isSome = true
  | [], _, h => h
  | r :: rs, s, h => fold_rooms rs (hadStep s r) (hadStep_rooms s r k h)
theorem fold_len : ∀ (rs : List Row) (s : Had), (rs.foldl hadStep s).2.length ≤ s.2.length + rs.length
  | [], _ => Nat.le_refl _
  | r :: rs, s => by
    have h1 := fold_len rs (hadStep s r)
    have h2 := hadStep_len s r
    show ((rs.foldl hadStep (hadStep s r))).2.length ≤ s.2.length + (rs.length + 1)
    omega
theorem putT_len_some {κ β : Type} [DecidableEq κ] (kvs : List (κ × β)) (k : κ) (v : β) (h : (getT kvs k).isSome = true) : (putT kvs k v).length = kvs.length := by
  have := congrArg List.length (putT_keys_mem kvs k v h)
  simpa using this
theorem hadStep_rlen (s : Had) (r : Row) (h : (getT s.1 r.2.2.1).isSome = true) : (hadStep s r).1.length = s.1.length := by
  unfold hadStep
  split
  · exact putT_len_some _ _ _ h
  · rfl
theorem fold_rlen : ∀ (rs : List Row) (s : Had), (∀ r ∈ rs, (getT s.1 r.2.2.1).isSome = true) → (rs.foldl hadStep s).1.length = s.1.length
  | [], _, _ => rfl
  | r :: rs, s, h => by
    have h1 := fold_rlen rs (hadStep s r) fun x hx => hadStep_rooms s r _ (h x (List.mem_cons_of_mem _ hx))
    have h2 := hadStep_rlen s r (h r List.mem_cons_self)
    show ((rs.foldl hadStep (hadStep s r))).1.length = _
    omega
theorem putAllT_len {κ β : Type} [DecidableEq κ] : ∀ (more kvs : List (κ × β)), (putAllT kvs more).length ≤ kvs.length + more.length
  | [], kvs => Nat.le_refl _
  | p :: more, kvs => by
    have := putAllT_len more (putT kvs p.1 p.2)
    have h := putT_len kvs p.1 p.2
    show (putAllT (putT kvs p.1 p.2) more).length ≤ kvs.length + (more.length + 1)
    omega
theorem rooms_len (hs : List He) : (roomsOf hs).length ≤ hs.length := by
  have := putAllT_len (hs.map fun h => (h.1, h.2.2)) []
  rw [List.length_map] at this
  show (putAllT [] _).length ≤ _
  simpa using this
theorem sIx_init {n : Nat} (h : 1 ≤ n) : HT.sIx n n (some (-1)) = n - 1 := by
  simp only [HT.sIx]
  split <;> omega
theorem belK_int {κ κ' : Type} {g : κ → κ'} {n : Nat} : ∀ (kvs : List (κ × Int)), belK n (mapT g D.int kvs) = true
  | [] => rfl
  | p :: kvs => by show (true && belK n (mapT g D.int kvs)) = true; rw [belK_int kvs]; rfl
end DM

namespace DM
open PySem PySem.Spec PyProof.Rows L2
/-! ### loops over written-down items, part by part -/
theorem take_at {α : Type} {l : List α} {i : Nat} {x : α} (h : l[i]? = some x) : l.take (i + 1) = l.take i ++ [x] := by rw [List.take_add_one, h]; rfl
theorem split_at {α : Type} {l : List α} {i : Nat} {x : α} (h : l[i]? = some x) : l = l.take i ++ x :: l.drop (i + 1) := by
  have hi := (List.getElem?_eq_some_iff.mp h)
  obtain ⟨hl, e⟩ := hi
  have := List.take_append_drop i l
  rw [List.drop_eq_getElem_cons hl, e] at this
  exact this.symm
def ForTurns {α : Type} (X : Cx) (tg : Expr) (body : List Stmt) (enc : α → D) (xs : List α) (ok : Store → Prop) (v : Fv) (S1 : Store) (E : Ed) : Prop :=
  ∃ I : List α → Fv → Store → Prop, I [] v S1 ∧ (∀ pre v2 S2, I pre v2 S2 → ok S2) ∧
    (∀ pre x post v2 S2, xs = pre ++ x :: post → I pre v2 S2 → WG X tg (enc x) v2 S2 fun v3 S3 => WSs X S1.length body v3 S3 { nx := fun v4 S4 => WkE S1.length v4 S4 (I (pre ++ [x])), ct := fun v4 S4 => WkE S1.length v4 S4 (I (pre ++ [x])), bk := E.nx, rt := E.rt }) ∧
    (∀ v2 S2, I xs v2 S2 → E.nx v2 S2)
section
variable {X : Cx} {n : Nat} {tg e it a : Expr} {body : List Stmt} {v : Fv} {S : Store} {E : Ed} {pos p pos2 : Pos}
theorem WS.forM {α : Type} (enc : α → D) (h : WI X tg it v S fun c S1 => ∃ xs : List α, c.items = xs.map enc ∧ ForTurns X tg body enc xs c.ok v S1 E) (hp : PassesOwn (model X.prog X.w) X.A X.env X.xe) (hc : X.calm = true)
    (hs : ∀ x, foldedSetIterable it X.env x = pure x := by intro _; rfl) : WS X n (.For tg it body [] pos) v S E := by
  refine WS.for (fun F t H R' re rs k => h F t H R' re rs fun F' J H' S' c p1 k1 rs1 sk q => k F' J H' S' c p1 k1 rs1 sk ?_) hp hc hs
  obtain ⟨xs, hc, I, i0, iok, turn, done⟩ := q
  have hl : c.items.length = xs.length := by rw [hc, List.length_map]
  refine ⟨fun i v2 S2 => I (xs.take i) v2 S2, i0, fun i v2 S2 _ h => iok _ v2 S2 h, fun i d v2 S2 hd h => ?_, fun v2 S2 h => done v2 S2 ?_⟩
  · rw [hc, List.getElem?_map] at hd
    cases e : xs[i]? with
    | none => rw [e] at hd; cases hd
    | some x =>
      rw [e] at hd
      cases (show d = enc x from (Option.some.inj hd).symm)
      have := turn (xs.take i) x (xs.drop (i + 1)) v2 S2 (split_at e) h
      rw [← take_at e] at this
      exact this
  · have h : I (xs.take c.items.length) v2 S2 := h
    rw [hl, List.take_length] at h
    exact h
theorem WS.forL {α : Type} (enc : α → D) (h : WE X e v S fun d S1 => ∃ l xs, d = .loc l ∧ S1[l]? = some (.lst (xs.map enc)) ∧ ForTurns X tg body enc xs (fun S2 => S2[l]? = some (.lst (xs.map enc))) v S1 E) (hp : PassesOwn (model X.prog X.w) X.A X.env X.xe) (hc : X.calm = true)
    (hs : ∀ x, foldedSetIterable e X.env x = pure x := by intro _; rfl) : WS X n (.For tg e body [] pos) v S E :=
  WS.forM enc (WI.list (h.mono fun d S1 ⟨l, xs, e1, e2, q⟩ => ⟨l, xs.map enc, e1, e2, xs, rfl, q⟩)) hp hc hs
theorem WS.forT {α : Type} (enc : α → D) (h : WE X e v S fun d S1 => ∃ xs : List α, d = .tup (xs.map enc) ∧ ForTurns X tg body enc xs (fun _ => True) v S1 E) (hp : PassesOwn (model X.prog X.w) X.A X.env X.xe) (hc : X.calm = true)
    (hs : ∀ x, foldedSetIterable e X.env x = pure x := by intro _; rfl) : WS X n (.For tg e body [] pos) v S E :=
  WS.forM enc (WI.tup (h.mono fun d S1 ⟨xs, e1, q⟩ => ⟨xs.map enc, e1, xs, rfl, q⟩)) hp hc hs
/-- over range(n): the body sees how many turns there were -/
theorem WS.forN (h : WA X [a] v S fun ds S1 => ∃ k : Nat, ds = [.int k] ∧ k ≤ 1000000 ∧ ∃ I : Nat → Fv → Store → Prop, I 0 v S1 ∧
      (∀ i v2 S2, i < k → I i v2 S2 → WG X tg (.int i) v2 S2 fun v3 S3 => WSs X S1.length body v3 S3 { nx := fun v4 S4 => WkE S1.length v4 S4 (I (i + 1)), ct := fun v4 S4 => WkE S1.length v4 S4 (I (i + 1)), bk := E.nx, rt := E.rt }) ∧ (∀ v2 S2, I k v2 S2 → E.nx v2 S2))
    (hm : X.mg "range" = none) (hp : PassesOwn (model X.prog X.w) X.A X.env X.xe) (hc : X.calm = true) (hg : Gl X "range" := by rfl) (hs : starEach [a] X.env = [(false, eval a X.env)] := by rfl)
    (hs2 : ∀ x, foldedSetIterable (.Call (.Name "range" p) [a] [] pos2) X.env x = pure x := by intro _; rfl) : WS X n (.For tg (.Call (.Name "range" p) [a] [] pos2) body [] pos) v S E := by
  refine WS.for (WI.range1 (fun F t H Q' re rs k => h F t H Q' re rs fun F1 ds vs H1 S1 p1 k1 rs1 r1 q => k F1 ds vs H1 S1 p1 k1 rs1 r1 ?_) hm hg hs) hp hc hs2
  obtain ⟨m, e, hm, I, i0, turn, done⟩ := q
  refine ⟨m, e, by omega, by omega, fun i v2 S2 => i ≤ m ∧ I i v2 S2, ⟨Nat.zero_le _, i0⟩, fun _ _ _ _ _ => trivial, ?_, ?_⟩
  · rintro i d v2 S2 hd ⟨hi, hI⟩
    obtain ⟨hi2, rfl⟩ := rngD_get.mp hd
    have hi2 : i < m := by omega
    have := turn i v2 S2 hi2 hI
    rw [Int.zero_add]
    have wk : ∀ v4 S4, WkE S1.length v4 S4 (I (i + 1)) → WkE S1.length v4 S4 fun v S => i + 1 ≤ m ∧ I (i + 1) v S := fun v4 S4 ⟨v5, S5, c, q⟩ => ⟨v5, S5, c, hi2, q⟩
    intro F t H u Q' re rs r k
    refine this F t H u Q' re rs r fun F1 v1 t1 H1 S3 p1 k1 re1 rs1 h1 => k F1 v1 t1 H1 S3 p1 k1 re1 rs1 ?_
    intro F0 H0 F t H E' hl p k re rs q
    exact h1 F0 H0 F t H E' hl p k re rs ⟨fun F5 v5 t5 H5 S5 p5 k5 re5 rs5 h5 => q.nx F5 v5 t5 H5 S5 p5 k5 re5 rs5 (wk _ _ h5), q.rt, q.bk, fun F5 v5 t5 H5 S5 p5 k5 re5 rs5 h5 => q.ct F5 v5 t5 H5 S5 p5 k5 re5 rs5 (wk _ _ h5)⟩
  · rintro v2 S2 ⟨_, hI⟩
    have e2 : (Src.items ⟨rngD 0 ((m : Int)).toNat, fun _ => True⟩).length = m := by
      show (rngD 0 ((m : Int)).toNat).length = m
      rw [rngD_len]; omega
    rw [e2] at hI
    exact done v2 S2 hI
end
/-- a comprehension whose elements are reckoned from the items alone, over encoded items -/
theorem lc_fm {α : Type} {X : Cx} {scope : Scope} {ifs : List Expr} {elt : Expr} {up : D → Fv → Option Fv} {vs : List Nat} {v : Fv} {n : Nat} {c : Src} {S1 : Store} {Q : D → Store → Prop} (enc : α → D) (xs : List α) (f : α → Option D) (hc : c.items = xs.map enc) (hb : belS S1.length S1) (hz : xs.length ≤ 100000)
    (hok : ∀ acc, c.ok (S1 ++ [.lst acc])) (turn : ∀ (x : α) (acc : List D), x ∈ xs → ∃ v3, up (enc x) (wipeD v vs) = some v3 ∧ ∀ Y, BlkOf X scope Y → WTs Y ifs v3 (S1 ++ [.lst acc]) fun b S3 => (∃ G, S3 = S1 ++ [.lst acc] ++ G) ∧
      (b = true → ∀ Z, BlkOf X scope Z → WE Z elt v3 S3 fun y S4 => (∃ G, S4 = S1 ++ [.lst acc] ++ G) ∧ bel S1.length y = true ∧ f x = some y) ∧ (b = false → f x = none))
    (h : Q (.loc S1.length) (S1 ++ [.lst (xs.filterMap f)])) : LcTurns X scope ifs elt up vs v n c S1 Q := by
  have ft : ∀ (i : Nat) (x : α), xs[i]? = some x → (xs.take (i + 1)).filterMap f = (xs.take i).filterMap f ++ (f x).toList := fun i x hx => by
    rw [take_at hx, List.filterMap_append]
    cases e : f x <;> simp [List.filterMap, e]
  have hl : c.items.length = xs.length := by rw [hc, List.length_map]
  refine ⟨fun i acc S2 => S2 = S1 ∧ acc = (xs.take i).filterMap f ∧ bel.belAll S1.length acc = true, ⟨rfl, by simp, rfl⟩, ?_, ?_, ?_⟩
  · rintro i acc S2 hi ⟨rfl, _⟩
    exact ⟨rfl, hok acc⟩
  · rintro i d acc S2 hd ⟨rfl, ha, hba⟩
    rw [hc, List.getElem?_map] at hd
    obtain ⟨x, hx, rfl⟩ : ∃ x, xs[i]? = some x ∧ d = enc x := by
      cases e : xs[i]? with
      | none => rw [e] at hd; cases hd
      | some x => rw [e] at hd; exact ⟨x, rfl, (Option.some.inj hd).symm⟩
    obtain ⟨v3, h1, h2⟩ := turn x acc (List.mem_of_getElem? hx)
    have cl : belS (S2.length + 1) (S2 ++ [.lst acc]) := belS_snoc (belS_mono (Nat.le_succ _) hb) (belAll_mono (Nat.le_succ _) acc hba)
    have hlen : acc.length ≤ i := by
      rw [ha]
      exact Nat.le_trans (List.length_filterMap_le _ _) (by simp; omega)
    have hi : i < xs.length := (List.getElem?_eq_some_iff.mp hx).1
    refine ⟨v3, h1, fun Y hY => ?_⟩
    have w := h2 Y hY
    have imp : ∀ b S3, ((∃ G, S3 = S2 ++ [.lst acc] ++ G) ∧ (b = true → ∀ Z, BlkOf X scope Z → WE Z elt v3 S3 fun y S4 => (∃ G, S4 = S2 ++ [.lst acc] ++ G) ∧ bel S2.length y = true ∧ f x = some y) ∧ (b = false → f x = none)) →
        (b = true → ∀ Z, BlkOf X scope Z → WE Z elt v3 S3 fun y S4 => WkD (S2.length + 1) y S4 fun y2 S5 => acc.length < sizeLine ∧ ∃ S6, S5 = S6 ++ [.lst acc] ∧ (S6 = S2 ∧ acc ++ [y2] = (xs.take (i + 1)).filterMap f ∧ bel.belAll S2.length (acc ++ [y2]) = true)) ∧
        (b = false → ∃ S5, CovS (S2.length + 1) S3 S5 ∧ ∃ S6, S5 = S6 ++ [.lst acc] ∧ (S6 = S2 ∧ acc = (xs.take (i + 1)).filterMap f ∧ bel.belAll S2.length acc = true)) := by
      rintro b S3 ⟨⟨G0, rfl⟩, ht, hf⟩
      refine ⟨fun hb1 Z hZ => ?_, fun hb0 => ?_⟩
      · refine (ht hb1 Z hZ).mono fun y S4 ⟨⟨G, e⟩, by', fy⟩ => ?_
        subst e
        have hl : (S2 ++ [Ob.lst acc]).length = S2.length + 1 := by simp
        refine ⟨y, S2 ++ [.lst acc], ?_, Nat.lt_of_lt_of_le (show acc.length < 100001 by omega) (by decide), S2, rfl, rfl, ?_, belAll_append hba (by show (bel S2.length y && true) = true; rw [by']; rfl)⟩
        · have := CovD.drop (S := S2 ++ [.lst acc]) (G := G) (d := y) (by rw [hl]; exact cl) (by rw [hl]; exact bel_mono (Nat.le_succ _) y by')
          rw [hl] at this
          exact this
        · rw [ft i x hx, fy, ha]; rfl
      · have hl : (S2 ++ [Ob.lst acc]).length = S2.length + 1 := by simp
        refine ⟨S2 ++ [.lst acc], CovS.drop (by rw [hl]; exact Nat.le_refl _) (by rw [hl]; exact cl), S2, rfl, rfl, ?_, hba⟩
        rw [ft i x hx, hf hb0, ha]; simp
    match ifs, w with
    | [], w => exact imp true _ w
    | [c'], w => exact fun F t H Q' re rs k => w F t H Q' re rs fun F' b H' S' p kk rs' q => k F' b H' S' p kk rs' (imp b S' q)
  · rintro acc S2 ⟨rfl, ha, _⟩
    rw [hl, List.take_length] at ha
    rw [ha]
    exact h
end DM

namespace DM
open PySem PySem.Spec PyProof.Rows L2
/-! ### things, helpers drawn -/
def many4 (a b : Int) : Nat := (([0, 0, 1, a] : List Int).getD b.toNat 0).toNat
def dThing : Nat → Dr → Th × Dr
  | 0, dr => (.mk (dMarks dr).1 [], (dMarks dr).2)
  | d + 1, dr =>
    let a := nx dr 4
    let b := nx a.2 4
    let m := dMarks b.2
    let xs := dMap (fun _ => dThing d) (List.range (many4 a.1 b.1)) m.2
    (.mk m.1 xs.1, xs.2)
theorem many4_bd {a b : Int} (ha : 0 ≤ a ∧ a < 4) (hb : 0 ≤ b ∧ b < 4) : many4 a b ≤ 3 ∧ atI ([.int 0, .int 0, .int 1, .int a] : List D) b = some (.int (many4 a b : Int)) := by
  have : b = 0 ∨ b = 1 ∨ b = 2 ∨ b = 3 := by omega
  rcases this with rfl | rfl | rfl | rfl
  · exact ⟨Nat.zero_le 3, rfl⟩
  · exact ⟨Nat.zero_le 3, rfl⟩
  · exact ⟨Nat.le_of_lt (by decide : 1 < 3), rfl⟩
  · have e : many4 a 3 = a.toNat := rfl
    rw [e]
    refine ⟨by omega, ?_⟩
    rw [Int.toNat_of_nonneg ha.1]; rfl
theorem dThing_ok : ∀ (d : Nat) (dr : Dr), OkT d (dThing d dr).1
  | 0, dr => ⟨dMarks_ok dr, rfl⟩
  | d + 1, dr => by
    refine ⟨dMarks_ok _, ?_, ?_⟩
    · show (dMap (fun _ => dThing d) (List.range (many4 (nx dr 4).1 (nx (nx dr 4).2 4).1)) (dMarks (nx (nx dr 4).2 4).2).2).1.length ≤ 3
      rw [dMap_len, List.length_range]
      exact (many4_bd (nx_bd _ (by decide)) (nx_bd _ (by decide))).1
    · exact dMap_all (f := fun _ => dThing d) (p := OkT d) fun b _ dr => dThing_ok d dr
abbrev ThS := Int × List (Int × Th) × Dr
abbrev HeS := Int × List He × Dr
def thStep (s : ThS) : ThS :=
  let a := nx s.2.2 3
  let t := dThing 2 a.2
  (s.1 + a.1 + 1, s.2.1 ++ [(s.1 + a.1, t.1)], t.2)
def heStep (s : HeS) : HeS :=
  let a := nx s.2.2 3
  let cs := dClaims a.2
  let b := nx cs.2 2
  let r := nx b.2 (([3, 5] : List Int).getD b.1.toNat 0)
  (s.1 + a.1 + 1, s.2.1 ++ [(s.1 + a.1, cs.1, r.1)], r.2)
def thIter : Nat → Dr → ThS
  | 0, dr => (0, [], dr)
  | i + 1, dr => thStep (thIter i dr)
def heIter : Nat → Dr → HeS
  | 0, dr => (0, [], dr)
  | i + 1, dr => heStep (heIter i dr)
theorem rise_of : ∀ {l : List Int} {a : Int}, l.Pairwise (· < ·) → (∀ x ∈ l, a < x ∧ x ≤ 999) → Rise a l
  | [], _, _, _ => trivial
  | x :: l, a, h, g => by
    rw [List.pairwise_cons] at h
    obtain ⟨g1, g2⟩ := g x List.mem_cons_self
    exact ⟨g1, g2, rise_of h.2 fun y hy => ⟨h.1 y hy, (g y (List.mem_cons_of_mem _ hy)).2⟩⟩
/-- rising, from 0 on, below b -/
def Up (l : List Int) (b : Int) : Prop := l.Pairwise (· < ·) ∧ ∀ x ∈ l, 0 ≤ x ∧ x < b
theorem Up.snoc {l : List Int} {b x c : Int} (h : Up l b) (h0 : 0 ≤ b) (h1 : b ≤ x) (h2 : x < c) : Up (l ++ [x]) c := by
  refine ⟨List.pairwise_append.mpr ⟨h.1, by simp, fun y hy z hz => ?_⟩, fun y hy => ?_⟩
  · have := h.2 y hy
    have : z = x := by simpa using hz
    omega
  · rcases List.mem_append.mp hy with hy | hy
    · have := h.2 y hy; omega
    · have : y = x := by simpa using hy
      omega
theorem Up.rise {l : List Int} {b : Int} (h : Up l b) (hb : b ≤ 1000) : Rise (-1) l := rise_of h.1 fun x hx => by have := h.2 x hx; omega
structure ThOk (i : Nat) (s : ThS) : Prop where
  n0 : 0 ≤ s.1
  n1 : s.1 ≤ 3 * (i : Int)
  len : s.2.1.length = i
  up : Up (s.2.1.map (·.1)) s.1
  ok : ∀ p ∈ s.2.1, OkT 2 p.2
theorem thIter_ok : ∀ (i : Nat) (dr : Dr), ThOk i (thIter i dr)
  | 0, dr => ⟨Int.le_refl 0, Int.le_refl 0, rfl, ⟨List.Pairwise.nil, fun _ h => by cases h⟩, fun _ h => by cases h⟩
  | i + 1, dr => by
    have ih := thIter_ok i dr
    show ThOk (i + 1) (thStep (thIter i dr))
    generalize thIter i dr = s at *
    have h3 := nx_bd s.2.2 (k := 3) (by decide)
    have h1 := ih.n0
    have h2 := ih.n1
    refine ⟨?_, ?_, ?_, ?_, ?_⟩
    · show 0 ≤ s.1 + (nx s.2.2 3).1 + 1; omega
    · show s.1 + (nx s.2.2 3).1 + 1 ≤ 3 * ((i + 1 : Nat) : Int); omega
    · show (s.2.1 ++ [_]).length = i + 1
      rw [List.length_append, ih.len]; rfl
    · show Up (List.map (fun p : Int × Th => p.1) (s.2.1 ++ [(s.1 + (nx s.2.2 3).1, _)])) (s.1 + (nx s.2.2 3).1 + 1)
      rw [List.map_append]
      exact ih.up.snoc h1 (by show s.1 ≤ s.1 + (nx s.2.2 3).1; omega) (by show s.1 + (nx s.2.2 3).1 < _; omega)
    · intro p hp
      rcases List.mem_append.mp hp with hp | hp
      · exact ih.ok p hp
      · rw [List.mem_singleton.mp hp]; exact dThing_ok 2 _
structure HeOk (i : Nat) (s : HeS) : Prop where
  n0 : 0 ≤ s.1
  n1 : s.1 ≤ 3 * (i : Int)
  len : s.2.1.length = i
  up : Up (s.2.1.map (·.1)) s.1
  ok : ∀ h ∈ s.2.1, OkCs h.2.1 ∧ 0 ≤ h.2.2 ∧ h.2.2 ≤ 4
theorem heIter_ok : ∀ (i : Nat) (dr : Dr), HeOk i (heIter i dr)
  | 0, dr => ⟨Int.le_refl 0, Int.le_refl 0, rfl, ⟨List.Pairwise.nil, fun _ h => by cases h⟩, fun _ h => by cases h⟩
  | i + 1, dr => by
    have ih := heIter_ok i dr
    show HeOk (i + 1) (heStep (heIter i dr))
    generalize heIter i dr = s at *
    have h3 := nx_bd s.2.2 (k := 3) (by decide)
    have h1 := ih.n0
    have h2 := ih.n1
    refine ⟨?_, ?_, ?_, ?_, ?_⟩
    · show 0 ≤ s.1 + (nx s.2.2 3).1 + 1; omega
    · show s.1 + (nx s.2.2 3).1 + 1 ≤ 3 * ((i + 1 : Nat) : Int); omega
    · show (s.2.1 ++ [_]).length = i + 1
      rw [List.length_append, ih.len]; rfl
    · show Up (List.map (fun p : He => p.1) (s.2.1 ++ [(s.1 + (nx s.2.2 3).1, _, _)])) (s.1 + (nx s.2.2 3).1 + 1)
      rw [List.map_append]
      exact ih.up.snoc h1 (by show s.1 ≤ s.1 + (nx s.2.2 3).1; omega) (by show s.1 + (nx s.2.2 3).1 < _; omega)
    · intro p hp
      rcases List.mem_append.mp hp with hp | hp
      · exact ih.ok p hp
      · rw [List.mem_singleton.mp hp]
        refine ⟨dClaims_ok _, ?_⟩
        have g1 := nx_bd (dClaims (nx s.2.2 3).2).2 (k := 2) (by decide)
        have g2 := (pick2_bd 3 5 g1).1
        have g3 := nx_bd (nx (dClaims (nx s.2.2 3).2).2 2).2 (k := (([3, 5] : List Int).getD (nx (dClaims (nx s.2.2 3).2).2 2).1.toNat 0)) (by rcases g2 with e | e <;> rw [e] <;> decide)
        show 0 ≤ (nx (nx (dClaims (nx s.2.2 3).2).2 2).2 (([3, 5] : List Int).getD (nx (dClaims (nx s.2.2 3).2).2 2).1.toNat 0)).1 ∧ (nx (nx (dClaims (nx s.2.2 3).2).2 2).2 (([3, 5] : List Int).getD (nx (dClaims (nx s.2.2 3).2).2 2).1.toNat 0)).1 ≤ 4
        rcases g2 with e | e <;> rw [e] at g3 ⊢ <;> omega
/-- (things, helpers) and what is drawn from behind -/
def dBoth (most : Int) (dr : Dr) : (List (Int × Th) × List He) × Dr :=
  let a := nx dr (most + 1)
  let ts := thIter a.1.toNat a.2
  let b := nx ts.2.2 (most + 1)
  let hs := heIter b.1.toNat b.2
  ((ts.2.1, hs.2.1), hs.2.2)
theorem dBoth_ok {most : Int} (h0 : 0 ≤ most) (h1 : most ≤ 16) (dr : Dr) : OkTs (dBoth most dr).1.1 ∧ OkHs (dBoth most dr).1.2 ∧ (dBoth most dr).1.1.length ≤ 16 ∧ (dBoth most dr).1.2.length ≤ 16 ∧ Up ((dBoth most dr).1.1.map (·.1)) 60 ∧ Up ((dBoth most dr).1.2.map (·.1)) 60 := by
  have a := nx_bd dr (k := most + 1) (by omega)
  have t := thIter_ok (nx dr (most + 1)).1.toNat (nx dr (most + 1)).2
  have b := nx_bd (thIter (nx dr (most + 1)).1.toNat (nx dr (most + 1)).2).2.2 (k := most + 1) (by omega)
  have h := heIter_ok (nx (thIter (nx dr (most + 1)).1.toNat (nx dr (most + 1)).2).2.2 (most + 1)).1.toNat (nx (thIter (nx dr (most + 1)).1.toNat (nx dr (most + 1)).2).2.2 (most + 1)).2
  have t1 := t.n1
  have h1 := h.n1
  have tl := t.len
  have hl := h.len
  refine ⟨⟨?_, t.up.rise (by omega), t.ok⟩, ⟨?_, h.up.rise (by omega), h.ok⟩, ?_, ?_, ⟨t.up.1, fun x hx => ?_⟩, ⟨h.up.1, fun x hx => ?_⟩⟩
  · show (thIter (nx dr (most + 1)).1.toNat (nx dr (most + 1)).2).2.1.length ≤ 100
    omega
  · show (heIter _ _).2.1.length ≤ 100
    omega
  · show (thIter (nx dr (most + 1)).1.toNat (nx dr (most + 1)).2).2.1.length ≤ 16
    omega
  · show (heIter _ _).2.1.length ≤ 16
    omega
  · have := t.up.2 x hx; omega
  · have := h.up.2 x hx; omega
/-! ### names within -/
mutual
theorem within_pre : ∀ (nm : List Int) (t : Th) (p : List Int × List Int), p ∈ within nm t → nm <+: p.1
  | nm, .mk m xs, p, h => by
    rcases List.mem_cons.mp (show p ∈ (nm, m) :: withins nm 0 xs from h) with rfl | h
    · exact List.prefix_refl _
    · obtain ⟨j, _, hj⟩ := withins_pre nm 0 xs p h
      exact (List.prefix_append nm [(j : Int)]).trans hj
theorem withins_pre : ∀ (nm : List Int) (k : Nat) (xs : List Th) (p : List Int × List Int), p ∈ withins nm k xs → ∃ j : Nat, k ≤ j ∧ nm ++ [(j : Int)] <+: p.1
  | _, _, [], p, h => by cases h
  | nm, k, x :: xs, p, h => by
    rcases List.mem_append.mp (show p ∈ within (nm ++ [(k : Int)]) x ++ withins nm (k + 1) xs from h) with h | h
    · exact ⟨k, Nat.le_refl _, within_pre _ x p h⟩
    · obtain ⟨j, hj, q⟩ := withins_pre nm (k + 1) xs p h
      exact ⟨j, by omega, q⟩
end
theorem pre_snoc_ne {nm a : List Int} {i j : Int} (h1 : nm ++ [i] <+: a) (h2 : nm ++ [j] <+: a) : i = j := by
  obtain ⟨r, rfl⟩ := h1
  obtain ⟨r2, e⟩ := h2
  rw [List.append_assoc, List.append_assoc] at e
  have := List.append_cancel_left e
  simp at this
  exact this.1.symm
mutual
theorem within_nd : ∀ (nm : List Int) (t : Th), ((within nm t).map (·.1)).Nodup
  | nm, .mk m xs => by
    show (nm :: (withins nm 0 xs).map (·.1)).Nodup
    refine List.nodup_cons.mpr ⟨fun h => ?_, withins_nd nm 0 xs⟩
    obtain ⟨p, hp, e⟩ := List.mem_map.mp h
    obtain ⟨j, _, q⟩ := withins_pre nm 0 xs p hp
    have := q.length_le
    rw [e, List.length_append] at this
    have this : nm.length + 1 ≤ nm.length := this
    omega
theorem withins_nd : ∀ (nm : List Int) (k : Nat) (xs : List Th), ((withins nm k xs).map (·.1)).Nodup
  | _, _, [] => List.nodup_nil
  | nm, k, x :: xs => by
    show ((within (nm ++ [(k : Int)]) x ++ withins nm (k + 1) xs).map (·.1)).Nodup
    rw [List.map_append, List.nodup_append]
    refine ⟨within_nd _ x, withins_nd nm (k + 1) xs, fun a ha b hb e => ?_⟩
    obtain ⟨p, hp, rfl⟩ := List.mem_map.mp ha
    obtain ⟨p2, hp2, rfl⟩ := List.mem_map.mp hb
    have h1 := within_pre _ x p hp
    obtain ⟨j, hj, h2⟩ := withins_pre nm (k + 1) xs p2 hp2
    rw [← e] at h2
    have := pre_snoc_ne h1 h2
    omega
end
theorem within_ok : ∀ {d : Nat} {nm : List Int} {t : Th}, OkT d t → ∀ p ∈ within nm t, nm.length ≤ p.1.length ∧ p.1.length ≤ nm.length + d ∧ OkM 0 p.2
  | 0, nm, t, h, p, hp => by
    rw [within_eq, h.2] at hp
    have : p = (nm, t.m) := by simpa [kids] using hp
    subst this
    exact ⟨Nat.le_refl _, Nat.le_refl _, h.1⟩
  | d + 1, nm, t, h, p, hp => by
    rw [within_eq] at hp
    rcases List.mem_cons.mp hp with rfl | hp
    · exact ⟨Nat.le_refl _, by show nm.length ≤ _; omega, h.1⟩
    · obtain ⟨q, hq, hp⟩ := List.mem_flatMap.mp hp
      have hx : q.2 ∈ t.xs := by
        have : q.2 ∈ (kids nm 0 t.xs).map (·.2) := List.mem_map.mpr ⟨q, hq, rfl⟩
        rw [kids_snd] at this
        exact this
      have hn : q.1.length = nm.length + 1 := by
        obtain ⟨k, hk, e⟩ := List.mem_iff_getElem.mp hq
        have e2 := kids_get nm t.xs 0 k
        rw [List.getElem?_eq_getElem hk, e] at e2
        cases e3 : t.xs[k]? with
        | none => rw [e3] at e2; cases e2
        | some x =>
          rw [e3] at e2
          have := Option.some.inj e2
          rw [this]; simp
      have := within_ok (h.2.2 q.2 hx) (nm := q.1) p hp
      exact ⟨by omega, by omega, this.2.2⟩
mutual
theorem within_len : ∀ (nm : List Int) (t : Th), (within nm t).length = t.size
  | nm, .mk m xs => by
    show (withins nm 0 xs).length + 1 = 1 + Th.sizes xs
    rw [withins_len]; omega
theorem withins_len : ∀ (nm : List Int) (k : Nat) (xs : List Th), (withins nm k xs).length = Th.sizes xs
  | _, _, [] => rfl
  | nm, k, x :: xs => by
    show (within (nm ++ [(k : Int)]) x ++ withins nm (k + 1) xs).length = x.size + Th.sizes xs
    rw [List.length_append, within_len, withins_len]
end
def markedOf (ts : List (Int × Th)) : List (List Int × List Int) := ts.flatMap fun p => within [p.1] p.2
theorem marked_snoc (ts : List (Int × Th)) (p : Int × Th) : markedOf (ts ++ [p]) = markedOf ts ++ within [p.1] p.2 := by
  unfold markedOf; rw [List.flatMap_append]; simp
theorem marked_len {ts : List (Int × Th)} (h : ∀ p ∈ ts, OkT 2 p.2) : (markedOf ts).length ≤ 13 * ts.length := by
  induction ts with
  | nil => exact Nat.le_refl _
  | cons p ts ih =>
    have := ih fun q hq => h q (List.mem_cons_of_mem _ hq)
    have h2 := size_le (h p List.mem_cons_self)
    have e : bnd 2 = 13 := rfl
    show (within [p.1] p.2 ++ markedOf ts).length ≤ 13 * (ts.length + 1)
    rw [List.length_append, within_len]
    omega
theorem marked_ok {ts : List (Int × Th)} (h : ∀ p ∈ ts, OkT 2 p.2) (hl : ts.length ≤ 60) : OkW (markedOf ts) := by
  refine ⟨by have := marked_len h; omega, fun p hp => ?_⟩
  obtain ⟨q, hq, hp⟩ := List.mem_flatMap.mp hp
  have := within_ok (h q hq) p hp
  exact ⟨this.1, this.2.1, this.2.2⟩
theorem marked_nd {ts : List (Int × Th)} (h : (ts.map (·.1)).Nodup) : ((markedOf ts).map (·.1)).Nodup := by
  induction ts with
  | nil => exact List.nodup_nil
  | cons p ts ih =>
    rw [List.map_cons, List.nodup_cons] at h
    show ((within [p.1] p.2 ++ markedOf ts).map (·.1)).Nodup
    rw [List.map_append, List.nodup_append]
    refine ⟨within_nd _ _, ih h.2, fun a ha b hb e => ?_⟩
    obtain ⟨q, hq, rfl⟩ := List.mem_map.mp ha
    obtain ⟨q2, hq2, rfl⟩ := List.mem_map.mp hb
    obtain ⟨r, hr, hq2⟩ := List.mem_flatMap.mp hq2
    have h1 := within_pre _ _ q hq
    have h2 := within_pre _ _ q2 hq2
    rw [← e] at h2
    have := pre_snoc_ne (nm := []) h1 h2
    exact h.1 (by rw [this]; exact List.mem_map.mpr ⟨r, hr, rfl⟩)
theorem getT_some {κ β : Type} [DecidableEq κ] {k : κ} : ∀ {kvs : List (κ × β)}, k ∈ kvs.map (·.1) → ∃ v, getT kvs k = some v
  | [], h => by cases h
  | p :: kvs, h => by
    rw [getT_cons]
    by_cases e : p.1 = k
    · exact ⟨p.2, by rw [if_pos e]⟩
    · rw [List.map_cons] at h
      rcases List.mem_cons.mp h with h | h
      · exact absurd h.symm e
      · obtain ⟨v, hv⟩ := getT_some h
        exact ⟨v, by rw [if_neg e]; exact hv⟩
theorem getT_none {κ β : Type} [DecidableEq κ] {k : κ} : ∀ {kvs : List (κ × β)}, k ∉ kvs.map (·.1) → getT kvs k = none
  | [], _ => rfl
  | p :: kvs, h => by
    rw [List.map_cons, List.mem_cons] at h
    rw [getT_cons, if_neg (fun z => h (.inl z.symm)), getT_none fun z => h (.inr z)]
/-- new keys are hung on -/
theorem putAll_new {κ β : Type} [DecidableEq κ] : ∀ (more kvs : List (κ × β)), (∀ k ∈ more.map (·.1), k ∉ kvs.map (·.1)) → (more.map (·.1)).Nodup → putAllT kvs more = kvs ++ more
  | [], kvs, _, _ => by simp [putAllT]
  | p :: more, kvs, h, nd => by
    rw [List.map_cons, List.nodup_cons] at nd
    show putAllT (putT kvs p.1 p.2) more = _
    rw [putT_new _ (getT_none (h p.1 (by simp)))]
    rw [putAll_new more (kvs ++ [(p.1, p.2)]) ?_ nd.2]
    · simp
    · intro k hk hm
      rw [List.map_append] at hm
      rcases List.mem_append.mp hm with hm | hm
      · exact h k (by rw [List.map_cons]; exact List.mem_cons_of_mem _ hk) hm
      · have : k = p.1 := by simpa using hm
        rw [this] at hk
        exact nd.1 hk
/-! ### what is had, reckoned both ways -/
def roomIn (hs : List He) (k : Int) : Int := ((hs.filter fun h => decide (h.1 = k)).map fun h => h.2.2).getD 0 0
def restStep (hs : List He) (fd : List (List Int × Int)) (r : Row) : List (List Int × Int) :=
  if getT fd r.2.2.2 = none ∧ ((fd.map (·.2)).count r.2.2.1 : Int) < roomIn hs r.2.2.1 ∧ (r.1 = 1 ∨ (getT fd r.2.2.2.dropLast).isSome = true) then putT fd r.2.2.2 r.2.2.1 else fd
theorem roomIn_eq {hs : List He} (nd : (hs.map (·.1)).Nodup) {h : He} (m : h ∈ hs) : roomIn hs h.1 = h.2.2 := by
  induction hs with
  | nil => cases m
  | cons g hs ih =>
    rw [List.map_cons, List.nodup_cons] at nd
    unfold roomIn
    rcases List.mem_cons.mp m with rfl | m
    · simp
    · have : ¬ g.1 = h.1 := fun z => nd.1 (by rw [z]; exact List.mem_map.mpr ⟨h, m, rfl⟩)
      rw [List.filter_cons, if_neg (by simpa using this)]
      exact ih nd.2 m
theorem rooms_get {hs : List He} (nd : (hs.map (·.1)).Nodup) {h : He} (m : h ∈ hs) : getT (roomsOf hs) h.1 = some h.2.2 := by
  have gen : ∀ (hs : List He) (kvs : List (Int × Int)), (hs.map (·.1)).Nodup → ∀ h ∈ hs, getT (putAllT kvs (hs.map fun h => (h.1, h.2.2))) h.1 = some h.2.2 := by
    intro hs
    induction hs with
    | nil => intro _ _ h m; cases m
    | cons g hs ih =>
      intro kvs nd h m
      rw [List.map_cons, List.nodup_cons] at nd
      rcases List.mem_cons.mp m with rfl | m
      · have keep : ∀ (l : List He) (kvs : List (Int × Int)) (k : Int), k ∉ l.map (·.1) → getT (putAllT kvs (l.map fun h => (h.1, h.2.2))) k = getT kvs k := by
          intro l
          induction l with
          | nil => intro _ _ _; rfl
          | cons a l ih => 
            intro kvs k hk
            rw [List.map_cons, List.mem_cons] at hk
            show getT (putAllT (putT kvs a.1 a.2.2) (l.map fun h => (h.1, h.2.2))) k = _
            rw [ih _ k (fun z => hk (.inr z)), getT_put, if_neg (fun z => hk (.inl z))]
        show getT (putAllT (putT kvs h.1 h.2.2) (hs.map fun h => (h.1, h.2.2))) h.1 = _
        rw [keep hs _ _ nd.1, getT_put, if_pos rfl]
      · exact ih (putT kvs g.1 g.2.2) nd.2 h m
  exact gen hs [] nd h m
theorem had_rest {hs : List He} (nd : (hs.map (·.1)).Nodup) : ∀ (rows : List Row) (rm : List (Int × Int)) (fd : List (List Int × Int)), (∀ r ∈ rows, ∃ h ∈ hs, h.1 = r.2.2.1) →
    (∀ h ∈ hs, getT rm h.1 = some (h.2.2 - ((fd.map (·.2)).count h.1 : Int))) → (rows.foldl hadStep (rm, fd)).2 = rows.foldl (restStep hs) fd
  | [], _, _, _, _ => rfl
  | r :: rows, rm, fd, hr, inv => by
    obtain ⟨h, hm, he⟩ := hr r List.mem_cons_self
    have hg := inv h hm
    rw [he] at hg
    have hri := roomIn_eq nd hm
    rw [he] at hri
    rw [List.foldl_cons, List.foldl_cons]
    by_cases c : getT fd r.2.2.2 = none ∧ ((fd.map (·.2)).count r.2.2.1 : Int) < roomIn hs r.2.2.1 ∧ (r.1 = 1 ∨ (getT fd r.2.2.2.dropLast).isSome = true)
    · have e1 : hadStep (rm, fd) r = (putT rm r.2.2.1 ((getT rm r.2.2.1).getD 0 - 1), putT fd r.2.2.2 r.2.2.1) := by
        unfold hadStep
        rw [if_pos]
        refine ⟨c.1, ?_, c.2.2⟩
        show 0 < (getT rm r.2.2.1).getD 0
        rw [hg]
        have := c.2.1
        rw [hri] at this
        show 0 < h.2.2 - _
        omega
      have e2 : restStep hs fd r = putT fd r.2.2.2 r.2.2.1 := by unfold restStep; rw [if_pos c]
      rw [e1, e2]
      refine had_rest nd rows _ _ (fun x hx => hr x (List.mem_cons_of_mem _ hx)) fun g gm => ?_
      rw [getT_put, putT_new _ c.1, List.map_append, List.count_append]
      have hgg := inv g gm
      by_cases e : g.1 = r.2.2.1
      · rw [if_pos e, hg, e]
        rw [e] at hgg
        rw [hg] at hgg
        have := Option.some.inj hgg
        simp
        omega
      · rw [if_neg e, hgg]
        have : ¬ r.2.2.1 = g.1 := fun z => e z.symm
        simp [this]
    · have e1 : hadStep (rm, fd) r = (rm, fd) := by
        unfold hadStep
        rw [if_neg]
        rintro ⟨c1, c2, c3⟩
        refine c ⟨c1, ?_, c3⟩
        have c2 : 0 < (getT rm r.2.2.1).getD 0 := c2
        rw [hg] at c2
        have c2 : 0 < h.2.2 - ((fd.map (·.2)).count r.2.2.1 : Int) := c2
        rw [hri]
        omega
      have e2 : restStep hs fd r = fd := by unfold restStep; rw [if_neg c]
      rw [e1, e2]
      exact had_rest nd rows rm fd (fun x hx => hr x (List.mem_cons_of_mem _ hx)) inv
theorem rise_lt : ∀ {l : List Int} {a : Int}, Rise a l → ∀ x ∈ l, a < x
  | [], _, _, _, h => by cases h
  | y :: l, a, h, x, hx => by
    rcases List.mem_cons.mp hx with rfl | hx
    · exact h.1
    · have := rise_lt h.2.2 x hx
      have := h.1
      omega
theorem rise_nd : ∀ {l : List Int} {a : Int}, Rise a l → l.Nodup
  | [], _, _ => List.nodup_nil
  | x :: l, a, h => List.nodup_cons.mpr ⟨fun z => by have := rise_lt h.2.2 x z; omega, rise_nd h.2.2⟩
theorem had_law {ps : List (List Int × List Int)} {hs : List He} (oh : OkHs hs) : hadOf ps hs = (sortR ps hs).foldl (restStep hs) [] := by
  have nd := rise_nd oh.2.1
  refine had_rest nd _ _ _ (fun r hr => ?_) fun h hm => ?_
  · obtain ⟨p, hp, x, hx, v, _, rfl⟩ := rows_of (List.mem_mergeSort.mp hr)
    exact ⟨x, hx, rfl⟩
  · rw [rooms_get nd hm]; simp
end DM

namespace DM
open PySem PySem.Spec PyProof.Rows L2
/-! ### names of a thing hash apart -/
def fullN : Nat → List Int → List (List Int)
  | 0, nm => [nm]
  | d + 1, nm => nm :: (fullN d (nm ++ [0]) ++ fullN d (nm ++ [1]) ++ fullN d (nm ++ [2]))
theorem within_full : ∀ {d : Nat} {nm : List Int} {t : Th}, OkT d t → ((within nm t).map (·.1)).Sublist (fullN d nm)
  | 0, nm, t, h => by
    rw [within_eq, h.2]
    exact List.Sublist.refl _
  | d + 1, nm, t, h => by
    rw [within_eq]
    show (nm :: ((kids nm 0 t.xs).flatMap fun p => within p.1 p.2).map (·.1)).Sublist (nm :: _)
    refine List.Sublist.cons_cons _ ?_
    have h1 := h.2.1
    have h2 := h.2.2
    generalize t.xs = xs at *
    match xs, h1, h2 with
    | [], _, _ => exact List.nil_sublist _
    | [a], _, h2 =>
      have := within_full (nm := nm ++ [0]) (h2 a (by simp))
      simp only [kids, List.flatMap_cons, List.flatMap_nil, List.append_nil]
      exact (this.trans (List.sublist_append_left _ _)).trans (List.sublist_append_left _ _)
    | [a, b], _, h2 =>
      have ha := within_full (nm := nm ++ [0]) (h2 a (by simp))
      have hb := within_full (nm := nm ++ [1]) (h2 b (by simp))
      simp only [kids, List.flatMap_cons, List.flatMap_nil, List.append_nil, List.map_append]
      exact (ha.append hb).trans (List.sublist_append_left _ _)
    | [a, b, c], _, h2 =>
      have ha := within_full (nm := nm ++ [0]) (h2 a (by simp))
      have hb := within_full (nm := nm ++ [1]) (h2 b (by simp))
      have hc := within_full (nm := nm ++ [2]) (h2 c (by simp))
      simp only [kids, List.flatMap_cons, List.flatMap_nil, List.append_nil, List.map_append]
      rw [← List.append_assoc]
      exact (ha.append hb).append hc
    | _ :: _ :: _ :: _ :: _, h1, _ => simp at h1
def hashI (nm : List Int) : Int := reduceHash (Builtin.Tuple.tupleHashOf (nm.map hashInt))
theorem hashI_full : ∀ n : Nat, n < 400 → ((fullN 2 [(n : Int)]).map hashI).Nodup := by decide +kernel
section
variable (P : Program) (w : World)
theorem hashT_int (nm : List Int) : hashT P w (kN nm) = hashI nm := by
  show reduceHash (Builtin.Tuple.tupleHashOf ((kN nm).map (keyH w))) = _
  unfold hashI kN
  rw [List.map_map]; rfl
theorem hash_within {t : Th} {n : Int} (h : OkT 2 t) (h0 : 0 ≤ n) (h1 : n < 400) : ((mapT kN eM (within [n] t)).map fun kv => hashT P w kv.1).Nodup := by
  have e : ((mapT kN eM (within [n] t)).map fun kv => hashT P w kv.1) = ((within [n] t).map (·.1)).map hashI := by
    unfold mapT
    rw [List.map_map, List.map_map]
    exact List.map_congr_left fun p _ => hashT_int P w p.1
  rw [e]
  have := hashI_full n.toNat (by omega)
  rw [Int.toNat_of_nonneg h0] at this
  exact this.sublist ((within_full h).map hashI)
end
end DM

namespace DM
open PySem PySem.Spec PyProof.Rows L2
/-! ### one more number behind the last -/
def lastI (l : List Int) : Int := l.getLastD 0
theorem lastI_snoc (l : List Int) (x : Int) : lastI (l ++ [x]) = x := by
  unfold lastI; rw [List.getLastD_eq_getLast?, List.getLast?_append]; rfl
theorem Up.next {l : List Int} {b : Int} (h : Up l b) (hb : 1 ≤ b) : Up (l ++ [lastI l + 1]) (b + 1) ∧ 0 ≤ lastI l ∧ lastI l < b := by
  rcases List.eq_nil_or_concat l with rfl | ⟨l', x, rfl⟩
  · refine ⟨⟨by simp, fun x hx => ?_⟩, Int.le_refl 0, by show (0 : Int) < b; omega⟩
    have : x = 1 := by simpa [lastI] using hx
    omega
  · rw [List.concat_eq_append] at h ⊢
    rw [lastI_snoc]
    have hx := h.2 x (by simp)
    refine ⟨⟨?_, fun y hy => ?_⟩, hx.1, hx.2⟩
    · rw [List.pairwise_append]
      refine ⟨h.1, by simp, fun a ha c hc => ?_⟩
      have hc : c = x + 1 := by simpa using hc
      rcases List.mem_append.mp ha with ha | ha
      · have := (List.pairwise_append.mp h.1).2.2 a ha x (by simp)
        omega
      · have : a = x := by simpa using ha
        omega
    · rcases List.mem_append.mp hy with hy | hy
      · have := h.2 y hy; omega
      · have : y = x + 1 := by simpa using hy
        omega
theorem Up.mono {l : List Int} {b c : Int} (h : Up l b) (hb : b ≤ c) : Up l c := ⟨h.1, fun x hx => by have := h.2 x hx; omega⟩
def GoodT (ts : List (Int × Th)) : Prop := ts.length ≤ 16 ∧ Up (ts.map (·.1)) (60 + ts.length) ∧ ∀ p ∈ ts, OkT 2 p.2
def GoodH (hs : List He) : Prop := hs.length ≤ 16 ∧ Up (hs.map (·.1)) (60 + hs.length) ∧ ∀ h ∈ hs, OkCs h.2.1 ∧ 0 ≤ h.2.2 ∧ h.2.2 ≤ 4
theorem GoodT.ok {ts : List (Int × Th)} (h : GoodT ts) : OkTs ts ∧ ts.length ≤ 60 ∧ ∀ p ∈ ts.take 1, p.1 < 400 := by
  have := h.1
  refine ⟨⟨by omega, h.2.1.rise (by omega), h.2.2⟩, by omega, fun p hp => ?_⟩
  have := h.2.1.2 p.1 (List.mem_map.mpr ⟨p, List.mem_of_mem_take hp, rfl⟩)
  omega
theorem GoodH.ok {hs : List He} (h : GoodH hs) : OkHs hs := ⟨by have := h.1; omega, h.2.1.rise (by have := h.1; omega), h.2.2⟩
theorem GoodT.snoc {ts : List (Int × Th)} {t : Th} (h : GoodT ts) (hl : ts.length < 16) (ht : OkT 2 t) : GoodT (ts ++ [(lastI (ts.map (·.1)) + 1, t)]) := by
  refine ⟨by simp; omega, ?_, fun p hp => ?_⟩
  · rw [List.map_append, List.length_append]
    have := (h.2.1.next (by omega)).1
    exact this.mono (by show 60 + (ts.length : Int) + 1 ≤ 60 + ((ts.length + 1 : Nat) : Int); omega)
  · rcases List.mem_append.mp hp with hp | hp
    · exact h.2.2 p hp
    · rw [List.mem_singleton.mp hp]; exact ht
theorem GoodH.snoc {hs : List He} {c : List (List Int × Int)} {r : Int} (h : GoodH hs) (hl : hs.length < 16) (hc : OkCs c) (h0 : 0 ≤ r) (h4 : r ≤ 4) : GoodH (hs ++ [(lastI (hs.map (·.1)) + 1, c, r)]) := by
  refine ⟨by simp; omega, ?_, fun p hp => ?_⟩
  · rw [List.map_append, List.length_append]
    have := (h.2.1.next (by omega)).1
    exact this.mono (by show 60 + (hs.length : Int) + 1 ≤ 60 + ((hs.length + 1 : Nat) : Int); omega)
  · rcases List.mem_append.mp hp with hp | hp
    · exact h.2.2 p hp
    · rw [List.mem_singleton.mp hp]; exact ⟨hc, h0, h4⟩
theorem dBoth_good {most : Int} (h0 : 0 ≤ most) (h1 : most ≤ 16) (dr : Dr) : GoodT (dBoth most dr).1.1 ∧ GoodH (dBoth most dr).1.2 := by
  obtain ⟨a, b, c, d, e, f⟩ := dBoth_ok h0 h1 dr
  exact ⟨⟨c, e.mono (by omega), a.2.2⟩, ⟨d, f.mono (by omega), b.2.2⟩⟩
/-- the last of a list's data -/
theorem last_map {α : Type} (e : α → D) (g : α → Int) (z : D) (l : List α) (hz : ∃ r, z = .tup (.int 0 :: r)) (he : ∀ a, ∃ r, e a = .tup (.int (g a) :: r)) : ∃ r, atI (z :: l.map e) (-1) = some (.tup (.int (lastI (l.map g)) :: r)) := by
  rcases List.eq_nil_or_concat l with rfl | ⟨l', x, rfl⟩
  · obtain ⟨r, rfl⟩ := hz
    exact ⟨r, L2.atI_last [] _⟩
  · rw [List.concat_eq_append, List.map_append, List.map_append]
    obtain ⟨r, hr⟩ := he x
    refine ⟨r, ?_⟩
    have h1 : lastI (l'.map g ++ [x].map g) = g x := lastI_snoc _ _
    have h2 : (z :: (l'.map e ++ [x].map e)) = (z :: l'.map e) ++ [e x] := rfl
    rw [h1, ← hr, h2]
    exact L2.atI_last _ _
/-! ### data alike -/
def pairP (p : List Int × Int) : PyData := .tuple [.tuple (p.1.map PyData.int), .int p.2]
theorem pds_ints (S : Store) : ∀ l : List Int, PDs S (l.map D.int) (l.map PyData.int)
  | [] => .nil
  | i :: l => .cons (.int i) (pds_ints S l)
theorem pds_map {α : Type} {S : Store} {e : α → D} {g : α → PyData} (h : ∀ a, PD S (e a) (g a)) : ∀ l : List α, PDs S (l.map e) (l.map g)
  | [] => .nil
  | a :: l => .cons (h a) (pds_map h l)
theorem okP_ints {n : Nat} {l : List Int} (h : l.length ≤ 100000) : okP (n + 1) (.tuple (l.map PyData.int)) = true := by
  show (decide ((l.map PyData.int).length ≤ 100000) && (l.map PyData.int).all (okP n)) = true
  rw [List.length_map, decide_eq_true h, Bool.true_and, List.all_eq_true]
  intro y hy
  obtain ⟨i, _, rfl⟩ := List.mem_map.mp hy
  cases n <;> rfl
theorem okP_pair {n : Nat} {p : List Int × Int} (h : p.1.length ≤ 100000) : okP (n + 2) (pairP p) = true := by
  show (decide (2 ≤ 100000) && (okP (n + 1) (.tuple (p.1.map PyData.int)) && (okP (n + 1) (.int p.2) && true))) = true
  rw [okP_ints h]; rfl
theorem okP_list {n : Nat} {l : List PyData} (hl : l.length ≤ 100000) (h : ∀ p ∈ l, okP n p = true) : okP (n + 1) (.list l) = true := by
  show (decide (l.length ≤ 100000) && l.all (okP n)) = true
  rw [decide_eq_true hl, Bool.true_and, List.all_eq_true]
  exact h
end DM

namespace DM
open PySem PySem.Spec PyProof.Rows L2
/-! ### locking a dict, for statements and for expressions -/
def Lk : Ob → Prop
  | .dK _ => True
  | .dT _ => True
  | _ => False
section
variable {F : List Addr} {H : Hp}
theorem Lk.noT {u : Ob} {g : HO} (h : Lk u) (r : RO F H u g) : NoT g := by
  cases u with
  | dK kvs => obtain ⟨vs, rfl, _⟩ := r; trivial
  | dT kvs => obtain ⟨vs, rfl, _⟩ := r; trivial
  | _ => exact h.elim
theorem Lk.noS {u : Ob} {g : HO} (h : Lk u) (r : RO F H u g) : ∀ xs, g ≠ .lst xs := by
  cases u with
  | dK kvs => obtain ⟨vs, rfl, _⟩ := r; intro xs z; cases z
  | dT kvs => obtain ⟨vs, rfl, _⟩ := r; intro xs z; cases z
  | _ => exact h.elim
theorem Lk.mut {u : Ob} {g : HO} (h : Lk u) (r : RO F H u g) : Mut (some g) := by
  cases u with
  | dK kvs => obtain ⟨vs, rfl, _⟩ := r; trivial
  | dT kvs => obtain ⟨vs, rfl, _⟩ := r; trivial
  | _ => exact h.elim
/-- what is left behind, unlocked -/
theorem unlock {S1 S : Store} {l : Nat} {u : Ob} {a : Addr} {g : HO} {od : Obj} {F1 : List Addr} {H1 : Hp} (lk : Lk u) (e1 : F[l]? = some a) (e2 : H a = some g) (n : NoT g) (ns : ∀ xs, g ≠ .lst xs) (p1 : F <+: F1) (k1 : Keep (upd H a (.frz od g)) H1) (rs1 : RS F1 H1 S1) (hS : S1[l]? = some (.frz od u)) :
    H1 a = some (.frz od g) ∧ Keep H (upd H1 a g) ∧ Keep0 H1 (upd H1 a g) ∧ RS F1 (upd H1 a g) (S1.set l u) := by
  have ha := k1.2 a od g upd_same
  have k0 : Keep0 H1 (upd H1 a g) := ⟨fun b xs z => by rw [upd_ne (fun y => by rw [y, ha] at z; cases z)]; exact z, fun b o xs z => by rw [upd_ne (fun y => by rw [y, ha] at z; injection z with z; injection z with _ z; exact ns xs z)]; exact z⟩
  obtain ⟨a1, g1, f1, f2, g2, f3, f4⟩ := rs1.get hS
  have ea : a1 = a := by
    have := pre_get p1 e1
    rw [f1] at this
    exact Option.some.inj this
  subst ea
  rw [ha] at f2
  cases f2
  injection f3 with _ f3
  subst f3
  refine ⟨ha, keep_unlock e2 n k1, k0, by simp [rs1.len], rs1.nd, fun j ob e => ?_⟩
  by_cases hj : j = l
  · subst hj
    rw [List.getElem?_set_self (rs1.lt f1)] at e
    cases e
    exact ⟨a1, g, f1, upd_same, RO.m0 k0 _ _ f4⟩
  · rw [List.getElem?_set_ne (fun z => hj z.symm)] at e
    obtain ⟨b, w, q1, q2, q3⟩ := rs1.ob j ob e
    have nb : b ≠ a1 := fun z => by
      subst z
      obtain ⟨i1, i2⟩ := List.getElem?_eq_some_iff.mp q1
      obtain ⟨j1, j2⟩ := List.getElem?_eq_some_iff.mp f1
      exact hj ((List.getElem_inj rs1.nd).mp (i2.trans j2.symm))
    exact ⟨b, w, q1, by rw [upd_ne nb]; exact q2, RO.m0 k0 _ _ q3⟩
end
section
variable {X : Cx} {n l : Nat} {st : Stmt} {e : Expr} {v : Fv} {S : Store} {E : Ed}
theorem WS.lockO {u : Ob} (lk : Lk u) (hl : S[l]? = some u) (h : ∀ o, WS X S.length st v (S.set l (.frz o u)) (lockEd l o u E)) : WS X n st v S E := fun F0 H0 F t H E' hl' p k re rs q => by
  refine wS_of (ps_lock ps_w) ?_
  obtain ⟨a, g, e1, e2, e3⟩ := rs.get hl
  have n := lk.noT e3
  have ns := lk.noS e3
  refine ⟨a, g, e2, lk.mut e3, fun od => ?_⟩
  have kk : Keep H (upd H a (.frz od g)) := Keep.upd e2 n
  have rs' : RS F (upd H a (.frz od g)) (S.set l (.frz od u)) := rs.set (o := .frz od u) e1 e2 n ⟨g, rfl, e3⟩
  have re' := re.mono (List.prefix_refl F) kk
  refine h od F (upd H a (.frz od g)) F t _ _ rs.len (List.prefix_refl F) (Keep.refl _) re' rs' ⟨fun F1 v1 t1 H1 S1 p1 k1 re1 rs1 z => ?_, fun F1 d1 u1 H1 S1 p1 k1 rs1 r1 z => ?_, fun F1 v1 t1 H1 S1 p1 k1 re1 rs1 z => ?_, fun F1 v1 t1 H1 S1 p1 k1 re1 rs1 z => ?_⟩
  · obtain ⟨u1, u2, u3, u4⟩ := unlock (S := S) lk e1 e2 n ns p1 k1 rs1 z.1
    exact ⟨u1, q.nx F1 v1 t1 _ _ (p.trans p1) (k.trans u2) (RE.m0 u3 re1) u4 z.2⟩
  · obtain ⟨u1', u2, u3, u4⟩ := unlock (S := S) lk e1 e2 n ns p1 k1 rs1 z.1
    exact ⟨u1', q.rt F1 d1 u1 _ _ (p.trans p1) (k.trans u2) u4 (RD.m0 u3 _ _ r1) z.2⟩
  · obtain ⟨u1, u2, u3, u4⟩ := unlock (S := S) lk e1 e2 n ns p1 k1 rs1 z.1
    exact ⟨u1, q.bk F1 v1 t1 _ _ (p.trans p1) (k.trans u2) (RE.m0 u3 re1) u4 z.2⟩
  · obtain ⟨u1, u2, u3, u4⟩ := unlock (S := S) lk e1 e2 n ns p1 k1 rs1 z.1
    exact ⟨u1, q.ct F1 v1 t1 _ _ (p.trans p1) (k.trans u2) (RE.m0 u3 re1) u4 z.2⟩
theorem WE.lock {u : Ob} {Q : D → Store → Prop} (lk : Lk u) (hl : S[l]? = some u) (h : ∀ o, WE X e v (S.set l (.frz o u)) fun d S1 => S1[l]? = some (.frz o u) ∧ Q d (S1.set l u)) : WE X e v S Q := fun F t H Q' re rs k => by
  refine wE_of (pe_lock pe_w) ?_
  obtain ⟨a, g, e1, e2, e3⟩ := rs.get hl
  have n := lk.noT e3
  have ns := lk.noS e3
  refine ⟨a, g, e2, lk.mut e3, fun od => ?_⟩
  have kk : Keep H (upd H a (.frz od g)) := Keep.upd e2 n
  have rs' : RS F (upd H a (.frz od g)) (S.set l (.frz od u)) := rs.set (o := .frz od u) e1 e2 n ⟨g, rfl, e3⟩
  have re' := re.mono (List.prefix_refl F) kk
  refine h od F t _ _ re' rs' fun F1 d1 u1 H1 S1 p1 k1 rs1 r1 z => ?_
  obtain ⟨u1', u2, u3, u4⟩ := unlock (S := S) lk e1 e2 n ns p1 k1 rs1 z.1
  exact ⟨u1', k F1 d1 u1 _ _ p1 u2 u4 (RD.m0 u3 _ _ r1) z.2⟩
/-- for k in d, d locked, its keys ints or texts -/
theorem WI.keysK {tg e : Expr} {R : Src → Store → Prop} (h : WE X e v S fun d S1 => ∃ l o kvs, d = .loc l ∧ S1[l]? = some (.frz o (.dK kvs)) ∧ R ⟨kvs.map fun kv => kdD kv.1, fun _ => True⟩ S1) : WI X tg e v S R := fun F t H R' re rs k => by
  refine wI_of (pi_keys pe_w) ?_
  refine h F t H _ re rs fun F1 d u H1 S1 p1 k1 rs1 r1 h1 => ?_
  obtain ⟨l, o, kvs, rfl, hl, q⟩ := h1
  obtain ⟨a, rfl, ha⟩ := r1
  obtain ⟨a', h', e1, e2, g, e3, vs, e4, e5⟩ := rs1.get hl
  rw [e1] at ha; cases ha
  subst e3 e4
  refine ⟨a, o, rfl, .inl ⟨vs, e2, ?_⟩⟩
  refine k F1 (Itk a o vs) H1 S1 ⟨kvs.map fun kv => kdD kv.1, fun _ => True⟩ p1 k1 rs1 (fun F2 H2 S2 p2 k2 rs2 ok => ?_) q
  have hd := k2.2 _ _ _ e2
  have hl2 : (kvs.map fun kv => kdD kv.1).length = vs.length := by rw [List.length_map, e5.length]
  refine ⟨fun i hi => ⟨⟨hd, by rw [← hl2]; exact hi⟩, fun x H3 hy => ?_⟩, hd, by show vs.length ≤ (kvs.map fun kv => kdD kv.1).length; omega⟩
  obtain ⟨rfl, kk, v', hk, rfl⟩ := hy
  refine ⟨Keep.refl _, rs2, kdD kk, ?_, by cases kk <;> rfl⟩
  have e6 : (vs.map (·.1))[i]? = some kk := by rw [List.getElem?_map, hk]; rfl
  rw [e5.keys, List.getElem?_map] at e6
  show (kvs.map fun kv => kdD kv.1)[i]? = _
  rw [List.getElem?_map]
  cases e7 : kvs[i]? with
  | none => rw [e7] at e6; cases e6
  | some kv => rw [e7] at e6; cases e6; rfl
end
end DM

namespace DM
open PySem PySem.Spec PyProof.Rows L2
/-! ### d.pop, d.get, len(d), sorted(d), dict(pairs) -/
section
variable {κ β : Type} [DecidableEq κ]
def dropT (kvs : List (κ × β)) (k : κ) : List (κ × β) := kvs.filter fun kv => decide (kv.1 ≠ k)
theorem RKs.dropT {F : List Addr} {H : Hp} {k : κ} : ∀ {kvs : List (κ × D)} {vs : List (κ × V)}, RKs F H kvs vs → RKs F H (dropT kvs k) (dropK vs k)
  | [], vs, r => by cases (show vs = [] from r); rfl
  | p :: kvs, vs, r => by
    obtain ⟨v, r', rfl, h1, h2⟩ := r
    have ih := RKs.dropT (k := k) h2
    unfold DM.dropT L2.dropK at *
    by_cases e : p.1 = k
    · rw [List.filter_cons_of_neg (by simp [e]), List.filter_cons_of_neg (by simp [e])]; exact ih
    · rw [List.filter_cons_of_pos (by simp [e]), List.filter_cons_of_pos (by simp [e])]; exact ⟨v, _, rfl, h1, ih⟩
end
section
variable {X : Cx} {S : Store} {Q : D → Store → Prop} {l : Nat}
def rPopT1 : V → List V → Hp → VK → Prop := fun x xs H Q => ∃ (a : Addr) (kvs : List (List Key × V)) (k : List Key) (b : Addr) (v : V), x = .ref a ∧ xs = [.ref b] ∧ H a = some (.dT kvs) ∧ H b = some (.tup (k.map kV)) ∧ valV kvs k = some v ∧ Q v (upd H a (.dT (dropK kvs k)))
theorem mt_popT1 (hu : X.A.units + 1 < cLine) : MtR X "dict.pop" rPopT1 := by
  intro pins s σ H x xs v us Q I rx rxs h
  obtain ⟨a, kvs, k, b, v0, rfl, rfl, ha, hb, hv, q⟩ := h
  cases rx
  obtain ⟨u1, rfl, r1⟩ := rxs.one
  obtain rfl : u1 = Value.ref b := r1
  obtain ⟨z, hd, xs', rel, dd⟩ := dt_of I.hok ha
  have hz : xs'.length ≤ sizeLine := by rw [← Paired.length rel]; exact z
  have r := rel.val k
  rw [hv] at r
  obtain ⟨p, hp, rp⟩ : ∃ p, atKey xs' k = some p ∧ RelV v0 p.2 := by
    cases e : atKey xs' k with
    | none => rw [e] at r; exact (show False from r).elim
    | some p => rw [e] at r; exact ⟨p, rfl, r⟩
  refine call_pop_heap (hsz := hz) (more := []) (.inl rfl) (PySem.F.args_dict_pop_2 _ _) (tupleKind_room_in1 hu) (key_of I.hok hb) hd dd hp fun h' dd' hs => ?_
  obtain ⟨o, es, ep, hq, h2, h3, h4, _, h5⟩ := dd'
  have I2 : Inv X pins σ (upd H a (.dT (dropK kvs k))) { s with heap := h', toks := s.toks + (tupleKind (mixKind X.prog X.w)).draws k } :=
    d_write I (by rw [ha]; exact True.intro) hs ⟨o, hq⟩ ⟨Nat.le_trans (dropK_le kvs k) z, hd, _, (DX.KT_drop k rel).keeps (fun c ys ec => (by rw [upd_ne (ne_of ec ha (fun z => nomatch z))]; exact ec)), o, es, ep, hq, h2, h3, h4, h5⟩
  show EP X pins σ Q p.2 _
  exact ⟨v0, _, I2, rp, q⟩
def rPopK1 : V → List V → Hp → VK → Prop := fun x xs H Q => ∃ (a : Addr) (kvs : List (Key × V)) (k : Key) (v : V), x = .ref a ∧ xs = [kV k] ∧ H a = some (.dK kvs) ∧ valV kvs k = some v ∧ Q v (upd H a (.dK (dropK kvs k)))
theorem mt_popK1 : MtR X "dict.pop" rPopK1 := by
  intro pins s σ H x xs v us Q I rx rxs h
  obtain ⟨a, kvs, k, v0, rfl, rfl, ha, hv, q⟩ := h
  cases rx
  obtain ⟨u1, rfl, r1⟩ := rxs.one
  exact d_pop I ha r1 hv (.inl rfl) fun w' s' I' r => ⟨v0, _, I', r, q⟩
theorem mt_dget (hu : X.A.units + 1 < cLine) : MtR X "dict.get" (fun x xs H Q => ∃ a y o, x = .ref a ∧ xs = [y] ∧ DGet H a y o ∧ Q (o.getD .non) H) := by
  intro pins s σ H x xs v us Q I rx rxs h
  obtain ⟨a, y, o, rfl, rfl, g, q⟩ := h
  cases rx
  obtain ⟨u1, rfl, r1⟩ := rxs.one
  exact d_get1 hu I g r1 fun w' s' I' r => ⟨_, H, I', r, q⟩
theorem mt_dget2 (hu : X.A.units + 1 < cLine) : MtR X "dict.get" (fun x xs H Q => ∃ a y z o, x = .ref a ∧ xs = [y, z] ∧ DGet H a y o ∧ Q (o.getD z) H) := by
  intro pins s σ H x xs v us Q I rx rxs h
  obtain ⟨a, y, z, o, rfl, rfl, g, q⟩ := h
  cases rx
  obtain ⟨u1, u2, rfl, r1, r2⟩ := vals2 rxs
  exact d_get2 hu I g r1 r2 fun w' s' I' r => ⟨_, H, I', r, q⟩
theorem MW.popT {kvs : List (List Key × D)} {k : List Key} {d : D} (hl : S[l]? = some (.dT kvs)) (hv : getT kvs k = some d) (hu : X.A.units + 64 < cLine) (h : Q d (S.set l (.dT (dropT kvs k)))) : MW X "dict.pop" (.loc l) [ktD k] S Q := MW.ofR (mt_popT1 (u1 hu)) fun F H vx vs Q' rs rx r kp => by
  obtain ⟨a, rfl, ha⟩ := rx
  obtain ⟨a', h', e1, e2, ws, e3, e4⟩ := rs.get hl
  rw [e1] at ha; cases ha
  subst e3
  obtain ⟨v, r', rfl, rk, h2⟩ := r
  cases (show r' = [] from h2)
  obtain ⟨b, rfl, hb⟩ := kt_rd rk
  obtain ⟨w, hw, rw'⟩ := e4.val.2 d hv
  refine ⟨a, ws, k, b, w, rfl, rfl, e2, hb, hw, ?_⟩
  have kk : Keep H (upd H a (.dT (dropK ws k))) := Keep.upd e2 trivial
  exact kp F d w _ _ (List.prefix_refl F) kk (rs.set (o := .dT (dropT kvs k)) e1 e2 trivial ⟨_, rfl, e4.dropT⟩) (rw'.mono (List.prefix_refl F) kk) h
theorem MW.popK {kvs : List (Key × D)} {k : Key} {d : D} (hl : S[l]? = some (.dK kvs)) (hv : getT kvs k = some d) (h : Q d (S.set l (.dK (dropT kvs k)))) : MW X "dict.pop" (.loc l) [kdD k] S Q := MW.ofR mt_popK1 fun F H vx vs Q' rs rx r kp => by
  obtain ⟨a, rfl, ha⟩ := rx
  obtain ⟨a', h', e1, e2, ws, e3, e4⟩ := rs.get hl
  rw [e1] at ha; cases ha
  subst e3
  obtain ⟨v, r', rfl, rk, h2⟩ := r
  cases (show r' = [] from h2)
  obtain ⟨w, hw, rw'⟩ := e4.val.2 d hv
  refine ⟨a, ws, k, w, rfl, by rw [kd_rd rk], e2, hw, ?_⟩
  have kk : Keep H (upd H a (.dK (dropK ws k))) := Keep.upd e2 trivial
  exact kp F d w _ _ (List.prefix_refl F) kk (rs.set (o := .dK (dropT kvs k)) e1 e2 trivial ⟨_, rfl, e4.dropT⟩) (rw'.mono (List.prefix_refl F) kk) h
/-- d.get(k), d.get(k, z) -/
theorem MW.get {x y : D} {o : Option D} (g : DG S x y o) (hu : X.A.units + 64 < cLine) (h : Q (o.getD .non) S) : MW X "dict.get" x [y] S Q := MW.ofR (mt_dget (u1 hu)) fun F H vx vs Q' rs rx r k => by
  obtain ⟨v, r', rfl, ry, h2⟩ := r
  cases (show r' = [] from h2)
  obtain ⟨a, o', e, g', e2, e3⟩ := g.rd rs rx ry
  refine ⟨a, v, o', e, rfl, g', ?_⟩
  cases o with
  | none =>
    have : o' = none := by cases o' with | none => rfl | some _ => simp at e2
    subst this
    exact k.now rs (d := .non) rfl h
  | some d =>
    obtain ⟨w, rfl, rw'⟩ := e3 d rfl
    exact k.now rs rw' h
theorem MW.get2 {x y z : D} {o : Option D} (g : DG S x y o) (hu : X.A.units + 64 < cLine) (h : Q (o.getD z) S) : MW X "dict.get" x [y, z] S Q := MW.ofR (mt_dget2 (u1 hu)) fun F H vx vs Q' rs rx r k => by
  obtain ⟨v, r', rfl, ry, v2, r2, rfl, rz, h2⟩ := r
  cases (show r2 = [] from h2)
  obtain ⟨a, o', e, g', e2, e3⟩ := g.rd rs rx ry
  refine ⟨a, v, v2, o', e, rfl, g', ?_⟩
  cases o with
  | none =>
    have : o' = none := by cases o' with | none => rfl | some _ => simp at e2
    subst this
    exact k.now rs rz h
  | some d =>
    obtain ⟨w, rfl, rw'⟩ := e3 d rfl
    exact k.now rs rw' h
theorem CW.lenD {kvs : List (Key × D)} (hl : S[l]? = some (.dK kvs)) (h : Q (.int kvs.length) S) : CW X (.builtin "len") [.loc l] S Q := CW.of call_lenD fun F H vs Q' rs r k => by
  obtain ⟨v, r', rfl, ⟨a, rfl, ha⟩, e⟩ := r
  cases (show r' = [] from e)
  obtain ⟨a', h', e1, e2, vs, e3, e4⟩ := rs.get hl
  rw [e1] at ha; cases ha
  subst e3
  exact ⟨a, vs, rfl, e2, by rw [e4.length]; exact k.nowI rs h⟩
/-- sorted numbers -/
def sortI (l : List Int) : List Int := l.mergeSort fun a b => decide (a ≤ b)
theorem sorted_one : ∀ {a b : List Int}, a.Perm b → a.Pairwise (· ≤ ·) → b.Pairwise (· ≤ ·) → a = b
  | [], b, p, _, _ => (List.nil_perm.mp p).symm ▸ rfl
  | x :: a, [], p, _, _ => by have := p.length_eq; simp at this
  | x :: a, y :: b, p, ha, hb => by
    rw [List.pairwise_cons] at ha hb
    have e : x = y := by
      have h1 : x ∈ y :: b := p.subset List.mem_cons_self
      have h2 : y ∈ x :: a := p.symm.subset List.mem_cons_self
      rcases List.mem_cons.mp h1 with h1 | h1
      · exact h1
      · rcases List.mem_cons.mp h2 with h2 | h2
        · exact h2.symm
        · exact Int.le_antisymm (ha.1 y h2) (hb.1 x h1)
    subst e
    rw [sorted_one (List.Perm.cons_inv p) ha.2 hb.2]
theorem sortI_perm (l : List Int) : (sortI l).Perm l := List.mergeSort_perm _ _
theorem sortI_sorted (l : List Int) : (sortI l).Pairwise (· ≤ ·) := by
  have := List.pairwise_mergeSort (le := fun a b : Int => decide (a ≤ b)) (fun a b c h1 h2 => by simp at *; omega) (fun a b => by simp; omega) l
  exact this.imp fun h => by simpa using h
theorem CW.sortDI {kvs : List (Int × D)} (hl : S[l]? = some (.dK (kvs.map fun p => (.inl p.1, p.2)))) (h64 : kvs.length < 64) (hc : X.calm = true) (h : Q (.loc S.length) (S ++ [.lst ((sortI (kvs.map (·.1))).map D.int)])) : CW X (.builtin "sorted") [.loc l] S Q := CW.of (call_sortedDI hc) fun F H vs Q' rs r k => by
  obtain ⟨v, r', rfl, ⟨a, rfl, ha⟩, e⟩ := r
  cases (show r' = [] from e)
  obtain ⟨a', h', e1, e2, vs, e3, e4⟩ := rs.get hl
  rw [e1] at ha; cases ha
  subst e3
  refine ⟨a, vs, kvs.map (·.1), rfl, .inl e2, by rw [e4.keys, List.map_map, List.map_map]; rfl, by rw [List.length_map]; exact h64, fun ys p hp hs hn => ?_⟩
  have : ys = sortI (kvs.map (·.1)) := sorted_one (hp.trans (sortI_perm _).symm) hs (sortI_sorted _)
  subst this
  exact k (F ++ [p]) (.loc S.length) (.ref p) _ _ ⟨[p], rfl⟩ (Keep.new hn) (rs.new (o := .lst ((sortI (kvs.map (·.1))).map D.int)) hn ⟨_, rfl, ints_of_rd _⟩) ⟨p, rfl, by rw [← rs.len]; simp⟩ h
end
end DM

namespace DM
open PySem PySem.Spec PyProof.Rows L2
/-! ### dict(pairs) with tuple keys; x in data -/
abbrev Pr4 := Addr × List Key × Addr × V
theorem tpairs_of {X : Cx} {pins : List (Addr × Obj)} {σ : L2.St} {H : Hp} {s : Shared} (I : Inv X pins σ H s) : ∀ (zs : List Pr4), (∀ z ∈ zs, H z.1 = some (.tup [.ref z.2.2.1, z.2.2.2]) ∧ H z.2.2.1 = some (.tup (z.2.1.map kV))) →
    ∃ ws : List (List Key × Addr × Value), KT H (zs.map fun z => (z.2.1, z.2.2.2)) ws ∧ ws.length = zs.length ∧ ∀ (j : Nat) (w : List Key × Addr × Value), ws[j]? = some w → ∃ z, zs[j]? = some z ∧ s.heap.IsTuple z.1 #[.ref w.2.1, w.2.2]
  | [], _ => ⟨[], .nil, rfl, fun j w h => by simp at h⟩
  | z :: zs, h => by
    obtain ⟨ws, r, hl, hp⟩ := tpairs_of I zs fun y hy => h y (List.mem_cons_of_mem _ hy)
    obtain ⟨h1, h2⟩ := h z List.mem_cons_self
    obtain ⟨its, rv, ht, _⟩ := I.tuple (SqT.of h1)
    obtain ⟨u, y, ei, ru, ry⟩ := vals2 rv
    subst ei
    obtain rfl : u = Value.ref z.2.2.1 := ru
    refine ⟨(z.2.1, z.2.2.1, y) :: ws, .cons ⟨rfl, h2, ry⟩ r, by rw [List.length_cons, List.length_cons, hl], fun j w e => ?_⟩
    cases j with
    | zero =>
      have e' : (z.2.1, z.2.2.1, y) = w := Option.some.inj e
      subst e'
      obtain ⟨o, q1, q2, n, q3⟩ := ht
      exact ⟨z, rfl, o, q1, q2, n, q3⟩
    | succ j =>
      obtain ⟨z', q1, q2⟩ := hp j w (by simpa using e)
      exact ⟨z', by simpa using q1, q2⟩
theorem call_dictPT {X : Cx} (hcalm : X.calm = true) (hu : X.A.units + 64 < cLine) : CallR X (.type "dict") (fun xs H Q => ∃ (a : Addr) (zs : List Pr4), xs = [.ref a] ∧ SqL X.K H a (zs.map fun z => V.ref z.1) ∧ (∀ z ∈ zs, H z.1 = some (.tup [.ref z.2.2.1, z.2.2.2]) ∧ H z.2.2.1 = some (.tup (z.2.1.map kV))) ∧
    ∀ p, H p = none → Q (.ref p) (upd H p (.dT (putAllK [] (zs.map fun z => (z.2.1, z.2.2.2)))))) := by
  intro pins s σ H xs us Q I r q
  obtain ⟨a, zs, rfl, hq, hz, q⟩ := q
  obtain ⟨u, rfl, rx⟩ := vals1 r
  obtain rfl : u = Value.ref a := rx
  obtain ⟨its, rv, pl, hsz⟩ := I.list hq
  obtain ⟨ws, kt, wl, wt⟩ := tpairs_of I zs hz
  have ei : its = zs.map fun z => Value.ref z.1 := by
    have : ∀ (l : List Pr4) (m : List Value), Vals (l.map fun z => V.ref z.1) m → m = l.map fun z => Value.ref z.1 := by
      intro l
      induction l with
      | nil => intro m h; cases h; rfl
      | cons z l ih =>
        intro m h
        rw [List.map_cons] at h
        cases h with
        | cons h t => cases h; rw [List.map_cons, ← ih _ t]
    exact this zs its rv
  subst ei
  rw [List.length_map] at hsz
  have hkey : ∀ w ∈ ws, H w.2.1 = some (.tup (w.1.map kV)) := (kt_all kt).2
  obtain ⟨o, n, ho, hc, hd, hdat⟩ := pl
  have ok : PlainSeq "list" s.heap a (zs.map fun z => Value.ref z.1).toArray ∧ PairItems s.heap (zs.map fun z => Value.ref z.1).toArray (fun j => (zs.getD j (0, [], 0, .non)).1) (ws.map fun w => (Value.ref w.2.1, w.2.2)) := by
    refine ⟨⟨o, n, ho, hc, hd, hdat⟩, by simp [wl], fun j k v e => ?_⟩
    rw [List.getElem?_map] at e
    cases ew : ws[j]? with
    | none => rw [ew] at e; cases e
    | some w =>
      rw [ew] at e
      cases e
      obtain ⟨z, e1, e2⟩ := wt j w ew
      refine ⟨by simp [e1, List.getD], .inl ?_⟩
      have : (zs.getD j (0, [], 0, .non)).1 = z.1 := by simp [List.getD, e1]
      show s.heap.IsTuple (zs.getD j (0, [], 0, .non)).1 _
      rw [this]; exact e2
  refine call_dict_pairsH (knd := tupleKind (mixKind X.prog X.w)) (ps := ws) (PairArg.list a _ (fun j => (zs.getD j (0, [], 0, .non)).1) (ws.map fun w => (Value.ref w.2.1, w.2.2))) (I.ok.hd hcalm) (show X.A.in1.in1.units < cLine by show X.A.units + 1 + 1 < cLine; omega) ok ⟨by simp, fun i key v e => ?_⟩ (fun h' k w hw => ?_) (by rw [List.length_map, wl]; exact hsz) fun h' tk dd k => ?_
  · have e : (ws.map fun w => (Value.ref w.2.1, w.2.2))[i]? = some (key, v) := e
    rw [List.getElem?_map] at e
    cases ew : ws[i]? with
    | none => rw [ew] at e; cases e
    | some w =>
      rw [ew] at e
      cases e
      exact ⟨w.1, w.2.1, rfl, rfl⟩
  · obtain ⟨o, its, n, q1, q2, q3, q4⟩ := key_of I.hok (hkey w hw)
    exact ⟨o, its, n, k _ _ (Nat.ne_of_lt (Heap.lt_size q1)) (by simp) q1, q2, q3, q4⟩
  · have hl : (putAllK [] (zs.map fun z => (z.2.1, z.2.2.2))).length ≤ sizeLine := by
      refine Nat.le_trans (putAllK_len _ _) ?_
      rw [List.length_map]; simpa using hsz
    have hm : (s.heap.objs.size == sysModules) = false := beq_eq_false_iff_ne.mpr (Nat.ne_of_gt I.big)
    have hn : H s.heap.objs.size = none := I.hok.fresh (Nat.le_refl _)
    obtain ⟨q0, es, ep, hq, h2, h3, h4, _, h5⟩ := id dd
    refine ⟨.ref s.heap.objs.size, upd H s.heap.objs.size (.dT (putAllK [] (zs.map fun z => (z.2.1, z.2.2.2)))), I.laid (t' := tk) (fun b o e => k b o (by simp) e) (Nat.le_refl _) ⟨hl, hm, _, (KT.putAll kt .nil).keeps fun c vs ec => ?_, q0, es, ep, hq, h2, h3, h4, h5⟩, rfl, q _ hn⟩
    rw [upd_ne (ne_of_none ec hn)]; exact ec
section
variable {X : Cx} {S : Store} {Q : D → Store → Prop} {l : Nat}
theorem CW.dctLT {kvs : List (List Key × D)} (hl : S[l]? = some (.lst (kvs.map fun kv => .tup [ktD kv.1, kv.2]))) (hc : X.calm = true) (hu : X.A.units + 64 < cLine) (h : Q (.loc S.length) (S ++ [.dT (putAllT [] kvs)])) : CW X (.type "dict") [.loc l] S Q := CW.of (call_dictPT hc hu) fun F H vs Q' rs r k => by
  obtain ⟨v, r', rfl, ⟨a, rfl, ha⟩, e⟩ := r
  cases (show r' = [] from e)
  obtain ⟨a', h', e1, e2, vs, e3, e4⟩ := rs.get hl
  rw [e1] at ha; cases ha
  subst e3
  have go : ∀ (kvs : List (List Key × D)) (vs : List V), RDs F H (kvs.map fun kv => D.tup [ktD kv.1, kv.2]) vs → ∃ (zs : List Pr4), vs = (zs.map fun z => V.ref z.1) ∧ (∀ z ∈ zs, H z.1 = some (.tup [.ref z.2.2.1, z.2.2.2]) ∧ H z.2.2.1 = some (.tup (z.2.1.map kV))) ∧ RKs F H kvs (zs.map fun z => (z.2.1, z.2.2.2)) := by
    intro kvs
    induction kvs with
    | nil => intro vs r; cases (show vs = [] from r); exact ⟨[], rfl, fun z h => by (cases h), rfl⟩
    | cons kv kvs ih =>
      intro vs r
      obtain ⟨v, r', rfl, ⟨p, us, rfl, hp, hus⟩, h2⟩ := r
      obtain ⟨zs, rfl, i1, i2⟩ := ih r' h2
      obtain ⟨x, us', rfl, hx, hy⟩ := hus
      obtain ⟨y, us2, rfl, hy1, hy2⟩ := hy
      cases (show us2 = [] from hy2)
      obtain ⟨b, rfl, hb⟩ := kt_rd hx
      refine ⟨(p, kv.1, b, y) :: zs, rfl, fun z hz => ?_, y, _, rfl, hy1, i2⟩
      rcases List.mem_cons.mp hz with rfl | hz
      · exact ⟨hp, hb⟩
      · exact i1 z hz
  obtain ⟨zs, rfl, i1, i2⟩ := go kvs vs e4
  refine ⟨a, zs, rfl, SqL.of e2, i1, fun p hp => ?_⟩
  have rk : RKs F H (putAllT [] kvs) (putAllK [] (zs.map fun z => (z.2.1, z.2.2.2))) := RKs.putAll (kvs := []) (vs := []) i2 rfl
  exact k (F ++ [p]) (.loc S.length) (.ref p) _ _ ⟨[p], rfl⟩ (Keep.new hp) (rs.new (o := .dT (putAllT [] kvs)) hp ⟨_, rfl, rk⟩) ⟨p, rfl, by rw [← rs.len]; simp⟩ h
/-- x in a tuple of data -/
theorem op_inTD (hu : X.A.units + 65 < cLine) : OpR X (compareOp .In) (fun x y H Q => ∃ d ds, Dp X.K H x d ∧ Dp X.K H y (.tuple ds) ∧ SeqAt.shaped d = true ∧ SeqAt.shaped (.tuple ds) = true ∧ Q (.bl (ds.any fun z => PyData.eqv z d)) H) := by
  intro pins s σ H x y v u Q I rx ry h
  obtain ⟨d, ds, hd, he, sd, se, q⟩ := h
  obtain ⟨as, r1⟩ := Dp.reads I d x v hd rx
  obtain ⟨bs, r2⟩ := Dp.reads I (.tuple ds) y u he ry
  exact SeqAt.in_tuple_reads r2 r1 (SeqAt.canLay_of_shaped se) (SeqAt.canLay_of_shaped sd) (room_in_shaped sd hu) ⟨.bl _, H, I, rfl, q⟩
theorem BW.inTD {x y : D} {d : PyData} {ds : List PyData} (hx : PD S x d) (hy : PD S y (.tuple ds)) (sx : SeqAt.shaped d = true) (sy : SeqAt.shaped (.tuple ds) = true) (hu : X.A.units + 65 < cLine) (h : Q (.bl (ds.any fun z => PyData.eqv z d)) S) : BW X (compareOp .In) x y S Q := BW.of (op_inTD hu) fun F H vx vy Q' rs rx ry k =>
  ⟨d, ds, hx.dp rs _ _ _ rx, hy.dp rs _ _ _ ry, sx, sy, k.nowB rs h⟩
end
end DM

namespace DM
open PySem PySem.Spec PyProof.Rows L2
theorem kI_toP (nm : List Int) : toP (ktD (kN nm)) = .tuple (nm.map PyData.int) := by
  show PyData.tuple (toPs ((kN nm).map kdD)) = _
  have : ∀ l : List Int, toPs ((kN l).map kdD) = l.map PyData.int := by
    intro l
    induction l with
    | nil => rfl
    | cons i l ih => show PyData.int i :: toPs ((kN l).map kdD) = _; rw [ih]; rfl
  rw [this]
theorem ints_alike : ∀ x y : List Int, PySem.W.alikeAll (x.map PyData.int) (y.map PyData.int) = true
  | [], y => by cases y <;> simp [PySem.W.alikeAll]
  | i :: x, [] => by simp [PySem.W.alikeAll]
  | i :: x, j :: y => by have := ints_alike x y; simp [PySem.W.alikeAll, PySem.W.alike, this]
theorem keys_alike (l : List (List Int)) : PySem.W.AllAlike ((l.map kN).map fun k => toP (ktD k)) := by
  rw [List.map_map]
  refine PySem.W.AllAlike.of (enc := (fun k => toP (ktD k)) ∘ kN) fun a b => ?_
  show PySem.W.alike (toP (ktD (kN a))) (toP (ktD (kN b))) = true
  rw [kI_toP, kI_toP]
  have := ints_alike a b
  simp [PySem.W.alike, this]
theorem keys_sortable {l : List (List Int)} (h : ∀ nm ∈ l, 1 ≤ nm.length) : PySem.W.Sortable ((l.map kN).map fun k => toP (ktD k)) := .inl fun d hd => by
  rw [List.map_map] at hd
  obtain ⟨nm, hnm, rfl⟩ := List.mem_map.mp hd
  have := h nm hnm
  cases nm with
  | nil => exact absurd this (by decide)
  | cons i nm => exact ⟨_, _, kI_toP (i :: nm)⟩
/-- names in order -/
def leN (a b : List Int) : Bool := leK (kN a) (kN b)
def sortN (l : List (List Int)) : List (List Int) := l.mergeSort leN
theorem sortN_map (l : List (List Int)) : (l.map kN).mergeSort leK = (sortN l).map kN := (List.map_mergeSort (f := kN) (r := leN) (s := leK) (l := l) fun _ _ _ _ => rfl).symm
theorem keys_mapT {β : Type} {e : β → D} (kvs : List (List Int × β)) : (mapT kN e kvs).map (·.1) = (kvs.map (·.1)).map kN := by
  unfold mapT; rw [List.map_map, List.map_map]; rfl
theorem pu_kN {nm : List Int} (h : nm.length ≤ 100000) : pu 60 (ktD (kN nm)) = true := by
  rw [← eM_key]; exact pu_eM (n := 59) h
def pairD (p : List Int × Int) : D := .tup [eM p.1, .int p.2]
theorem bel_pair (n : Nat) (p : List Int × Int) : bel n (pairD p) = true := by show (bel _ (eM p.1) && (true && true)) = true; rw [bel_eM]; rfl
/-- what is told of what is had -/
def toldOf (fd : List (List Int × Int)) : List (List Int × Int) := (sortN (fd.map (·.1))).map fun nm => (nm, (getT fd nm).getD 0)
theorem had_names {ps : List (List Int × List Int)} {hs : List He} (op : OkW ps) : ∀ p ∈ hadOf ps hs, 1 ≤ p.1.length ∧ p.1.length ≤ 3 := by
  have gen : ∀ (rows : List Row) (s : Had), (∀ r ∈ rows, 1 ≤ r.2.2.2.length ∧ r.2.2.2.length ≤ 3) → (∀ p ∈ s.2, 1 ≤ p.1.length ∧ p.1.length ≤ 3) → ∀ p ∈ (rows.foldl hadStep s).2, 1 ≤ p.1.length ∧ p.1.length ≤ 3 := by
    intro rows
    induction rows with
    | nil => intro s _ h; exact h
    | cons r rows ih =>
      intro s hr h
      refine ih _ (fun x hx => hr x (List.mem_cons_of_mem _ hx)) fun p hp => ?_
      unfold hadStep at hp
      split at hp
      · rename_i c
        have hp : p ∈ putT s.2 r.2.2.2 r.2.2.1 := hp
        rw [putT_new _ c.1] at hp
        rcases List.mem_append.mp hp with hp | hp
        · exact h p hp
        · rw [List.mem_singleton.mp hp]; exact hr r List.mem_cons_self
      · exact h p hp
  exact gen _ _ (fun r hr => by obtain ⟨p, hp, _, _, _, _, rfl⟩ := rows_of (List.mem_mergeSort.mp hr); exact ⟨(op.2 p hp).1, (op.2 p hp).2.1⟩) fun p hp => by cases hp
theorem belK_eM {n : Nat} : ∀ (kvs : List (List Int × List Int)), belK n (mapT kN eM kvs) = true
  | [] => rfl
  | p :: kvs => by show (bel n (eM p.2) && belK n (mapT kN eM kvs)) = true; rw [bel_eM, belK_eM kvs]; rfl
def dMk (ps : List (List Int × List Int)) : Ob := .dT (mapT kN eM ps)
theorem bel_dMk (n : Nat) (ps : List (List Int × List Int)) : belO n (dMk ps) = true := belK_eM ps
theorem put_marks {a b : List (List Int × List Int)} (h : ((a ++ b).map (·.1)).Nodup) : putAllT (mapT kN eM a) (mapT kN eM b) = mapT kN eM (a ++ b) := by
  rw [putAllT_mapT kN_inj, putAll_new b a]
  · intro k hk hm
    rw [List.map_append, List.nodup_append] at h
    exact h.2.2 k hm k hk rfl
  · rw [List.map_append, List.nodup_append] at h
    exact h.2.1
theorem eqv_pus {n : Nat} {xs : List D} (h : ∀ x ∈ xs, pu n x = true) : PyData.eqvAll (toPs xs) (toPs xs) = true := by
  rw [pus_eqv xs xs h h]; simp
theorem shp2 {a b : List PyData} (h1 : PyData.canLayAll0 a = true ∧ PyData.depthAll a ≤ 60) (h2 : PyData.canLayAll0 b = true ∧ PyData.depthAll b ≤ 60) : SeqAt.shaped (.list [.list a, .list b]) = true := by
  refine shaped_of ?_ ?_
  · show (PyData.canLayAll0 a && (PyData.canLayAll0 b && true)) = true
    rw [h1.1, h2.1]; rfl
  · show max (PyData.depthAll a + 1) (max (PyData.depthAll b + 1) 0) + 1 ≤ 64
    omega
theorem keys_sorted (fd : List (List Int × Int)) : (((mapT kN D.int fd).map (·.1)).mergeSort leK).map ktD = (sortN (fd.map (·.1))).map eM := by
  rw [keys_mapT, sortN_map, List.map_map]; exact List.map_congr_left fun nm _ => (eM_key nm).symm
theorem told_fm (fd : List (List Int × Int)) : (sortN (fd.map (·.1))).filterMap (fun nm => some (pairD (nm, (getT fd nm).getD 0))) = (toldOf fd).map pairD := by
  unfold toldOf
  rw [List.map_map]
  generalize sortN (fd.map (·.1)) = l
  induction l with
  | nil => rfl
  | cons a l ih => rw [List.filterMap_cons, List.map_cons, ih]; rfl
theorem had_len {ps : List (List Int × List Int)} {hs : List He} (ow : OkW ps) (oh : OkHs hs) : (hadOf ps hs).length ≤ 90000 := by
  have h1 := fold_len (sortR ps hs) (roomsOf hs, [])
  have h2 : (sortR ps hs).length ≤ 90000 := by
    unfold sortR
    rw [List.length_mergeSort]
    exact Nat.le_trans (rows_len _ _) (Nat.le_trans (Nat.mul_le_mul ow.1 oh.1) (by decide))
  have e : (roomsOf hs, ([] : List (List Int × Int))).2.length = 0 := rfl
  show ((sortR ps hs).foldl hadStep (roomsOf hs, [])).2.length ≤ 90000
  omega
theorem pu_thD {p : Int × Th} (h : OkT 2 p.2) : pu 60 (thD p) = true := by
  have h1 : pu 59 (eT p.2) = true := pu_eT h (by omega)
  show (decide (2 ≤ 100000) && (pu 59 (.int _) && (pu 59 (eT p.2) && true))) = true
  rw [h1, pu_int]; rfl
theorem pu_heD {h : He} (hc : OkCs h.2.1) : pu 60 (heD h) = true := by
  have h1 : pu 59 (eCs h.2.1) = true := pu_eCs (n := 56) hc
  show (decide (3 ≤ 100000) && (pu 59 (.int _) && (pu 59 (eCs h.2.1) && (pu 59 (.int _) && true)))) = true
  rw [h1, pu_int, pu_int]; rfl
end DM

namespace DM
open PySem PySem.Spec PyProof.Rows L2
/-! ### a desk, as plain data -/
inductive Sta where
  | free | taking | held | leaving
  deriving DecidableEq
def Sta.s : Sta → Str
  | .free => "free" | .taking => "taking" | .held => "held" | .leaving => "leaving"
abbrev Nm := List Int
abbrev Lt := Bool × Nm
structure HpS where
  claims : List (List Int × Int)
  room : Int
  left : List Lt
inductive En where
  | plug (n : Int) (t : Th) | unplug (n : Int) | come (n : Int) (cs : List (List Int × Int)) (r : Int) | fall (n : Int) | letter (h : Int) (l : Lt) | done (h : Int) (l : Lt)
abbrev Sts := List (Nm × Sta × Option Int)
structure Dk where
  plugged : List (Int × Th)
  marks : List (Nm × List Int)
  who : List (Int × HpS)
  states : Sts
  fresh : Int × Int
  log : List En
def saD (s : Sta × Option Int) : D := .tup [.str s.1.s, D.ofO s.2]
def ltS (b : Bool) : Str := if b then "take" else "leave"
def ltD (l : Lt) : D := .tup [.str (ltS l.1), eM l.2]
def enD : En → D
  | .plug n t => .tup [.str "plug", .int n, eT t]
  | .unplug n => .tup [.str "unplug", .int n]
  | .come n cs r => .tup [.str "come", .int n, eCs cs, .int r]
  | .fall n => .tup [.str "fall", .int n]
  | .letter h l => .tup [.str "letter", .int h, ltD l]
  | .done h l => .tup [.str "done", .int h, ltD l]
theorem bel_saD (n : Nat) (s : Sta × Option Int) : bel n (saD s) = true := by
  obtain ⟨a, b⟩ := s; cases b <;> rfl
theorem bel_ltD (n : Nat) (l : Lt) : bel n (ltD l) = true := by show (true && (bel n (eM l.2) && true)) = true; rw [bel_eM]; rfl
theorem bel_enD (n : Nat) (e : En) : bel n (enD e) = true := by
  cases e with
  | plug a t => show (true && (true && (bel n (eT t) && true))) = true; rw [bel_eT]; rfl
  | unplug a => rfl
  | come a cs r => show (true && (true && (bel n (eCs cs) && (true && true)))) = true; rw [bel_eCs]; rfl
  | fall a => rfl
  | letter h l => show (true && (true && (bel n (ltD l) && true))) = true; rw [bel_ltD]; rfl
  | done h l => show (true && (true && (bel n (ltD l) && true))) = true; rw [bel_ltD]; rfl
namespace Dk
def keys (dk : Dk) : List Nm := dk.states.map (·.1)
def stOf (dk : Dk) (nm : Nm) : Sta × Option Int := (getT dk.states nm).getD (.free, none)
def mkOf (dk : Dk) (nm : Nm) : List Int := (getT dk.marks nm).getD []
def whoD (dk : Dk) (h : Int) : HpS := (getT dk.who h).getD ⟨[], 0, []⟩
def inner (dk : Dk) (nm : Nm) : List Nm := (sortN dk.keys).filter fun one => decide (one.dropLast = nm)
def popS (dk : Dk) (nm : Nm) : Dk := { dk with states := dropT dk.states nm, who := dk.who.map fun h => (h.1, { h.2 with left := h.2.left.filter fun lt => decide (lt.2 ≠ nm) }) }
def gone : Nat → Dk → Nm → Dk
  | 0, dk, _ => dk
  | n + 1, dk, nm => ((dk.inner nm).foldl (fun d one => gone n d one) dk).popS nm
def innerGone (n : Nat) (dk : Dk) (nm : Nm) : Dk := (dk.inner nm).foldl (fun d one => gone n d one) dk
theorem gone_succ (n : Nat) (dk : Dk) (nm : Nm) : gone (n + 1) dk nm = (innerGone n dk nm).popS nm := rfl
def rows (dk : Dk) : List He := (sortI (dk.who.map (·.1))).map fun n => (n, (dk.whoD n).claims, (dk.whoD n).room)
def settled (dk : Dk) (nm : Nm) (goals : List (Nm × Int)) : Bool := decide ((dk.stOf nm).1 = .held) && decide ((dk.stOf nm).2 = getT goals nm)
def there (dk : Dk) (found : List (Nm × Int)) (len : Int) : List Nm := ((sortN dk.keys).filter fun nm => decide ((nm.length : Int) ≤ len)).filter fun nm => decide (nm.length = 1) || dk.settled nm.dropLast found
def goalsStep (dk : Dk) (found : List (Nm × Int)) (len : Int) : List (Nm × Int) := hadOf ((dk.there found len).map fun nm => (nm, dk.mkOf nm)) dk.rows
def goals (dk : Dk) : List (Nm × Int) := dk.goalsStep (dk.goalsStep (dk.goalsStep [] 1) 2) 3
def used (dk : Dk) (h : Int) : Nat := (dk.states.filter fun p => decide (p.2.2 = some h)).length
def whoMod (dk : Dk) (h : Int) (f : HpS → HpS) : Dk := { dk with who := dk.who.map fun p => if p.1 = h then (p.1, f p.2) else p }
def putS (dk : Dk) (nm : Nm) (s : Sta × Option Int) : Dk := { dk with states := putT dk.states nm s }
def addL (dk : Dk) (e : En) : Dk := { dk with log := dk.log ++ [e] }
def letter (dk : Dk) (h : Int) (lt : Lt) (s : Sta) : Dk := ((dk.whoMod h fun p => { p with left := p.left ++ [lt] }).putS lt.2 (s, some h)).addL (.letter h lt)
def thinkStep (goals : List (Nm × Int)) (dk : Dk) (nm : Nm) : Dk :=
  if (dk.stOf nm).1 = .held ∧ (dk.stOf nm).2 ≠ getT goals nm then
    if ((dk.inner nm).filter fun one => decide ((dk.stOf one).1 ≠ .free)) = [] then dk.letter ((dk.stOf nm).2.getD 0) (false, nm) .leaving else dk
  else match getT goals nm with
    | none => dk
    | some g => if (dk.stOf nm).1 = .free ∧ (dk.used g : Int) < (dk.whoD g).room then dk.letter g (true, nm) .taking else dk
def think (dk : Dk) : Dk := (sortN dk.keys).foldl (thinkStep dk.goals) dk
def plugPre (dk : Dk) (t : Th) : Dk :=
  { dk with plugged := putT dk.plugged dk.fresh.1 t, marks := putAllT dk.marks (within [dk.fresh.1] t), states := putT dk.states [dk.fresh.1] (.free, none), fresh := (dk.fresh.1 + 1, dk.fresh.2), log := dk.log ++ [.plug dk.fresh.1 t] }
def plug (dk : Dk) (t : Th) : Dk := (dk.plugPre t).think
def unmark (dk : Dk) (ns : List Nm) : Dk := { dk with marks := ns.foldl (fun m n => dropT m n) dk.marks }
def thingOf (dk : Dk) (n : Int) : Th := (getT dk.plugged n).getD (.mk [] [])
def unplugPre (dk : Dk) (n : Int) : Dk :=
  let d1 := (dk.addL (.unplug n)).gone 3 [n]
  ({ d1 with plugged := dropT d1.plugged n } : Dk).unmark ((within [n] (dk.thingOf n)).map (·.1))
def unplug (dk : Dk) (n : Int) : Dk := (dk.unplugPre n).think
def comePre (dk : Dk) (cs : List (List Int × Int)) (r : Int) : Dk :=
  { dk with who := putT dk.who dk.fresh.2 ⟨cs, r, []⟩, fresh := (dk.fresh.1, dk.fresh.2 + 1), log := dk.log ++ [.come dk.fresh.2 cs r] }
def come (dk : Dk) (cs : List (List Int × Int)) (r : Int) : Dk := (dk.comePre cs r).think
def fallStep (h : Int) (dk : Dk) (nm : Nm) : Dk := if nm ∈ dk.keys ∧ (dk.stOf nm).2 = some h then (dk.putS nm (.free, none)).innerGone 2 nm else dk
def fallPre (dk : Dk) (h : Int) : Dk :=
  let d1 : Dk := { dk.addL (.fall h) with who := dropT dk.who h }
  (sortN d1.keys).foldl (fallStep h) d1
def fall (dk : Dk) (h : Int) : Dk := (dk.fallPre h).think
def freeIn (nm : Nm) (dk : Dk) (one : Nm) : Dk := if one.dropLast = nm then dk.putS one (.free, none) else dk
def did (dk : Dk) (h : Int) (lt : Lt) : Dk :=
  let d1 := (dk.whoMod h fun p => { p with left := p.left.drop 1 }).addL (.done h lt)
  if lt.1 then (d1.marks.map (·.1)).foldl (freeIn lt.2) (d1.putS lt.2 (.held, some h)) else (d1.innerGone 2 lt.2).putS lt.2 (.free, none)
def answer (dk : Dk) (h : Int) : Option Lt × Dk := match (dk.whoD h).left with
  | [] => (none, dk)
  | lt :: _ => (some lt, (dk.did h lt).think)
def holds (dk : Dk) (h : Int) : List Nm := (sortN dk.keys).filter fun nm => decide (dk.stOf nm = (.held, some h)) || decide (dk.stOf nm = (.leaving, some h))
def standing (dk : Dk) : List (Nm × Sta × Option Int) := (sortN dk.keys).map fun nm => (nm, dk.stOf nm)
/-- one round of settle: how many letters were done -/
def roundI (dk : Dk) : List Int → Int → Int × Dk
  | [], c => (c, dk)
  | h :: hs, c => roundI (dk.answer h).2 hs (c + if (dk.answer h).1.isSome then 1 else 0)
end Dk
/-! ### where a desk stands in the store -/
structure At where
  l : Nat
  lp : Nat
  lm : Nat
  lw : Nat
  ls : Nat
  lf : Nat
  lg : Nat
  hp : List (Nat × Nat)
def At.fix (a : At) : List Nat := [a.l, a.lp, a.lm, a.lw, a.ls, a.lf, a.lg]
def At.hps (a : At) : List Nat := a.hp.flatMap fun p => [p.1, p.2]
def At.all (a : At) : List Nat := a.fix ++ a.hps
def deskFs (a : At) : List (Str × D) := [("plugged", .loc a.lp), ("marks", .loc a.lm), ("who", .loc a.lw), ("states", .loc a.ls), ("fresh", .loc a.lf), ("log", .loc a.lg)]
def helpFs (h : HpS) (p : Nat × Nat) : List (Str × D) := [("claims", eCs h.claims), ("room", .int h.room), ("left", .loc p.2)]
def whoOb (dk : Dk) (a : At) : Ob := .dK ((dk.who.zip a.hp).map fun x => (kI x.1.1, .loc x.2.1))
structure DeskAt (CD CH : Addr) (S : Store) (a : At) (dk : Dk) : Prop where
  self : S[a.l]? = some (.ins CD (deskFs a))
  plugged : S[a.lp]? = some (.dK (mapT kI eT dk.plugged))
  marks : S[a.lm]? = some (dMk dk.marks)
  who : S[a.lw]? = some (whoOb dk a)
  states : S[a.ls]? = some (.dT (mapT kN saD dk.states))
  fresh : S[a.lf]? = some (.lst [.int dk.fresh.1, .int dk.fresh.2])
  log : S[a.lg]? = some (.lst (dk.log.map enD))
  hlen : a.hp.length = dk.who.length
  help : ∀ (i : Nat) (h : Int × HpS) (p : Nat × Nat), dk.who[i]? = some h → a.hp[i]? = some p → S[p.1]? = some (.ins CH (helpFs h.2 p)) ∧ S[p.2]? = some (.lst (h.2.left.map ltD))
  nd : a.all.Nodup
theorem DeskAt.lt {CD CH : Addr} {S : Store} {a : At} {dk : Dk} (h : DeskAt CD CH S a dk) : ∀ j ∈ a.all, j < S.length := by
  intro j hj
  rcases List.mem_append.mp hj with hj | hj
  · simp only [At.fix, List.mem_cons, List.not_mem_nil, or_false] at hj
    rcases hj with rfl | rfl | rfl | rfl | rfl | rfl | rfl
    · exact (List.getElem?_eq_some_iff.mp h.self).1
    · exact (List.getElem?_eq_some_iff.mp h.plugged).1
    · exact (List.getElem?_eq_some_iff.mp h.marks).1
    · exact (List.getElem?_eq_some_iff.mp h.who).1
    · exact (List.getElem?_eq_some_iff.mp h.states).1
    · exact (List.getElem?_eq_some_iff.mp h.fresh).1
    · exact (List.getElem?_eq_some_iff.mp h.log).1
  · obtain ⟨p, hp, hj⟩ := List.mem_flatMap.mp hj
    obtain ⟨i, hi, e⟩ := List.mem_iff_getElem.mp hp
    have hi' : i < dk.who.length := by rw [← h.hlen]; exact hi
    obtain ⟨q1, q2⟩ := h.help i dk.who[i] p (List.getElem?_eq_getElem hi') (by rw [List.getElem?_eq_getElem hi, e])
    simp only [List.mem_cons, List.not_mem_nil, or_false] at hj
    rcases hj with rfl | rfl
    · exact (List.getElem?_eq_some_iff.mp q1).1
    · exact (List.getElem?_eq_some_iff.mp q2).1
/-- all of the desk's own stands as it stood -/
theorem DeskAt.same {CD CH : Addr} {S S' : Store} {a : At} {dk : Dk} (h : DeskAt CD CH S a dk) (k : ∀ j ∈ a.all, S'[j]? = S[j]?) : DeskAt CD CH S' a dk := by
  have f : ∀ j ∈ a.fix, S'[j]? = S[j]? := fun j hj => k j (List.mem_append_left _ hj)
  refine ⟨?_, ?_, ?_, ?_, ?_, ?_, ?_, h.hlen, fun i x p e1 e2 => ?_, h.nd⟩
  · rw [f _ (by simp [At.fix])]; exact h.self
  · rw [f _ (by simp [At.fix])]; exact h.plugged
  · rw [f _ (by simp [At.fix])]; exact h.marks
  · rw [f _ (by simp [At.fix])]; exact h.who
  · rw [f _ (by simp [At.fix])]; exact h.states
  · rw [f _ (by simp [At.fix])]; exact h.fresh
  · rw [f _ (by simp [At.fix])]; exact h.log
  · have hm := List.mem_of_getElem? e2
    obtain ⟨q1, q2⟩ := h.help i x p e1 e2
    rw [k p.1 (List.mem_append_right _ (List.mem_flatMap.mpr ⟨p, hm, by simp⟩)), k p.2 (List.mem_append_right _ (List.mem_flatMap.mpr ⟨p, hm, by simp⟩))]
    exact ⟨q1, q2⟩
theorem DeskAt.app {CD CH : Addr} {S G : Store} {a : At} {dk : Dk} (h : DeskAt CD CH S a dk) : DeskAt CD CH (S ++ G) a dk :=
  h.same fun j hj => List.getElem?_append_left (h.lt j hj)
/-- what isn't the desk's own stands -/
structure Fra (S S' : Store) (a a' : At) : Prop where
  len : S.length ≤ S'.length
  keep : ∀ (j : Nat) (o : Ob), j ∉ a.all → S[j]? = some o → S'[j]? = some o
  sub : ∀ j ∈ a'.all, j ∈ a.all ∨ S.length ≤ j
  fix : a'.fix = a.fix
theorem Fra.refl (S : Store) (a : At) : Fra S S a a := ⟨Nat.le_refl _, fun _ _ _ h => h, fun _ h => .inl h, rfl⟩
theorem Fra.trans {S S1 S2 : Store} {a a1 a2 : At} (h : Fra S S1 a a1) (g : Fra S1 S2 a1 a2) : Fra S S2 a a2 :=
  ⟨Nat.le_trans h.len g.len, fun j o hj e => g.keep j o (fun z => by
    rcases h.sub j z with q | q
    · exact hj q
    · have := (List.getElem?_eq_some_iff.mp e).1; omega) (h.keep j o hj e), fun j hj => by
    rcases g.sub j hj with q | q
    · exact h.sub j q
    · exact .inr (Nat.le_trans h.len q), g.fix.trans h.fix⟩
theorem Fra.app {S G : Store} {a : At} : Fra S (S ++ G) a a := ⟨by simp, fun j o _ e => get_app e, fun _ h => .inl h, rfl⟩
theorem Fra.set {S : Store} {a : At} {l : Nat} {o : Ob} (h : l ∈ a.all) : Fra S (S.set l o) a a := ⟨by simp, fun j u hj e => by
  rw [List.getElem?_set_ne (fun z => hj (by rw [← z]; exact h))]; exact e, fun _ h => .inl h, rfl⟩
end DM

namespace DM
open PySem PySem.Spec PyProof.Rows L2
/-! ### what goes -/
structure KN (dk : Dk) : Prop where
  ks : ∀ nm ∈ dk.keys, 1 ≤ nm.length ∧ nm.length ≤ 3
  kn : dk.keys.Nodup
  kc : dk.keys.length ≤ 100
structure KG (dk : Dk) : Prop extends KN dk where
  wc : dk.who.length ≤ 60
  wl : ∀ h ∈ dk.who, h.2.left.length ≤ 10000
  wn : (dk.who.map (·.1)).Nodup
  wt : ∀ h ∈ dk.who, ∀ lt ∈ h.2.left, lt.2.length ≤ 3
/-- less is there, all else as it was; what isn't under nm stays -/
structure Goes (nm : Nm) (dk dk' : Dk) : Prop where
  plugged : dk'.plugged = dk.plugged
  marks : dk'.marks = dk.marks
  fresh : dk'.fresh = dk.fresh
  log : dk'.log = dk.log
  who : ∃ f : Int × HpS → Int × HpS, dk'.who = dk.who.map f ∧ ∀ h, (f h).1 = h.1 ∧ (f h).2.claims = h.2.claims ∧ (f h).2.room = h.2.room ∧ (f h).2.left.Sublist h.2.left
  sub : dk'.states.Sublist dk.states
  keep : ∀ p ∈ dk.states, ¬ nm <+: p.1 → p ∈ dk'.states
theorem Goes.refl (nm : Nm) (dk : Dk) : Goes nm dk dk := ⟨rfl, rfl, rfl, rfl, ⟨id, by simp, fun h => ⟨rfl, rfl, rfl, List.Sublist.refl _⟩⟩, List.Sublist.refl _, fun p h _ => h⟩
theorem Goes.trans {nm : Nm} {a b c : Dk} (h : Goes nm a b) (g : Goes nm b c) : Goes nm a c := by
  obtain ⟨f, f1, f2⟩ := h.who
  obtain ⟨k, k1, k2⟩ := g.who
  refine ⟨g.plugged.trans h.plugged, g.marks.trans h.marks, g.fresh.trans h.fresh, g.log.trans h.log, ⟨k ∘ f, by rw [k1, f1, List.map_map], fun x => ?_⟩, g.sub.trans h.sub, fun p hp hn => g.keep p (h.keep p hp hn) hn⟩
  obtain ⟨a1, a2, a3, a4⟩ := f2 x
  obtain ⟨b1, b2, b3, b4⟩ := k2 (f x)
  exact ⟨b1.trans a1, b2.trans a2, b3.trans a3, b4.trans a4⟩
theorem Goes.up {nm n2 : Nm} {a b : Dk} (h : Goes n2 a b) (p : nm <+: n2) : Goes nm a b := ⟨h.plugged, h.marks, h.fresh, h.log, h.who, h.sub, fun q hq hn => h.keep q hq fun z => hn (p.trans z)⟩
theorem Goes.keysub {nm : Nm} {a b : Dk} (h : Goes nm a b) : b.keys.Sublist a.keys := h.sub.map _
theorem Goes.keepk {nm x : Nm} {a b : Dk} (h : Goes nm a b) (hx : x ∈ a.keys) (hn : ¬ nm <+: x) : x ∈ b.keys := by
  obtain ⟨p, hp, rfl⟩ := List.mem_map.mp hx
  exact List.mem_map.mpr ⟨p, h.keep p hp hn, rfl⟩
theorem Goes.kN {nm : Nm} {a b : Dk} (h : Goes nm a b) (w : KN a) : KN b := ⟨fun x hx => w.ks x (h.keysub.subset hx), w.kn.sublist h.keysub, Nat.le_trans h.keysub.length_le w.kc⟩
theorem Goes.wk {nm : Nm} {a b : Dk} (h : Goes nm a b) : b.who.map (·.1) = a.who.map (·.1) := by
  obtain ⟨f, f1, f2⟩ := h.who
  rw [f1, List.map_map]
  exact List.map_congr_left fun x _ => (f2 x).1
theorem Goes.kg {nm : Nm} {a b : Dk} (h : Goes nm a b) (w : KG a) : KG b := by
  obtain ⟨f, f1, f2⟩ := h.who
  refine ⟨h.kN w.toKN, by rw [f1, List.length_map]; exact w.wc, fun x hx => ?_, by rw [h.wk]; exact w.wn, fun x hx lt hlt => ?_⟩
  · rw [f1] at hx
    obtain ⟨y, hy, rfl⟩ := List.mem_map.mp hx
    exact Nat.le_trans (f2 y).2.2.2.length_le (w.wl y hy)
  · rw [f1] at hx
    obtain ⟨y, hy, rfl⟩ := List.mem_map.mp hx
    exact w.wt y hy lt ((f2 y).2.2.2.subset hlt)
theorem dropT_sub {κ β : Type} [DecidableEq κ] (kvs : List (κ × β)) (k : κ) : (dropT kvs k).Sublist kvs := List.filter_sublist
theorem goes_pop (dk : Dk) (nm : Nm) : Goes nm dk (dk.popS nm) := ⟨rfl, rfl, rfl, rfl, ⟨_, rfl, fun h => ⟨rfl, rfl, rfl, List.filter_sublist⟩⟩, dropT_sub _ _, fun p hp hn => List.mem_filter.mpr ⟨hp, by
  have : p.1 ≠ nm := fun z => hn (by rw [z]; exact List.prefix_refl _)
  simpa using this⟩⟩
theorem mem_inner {dk : Dk} {nm x : Nm} : x ∈ dk.inner nm ↔ x ∈ dk.keys ∧ x.dropLast = nm := by
  unfold Dk.inner sortN
  rw [List.mem_filter, List.mem_mergeSort, decide_eq_true_eq]
theorem pre_of_last {x nm : Nm} (h : x.dropLast = nm) : nm <+: x := by rw [← h]; exact List.dropLast_prefix x
theorem goes_fold {nm : Nm} {f : Dk → Nm → Dk} (hf : ∀ d one, nm <+: one → Goes nm d (f d one)) : ∀ (l : List Nm) (dk : Dk), (∀ one ∈ l, nm <+: one) → Goes nm dk (l.foldl f dk)
  | [], dk, _ => Goes.refl nm dk
  | one :: l, dk, h => (hf dk one (h one List.mem_cons_self)).trans (goes_fold hf l (f dk one) fun y hy => h y (List.mem_cons_of_mem _ hy))
theorem goes_gone : ∀ (n : Nat) (dk : Dk) (nm : Nm), Goes nm dk (dk.gone n nm)
  | 0, dk, nm => Goes.refl nm dk
  | n + 1, dk, nm => by
    rw [Dk.gone_succ]
    refine (goes_fold (fun d one h => (goes_gone n d one).up h) _ dk fun one h => pre_of_last (mem_inner.mp h).2).trans (goes_pop _ nm)
theorem goes_inner (n : Nat) (dk : Dk) (nm : Nm) : Goes nm dk (dk.innerGone n nm) := goes_fold (fun d one h => (goes_gone n d one).up h) _ dk fun one h => pre_of_last (mem_inner.mp h).2
theorem inner_len {dk : Dk} (w : KN dk) {nm x : Nm} (h : x ∈ dk.inner nm) : x.length = nm.length + 1 ∧ x.length ≤ 3 := by
  obtain ⟨h1, h2⟩ := mem_inner.mp h
  have := w.ks x h1
  have e : x.dropLast.length = x.length - 1 := List.length_dropLast
  rw [h2] at e
  omega
theorem inner_nd {dk : Dk} (w : KN dk) (nm : Nm) : (dk.inner nm).Nodup := by
  unfold Dk.inner sortN
  exact ((List.mergeSort_perm _ _).nodup_iff.mpr w.kn).sublist List.filter_sublist
/-- two of one length: the one isn't within the other -/
theorem not_pre {x y : Nm} (h : x.length = y.length) (hn : x ≠ y) : ¬ x <+: y := fun z => hn (z.eq_of_length h)
end DM

namespace DM
open PySem PySem.Spec PyProof.Rows L2
/-! ### a desk written at -/
theorem At.nds {a : At} (h : a.all.Nodup) : a.fix.Nodup ∧ a.hps.Nodup ∧ ∀ x ∈ a.fix, ∀ y ∈ a.hps, x ≠ y := List.nodup_append.mp h
theorem At.mem_hps {a : At} {i : Nat} {p : Nat × Nat} (h : a.hp[i]? = some p) : p.1 ∈ a.hps ∧ p.2 ∈ a.hps := by
  have hm := List.mem_of_getElem? h
  exact ⟨List.mem_flatMap.mpr ⟨p, hm, by simp⟩, List.mem_flatMap.mpr ⟨p, hm, by simp⟩⟩
theorem At.fix_all {a : At} {j : Nat} (h : j ∈ a.fix) : j ∈ a.all := List.mem_append_left _ h
theorem At.hps_all {a : At} {j : Nat} (h : j ∈ a.hps) : j ∈ a.all := List.mem_append_right _ h
section
variable {CD CH : Addr} {S : Store} {a : At} {dk : Dk}
/-- a fixed place is written: what else there is stands -/
theorem DeskAt.fixn (H : DeskAt CD CH S a dk) {l : Nat} (hl : l ∈ a.fix) {o : Ob} : (∀ j ∈ a.fix, j ≠ l → (S.set l o)[j]? = S[j]?) ∧ (S.set l o)[l]? = some o ∧ (∀ (i : Nat) (p : Nat × Nat), a.hp[i]? = some p → (S.set l o)[p.1]? = S[p.1]? ∧ (S.set l o)[p.2]? = S[p.2]?) := by
  have lt := H.lt l (At.fix_all hl)
  obtain ⟨_, _, d⟩ := At.nds H.nd
  refine ⟨fun j hj hn => List.getElem?_set_ne (fun z => hn z.symm), List.getElem?_set_self lt, fun i p hp => ?_⟩
  obtain ⟨h1, h2⟩ := At.mem_hps hp
  exact ⟨List.getElem?_set_ne (d l hl p.1 h1), List.getElem?_set_ne (d l hl p.2 h2)⟩
theorem DeskAt.fne (H : DeskAt CD CH S a dk) : a.l ≠ a.lp ∧ a.l ≠ a.lm ∧ a.l ≠ a.lw ∧ a.l ≠ a.ls ∧ a.l ≠ a.lf ∧ a.l ≠ a.lg ∧ a.lp ≠ a.lm ∧ a.lp ≠ a.lw ∧ a.lp ≠ a.ls ∧ a.lp ≠ a.lf ∧ a.lp ≠ a.lg ∧ a.lm ≠ a.lw ∧ a.lm ≠ a.ls ∧ a.lm ≠ a.lf ∧ a.lm ≠ a.lg ∧ a.lw ≠ a.ls ∧ a.lw ≠ a.lf ∧ a.lw ≠ a.lg ∧ a.ls ≠ a.lf ∧ a.ls ≠ a.lg ∧ a.lf ≠ a.lg := by
  have d := (At.nds H.nd).1
  unfold At.fix at d
  simp only [List.nodup_cons, List.mem_cons, List.not_mem_nil, or_false, not_or] at d
  obtain ⟨⟨a1, a2, a3, a4, a5, a6⟩, ⟨b1, b2, b3, b4, b5⟩, ⟨c1, c2, c3, c4⟩, ⟨d1, d2, d3⟩, ⟨e1, e2⟩, f1, _⟩ := d
  exact ⟨a1, a2, a3, a4, a5, a6, b1, b2, b3, b4, b5, c1, c2, c3, c4, d1, d2, d3, e1, e2, f1⟩
structure SelfAt (CD : Addr) (S : Store) (l : Nat) (a : At) : Prop where
  self : S[l]? = some (.ins CD (deskFs a))
theorem DeskAt.at (H : DeskAt CD CH S a dk) {l : Nat} (e : a.l = l) : SelfAt CD S l a := ⟨by rw [← e]; exact H.self⟩
theorem Fra.ls {S S' : Store} {a a' : At} (F : Fra S S' a a') : a'.l = a.l ∧ a'.lp = a.lp ∧ a'.lm = a.lm ∧ a'.lw = a.lw ∧ a'.ls = a.ls ∧ a'.lf = a.lf ∧ a'.lg = a.lg := by
  have := F.fix
  simp only [At.fix, List.cons.injEq] at this
  obtain ⟨h1, h2, h3, h4, h5, h6, h7, _⟩ := this
  exact ⟨h1, h2, h3, h4, h5, h6, h7⟩
theorem DeskAt.setS (H : DeskAt CD CH S a dk) (st : Sts) : DeskAt CD CH (S.set a.ls (.dT (mapT kN saD st))) a { dk with states := st } := by
  obtain ⟨f, s, g⟩ := H.fixn (l := a.ls) (by simp [At.fix]) (o := .dT (mapT kN saD st))
  obtain ⟨a1, a2, a3, a4, a5, a6, b1, b2, b3, b4, b5, c1, c2, c3, c4, d1, d2, d3, e1, e2, f1⟩ := H.fne
  refine ⟨?_, ?_, ?_, ?_, s, ?_, ?_, H.hlen, fun i h p h1 h2 => ?_, H.nd⟩
  · rw [f _ (by simp [At.fix]) a4]; exact H.self
  · rw [f _ (by simp [At.fix]) b3]; exact H.plugged
  · rw [f _ (by simp [At.fix]) c2]; exact H.marks
  · rw [f _ (by simp [At.fix]) d1]; exact H.who
  · rw [f _ (by simp [At.fix]) (Ne.symm e1)]; exact H.fresh
  · rw [f _ (by simp [At.fix]) (Ne.symm e2)]; exact H.log
  · rw [(g i p h2).1, (g i p h2).2]; exact H.help i h p h1 h2
theorem DeskAt.setP (H : DeskAt CD CH S a dk) (st : List (Int × Th)) : DeskAt CD CH (S.set a.lp (.dK (mapT kI eT st))) a { dk with plugged := st } := by
  obtain ⟨f, s, g⟩ := H.fixn (l := a.lp) (by simp [At.fix]) (o := .dK (mapT kI eT st))
  obtain ⟨a1, a2, a3, a4, a5, a6, b1, b2, b3, b4, b5, c1, c2, c3, c4, d1, d2, d3, e1, e2, f1⟩ := H.fne
  refine ⟨?_, s, ?_, ?_, ?_, ?_, ?_, H.hlen, fun i h p h1 h2 => ?_, H.nd⟩
  · rw [f _ (by simp [At.fix]) a1]; exact H.self
  · rw [f _ (by simp [At.fix]) (Ne.symm b1)]; exact H.marks
  · rw [f _ (by simp [At.fix]) (Ne.symm b2)]; exact H.who
  · rw [f _ (by simp [At.fix]) (Ne.symm b3)]; exact H.states
  · rw [f _ (by simp [At.fix]) (Ne.symm b4)]; exact H.fresh
  · rw [f _ (by simp [At.fix]) (Ne.symm b5)]; exact H.log
  · rw [(g i p h2).1, (g i p h2).2]; exact H.help i h p h1 h2
theorem DeskAt.setM (H : DeskAt CD CH S a dk) (st : List (Nm × List Int)) : DeskAt CD CH (S.set a.lm (dMk st)) a { dk with marks := st } := by
  obtain ⟨f, s, g⟩ := H.fixn (l := a.lm) (by simp [At.fix]) (o := dMk st)
  obtain ⟨a1, a2, a3, a4, a5, a6, b1, b2, b3, b4, b5, c1, c2, c3, c4, d1, d2, d3, e1, e2, f1⟩ := H.fne
  refine ⟨?_, ?_, s, ?_, ?_, ?_, ?_, H.hlen, fun i h p h1 h2 => ?_, H.nd⟩
  · rw [f _ (by simp [At.fix]) a2]; exact H.self
  · rw [f _ (by simp [At.fix]) b1]; exact H.plugged
  · rw [f _ (by simp [At.fix]) (Ne.symm c1)]; exact H.who
  · rw [f _ (by simp [At.fix]) (Ne.symm c2)]; exact H.states
  · rw [f _ (by simp [At.fix]) (Ne.symm c3)]; exact H.fresh
  · rw [f _ (by simp [At.fix]) (Ne.symm c4)]; exact H.log
  · rw [(g i p h2).1, (g i p h2).2]; exact H.help i h p h1 h2
theorem DeskAt.setF (H : DeskAt CD CH S a dk) (x : Int × Int) : DeskAt CD CH (S.set a.lf (.lst [.int x.1, .int x.2])) a { dk with fresh := x } := by
  obtain ⟨f, s, g⟩ := H.fixn (l := a.lf) (by simp [At.fix]) (o := .lst [.int x.1, .int x.2])
  obtain ⟨a1, a2, a3, a4, a5, a6, b1, b2, b3, b4, b5, c1, c2, c3, c4, d1, d2, d3, e1, e2, f1⟩ := H.fne
  refine ⟨?_, ?_, ?_, ?_, ?_, s, ?_, H.hlen, fun i h p h1 h2 => ?_, H.nd⟩
  · rw [f _ (by simp [At.fix]) a5]; exact H.self
  · rw [f _ (by simp [At.fix]) b4]; exact H.plugged
  · rw [f _ (by simp [At.fix]) c3]; exact H.marks
  · rw [f _ (by simp [At.fix]) d2]; exact H.who
  · rw [f _ (by simp [At.fix]) e1]; exact H.states
  · rw [f _ (by simp [At.fix]) (Ne.symm f1)]; exact H.log
  · rw [(g i p h2).1, (g i p h2).2]; exact H.help i h p h1 h2
theorem DeskAt.setG (H : DeskAt CD CH S a dk) (l : List En) : DeskAt CD CH (S.set a.lg (.lst (l.map enD))) a { dk with log := l } := by
  obtain ⟨f, s, g⟩ := H.fixn (l := a.lg) (by simp [At.fix]) (o := .lst (l.map enD))
  obtain ⟨a1, a2, a3, a4, a5, a6, b1, b2, b3, b4, b5, c1, c2, c3, c4, d1, d2, d3, e1, e2, f1⟩ := H.fne
  refine ⟨?_, ?_, ?_, ?_, ?_, ?_, s, H.hlen, fun i h p h1 h2 => ?_, H.nd⟩
  · rw [f _ (by simp [At.fix]) a6]; exact H.self
  · rw [f _ (by simp [At.fix]) b5]; exact H.plugged
  · rw [f _ (by simp [At.fix]) c4]; exact H.marks
  · rw [f _ (by simp [At.fix]) d3]; exact H.who
  · rw [f _ (by simp [At.fix]) e2]; exact H.states
  · rw [f _ (by simp [At.fix]) f1]; exact H.fresh
  · rw [(g i p h2).1, (g i p h2).2]; exact H.help i h p h1 h2
theorem Fra.setF {l : Nat} {o : Ob} (h : l ∈ a.fix) : Fra S (S.set l o) a a := Fra.set (At.fix_all h)
/-- two helpers' places differ -/
theorem At.hp_ne {a : At} (nd : a.all.Nodup) {i j : Nat} {p q : Nat × Nat} (hp : a.hp[i]? = some p) (hq : a.hp[j]? = some q) : p.1 ≠ p.2 ∧ p.1 ≠ q.2 ∧ (i ≠ j → p.1 ≠ q.1 ∧ p.2 ≠ q.2) := by
  have d := (At.nds nd).2.1
  unfold At.hps at d
  have gen : ∀ (l : List (Nat × Nat)), (l.flatMap fun p => [p.1, p.2]).Nodup → ∀ (i j : Nat) (p q : Nat × Nat), l[i]? = some p → l[j]? = some q → p.1 ≠ p.2 ∧ p.1 ≠ q.2 ∧ (i ≠ j → p.1 ≠ q.1 ∧ p.2 ≠ q.2) := by
    intro l
    induction l with
    | nil => intro _ i j p q h; simp at h
    | cons x l ih =>
      intro d i j p q h1 h2
      have d' : (x.1 :: x.2 :: (l.flatMap fun p => [p.1, p.2])).Nodup := by simpa using d
      simp only [List.nodup_cons, List.mem_cons, not_or] at d'
      obtain ⟨⟨n1, n2⟩, n3, n4⟩ := d'
      have mem : ∀ (k : Nat) (r : Nat × Nat), l[k]? = some r → r.1 ∈ (l.flatMap fun p => [p.1, p.2]) ∧ r.2 ∈ (l.flatMap fun p => [p.1, p.2]) := fun k r h => by
        have hm := List.mem_of_getElem? h
        exact ⟨List.mem_flatMap.mpr ⟨r, hm, by simp⟩, List.mem_flatMap.mpr ⟨r, hm, by simp⟩⟩
      cases i with
      | zero =>
        have e1 : x = p := by simpa using h1
        subst e1
        cases j with
        | zero =>
          have e2 : x = q := by simpa using h2
          subst e2
          exact ⟨n1, n1, fun z => absurd rfl z⟩
        | succ j =>
          obtain ⟨m1, m2⟩ := mem j q (by simpa using h2)
          exact ⟨n1, fun z => n2 (by rw [z]; exact m2), fun _ => ⟨fun z => n2 (by rw [z]; exact m1), fun z => n3 (by rw [z]; exact m2)⟩⟩
      | succ i =>
        have h1' : l[i]? = some p := by simpa using h1
        obtain ⟨m1, m2⟩ := mem i p h1'
        cases j with
        | zero =>
          have e2 : x = q := by simpa using h2
          subst e2
          exact ⟨(ih n4 i i p p h1' h1').1, fun z => n3 (by rw [← z]; exact m1), fun _ => ⟨fun z => n2 (by rw [← z]; exact m1), fun z => n3 (by rw [← z]; exact m2)⟩⟩
        | succ j =>
          obtain ⟨r1, r2, r3⟩ := ih n4 i j p q h1' (by simpa using h2)
          exact ⟨r1, r2, fun z => r3 (fun y => z (by rw [y]))⟩
  exact gen a.hp d i j p q hp hq
theorem whoOb_zip (dk : Dk) (a : At) : whoOb dk a = .dK (((dk.who.map (·.1)).zip (a.hp.map (·.1))).map fun x => (kI x.1, .loc x.2)) := by
  unfold whoOb
  congr 1
  generalize dk.who = l
  generalize a.hp = m
  induction l generalizing m with
  | nil => rfl
  | cons x l ih =>
    cases m with
    | nil => rfl
    | cons y m => exact congrArg (List.cons (kI x.1, D.loc y.1)) (ih m)
theorem set_map_same {α β : Type} {g : α → β} {l : List α} {i : Nat} {x y : α} (h : l[i]? = some y) (e : g x = g y) : (l.set i x).map g = l.map g := by
  apply List.ext_getElem?
  intro j
  rw [List.getElem?_map, List.getElem?_map]
  by_cases hj : i = j
  · subst hj
    rw [List.getElem?_set_self (List.getElem?_eq_some_iff.mp h).1, h]
    show some (g x) = some (g y)
    rw [e]
  · rw [List.getElem?_set_ne hj]
/-- a helper's row in place -/
theorem DeskAt.setL (H : DeskAt CD CH S a dk) {i : Nat} {h : Int × HpS} {p : Nat × Nat} (hi : dk.who[i]? = some h) (hp : a.hp[i]? = some p) (l : List Lt) : DeskAt CD CH (S.set p.2 (.lst (l.map ltD))) a { dk with who := dk.who.set i (h.1, { h.2 with left := l }) } := by
  obtain ⟨m1, m2⟩ := At.mem_hps hp
  obtain ⟨_, _, d⟩ := At.nds H.nd
  have f : ∀ j ∈ a.fix, (S.set p.2 (Ob.lst (l.map ltD)))[j]? = S[j]? := fun j hj => List.getElem?_set_ne (fun z => d j hj p.2 m2 z.symm)
  have il := (List.getElem?_eq_some_iff.mp hi).1
  refine ⟨?_, ?_, ?_, ?_, ?_, ?_, ?_, by rw [List.length_set]; exact H.hlen, fun j x q h1 h2 => ?_, H.nd⟩
  · rw [f _ (by simp [At.fix])]; exact H.self
  · rw [f _ (by simp [At.fix])]; exact H.plugged
  · rw [f _ (by simp [At.fix])]; exact H.marks
  · rw [f _ (by simp [At.fix]), H.who, whoOb_zip, whoOb_zip]
    show _ = some (Ob.dK ((((dk.who.set i (h.1, { h.2 with left := l })).map (·.1)).zip (a.hp.map (·.1))).map fun x => (kI x.1, .loc x.2)))
    rw [set_map_same (g := fun x : Int × HpS => x.1) (x := (h.1, { h.2 with left := l })) hi rfl]
  · rw [f _ (by simp [At.fix])]; exact H.states
  · rw [f _ (by simp [At.fix])]; exact H.fresh
  · rw [f _ (by simp [At.fix])]; exact H.log
  · by_cases hj : i = j
    · subst hj
      rw [hp] at h2; cases h2
      have h1 : (dk.who.set i (h.1, { h.2 with left := l }))[i]? = some x := h1
      rw [List.getElem?_set_self il] at h1; cases h1
      obtain ⟨n1, _, _⟩ := At.hp_ne H.nd hp hp
      obtain ⟨q1, q2⟩ := H.help i h p hi hp
      refine ⟨?_, List.getElem?_set_self (List.getElem?_eq_some_iff.mp q2).1⟩
      rw [List.getElem?_set_ne (Ne.symm n1)]; exact q1
    · have h1 : (dk.who.set i (h.1, { h.2 with left := l }))[j]? = some x := h1
      rw [List.getElem?_set_ne hj] at h1
      obtain ⟨_, n2, _⟩ := At.hp_ne H.nd h2 hp
      obtain ⟨_, _, n3⟩ := At.hp_ne H.nd hp h2
      obtain ⟨q1, q2⟩ := H.help j x q h1 h2
      rw [List.getElem?_set_ne (Ne.symm n2), List.getElem?_set_ne (n3 hj).2]
      exact ⟨q1, q2⟩
/-- a helper's row made anew -/
theorem DeskAt.newL (H : DeskAt CD CH S a dk) {i : Nat} {h : Int × HpS} {p : Nat × Nat} (hi : dk.who[i]? = some h) (hp : a.hp[i]? = some p) (l : List Lt) {n : Nat} (hn : S.length ≤ n) {S' : Store} (k : ∀ j ∈ a.all, j ≠ p.1 → S'[j]? = S[j]?) (h1 : S'[p.1]? = some (.ins CH (helpFs { h.2 with left := l } (p.1, n)))) (h2 : S'[n]? = some (.lst (l.map ltD))) :
    DeskAt CD CH S' { a with hp := a.hp.set i (p.1, n) } { dk with who := dk.who.set i (h.1, { h.2 with left := l }) } := by
  obtain ⟨m1, m2⟩ := At.mem_hps hp
  obtain ⟨dF, dH, d⟩ := At.nds H.nd
  have f : ∀ j ∈ a.fix, S'[j]? = S[j]? := fun j hj => k j (At.fix_all hj) (d j hj p.1 m1)
  have il := (List.getElem?_eq_some_iff.mp hi).1
  have pl := (List.getElem?_eq_some_iff.mp hp).1
  refine ⟨?_, ?_, ?_, ?_, ?_, ?_, ?_, by simp [H.hlen], fun j x q e1 e2 => ?_, ?_⟩
  · rw [f _ (by simp [At.fix])]; exact H.self
  · rw [f _ (by simp [At.fix])]; exact H.plugged
  · rw [f _ (by simp [At.fix])]; exact H.marks
  · rw [f _ (by simp [At.fix]), H.who, whoOb_zip, whoOb_zip]
    show _ = some (Ob.dK ((((dk.who.set i (h.1, { h.2 with left := l })).map (·.1)).zip ((a.hp.set i (p.1, n)).map (·.1))).map fun x => (kI x.1, .loc x.2)))
    rw [set_map_same (g := fun x : Int × HpS => x.1) (x := (h.1, { h.2 with left := l })) hi rfl, set_map_same (g := fun x : Nat × Nat => x.1) (x := (p.1, n)) hp rfl]
  · rw [f _ (by simp [At.fix])]; exact H.states
  · rw [f _ (by simp [At.fix])]; exact H.fresh
  · rw [f _ (by simp [At.fix])]; exact H.log
  · have e1 : (dk.who.set i (h.1, { h.2 with left := l }))[j]? = some x := e1
    have e2 : (a.hp.set i (p.1, n))[j]? = some q := e2
    by_cases hj : i = j
    · subst hj
      rw [List.getElem?_set_self il] at e1; cases e1
      rw [List.getElem?_set_self pl] at e2; cases e2
      exact ⟨h1, h2⟩
    · rw [List.getElem?_set_ne hj] at e1 e2
      obtain ⟨_, n2, _⟩ := At.hp_ne H.nd hp e2
      obtain ⟨_, _, n3⟩ := At.hp_ne H.nd hp e2
      obtain ⟨q1, q2⟩ := H.help j x q e1 e2
      obtain ⟨mm1, mm2⟩ := At.mem_hps e2
      rw [k q.1 (At.hps_all mm1) (Ne.symm (n3 hj).1), k q.2 (At.hps_all mm2) (Ne.symm n2)]
      exact ⟨q1, q2⟩
  · -- the places still differ
    have lt := H.lt
    have gen : ∀ (hl : List (Nat × Nat)) (i : Nat) (p : Nat × Nat), (hl.flatMap fun p => [p.1, p.2]).Nodup → (∀ y ∈ hl.flatMap (fun p => [p.1, p.2]), y < S.length) → hl[i]? = some p → ((hl.set i (p.1, n)).flatMap fun p => [p.1, p.2]).Nodup ∧ ∀ y ∈ (hl.set i (p.1, n)).flatMap (fun p => [p.1, p.2]), y = n ∨ y ∈ hl.flatMap fun p => [p.1, p.2] := by
      intro hl
      induction hl with
      | nil => intro i p _ _ h; simp at h
      | cons x hl ih =>
        intro i p nd lt h
        have nd' : (x.1 :: x.2 :: (hl.flatMap fun p => [p.1, p.2])).Nodup := by simpa using nd
        simp only [List.nodup_cons, List.mem_cons, not_or] at nd'
        obtain ⟨⟨n1, n2⟩, n3, n4⟩ := nd'
        have lx1 := lt x.1 (by simp)
        have lx2 := lt x.2 (by simp)
        have ltl : ∀ y ∈ hl.flatMap (fun p => [p.1, p.2]), y < S.length := fun y hy => lt y (by simp only [List.flatMap_cons]; exact List.mem_append_right _ hy)
        cases i with
        | zero =>
          have e : x = p := by simpa using h
          subst e
          refine ⟨?_, fun y hy => ?_⟩
          · show (x.1 :: n :: (hl.flatMap fun p => [p.1, p.2])).Nodup
            refine List.nodup_cons.mpr ⟨fun z => ?_, List.nodup_cons.mpr ⟨fun z => ?_, n4⟩⟩
            · rcases List.mem_cons.mp z with z | z
              · omega
              · exact n2 z
            · have := ltl n z; omega
          · have hy : y ∈ x.1 :: n :: (hl.flatMap fun p => [p.1, p.2]) := hy
            simp only [List.mem_cons] at hy
            rcases hy with rfl | rfl | hy
            · right; simp
            · left; rfl
            · right; simp only [List.flatMap_cons]; exact List.mem_append_right _ hy
        | succ i =>
          obtain ⟨i1, i2⟩ := ih i p n4 ltl (by simpa using h)
          refine ⟨?_, fun y hy => ?_⟩
          · show (x.1 :: x.2 :: ((hl.set i (p.1, n)).flatMap fun p => [p.1, p.2])).Nodup
            refine List.nodup_cons.mpr ⟨fun z => ?_, List.nodup_cons.mpr ⟨fun z => ?_, i1⟩⟩
            · rcases List.mem_cons.mp z with z | z
              · exact n1 z
              · rcases i2 _ z with z | z
                · omega
                · exact n2 z
            · rcases i2 _ z with z | z
              · omega
              · exact n3 z
          · have hy : y ∈ x.1 :: x.2 :: ((hl.set i (p.1, n)).flatMap fun p => [p.1, p.2]) := hy
            simp only [List.mem_cons] at hy
            rcases hy with rfl | rfl | hy
            · right; simp
            · right; simp
            · rcases i2 _ hy with z | z
              · left; exact z
              · right; simp only [List.flatMap_cons]; exact List.mem_append_right _ z
    obtain ⟨g1, g2⟩ := gen a.hp i p dH (fun y hy => lt y (At.hps_all hy)) hp
    refine List.nodup_append.mpr ⟨dF, g1, fun x hx y hy => ?_⟩
    rcases g2 y hy with z | z
    · have := lt x (At.fix_all hx); omega
    · exact d x hx y z
end
theorem set_here {S : Store} {l : Nat} {o : Ob} (h : S[l]? = some o) : S.set l o = S := by
  apply List.ext_getElem?
  intro j
  by_cases hj : l = j
  · subst hj; rw [List.getElem?_set_self (List.getElem?_eq_some_iff.mp h).1, h]
  · rw [List.getElem?_set_ne hj]
theorem WSs.bel {X : Cx} {n : Nat} {sts : List Stmt} {v : Fv} {S : Store} {E : Ed} (h : belS S.length S → WSs X n sts v S E) : WSs X n sts v S E := fun F0 H0 F t H E' hl p k re rs q => h rs.bel F0 H0 F t H E' hl p k re rs q
theorem WE.bel {X : Cx} {e : Expr} {v : Fv} {S : Store} {Q : D → Store → Prop} (h : belS S.length S → WE X e v S Q) : WE X e v S Q := fun F t H Q' re rs k => h rs.bel F t H Q' re rs k
theorem WT.bel {X : Cx} {e : Expr} {v : Fv} {S : Store} {Q : Bool → Store → Prop} (h : belS S.length S → WT X e v S Q) : WT X e v S Q := fun F t H Q' re rs k => h rs.bel F t H Q' re rs k
theorem who_items {who : List (Int × HpS)} {hp : List (Nat × Nat)} (h : hp.length = who.length) : ((who.zip hp).map fun x => (kI x.1.1, D.loc x.2.1)).map (fun kv => kdD kv.1) = who.map fun h => D.int h.1 := by
  induction who generalizing hp with
  | nil => rfl
  | cons x l ih =>
    cases hp with
    | nil => simp at h
    | cons y m => exact congrArg (List.cons (D.int x.1)) (ih (by simpa using h))
end DM

namespace DM
open PySem PySem.Spec PyProof.Rows L2
/-! ### what holds of a desk at every step -/
structure DW (dk : Dk) : Prop extends KG dk where
  km : ∀ nm ∈ dk.keys, nm ∈ dk.marks.map (·.1)
  mo : ∀ p ∈ dk.marks, OkM 0 p.2
  cl : ∀ nm ∈ dk.keys, nm.length ≠ 1 → nm.dropLast ∈ dk.keys
  sw : ∀ p ∈ dk.states, ∀ h, p.2.2 = some h → h ∈ dk.who.map (·.1)
  sh : ∀ p ∈ dk.states, p.2.1 ≠ .free → p.2.2 ≠ none
  ho : ∀ h ∈ dk.who, OkCs h.2.claims ∧ 0 ≤ h.2.room ∧ h.2.room ≤ 4
  wb : ∀ h ∈ dk.who, 0 ≤ h.1 ∧ h.1 ≤ 999
theorem whoMod_set {dk : Dk} (nd : (dk.who.map (·.1)).Nodup) {i : Nat} {x : Int × HpS} (hi : dk.who[i]? = some x) (f : HpS → HpS) : dk.whoMod x.1 f = { dk with who := dk.who.set i (x.1, f x.2) } := by
  unfold Dk.whoMod
  have : (dk.who.map fun p => if p.1 = x.1 then (p.1, f p.2) else p) = dk.who.set i (x.1, f x.2) := by
    apply List.ext_getElem?
    intro j
    rw [List.getElem?_map]
    by_cases hj : i = j
    · subst hj
      rw [List.getElem?_set_self (List.getElem?_eq_some_iff.mp hi).1, hi]
      show some (if x.1 = x.1 then _ else _) = _
      rw [if_pos rfl]
    · rw [List.getElem?_set_ne hj]
      cases e : dk.who[j]? with
      | none => rfl
      | some y =>
        show some (if y.1 = x.1 then _ else y) = some y
        rw [if_neg fun z => ?_]
        have h1 : (dk.who.map (·.1))[i]? = some x.1 := by rw [List.getElem?_map, hi]; rfl
        have h2 : (dk.who.map (·.1))[j]? = some x.1 := by rw [List.getElem?_map, e]; exact congrArg some z
        obtain ⟨l1, v1⟩ := List.getElem?_eq_some_iff.mp h1
        obtain ⟨l2, v2⟩ := List.getElem?_eq_some_iff.mp h2
        exact hj ((List.getElem_inj nd).mp (v1.trans v2.symm))
  rw [this]
theorem who_at {dk : Dk} {h : Int} (m : h ∈ dk.who.map (·.1)) : ∃ (i : Nat) (x : Int × HpS), dk.who[i]? = some x ∧ x.1 = h := by
  obtain ⟨x, hx, rfl⟩ := List.mem_map.mp m
  obtain ⟨i, hi, e⟩ := List.mem_iff_getElem.mp hx
  exact ⟨i, x, by rw [List.getElem?_eq_getElem hi, e], rfl⟩
theorem whoD_at {dk : Dk} (nd : (dk.who.map (·.1)).Nodup) {i : Nat} {x : Int × HpS} (hi : dk.who[i]? = some x) : dk.whoD x.1 = x.2 := by
  unfold Dk.whoD
  rw [getT_nd nd (List.mem_of_getElem? hi)]; rfl
theorem stOf_some {dk : Dk} {nm : Nm} {s : Sta × Option Int} (h : getT dk.states nm = some s) : dk.stOf nm = s := by unfold Dk.stOf; rw [h]; rfl
end DM

namespace DM
open PySem PySem.Spec PyProof.Rows L2
theorem zip_fst {who : List (Int × HpS)} {hp : List (Nat × Nat)} (h : hp.length = who.length) : ((who.zip hp).map fun x => (x.1.1, D.loc x.2.1)).map (·.1) = who.map (·.1) := by
  induction who generalizing hp with
  | nil => rfl
  | cons x l ih =>
    cases hp with
    | nil => simp at h
    | cons y m => exact congrArg (List.cons x.1) (ih (by simpa using h))
theorem sortI_rise {l : List Int} (nd : l.Nodup) (h : ∀ x ∈ l, 0 ≤ x ∧ x ≤ 999) : Rise (-1) (sortI l) := by
  refine rise_of ?_ fun x hx => by have := h x ((sortI_perm l).mem_iff.mp hx); omega
  have h1 := sortI_sorted l
  have h2 : (sortI l).Nodup := (sortI_perm l).nodup_iff.mpr nd
  exact (h1.and h2).imp fun ⟨a, b⟩ => by omega
theorem DW.rows {dk : Dk} (d : DW dk) : OkHs dk.rows := by
  have nd := d.wn
  have mem : ∀ n ∈ sortI (dk.who.map (·.1)), ∃ x ∈ dk.who, x.1 = n ∧ dk.whoD n = x.2 := fun n hn => by
    obtain ⟨i, x, hi, rfl⟩ := who_at ((sortI_perm _).mem_iff.mp hn)
    exact ⟨x, List.mem_of_getElem? hi, rfl, whoD_at nd hi⟩
  refine ⟨?_, ?_, fun h hh => ?_⟩
  · unfold Dk.rows; rw [List.length_map, (sortI_perm _).length_eq, List.length_map]; have := d.wc; omega
  · have : dk.rows.map (·.1) = sortI (dk.who.map (·.1)) := by
      unfold Dk.rows; rw [List.map_map]; exact List.map_id _
    rw [this]
    refine sortI_rise nd fun x hx => ?_
    obtain ⟨y, hy, rfl⟩ := List.mem_map.mp hx
    exact d.wb y hy
  · obtain ⟨n, hn, rfl⟩ := List.mem_map.mp hh
    obtain ⟨x, hx, rfl, e⟩ := mem n hn
    show OkCs (dk.whoD x.1).claims ∧ 0 ≤ (dk.whoD x.1).room ∧ (dk.whoD x.1).room ≤ 4
    rw [e]; exact d.ho x hx
theorem there_sub {dk : Dk} {found : List (Nm × Int)} {len : Int} : ∀ nm ∈ dk.there found len, nm ∈ dk.keys := fun nm h => List.mem_mergeSort.mp (List.mem_filter.mp (List.mem_filter.mp h).1).1
theorem DW.pairs {dk : Dk} (d : DW dk) (found : List (Nm × Int)) (len : Int) : OkW ((dk.there found len).map fun nm => (nm, dk.mkOf nm)) := by
  refine ⟨?_, fun p hp => ?_⟩
  · rw [List.length_map]
    have h1 : (dk.there found len).length ≤ (sortN dk.keys).length := Nat.le_trans (List.length_filter_le _ _) (List.length_filter_le _ _)
    unfold sortN at h1
    rw [List.length_mergeSort] at h1
    have := d.kc
    omega
  · obtain ⟨nm, hnm, rfl⟩ := List.mem_map.mp hp
    have hk := there_sub nm hnm
    obtain ⟨k1, k2⟩ := d.ks nm hk
    refine ⟨k1, k2, ?_⟩
    obtain ⟨m, hm⟩ := getT_some (d.km nm hk)
    show OkM 0 (dk.mkOf nm)
    unfold Dk.mkOf
    rw [hm]
    exact d.mo _ (getT_mem hm)
end DM

namespace DM
open PySem PySem.Spec PyProof.Rows L2
theorem mem_putT {κ β : Type} [DecidableEq κ] {kvs : List (κ × β)} {k : κ} {v : β} {p : κ × β} (h : p ∈ putT kvs k v) : p ∈ kvs ∨ p = (k, v) := by
  unfold putT at h
  split at h
  · obtain ⟨q, hq, e⟩ := List.mem_map.mp h
    by_cases c : q.1 = k
    · rw [if_pos c] at e; right; rw [← e, c]
    · rw [if_neg c] at e; left; rw [← e]; exact hq
  · rcases List.mem_append.mp h with h | h
    · exact .inl h
    · exact .inr (by simpa using h)
theorem getT_in {κ β : Type} [DecidableEq κ] {kvs : List (κ × β)} {k : κ} {v : β} (h : getT kvs k = some v) : k ∈ kvs.map (·.1) := List.mem_map.mpr ⟨_, getT_mem h, rfl⟩
def Sta.of (b : Bool) : Sta := if b then .taking else .leaving
/-- letters and states agree -/
structure DL (dk : Dk) : Prop extends DW dk where
  l1 : ∀ h ∈ dk.who, ∀ lt ∈ h.2.left, getT dk.states lt.2 = some (Sta.of lt.1, some h.1)
  l2 : ∀ h ∈ dk.who, (h.2.left.map (·.2)).Nodup
theorem sub_len {α : Type} [DecidableEq α] : ∀ {l m : List α}, l.Nodup → (∀ x ∈ l, x ∈ m) → l.length ≤ m.length
  | [], _, _, _ => Nat.zero_le _
  | x :: l, m, nd, h => by
    rw [List.nodup_cons] at nd
    have hx := h x List.mem_cons_self
    have := sub_len (l := l) (m := m.erase x) nd.2 fun y hy => (List.mem_erase_of_ne (fun z => nd.1 (by rw [← z]; exact hy))).mpr (h y (List.mem_cons_of_mem _ hy))
    rw [List.length_erase_of_mem hx] at this
    have hm : 0 < m.length := List.length_pos_iff.mpr fun z => by rw [z] at hx; cases hx
    simp only [List.length_cons]; omega
theorem left_le {dk : Dk} (kc : dk.keys.length ≤ 100) {h : Int × HpS} (l1 : ∀ lt ∈ h.2.left, lt.2 ∈ dk.keys) (l2 : (h.2.left.map (·.2)).Nodup) : h.2.left.length ≤ 100 := by
  have := sub_len l2 (m := dk.keys) fun x hx => by
    obtain ⟨lt, hl, rfl⟩ := List.mem_map.mp hx
    exact l1 lt hl
  rw [List.length_map] at this
  omega
theorem putS_keys {dk : Dk} {nm : Nm} {s : Sta × Option Int} (h : nm ∈ dk.keys) : (dk.putS nm s).keys = dk.keys := by
  obtain ⟨v, hv⟩ := getT_some h
  exact putT_keys_mem _ _ _ (by rw [hv]; rfl)
theorem letter_keys {dk : Dk} {h : Int} {lt : Lt} {s : Sta} (hk : lt.2 ∈ dk.keys) : (dk.letter h lt s).keys = dk.keys := by
  obtain ⟨v, hv⟩ := getT_some hk
  have : (getT dk.states lt.2).isSome = true := by rw [hv]; rfl
  exact putT_keys_mem _ _ _ this
theorem letter_who (dk : Dk) (h : Int) (lt : Lt) (s : Sta) : (dk.letter h lt s).who = dk.who.map fun p => if p.1 = h then (p.1, { p.2 with left := p.2.left ++ [lt] }) else p := rfl
theorem DL.letter {dk : Dk} (d : DL dk) {h : Int} {lt : Lt} {s0 : Sta × Option Int} (hh : h ∈ dk.who.map (·.1)) (hs : getT dk.states lt.2 = some s0) (h0 : s0.1 = .free ∨ s0.1 = .held) : DL (dk.letter h lt (Sta.of lt.1)) := by
  have hk : lt.2 ∈ dk.keys := getT_in hs
  have ek := letter_keys (h := h) (s := Sta.of lt.1) hk
  have est : (dk.letter h lt (Sta.of lt.1)).states = putT dk.states lt.2 (Sta.of lt.1, some h) := rfl
  have ewn : (dk.letter h lt (Sta.of lt.1)).who.map (·.1) = dk.who.map (·.1) := by
    rw [letter_who, List.map_map]
    exact List.map_congr_left fun p _ => by show (if p.1 = h then _ else p).1 = p.1; split <;> rfl
  have wmem : ∀ x ∈ (dk.letter h lt (Sta.of lt.1)).who, ∃ y ∈ dk.who, x.1 = y.1 ∧ x.2.claims = y.2.claims ∧ x.2.room = y.2.room ∧ ((y.1 = h ∧ x.2.left = y.2.left ++ [lt]) ∨ (y.1 ≠ h ∧ x.2.left = y.2.left)) := fun x hx => by
    rw [letter_who] at hx
    obtain ⟨y, hy, rfl⟩ := List.mem_map.mp hx
    refine ⟨y, hy, ?_⟩
    by_cases c : y.1 = h
    · rw [if_pos c]; exact ⟨rfl, rfl, rfl, .inl ⟨c, rfl⟩⟩
    · rw [if_neg c]; exact ⟨rfl, rfl, rfl, .inr ⟨c, rfl⟩⟩
  have old : ∀ y ∈ dk.who, ∀ l ∈ y.2.left, l.2 ≠ lt.2 := fun y hy l hl z => by
    have := d.l1 y hy l hl
    rw [z, hs] at this
    have e := Option.some.inj this
    rw [e] at h0
    rcases h0 with h0 | h0 <;> (cases hb : l.1 <;> rw [hb] at h0 <;> cases h0)
  have L1 : ∀ x ∈ (dk.letter h lt (Sta.of lt.1)).who, ∀ l ∈ x.2.left, getT (dk.letter h lt (Sta.of lt.1)).states l.2 = some (Sta.of l.1, some x.1) := fun x hx l hl => by
    obtain ⟨y, hy, e1, _, _, c⟩ := wmem x hx
    rw [est, getT_put]
    have ol : l ∈ y.2.left → (if l.2 = lt.2 then some (Sta.of lt.1, some h) else getT dk.states l.2) = some (Sta.of l.1, some x.1) := fun hl => by
      rw [if_neg (old y hy l hl), e1]; exact d.l1 y hy l hl
    rcases c with ⟨c1, c2⟩ | ⟨c1, c2⟩
    · rw [c2] at hl
      rcases List.mem_append.mp hl with hl | hl
      · exact ol hl
      · have : l = lt := by simpa using hl
        subst this
        rw [if_pos rfl, e1, c1]
    · rw [c2] at hl; exact ol hl
  have L2 : ∀ x ∈ (dk.letter h lt (Sta.of lt.1)).who, (x.2.left.map (·.2)).Nodup := fun x hx => by
    obtain ⟨y, hy, _, _, _, c⟩ := wmem x hx
    rcases c with ⟨_, c2⟩ | ⟨_, c2⟩
    · rw [c2, List.map_append, List.nodup_append]
      refine ⟨d.l2 y hy, by simp, fun a ha b hb e => ?_⟩
      obtain ⟨l, hl, rfl⟩ := List.mem_map.mp ha
      have : b = lt.2 := by simpa using hb
      exact old y hy l hl (by rw [e, this])
    · rw [c2]; exact d.l2 y hy
  have kmem : ∀ x ∈ (dk.letter h lt (Sta.of lt.1)).who, ∀ l ∈ x.2.left, l.2 ∈ dk.keys := fun x hx l hl => by
    have := getT_in (L1 x hx l hl)
    rw [← ek]; exact this
  have kc := d.kc
  refine { ks := by rw [ek]; exact d.ks, kn := by rw [ek]; exact d.kn, kc := by rw [ek]; exact d.kc, wc := by have := congrArg List.length ewn; rw [List.length_map, List.length_map] at this; rw [this]; exact d.wc, wl := fun x hx => ?_, wn := by rw [ewn]; exact d.wn, wt := fun x hx l hl => (d.ks _ (kmem x hx l hl)).2, km := by rw [ek]; exact d.km, mo := d.mo, cl := by rw [ek]; exact d.cl, sw := ?_, sh := ?_, ho := fun x hx => ?_, wb := fun x hx => ?_, l1 := L1, l2 := L2 }
  · have := left_le (dk := dk) (h := x) kc (kmem x hx) (L2 x hx); omega
  · rw [ewn]
    intro p hp g hg
    rw [est] at hp
    rcases mem_putT hp with hp | rfl
    · exact d.sw p hp g hg
    · cases hg; exact hh
  · intro p hp hf
    rw [est] at hp
    rcases mem_putT hp with hp | rfl
    · exact d.sh p hp hf
    · intro z; cases z
  · obtain ⟨y, hy, _, e2, e3, _⟩ := wmem x hx
    rw [e2, e3]; exact d.ho y hy
  · obtain ⟨y, hy, e1, _⟩ := wmem x hx
    rw [e1]; exact d.wb y hy
theorem rooms_sub {hs : List He} {k : Int} (h : (getT (roomsOf hs) k).isSome = true) : k ∈ hs.map (·.1) := by
  have gen : ∀ (more kvs : List (Int × Int)), (getT (putAllT kvs more) k).isSome = true → (getT kvs k).isSome = true ∨ k ∈ more.map (·.1) := by
    intro more
    induction more with
    | nil => intro kvs h; exact .inl h
    | cons p more ih =>
      intro kvs h
      rcases ih (putT kvs p.1 p.2) h with h | h
      · rw [getT_put] at h
        by_cases c : k = p.1
        · right; rw [c]; simp
        · rw [if_neg c] at h; exact .inl h
      · right; rw [List.map_cons]; exact List.mem_cons_of_mem _ h
  rcases gen _ _ h with h | h
  · cases h
  · rw [List.map_map] at h; exact h
/-- a goal is a helper that is there -/
theorem had_who {ps : List (Nm × List Int)} {hs : List He} : ∀ p ∈ hadOf ps hs, p.2 ∈ hs.map (·.1) ∧ p.1 ∈ ps.map (·.1) := by
  have gen : ∀ (rows : List Row) (s : Had), (∀ r ∈ rows, r.2.2.1 ∈ hs.map (·.1) ∧ r.2.2.2 ∈ ps.map (·.1)) → (∀ p ∈ s.2, p.2 ∈ hs.map (·.1) ∧ p.1 ∈ ps.map (·.1)) → ∀ p ∈ (rows.foldl hadStep s).2, p.2 ∈ hs.map (·.1) ∧ p.1 ∈ ps.map (·.1) := by
    intro rows
    induction rows with
    | nil => intro s _ h; exact h
    | cons r rows ih =>
      intro s hr h
      refine ih _ (fun x hx => hr x (List.mem_cons_of_mem _ hx)) fun p hp => ?_
      unfold hadStep at hp
      split at hp
      · rcases mem_putT (show p ∈ putT s.2 r.2.2.2 r.2.2.1 from hp) with hp | rfl
        · exact h p hp
        · exact hr r List.mem_cons_self
      · exact h p hp
  refine gen _ _ (fun r hr => ?_) fun p hp => by cases hp
  obtain ⟨p, hp, x, hx, _, _, rfl⟩ := rows_of (List.mem_mergeSort.mp hr)
  exact ⟨List.mem_map.mpr ⟨x, hx, rfl⟩, List.mem_map.mpr ⟨p, hp, rfl⟩⟩
theorem rows_who (dk : Dk) : ∀ k ∈ dk.rows.map (·.1), k ∈ dk.who.map (·.1) := fun k hk => by
  unfold Dk.rows at hk
  rw [List.map_map] at hk
  obtain ⟨n, hn, rfl⟩ := List.mem_map.mp hk
  exact (sortI_perm _).mem_iff.mp hn
theorem goals_who (dk : Dk) {nm : Nm} {g : Int} (h : getT dk.goals nm = some g) : g ∈ dk.who.map (·.1) := rows_who dk _ (had_who _ (getT_mem h)).1
theorem thinkStep_ok {dk0 dk : Dk} (d : DL dk) (hw : dk.who.map (·.1) = dk0.who.map (·.1)) {nm : Nm} (hnm : nm ∈ dk.keys) : DL (Dk.thinkStep dk0.goals dk nm) ∧ (Dk.thinkStep dk0.goals dk nm).keys = dk.keys ∧ (Dk.thinkStep dk0.goals dk nm).who.map (·.1) = dk.who.map (·.1) ∧ (Dk.thinkStep dk0.goals dk nm).marks = dk.marks ∧ (Dk.thinkStep dk0.goals dk nm).plugged = dk.plugged ∧ (Dk.thinkStep dk0.goals dk nm).fresh = dk.fresh ∧ (Dk.thinkStep dk0.goals dk nm).log.length ≤ dk.log.length + 1 := by
  obtain ⟨st, hst⟩ := getT_some hnm
  have hs := stOf_some hst
  have same : DL dk ∧ dk.keys = dk.keys ∧ dk.who.map (·.1) = dk.who.map (·.1) ∧ dk.marks = dk.marks ∧ dk.plugged = dk.plugged ∧ dk.fresh = dk.fresh ∧ dk.log.length ≤ dk.log.length + 1 := ⟨d, rfl, rfl, rfl, rfl, rfl, by omega⟩
  have lw : ∀ h lt s, (dk.letter h lt s).who.map (·.1) = dk.who.map (·.1) := fun h lt s => by
    rw [letter_who, List.map_map]
    exact List.map_congr_left fun p _ => by show (if p.1 = h then _ else p).1 = p.1; split <;> rfl
  have ll : ∀ h lt s, (dk.letter h lt s).log.length ≤ dk.log.length + 1 := fun h lt s => by show (dk.log ++ [_]).length ≤ _; simp
  unfold Dk.thinkStep
  rw [hs]
  split
  · rename_i c
    split
    · have hp := getT_mem hst
      obtain ⟨g, hg⟩ : ∃ g, st.2 = some g := by
        cases e : st.2 with
        | none => exact absurd e (d.sh _ hp (by rw [c.1]; intro z; cases z))
        | some g => exact ⟨g, rfl⟩
      rw [hg]
      exact ⟨d.letter (lt := (false, nm)) (d.sw _ hp g hg) hst (.inr c.1), letter_keys hnm, lw _ _ _, rfl, rfl, rfl, ll _ _ _⟩
    · exact same
  · split
    · exact same
    · rename_i g hg
      split
      · rename_i c
        exact ⟨d.letter (lt := (true, nm)) (by rw [hw]; exact goals_who dk0 hg) hst (.inl c.1), letter_keys hnm, lw _ _ _, rfl, rfl, rfl, ll _ _ _⟩
      · exact same
structure Thk (dk0 dk : Dk) (n : Nat) : Prop where
  dl : DL dk
  ks : dk.keys = dk0.keys
  wk : dk.who.map (·.1) = dk0.who.map (·.1)
  mk' : dk.marks = dk0.marks
  pk : dk.plugged = dk0.plugged
  fk : dk.fresh = dk0.fresh
  lg : dk.log.length ≤ dk0.log.length + n
theorem think_fold {dk0 : Dk} (d0 : DL dk0) : ∀ (l : List Nm) (dk : Dk) (n : Nat), (∀ nm ∈ l, nm ∈ dk0.keys) → Thk dk0 dk n → Thk dk0 (l.foldl (Dk.thinkStep dk0.goals) dk) (n + l.length)
  | [], dk, n, _, h => h
  | nm :: l, dk, n, hl, h => by
    obtain ⟨a1, a2, a3, a4, a5, a6, a7⟩ := thinkStep_ok (dk0 := dk0) h.dl h.wk (nm := nm) (by rw [h.ks]; exact hl nm List.mem_cons_self)
    have := think_fold d0 l (Dk.thinkStep dk0.goals dk nm) (n + 1) (fun x hx => hl x (List.mem_cons_of_mem _ hx)) ⟨a1, a2.trans h.ks, a3.trans h.wk, a4.trans h.mk', a5.trans h.pk, a6.trans h.fk, by have := h.lg; omega⟩
    rw [List.length_cons]
    have e : n + 1 + l.length = n + (l.length + 1) := by omega
    rw [e] at this
    exact this
theorem think_thk {dk : Dk} (d : DL dk) : Thk dk dk.think 100 := by
  have := think_fold d (sortN dk.keys) dk 0 (fun nm h => List.mem_mergeSort.mp h) ⟨d, rfl, rfl, rfl, rfl, rfl, Nat.le_refl _⟩
  have l : (sortN dk.keys).length ≤ 100 := by unfold sortN; rw [List.length_mergeSort]; exact d.kc
  exact ⟨this.dl, this.ks, this.wk, this.mk', this.pk, this.fk, by have := this.lg; show (dk.think).log.length ≤ _; unfold Dk.think; omega⟩
end DM

namespace DM
open PySem PySem.Spec PyProof.Rows L2
/-! ### names cut off, all that are under one at once -/
def Dk.cut (dk : Dk) (p : Nm → Bool) : Dk := { dk with states := dk.states.filter (fun x => !p x.1), who := dk.who.map fun h => (h.1, { h.2 with left := h.2.left.filter fun lt => !p lt.2 }) }
theorem popS_cut (dk : Dk) (nm : Nm) : dk.popS nm = dk.cut fun x => decide (x = nm) := by
  unfold Dk.popS Dk.cut dropT
  have e : ∀ x : Nm, (decide (x ≠ nm)) = !decide (x = nm) := fun x => by by_cases h : x = nm <;> simp [h]
  congr 1
  · exact List.map_congr_left fun h _ => by
      have : (h.2.left.filter fun lt => decide (lt.2 ≠ nm)) = h.2.left.filter fun lt => !decide (lt.2 = nm) := List.filter_congr fun x _ => e x.2
      show (h.1, (HpS.mk h.2.claims h.2.room _)) = (h.1, (HpS.mk h.2.claims h.2.room _))
      rw [this]
  · exact List.filter_congr fun x _ => e x.1
theorem cut_cut (dk : Dk) (p q : Nm → Bool) : (dk.cut p).cut q = dk.cut fun x => p x || q x := by
  unfold Dk.cut
  congr 1
  · show (dk.who.map _).map _ = _
    rw [List.map_map]
    refine List.map_congr_left fun h _ => ?_
    show (h.1, HpS.mk h.2.claims h.2.room ((h.2.left.filter fun lt => !p lt.2).filter fun lt => !q lt.2)) = (h.1, HpS.mk h.2.claims h.2.room _)
    rw [List.filter_filter]
    have : (h.2.left.filter fun a => !q a.2 && !p a.2) = h.2.left.filter fun lt => !(p lt.2 || q lt.2) := List.filter_congr fun x _ => by cases p x.2 <;> cases q x.2 <;> rfl
    rw [this]
  · show (dk.states.filter fun x => !p x.1).filter (fun x => !q x.1) = _
    rw [List.filter_filter]
    exact List.filter_congr fun x _ => by show (!q x.1 && !p x.1) = !(p x.1 || q x.1); cases p x.1 <;> cases q x.1 <;> rfl
/-- the names stand each under one that is there; letters are about names that are there -/
structure Cl (dk : Dk) : Prop where
  cl : ∀ x ∈ dk.keys, x.length ≠ 1 → x.dropLast ∈ dk.keys
  ks : ∀ x ∈ dk.keys, 1 ≤ x.length ∧ x.length ≤ 3
  lk : ∀ h ∈ dk.who, ∀ lt ∈ h.2.left, lt.2 ∈ dk.keys
theorem cut_congr {dk : Dk} (c : Cl dk) {p q : Nm → Bool} (h : ∀ x ∈ dk.keys, p x = q x) : dk.cut p = dk.cut q := by
  unfold Dk.cut
  congr 1
  · refine List.map_congr_left fun w hw => ?_
    have : (w.2.left.filter fun lt => !p lt.2) = w.2.left.filter fun lt => !q lt.2 := List.filter_congr fun x hx => by rw [h x.2 (c.lk w hw x hx)]
    show (w.1, HpS.mk w.2.claims w.2.room _) = (w.1, HpS.mk w.2.claims w.2.room _)
    rw [this]
  · exact List.filter_congr fun x hx => by rw [h x.1 (List.mem_map.mpr ⟨x, hx, rfl⟩)]
theorem cut_false (dk : Dk) : dk.cut (fun _ => false) = dk := by
  obtain ⟨a, b, c, d, e, f⟩ := dk
  unfold Dk.cut
  have h1 : (d.filter fun x => !false) = d := List.filter_eq_self.mpr fun _ _ => rfl
  have h2 : (c.map fun h => (h.1, ({ h.2 with left := h.2.left.filter fun lt => !false } : HpS))) = c := by
    have : ∀ h : Int × HpS, (h.1, ({ h.2 with left := h.2.left.filter fun lt => !false } : HpS)) = h := fun h => by
      obtain ⟨i, x, y, z⟩ := h
      have : (z.filter fun lt => !false) = z := List.filter_eq_self.mpr fun _ _ => rfl
      show (i, HpS.mk x y (z.filter fun lt => !false)) = _
      rw [this]
    rw [List.map_congr_left fun h _ => this h]
    exact List.map_id _
  show Dk.mk a b (c.map _) (d.filter _) e f = _
  rw [h1, h2]
theorem cut_none {dk : Dk} (c : Cl dk) {p : Nm → Bool} (h : ∀ x ∈ dk.keys, p x = false) : dk.cut p = dk := (cut_congr c h).trans (cut_false dk)
theorem cut_keys (dk : Dk) (p : Nm → Bool) : (dk.cut p).keys = dk.keys.filter fun x => !p x := by
  show (dk.states.filter fun x => !p x.1).map (·.1) = (dk.states.map (·.1)).filter _
  rw [List.filter_map]; rfl
theorem mem_cut {dk : Dk} {p : Nm → Bool} {x : Nm} : x ∈ (dk.cut p).keys ↔ x ∈ dk.keys ∧ p x = false := by
  rw [cut_keys, List.mem_filter]; simp
def UpC (p : Nm → Bool) : Prop := ∀ x, p x.dropLast = true → p x = true
theorem Cl.cut {dk : Dk} (c : Cl dk) {p : Nm → Bool} (up : UpC p) : Cl (dk.cut p) := by
  refine ⟨fun x hx hn => ?_, fun x hx => c.ks x (mem_cut.mp hx).1, fun h hh lt hlt => ?_⟩
  · obtain ⟨h1, h2⟩ := mem_cut.mp hx
    refine mem_cut.mpr ⟨c.cl x h1 hn, ?_⟩
    cases e : p x.dropLast with
    | false => rfl
    | true => rw [up x e] at h2; cases h2
  · obtain ⟨w, hw, rfl⟩ := List.mem_map.mp (show h ∈ dk.who.map _ from hh)
    obtain ⟨h1, h2⟩ := List.mem_filter.mp (show lt ∈ w.2.left.filter _ from hlt)
    exact mem_cut.mpr ⟨c.lk w hw lt h1, by simpa using h2⟩
def pre (nm x : Nm) : Bool := decide (nm <+: x)
def und (nm x : Nm) : Bool := decide (nm <+: x) && decide (x ≠ nm)
theorem up_pre (nm : Nm) : UpC (pre nm) := fun x h => decide_eq_true ((of_decide_eq_true h).trans (List.dropLast_prefix x))
theorem pre_drop {nm x : Nm} (h : nm <+: x) (n : x ≠ nm) : nm <+: x.dropLast := by
  obtain ⟨r, rfl⟩ := h
  have : r ≠ [] := fun z => n (by rw [z, List.append_nil])
  rw [List.dropLast_append_of_ne_nil this]
  exact ⟨_, rfl⟩
theorem up_und (nm : Nm) : UpC (und nm) := fun x h => by
  unfold und at h ⊢
  rw [Bool.and_eq_true, decide_eq_true_eq, decide_eq_true_eq] at h ⊢
  refine ⟨h.1.trans (List.dropLast_prefix x), fun z => ?_⟩
  have h1 := h.1.length_le
  have h2 := h.2
  rw [z] at h1 h2
  rw [List.length_dropLast] at h1
  have : nm = [] := List.length_eq_zero_iff.mp (by omega)
  rw [this] at h2
  exact h2 rfl
theorem child {dk : Dk} (c : Cl dk) {nm : Nm} : ∀ (k : Nat) (x : Nm), x.length ≤ k → x ∈ dk.keys → nm <+: x → x ≠ nm → ∃ y ∈ dk.inner nm, y <+: x
  | 0, x, hk, hx, _, _ => by have := c.ks x hx; omega
  | k + 1, x, hk, hx, hp, hn => by
    by_cases e : x.dropLast = nm
    · exact ⟨x, mem_inner.mpr ⟨hx, e⟩, List.prefix_refl _⟩
    · have hp' := pre_drop hp hn
      have h1 : x.length ≠ 1 := fun z => e (by
        have : x.dropLast.length = 0 := by rw [List.length_dropLast]; omega
        have h0 := hp'.length_le
        rw [List.length_eq_zero_iff.mp this] at hp' ⊢
        exact (List.prefix_nil.mp hp').symm)
      obtain ⟨y, hy, hyp⟩ := child c k x.dropLast (by rw [List.length_dropLast]; have := c.ks x hx; omega) (c.cl x hx h1) hp' e
      exact ⟨y, hy, hyp.trans (List.dropLast_prefix x)⟩
theorem any_inner {dk : Dk} (c : Cl dk) {nm x : Nm} (hx : x ∈ dk.keys) : ((dk.inner nm).any fun y => pre y x) = und nm x := by
  rw [Bool.eq_iff_iff, List.any_eq_true]
  unfold und pre
  rw [Bool.and_eq_true, decide_eq_true_eq, decide_eq_true_eq]
  refine ⟨fun ⟨y, hy, hp⟩ => ?_, fun ⟨h1, h2⟩ => ?_⟩
  · have hp := of_decide_eq_true hp
    obtain ⟨k1, k2⟩ := mem_inner.mp hy
    have hn : nm <+: y := pre_of_last k2
    refine ⟨hn.trans hp, fun z => ?_⟩
    have := hp.length_le
    have l : y.dropLast.length = y.length - 1 := List.length_dropLast
    have := c.ks y k1
    rw [k2] at l
    rw [z] at hp
    have := hp.length_le
    omega
  · obtain ⟨y, hy, hp⟩ := child c x.length x (Nat.le_refl _) hx h1 h2
    exact ⟨y, hy, decide_eq_true hp⟩
theorem inner_cut_of {n : Nat} (ih : ∀ m, n = m + 1 → ∀ (dk : Dk) (nm : Nm), Cl dk → 3 ≤ nm.length + m → dk.gone (m + 1) nm = dk.cut (pre nm)) {dk : Dk} {nm : Nm} (c : Cl dk) (hn : 3 ≤ nm.length + n) : dk.innerGone n nm = dk.cut (und nm) := by
  cases n with
  | zero =>
    have he : dk.inner nm = [] := by
      cases e : dk.inner nm with
      | nil => rfl
      | cons y l =>
        exfalso
        have hy : y ∈ dk.inner nm := by rw [e]; exact List.mem_cons_self
        obtain ⟨k1, k2⟩ := mem_inner.mp hy
        have := c.ks y k1
        have l : y.dropLast.length = y.length - 1 := List.length_dropLast
        rw [k2] at l; omega
    rw [cut_none c fun x hx => by rw [← any_inner c hx, he]; rfl]
    unfold Dk.innerGone
    rw [he]; rfl
  | succ m =>
    have ih := ih m rfl
    have fold : ∀ (l : List Nm) (d : Dk), Cl d → (∀ y ∈ l, 3 ≤ y.length + m) → l.foldl (fun d one => Dk.gone (m + 1) d one) d = d.cut fun x => l.any fun y => pre y x := by
      intro l
      induction l with
      | nil => intro d c _; exact (cut_false d).symm
      | cons y l ihl =>
        intro d c hl
        rw [List.foldl_cons, ih d y c (hl y List.mem_cons_self), ihl _ (c.cut (up_pre y)) fun z hz => hl z (List.mem_cons_of_mem _ hz), cut_cut]
        rfl
    unfold Dk.innerGone
    rw [fold _ dk c fun y hy => by
      obtain ⟨k1, k2⟩ := mem_inner.mp hy
      have l : y.dropLast.length = y.length - 1 := List.length_dropLast
      have := c.ks y k1
      rw [k2] at l; omega]
    exact cut_congr c fun x hx => any_inner c hx
theorem gone_cut : ∀ (n : Nat) (dk : Dk) (nm : Nm), Cl dk → 3 ≤ nm.length + n → dk.gone (n + 1) nm = dk.cut (pre nm)
  | n, dk, nm, c, hn => by
    rw [Dk.gone_succ, inner_cut_of (fun m hm dk nm c h => by subst hm; exact gone_cut m dk nm c h) c hn, popS_cut, cut_cut]
    refine cut_congr c fun x _ => ?_
    unfold und pre
    by_cases h : x = nm
    · subst h; simp
    · simp [h]
termination_by n => n
theorem innerGone_cut {n : Nat} {dk : Dk} {nm : Nm} (c : Cl dk) (hn : 3 ≤ nm.length + n) : dk.innerGone n nm = dk.cut (und nm) := inner_cut_of (fun m _ dk nm c h => gone_cut m dk nm c h) c hn
theorem getT_filter {κ β : Type} [DecidableEq κ] {q : κ → Bool} {k : κ} (h : q k = true) : ∀ kvs : List (κ × β), getT (kvs.filter fun x => q x.1) k = getT kvs k
  | [] => rfl
  | p :: kvs => by
    by_cases e : p.1 = k
    · have : q p.1 = true := by rw [e]; exact h
      rw [List.filter_cons, if_pos this, getT_cons, getT_cons, if_pos e, if_pos e]
    · rw [getT_cons, if_neg e, List.filter_cons]
      split
      · rw [getT_cons, if_neg e]; exact getT_filter h kvs
      · exact getT_filter h kvs
end DM

namespace DM
open PySem PySem.Spec PyProof.Rows L2
/-! ### what holds of a desk between two happenings -/
structure DC (E : Int → Prop) (dk : Dk) : Prop where
  fm : dk.marks = dk.plugged.flatMap fun p => within [p.1] p.2
  pn : (dk.plugged.map (·.1)).Nodup
  pb : ∀ p ∈ dk.plugged, 0 ≤ p.1 ∧ p.1 < dk.fresh.1 ∧ OkT 2 p.2
  pc : dk.plugged.length ≤ 6
  kn : dk.keys.Nodup
  km : ∀ nm ∈ dk.keys, nm ∈ dk.marks.map (·.1)
  ch : ∀ nm ∈ dk.keys, nm.length ≠ 1 → ∃ s, getT dk.states nm.dropLast = some s ∧ (s.1 = .held ∨ s.1 = .leaving)
  sw : ∀ p ∈ dk.states, ∀ h, p.2.2 = some h → h ∈ dk.who.map (·.1) ∨ E h
  sh : ∀ p ∈ dk.states, p.2.1 ≠ .free → p.2.2 ≠ none
  wn : (dk.who.map (·.1)).Nodup
  ho : ∀ h ∈ dk.who, OkCs h.2.claims ∧ 0 ≤ h.2.room ∧ h.2.room ≤ 4
  wf : ∀ h ∈ dk.who, 0 ≤ h.1 ∧ h.1 < dk.fresh.2
  f2 : 0 ≤ dk.fresh.1 ∧ 0 ≤ dk.fresh.2 ∧ dk.fresh.2 ≤ 1000
  w8 : dk.who.length ≤ 8
  l1 : ∀ h ∈ dk.who, ∀ lt ∈ h.2.left, getT dk.states lt.2 = some (Sta.of lt.1, some h.1)
  l2 : ∀ h ∈ dk.who, (h.2.left.map (·.2)).Nodup
abbrev NoE : Int → Prop := fun _ => False
structure DI (dk : Dk) : Prop extends DC NoE dk where
  pk : ∀ p ∈ dk.plugged, [p.1] ∈ dk.keys
section
variable {E : Int → Prop} {dk : Dk}
theorem DC.mk_of (c : DC E dk) {q : Nm × List Int} (h : q ∈ dk.marks) : ∃ p ∈ dk.plugged, [p.1] <+: q.1 ∧ 1 ≤ q.1.length ∧ q.1.length ≤ 3 ∧ OkM 0 q.2 := by
  rw [c.fm] at h
  obtain ⟨p, hp, hq⟩ := List.mem_flatMap.mp h
  obtain ⟨h1, h2, h3⟩ := within_ok (c.pb p hp).2.2 q hq
  exact ⟨p, hp, within_pre _ _ _ hq, h1, h2, h3⟩
theorem full13 (nm : List Int) : (fullN 2 nm).length = 13 := by
  simp [fullN]
theorem within13 {nm : Nm} {t : Th} (h : OkT 2 t) : (within nm t).length ≤ 13 := by
  have := (within_full (nm := nm) h).length_le
  rw [full13, List.length_map] at this
  exact this
theorem flat_len {l : List (Int × Th)} (h : ∀ p ∈ l, OkT 2 p.2) : (l.flatMap fun p => within [p.1] p.2).length ≤ 13 * l.length := by
  induction l with
  | nil => exact Nat.le_refl _
  | cons x l ih =>
    rw [List.flatMap_cons, List.length_append, List.length_cons]
    have := within13 (nm := [x.1]) (h x List.mem_cons_self)
    have := ih fun p hp => h p (List.mem_cons_of_mem _ hp)
    omega
theorem DC.mlen (c : DC E dk) : dk.marks.length ≤ 78 := by
  rw [c.fm]
  have := flat_len fun p hp => (c.pb p hp).2.2
  have := c.pc
  omega
theorem DC.ks (c : DC E dk) : ∀ nm ∈ dk.keys, 1 ≤ nm.length ∧ nm.length ≤ 3 := fun nm h => by
  obtain ⟨q, hq, rfl⟩ := List.mem_map.mp (c.km nm h)
  obtain ⟨p, _, _, h1, h2, _⟩ := c.mk_of hq
  exact ⟨h1, h2⟩
theorem DC.kc (c : DC E dk) : dk.keys.length ≤ 78 := by
  have := sub_len c.kn c.km
  rw [List.length_map] at this
  have := c.mlen
  omega
theorem DC.lk (c : DC E dk) : ∀ h ∈ dk.who, ∀ lt ∈ h.2.left, lt.2 ∈ dk.keys := fun h hh lt hl => getT_in (c.l1 h hh lt hl)
theorem DC.cl (c : DC E dk) : ∀ nm ∈ dk.keys, nm.length ≠ 1 → nm.dropLast ∈ dk.keys := fun nm h hn => by
  obtain ⟨s, hs, _⟩ := c.ch nm h hn
  exact getT_in hs
theorem DC.toCl (c : DC E dk) : Cl dk := ⟨c.cl, c.ks, c.lk⟩
theorem DC.kg (c : DC E dk) : KG dk where
  ks := c.ks
  kn := c.kn
  kc := by have := c.kc; omega
  wc := by have := c.w8; omega
  wl := fun h hh => by have := left_le (dk := dk) (h := h) (by have := c.kc; omega) (c.lk h hh) (c.l2 h hh); omega
  wn := c.wn
  wt := fun h hh lt hl => (c.ks _ (c.lk h hh lt hl)).2
theorem DC.dl (c : DC NoE dk) : DL dk where
  toKG := c.kg
  km := c.km
  mo := fun p hp => by obtain ⟨_, _, _, _, _, h⟩ := c.mk_of hp; exact h
  cl := c.cl
  sw := fun p hp h e => by
    rcases c.sw p hp h e with z | z
    · exact z
    · exact z.elim
  sh := c.sh
  ho := c.ho
  wb := fun h hh => by have := c.wf h hh; have := c.f2; omega
  l1 := c.l1
  l2 := c.l2
theorem DC.log (c : DC E dk) (l : List En) : DC E { dk with log := l } := ⟨c.fm, c.pn, c.pb, c.pc, c.kn, c.km, c.ch, c.sw, c.sh, c.wn, c.ho, c.wf, c.f2, c.w8, c.l1, c.l2⟩
/-- rows made less -/
theorem DC.less (c : DC E dk) {g : Int × HpS → Int × HpS} (hg : ∀ h ∈ dk.who, (g h).1 = h.1 ∧ (g h).2.claims = h.2.claims ∧ (g h).2.room = h.2.room ∧ (g h).2.left.Sublist h.2.left) : DC E { dk with who := dk.who.map g } := by
  have ek : (dk.who.map g).map (·.1) = dk.who.map (·.1) := by rw [List.map_map]; exact List.map_congr_left fun x hx => (hg x hx).1
  have mem : ∀ x ∈ dk.who.map g, ∃ y ∈ dk.who, x.1 = y.1 ∧ x.2.claims = y.2.claims ∧ x.2.room = y.2.room ∧ x.2.left.Sublist y.2.left := fun x hx => by
    obtain ⟨y, hy, rfl⟩ := List.mem_map.mp hx
    exact ⟨y, hy, hg y hy⟩
  refine ⟨c.fm, c.pn, c.pb, c.pc, c.kn, c.km, c.ch, fun p hp h e => ?_, c.sh, ?_, fun h hh => ?_, fun h hh => ?_, c.f2, ?_, fun h hh lt hl => ?_, fun h hh => ?_⟩
  · show h ∈ (dk.who.map g).map (·.1) ∨ E h
    rw [ek]; exact c.sw p hp h e
  · show ((dk.who.map g).map (·.1)).Nodup
    rw [ek]; exact c.wn
  · obtain ⟨y, hy, e1, e2, e3, e4⟩ := mem h hh
    rw [e2, e3]; exact c.ho y hy
  · obtain ⟨y, hy, e1, e2, e3, e4⟩ := mem h hh
    rw [e1]; exact c.wf y hy
  · show (dk.who.map g).length ≤ 8
    rw [List.length_map]; exact c.w8
  · obtain ⟨y, hy, e1, e2, e3, e4⟩ := mem h hh
    rw [e1]; exact c.l1 y hy lt (e4.subset hl)
  · obtain ⟨y, hy, e1, e2, e3, e4⟩ := mem h hh
    exact (c.l2 y hy).sublist (e4.map _)
theorem DC.cut (c : DC E dk) {p : Nm → Bool} (up : UpC p) : DC E (dk.cut p) := by
  have ek : (dk.cut p).who.map (·.1) = dk.who.map (·.1) := by
    show (dk.who.map _).map _ = _
    rw [List.map_map]; rfl
  have mem : ∀ x ∈ (dk.cut p).who, ∃ y ∈ dk.who, x = (y.1, { y.2 with left := y.2.left.filter fun lt => !p lt.2 }) := fun x hx => by
    obtain ⟨y, hy, rfl⟩ := List.mem_map.mp (show x ∈ dk.who.map _ from hx)
    exact ⟨y, hy, rfl⟩
  have hst : ∀ k, p k = false → getT (dk.cut p).states k = getT dk.states k := fun k h => getT_filter (q := fun x => !p x) (by rw [h]; rfl) dk.states
  have sub : (dk.cut p).states.Sublist dk.states := List.filter_sublist
  refine ⟨c.fm, c.pn, c.pb, c.pc, c.kn.sublist (sub.map _), fun nm h => c.km nm (mem_cut.mp h).1, fun nm h hn => ?_, fun q hq h e => ?_, fun q hq => c.sh q (sub.subset hq), by rw [ek]; exact c.wn, fun h hh => ?_, fun h hh => ?_, c.f2, ?_, fun h hh lt hl => ?_, fun h hh => ?_⟩
  · obtain ⟨h1, h2⟩ := mem_cut.mp h
    obtain ⟨s, hs, r⟩ := c.ch nm h1 hn
    refine ⟨s, ?_, r⟩
    rw [hst]
    · exact hs
    · cases e : p nm.dropLast with
      | false => rfl
      | true => rw [up nm e] at h2; cases h2
  · rw [ek]; exact c.sw q (sub.subset hq) h e
  · obtain ⟨y, hy, rfl⟩ := mem h hh; exact c.ho y hy
  · obtain ⟨y, hy, rfl⟩ := mem h hh; exact c.wf y hy
  · show (dk.who.map _).length ≤ 8
    rw [List.length_map]; exact c.w8
  · obtain ⟨y, hy, rfl⟩ := mem h hh
    obtain ⟨h1, h2⟩ := List.mem_filter.mp (show lt ∈ y.2.left.filter _ from hl)
    rw [hst _ (by simpa using h2)]
    exact c.l1 y hy lt h1
  · obtain ⟨y, hy, rfl⟩ := mem h hh
    exact (c.l2 y hy).sublist (List.filter_sublist.map _)
theorem keys_putS {nm x : Nm} {s : Sta × Option Int} : x ∈ (dk.putS nm s).keys → x ∈ dk.keys ∨ x = nm := fun h => by
  obtain ⟨p, hp, rfl⟩ := List.mem_map.mp h
  rcases mem_putT (show p ∈ putT dk.states nm s from hp) with z | rfl
  · exact .inl (List.mem_map.mpr ⟨p, z, rfl⟩)
  · exact .inr rfl
theorem putS_nd {nm : Nm} {s : Sta × Option Int} (h : dk.keys.Nodup) : (dk.putS nm s).keys.Nodup := by
  by_cases m : nm ∈ dk.keys
  · rw [putS_keys m]; exact h
  · have e : (dk.putS nm s).keys = dk.keys ++ [nm] := by
      show (putT dk.states nm s).map (·.1) = _
      rw [putT_new _ (getT_none m), List.map_append]; rfl
    rw [e, List.nodup_append]
    exact ⟨h, by simp, fun a ha b hb z => by simp at hb; subst hb; subst z; exact m ha⟩
theorem putS_in {nm x : Nm} {s : Sta × Option Int} (h : x ∈ dk.keys ∨ x = nm) : x ∈ (dk.putS nm s).keys := by
  by_cases e : x = nm
  · subst e
    have : getT (dk.putS x s).states x = some s := by show getT (putT _ _ _) _ = _; rw [getT_put, if_pos rfl]
    exact getT_in this
  · rcases h with h | h
    · obtain ⟨v, hv⟩ := getT_some h
      have : getT (dk.putS nm s).states x = some v := by show getT (putT _ _ _) _ = _; rw [getT_put, if_neg e, hv]
      exact getT_in this
    · exact absurd h e
/-- one name's state is put -/
theorem DC.put (c : DC E dk) {nm : Nm} {s : Sta × Option Int} (hm : nm ∈ dk.marks.map (·.1)) (hpar : nm.length ≠ 1 → ∃ s, getT dk.states nm.dropLast = some s ∧ (s.1 = .held ∨ s.1 = .leaving)) (hs : ∀ h, s.2 = some h → h ∈ dk.who.map (·.1) ∨ E h) (hf : s.1 ≠ .free → s.2 ≠ none)
    (hl : ∀ h ∈ dk.who, ∀ lt ∈ h.2.left, lt.2 ≠ nm) (hk : (s.1 = .held ∨ s.1 = .leaving) ∨ ∀ x ∈ dk.keys, x.length ≠ 1 → x.dropLast ≠ nm) : DC E (dk.putS nm s) := by
  have hg : ∀ k, getT (dk.putS nm s).states k = if k = nm then some s else getT dk.states k := fun k => getT_put _ _ _ _
  have hne : nm ≠ nm.dropLast := by
    obtain ⟨q, hq, rfl⟩ := List.mem_map.mp hm
    obtain ⟨_, _, _, h1, _⟩ := c.mk_of hq
    intro z
    have := congrArg List.length z
    rw [List.length_dropLast] at this
    omega
  refine ⟨c.fm, c.pn, c.pb, c.pc, putS_nd c.kn, fun x h => ?_, fun x h hn => ?_, fun q hq h e => ?_, fun q hq => ?_, c.wn, c.ho, c.wf, c.f2, c.w8, fun h hh lt hlt => ?_, c.l2⟩
  · rcases keys_putS h with h | rfl
    · exact c.km x h
    · exact hm
  · rw [hg]
    rcases keys_putS h with h | rfl
    · obtain ⟨s', h1, h2⟩ := c.ch x h hn
      by_cases e : x.dropLast = nm
      · rw [if_pos e]
        rcases hk with z | z
        · exact ⟨s, rfl, z⟩
        · exact absurd e (z x h hn)
      · rw [if_neg e]; exact ⟨s', h1, h2⟩
    · rw [if_neg (Ne.symm hne)]; exact hpar hn
  · rcases mem_putT (show q ∈ putT dk.states nm s from hq) with z | rfl
    · exact c.sw q z h e
    · exact hs h e
  · rcases mem_putT (show q ∈ putT dk.states nm s from hq) with z | rfl
    · exact c.sh q z
    · exact hf
  · rw [hg, if_neg (hl h hh lt hlt)]; exact c.l1 h hh lt hlt
end
/-! #### thinking -/
theorem think_ch {dk0 : Dk} : ∀ (l : List Nm) (dk : Dk), (∀ nm ∈ l, nm ∈ dk0.keys) → DL dk → dk.keys = dk0.keys → dk.who.map (·.1) = dk0.who.map (·.1) →
    (∀ nm ∈ dk.keys, nm.length ≠ 1 → ∃ s, getT dk.states nm.dropLast = some s ∧ (s.1 = .held ∨ s.1 = .leaving)) →
    ∀ nm ∈ (l.foldl (Dk.thinkStep dk0.goals) dk).keys, nm.length ≠ 1 → ∃ s, getT (l.foldl (Dk.thinkStep dk0.goals) dk).states nm.dropLast = some s ∧ (s.1 = .held ∨ s.1 = .leaving)
  | [], dk, _, _, _, _, h => h
  | one :: l, dk, hl, d, hk, hw, h => by
    have h1 : one ∈ dk.keys := by rw [hk]; exact hl one List.mem_cons_self
    obtain ⟨a1, a2, a3, _, _, _, _⟩ := thinkStep_ok (dk0 := dk0) d hw h1
    refine think_ch l _ (fun x hx => hl x (List.mem_cons_of_mem _ hx)) a1 (a2.trans hk) (a3.trans hw) ?_
    rw [a2]
    obtain ⟨st, hst⟩ := getT_some h1
    have hs := stOf_some hst
    have hlt : ∀ g lt s, lt.2 = one → ∀ k, getT (dk.letter g lt s).states k = if k = one then some (s, some g) else getT dk.states k := fun g lt s e k => by rw [← e]; exact getT_put _ _ _ _
    intro nm hnm hn
    obtain ⟨s, e1, e2⟩ := h nm hnm hn
    unfold Dk.thinkStep
    rw [hs]
    split
    · split
      · rw [hlt _ (false, one) .leaving rfl]
        by_cases e : nm.dropLast = one
        · rw [if_pos e]; exact ⟨_, rfl, .inr rfl⟩
        · rw [if_neg e]; exact ⟨s, e1, e2⟩
      · exact ⟨s, e1, e2⟩
    · split
      · exact ⟨s, e1, e2⟩
      · split
        · rename_i g _ c
          rw [hlt _ (true, one) .taking rfl]
          have : nm.dropLast ≠ one := fun z => by
            rw [z, hst] at e1
            cases e1
            rcases e2 with e2 | e2 <;> rw [c.1] at e2 <;> cases e2
          rw [if_neg this]; exact ⟨s, e1, e2⟩
        · exact ⟨s, e1, e2⟩
theorem DC.think {dk : Dk} (c : DC NoE dk) : DC NoE dk.think := by
  have d := c.dl
  have t := think_thk d
  have ch := think_ch (dk0 := dk) (sortN dk.keys) dk (fun nm h => List.mem_mergeSort.mp h) d rfl rfl c.ch
  have wmem : ∀ h ∈ dk.think.who, ∃ y ∈ dk.who, h.1 = y.1 := fun h hh => by
    have : h.1 ∈ dk.think.who.map (·.1) := List.mem_map.mpr ⟨h, hh, rfl⟩
    rw [t.wk] at this
    obtain ⟨y, hy, e⟩ := List.mem_map.mp this
    exact ⟨y, hy, e.symm⟩
  refine ⟨by rw [t.mk', t.pk]; exact c.fm, by rw [t.pk]; exact c.pn, by rw [t.pk, t.fk]; exact c.pb, by rw [t.pk]; exact c.pc, t.dl.kn, by rw [t.mk']; exact fun nm h => c.km nm (by rw [← t.ks]; exact h), ch, fun p hp h e => .inl (t.dl.sw p hp h e), t.dl.sh, t.dl.wn, t.dl.ho, fun h hh => ?_, by rw [t.fk]; exact c.f2, ?_, t.dl.l1, t.dl.l2⟩
  · obtain ⟨y, hy, e⟩ := wmem h hh
    rw [t.fk, e]; exact c.wf y hy
  · have := congrArg List.length t.wk
    rw [List.length_map, List.length_map] at this
    rw [this]; exact c.w8
theorem DI.think {dk : Dk} (c : DI dk) : DI dk.think := ⟨c.toDC.think, fun p hp => by
  have t := think_thk c.toDC.dl
  rw [t.pk] at hp
  rw [t.ks]; exact c.pk p hp⟩
end DM

namespace DM
open PySem PySem.Spec PyProof.Rows L2
theorem one_pre {i j : Int} {a : Nm} (h1 : [i] <+: a) (h2 : [j] <+: a) : i = j := pre_snoc_ne (nm := []) h1 h2
theorem DC.noF {E : Int → Prop} {dk : Dk} (c : DC E dk) {nm : Nm} (h : nm ∈ dk.marks.map (·.1)) : ¬ [dk.fresh.1] <+: nm := fun z => by
  obtain ⟨q, hq, rfl⟩ := List.mem_map.mp h
  obtain ⟨p, hp, h1, _⟩ := c.mk_of hq
  have := one_pre z h1
  have := (c.pb p hp).2.1
  omega
theorem within_self (nm : Nm) (t : Th) : nm ∈ (within nm t).map (·.1) := by rw [within_eq]; exact List.mem_cons_self
theorem DC.newP {E : Int → Prop} {dk : Dk} (c : DC E dk) (t : Th) : putT dk.plugged dk.fresh.1 t = dk.plugged ++ [(dk.fresh.1, t)] ∧ putAllT dk.marks (within [dk.fresh.1] t) = dk.marks ++ within [dk.fresh.1] t := by
  refine ⟨putT_new _ (getT_none fun h => ?_), putAll_new _ _ (fun k hk hm => ?_) (within_nd _ t)⟩
  · obtain ⟨p, hp, e⟩ := List.mem_map.mp h
    have := (c.pb p hp).2.1
    omega
  · obtain ⟨p, hp, rfl⟩ := List.mem_map.mp hk
    exact c.noF hm (within_pre _ _ _ hp)
theorem DI.plug {dk : Dk} (c : DI dk) {t : Th} (ht : OkT 2 t) (h6 : dk.plugged.length < 6) : DI (dk.plugPre t) := by
  obtain ⟨e1, e2⟩ := c.newP t
  have c1 : DC NoE { dk with plugged := putT dk.plugged dk.fresh.1 t, marks := putAllT dk.marks (within [dk.fresh.1] t), fresh := (dk.fresh.1 + 1, dk.fresh.2), log := dk.log ++ [.plug dk.fresh.1 t] } := by
    have f2 := c.f2
    refine ⟨?_, ?_, ?_, ?_, c.kn, fun nm h => ?_, c.ch, c.sw, c.sh, c.wn, c.ho, c.wf, ⟨by show 0 ≤ dk.fresh.1 + 1; omega, f2.2⟩, c.w8, c.l1, c.l2⟩
    · show putAllT dk.marks (within [dk.fresh.1] t) = (putT dk.plugged dk.fresh.1 t).flatMap _
      rw [e1, e2, List.flatMap_append, ← c.fm]; simp
    · show ((putT dk.plugged dk.fresh.1 t).map (·.1)).Nodup
      rw [e1, List.map_append, List.nodup_append]
      refine ⟨c.pn, by simp, fun a ha b hb z => ?_⟩
      obtain ⟨p, hp, rfl⟩ := List.mem_map.mp ha
      have := (c.pb p hp).2.1
      have hb : b = dk.fresh.1 := by simpa using hb
      omega
    · intro p hp
      have hp : p ∈ putT dk.plugged dk.fresh.1 t := hp
      rw [e1] at hp
      show 0 ≤ p.1 ∧ p.1 < dk.fresh.1 + 1 ∧ OkT 2 p.2
      rcases List.mem_append.mp hp with hp | hp
      · have := c.pb p hp
        exact ⟨this.1, by omega, this.2.2⟩
      · have : p = (dk.fresh.1, t) := by simpa using hp
        subst this
        exact ⟨f2.1, by show dk.fresh.1 < dk.fresh.1 + 1; omega, ht⟩
    · show (putT dk.plugged dk.fresh.1 t).length ≤ 6
      rw [e1, List.length_append]; show dk.plugged.length + 1 ≤ 6; omega
    · show nm ∈ (putAllT dk.marks (within [dk.fresh.1] t)).map (·.1)
      rw [e2, List.map_append]; exact List.mem_append_left _ (c.km nm h)
  have c2 := c1.put (nm := [dk.fresh.1]) (s := (.free, none)) (by
    show _ ∈ (putAllT dk.marks (within [dk.fresh.1] t)).map (·.1)
    rw [e2, List.map_append]; exact List.mem_append_right _ (within_self _ t)) (fun z => absurd rfl z) (fun h z => by cases z) (fun z => absurd rfl z)
    (fun h hh lt hl z => c.noF (c.km _ (c.lk h hh lt hl)) (by rw [z]; exact List.prefix_refl _))
    (.inr fun x hx _ z => c.noF (c.km x hx) (by rw [← z]; exact List.dropLast_prefix x))
  refine ⟨c2, fun p hp => ?_⟩
  have hp : p ∈ putT dk.plugged dk.fresh.1 t := hp
  rw [e1] at hp
  rcases List.mem_append.mp hp with hp | hp
  · exact putS_in (.inl (c.pk p hp))
  · have : p = (dk.fresh.1, t) := by simpa using hp
    subst this
    exact putS_in (.inr rfl)
theorem DC.newW {E : Int → Prop} {dk : Dk} (c : DC E dk) (x : HpS) : putT dk.who dk.fresh.2 x = dk.who ++ [(dk.fresh.2, x)] := putT_new _ (getT_none fun h => by
    obtain ⟨p, hp, e⟩ := List.mem_map.mp h
    have := (c.wf p hp).2
    omega)
theorem DI.come {dk : Dk} (c : DI dk) {cs : List (List Int × Int)} {r : Int} (hc : OkCs cs) (h0 : 0 ≤ r) (h4 : r ≤ 4) (h8 : dk.who.length < 8) (hf : dk.fresh.2 < 1000) : DI (dk.comePre cs r) := by
  have e1 := c.newW ⟨cs, r, []⟩
  have f2 := c.f2
  have ew : (dk.comePre cs r).who = dk.who ++ [(dk.fresh.2, ⟨cs, r, []⟩)] := e1
  have wm : ∀ h ∈ (dk.comePre cs r).who, h ∈ dk.who ∨ h = (dk.fresh.2, ⟨cs, r, []⟩) := fun h hh => by
    rw [ew] at hh
    rcases List.mem_append.mp hh with z | z
    · exact .inl z
    · exact .inr (by simpa using z)
  refine ⟨⟨c.fm, c.pn, c.pb, c.pc, c.kn, c.km, c.ch, fun p hp h e => ?_, c.sh, ?_, fun h hh => ?_, fun h hh => ?_, ⟨f2.1, by show 0 ≤ dk.fresh.2 + 1; omega, by show dk.fresh.2 + 1 ≤ 1000; omega⟩, ?_, fun h hh => ?_, fun h hh => ?_⟩, c.pk⟩
  · rcases c.sw p hp h e with z | z
    · refine .inl ?_
      rw [ew, List.map_append]; exact List.mem_append_left _ z
    · exact z.elim
  · rw [ew, List.map_append, List.nodup_append]
    refine ⟨c.wn, by simp, fun a ha b hb z => ?_⟩
    obtain ⟨p, hp, rfl⟩ := List.mem_map.mp ha
    have := (c.wf p hp).2
    have hb : b = dk.fresh.2 := by simpa using hb
    omega
  · rcases wm h hh with z | rfl
    · exact c.ho h z
    · exact ⟨hc, h0, h4⟩
  · show 0 ≤ h.1 ∧ h.1 < dk.fresh.2 + 1
    rcases wm h hh with z | rfl
    · have := c.wf h z; omega
    · show 0 ≤ dk.fresh.2 ∧ dk.fresh.2 < dk.fresh.2 + 1
      omega
  · rw [ew, List.length_append]; show dk.who.length + 1 ≤ 8; omega
  · rcases wm h hh with z | rfl
    · exact c.l1 h z
    · intro lt hl; cases hl
  · rcases wm h hh with z | rfl
    · exact c.l2 h z
    · exact List.nodup_nil
/-! #### unplugged -/
theorem fold_drop {κ β : Type} [DecidableEq κ] : ∀ (ns : List κ) (m : List (κ × β)), ns.foldl (fun m n => dropT m n) m = m.filter fun q => ns.all fun n => decide (q.1 ≠ n)
  | [], m => (List.filter_eq_self.mpr fun _ _ => rfl).symm
  | n :: ns, m => by
    rw [List.foldl_cons, fold_drop ns]
    unfold dropT
    rw [List.filter_filter]
    refine List.filter_congr fun q _ => ?_
    rw [List.all_cons, Bool.and_comm]
theorem dropT_flat {n : Int} {t : Th} : ∀ {l : List (Int × Th)}, (∀ p ∈ l, p.1 = n → p.2 = t) → (l.flatMap fun p => within [p.1] p.2).filter (fun q => ((within [n] t).map (·.1)).all fun n => decide (q.1 ≠ n)) = (dropT l n).flatMap fun p => within [p.1] p.2
  | [], _ => rfl
  | p :: l, h => by
    have ih := dropT_flat (l := l) fun p hp => h p (List.mem_cons_of_mem _ hp)
    rw [List.flatMap_cons, List.filter_append, ih]
    unfold dropT
    rw [List.filter_cons]
    by_cases e : p.1 = n
    · rw [if_neg (by simp [e])]
      have : (within [p.1] p.2).filter (fun q => ((within [n] t).map (·.1)).all fun n => decide (q.1 ≠ n)) = [] := by
        rw [List.filter_eq_nil_iff, e, h p List.mem_cons_self e]
        intro q hq z
        exact of_decide_eq_true (List.all_eq_true.mp z q.1 (List.mem_map.mpr ⟨q, hq, rfl⟩)) rfl
      rw [this]; rfl
    · rw [if_pos (by simp [e]), List.flatMap_cons]
      have : (within [p.1] p.2).filter (fun q => ((within [n] t).map (·.1)).all fun n => decide (q.1 ≠ n)) = within [p.1] p.2 := by
        rw [List.filter_eq_self]
        intro q hq
        refine List.all_eq_true.mpr fun y z => decide_eq_true fun ey => ?_
        rw [← ey] at z
        obtain ⟨q2, h2, e2⟩ := List.mem_map.mp z
        have h1 := within_pre _ _ _ hq
        have h3 := within_pre _ _ _ h2
        rw [e2] at h3
        exact e (one_pre h1 h3)
      rw [this]
theorem DI.unplug {dk : Dk} (c : DI dk) {n : Int} (hn : n ∈ dk.plugged.map (·.1)) : (dk.addL (.unplug n)).gone 3 [n] = (dk.addL (.unplug n)).cut (pre [n]) ∧ DC NoE ((dk.addL (.unplug n)).cut (pre [n])) ∧ DI (dk.unplugPre n) := by
  have cl := c.toDC.log (dk.log ++ [.unplug n])
  have e0 : (dk.addL (.unplug n)).gone 3 [n] = (dk.addL (.unplug n)).cut (pre [n]) := gone_cut 2 _ _ (DC.toCl (dk := dk.addL (.unplug n)) cl) (by show 3 ≤ 1 + 2; decide)
  have c1 : DC NoE ((dk.addL (.unplug n)).cut (pre [n])) := DC.cut (dk := dk.addL (.unplug n)) cl (up_pre [n])
  refine ⟨e0, c1, ?_⟩
  have eq : dk.unplugPre n = { ((dk.addL (.unplug n)).cut (pre [n])) with plugged := dropT dk.plugged n, marks := ((within [n] (dk.thingOf n)).map (·.1)).foldl (fun m n => dropT m n) dk.marks } := by
    unfold Dk.unplugPre
    rw [e0]; rfl
  have em : ((within [n] (dk.thingOf n)).map (·.1)).foldl (fun m n => dropT m n) dk.marks = (dropT dk.plugged n).flatMap fun p => within [p.1] p.2 := by
    rw [fold_drop, c.fm]
    refine dropT_flat fun p hp e => ?_
    unfold Dk.thingOf
    rw [← e, getT_nd c.pn hp]; rfl
  have sub : ∀ p ∈ dropT dk.plugged n, p ∈ dk.plugged ∧ p.1 ≠ n := fun p hp => by
    obtain ⟨h1, h2⟩ := List.mem_filter.mp hp
    exact ⟨h1, by simpa using h2⟩
  rw [eq]
  refine ⟨⟨em, c.pn.sublist (List.filter_sublist.map _), fun p hp => c.pb p (sub p hp).1, Nat.le_trans (List.filter_sublist (l := dk.plugged)).length_le c.pc, c1.kn, fun nm h => ?_, c1.ch, c1.sw, c1.sh, c1.wn, c1.ho, c1.wf, c1.f2, c1.w8, c1.l1, c1.l2⟩, fun p hp => ?_⟩
  · obtain ⟨h1, h2⟩ := mem_cut.mp h
    show nm ∈ (((within [n] (dk.thingOf n)).map (·.1)).foldl (fun m n => dropT m n) dk.marks).map (·.1)
    obtain ⟨q, hq, rfl⟩ := List.mem_map.mp (c.km nm h1)
    rw [fold_drop]
    refine List.mem_map.mpr ⟨q, List.mem_filter.mpr ⟨hq, List.all_eq_true.mpr fun y z => decide_eq_true fun ey => ?_⟩, rfl⟩
    rw [← ey] at z
    obtain ⟨q2, hq2, e⟩ := List.mem_map.mp z
    have := within_pre _ _ _ hq2
    rw [e] at this
    exact of_decide_eq_false h2 this
  · obtain ⟨h1, h2⟩ := sub p hp
    refine mem_cut.mpr ⟨c.pk p h1, decide_eq_false fun z => h2 ?_⟩
    exact (one_pre z (List.prefix_refl _)).symm
/-! #### a helper falls -/
theorem filter_put {κ β : Type} [DecidableEq κ] {q : κ → Bool} {k : κ} {v : β} (h : q k = true) : ∀ kvs : List (κ × β), (putT kvs k v).filter (fun x => q x.1) = putT (kvs.filter fun x => q x.1) k v := by
  intro kvs
  have ha : ∀ kvs : List (κ × β), ((kvs.filter fun x => q x.1).any fun kv => decide (kv.1 = k)) = kvs.any fun kv => decide (kv.1 = k) := by
    intro kvs
    induction kvs with
    | nil => rfl
    | cons p kvs ih =>
      rw [List.filter_cons]
      split
      · rw [List.any_cons, List.any_cons, ih]
      · rename_i hq
        rw [ih, List.any_cons]
        have : p.1 ≠ k := fun z => hq (by rw [z]; exact h)
        simp [this]
  have hm : ∀ kvs : List (κ × β), (kvs.map fun kv => if kv.1 = k then (kv.1, v) else kv).filter (fun x => q x.1) = (kvs.filter fun x => q x.1).map fun kv => if kv.1 = k then (kv.1, v) else kv := by
    intro kvs
    rw [List.filter_map]
    congr 1
    refine List.filter_congr fun p _ => ?_
    show q (if p.1 = k then (p.1, v) else p).1 = q p.1
    split <;> rfl
  unfold putT
  rw [ha]
  split
  · exact hm kvs
  · rw [List.filter_append]
    have : ([(k, v)] : List (κ × β)).filter (fun x => q x.1) = [(k, v)] := by rw [List.filter_cons, if_pos h]; rfl
    rw [this]
theorem cut_putS {dk : Dk} {p : Nm → Bool} {nm : Nm} {s : Sta × Option Int} (h : p nm = false) : (dk.putS nm s).cut p = (dk.cut p).putS nm s := by
  have := filter_put (q := fun x => !p x) (k := nm) (v := s) (by rw [h]; rfl) dk.states
  unfold Dk.cut Dk.putS
  congr 1
theorem Cl.putS {dk : Dk} (c : Cl dk) {nm : Nm} {s : Sta × Option Int} (h : nm ∈ dk.keys) : Cl (dk.putS nm s) := ⟨by rw [putS_keys h]; exact c.cl, by rw [putS_keys h]; exact c.ks, by rw [putS_keys h]; exact c.lk⟩
theorem DC.nochild {E : Int → Prop} {dk : Dk} (c : DC E dk) (nm : Nm) : ∀ x ∈ (dk.cut (und nm)).keys, x.length ≠ 1 → x.dropLast ≠ nm := fun x hx hn z => by
  obtain ⟨h1, h2⟩ := mem_cut.mp hx
  have := c.ks x h1
  unfold und at h2
  rw [Bool.and_eq_false_iff] at h2
  rcases h2 with h2 | h2
  · exact of_decide_eq_false h2 (pre_of_last z)
  · refine of_decide_eq_false h2 fun y => ?_
    have := congrArg List.length (y.trans z.symm)
    rw [List.length_dropLast] at this
    omega
theorem und_self (nm : Nm) : und nm nm = false := by unfold und; simp
theorem und_top {nm x : Nm} (h : 1 ≤ nm.length) (hx : x.length = 1) : und nm x = false := by
  unfold und
  rw [Bool.and_eq_false_iff]
  by_cases e : x = nm
  · exact .inr (by simp [e])
  · refine .inl (decide_eq_false fun z => e ?_)
    exact (z.eq_of_length (by have := z.length_le; omega)).symm
/-- freed, and what is in it gone -/
theorem DC.freed {E : Int → Prop} {dk : Dk} (c : DC E dk) {nm : Nm} (hk : nm ∈ dk.keys) (hl : ∀ h ∈ dk.who, ∀ lt ∈ h.2.left, lt.2 ≠ nm) : DC E ((dk.cut (und nm)).putS nm (.free, none)) := by
  have c1 := c.cut (up_und nm)
  have hk1 : nm ∈ (dk.cut (und nm)).keys := mem_cut.mpr ⟨hk, und_self nm⟩
  refine c1.put (c1.km nm hk1) (c1.ch nm hk1) (fun h z => by cases z) (fun z => absurd rfl z) (fun h hh lt hlt => ?_) (.inr (c.nochild nm))
  obtain ⟨y, hy, rfl⟩ := List.mem_map.mp (show h ∈ dk.who.map _ from hh)
  exact hl y hy lt (List.mem_filter.mp (show lt ∈ y.2.left.filter _ from hlt)).1
theorem fallStep_eq {E : Int → Prop} {dk : Dk} (c : DC E dk) {h : Int} {nm : Nm} : Dk.fallStep h dk nm = if nm ∈ dk.keys ∧ (dk.stOf nm).2 = some h then (dk.cut (und nm)).putS nm (.free, none) else dk := by
  unfold Dk.fallStep
  split
  · rename_i z
    rw [innerGone_cut (c.toCl.putS z.1) (by have := c.ks nm z.1; omega), cut_putS (und_self nm)]
  · rfl
structure FallJ (h : Int) (d1 : Dk) (l : List Nm) (d : Dk) : Prop where
  dc : DC (fun g => g = h) d
  nw : h ∉ d.who.map (·.1)
  sub : ∀ x ∈ d.keys, x ∈ d1.keys
  top : ∀ x : Nm, x.length = 1 → x ∈ d1.keys → x ∈ d.keys
  no : ∀ x ∈ l, x ∈ d.keys → (d.stOf x).2 ≠ some h
  pl : d.plugged = d1.plugged
  lg : d.log = d1.log
theorem FallJ.step {h : Int} {d1 d : Dk} {l : List Nm} (j : FallJ h d1 l d) {nm : Nm} : FallJ h d1 (l ++ [nm]) (Dk.fallStep h d nm) := by
  rw [fallStep_eq j.dc]
  split
  · rename_i z
    have c := j.dc
    have hl : ∀ w ∈ d.who, ∀ lt ∈ w.2.left, lt.2 ≠ nm := fun w hw lt hlt y => by
      have h1 := c.l1 w hw lt hlt
      rw [y] at h1
      have h2 := stOf_some h1
      rw [h2] at z
      have : w.1 = h := by simpa using z.2
      exact j.nw (List.mem_map.mpr ⟨w, hw, this⟩)
    have hg : ∀ k, getT ((d.cut (und nm)).putS nm (.free, none)).states k = if k = nm then some (.free, none) else getT (d.cut (und nm)).states k := fun k => getT_put _ _ _ _
    have hsub : ∀ x ∈ ((d.cut (und nm)).putS nm (.free, none)).keys, x ∈ d.keys ∧ (x ≠ nm → und nm x = false) := fun x hx => by
      rcases keys_putS hx with y | rfl
      · exact ⟨(mem_cut.mp y).1, fun _ => (mem_cut.mp y).2⟩
      · exact ⟨z.1, fun y => absurd rfl y⟩
    refine ⟨c.freed z.1 hl, ?_, fun x hx => j.sub x (hsub x hx).1, fun x h1 hx => ?_, fun x hx hxk => ?_, j.pl, j.lg⟩
    · have : ((d.cut (und nm)).putS nm (.free, none)).who.map (·.1) = d.who.map (·.1) := by
        show (d.who.map _).map _ = _
        rw [List.map_map]; rfl
      rw [this]; exact j.nw
    · exact putS_in (.inl (mem_cut.mpr ⟨j.top x h1 hx, und_top (c.ks nm z.1).1 h1⟩))
    · obtain ⟨k1, k2⟩ := hsub x hxk
      unfold Dk.stOf
      rw [hg]
      by_cases e : x = nm
      · rw [if_pos e]; intro y; cases y
      · rw [if_neg e]
        have : getT (d.cut (und nm)).states x = getT d.states x := getT_filter (q := fun x => !und nm x) (by rw [k2 e]; rfl) d.states
        rw [this]
        rcases List.mem_append.mp hx with hx | hx
        · exact j.no x hx k1
        · exact absurd (by simpa using hx) e
  · rename_i z
    refine ⟨j.dc, j.nw, j.sub, j.top, fun x hx hk => ?_, j.pl, j.lg⟩
    rcases List.mem_append.mp hx with hx | hx
    · exact j.no x hx hk
    · have : x = nm := by simpa using hx
      subst this
      exact fun y => z ⟨hk, y⟩
theorem FallJ.fold {h : Int} {d1 : Dk} : ∀ (l2 l1 : List Nm) (d : Dk), FallJ h d1 l1 d → FallJ h d1 (l1 ++ l2) (l2.foldl (Dk.fallStep h) d)
  | [], l1, d, j => by rw [List.append_nil]; exact j
  | x :: l2, l1, d, j => by
    have := FallJ.fold l2 (l1 ++ [x]) _ (j.step (nm := x))
    rw [List.append_assoc] at this
    exact this
def Dk.fall0 (dk : Dk) (h : Int) : Dk := { dk.addL (.fall h) with who := dropT dk.who h }
theorem fallPre_eq (dk : Dk) (h : Int) : dk.fallPre h = (sortN (dk.fall0 h).keys).foldl (Dk.fallStep h) (dk.fall0 h) := rfl
theorem DI.fall0 {dk : Dk} (c : DI dk) (h : Int) : FallJ h (dk.fall0 h) [] (dk.fall0 h) := by
  have sub : ∀ p ∈ dropT dk.who h, p ∈ dk.who ∧ p.1 ≠ h := fun p hp => by
    obtain ⟨h1, h2⟩ := List.mem_filter.mp hp
    exact ⟨h1, by simpa using h2⟩
  have sl : (dropT dk.who h).Sublist dk.who := List.filter_sublist
  refine ⟨⟨c.fm, c.pn, c.pb, c.pc, c.kn, c.km, c.ch, fun p hp g e => ?_, c.sh, c.wn.sublist (sl.map _), fun w hw => c.ho w (sl.subset hw), fun w hw => c.wf w (sl.subset hw), c.f2, Nat.le_trans sl.length_le c.w8, fun w hw => c.l1 w (sl.subset hw), fun w hw => c.l2 w (sl.subset hw)⟩, fun z => ?_, fun _ h => h, fun _ _ h => h, fun _ h => (by cases h), rfl, rfl⟩
  · rcases c.sw p hp g e with z | z
    · by_cases y : g = h
      · exact .inr y
      · obtain ⟨w, hw, rfl⟩ := List.mem_map.mp z
        exact .inl (List.mem_map.mpr ⟨w, List.mem_filter.mpr ⟨hw, by simpa using y⟩, rfl⟩)
    · exact z.elim
  · obtain ⟨w, hw, e⟩ := List.mem_map.mp (show h ∈ (dropT dk.who h).map (·.1) from z)
    exact (sub w hw).2 e
theorem DI.fall {dk : Dk} (c : DI dk) (h : Int) : DI (dk.fallPre h) ∧ (dk.fallPre h).log = dk.log ++ [.fall h] := by
  have j := FallJ.fold (sortN (dk.fall0 h).keys) [] _ (c.fall0 h)
  rw [List.nil_append, ← fallPre_eq] at j
  have d := j.dc
  refine ⟨⟨⟨d.fm, d.pn, d.pb, d.pc, d.kn, d.km, d.ch, fun p hp g e => ?_, d.sh, d.wn, d.ho, d.wf, d.f2, d.w8, d.l1, d.l2⟩, fun p hp => ?_⟩, j.lg⟩
  · rcases d.sw p hp g e with z | z
    · exact .inl z
    · exfalso
      have hk : p.1 ∈ (dk.fallPre h).keys := List.mem_map.mpr ⟨p, hp, rfl⟩
      have := j.no p.1 (List.mem_mergeSort.mpr (j.sub _ hk)) hk
      rw [stOf_some (getT_nd d.kn hp), e, z] at this
      exact this rfl
  · rw [j.pl] at hp
    exact j.top _ rfl (c.pk p hp)
end DM

namespace DM
open PySem PySem.Spec PyProof.Rows L2
/-! #### a letter is done -/
def Dk.done1 (dk : Dk) (h : Int) (lt : Lt) : Dk := (dk.whoMod h fun p => { p with left := p.left.drop 1 }).addL (.done h lt)
theorem did_eq (dk : Dk) (h : Int) (lt : Lt) : dk.did h lt = if lt.1 then ((dk.done1 h lt).marks.map (·.1)).foldl (Dk.freeIn lt.2) ((dk.done1 h lt).putS lt.2 (.held, some h)) else ((dk.done1 h lt).innerGone 2 lt.2).putS lt.2 (.free, none) := rfl
structure Done (dk : Dk) (h : Int) (lt : Lt) (d1 : Dk) : Prop where
  dc : DC NoE d1
  st : getT d1.states lt.2 = some (Sta.of lt.1, some h)
  nl : ∀ w ∈ d1.who, ∀ l ∈ w.2.left, l.2 ≠ lt.2
  hw : h ∈ d1.who.map (·.1)
theorem DI.done1 {dk : Dk} (c : DI dk) {x : Int × HpS} (hx : x ∈ dk.who) {lt : Lt} {rest : List Lt} (hl : x.2.left = lt :: rest) : Done dk x.1 lt (dk.done1 x.1 lt) := by
  have ew : (dk.done1 x.1 lt).who = dk.who.map fun p => if p.1 = x.1 then (p.1, { p.2 with left := p.2.left.drop 1 }) else p := rfl
  have c1 : DC NoE (dk.done1 x.1 lt) := by
    have := (c.toDC.less (g := fun p => if p.1 = x.1 then (p.1, { p.2 with left := p.2.left.drop 1 }) else p) fun p hp => by
      show (if p.1 = x.1 then _ else p).1 = p.1 ∧ (if p.1 = x.1 then _ else p).2.claims = _ ∧ (if p.1 = x.1 then _ else p).2.room = _ ∧ (if p.1 = x.1 then _ else p).2.left.Sublist _
      split
      · exact ⟨rfl, rfl, rfl, List.drop_sublist _ _⟩
      · exact ⟨rfl, rfl, rfl, List.Sublist.refl _⟩).log (dk.log ++ [.done x.1 lt])
    exact this
  have hst := c.l1 x hx lt (by rw [hl]; exact List.mem_cons_self)
  refine ⟨c1, hst, fun w hw l hlw z => ?_, ?_⟩
  · rw [ew] at hw
    obtain ⟨y, hy, rfl⟩ := List.mem_map.mp hw
    by_cases e : y.1 = x.1
    · rw [if_pos e] at hlw
      have hlw : l ∈ y.2.left.drop 1 := hlw
      have : y = x := by
        have h1 := getT_nd c.wn (show (y.1, y.2) ∈ dk.who from hy)
        have h2 := getT_nd c.wn (show (x.1, x.2) ∈ dk.who from hx)
        rw [e, h2] at h1
        exact Prod.ext e (Option.some.inj h1).symm
      subst this
      have nd := c.l2 y hy
      rw [hl] at hlw nd
      rw [List.map_cons, List.nodup_cons] at nd
      exact nd.1 (List.mem_map.mpr ⟨l, hlw, z⟩)
    · rw [if_neg e] at hlw
      have := c.l1 y hy l hlw
      rw [z, hst] at this
      have := Option.some.inj this
      have := (Prod.ext_iff.mp this).2
      exact e (Option.some.inj this).symm
  · rw [ew, List.map_map]
    refine List.mem_map.mpr ⟨x, hx, ?_⟩
    show (if x.1 = x.1 then _ else x).1 = x.1
    rw [if_pos rfl]
structure FreeJ (d0 : Dk) (nm : Nm) (h : Int) (d : Dk) : Prop where
  dc : DC NoE d
  mq : d.marks = d0.marks
  wh : d.who = d0.who
  pl : d.plugged = d0.plugged
  fr : d.fresh = d0.fresh
  lg : d.log = d0.log
  st : getT d.states nm = some (.held, some h)
  fn : ∀ x ∈ d.keys, x.dropLast = nm → x.length ≠ 1 → getT d.states x = some (.free, none)
  sup : ∀ x ∈ d0.keys, x ∈ d.keys
theorem FreeJ.step {d0 d : Dk} {nm one : Nm} {h : Int} (j : FreeJ d0 nm h d) (hn : 1 ≤ nm.length) (hone : one ∈ d.marks.map (·.1)) (hl : ∀ w ∈ d0.who, ∀ l ∈ w.2.left, l.2.length ≠ 1 → l.2.dropLast ≠ nm) : FreeJ d0 nm h (Dk.freeIn nm d one) := by
  unfold Dk.freeIn
  split
  · rename_i e
    have hg : ∀ k, getT (d.putS one (.free, none)).states k = if k = one then some (.free, none) else getT d.states k := fun k => getT_put _ _ _ _
    have l1 : one.length ≠ 1 := fun z => by
      have : one.dropLast.length = one.length - 1 := List.length_dropLast
      rw [e] at this; omega
    have c := j.dc
    have ne : nm ≠ one := fun z => by
      have : one.dropLast.length = one.length - 1 := List.length_dropLast
      rw [e, ← z] at this; omega
    refine ⟨c.put hone (fun _ => ⟨_, by rw [e]; exact j.st, .inl rfl⟩) (fun h z => by cases z) (fun z => absurd rfl z) (fun w hw l hlw z => ?_) (.inr fun x hx hx1 z => ?_), j.mq, j.wh, j.pl, j.fr, j.lg, ?_, fun x hx e2 hx1 => ?_, fun x hx => putS_in (.inl (j.sup x hx))⟩
    · rw [j.wh] at hw
      exact hl w hw l hlw (by rw [z]; exact l1) (by rw [z]; exact e)
    · obtain ⟨s, e1, e2⟩ := c.ch x hx hx1
      rw [z] at e1
      have := j.fn one (getT_in e1) e l1
      rw [this] at e1
      cases e1
      rcases e2 with e2 | e2 <;> cases e2
    · rw [hg, if_neg ne]; exact j.st
    · rw [hg]
      by_cases e3 : x = one
      · rw [if_pos e3]
      · rw [if_neg e3]
        rcases keys_putS hx with y | y
        · exact j.fn x y e2 hx1
        · exact absurd y e3
  · exact j
theorem FreeJ.fold {d0 : Dk} {nm : Nm} {h : Int} (hn : 1 ≤ nm.length) (hl : ∀ w ∈ d0.who, ∀ l ∈ w.2.left, l.2.length ≠ 1 → l.2.dropLast ≠ nm) : ∀ (l : List Nm) (d : Dk), (∀ one ∈ l, one ∈ d0.marks.map (·.1)) → FreeJ d0 nm h d → FreeJ d0 nm h (l.foldl (Dk.freeIn nm) d)
  | [], d, _, j => j
  | x :: l, d, hm, j => FreeJ.fold hn hl l _ (fun y hy => hm y (List.mem_cons_of_mem _ hy)) (j.step hn (by rw [j.mq]; exact hm x List.mem_cons_self) hl)
theorem Done.take {dk d1 : Dk} {h : Int} {nm : Nm} (c : Done dk h (true, nm) d1) : FreeJ d1 nm h (d1.putS nm (.held, some h)) ∧ 1 ≤ nm.length ∧ (∀ w ∈ d1.who, ∀ l ∈ w.2.left, l.2.length ≠ 1 → l.2.dropLast ≠ nm) := by
  have d := c.dc
  have hk : nm ∈ d1.keys := getT_in c.st
  have hn := (d.ks nm hk).1
  have nch : ∀ x ∈ d1.keys, x.length ≠ 1 → x.dropLast ≠ nm := fun x hx h1 z => by
    obtain ⟨s, e1, e2⟩ := d.ch x hx h1
    rw [z, c.st] at e1
    cases e1
    rcases e2 with e2 | e2 <;> cases e2
  refine ⟨⟨d.put (d.km nm hk) (d.ch nm hk) (fun g e => by cases e; exact .inl c.hw) (fun _ z => by cases z) c.nl (.inl (.inl rfl)), rfl, rfl, rfl, rfl, rfl, ?_, fun x hx e h1 => ?_, fun x hx => putS_in (.inl hx)⟩, hn, fun w hw l hl h1 => nch _ (d.lk w hw l hl) h1⟩
  · show getT (putT _ _ _) _ = _
    rw [getT_put, if_pos rfl]
  · rw [putS_keys hk] at hx
    exact absurd e (nch x hx h1)
theorem DI.did {dk : Dk} (c : DI dk) {x : Int × HpS} (hx : x ∈ dk.who) {lt : Lt} {rest : List Lt} (hl : x.2.left = lt :: rest) : DI (dk.did x.1 lt) ∧ (dk.did x.1 lt).log.length = dk.log.length + 1 ∧ (dk.did x.1 lt).fresh = dk.fresh ∧ (dk.did x.1 lt).plugged = dk.plugged ∧ (dk.did x.1 lt).who.map (·.1) = dk.who.map (·.1) := by
  have dn := c.done1 hx hl
  have ll : (dk.done1 x.1 lt).log.length = dk.log.length + 1 := by show (dk.log ++ [_]).length = _; simp
  have ew : (dk.done1 x.1 lt).who.map (·.1) = dk.who.map (·.1) := by
    show (dk.who.map _).map _ = _
    rw [List.map_map]
    exact List.map_congr_left fun p _ => by show (if p.1 = x.1 then _ else p).1 = p.1; split <;> rfl
  have hk : lt.2 ∈ (dk.done1 x.1 lt).keys := getT_in dn.st
  rw [did_eq]
  obtain ⟨b, nm⟩ := lt
  have ep : (dk.done1 x.1 (b, nm)).plugged = dk.plugged := rfl
  cases b with
  | true =>
    obtain ⟨j0, hn, hw⟩ := dn.take
    have j := FreeJ.fold hn hw ((dk.done1 x.1 (true, nm)).marks.map (·.1)) _ (fun _ h => h) j0
    rw [if_pos rfl]
    refine ⟨⟨j.dc, fun p hp => ?_⟩, by rw [j.lg]; exact ll, j.fr, j.pl, by rw [j.wh]; exact ew⟩
    rw [j.pl] at hp
    exact j.sup _ (c.pk p hp)
  | false =>
    rw [if_neg (fun z => by cases z), innerGone_cut dn.dc.toCl (by have := dn.dc.ks nm hk; show 3 ≤ nm.length + 2; omega)]
    refine ⟨⟨dn.dc.freed hk dn.nl, fun p hp => ?_⟩, ll, rfl, rfl, ?_⟩
    · exact putS_in (.inl (mem_cut.mpr ⟨c.pk p hp, und_top (dn.dc.ks nm hk).1 rfl⟩))
    · rw [← ew]
      show ((dk.done1 x.1 (false, nm)).who.map _).map _ = _
      rw [List.map_map]; rfl
end DM

namespace DM
open PySem PySem.Spec PyProof.Rows L2
section
variable {CD CH : Addr} {S : Store} {a : At} {dk : Dk}
/-- a helper comes -/
theorem DeskAt.newH (H : DeskAt CD CH S a dk) {n : Int} (hn : n ∉ dk.who.map (·.1)) (x : HpS) (hx : x.left = []) :
    DeskAt CD CH ((S ++ [Ob.ins CH (helpFs x (S.length, S.length + 1)), Ob.lst []]).set a.lw (.dK (putT ((dk.who.zip a.hp).map fun x => (kI x.1.1, D.loc x.2.1)) (kI n) (.loc S.length)))) { a with hp := a.hp ++ [(S.length, S.length + 1)] } { dk with who := dk.who ++ [(n, x)] } := by
  have hz := zip_fst (who := dk.who) (hp := a.hp) H.hlen
  have ep : putT ((dk.who.zip a.hp).map fun x => (kI x.1.1, D.loc x.2.1)) (kI n) (.loc S.length) = ((dk.who ++ [(n, x)]).zip (a.hp ++ [(S.length, S.length + 1)])).map fun x => (kI x.1.1, D.loc x.2.1) := by
    rw [putT_new _ (getT_none fun z => ?_), List.zip_append H.hlen.symm, List.map_append]
    · rfl
    · obtain ⟨p, hp, e⟩ := List.mem_map.mp z
      obtain ⟨q, hq, rfl⟩ := List.mem_map.mp hp
      refine hn ?_
      rw [← kI_inj _ _ e]
      exact List.mem_map.mpr ⟨q.1, (List.of_mem_zip hq).1, rfl⟩
  rw [ep]
  have H0 : DeskAt CD CH (S ++ [Ob.ins CH (helpFs x (S.length, S.length + 1)), Ob.lst []]) a dk := H.app
  obtain ⟨f, s, g⟩ := H0.fixn (l := a.lw) (by simp [At.fix]) (o := .dK (((dk.who ++ [(n, x)]).zip (a.hp ++ [(S.length, S.length + 1)])).map fun x => (kI x.1.1, D.loc x.2.1)))
  obtain ⟨a1, a2, a3, a4, a5, a6, b1, b2, b3, b4, b5, c1, c2, c3, c4, d1, d2, d3, e1, e2, f1⟩ := H.fne
  have lt := H.lt
  have lw := lt a.lw (At.fix_all (by simp [At.fix]))
  refine ⟨?_, ?_, ?_, s, ?_, ?_, ?_, by simp [H.hlen], fun i h p h1 h2 => ?_, ?_⟩
  · rw [f _ (by simp [At.fix]) a3]; exact H0.self
  · rw [f _ (by simp [At.fix]) b2]; exact H0.plugged
  · rw [f _ (by simp [At.fix]) c1]; exact H0.marks
  · rw [f _ (by simp [At.fix]) (Ne.symm d1)]; exact H0.states
  · rw [f _ (by simp [At.fix]) (Ne.symm d2)]; exact H0.fresh
  · rw [f _ (by simp [At.fix]) (Ne.symm d3)]; exact H0.log
  · have h1 : (dk.who ++ [(n, x)])[i]? = some h := h1
    have h2 : (a.hp ++ [(S.length, S.length + 1)])[i]? = some p := h2
    by_cases hi : i < dk.who.length
    · rw [List.getElem?_append_left hi] at h1
      rw [List.getElem?_append_left (by rw [H.hlen]; exact hi)] at h2
      rw [(g i p h2).1, (g i p h2).2]; exact H0.help i h p h1 h2
    · rw [List.getElem?_append_right (by omega)] at h1
      rw [List.getElem?_append_right (by rw [H.hlen]; omega)] at h2
      have h0 : i - dk.who.length = 0 := by
        have := (List.getElem?_eq_some_iff.mp h1).1
        simpa using this
      rw [h0] at h1
      rw [H.hlen, h0] at h2
      cases h1; cases h2
      rw [List.getElem?_set_ne (by show a.lw ≠ S.length; omega), List.getElem?_set_ne (by show a.lw ≠ S.length + 1; omega)]
      refine ⟨by simp, ?_⟩
      rw [List.getElem?_append_right (by show S.length ≤ S.length + 1; omega)]
      show [_, Ob.lst []][S.length + 1 - S.length]? = _
      rw [Nat.add_sub_cancel_left, hx]; rfl
  · have e : ({ a with hp := a.hp ++ [(S.length, S.length + 1)] } : At).all = a.all ++ [S.length, S.length + 1] := by
      simp [At.all, At.hps, At.fix]
    rw [e, List.nodup_append]
    refine ⟨H.nd, by simp, fun j hj k hk => ?_⟩
    have := lt j hj
    simp at hk
    omega
theorem At.newH_sub {a : At} {n : Nat} : ∀ j ∈ ({ a with hp := a.hp ++ [(n, n + 1)] } : At).all, j ∈ a.all ∨ n ≤ j := fun j hj => by
  have e : ({ a with hp := a.hp ++ [(n, n + 1)] } : At).all = a.all ++ [n, n + 1] := by
    simp [At.all, At.hps, At.fix]
  rw [e] at hj
  rcases List.mem_append.mp hj with h | h
  · exact .inl h
  · simp at h; omega
theorem zip_maps {α β : Type} : ∀ l : List (α × β), (l.map (·.1)).zip (l.map (·.2)) = l
  | [] => rfl
  | x :: l => congrArg (List.cons x) (zip_maps l)
theorem zip_fst2 {α β : Type} : ∀ {l : List α} {m : List β}, m.length = l.length → (l.zip m).map (·.1) = l
  | [], m, _ => rfl
  | x :: l, [], h => by simp at h
  | x :: l, y :: m, h => congrArg (List.cons x) (zip_fst2 (by simpa using h))
theorem zip_snd2 {α β : Type} : ∀ {l : List α} {m : List β}, m.length = l.length → (l.zip m).map (·.2) = m
  | [], [], _ => rfl
  | [], y :: m, h => by simp at h
  | x :: l, [], h => by simp at h
  | x :: l, y :: m, h => congrArg (List.cons y) (zip_snd2 (by simpa using h))
def At.dropH (a : At) (dk : Dk) (n : Int) : At := { a with hp := ((dk.who.zip a.hp).filter fun x => decide (x.1.1 ≠ n)).map (·.2) }
theorem drop_who {dk : Dk} {a : At} (h : a.hp.length = dk.who.length) (n : Int) : ((dk.who.zip a.hp).filter fun x => decide (x.1.1 ≠ n)).map (·.1) = dropT dk.who n := by
  have := List.filter_map (f := fun x : (Int × HpS) × Nat × Nat => x.1) (p := fun kv : Int × HpS => decide (kv.1 ≠ n)) (l := dk.who.zip a.hp)
  rw [zip_fst2 h] at this
  exact this.symm
theorem sub_flat {α β : Type} {f : α → List β} {l m : List α} (h : l.Sublist m) : (l.flatMap f).Sublist (m.flatMap f) := by
  induction h with
  | slnil => exact List.Sublist.refl _
  | cons x _ ih => rw [List.flatMap_cons]; exact ih.trans (List.sublist_append_right _ _)
  | cons_cons x _ ih => rw [List.flatMap_cons, List.flatMap_cons]; exact (List.Sublist.refl _).append ih
theorem At.dropH_sub (a : At) (dk : Dk) (n : Int) (h : a.hp.length = dk.who.length) : (a.dropH dk n).hp.Sublist a.hp := by
  have : ((dk.who.zip a.hp).filter fun x => decide (x.1.1 ≠ n)).Sublist (dk.who.zip a.hp) := List.filter_sublist
  have := this.map (·.2)
  rw [zip_snd2 h] at this
  exact this
/-- a helper goes -/
theorem DeskAt.dropH (H : DeskAt CD CH S a dk) (n : Int) : DeskAt CD CH (S.set a.lw (.dK (dropT ((dk.who.zip a.hp).map fun x => (kI x.1.1, D.loc x.2.1)) (kI n)))) (a.dropH dk n) { dk with who := dropT dk.who n } := by
  have ez : (dropT dk.who n).zip (a.dropH dk n).hp = (dk.who.zip a.hp).filter fun x => decide (x.1.1 ≠ n) := by
    rw [← drop_who H.hlen]; exact zip_maps _
  have ed : dropT ((dk.who.zip a.hp).map fun x => (kI x.1.1, D.loc x.2.1)) (kI n) = ((dropT dk.who n).zip (a.dropH dk n).hp).map fun x => (kI x.1.1, D.loc x.2.1) := by
    rw [ez]
    unfold dropT
    rw [List.filter_map]
    congr 1
    refine List.filter_congr fun x _ => ?_
    show decide (kI x.1.1 ≠ kI n) = decide (x.1.1 ≠ n)
    by_cases e : x.1.1 = n
    · simp [e]
    · have : kI x.1.1 ≠ kI n := fun z => e (kI_inj _ _ z)
      simp [e, this]
  rw [ed]
  obtain ⟨f, s, g⟩ := H.fixn (l := a.lw) (by simp [At.fix]) (o := .dK (((dropT dk.who n).zip (a.dropH dk n).hp).map fun x => (kI x.1.1, D.loc x.2.1)))
  obtain ⟨a1, a2, a3, a4, a5, a6, b1, b2, b3, b4, b5, c1, c2, c3, c4, d1, d2, d3, e1, e2, f1⟩ := H.fne
  refine ⟨?_, ?_, ?_, s, ?_, ?_, ?_, ?_, fun i h p h1 h2 => ?_, ?_⟩
  · show (S.set a.lw _)[a.l]? = _
    rw [f _ (by simp [At.fix]) a3]; exact H.self
  · show (S.set a.lw _)[a.lp]? = _
    rw [f _ (by simp [At.fix]) b2]; exact H.plugged
  · show (S.set a.lw _)[a.lm]? = _
    rw [f _ (by simp [At.fix]) c1]; exact H.marks
  · show (S.set a.lw _)[a.ls]? = _
    rw [f _ (by simp [At.fix]) (Ne.symm d1)]; exact H.states
  · show (S.set a.lw _)[a.lf]? = _
    rw [f _ (by simp [At.fix]) (Ne.symm d2)]; exact H.fresh
  · show (S.set a.lw _)[a.lg]? = _
    rw [f _ (by simp [At.fix]) (Ne.symm d3)]; exact H.log
  · show (((dk.who.zip a.hp).filter _).map (·.2)).length = (dropT dk.who n).length
    rw [← drop_who H.hlen, List.length_map, List.length_map]
  · have h1 : (dropT dk.who n)[i]? = some h := h1
    have hz : ((dropT dk.who n).zip (a.dropH dk n).hp)[i]? = some (h, p) := by rw [List.zip_eq_zipWith, List.getElem?_zipWith, h1, h2]
    rw [ez] at hz
    have hm := (List.mem_filter.mp (List.mem_of_getElem? hz)).1
    obtain ⟨j, hj, e⟩ := List.mem_iff_getElem.mp hm
    have hj' : (dk.who.zip a.hp)[j]? = some (h, p) := by rw [List.getElem?_eq_getElem hj, e]
    have q1 : dk.who[j]? = some h := by
      have := congrArg (fun l => l[j]?) (zip_fst2 (l := dk.who) H.hlen)
      rw [← this]; show ((dk.who.zip a.hp).map (·.1))[j]? = _
      rw [List.getElem?_map, hj']; rfl
    have q2 : a.hp[j]? = some p := by
      have := congrArg (fun l => l[j]?) (zip_snd2 (l := dk.who) H.hlen)
      rw [← this]; show ((dk.who.zip a.hp).map (·.2))[j]? = _
      rw [List.getElem?_map, hj']; rfl
    rw [(g j p q2).1, (g j p q2).2]; exact H.help j h p q1 q2
  · obtain ⟨n1, n2, n3⟩ := At.nds H.nd
    have sub : (a.dropH dk n).hps.Sublist a.hps := sub_flat (At.dropH_sub a dk n H.hlen)
    exact List.nodup_append.mpr ⟨n1, n2.sublist sub, fun x hx y hy => n3 x hx y (sub.subset hy)⟩
theorem Fra.dropH (H : DeskAt CD CH S a dk) (n : Int) {o : Ob} : Fra S (S.set a.lw o) a (a.dropH dk n) := ⟨by simp, fun j u hj e => by
  rw [List.getElem?_set_ne (fun z => hj (by rw [← z]; exact At.fix_all (by simp [At.fix])))]; exact e, fun j hj => by
  rcases List.mem_append.mp hj with h | h
  · exact .inl (List.mem_append_left _ h)
  · exact .inl (List.mem_append_right _ ((sub_flat (At.dropH_sub a dk n H.hlen)).subset h)), rfl⟩
theorem Fra.newH {G : List Ob} {o : Ob} (h : G.length = 2) : Fra S ((S ++ G).set a.lw o) a { a with hp := a.hp ++ [(S.length, S.length + 1)] } := ⟨by simp, fun j u hj e => by
  rw [List.getElem?_set_ne (fun z => hj (by rw [← z]; exact At.fix_all (by simp [At.fix])))]; exact get_app e, At.newH_sub, rfl⟩
theorem dict_arg (ps : List (Nm × List Int)) : ps.map wD = (mapT kN eM ps).map fun kv => D.tup [ktD kv.1, kv.2] := by
  unfold mapT
  rw [List.map_map]
  exact List.map_congr_left fun p _ => by show D.tup [eM p.1, eM p.2] = .tup [ktD (kN p.1), eM p.2]; rw [eM_key p.1]
theorem dict_new {ps : List (Nm × List Int)} (h : (ps.map (·.1)).Nodup) : putAllT ([] : List (List Key × D)) (mapT kN eM ps) = mapT kN eM ps := by
  have := put_marks (a := []) (b := ps) (by simpa using h)
  exact this
end
end DM

namespace DM
open PySem PySem.Spec PyProof.Rows L2
/-! ### == on data with strings in it -/
def pv : Nat → D → Bool
  | 0, .tup _ => false
  | n + 1, .tup xs => xs.all (pv n)
  | _, .non => true
  | _, .int _ => true
  | _, .str x => PyData.strOk x
  | _, _ => false
theorem pv_tup {n : Nat} {xs : List D} (h : pv n (.tup xs) = true) : ∃ m, n = m + 1 ∧ ∀ x ∈ xs, pv m x = true := by
  cases n with
  | zero => simp [pv] at h
  | succ m =>
    have h' : xs.all (pv m) = true := h
    rw [List.all_eq_true] at h'
    exact ⟨m, rfl, h'⟩
theorem pv_str {n : Nat} {x : Str} (h : pv n (.str x) = true) : PyData.strOk x = true := by
  cases n <;> exact h
theorem pv_pd (S : Store) : ∀ (n : Nat) (x : D), pv n x = true → PD S x (toP x) ∧ (toP x).canLay0 = true ∧ (toP x).depth ≤ n
  | n, .non, _ => ⟨.non, rfl, Nat.zero_le _⟩
  | n, .int i, _ => ⟨.int i, rfl, Nat.zero_le _⟩
  | n, .str x, h => ⟨.str x, by show PyData.canLay0 (.str x) = true; simp only [PyData.canLay0]; exact pv_str h, Nat.zero_le _⟩
  | n, .tup xs, h => by
    obtain ⟨m, e, h2⟩ := pv_tup h
    subst e
    have all : ∀ ys : List D, (∀ x ∈ ys, pv m x = true) → PDs S ys (toPs ys) ∧ PyData.canLayAll0 (toPs ys) = true ∧ PyData.depthAll (toPs ys) ≤ m := by
      intro ys
      induction ys with
      | nil => intro _; exact ⟨.nil, rfl, Nat.zero_le _⟩
      | cons y ys ih =>
        intro hy
        obtain ⟨a1, a2, a3⟩ := pv_pd S m y (hy y List.mem_cons_self)
        obtain ⟨b1, b2, b3⟩ := ih fun x hx => hy x (List.mem_cons_of_mem _ hx)
        refine ⟨.cons a1 b1, ?_, ?_⟩
        · show ((toP y).canLay0 && PyData.canLayAll0 (toPs ys)) = true
          rw [a2, b2]; rfl
        · show max (toP y).depth (PyData.depthAll (toPs ys)) ≤ m
          omega
    obtain ⟨a, b, c⟩ := all xs h2
    exact ⟨.tup a, b, Nat.succ_le_succ c⟩
  | 0, .bl _, h => by simp [pv] at h
  | n + 1, .bl _, h => by simp [pv] at h
  | 0, .ty _, h => by simp [pv] at h
  | n + 1, .ty _, h => by simp [pv] at h
  | 0, .ref _, h => by simp [pv] at h
  | n + 1, .ref _, h => by simp [pv] at h
  | 0, .loc _, h => by simp [pv] at h
  | n + 1, .loc _, h => by simp [pv] at h
  | 0, .scr _, h => by simp [pv] at h
  | n + 1, .scr _, h => by simp [pv] at h
theorem pvs_pd (S : Store) {n : Nat} : ∀ (ys : List D), (∀ x ∈ ys, pv n x = true) → PDs S ys (toPs ys) ∧ PyData.canLayAll0 (toPs ys) = true ∧ PyData.depthAll (toPs ys) ≤ n
  | [], _ => ⟨.nil, rfl, Nat.zero_le _⟩
  | y :: ys, hy => by
    obtain ⟨a1, a2, a3⟩ := pv_pd S n y (hy y List.mem_cons_self)
    obtain ⟨b1, b2, b3⟩ := pvs_pd S ys fun x hx => hy x (List.mem_cons_of_mem _ hx)
    refine ⟨.cons a1 b1, ?_, ?_⟩
    · show ((toP y).canLay0 && PyData.canLayAll0 (toPs ys)) = true
      rw [a2, b2]; rfl
    · show max (toP y).depth (PyData.depthAll (toPs ys)) ≤ n
      omega
theorem eqv_str (x y : Str) : PyData.eqv (.str x) (.str y) = decide (x = y) := by
  simp [PyData.eqv] <;> rfl
theorem pv_eqv : ∀ (n : Nat) (x y : D), pv n x = true → pv n y = true → PyData.eqv (toP x) (toP y) = decide (x = y)
  | n, .non, y, _, h => by cases n <;> cases y <;> first | (simp [pv] at h; done) | simp [toP, PyData.eqv]
  | n, .int i, y, _, h => by cases n <;> cases y <;> first | (simp [pv] at h; done) | simp [toP, PyData.eqv] <;> rfl
  | n, .str i, y, _, h => by
    cases y with
    | str j => show PyData.eqv (.str i) (.str j) = _; rw [eqv_str]; simp
    | non => simp [toP, PyData.eqv]
    | int _ => simp [toP, PyData.eqv]
    | tup _ => simp [toP, PyData.eqv]
    | _ => cases n <;> simp [pv] at h
  | 0, .tup xs, y, h, _ => by simp [pv] at h
  | n + 1, .tup xs, y, h, g => by
    cases y with
    | tup ys =>
      obtain ⟨m, e, h2⟩ := pv_tup h
      cases e
      obtain ⟨m', e', g2⟩ := pv_tup g
      cases e'
      have all : ∀ (xs ys : List D), (∀ x ∈ xs, pv n x = true) → (∀ x ∈ ys, pv n x = true) → PyData.eqvAll (toPs xs) (toPs ys) = decide (xs = ys) := by
        intro xs
        induction xs with
        | nil => intro ys _ _; cases ys <;> simp [toPs, PyData.eqvAll]
        | cons x xs ih =>
          intro ys hx hy
          cases ys with
          | nil => simp [toPs, PyData.eqvAll]
          | cons y ys =>
            have e1 := pv_eqv n x y (hx x List.mem_cons_self) (hy y List.mem_cons_self)
            have e2 := ih ys (fun z hz => hx z (List.mem_cons_of_mem _ hz)) (fun z hz => hy z (List.mem_cons_of_mem _ hz))
            show (PyData.eqv (toP x) (toP y) && PyData.eqvAll (toPs xs) (toPs ys)) = _
            rw [e1, e2]
            by_cases h1 : x = y <;> by_cases h2 : xs = ys <;> simp [h1, h2]
      show PyData.eqvAll (toPs xs) (toPs ys) = _
      rw [all xs ys h2 g2]
      simp
    | non => simp [toP, PyData.eqv]
    | int _ => simp [toP, PyData.eqv]
    | str _ => simp [toP, PyData.eqv]
    | _ => simp [pv] at g
  | 0, .bl _, _, h, _ => by simp [pv] at h
  | n + 1, .bl _, _, h, _ => by simp [pv] at h
  | 0, .ty _, _, h, _ => by simp [pv] at h
  | n + 1, .ty _, _, h, _ => by simp [pv] at h
  | 0, .ref _, _, h, _ => by simp [pv] at h
  | n + 1, .ref _, _, h, _ => by simp [pv] at h
  | 0, .loc _, _, h, _ => by simp [pv] at h
  | n + 1, .loc _, _, h, _ => by simp [pv] at h
  | 0, .scr _, _, h, _ => by simp [pv] at h
  | n + 1, .scr _, _, h, _ => by simp [pv] at h
theorem pvs_eqv {n : Nat} : ∀ (xs ys : List D), (∀ x ∈ xs, pv n x = true) → (∀ x ∈ ys, pv n x = true) → PyData.eqvAll (toPs xs) (toPs ys) = decide (xs = ys)
  | [], ys, _, _ => by cases ys <;> simp [toPs, PyData.eqvAll]
  | x :: xs, [], _, _ => by simp [toPs, PyData.eqvAll]
  | x :: xs, y :: ys, hx, hy => by
    have e1 := pv_eqv n x y (hx x List.mem_cons_self) (hy y List.mem_cons_self)
    have e2 := pvs_eqv xs ys (fun z hz => hx z (List.mem_cons_of_mem _ hz)) (fun z hz => hy z (List.mem_cons_of_mem _ hz))
    show (PyData.eqv (toP x) (toP y) && PyData.eqvAll (toPs xs) (toPs ys)) = _
    rw [e1, e2]
    by_cases h1 : x = y <;> by_cases h2 : xs = ys <;> simp [h1, h2]
section
variable {X : Cx} {S : Store} {Q : D → Store → Prop}
theorem BW.eqV {x y : D} (hx : pv 60 x = true) (hy : pv 60 y = true) (hu : X.A.units + 64 < cLine) (h : Q (.bl (decide (x = y))) S) : BW X (compareOp .Eq) x y S Q := by
  obtain ⟨a1, a2, a3⟩ := pv_pd S 60 x hx
  obtain ⟨b1, b2, b3⟩ := pv_pd S 60 y hy
  refine BW.eqD a1 b1 (shaped_of a2 (by omega)) (shaped_of b2 (by omega)) hu ?_
  rw [pv_eqv 60 x y hx hy]; exact h
theorem BW.neV {x y : D} (hx : pv 60 x = true) (hy : pv 60 y = true) (hu : X.A.units + 64 < cLine) (h : Q (.bl (!decide (x = y))) S) : BW X (compareOp .NotEq) x y S Q := by
  obtain ⟨a1, a2, a3⟩ := pv_pd S 60 x hx
  obtain ⟨b1, b2, b3⟩ := pv_pd S 60 y hy
  refine BW.neD a1 b1 (shaped_of a2 (by omega)) (shaped_of b2 (by omega)) hu ?_
  rw [pv_eqv 60 x y hx hy]; exact h
theorem BW.eqVL {l m : Nat} {xs ys : List D} (hl : S[l]? = some (.lst xs)) (hm : S[m]? = some (.lst ys)) (hx : ∀ x ∈ xs, pv 60 x = true) (hy : ∀ x ∈ ys, pv 60 x = true) (hu : X.A.units + 64 < cLine) (h : Q (.bl (decide (xs = ys))) S) : BW X (compareOp .Eq) (.loc l) (.loc m) S Q := by
  obtain ⟨a1, a2, a3⟩ := pvs_pd S xs hx
  obtain ⟨b1, b2, b3⟩ := pvs_pd S ys hy
  refine BW.eqD (.lst hl a1) (.lst hm b1) (shaped_of a2 (by show _ + 1 ≤ 64; omega)) (shaped_of b2 (by show _ + 1 ≤ 64; omega)) hu ?_
  show Q (.bl (PyData.eqvAll (toPs xs) (toPs ys))) S
  rw [pvs_eqv xs ys hx hy]; exact h
theorem BW.neVL {l m : Nat} {xs ys : List D} (hl : S[l]? = some (.lst xs)) (hm : S[m]? = some (.lst ys)) (hx : ∀ x ∈ xs, pv 60 x = true) (hy : ∀ x ∈ ys, pv 60 x = true) (hu : X.A.units + 64 < cLine) (h : Q (.bl (!decide (xs = ys))) S) : BW X (compareOp .NotEq) (.loc l) (.loc m) S Q := by
  obtain ⟨a1, a2, a3⟩ := pvs_pd S xs hx
  obtain ⟨b1, b2, b3⟩ := pvs_pd S ys hy
  refine BW.neD (.lst hl a1) (.lst hm b1) (shaped_of a2 (by show _ + 1 ≤ 64; omega)) (shaped_of b2 (by show _ + 1 ≤ 64; omega)) hu ?_
  show Q (.bl (!PyData.eqvAll (toPs xs) (toPs ys))) S
  rw [pvs_eqv xs ys hx hy]; exact h
end
theorem pv_nm {n : Nat} (nm : Nm) : pv (n + 1) (eM nm) = true := by
  show (nm.map D.int).all (pv n) = true
  rw [List.all_eq_true]
  intro x hx
  obtain ⟨i, _, rfl⟩ := List.mem_map.mp hx
  cases n <;> rfl
theorem ltS_ok (b : Bool) : PyData.strOk (ltS b) = true := by cases b <;> decide +kernel
theorem sta_ok (s : Sta) : PyData.strOk s.s = true := by cases s <;> decide +kernel
theorem pv_ltD (lt : Lt) : pv 60 (ltD lt) = true := by
  show (pv 59 (.str (ltS lt.1)) && (pv 59 (eM lt.2) && true)) = true
  rw [pv_nm]
  show (PyData.strOk _ && _) = true
  rw [ltS_ok]; rfl
theorem pv_rows (l : List Lt) : ∀ x ∈ l.map ltD, pv 60 x = true := fun x hx => by
  obtain ⟨y, _, rfl⟩ := List.mem_map.mp hx
  exact pv_ltD y
theorem pv_names (l : List Nm) : ∀ x ∈ l.map eM, pv 60 x = true := fun x hx => by
  obtain ⟨y, _, rfl⟩ := List.mem_map.mp hx
  exact pv_nm y
theorem ltD_inj {a b : Lt} (h : ltD a = ltD b) : a = b := by
  obtain ⟨a1, a2⟩ := a
  obtain ⟨b1, b2⟩ := b
  have h : D.tup [.str (ltS a1), eM a2] = .tup [.str (ltS b1), eM b2] := h
  injection h with h
  injection h with h1 h2
  injection h2 with h2 _
  injection h1 with h1
  have e1 : a1 = b1 := by cases a1 <;> cases b1 <;> first | rfl | (exact absurd h1 (by decide))
  have e2 : a2 = b2 := by
    have h : a2.map D.int = b2.map D.int := by injection h2
    exact (List.map_inj_right fun x y e => by injection e).mp h
  rw [e1, e2]
end DM

namespace DM
open PySem PySem.Spec PyProof.Rows L2
/-! ### answers, rounds, settling -/
structure Went (dk d : Dk) (n : Nat) : Prop where
  di : DI d
  wk : d.who.map (·.1) = dk.who.map (·.1)
  lg : d.log.length ≤ dk.log.length + n
  fr : d.fresh = dk.fresh
  pl : d.plugged = dk.plugged
theorem Went.refl {dk : Dk} (c : DI dk) : Went dk dk 0 := ⟨c, rfl, Nat.le_refl _, rfl, rfl⟩
theorem Went.trans {a b c : Dk} {n m : Nat} (h : Went a b n) (g : Went b c m) : Went a c (n + m) := ⟨g.di, g.wk.trans h.wk, by have := h.lg; have := g.lg; omega, g.fr.trans h.fr, g.pl.trans h.pl⟩
theorem Went.mono {a b : Dk} {n m : Nat} (h : Went a b n) (l : n ≤ m) : Went a b m := ⟨h.di, h.wk, by have := h.lg; omega, h.fr, h.pl⟩
theorem DI.thought {dk : Dk} (c : DI dk) : Went dk dk.think 100 := by
  have t := think_thk c.toDC.dl
  exact ⟨c.think, t.wk, t.lg, t.fk, t.pk⟩
theorem DI.answer {dk : Dk} (c : DI dk) {n : Int} (hn : n ∈ dk.who.map (·.1)) : Went dk (dk.answer n).2 101 := by
  obtain ⟨i, x, hi, rfl⟩ := who_at hn
  have hw := whoD_at c.wn hi
  unfold Dk.answer
  rw [hw]
  cases hl : x.2.left with
  | nil => exact (Went.refl c).mono (by omega)
  | cons lt rest =>
    obtain ⟨d1, d2, d3, d4, d5⟩ := c.did (List.mem_of_getElem? hi) hl
    have w1 : Went dk (dk.did x.1 lt) 1 := ⟨d1, d5, by omega, d3, d4⟩
    exact (w1.trans d1.thought).mono (by omega)
theorem DI.roundI : ∀ (l : List Int) {dk : Dk} (c : DI dk) (k : Int), (∀ h ∈ l, h ∈ dk.who.map (·.1)) → Went dk (dk.roundI l k).2 (101 * l.length)
  | [], dk, c, k, _ => Went.refl c
  | h :: l, dk, c, k, hl => by
    have w := c.answer (hl h List.mem_cons_self)
    have w2 := DI.roundI l w.di (k + if (dk.answer h).1.isSome then 1 else 0) fun g hg => by rw [w.wk]; exact hl g (List.mem_cons_of_mem _ hg)
    exact (w.trans w2).mono (by rw [List.length_cons]; omega)
def Dk.over (dk : Dk) : Bool := dk.who.all fun h => decide (h.2.left = [])
def Dk.round (dk : Dk) (c : Int) : Int × Dk := dk.roundI (sortI (dk.who.map (·.1))) c
def Dk.settleN : Nat → Dk → Int → Option (Int × Dk)
  | 0, _, _ => none
  | n + 1, dk, c => if dk.over then some (c, dk) else settleN n (dk.round c).2 (dk.round c).1
theorem DI.round {dk : Dk} (c : DI dk) (k : Int) : Went dk (dk.round k).2 808 := by
  have w := DI.roundI (sortI (dk.who.map (·.1))) c k fun h hh => (sortI_perm _).mem_iff.mp hh
  refine w.mono ?_
  rw [(sortI_perm _).length_eq, List.length_map]
  have := c.w8
  omega
theorem DI.settleN : ∀ (n : Nat) {dk : Dk} (c : DI dk) (k : Int) {r : Int} {d : Dk}, dk.settleN n k = some (r, d) → Went dk d (808 * n) ∧ d.over = true
  | 0, dk, c, k, r, d, h => by cases h
  | n + 1, dk, c, k, r, d, h => by
    unfold Dk.settleN at h
    split at h
    · rename_i ho
      cases h
      exact ⟨(Went.refl c).mono (by omega), ho⟩
    · have w := c.round k
      obtain ⟨w2, ho⟩ := DI.settleN n w.di _ h
      exact ⟨(w.trans w2).mono (by omega), ho⟩
theorem over_filter (dk : Dk) : (dk.who.filter fun h => decide (h.2.left ≠ [])) = [] ↔ dk.over = true := by
  unfold Dk.over
  rw [List.filter_eq_nil_iff, List.all_eq_true]
  exact ⟨fun h x hx => by have := h x hx; simpa using this, fun h x hx => by have := h x hx; simpa using this⟩
def emptyDk : Dk := ⟨[], [], [], [], (0, 0), []⟩
theorem emptyDI : DI emptyDk := ⟨⟨rfl, List.nodup_nil, fun _ h => (by cases h), Nat.zero_le _, List.nodup_nil, fun _ h => (by cases h), fun _ h => (by cases h), fun _ h => (by cases h), fun _ h => (by cases h), List.nodup_nil, fun _ h => (by cases h), fun _ h => (by cases h), ⟨Int.le_refl _, Int.le_refl _, by decide⟩, Nat.zero_le _, fun _ h => (by cases h), fun _ h => (by cases h)⟩, fun _ h => (by cases h)⟩
end DM

namespace DM
open PySem PySem.Spec PyProof.Rows L2
/-! ### helpers with claims and rooms, row by row of what happened -/
def hc (h : Int × HpS) : He := (h.1, h.2.claims, h.2.room)
def Dk.hcs (dk : Dk) : List He := dk.who.map hc
theorem letter_hcs (dk : Dk) (h : Int) (lt : Lt) (s : Sta) : (dk.letter h lt s).hcs = dk.hcs := by
  unfold Dk.hcs
  rw [letter_who, List.map_map]
  exact List.map_congr_left fun p _ => by show hc (if p.1 = h then _ else p) = hc p; split <;> rfl
theorem hcs_keys (dk : Dk) : dk.hcs.map (·.1) = dk.who.map (·.1) := by unfold Dk.hcs; rw [List.map_map]; rfl
theorem hcs_whoD {dk dk2 : Dk} (e : dk2.hcs = dk.hcs) (h : Int) : (dk2.whoD h).claims = (dk.whoD h).claims ∧ (dk2.whoD h).room = (dk.whoD h).room := by
  have gen : ∀ (a b : List (Int × HpS)), a.map hc = b.map hc → ((getT a h).getD ⟨[], 0, []⟩).claims = ((getT b h).getD ⟨[], 0, []⟩).claims ∧ ((getT a h).getD ⟨[], 0, []⟩).room = ((getT b h).getD ⟨[], 0, []⟩).room := by
    intro a
    induction a with
    | nil => intro b e; cases b with
      | nil => exact ⟨rfl, rfl⟩
      | cons y b => cases e
    | cons x a ih =>
      intro b e
      cases b with
      | nil => cases e
      | cons y b =>
        rw [List.map_cons, List.map_cons] at e
        obtain ⟨e1, e2⟩ := List.cons.inj e
        have k1 : x.1 = y.1 := congrArg (·.1) e1
        have k2 : x.2.claims = y.2.claims := congrArg (·.2.1) e1
        have k3 : x.2.room = y.2.room := congrArg (·.2.2) e1
        rw [getT_cons, getT_cons, k1]
        by_cases c : y.1 = h
        · rw [if_pos c, if_pos c]; exact ⟨k2, k3⟩
        · rw [if_neg c, if_neg c]; exact ih b e2
  exact gen _ _ e
/-- a letter that may go -/
structure LtOk (dk : Dk) (h : Int) (lt : Lt) : Prop where
  hw : h ∈ dk.who.map (·.1)
  tk : lt.1 = true → (∃ o, getT dk.states lt.2 = some (.free, o)) ∧ (dk.used h : Int) < (dk.whoD h).room ∧ (fitOf (dk.whoD h).claims (dk.mkOf lt.2)).isSome = true
  lv : lt.1 = false → getT dk.states lt.2 = some (.held, some h) ∧ (dk.inner lt.2).filter (fun one => decide ((dk.stOf one).1 ≠ .free)) = []
inductive Lts : Dk → List En → Dk → Prop
  | nil (dk : Dk) : Lts dk [] dk
  | cons {dk : Dk} {h : Int} {lt : Lt} {es : List En} {d : Dk} : LtOk dk h lt → Lts (dk.letter h lt (Sta.of lt.1)) es d → Lts dk (.letter h lt :: es) d
theorem Lts.snoc {dk d : Dk} {es : List En} (l : Lts dk es d) {h : Int} {lt : Lt} (k : LtOk d h lt) : Lts dk (es ++ [.letter h lt]) (d.letter h lt (Sta.of lt.1)) := by
  induction l with
  | nil dk => exact .cons k (.nil _)
  | cons k2 _ ih => exact .cons k2 (ih k)
theorem Lts.log {dk d : Dk} {es : List En} (l : Lts dk es d) : d.log = dk.log ++ es := by
  induction l with
  | nil dk => simp
  | cons k _ ih => rw [ih]; show (_ ++ [_]) ++ _ = _; simp; rfl
theorem Lts.all {dk d : Dk} {es : List En} (l : Lts dk es d) : ∀ e ∈ es, ∃ h lt, e = .letter h lt := by
  induction l with
  | nil dk => intro e h; cases h
  | cons k _ ih =>
    intro e h
    rcases List.mem_cons.mp h with rfl | h
    · exact ⟨_, _, rfl⟩
    · exact ih e h
theorem Lts.hcs {dk d : Dk} {es : List En} (l : Lts dk es d) : d.hcs = dk.hcs := by
  induction l with
  | nil dk => rfl
  | cons k _ ih => rw [ih, letter_hcs]
theorem Lts.same {dk d : Dk} {es : List En} (l : Lts dk es d) : d.marks = dk.marks ∧ d.plugged = dk.plugged ∧ d.fresh = dk.fresh := by
  induction l with
  | nil dk => exact ⟨rfl, rfl, rfl⟩
  | cons k _ ih => exact ih
/-- what is had fits -/
theorem had_fit {ps : List (Nm × List Int)} {hs : List He} : ∀ p ∈ hadOf ps hs, ∃ q ∈ ps, q.1 = p.1 ∧ ∃ x ∈ hs, x.1 = p.2 ∧ (fitOf x.2.1 q.2).isSome = true := by
  have gen : ∀ (rows : List Row) (s : Had), (∀ r ∈ rows, ∃ q ∈ ps, q.1 = r.2.2.2 ∧ ∃ x ∈ hs, x.1 = r.2.2.1 ∧ (fitOf x.2.1 q.2).isSome = true) → (∀ p ∈ s.2, ∃ q ∈ ps, q.1 = p.1 ∧ ∃ x ∈ hs, x.1 = p.2 ∧ (fitOf x.2.1 q.2).isSome = true) →
      ∀ p ∈ (rows.foldl hadStep s).2, ∃ q ∈ ps, q.1 = p.1 ∧ ∃ x ∈ hs, x.1 = p.2 ∧ (fitOf x.2.1 q.2).isSome = true := by
    intro rows
    induction rows with
    | nil => intro s _ h; exact h
    | cons r rows ih =>
      intro s hr h
      refine ih _ (fun x hx => hr x (List.mem_cons_of_mem _ hx)) fun p hp => ?_
      unfold hadStep at hp
      split at hp
      · rcases mem_putT (show p ∈ putT s.2 r.2.2.2 r.2.2.1 from hp) with hp | rfl
        · exact h p hp
        · exact hr r List.mem_cons_self
      · exact h p hp
  refine gen _ _ (fun r hr => ?_) fun p hp => by cases hp
  obtain ⟨p, hp, x, hx, v, hv, rfl⟩ := rows_of (List.mem_mergeSort.mp hr)
  exact ⟨p, hp, rfl, x, hx, rfl, by rw [hv]; rfl⟩
theorem goals_fit (dk : Dk) {nm : Nm} {g : Int} (h : getT dk.goals nm = some g) : (fitOf (dk.whoD g).claims (dk.mkOf nm)).isSome = true := by
  obtain ⟨q, hq, e1, x, hx, e2, f⟩ := had_fit _ (getT_mem h)
  obtain ⟨n, hn, rfl⟩ := List.mem_map.mp hq
  have e1 : n = nm := e1
  subst e1
  unfold Dk.rows at hx
  obtain ⟨k, hk, rfl⟩ := List.mem_map.mp hx
  have e2 : k = g := e2
  subst e2
  exact f
theorem thinkStep_lts {dk0 dk : Dk} (d : DL dk) {es : List En} (l : Lts dk0 es dk) {nm : Nm} (hnm : nm ∈ dk.keys) : ∃ es2, Lts dk0 es2 (Dk.thinkStep dk0.goals dk nm) := by
  obtain ⟨st, hst⟩ := getT_some hnm
  have hs := stOf_some hst
  obtain ⟨sta, o⟩ := st
  unfold Dk.thinkStep
  rw [hs]
  split
  · rename_i c
    split
    · rename_i hin
      have hp := getT_mem hst
      have c1 : sta = .held := c.1
      obtain ⟨g, hg⟩ : ∃ g, o = some g := by
        cases e : o with
        | none => exact absurd e (d.sh _ hp (by rw [c1]; intro z; cases z))
        | some g => exact ⟨g, rfl⟩
      subst hg; subst c1
      exact ⟨_, l.snoc (lt := (false, nm)) ⟨d.sw _ hp g rfl, (fun z => by cases z), fun _ => ⟨hst, hin⟩⟩⟩
    · exact ⟨es, l⟩
  · split
    · exact ⟨es, l⟩
    · rename_i g hg
      split
      · rename_i c
        have c1 : sta = .free := c.1
        subst c1
        have hh := goals_who dk0 hg
        rw [← hcs_keys, ← l.hcs, hcs_keys] at hh
        have hf := goals_fit dk0 hg
        have e3 := hcs_whoD l.hcs g
        have e4 : dk.mkOf nm = dk0.mkOf nm := by unfold Dk.mkOf; rw [l.same.1]
        rw [← e3.1, ← e4] at hf
        exact ⟨_, l.snoc (lt := (true, nm)) ⟨hh, (fun _ => ⟨⟨_, hst⟩, c.2, hf⟩), fun z => by cases z⟩⟩
      · exact ⟨es, l⟩
theorem think_lts {dk : Dk} (d : DL dk) : ∃ es, Lts dk es dk.think := by
  have gen : ∀ (l : List Nm) (dk1 : Dk) (n : Nat) (es : List En), (∀ nm ∈ l, nm ∈ dk.keys) → Thk dk dk1 n → Lts dk es dk1 → ∃ es2, Lts dk es2 (l.foldl (Dk.thinkStep dk.goals) dk1) := by
    intro l
    induction l with
    | nil => intro dk1 n es _ _ h; exact ⟨es, h⟩
    | cons nm l ih =>
      intro dk1 n es hl h k
      obtain ⟨a1, a2, a3, a4, a5, a6, a7⟩ := thinkStep_ok (dk0 := dk) h.dl h.wk (nm := nm) (by rw [h.ks]; exact hl nm List.mem_cons_self)
      obtain ⟨es2, k2⟩ := thinkStep_lts h.dl k (nm := nm) (by rw [h.ks]; exact hl nm List.mem_cons_self)
      exact ih _ (n + 1) es2 (fun x hx => hl x (List.mem_cons_of_mem _ hx)) ⟨a1, a2.trans h.ks, a3.trans h.wk, a4.trans h.mk', a5.trans h.pk, a6.trans h.fk, by have := h.lg; omega⟩ k2
  exact gen (sortN dk.keys) dk 0 [] (fun nm h => List.mem_mergeSort.mp h) ⟨d, rfl, rfl, rfl, rfl, rfl, Nat.le_refl _⟩ (.nil dk)
/-- a letter keeps what holds -/
theorem DC.letter {dk : Dk} (c : DC NoE dk) {h : Int} {lt : Lt} (k : LtOk dk h lt) : DC NoE (dk.letter h lt (Sta.of lt.1)) := by
  obtain ⟨s0, hs0, h0⟩ : ∃ s0, getT dk.states lt.2 = some s0 ∧ (s0.1 = .free ∨ s0.1 = .held) := by
    cases e : lt.1 with
    | true => obtain ⟨⟨o, ho⟩, _⟩ := k.tk e; exact ⟨_, ho, .inl rfl⟩
    | false => exact ⟨_, (k.lv e).1, .inr rfl⟩
  have dl := c.dl.letter (lt := lt) k.hw hs0 h0
  have hk : lt.2 ∈ dk.keys := getT_in hs0
  have ek : (dk.letter h lt (Sta.of lt.1)).keys = dk.keys := letter_keys hk
  have ew : (dk.letter h lt (Sta.of lt.1)).who.map (·.1) = dk.who.map (·.1) := by rw [← hcs_keys, letter_hcs, hcs_keys]
  have est : ∀ x, getT (dk.letter h lt (Sta.of lt.1)).states x = if x = lt.2 then some (Sta.of lt.1, some h) else getT dk.states x := fun x => getT_put _ _ _ _
  refine ⟨c.fm, c.pn, c.pb, c.pc, dl.kn, dl.km, fun x hx h1 => ?_, fun p hp g hg => .inl (dl.sw p hp g hg), dl.sh, dl.wn, dl.ho, fun x hx => ?_, c.f2, ?_, dl.l1, dl.l2⟩
  · rw [ek] at hx
    obtain ⟨s, e1, e2⟩ := c.ch x hx h1
    rw [est]
    by_cases z : x.dropLast = lt.2
    · rw [if_pos z]
      refine ⟨_, rfl, ?_⟩
      rw [z, hs0] at e1
      cases e1
      cases eb : lt.1 with
      | true =>
        obtain ⟨⟨o, ho⟩, _⟩ := k.tk eb
        rw [hs0] at ho
        cases ho
        rcases e2 with e2 | e2 <;> cases e2
      | false => exact .inr rfl
    · rw [if_neg z]; exact ⟨s, e1, e2⟩
  · have : x.1 ∈ dk.who.map (·.1) := by rw [← ew]; exact List.mem_map.mpr ⟨x, hx, rfl⟩
    obtain ⟨y, hy, e⟩ := List.mem_map.mp this
    rw [← e]; exact c.wf y hy
  · have := congrArg List.length ew
    rw [List.length_map, List.length_map] at this
    rw [this]; exact c.w8
theorem Lts.dc {dk d : Dk} {es : List En} (l : Lts dk es d) (c : DC NoE dk) : DC NoE d := by
  induction l with
  | nil dk => exact c
  | cons k _ ih => exact ih (c.letter k)
/-! #### rows of what happened -/
/-- the first row of an event, and the desk behind it -/
inductive Mic : Dk → En → Dk → Prop
  | plug {dk : Dk} {t : Th} : OkT 2 t → dk.plugged.length < 6 → Mic dk (.plug dk.fresh.1 t) (dk.plugPre t)
  | come {dk : Dk} {cs : List (List Int × Int)} {r : Int} : OkCs cs → 0 ≤ r → r ≤ 4 → dk.who.length < 8 → dk.fresh.2 < 1000 → Mic dk (.come dk.fresh.2 cs r) (dk.comePre cs r)
  | unplug {dk : Dk} {n : Int} : n ∈ dk.plugged.map (·.1) → Mic dk (.unplug n) (dk.unplugPre n)
  | fall {dk : Dk} {n : Int} : n ∈ dk.who.map (·.1) → Mic dk (.fall n) (dk.fallPre n)
  | done {dk : Dk} {x : Int × HpS} {lt : Lt} {rest : List Lt} : x ∈ dk.who → x.2.left = lt :: rest → Mic dk (.done x.1 lt) (dk.did x.1 lt)
theorem DI.unplug_log {dk : Dk} (c : DI dk) {n : Int} (hn : n ∈ dk.plugged.map (·.1)) : (dk.unplugPre n).log = dk.log ++ [.unplug n] := by
  unfold Dk.unplugPre
  rw [(c.unplug hn).1]; rfl
theorem freeIn_log (nm : Nm) : ∀ (l : List Nm) (d : Dk), (l.foldl (Dk.freeIn nm) d).log = d.log
  | [], d => rfl
  | x :: l, d => by
    show (l.foldl (Dk.freeIn nm) (Dk.freeIn nm d x)).log = _
    rw [freeIn_log nm l]
    unfold Dk.freeIn; split <;> rfl
theorem did_log (dk : Dk) (h : Int) (lt : Lt) : (dk.did h lt).log = dk.log ++ [.done h lt] := by
  unfold Dk.did
  cases e : lt.1 with
  | true => rw [if_pos rfl, freeIn_log]; rfl
  | false =>
    rw [if_neg (fun z => by cases z)]
    show (Dk.innerGone 2 _ lt.2).log = _
    rw [(goes_inner 2 _ lt.2).log]; rfl
theorem Mic.ok {dk d : Dk} {e : En} (m : Mic dk e d) (c : DI dk) : DI d ∧ d.log = dk.log ++ [e] := by
  cases m with
  | plug ht h6 => exact ⟨c.plug ht h6, rfl⟩
  | come hc h0 h4 h8 hf => exact ⟨c.come hc h0 h4 h8 hf, rfl⟩
  | unplug hn => exact ⟨(c.unplug hn).2.2, c.unplug_log hn⟩
  | fall hn => exact c.fall _
  | done hx hl => exact ⟨(c.did hx hl).1, did_log _ _ _⟩
/-- an event: its row, the desk ahead of its thinking and behind -/
inductive Ev : Dk → Option En → Dk → Prop
  | step {dk d : Dk} {e : En} : Mic dk e d → Ev dk (some e) d.think
  | none (dk : Dk) : Ev dk none dk
theorem Ev.di {dk d : Dk} {e : Option En} (v : Ev dk e d) (c : DI dk) : DI d := by
  cases v with
  | step m => exact (m.ok c).1.think
  | none => exact c
theorem Ev.rows {dk d : Dk} {e : Option En} (v : Ev dk e d) (c : DI dk) : ∃ es, (∀ x ∈ es, ∃ h lt, x = .letter h lt) ∧ d.log = dk.log ++ (e.toList ++ es) ∧ es.length ≤ 100 := by
  cases v with
  | step m =>
    obtain ⟨c1, l1⟩ := m.ok c
    obtain ⟨es, l⟩ := think_lts c1.toDC.dl
    have t := (think_thk c1.toDC.dl).lg
    refine ⟨es, l.all, by rw [l.log, l1]; simp, ?_⟩
    rw [l.log, List.length_append] at t
    omega
  | none => exact ⟨[], (fun _ h => by cases h), by simp, by simp⟩
theorem answer_ev {dk : Dk} (c : DI dk) {n : Int} (hn : n ∈ dk.who.map (·.1)) : ∃ e, Ev dk e (dk.answer n).2 := by
  obtain ⟨i, x, hi, rfl⟩ := who_at hn
  have hw := whoD_at c.wn hi
  unfold Dk.answer
  rw [hw]
  cases hl : x.2.left with
  | nil => exact ⟨_, .none _⟩
  | cons lt rest => exact ⟨_, .step (.done (List.mem_of_getElem? hi) hl)⟩
/-! #### what an event leaves of the helpers, of the things -/
theorem think_hcs {dk : Dk} (d : DL dk) : dk.think.hcs = dk.hcs := by obtain ⟨es, l⟩ := think_lts d; exact l.hcs
theorem think_same {dk : Dk} (d : DL dk) : dk.think.marks = dk.marks ∧ dk.think.plugged = dk.plugged ∧ dk.think.fresh = dk.fresh := by obtain ⟨es, l⟩ := think_lts d; exact l.same
theorem Goes.hcs {nm : Nm} {a b : Dk} (g : Goes nm a b) : b.hcs = a.hcs := by
  obtain ⟨f, e, h⟩ := g.who
  unfold Dk.hcs
  rw [e, List.map_map]
  exact List.map_congr_left fun p _ => by
    obtain ⟨h1, h2, h3, _⟩ := h p
    show hc (f p) = hc p
    unfold hc; rw [h1, h2, h3]
theorem whoMod_hcs (dk : Dk) (h : Int) (l : HpS → List Lt) : (dk.whoMod h fun p => { p with left := l p }).hcs = dk.hcs := by
  show (dk.who.map _).map hc = dk.who.map hc
  rw [List.map_map]
  exact List.map_congr_left fun p _ => by show hc (if p.1 = h then _ else p) = hc p; split <;> rfl
theorem freeIn_hcs (nm : Nm) : ∀ (l : List Nm) (d : Dk), (l.foldl (Dk.freeIn nm) d).hcs = d.hcs ∧ (l.foldl (Dk.freeIn nm) d).plugged = d.plugged ∧ (l.foldl (Dk.freeIn nm) d).fresh = d.fresh
  | [], d => ⟨rfl, rfl, rfl⟩
  | x :: l, d => by
    show (l.foldl (Dk.freeIn nm) (Dk.freeIn nm d x)).hcs = _ ∧ (l.foldl (Dk.freeIn nm) (Dk.freeIn nm d x)).plugged = _ ∧ (l.foldl (Dk.freeIn nm) (Dk.freeIn nm d x)).fresh = _
    obtain ⟨h1, h2, h3⟩ := freeIn_hcs nm l (Dk.freeIn nm d x)
    rw [h1, h2, h3]
    unfold Dk.freeIn; split <;> exact ⟨rfl, rfl, rfl⟩
theorem did_hcs (dk : Dk) (h : Int) (lt : Lt) : (dk.did h lt).hcs = dk.hcs ∧ (dk.did h lt).plugged = dk.plugged ∧ (dk.did h lt).fresh = dk.fresh := by
  have e0 : ((dk.whoMod h fun p => { p with left := p.left.drop 1 }).addL (.done h lt)).hcs = dk.hcs := whoMod_hcs dk h fun p => p.left.drop 1
  unfold Dk.did
  cases e : lt.1 with
  | true =>
    rw [if_pos rfl]
    obtain ⟨h1, h2, h3⟩ := freeIn_hcs lt.2 (((dk.whoMod h fun p => { p with left := p.left.drop 1 }).addL (.done h lt)).marks.map (·.1)) (((dk.whoMod h fun p => { p with left := p.left.drop 1 }).addL (.done h lt)).putS lt.2 (.held, some h))
    exact ⟨h1.trans e0, h2, h3⟩
  | false =>
    rw [if_neg (fun z => by cases z)]
    have g := goes_inner 2 ((dk.whoMod h fun p => { p with left := p.left.drop 1 }).addL (.done h lt)) lt.2
    exact ⟨g.hcs.trans e0, g.plugged, g.fresh⟩
theorem fallStep_hcs (h : Int) : ∀ (l : List Nm) (d : Dk), (l.foldl (Dk.fallStep h) d).hcs = d.hcs ∧ (l.foldl (Dk.fallStep h) d).plugged = d.plugged ∧ (l.foldl (Dk.fallStep h) d).fresh = d.fresh
  | [], d => ⟨rfl, rfl, rfl⟩
  | x :: l, d => by
    show (l.foldl (Dk.fallStep h) (Dk.fallStep h d x)).hcs = _ ∧ (l.foldl (Dk.fallStep h) (Dk.fallStep h d x)).plugged = _ ∧ (l.foldl (Dk.fallStep h) (Dk.fallStep h d x)).fresh = _
    obtain ⟨h1, h2, h3⟩ := fallStep_hcs h l (Dk.fallStep h d x)
    rw [h1, h2, h3]
    unfold Dk.fallStep
    split
    · have g := goes_inner 2 (d.putS x (.free, none)) x
      exact ⟨g.hcs, g.plugged, g.fresh⟩
    · exact ⟨rfl, rfl, rfl⟩
theorem drop_map {α β γ : Type} [DecidableEq α] (f : α × β → α × γ) (hf : ∀ x, (f x).1 = x.1) (k : α) : ∀ l : List (α × β), (dropT l k).map f = dropT (l.map f) k := by
  intro l
  unfold dropT
  induction l with
  | nil => rfl
  | cons x l ih =>
    rw [List.map_cons, List.filter_cons, List.filter_cons, hf x]
    by_cases c : decide (x.1 ≠ k) = true
    · rw [if_pos c, if_pos c, List.map_cons, ih]
    · rw [if_neg c, if_neg c, ih]
def aftH (dk : Dk) : En → List He
  | .come n cs r => dk.hcs ++ [(n, cs, r)]
  | .fall n => dropT dk.hcs n
  | _ => dk.hcs
def aftP (dk : Dk) : En → List (Int × Th)
  | .plug n t => dk.plugged ++ [(n, t)]
  | .unplug n => dropT dk.plugged n
  | _ => dk.plugged
def aftF (dk : Dk) : En → Int × Int
  | .plug _ _ => (dk.fresh.1 + 1, dk.fresh.2)
  | .come _ _ _ => (dk.fresh.1, dk.fresh.2 + 1)
  | _ => dk.fresh
/-- behind a row -/
structure Behind (dk : Dk) (e : En) (d : Dk) : Prop where
  hcs : d.hcs = aftH dk e
  pl : d.plugged = aftP dk e
  fr : d.fresh = aftF dk e
theorem Mic.behind {dk d : Dk} {e : En} (m : Mic dk e d) (c : DI dk) : Behind dk e d := by
  cases m with
  | plug ht h6 => exact ⟨rfl, (c.toDC.newP _).1, rfl⟩
  | come hc h0 h4 h8 hf =>
    refine ⟨?_, rfl, rfl⟩
    show (putT dk.who dk.fresh.2 _).map _ = _
    rw [c.toDC.newW, List.map_append]; rfl
  | unplug hn =>
    unfold Dk.unplugPre
    rw [(c.unplug hn).1]
    refine ⟨?_, rfl, rfl⟩
    show (dk.who.map _).map hc = dk.who.map hc
    rw [List.map_map]; rfl
  | fall hn =>
    rw [fallPre_eq]
    obtain ⟨h1, h2, h3⟩ := fallStep_hcs _ (sortN (dk.fall0 _).keys) (dk.fall0 _)
    refine ⟨h1.trans ?_, h2, h3⟩
    exact drop_map hc (fun _ => rfl) _ _
  | done hx hl =>
    obtain ⟨h1, h2, h3⟩ := did_hcs dk _ _
    exact ⟨h1, h2, h3⟩
theorem Ev.behind {dk d : Dk} {e : En} (v : Ev dk (some e) d) (c : DI dk) : Behind dk e d := by
  cases v with
  | step m =>
    have b := m.behind c
    have c1 := (m.ok c).1
    have t := think_same c1.toDC.dl
    exact ⟨(think_hcs c1.toDC.dl).trans b.hcs, t.2.1.trans b.pl, t.2.2.trans b.fr⟩
theorem Ev.bounds {dk d : Dk} {e : Option En} (v : Ev dk e d) (c : DI dk) : d.fresh.1 ≤ dk.fresh.1 + 1 ∧ d.fresh.2 ≤ dk.fresh.2 + 1 ∧ d.log.length ≤ dk.log.length + 101 := by
  obtain ⟨es, _, h, hl⟩ := v.rows c
  refine ⟨?_, ?_, by rw [h, List.length_append, List.length_append]; cases e <;> simp <;> omega⟩
  · cases v with
    | none => omega
    | step m => have := (Ev.behind (.step m) c).fr; rw [this]; cases m <;> simp [aftF] <;> omega
  · cases v with
    | none => omega
    | step m => have := (Ev.behind (.step m) c).fr; rw [this]; cases m <;> simp [aftF] <;> omega
end DM

namespace DM
open PySem PySem.Spec PyProof.Rows L2
/-! ### a law's store with a desk in it: what is drawn from, the desk at l, other objects by their places -/
structure Wd (CD CH : Addr) (S : Store) (l : Nat) (a : At) (dk : Dk) (dr : Dr) (O : List (Nat × Ob)) : Prop where
  d0 : S[0]? = some (.lst (dr.cells.map D.int))
  d1 : S[1]? = some (.lst [.int dr.m, .loc 0, .int dr.at_])
  el : a.l = l
  de : DeskAt CD CH S a dk
  two : ∀ j ∈ a.all, 2 ≤ j
  ot : ∀ p ∈ O, 2 ≤ p.1 ∧ p.1 ∉ a.all ∧ S[p.1]? = some p.2
  nd : (O.map (·.1)).Nodup
section
variable {CD CH : Addr} {S : Store} {l : Nat} {a : At} {dk : Dk} {dr : Dr} {O : List (Nat × Ob)}
theorem Wd.len (W : Wd CD CH S l a dk dr O) : 2 ≤ S.length := (List.getElem?_eq_some_iff.mp W.d1).1
theorem Wd.rest (W : Wd CD CH S l a dk dr O) : ∃ R, S = dS dr R := by
  have h0 := W.d0
  have h1 := W.d1
  match S, h0, h1 with
  | x :: y :: R, h0, h1 =>
    have h0 : some x = _ := h0
    have h1 : some y = _ := h1
    cases h0; cases h1
    exact ⟨R, rfl⟩
  | [x], _, h1 => cases h1
  | [], h0, _ => cases h0
theorem Wd.at (W : Wd CD CH S l a dk dr O) : SelfAt CD S l a := W.de.at W.el
theorem dS_get {dr dr' : Dr} {R : Store} {j : Nat} (h : 2 ≤ j) : (dS dr' R)[j]? = (dS dr R)[j]? := by
  match j, h with
  | j + 2, _ => rfl
/-- drawn -/
theorem Wd.draw {R : Store} (W : Wd CD CH (dS dr R) l a dk dr O) (dr' : Dr) : Wd CD CH (dS dr' R) l a dk dr' O :=
  ⟨rfl, rfl, W.el, W.de.same fun j hj => dS_get (W.two j hj), W.two, fun p hp => by obtain ⟨h1, h2, h3⟩ := W.ot p hp; exact ⟨h1, h2, by rw [dS_get h1]; exact h3⟩, W.nd⟩
/-- more behind -/
theorem Wd.grow (W : Wd CD CH S l a dk dr O) {G : Store} : Wd CD CH (S ++ G) l a dk dr O :=
  ⟨get_app W.d0, get_app W.d1, W.el, W.de.app, W.two, fun p hp => by obtain ⟨h1, h2, h3⟩ := W.ot p hp; exact ⟨h1, h2, get_app h3⟩, W.nd⟩
/-- the desk went on -/
theorem Wd.did (W : Wd CD CH S l a dk dr O) {S' : Store} {a' : At} {dk' : Dk} (H : DeskAt CD CH S' a' dk') (F : Fra S S' a a') : Wd CD CH S' l a' dk' dr O := by
  have len := W.len
  refine ⟨F.keep 0 _ (fun z => by have := W.two 0 z; omega) W.d0, F.keep 1 _ (fun z => by have := W.two 1 z; omega) W.d1, F.ls.1.trans W.el, H, fun j hj => ?_, fun p hp => ?_, W.nd⟩
  · rcases F.sub j hj with h | h
    · exact W.two j h
    · omega
  · obtain ⟨h1, h2, h3⟩ := W.ot p hp
    refine ⟨h1, fun z => ?_, F.keep _ _ h2 h3⟩
    rcases F.sub _ z with h | h
    · exact h2 h
    · have := (List.getElem?_eq_some_iff.mp h3).1; omega
/-- another object is written -/
theorem Wd.put {k : Nat} {o : Ob} (W : Wd CD CH S l a dk dr ((k, o) :: O)) (o' : Ob) : Wd CD CH (S.set k o') l a dk dr ((k, o') :: O) := by
  obtain ⟨h1, h2, h3⟩ := W.ot (k, o) List.mem_cons_self
  have lt := (List.getElem?_eq_some_iff.mp h3).1
  have nd := W.nd
  rw [List.map_cons, List.nodup_cons] at nd
  have ne : ∀ j, j ≠ k → (S.set k o')[j]? = S[j]? := fun j hj => List.getElem?_set_ne (Ne.symm hj)
  refine ⟨by rw [ne 0 (by intro z; have : 2 ≤ k := h1; omega)]; exact W.d0, by rw [ne 1 (by intro z; have : 2 ≤ k := h1; omega)]; exact W.d1, W.el, W.de.same fun j hj => ne j fun z => h2 (z ▸ hj), W.two, fun p hp => ?_, by rw [List.map_cons, List.nodup_cons]; exact nd⟩
  rcases List.mem_cons.mp hp with rfl | hp
  · exact ⟨h1, h2, List.getElem?_set_self lt⟩
  · obtain ⟨g1, g2, g3⟩ := W.ot p (List.mem_cons_of_mem _ hp)
    exact ⟨g1, g2, by rw [ne _ fun z => nd.1 (z ▸ List.mem_map.mpr ⟨p, hp, rfl⟩)]; exact g3⟩
/-- a new object -/
theorem Wd.new (W : Wd CD CH S l a dk dr O) (o : Ob) : Wd CD CH (S ++ [o]) l a dk dr ((S.length, o) :: O) := by
  have len := W.len
  refine ⟨get_app W.d0, get_app W.d1, W.el, W.de.app, W.two, fun p hp => ?_, ?_⟩
  · rcases List.mem_cons.mp hp with rfl | hp
    · exact ⟨len, fun z => by have := W.de.lt _ z; exact absurd this (Nat.lt_irrefl _), by simp⟩
    · obtain ⟨h1, h2, h3⟩ := W.ot p hp
      exact ⟨h1, h2, get_app h3⟩
  · rw [List.map_cons, List.nodup_cons]
    refine ⟨fun z => ?_, W.nd⟩
    obtain ⟨p, hp, e⟩ := List.mem_map.mp z
    have := (List.getElem?_eq_some_iff.mp (W.ot p hp).2.2).1
    rw [e] at this
    exact absurd this (Nat.lt_irrefl _)
theorem Wd.sub (W : Wd CD CH S l a dk dr O) {O' : List (Nat × Ob)} (h : O'.Sublist O) : Wd CD CH S l a dk dr O' :=
  ⟨W.d0, W.d1, W.el, W.de, W.two, fun p hp => W.ot p (h.mem hp), W.nd.sublist (h.map _)⟩
theorem Wd.perm (W : Wd CD CH S l a dk dr O) {O' : List (Nat × Ob)} (h : O'.Perm O) : Wd CD CH S l a dk dr O' :=
  ⟨W.d0, W.d1, W.el, W.de, W.two, fun p hp => W.ot p (h.mem_iff.mp hp), (h.map _).nodup_iff.mpr W.nd⟩
theorem Wd.get (W : Wd CD CH S l a dk dr O) {k : Nat} {o : Ob} (h : (k, o) ∈ O) : S[k]? = some o := (W.ot _ h).2.2
end
/-! #### the law's own dicts of things and of helpers -/
def hpD (h : HpS) : D := .tup [eCs h.claims, .int h.room]
def thOb (dk : Dk) : Ob := .dK (mapT kI eT dk.plugged)
def heOb (dk : Dk) : Ob := .dK (dk.hcs.map fun h => (kI h.1, .tup [eCs h.2.1, .int h.2.2]))
theorem thOb_pairs (dk : Dk) : thOb dk = .dK ((dk.plugged.map fun p => (p.1, eT p.2)).map fun p => (.inl p.1, p.2)) := by
  unfold thOb mapT; rw [List.map_map]; rfl
theorem heOb_pairs (dk : Dk) : heOb dk = .dK ((dk.hcs.map fun h => (h.1, D.tup [eCs h.2.1, .int h.2.2])).map fun p => (.inl p.1, p.2)) := by
  unfold heOb; rw [List.map_map]; rfl
theorem ob_of {dk dk' : Dk} (h : dk'.hcs = dk.hcs) (p : dk'.plugged = dk.plugged) : thOb dk' = thOb dk ∧ heOb dk' = heOb dk := by
  unfold thOb heOb; rw [h, p]; exact ⟨rfl, rfl⟩
theorem answer_ev2 {dk : Dk} (c : DI dk) {n : Int} (hn : n ∈ dk.who.map (·.1)) : Ev dk ((dk.answer n).1.map (fun lt => .done n lt)) (dk.answer n).2 ∧ (dk.answer n).2.hcs = dk.hcs ∧ (dk.answer n).2.plugged = dk.plugged ∧ (dk.answer n).2.fresh = dk.fresh := by
  obtain ⟨i, x, hi, rfl⟩ := who_at hn
  have hw := whoD_at c.wn hi
  unfold Dk.answer
  rw [hw]
  cases hl : x.2.left with
  | nil => exact ⟨.none _, rfl, rfl, rfl⟩
  | cons lt rest =>
    have m : Mic dk (.done x.1 lt) (dk.did x.1 lt) := .done (List.mem_of_getElem? hi) hl
    have b := Ev.behind (.step m) c
    exact ⟨.step m, b.hcs, b.pl, b.fr⟩
/-- a number drawn picks one of a list -/
theorem pick_at {l : List Int} {v : Int} (h0 : 0 ≤ v) (h1 : v < (l.length : Int)) : ∃ n ∈ l, atI (l.map D.int) v = some (.int n) := by
  have hl : v.toNat < l.length := by omega
  have := at_ints hl
  rw [Int.toNat_of_nonneg h0] at this
  exact ⟨_, getD_mem hl, this⟩
theorem thOb_put (dk : Dk) (n : Int) (t : Th) : Ob.dK (putT (mapT kI eT dk.plugged) (kI n) (eT t)) = .dK (mapT kI eT (putT dk.plugged n t)) := by rw [putT_mapT kI_inj]
def heMap (l : List He) : List (Key × D) := l.map fun h => (kI h.1, .tup [eCs h.2.1, .int h.2.2])
theorem heMap_new {l : List He} {n : Int} (h : n ∉ l.map (·.1)) (cs : List (List Int × Int)) (r : Int) : putT (heMap l) (kI n) (.tup [eCs cs, .int r]) = heMap (l ++ [(n, cs, r)]) := by
  have : getT (heMap l) (kI n) = none := by
    refine getT_none fun z => h ?_
    unfold heMap at z
    rw [List.map_map] at z
    obtain ⟨x, hx, e⟩ := List.mem_map.mp z
    exact List.mem_map.mpr ⟨x, hx, kI_inj _ _ e⟩
  rw [putT_new _ this]
  unfold heMap; rw [List.map_append]; rfl
theorem drop_mapK {β : Type} (f : Int × β → D) (k : Int) : ∀ l : List (Int × β), dropT (l.map fun x => (kI x.1, f x)) (kI k) = (dropT l k).map fun x => (kI x.1, f x) := by
  intro l
  unfold dropT
  induction l with
  | nil => rfl
  | cons x l ih =>
    rw [List.map_cons, List.filter_cons, List.filter_cons]
    by_cases c : x.1 = k
    · rw [if_neg (by simp [c]), if_neg (by simp [c]), ih]
    · rw [if_pos (by simpa using fun z => c (kI_inj _ _ z)), if_pos (by simpa using c), List.map_cons, ih]
theorem getT_mapI {β : Type} (f : Int × β → D) {l : List (Int × β)} {x : Int × β} (nd : (l.map (·.1)).Nodup) (h : x ∈ l) : getT (l.map fun x => (kI x.1, f x)) (kI x.1) = some (f x) := by
  refine getT_nd ?_ (List.mem_map.mpr ⟨x, h, rfl⟩)
  rw [List.map_map]
  show (l.map fun x => kI x.1).Nodup
  have : (l.map fun x => kI x.1) = (l.map (·.1)).map kI := by rw [List.map_map]; rfl
  rw [this]
  exact List.Pairwise.map kI (fun a b h z => h (kI_inj a b z)) nd
end DM

namespace DM
open PySem PySem.Spec PyProof.Rows L2
/-! ### the order of names -/
theorem toPs_ints : ∀ a : List Int, toPs ((kN a).map kdD) = a.map PyData.int
  | [] => rfl
  | x :: a => congrArg (PyData.int x :: ·) (toPs_ints a)
theorem leN_eq (a b : Nm) : leN a b = decide (a ≤ b) := by
  show (!PySem.W.dataLt (toP (ktD (kN b))) (toP (ktD (kN a)))) = _
  have e : ∀ c : Nm, toP (ktD (kN c)) = .tuple (c.map PyData.int) := fun c => by
    show PyData.tuple (toPs ((kN c).map kdD)) = _
    rw [toPs_ints]
  rw [e, e, PySem.W.dataLt_tuple]
  show (!PySem.W.rowLt (b.map .int) (a.map .int)) = _
  rw [PySem.W.dataLt_ints]
  by_cases h : b < a
  · have h' : ¬ a ≤ b := fun r => List.not_lt.mpr r h
    simp [h, h']
  · have h' : a ≤ b := List.not_lt.mp h
    simp [h, h']
theorem leN_total (a b : Nm) : (leN a b || leN b a) = true := by
  rw [leN_eq, leN_eq, Bool.or_eq_true, decide_eq_true_eq, decide_eq_true_eq]
  exact List.le_total a b
theorem leN_trans (a b c : Nm) (h1 : leN a b = true) (h2 : leN b c = true) : leN a c = true := by
  rw [leN_eq, decide_eq_true_eq] at *
  exact List.le_trans h1 h2
theorem leN_anti {a b : Nm} (h1 : leN a b = true) (h2 : leN b a = true) : a = b := by
  rw [leN_eq, decide_eq_true_eq] at *
  exact List.le_antisymm h1 h2
theorem sorted_uni {α : Type} {r : α → α → Prop} (anti : ∀ a b, r a b → r b a → a = b) : ∀ {a b : List α}, a.Perm b → a.Pairwise r → b.Pairwise r → a = b
  | [], b, p, _, _ => (List.nil_perm.mp p).symm
  | x :: a, [], p, _, _ => absurd (List.perm_nil.mp p) (by simp)
  | x :: a, y :: b, p, ha, hb => by
    rw [List.pairwise_cons] at ha hb
    have e : x = y := by
      have m1 : x ∈ y :: b := p.mem_iff.mp List.mem_cons_self
      have m2 : y ∈ x :: a := p.mem_iff.mpr List.mem_cons_self
      rcases List.mem_cons.mp m1 with e | m1
      · exact e
      · rcases List.mem_cons.mp m2 with e | m2
        · exact e.symm
        · exact anti _ _ (ha.1 y m2) (hb.1 x m1)
    subst e
    rw [sorted_uni anti (p.cons_inv) ha.2 hb.2]
theorem sortN_perm (l : List Nm) : (sortN l).Perm l := List.mergeSort_perm l leN
theorem sortN_sorted (l : List Nm) : (sortN l).Pairwise fun a b => leN a b = true := List.pairwise_mergeSort leN_trans leN_total l
theorem sortN_uni {a b : List Nm} (p : a.Perm b) (hb : b.Pairwise fun a b => leN a b = true) : sortN a = b :=
  sorted_uni (fun _ _ => leN_anti) ((sortN_perm a).trans p) (sortN_sorted a) hb
theorem sortN_filter (l : List Nm) (p : Nm → Bool) : sortN (l.filter p) = (sortN l).filter p :=
  sortN_uni ((sortN_perm l).symm.filter p) ((sortN_sorted l).sublist List.filter_sublist)
theorem sortN_leD (l : List Nm) : (l.map eM).mergeSort leD = (sortN l).map eM := by
  refine (List.map_mergeSort (f := eM) (r := leN) (s := leD) (l := l) fun a _ b _ => ?_).symm
  show leK (kN a) (kN b) = leD (eM a) (eM b)
  rw [eM_key, eM_key]; rfl
/-! ### who has what, row by row -/
def HasH (dk : Dk) (h : Int) (x : Nm) : Prop := ∃ s, getT dk.states x = some (s, some h)
def Hd (dk : Dk) (h : Int) (x : Nm) : Prop := getT dk.states x = some (.held, some h) ∨ getT dk.states x = some (.leaving, some h)
theorem Hd.has {dk : Dk} {h : Int} {x : Nm} (k : Hd dk h x) : HasH dk h x := by rcases k with k | k <;> exact ⟨_, k⟩
theorem key_get {dk : Dk} {x : Nm} : x ∈ dk.keys ↔ (getT dk.states x).isSome = true := by
  constructor
  · intro h
    obtain ⟨s, hs⟩ := getT_some h
    rw [hs]; rfl
  · intro h
    cases e : getT dk.states x with
    | none => rw [e] at h; cases h
    | some s => exact getT_in e
theorem cut_get (dk : Dk) (p : Nm → Bool) (x : Nm) : getT (dk.cut p).states x = if p x = true then none else getT dk.states x := by
  cases e : p x with
  | false => rw [if_neg (fun z => by cases z)]; exact getT_filter (q := fun x => !p x) (by rw [e]; rfl) dk.states
  | true =>
    rw [if_pos rfl]
    refine getT_none fun z => ?_
    have := (mem_cut (p := p)).mp z
    rw [e] at this; cases this.2
theorem letter_get (dk : Dk) (h : Int) (lt : Lt) (s : Sta) (x : Nm) : getT (dk.letter h lt s).states x = if x = lt.2 then some (s, some h) else getT dk.states x := getT_put _ _ _ _
theorem plug_get (dk : Dk) (t : Th) (x : Nm) : getT (dk.plugPre t).states x = if x = [dk.fresh.1] then some (.free, none) else getT dk.states x := getT_put _ _ _ _
theorem unplug_get {dk : Dk} (c : DI dk) {n : Int} (hn : n ∈ dk.plugged.map (·.1)) (x : Nm) : getT (dk.unplugPre n).states x = if pre [n] x = true then none else getT dk.states x := by
  unfold Dk.unplugPre
  rw [(c.unplug hn).1]
  exact cut_get (dk.addL (.unplug n)) (pre [n]) x
theorem freeIn_get (nm : Nm) : ∀ (l : List Nm) (d : Dk) (x : Nm), getT (l.foldl (Dk.freeIn nm) d).states x = if x ∈ l ∧ x.dropLast = nm then some (.free, none) else getT d.states x
  | [], d, x => by rw [if_neg (fun z => by cases z.1)]; rfl
  | y :: l, d, x => by
    show getT (l.foldl (Dk.freeIn nm) (Dk.freeIn nm d y)).states x = _
    rw [freeIn_get nm l]
    by_cases h1 : x ∈ l ∧ x.dropLast = nm
    · rw [if_pos h1, if_pos ⟨List.mem_cons_of_mem _ h1.1, h1.2⟩]
    · rw [if_neg h1]
      unfold Dk.freeIn
      by_cases h2 : y.dropLast = nm
      · rw [if_pos h2]
        show getT (putT d.states y _) x = _
        rw [getT_put]
        by_cases h3 : x = y
        · rw [if_pos h3, if_pos ⟨by rw [h3]; exact List.mem_cons_self, by rw [h3]; exact h2⟩]
        · rw [if_neg h3, if_neg fun z => by
            rcases List.mem_cons.mp z.1 with e | e
            · exact h3 e
            · exact h1 ⟨e, z.2⟩]
      · rw [if_neg h2, if_neg fun z => by
          rcases List.mem_cons.mp z.1 with e | e
          · exact h2 (by rw [← e]; exact z.2)
          · exact h1 ⟨e, z.2⟩]
theorem takeD_get {dk : Dk} (h : Int) (nm x : Nm) : getT (dk.did h (true, nm)).states x = if x ∈ dk.marks.map (·.1) ∧ x.dropLast = nm then some (.free, none) else if x = nm then some (.held, some h) else getT dk.states x := by
  rw [did_eq, if_pos rfl, freeIn_get]
  show (if x ∈ dk.marks.map (·.1) ∧ x.dropLast = nm then _ else _) = _
  by_cases h1 : x ∈ dk.marks.map (·.1) ∧ x.dropLast = nm
  · rw [if_pos h1, if_pos h1]
  · rw [if_neg h1, if_neg h1]
    show getT (putT dk.states nm _) x = _
    rw [getT_put]
theorem leave_get {dk : Dk} (c : DI dk) {x0 : Int × HpS} (hx : x0 ∈ dk.who) {nm : Nm} {rest : List Lt} (hl : x0.2.left = (false, nm) :: rest) (x : Nm) : getT (dk.did x0.1 (false, nm)).states x = if x = nm then some (.free, none) else if und nm x = true then none else getT dk.states x := by
  have dn := c.done1 hx hl
  have hk : nm ∈ (dk.done1 x0.1 (false, nm)).keys := getT_in dn.st
  rw [did_eq, if_neg (fun z => by cases z), innerGone_cut dn.dc.toCl (by have := dn.dc.ks nm hk; show 3 ≤ nm.length + 2; omega)]
  show getT (putT ((dk.done1 x0.1 (false, nm)).cut (und nm)).states nm _) x = _
  rw [getT_put]
  by_cases h1 : x = nm
  · rw [if_pos h1, if_pos h1]
  · rw [if_neg h1, if_neg h1]
    exact cut_get (dk.done1 x0.1 (false, nm)) (und nm) x
theorem fall_get {dk : Dk} (c : DI dk) (n : Int) (x : Nm) : getT (dk.fallPre n).states x = none ∨ (getT (dk.fallPre n).states x = getT dk.states x ∧ ¬ HasH dk n x) ∨ (getT (dk.fallPre n).states x = some (.free, none) ∧ HasH dk n x) := by
  have gen : ∀ (l2 l1 : List Nm) (d : Dk), FallJ n (dk.fall0 n) l1 d → (∀ x, getT d.states x = none ∨ getT d.states x = getT dk.states x ∨ (getT d.states x = some (.free, none) ∧ HasH dk n x)) →
      ∀ x, getT (l2.foldl (Dk.fallStep n) d).states x = none ∨ getT (l2.foldl (Dk.fallStep n) d).states x = getT dk.states x ∨ (getT (l2.foldl (Dk.fallStep n) d).states x = some (.free, none) ∧ HasH dk n x) := by
    intro l2
    induction l2 with
    | nil => intro l1 d _ h; exact h
    | cons y l2 ih =>
      intro l1 d j h
      refine ih (l1 ++ [y]) _ (j.step (nm := y)) fun x => ?_
      rw [fallStep_eq j.dc]
      split
      · rename_i z
        have eg : getT ((d.cut (und y)).putS y (.free, none)).states x = if x = y then some (.free, none) else if und y x = true then none else getT d.states x := by
          show getT (putT (d.cut (und y)).states y _) x = _
          rw [getT_put, cut_get]
        rw [eg]
        by_cases h1 : x = y
        · subst h1
          rw [if_pos rfl]
          right; right
          refine ⟨rfl, ?_⟩
          obtain ⟨st, hst⟩ := getT_some z.1
          have hs : d.stOf x = st := stOf_some hst
          rw [hs] at z
          obtain ⟨sa, o⟩ := st
          have : o = some n := z.2
          subst this
          rcases h x with k | k | k
          · rw [hst] at k; cases k
          · exact ⟨sa, by rw [← k]; exact hst⟩
          · exact k.2
        · rw [if_neg h1]
          by_cases h2 : und y x = true
          · rw [if_pos h2]; exact .inl rfl
          · rw [if_neg h2]; exact h x
      · exact h x
  have j := FallJ.fold (sortN (dk.fall0 n).keys) [] _ (c.fall0 n)
  rw [List.nil_append, ← fallPre_eq] at j
  have g := gen (sortN (dk.fall0 n).keys) [] _ (c.fall0 n) (fun x => .inr (.inl rfl)) x
  rw [← fallPre_eq] at g
  rcases g with g | g | g
  · exact .inl g
  · by_cases hh : HasH dk n x
    · obtain ⟨s, hs⟩ := hh
      rw [hs] at g
      exfalso
      have hk : x ∈ (dk.fallPre n).keys := getT_in g
      have := j.no x (List.mem_mergeSort.mpr (j.sub _ hk)) hk
      rw [stOf_some g] at this
      exact this rfl
    · exact .inr (.inl ⟨g, hh⟩)
  · exact .inr (.inr g)
theorem fall_who {dk : Dk} (c : DI dk) (n : Int) : n ∉ (dk.fallPre n).who.map (·.1) := by
  have j := FallJ.fold (sortN (dk.fall0 n).keys) [] _ (c.fall0 n)
  rw [List.nil_append, ← fallPre_eq] at j
  exact j.nw
theorem DC.has_who {dk : Dk} (c : DC NoE dk) {h : Int} {x : Nm} (k : HasH dk h x) : h ∈ dk.who.map (·.1) := by
  obtain ⟨s, hs⟩ := k
  rcases c.sw _ (getT_mem hs) h rfl with z | z
  · exact z
  · exact z.elim
theorem Mic.hasH {dk d : Dk} {e : En} (m : Mic dk e d) (c : DI dk) {h : Int} (hh : h ∈ d.who.map (·.1)) {x : Nm} (k : HasH d h x) : HasH dk h x := by
  obtain ⟨s, hs⟩ := k
  cases m with
  | plug ht h6 =>
    rw [plug_get] at hs
    split at hs
    · cases hs
    · exact ⟨s, hs⟩
  | come hc h0 h4 h8 hf => exact ⟨s, hs⟩
  | unplug hn =>
    rw [unplug_get c hn] at hs
    split at hs
    · cases hs
    · exact ⟨s, hs⟩
  | @fall n hn =>
    rcases fall_get c n x with g | g | g
    · rw [g] at hs; cases hs
    · rw [g.1] at hs; exact ⟨s, hs⟩
    · rw [g.1] at hs; cases hs
  | @done x0 lt rest hx hl =>
    obtain ⟨b, nm⟩ := lt
    have l1 := c.l1 x0 hx (b, nm) (by rw [hl]; exact List.mem_cons_self)
    cases b with
    | true =>
      rw [takeD_get] at hs
      split at hs
      · cases hs
      · split at hs
        · rename_i e
          cases hs
          exact ⟨_, by rw [e]; exact l1⟩
        · exact ⟨s, hs⟩
    | false =>
      rw [leave_get c hx hl] at hs
      split at hs
      · cases hs
      · split at hs
        · cases hs
        · exact ⟨s, hs⟩
theorem used_names (dk : Dk) (c : dk.keys.Nodup) (h : Int) : ((dk.states.filter fun p => decide (p.2.2 = some h)).map (·.1)).Nodup ∧ ∀ x, x ∈ (dk.states.filter fun p => decide (p.2.2 = some h)).map (·.1) ↔ HasH dk h x := by
  refine ⟨c.sublist (List.filter_sublist.map _), fun x => ⟨fun hx => ?_, fun hx => ?_⟩⟩
  · obtain ⟨p, hp, rfl⟩ := List.mem_map.mp hx
    obtain ⟨h1, h2⟩ := List.mem_filter.mp hp
    refine ⟨p.2.1, ?_⟩
    rw [getT_nd c h1]
    have : p.2.2 = some h := of_decide_eq_true h2
    rw [← this]
  · obtain ⟨s, hs⟩ := hx
    exact List.mem_map.mpr ⟨_, List.mem_filter.mpr ⟨getT_mem hs, by simp⟩, rfl⟩
theorem used_le {dk d : Dk} (cd : dk.keys.Nodup) (c : d.keys.Nodup) {h : Int} {ex : List Nm} (k : ∀ x, HasH d h x → HasH dk h x ∨ x ∈ ex) : d.used h ≤ dk.used h + ex.length := by
  obtain ⟨a1, a2⟩ := used_names d c h
  obtain ⟨b1, b2⟩ := used_names dk cd h
  have := sub_len (m := (dk.states.filter fun p => decide (p.2.2 = some h)).map (·.1) ++ ex) a1 fun x hx => by
    rcases k x ((a2 x).mp hx) with z | z
    · exact List.mem_append_left _ ((b2 x).mpr z)
    · exact List.mem_append_right _ z
  rw [List.length_append, List.length_map, List.length_map] at this
  exact this
/-- nobody has more than its room -/
def DU (dk : Dk) : Prop := ∀ x ∈ dk.hcs, (dk.used x.1 : Int) ≤ x.2.2
theorem hcs_room {dk : Dk} (wn : (dk.who.map (·.1)).Nodup) {x : He} (hx : x ∈ dk.hcs) : (dk.whoD x.1).room = x.2.2 ∧ (dk.whoD x.1).claims = x.2.1 := by
  obtain ⟨y, hy, rfl⟩ := List.mem_map.mp hx
  obtain ⟨i, hi, e⟩ := List.mem_iff_getElem.mp hy
  have := whoD_at wn (by rw [List.getElem?_eq_getElem hi, e] : dk.who[i]? = some y)
  exact ⟨by show (dk.whoD y.1).room = _; rw [this]; rfl, by show (dk.whoD y.1).claims = _; rw [this]; rfl⟩
theorem DU.letter {dk : Dk} (u : DU dk) (c : DC NoE dk) {h : Int} {lt : Lt} (k : LtOk dk h lt) : DU (dk.letter h lt (Sta.of lt.1)) := by
  intro x hx
  rw [letter_hcs] at hx
  have c2 := (c.letter k).kn
  have hr := hcs_room c.wn hx
  cases e : lt.1 with
  | true =>
    obtain ⟨⟨o, ho⟩, h1, _⟩ := k.tk e
    by_cases z : x.1 = h
    · have : (dk.letter h lt (Sta.of lt.1)).used x.1 ≤ dk.used x.1 + [lt.2].length := used_le c.kn c2 fun y ⟨s, hs⟩ => by
        rw [letter_get] at hs
        split at hs
        · rename_i z; exact .inr (by rw [z]; simp)
        · exact .inl ⟨s, hs⟩
      rw [e] at this
      rw [← z, hr.1] at h1
      simp at this
      omega
    · have : (dk.letter h lt (Sta.of lt.1)).used x.1 ≤ dk.used x.1 + ([] : List Nm).length := used_le c.kn c2 fun y ⟨s, hs⟩ => by
        rw [letter_get] at hs
        split at hs
        · cases hs; exact absurd rfl z
        · exact .inl ⟨s, hs⟩
      rw [e] at this
      have := u x hx
      simp at *
      omega
  | false =>
    obtain ⟨h1, _⟩ := k.lv e
    have : (dk.letter h lt (Sta.of lt.1)).used x.1 ≤ dk.used x.1 + ([] : List Nm).length := used_le c.kn c2 fun y ⟨s, hs⟩ => by
      rw [letter_get] at hs
      split at hs
      · rename_i z
        cases hs
        exact .inl ⟨_, by rw [z]; exact h1⟩
      · exact .inl ⟨s, hs⟩
    rw [e] at this
    have := u x hx
    simp at *
    omega
theorem Lts.du {dk d : Dk} {es : List En} (l : Lts dk es d) (c : DC NoE dk) (u : DU dk) : DU d := by
  induction l with
  | nil dk => exact u
  | cons k _ ih => exact ih (c.letter k) (u.letter c k)
theorem aft_mem {dk d : Dk} {e : En} (m : Mic dk e d) (c : DI dk) {x : He} (hx : x ∈ d.hcs) : x ∈ dk.hcs ∨ (x.1 ∉ dk.who.map (·.1) ∧ 0 ≤ x.2.2) := by
  have b := m.behind c
  rw [b.hcs] at hx
  cases m with
  | come hc h0 h4 h8 hf =>
    rcases List.mem_append.mp hx with hx | hx
    · exact .inl hx
    · have : x = _ := List.mem_singleton.mp hx
      subst this
      refine .inr ⟨fun z => ?_, h0⟩
      obtain ⟨p, hp, e⟩ := List.mem_map.mp z
      have := (c.wf p hp).2
      have e : p.1 = dk.fresh.2 := e
      omega
  | fall hn => exact .inl ((List.mem_filter.mp hx).1)
  | plug _ _ => exact .inl hx
  | unplug _ => exact .inl hx
  | done _ _ => exact .inl hx
theorem Mic.du {dk d : Dk} {e : En} (m : Mic dk e d) (c : DI dk) (u : DU dk) : DU d := by
  intro x hx
  have c2 := (m.ok c).1
  have hk : x.1 ∈ d.who.map (·.1) := by rw [← hcs_keys]; exact List.mem_map.mpr ⟨x, hx, rfl⟩
  have le : d.used x.1 ≤ dk.used x.1 + ([] : List Nm).length := used_le c.kn c2.kn fun y k => .inl (m.hasH c hk k)
  rcases aft_mem m c hx with h | h
  · have := u x h
    simp at le
    omega
  · have : dk.used x.1 = 0 := by
      obtain ⟨b1, b2⟩ := used_names dk c.kn x.1
      unfold Dk.used
      rw [← List.length_map (f := (·.1)), List.length_eq_zero_iff, List.eq_nil_iff_forall_not_mem]
      intro y hy
      exact h.1 (c.toDC.has_who ((b2 y).mp hy))
    simp at le
    omega
theorem Ev.du {dk d : Dk} {e : Option En} (v : Ev dk e d) (c : DI dk) (u : DU dk) : DU d := by
  cases v with
  | none => exact u
  | step m =>
    have c1 := (m.ok c).1
    obtain ⟨es, l⟩ := think_lts c1.toDC.dl
    exact l.du c1.toDC (m.du c u)
/-! #### what is had -/
theorem Lts.hd {dk d : Dk} {es : List En} (l : Lts dk es d) (h : Int) (x : Nm) : Hd d h x ↔ Hd dk h x := by
  induction l with
  | nil dk => exact Iff.rfl
  | @cons dk h0 lt es d k _ ih =>
    rw [ih]
    unfold Hd
    rw [letter_get]
    by_cases e : x = lt.2
    · rw [if_pos e, e]
      cases eb : lt.1 with
      | true =>
        obtain ⟨⟨o, ho⟩, _⟩ := k.tk eb
        rw [ho]
        constructor <;> intro z <;> rcases z with z | z <;> cases z
      | false =>
        obtain ⟨ho, _⟩ := k.lv eb
        rw [ho]
        constructor <;> intro z <;> rcases z with z | z <;> cases z
        · exact .inl rfl
        · exact .inr rfl
    · rw [if_neg e]
theorem Lts.keys {dk d : Dk} {es : List En} (l : Lts dk es d) : d.keys = dk.keys := by
  induction l with
  | nil dk => rfl
  | @cons dk h0 lt es d k _ ih =>
    rw [ih]
    refine letter_keys ?_
    cases eb : lt.1 with
    | true => obtain ⟨⟨o, ho⟩, _⟩ := k.tk eb; exact getT_in ho
    | false => exact getT_in (k.lv eb).1
def HdA (dk : Dk) (e : En) (h : Int) (x : Nm) : Prop := match e with
  | .done g lt => if lt.1 = true then Hd dk h x ∨ (h = g ∧ x = lt.2) else Hd dk h x ∧ x ≠ lt.2
  | _ => Hd dk h x
theorem Hd.key {dk : Dk} {h : Int} {x : Nm} (k : Hd dk h x) : x ∈ dk.keys := by rcases k with k | k <;> exact getT_in k
theorem Mic.hd {dk d : Dk} {e : En} (m : Mic dk e d) (c : DI dk) {h : Int} (hh : h ∈ d.who.map (·.1)) (x : Nm) : Hd d h x ↔ x ∈ d.keys ∧ HdA dk e h x := by
  rw [key_get]
  cases m with
  | @plug t ht h6 =>
    show Hd _ h x ↔ _ ∧ Hd dk h x
    unfold Hd
    rw [plug_get]
    by_cases e : x = [dk.fresh.1]
    · rw [if_pos e]
      constructor
      · intro z; rcases z with z | z <;> cases z
      · intro z
        exfalso
        have hk := Hd.key (dk := dk) (h := h) (x := x) z.2
        have := c.toDC.noF (c.km x hk)
        exact this (by rw [e]; exact List.prefix_refl _)
    · rw [if_neg e]
      exact ⟨fun z => ⟨by rcases z with z | z <;> rw [z] <;> rfl, z⟩, fun z => z.2⟩
  | come hc h0 h4 h8 hf =>
    show Hd dk h x ↔ _ ∧ Hd dk h x
    exact ⟨fun z => ⟨key_get.mp z.key, z⟩, fun z => z.2⟩
  | @unplug n hn =>
    show Hd _ h x ↔ _ ∧ Hd dk h x
    unfold Hd
    rw [unplug_get c hn]
    split
    · exact ⟨(fun z => by rcases z with z | z <;> cases z), fun z => (by cases z.1)⟩
    · exact ⟨fun z => ⟨by rcases z with z | z <;> rw [z] <;> rfl, z⟩, fun z => z.2⟩
  | @fall n hn =>
    show Hd _ h x ↔ _ ∧ Hd dk h x
    have ne : h ≠ n := fun z => fall_who c n (z ▸ hh)
    unfold Hd
    rcases fall_get c n x with g | g | g
    · rw [g]
      exact ⟨(fun z => by rcases z with z | z <;> cases z), fun z => (by cases z.1)⟩
    · rw [g.1]
      exact ⟨fun z => ⟨by rcases z with z | z <;> rw [z] <;> rfl, z⟩, fun z => z.2⟩
    · rw [g.1]
      obtain ⟨s, hs⟩ := g.2
      rw [hs]
      constructor
      · intro z; rcases z with z | z <;> cases z
      · intro z
        exfalso
        rcases z.2 with z | z <;> cases z <;> exact ne rfl
  | @done x0 lt rest hx hl =>
    obtain ⟨b, nm⟩ := lt
    have l1 := c.l1 x0 hx (b, nm) (by rw [hl]; exact List.mem_cons_self)
    cases b with
    | true =>
      show Hd _ h x ↔ _ ∧ (Hd dk h x ∨ (h = x0.1 ∧ x = nm))
      have nch : x.dropLast = nm → x.length ≠ 1 → getT dk.states x = none := fun e h1 => by
        cases k : getT dk.states x with
        | none => rfl
        | some s =>
          obtain ⟨s2, e1, e2⟩ := c.ch x (getT_in k) h1
          rw [e] at e1
          have l1 : getT dk.states nm = some (Sta.taking, some x0.1) := l1
          rw [l1] at e1
          cases e1
          rcases e2 with e2 | e2 <;> cases e2
      have hn1 := (c.toDC.ks nm (getT_in l1)).1
      unfold Hd
      rw [takeD_get]
      by_cases e : x ∈ dk.marks.map (·.1) ∧ x.dropLast = nm
      · rw [if_pos e]
        have hl : x.dropLast.length = x.length - 1 := List.length_dropLast
        have h1 : x.length ≠ 1 := fun z => by rw [e.2] at hl; omega
        rw [nch e.2 h1]
        constructor
        · intro z; rcases z with z | z <;> cases z
        · rintro ⟨_, z | z⟩
          · rcases z with z | z <;> cases z
          · exfalso
            have : x.dropLast = x := by rw [e.2, z.2]
            rw [this] at hl
            rw [z.2] at hl; omega
      · rw [if_neg e]
        by_cases e2 : x = nm
        · rw [if_pos e2]
          constructor
          · intro z
            refine ⟨rfl, .inr ?_⟩
            rcases z with z | z <;> cases z
            exact ⟨rfl, e2⟩
          · rintro ⟨_, z | z⟩
            · rw [e2] at z
              have l1 : getT dk.states nm = some (Sta.taking, some x0.1) := l1
              rw [l1] at z
              rcases z with z | z <;> cases z
            · rw [z.1]; exact .inl rfl
        · rw [if_neg e2]
          constructor
          · intro z; exact ⟨by rcases z with z | z <;> rw [z] <;> rfl, .inl z⟩
          · rintro ⟨_, z | z⟩
            · exact z
            · exact absurd z.2 e2
    | false =>
      show Hd _ h x ↔ _ ∧ (Hd dk h x ∧ x ≠ nm)
      unfold Hd
      rw [leave_get c hx hl]
      by_cases e : x = nm
      · rw [if_pos e]
        exact ⟨(fun z => by rcases z with z | z <;> cases z), fun z => absurd e z.2.2⟩
      · rw [if_neg e]
        by_cases e2 : und nm x = true
        · rw [if_pos e2]
          exact ⟨(fun z => by rcases z with z | z <;> cases z), fun z => (by cases z.1)⟩
        · rw [if_neg e2]
          exact ⟨fun z => ⟨by rcases z with z | z <;> rw [z] <;> rfl, z, e⟩, fun z => z.2.1⟩
end DM

namespace DM
open PySem PySem.Spec PyProof.Rows L2
/-! ### d == {}, list(d), x in xs, xs * k, slices, len(set(xs)) -/
theorem hu65 {X : Cx} {k : Nat} (hr : Room k X.A) : X.A.units + 65 < cLine := by
  have := hr.un
  omega
section
variable {X : Cx}
theorem op_ne_dE (hu : X.A.units < cLine) : OpR X (compareOp .NotEq) (fun x y H Q => ∃ a b ks, x = .ref a ∧ y = .ref b ∧ H a = some (.dK ks) ∧ H b = some (.dK []) ∧ Q (.bl (!ks.isEmpty)) H) := by
  intro pins s σ H x y v u Q I rx ry h
  obtain ⟨a, b, ks, rfl, rfl, ea, eb, q⟩ := h
  obtain rfl : v = Value.ref a := rx
  obtain rfl : u = Value.ref b := ry
  obtain ⟨_, ya, va, ra, da⟩ := (show ObjOk X.prog X.w H s.heap a (.dK ks) from I.hok a _ ea)
  obtain ⟨_, yb, vb, rb, db⟩ := (show ObjOk X.prog X.w H s.heap b (.dK []) from I.hok b _ eb)
  have l1 : va.length = ks.length := ra.length.symm
  have l2 : vb.length = 0 := rb.length.symm
  cases ks with
  | nil => exact PySem.W.keq_ne (knd := mixKind X.prog X.w) (r := true) ya yb da db hu (fun _ => hits_all rb ra (fun _ h => by cases h)) (fin_bl I q (by rw [l1, l2]; rfl))
  | cons p ks => exact PySem.W.keq_ne (knd := mixKind X.prog X.w) (r := false) ya yb da db hu (fun e => by rw [l1, l2] at e; cases e) (fin_bl I q (by simp))
theorem op_eq_dE (hu : X.A.units < cLine) : OpR X (compareOp .Eq) (fun x y H Q => ∃ a b ks, x = .ref a ∧ y = .ref b ∧ H a = some (.dK ks) ∧ H b = some (.dK []) ∧ Q (.bl ks.isEmpty) H) := by
  intro pins s σ H x y v u Q I rx ry h
  obtain ⟨a, b, ks, rfl, rfl, ea, eb, q⟩ := h
  obtain rfl : v = Value.ref a := rx
  obtain rfl : u = Value.ref b := ry
  obtain ⟨_, ya, va, ra, da⟩ := (show ObjOk X.prog X.w H s.heap a (.dK ks) from I.hok a _ ea)
  obtain ⟨_, yb, vb, rb, db⟩ := (show ObjOk X.prog X.w H s.heap b (.dK []) from I.hok b _ eb)
  have l1 : va.length = ks.length := ra.length.symm
  have l2 : vb.length = 0 := rb.length.symm
  cases ks with
  | nil => exact PySem.W.keq_eq (knd := mixKind X.prog X.w) (r := true) ya yb da db hu (fun _ => hits_all rb ra (fun _ h => by cases h)) (fin_bl I q (by rw [l1, l2]; rfl))
  | cons p ks => exact PySem.W.keq_eq (knd := mixKind X.prog X.w) (r := false) ya yb da db hu (fun e => by rw [l1, l2] at e; cases e) (fin_bl I q (by simp))
end
section
variable {X : Cx} {S : Store} {Q : D → Store → Prop} {l m : Nat}
theorem dE_rd {F : List Addr} {H : Hp} {ks : List (Key × D)} {vx vy : V} (rs : RS F H S) (hl : S[l]? = some (.dK ks)) (hm : S[m]? = some (.dK [])) (rx : RD F H (.loc l) vx) (ry : RD F H (.loc m) vy) : ∃ a b vs, vx = .ref a ∧ vy = .ref b ∧ H a = some (.dK vs) ∧ H b = some (.dK []) ∧ vs.isEmpty = ks.isEmpty := by
  obtain ⟨a, rfl, ha⟩ := rx
  obtain ⟨b, rfl, hb⟩ := ry
  obtain ⟨a', u, h1, h2, vs, rfl, h4⟩ := rs.get hl
  obtain ⟨b', u2, g1, g2, vs2, rfl, g4⟩ := rs.get hm
  rw [ha] at h1; cases h1
  rw [hb] at g1; cases g1
  cases (show vs2 = [] from g4)
  refine ⟨a, b, vs, rfl, rfl, h2, g2, ?_⟩
  have := h4.length
  cases ks <;> cases vs <;> first | rfl | (simp at this)
theorem BW.neDE {ks : List (Key × D)} (hl : S[l]? = some (.dK ks)) (hm : S[m]? = some (.dK [])) (hu : X.A.units + 64 < cLine) (h : Q (.bl (!ks.isEmpty)) S) : BW X (compareOp .NotEq) (.loc l) (.loc m) S Q := BW.of (op_ne_dE (by omega)) fun F H vx vy Q' rs rx ry k => by
  obtain ⟨a, b, vs, rfl, rfl, h1, h2, h3⟩ := dE_rd rs hl hm rx ry
  exact ⟨a, b, vs, rfl, rfl, h1, h2, by rw [h3]; exact k.nowB rs h⟩
theorem BW.eqDE {ks : List (Key × D)} (hl : S[l]? = some (.dK ks)) (hm : S[m]? = some (.dK [])) (hu : X.A.units + 64 < cLine) (h : Q (.bl ks.isEmpty) S) : BW X (compareOp .Eq) (.loc l) (.loc m) S Q := BW.of (op_eq_dE (by omega)) fun F H vx vy Q' rs rx ry k => by
  obtain ⟨a, b, vs, rfl, rfl, h1, h2, h3⟩ := dE_rd rs hl hm rx ry
  exact ⟨a, b, vs, rfl, rfl, h1, h2, by rw [h3]; exact k.nowB rs h⟩
/-- list(d) -/
theorem RKs.kds {F : List Addr} {H : Hp} : ∀ {kvs : List (Key × D)} {vs : List (Key × V)}, RKs F H kvs vs → RDs F H (kvs.map fun kv => kdD kv.1) (vs.map fun kv => kV kv.1)
  | [], _, h => by cases (show _ = [] from h); rfl
  | kv :: kvs, _, h => by
    obtain ⟨v, r, rfl, _, h2⟩ := h
    refine ⟨kV kv.1, _, rfl, ?_, RKs.kds h2⟩
    obtain ⟨k, x⟩ := kv
    cases k <;> rfl
theorem CW.listDK {kvs : List (Key × D)} (hl : S[l]? = some (.dK kvs)) (hc : X.calm = true) (h : Q (.loc S.length) (S ++ [.lst (kvs.map fun kv => kdD kv.1)])) : CW X (.type "list") [.loc l] S Q := CW.of (call_listD hc) fun F H vs Q' rs r k => by
  obtain ⟨v, r', rfl, ⟨a, rfl, ha⟩, h2⟩ := r
  cases (show r' = [] from h2)
  obtain ⟨a', u, h1, h2, ws, rfl, h4⟩ := rs.get hl
  rw [ha] at h1; cases h1
  refine ⟨a, ws, rfl, .inl h2, fun p hp => ?_⟩
  exact k (F ++ [p]) (.loc S.length) (.ref p) _ _ ⟨[p], rfl⟩ (Keep.new hp) (rs.new (o := .lst (kvs.map fun kv => kdD kv.1)) hp ⟨_, rfl, h4.kds⟩) ⟨p, rfl, by rw [← rs.len]; simp⟩ h
/-- x in xs, pure data -/
theorem any_eqv {x : D} {xs : List D} (hx : pv 60 x = true) (hxs : ∀ y ∈ xs, pv 60 y = true) : ((toPs xs).any fun z => PyData.eqv z (toP x)) = decide (x ∈ xs) := by
  induction xs with
  | nil => rfl
  | cons y ys ih =>
    show (PyData.eqv (toP y) (toP x) || (toPs ys).any fun z => PyData.eqv z (toP x)) = _
    rw [ih fun z hz => hxs z (List.mem_cons_of_mem _ hz), pv_eqv 60 y x (hxs y List.mem_cons_self) hx]
    by_cases h : y = x
    · subst h; simp
    · by_cases h2 : x ∈ ys
      · simp [h2]
      · simp [h, h2, Ne.symm h]
theorem pvs_shaped {S : Store} {xs : List D} (h : ∀ y ∈ xs, pv 60 y = true) : SeqAt.shaped (.list (toPs xs)) = true := by
  obtain ⟨_, h2, h3⟩ := pvs_pd S xs h
  exact shaped_of (by simpa [PyData.canLay0] using h2) (by show PyData.depthAll (toPs xs) + 1 ≤ 64; omega)
theorem BW.inLD {x : D} {xs : List D} (hl : S[l]? = some (.lst xs)) (hx : pv 60 x = true) (hxs : ∀ y ∈ xs, pv 60 y = true) (hu : X.A.units + 65 < cLine) (h : Q (.bl (decide (x ∈ xs))) S) : BW X (compareOp .In) x (.loc l) S Q := BW.of (op_inD hu) fun F H vx vy Q' rs rx ry k => by
  obtain ⟨p1, p2, p3⟩ := pv_pd S 60 x hx
  obtain ⟨q1, q2, q3⟩ := pvs_pd S xs hxs
  have hy : PD S (.loc l) (.list (toPs xs)) := .lst hl q1
  refine ⟨toP x, toPs xs, p1.dp rs _ _ _ rx, hy.dp rs _ _ _ ry, shaped_of p2 (by omega), pvs_shaped (S := S) hxs, ?_⟩
  rw [any_eqv hx hxs]
  exact k.nowB rs h
theorem BW.notInLD {x : D} {xs : List D} (hl : S[l]? = some (.lst xs)) (hx : pv 60 x = true) (hxs : ∀ y ∈ xs, pv 60 y = true) (hu : X.A.units + 65 < cLine) (h : Q (.bl (!decide (x ∈ xs))) S) : BW X (compareOp .NotIn) x (.loc l) S Q := BW.of (op_notInD hu) fun F H vx vy Q' rs rx ry k => by
  obtain ⟨p1, p2, p3⟩ := pv_pd S 60 x hx
  obtain ⟨q1, q2, q3⟩ := pvs_pd S xs hxs
  have hy : PD S (.loc l) (.list (toPs xs)) := .lst hl q1
  refine ⟨toP x, toPs xs, p1.dp rs _ _ _ rx, hy.dp rs _ _ _ ry, shaped_of p2 (by omega), pvs_shaped (S := S) hxs, ?_⟩
  rw [any_eqv hx hxs]
  exact k.nowB rs h
/-- [x] * k -/
theorem RDs.rep {F : List Addr} {H : Hp} {xs : List D} {vs : List V} (r : RDs F H xs vs) : ∀ n : Nat, RDs F H (List.replicate n xs).flatten (List.replicate n vs).flatten
  | 0 => rfl
  | n + 1 => by
    rw [List.replicate_succ, List.replicate_succ, List.flatten_cons, List.flatten_cons]
    exact RDs.append r (RDs.rep r n)
theorem BW.repL {xs : List D} {i : Int} (hl : S[l]? = some (.lst xs)) (h0 : -(2 ^ 63) ≤ i) (h1 : i < 2 ^ 63) (hz : xs.length * i.toNat ≤ sizeLine) (h : Q (.loc S.length) (S ++ [.lst (List.replicate i.toNat xs).flatten])) : BW X (binaryOp .Mult) (.loc l) (.int i) S Q := BW.of op_rep fun F H vx vy Q' rs rx ry k => by
  obtain ⟨a, rfl, ha⟩ := rx
  cases (show vy = .int i from ry)
  obtain ⟨a', u, e1, e2, vs, rfl, e4⟩ := rs.get hl
  rw [ha] at e1; cases e1
  have el := e4.length
  refine ⟨a, i, vs, rfl, rfl, e2, h0, h1, by rw [el]; exact hz, fun p hp => ?_⟩
  exact k (F ++ [p]) (.loc S.length) (.ref p) _ _ ⟨[p], rfl⟩ (Keep.new hp) (rs.new (o := .lst (List.replicate i.toNat xs).flatten) hp ⟨_, rfl, e4.rep _⟩) ⟨p, rfl, by rw [← rs.len]; simp⟩ h
end
/-! #### slices -/
section
variable {X : Cx} {S : Store} {v : Fv} {e : Expr} {lo hi : Option Expr} {pos p2 : Pos}
theorem WO.none {Q : Option Int → Store → Prop} (h : Q none S) : WO X none v S Q := fun F t H Q' re rs k => wO_of po_none (k F Option.none H S (List.prefix_refl F) (Keep.refl H) rs h)
theorem WO.some {Q : Option Int → Store → Prop} (h : WE X e v S fun d S1 => ∃ i, d = .int i ∧ Q (some i) S1) : WO X (some e) v S Q := fun F t H Q' re rs k => by
  refine wO_of (po_some pe_w) ?_
  refine h F t H _ re rs fun F1 d u H1 S1 p1 k1 rs1 r1 h1 => ?_
  obtain ⟨i, rfl, q⟩ := h1
  cases r1
  exact ⟨i, rfl, k F1 _ H1 S1 p1 k1 rs1 q⟩
def cutD {α : Type} (xs : List α) (lo hi : Option Int) : List α := (xs.drop (HT.sIx xs.length 0 lo)).take (HT.sIx xs.length xs.length hi - HT.sIx xs.length 0 lo)
theorem RDs.cutD {F : List Addr} {H : Hp} {xs : List D} {vs : List V} (r : RDs F H xs vs) (lo hi : Option Int) : RDs F H (cutD xs lo hi) (cutV vs lo hi) := by
  unfold DM.cutD cutV
  rw [r.length]
  exact (r.drop _).take _
theorem cutD_map {α β : Type} (f : α → β) (xs : List α) (lo hi : Option Int) : cutD (xs.map f) lo hi = (cutD xs lo hi).map f := by
  unfold cutD
  rw [List.length_map, List.map_take, List.map_drop]
theorem cutD_from {α : Type} (xs : List α) (n : Nat) : cutD xs (some (n : Int)) none = xs.drop n := by
  unfold cutD
  rw [HT.sIx_nat, HT.sIx_none]
  by_cases h : n ≤ xs.length
  · rw [Nat.min_eq_left h, List.take_of_length_le (by rw [List.length_drop]; omega)]
  · rw [Nat.min_eq_right (by omega), List.drop_of_length_le (by omega), List.drop_of_length_le (by omega)]; simp
theorem cutD_to {α : Type} (xs : List α) (n : Nat) : cutD xs none (some (n : Int)) = xs.take n := by
  unfold cutD
  rw [HT.sIx_nat, HT.sIx_none]
  by_cases h : n ≤ xs.length
  · rw [Nat.min_eq_left h]; rfl
  · rw [Nat.min_eq_right (by omega), List.take_of_length_le (by omega : xs.length ≤ n), List.drop_zero, List.take_of_length_le (by omega)]
/-- xs[lo:hi] -/
theorem WE.slL {Q : D → Store → Prop} (h : WE X e v S fun d S1 => WO X lo v S1 fun a S2 => WO X hi v S2 fun b S3 => ∃ l xs, d = .loc l ∧ S3[l]? = some (.lst xs) ∧ Q (.loc S3.length) (S3 ++ [.lst (cutD xs a b)])) : WE X (.Subscript e (.Slice lo hi none p2) pos) v S Q := fun F t H Q' re rs k => by
  refine wE_of (pe_slice sl_list pe_w po_w po_w) ?_
  refine h F t H _ re rs fun F1 d u H1 S1 p1 k1 rs1 r1 h1 => ?_
  refine h1 F1 t H1 _ (re.mono p1 k1) rs1 fun F2 a H2 S2 p2' k2 rs2 h2 => ?_
  refine h2 F2 t H2 _ (re.mono (p1.trans p2') (k1.trans k2)) rs2 fun F3 b H3 S3 p3 k3 rs3 h3 => ?_
  obtain ⟨l, xs, rfl, hl, q⟩ := h3
  obtain ⟨ad, rfl, ha⟩ := RD.mono (p2'.trans p3) (k2.trans k3) _ _ r1
  obtain ⟨a', u', e1, e2, vs, rfl, e4⟩ := rs3.get hl
  rw [ha] at e1; cases e1
  refine ⟨ad, vs, rfl, SqL.of e2, fun p hp => ?_⟩
  exact k (F3 ++ [p]) (.loc S3.length) (.ref p) _ _ (((p1.trans p2').trans p3).trans ⟨[p], rfl⟩) (((k1.trans k2).trans k3).trans (Keep.new hp)) (rs3.new (o := .lst (cutD xs a b)) hp ⟨_, rfl, e4.cutD a b⟩) ⟨p, rfl, by rw [← rs3.len]; simp⟩ q
/-- t[lo:hi], a tuple -/
theorem WE.slTA {Q : D → Store → Prop} (h : WE X e v S fun d S1 => WO X lo v S1 fun a S2 => WO X hi v S2 fun b S3 => ∃ xs, d = .tup xs ∧ Q (.tup (cutD xs a b)) S3) : WE X (.Subscript e (.Slice lo hi none p2) pos) v S Q := fun F t H Q' re rs k => by
  refine wE_of (pe_slice sl_tupA pe_w po_w po_w) ?_
  refine h F t H _ re rs fun F1 d u H1 S1 p1 k1 rs1 r1 h1 => ?_
  refine h1 F1 t H1 _ (re.mono p1 k1) rs1 fun F2 a H2 S2 p2' k2 rs2 h2 => ?_
  refine h2 F2 t H2 _ (re.mono (p1.trans p2') (k1.trans k2)) rs2 fun F3 b H3 S3 p3 k3 rs3 h3 => ?_
  obtain ⟨xs, rfl, q⟩ := h3
  obtain ⟨ad, vs, rfl, e1, e2⟩ := RD.mono (p2'.trans p3) (k2.trans k3) _ _ r1
  have el : vs.length = xs.length := e2.length
  refine ⟨ad, vs, rfl, SqT.of e1, fun z => ?_, fun z p hp => ?_⟩
  · have ec : cutD xs a b = xs := by
      unfold cutD
      rw [el] at z
      rw [z.1, z.2]; simp
    rw [ec] at q
    exact k F3 (.tup xs) _ _ _ ((p1.trans p2').trans p3) ((k1.trans k2).trans k3) rs3 ⟨ad, vs, rfl, e1, e2⟩ q
  · have kp : Keep H3 (upd H3 p (.tup (cutV vs a b))) := Keep.new hp
    exact k F3 (.tup _) (.ref p) _ _ ((p1.trans p2').trans p3) (((k1.trans k2).trans k3).trans kp) (rs3.other hp) ⟨p, _, rfl, upd_same, RDs.mono (List.prefix_refl F3) kp _ _ (e2.cutD a b)⟩ q
end
/-! #### len(set(xs)), xs a list of tuples of ints, none twice -/
section
variable {X : Cx}
def tLenSetN (K : PySem.W.Frag) (ta : TE) : TE := fun σ H Q => ta σ H fun x H1 => ∃ (l : Addr) (ks : List (Addr × List Int)), x = V.ref l ∧ SqL K H1 l (ks.map fun p => V.ref p.1) ∧ (∀ p ∈ ks, SqT K H1 p.1 (p.2.map V.int)) ∧ ks.length < 64 ∧ (ks.map (·.2)).Nodup ∧ Q (.int ks.length) H1
theorem nodup_len {α β : Type} {f : α → β} {a b : List α} (ha : (a.map f).Nodup) (hb : (b.map f).Nodup) (h1 : ∀ p ∈ a, p ∈ b) (h2 : ∀ p ∈ b, f p ∈ a.map f) : a.length = b.length := by
  have : (a.map f).Perm (b.map f) := by
    rw [List.perm_ext_iff_of_nodup ha hb]
    intro x
    constructor
    · intro hx
      obtain ⟨p, hp, rfl⟩ := List.mem_map.mp hx
      exact List.mem_map.mpr ⟨p, h1 p hp, rfl⟩
    · intro hx
      obtain ⟨p, hp, rfl⟩ := List.mem_map.mp hx
      exact h2 p hp
  have := this.length_eq
  rwa [List.length_map, List.length_map] at this
theorem pe_lenSetN {a : Expr} {ta : TE} {p p2 q pos : Pos} (hc : X.calm = true) (hu : X.A.units + 64 < cLine) (hg : Gl X "len") (hm : X.mg "len" = none) (hg2 : Gl X "set") (hm2 : X.mg "set" = none) (ha : PE X a ta)
    (na : starEach [a] X.env = (false, eval a X.env) :: starEach [] X.env := by rfl) : PE X (.Call (.Name "len" p) [.Call (.Name "set" p2) [a] [] q] [] pos) (tLenSetN X.K ta) := by
  refine ⟨fun pins s σ H Q I h => ?_⟩
  refine Call_ (ld_blt I hg hm PySem.boot_len ?_)
  refine PyProof.Rows.callWith_builtin1 (PyProof.Rows.args_cons ?_ rfl) rfl rfl
  refine Call_ (ld_blt I hg2 hm2 PyProof.Rows.boot_set ?_)
  refine PyProof.Rows.callWith_type1 (PyProof.Rows.args_cons (thn (ha.run pins s σ H _ I h) fun v s1 ⟨x, H1, I1, r1, q1⟩ => PyProof.Rows.args_nil ?_) na) na rfl
  obtain ⟨l, ks, rfl, hq, hk, h1, hnd, q1⟩ := q1
  cases r1
  obtain ⟨its, rv, pl, hz⟩ := I1.list hq
  refine call_set_tups (P := X.prog) (w := X.w) ks (I1.ok.hd hc) pl.isList (by simpa using refs_of_vals rv) (fun p hp => I1.isT (hk p hp)) h1 (by omega) fun h' tk L es ep t R g k => ?_
  refine PyProof.Rows.args_nil ?_
  have hsz : es.size = L.length := by
    have h := congrArg List.length R.rows
    unfold L2.rowsOf at h
    rw [Array.length_toList, List.length_map] at h
    exact h
  have hlen : L.length = ks.length := nodup_len (f := fun p : Addr × List Int => p.2) R.nd hnd (fun p hp => List.mem_of_mem_take (g.sub p hp)) (fun p hp => g.all p (by rw [List.take_length]; exact hp))
  obtain ⟨o, ho, hex, hd⟩ := R.ob
  have I2 : Inv X pins σ H1 { s1 with heap := h', toks := tk } := I1.kept fun b o e => k b o e
  have hf : t.fits es.size = true := by
    have h1 := R.tab.sz
    rw [List.length_map] at h1
    have h3 := R.room
    unfold SetTable.fits SetTable.fill
    rw [R.tab.dm, Bool.and_eq_true, beq_iff_eq, decide_eq_true_eq]
    show t.place.size = es.size ∧ t.place.size + 0 ≤ t.mask
    omega
  refine call_len_set ho hex hd hf (by omega) ⟨.int ks.length, H1, I2.tok _, ⟨_, by rw [hsz, hlen]⟩, q1⟩
end
section
variable {X : Cx} {S : Store} {Q : D → Store → Prop} {v : Fv} {a : Expr} {p p2 q pos : Pos}
theorem names_rd {F : List Addr} {H : Hp} : ∀ {ns : List (List Int)} {vs : List V}, RDs F H (ns.map eM) vs → ∃ ks : List (Addr × List Int), vs = ks.map (fun p => V.ref p.1) ∧ ks.map (·.2) = ns ∧ ∀ p ∈ ks, H p.1 = some (.tup (p.2.map V.int))
  | [], _, h => by cases (show _ = [] from h); exact ⟨[], rfl, rfl, fun _ h => by cases h⟩
  | n :: ns, _, h => by
    obtain ⟨v, r, rfl, ⟨b, us, rfl, h1, h2⟩, h3⟩ := h
    obtain ⟨ks, rfl, i1, i2⟩ := names_rd h3
    rw [ints_rd h2] at h1
    refine ⟨(b, n) :: ks, rfl, by rw [List.map_cons, i1], fun p hp => ?_⟩
    rcases List.mem_cons.mp hp with rfl | hp
    · exact h1
    · exact i2 p hp
theorem WE.lenSet (h : WE X a v S fun d S1 => ∃ (l : Nat) (ns : List (List Int)), d = .loc l ∧ S1[l]? = some (.lst (ns.map eM)) ∧ ns.length < 64 ∧ ns.Nodup ∧ Q (.int ns.length) S1) (hc : X.calm = true) (hu : X.A.units + 64 < cLine) (hm : X.mg "len" = none) (hm2 : X.mg "set" = none) (hg : Gl X "len" := by rfl) (hg2 : Gl X "set" := by rfl)
    (na : starEach [a] X.env = (false, eval a X.env) :: starEach [] X.env := by rfl) : WE X (.Call (.Name "len" p) [.Call (.Name "set" p2) [a] [] q] [] pos) v S Q := fun F t H Q' re rs k => by
  refine wE_of (pe_lenSetN hc hu hg hm hg2 hm2 pe_w na) ?_
  refine h F t H _ re rs fun F1 d u H1 S1 p1 k1 rs1 r1 h1 => ?_
  obtain ⟨l, ns, rfl, hl, h64, nd, q⟩ := h1
  obtain ⟨ad, rfl, ha⟩ := r1
  obtain ⟨a', u', e1, e2, vs, rfl, e4⟩ := rs1.get hl
  rw [ha] at e1; cases e1
  obtain ⟨ks, rfl, i1, i2⟩ := names_rd e4
  have il : ks.length = ns.length := by rw [← i1, List.length_map]
  refine ⟨ad, ks, rfl, SqL.of e2, fun p hp => SqT.of (i2 p hp), by omega, by rw [i1]; exact nd, ?_⟩
  rw [il]
  exact k F1 (.int (ns.length : Nat)) _ _ _ p1 k1 rs1 rfl q
end
end DM

namespace DM
open PySem PySem.Spec PyProof.Rows L2
/-! ### hands: what each helper has by what it did, lists by helpers' numbers, each at its place -/
abbrev HL := List (Int × List Nm × Nat)
def hdKV (H : HL) : List (Key × D) := H.map fun x => (kI x.1, .loc x.2.2)
def hdOb (H : HL) : Ob := .dK (hdKV H)
def hdO (H : HL) : List (Nat × Ob) := H.map fun x => (x.2.2, .lst (x.2.1.map eM))
def hands (H : HL) : List (Int × List Nm) := H.map fun x => (x.1, x.2.1)
theorem hands_keys (H : HL) : (hands H).map (·.1) = H.map (·.1) := by unfold hands; rw [List.map_map]; rfl
theorem hdKV_put (H : HL) (n : Int) (x : List Nm × Nat) : putT (hdKV H) (kI n) (.loc x.2) = hdKV (putT H n x) := putT_mapT (e := fun x : List Nm × Nat => D.loc x.2) kI_inj H n x
theorem hdKV_get (H : HL) (n : Int) : getT (hdKV H) (kI n) = (getT H n).map fun x => .loc x.2 := getT_mapT (e := fun x : List Nm × Nat => D.loc x.2) kI_inj H n
theorem hands_put (H : HL) (n : Int) (x : List Nm × Nat) : hands (putT H n x) = putT (hands H) n x.1 := (putT_mapT (g := fun n : Int => n) (e := fun x : List Nm × Nat => x.1) (fun _ _ h => h) H n x).symm
theorem hands_get (H : HL) (n : Int) : getT (hands H) n = (getT H n).map (·.1) := getT_mapT (g := fun n : Int => n) (e := fun x : List Nm × Nat => x.1) (fun _ _ h => h) H n
theorem putT_keys_nd {κ β : Type} [DecidableEq κ] {kvs : List (κ × β)} {k : κ} {v : β} (nd : (kvs.map (·.1)).Nodup) : ((putT kvs k v).map (·.1)).Nodup := by
  cases e : getT kvs k with
  | some x => rw [putT_keys_mem kvs k v (by rw [e]; rfl)]; exact nd
  | none =>
    rw [putT_new _ e, List.map_append, List.nodup_append]
    have h := getT_keys (kvs := kvs) (k := k)
    rw [e] at h
    refine ⟨nd, by simp, fun a ha b hb z => ?_⟩
    simp at hb
    subst hb; subst z
    rw [decide_eq_true ha] at h; cases h
theorem putT_split {κ β : Type} [DecidableEq κ] : ∀ {kvs : List (κ × β)} {k : κ} (_ : (kvs.map (·.1)).Nodup) (_ : (getT kvs k).isSome = true), ∃ A x B, kvs = A ++ (k, x) :: B ∧ ∀ v, putT kvs k v = A ++ (k, v) :: B
  | [], k, _, h => by cases h
  | p :: kvs, k, nd, h => by
    rw [List.map_cons, List.nodup_cons] at nd
    by_cases e : p.1 = k
    · refine ⟨[], p.2, kvs, by rw [← e]; rfl, fun v => ?_⟩
      unfold putT
      rw [if_pos (by simp [e]), List.map_cons, if_pos e, List.nil_append]
      congr 1
      · rw [e]
      · have : ∀ q ∈ kvs, (if q.1 = k then (q.1, v) else q) = q := fun q hq => if_neg fun z => nd.1 (by rw [e, ← z]; exact List.mem_map.mpr ⟨q, hq, rfl⟩)
        rw [List.map_congr_left this, List.map_id']
    · rw [getT_cons, if_neg e] at h
      obtain ⟨A, x, B, h1, h2⟩ := putT_split nd.2 h
      refine ⟨p :: A, x, B, by rw [h1]; rfl, fun v => ?_⟩
      have hk : (kvs.any fun kv => decide (kv.1 = k)) = true := by rw [any_getT]; exact h
      have h3 := h2 v
      unfold putT at h3 ⊢
      rw [if_pos hk] at h3
      rw [if_pos (by rw [List.any_cons, hk]; simp), List.map_cons, if_neg e, h3]; rfl
section
variable {CD CH : Addr} {S : Store} {l : Nat} {a : At} {dk : Dk} {dr : Dr} {O : List (Nat × Ob)} {kD p : Nat} {o1 o2 : Nat × Ob} {H : HL}
/-- a list of a helper's is put -/
theorem Wd.hput {ns : List Nm} (W : Wd CD CH S l a dk dr ((p, .lst (ns.map eM)) :: o1 :: o2 :: (kD, hdOb H) :: (hdO H ++ O))) (nd : (H.map (·.1)).Nodup) (n : Int) :
    Wd CD CH (S.set kD (hdOb (putT H n (ns, p)))) l a dk dr (o1 :: o2 :: (kD, hdOb (putT H n (ns, p))) :: (hdO (putT H n (ns, p)) ++ O)) := by
  have pm : ∀ (x : Nat × Ob) (r : List (Nat × Ob)), (x :: (p, Ob.lst (ns.map eM)) :: o1 :: o2 :: r).Perm ((p, Ob.lst (ns.map eM)) :: o1 :: o2 :: x :: r) := fun x r => by
    have := (List.perm_middle (a := x) (l₁ := [(p, Ob.lst (ns.map eM)), o1, o2]) (l₂ := r)).symm
    exact this
  have W1 := (W.perm (pm (kD, hdOb H) (hdO H ++ O))).put (hdOb (putT H n (ns, p)))
  have W2 : Wd CD CH (S.set kD (hdOb (putT H n (ns, p)))) l a dk dr (o1 :: o2 :: (kD, hdOb (putT H n (ns, p))) :: (p, Ob.lst (ns.map eM)) :: (hdO H ++ O)) := by
    refine W1.perm ?_
    have := List.perm_middle (a := (p, Ob.lst (ns.map eM))) (l₁ := [o1, o2, (kD, hdOb (putT H n (ns, p)))]) (l₂ := hdO H ++ O)
    refine this.trans ?_
    have h2 := (List.perm_middle (a := (kD, hdOb (putT H n (ns, p)))) (l₁ := [(p, Ob.lst (ns.map eM)), o1, o2]) (l₂ := hdO H ++ O))
    exact h2
  cases e : getT H n with
  | none =>
    rw [putT_new _ e] at W2 ⊢
    refine W2.perm (List.Perm.cons _ (List.Perm.cons _ (List.Perm.cons _ ?_)))
    show (hdO (H ++ [(n, ns, p)]) ++ O).Perm _
    unfold hdO
    rw [List.map_append, List.append_assoc]
    exact List.perm_middle
  | some x =>
    obtain ⟨A, y, B, h1, h2⟩ := putT_split nd (k := n) (by rw [e]; rfl)
    rw [h2] at W2 ⊢
    rw [h1] at W2
    have : (o1 :: o2 :: (kD, hdOb (A ++ (n, ns, p) :: B)) :: (hdO (A ++ (n, ns, p) :: B) ++ O)).Perm (o1 :: o2 :: (kD, hdOb (A ++ (n, ns, p) :: B)) :: (p, Ob.lst (ns.map eM)) :: ((hdO A ++ hdO B) ++ O)) := by
      refine List.Perm.cons _ (List.Perm.cons _ (List.Perm.cons _ ?_))
      unfold hdO
      rw [List.map_append, List.map_cons, List.append_assoc, List.append_assoc]
      exact List.perm_middle
    refine (W2.sub ?_).perm this
    refine List.Sublist.cons_cons _ (List.Sublist.cons_cons _ (List.Sublist.cons_cons _ (List.Sublist.cons_cons _ ?_)))
    unfold hdO
    rw [List.map_append, List.map_cons]
    exact ((List.Sublist.refl _).append (List.sublist_cons_self _ _)).append (List.Sublist.refl _)
end
/-! #### what they are to be -/
def doneStep (hs : List (Int × List Nm)) : En → List (Int × List Nm)
  | .come n _ _ => putT hs n []
  | .done h lt => match getT hs h with
    | none => hs
    | some l => putT hs h (l.filter (fun x => decide (x ≠ lt.2)) ++ if lt.1 = true then [lt.2] else [])
  | _ => hs
def hasF (dk : Dk) (hs : List (Int × List Nm)) : List (Int × List Nm) := hs.map fun x => (x.1, x.2.filter fun nm => decide (nm ∈ dk.keys) && decide (x.1 ∈ dk.who.map (·.1)))
structure HInv (dk : Dk) (hs : List (Int × List Nm)) : Prop where
  nd : (hs.map (·.1)).Nodup
  hs : ∀ h ∈ dk.who.map (·.1), ∃ l, getT hs h = some l ∧ l.Nodup ∧ ∀ x, x ∈ l ↔ Hd dk h x
theorem hasF_get (dk : Dk) (hs : List (Int × List Nm)) (h : Int) : getT (hasF dk hs) h = (getT hs h).map fun l => l.filter fun nm => decide (nm ∈ dk.keys) && decide (h ∈ dk.who.map (·.1)) := by
  unfold hasF
  induction hs with
  | nil => rfl
  | cons p hs ih =>
    rw [List.map_cons, getT_cons, getT_cons]
    by_cases e : p.1 = h
    · rw [if_pos e, if_pos e, ← e]; rfl
    · rw [if_neg e, if_neg e, ih]
theorem hasF_keys (dk : Dk) (hs : List (Int × List Nm)) : (hasF dk hs).map (·.1) = hs.map (·.1) := by unfold hasF; rw [List.map_map]; rfl
theorem doneStep_nd {hs : List (Int × List Nm)} (nd : (hs.map (·.1)).Nodup) (e : En) : ((doneStep hs e).map (·.1)).Nodup := by
  unfold doneStep
  split
  · exact putT_keys_nd nd
  · split
    · exact nd
    · exact putT_keys_nd nd
  · exact nd
theorem done_letters {hs : List (Int × List Nm)} : ∀ {es : List En}, (∀ e ∈ es, ∃ h lt, e = .letter h lt) → es.foldl doneStep hs = hs
  | [], _ => rfl
  | e :: es, h => by
    obtain ⟨g, lt, rfl⟩ := h e List.mem_cons_self
    exact done_letters (hs := hs) (es := es) fun x hx => h x (List.mem_cons_of_mem _ hx)
theorem HInv.mic {dk d : Dk} {e : En} {hs : List (Int × List Nm)} (i : HInv dk hs) (m : Mic dk e d) (c : DI dk) {h : Int} (hh : h ∈ d.who.map (·.1)) : ∃ l, getT (doneStep hs e) h = some l ∧ l.Nodup ∧ ∀ x, x ∈ l ↔ HdA dk e h x := by
  have old : h ∈ dk.who.map (·.1) ∨ ∃ cs r, e = .come h cs r := by
    rw [← hcs_keys] at hh
    obtain ⟨x, hx, rfl⟩ := List.mem_map.mp hh
    rw [(m.behind c).hcs] at hx
    cases m with
    | come hc h0 h4 h8 hf =>
      rcases List.mem_append.mp hx with hx | hx
      · exact .inl (by rw [← hcs_keys]; exact List.mem_map.mpr ⟨x, hx, rfl⟩)
      · have : x = _ := List.mem_singleton.mp hx
        subst this
        exact .inr ⟨_, _, rfl⟩
    | fall hn => exact .inl (by rw [← hcs_keys]; exact List.mem_map.mpr ⟨x, (List.mem_filter.mp hx).1, rfl⟩)
    | plug _ _ => exact .inl (by rw [← hcs_keys]; exact List.mem_map.mpr ⟨x, hx, rfl⟩)
    | unplug _ => exact .inl (by rw [← hcs_keys]; exact List.mem_map.mpr ⟨x, hx, rfl⟩)
    | done _ _ => exact .inl (by rw [← hcs_keys]; exact List.mem_map.mpr ⟨x, hx, rfl⟩)
  cases m with
  | @come cs r hc h0 h4 h8 hf =>
    show ∃ l, getT (putT hs dk.fresh.2 []) h = some l ∧ _ ∧ ∀ x, x ∈ l ↔ Hd dk h x
    rw [getT_put]
    by_cases e : h = dk.fresh.2
    · rw [if_pos e]
      refine ⟨[], rfl, List.nodup_nil, fun x => ⟨(fun z => by cases z), fun z => ?_⟩⟩
      exfalso
      obtain ⟨p, hp, e2⟩ := List.mem_map.mp (c.toDC.has_who z.has)
      have := (c.wf p hp).2
      omega
    · rw [if_neg e]
      rcases old with o | ⟨cs', r', o⟩
      · exact i.hs h o
      · cases o; exact absurd rfl e
  | plug ht h6 =>
    rcases old with o | ⟨cs', r', o⟩
    · exact i.hs h o
    · cases o
  | unplug hn =>
    rcases old with o | ⟨cs', r', o⟩
    · exact i.hs h o
    · cases o
  | fall hn =>
    rcases old with o | ⟨cs', r', o⟩
    · exact i.hs h o
    · cases o
  | @done x0 lt rest hx hl =>
    rcases old with o | ⟨cs', r', o⟩
    · obtain ⟨l0, g0, n0, m0⟩ := i.hs x0.1 (List.mem_map.mpr ⟨x0, hx, rfl⟩)
      obtain ⟨l, g, n, mm⟩ := i.hs h o
      have l1 := c.l1 x0 hx lt (by rw [hl]; exact List.mem_cons_self)
      have ed : doneStep hs (.done x0.1 lt) = putT hs x0.1 (l0.filter (fun x => decide (x ≠ lt.2)) ++ if lt.1 = true then [lt.2] else []) := by
        show (match getT hs x0.1 with | none => hs | some l => _) = _
        rw [g0]
      rw [ed]
      show ∃ l, getT (putT hs x0.1 _) h = some l ∧ _ ∧ ∀ x, x ∈ l ↔ (if lt.1 = true then Hd dk h x ∨ (h = x0.1 ∧ x = lt.2) else Hd dk h x ∧ x ≠ lt.2)
      rw [getT_put]
      by_cases e : h = x0.1
      · rw [if_pos e]
        subst e
        rw [g0] at g
        cases g
        cases eb : lt.1 with
        | true =>
          rw [if_pos rfl]
          have hn : lt.2 ∉ l0 := fun z => by
            have := (m0 _).mp z
            rw [eb] at l1
            rcases this with z | z <;> rw [l1] at z <;> cases z
          have ef : l0.filter (fun x => decide (x ≠ lt.2)) = l0 := List.filter_eq_self.mpr fun x hx => decide_eq_true fun z => hn (z ▸ hx)
          rw [ef]
          refine ⟨_, rfl, List.nodup_append.mpr ⟨n0, by simp, fun a ha b hb z => ?_⟩, fun x => ?_⟩
          · simp at hb; subst hb; subst z; exact hn ha
          · rw [if_pos rfl, List.mem_append, m0, List.mem_singleton]
            exact ⟨fun z => z.imp id fun z => ⟨rfl, z⟩, fun z => z.imp id fun z => z.2⟩
        | false =>
          rw [if_neg (fun z => by cases z), List.append_nil]
          refine ⟨_, rfl, n0.sublist List.filter_sublist, fun x => ?_⟩
          rw [if_neg (fun z => by cases z), List.mem_filter, m0]
          simp
      · rw [if_neg e]
        refine ⟨l, g, n, fun x => ?_⟩
        rw [mm]
        cases eb : lt.1 with
        | true =>
          rw [if_pos rfl]
          exact ⟨.inl, fun z => z.elim id fun z => absurd z.1 e⟩
        | false =>
          rw [if_neg (fun z => by cases z)]
          refine ⟨fun z => ⟨z, fun y => ?_⟩, fun z => z.1⟩
          rw [eb] at l1
          rw [y] at z
          rcases z with z | z
          · rw [l1] at z; cases z
          · rw [l1] at z
            cases z
            exact e rfl
    · cases o
theorem HInv.ev {dk d : Dk} {e : Option En} {hs : List (Int × List Nm)} (i : HInv dk hs) (v : Ev dk e d) (c : DI dk) {es : List En} (hes : ∀ x ∈ es, ∃ h lt, x = .letter h lt) : HInv d (hasF d ((e.toList ++ es).foldl doneStep hs)) := by
  rw [List.foldl_append, done_letters hes]
  refine ⟨?_, fun h hh => ?_⟩
  · rw [hasF_keys]
    cases e with
    | none => exact i.nd
    | some e => exact doneStep_nd i.nd e
  · rw [hasF_get]
    cases v with
    | none =>
      obtain ⟨l, g, n, m⟩ := i.hs h hh
      refine ⟨_, by rw [show (none : Option En).toList.foldl doneStep hs = hs from rfl, g]; rfl, n.sublist List.filter_sublist, fun x => ?_⟩
      rw [List.mem_filter, m]
      refine ⟨fun z => z.1, fun z => ⟨z, ?_⟩⟩
      rw [decide_eq_true z.key, decide_eq_true hh]; rfl
    | @step d e m =>
      have c1 := (m.ok c).1
      obtain ⟨es2, lt⟩ := think_lts c1.toDC.dl
      have ek : d.think.keys = d.keys := lt.keys
      have ew : d.think.who.map (·.1) = d.who.map (·.1) := by rw [← hcs_keys, ← hcs_keys, lt.hcs]
      rw [ew] at hh
      obtain ⟨l, g, n, mm⟩ := i.mic m c hh
      refine ⟨_, by rw [show (some e).toList.foldl doneStep hs = doneStep hs e from rfl, g]; rfl, n.sublist List.filter_sublist, fun x => ?_⟩
      rw [List.mem_filter, mm, lt.hd, m.hd c hh, ek, ew, decide_eq_true hh, Bool.and_true, decide_eq_true_eq, and_comm]
/-! #### and what follows -/
theorem HInv.holds {dk : Dk} {hs : List (Int × List Nm)} (i : HInv dk hs) (kn : dk.keys.Nodup) {h : Int} (hh : h ∈ dk.who.map (·.1)) {l : List Nm} (g : getT hs h = some l) : sortN l = dk.holds h := by
  obtain ⟨l', g', n, m⟩ := i.hs h hh
  rw [g] at g'
  cases g'
  unfold Dk.holds
  refine sortN_uni ?_ ((sortN_sorted _).sublist List.filter_sublist)
  rw [List.perm_ext_iff_of_nodup n (((sortN_perm _).nodup_iff.mpr kn).sublist List.filter_sublist)]
  intro x
  rw [m, List.mem_filter, (sortN_perm _).mem_iff, Bool.or_eq_true, decide_eq_true_eq, decide_eq_true_eq]
  constructor
  · intro z
    refine ⟨z.key, ?_⟩
    rcases z with z | z <;> rw [stOf_some z] <;> simp
  · rintro ⟨z1, z2⟩
    obtain ⟨s, hs⟩ := getT_some z1
    rw [stOf_some hs] at z2
    unfold Hd
    rw [hs]
    rcases z2 with z2 | z2 <;> rw [z2] <;> simp
theorem HInv.room {dk : Dk} {hs : List (Int × List Nm)} (i : HInv dk hs) (kn : dk.keys.Nodup) (u : DU dk) {x : He} (hx : x ∈ dk.hcs) {l : List Nm} (g : getT hs x.1 = some l) : (l.length : Int) ≤ x.2.2 := by
  obtain ⟨l', g', n, m⟩ := i.hs x.1 (by rw [← hcs_keys]; exact List.mem_map.mpr ⟨x, hx, rfl⟩)
  rw [g] at g'
  cases g'
  obtain ⟨b1, b2⟩ := used_names dk kn x.1
  have := sub_len (m := (dk.states.filter fun p => decide (p.2.2 = some x.1)).map (·.1)) n fun y hy => (b2 y).mpr ((m y).mp hy).has
  rw [List.length_map] at this
  have h2 := u x hx
  unfold Dk.used at h2
  omega
/-- all that is had, helper by helper -/
def allHad (hs : List (Int × List Nm)) (ns : List Int) : List Nm := ns.flatMap fun n => (getT hs n).getD []
theorem allHad_mem {dk : Dk} {hs : List (Int × List Nm)} (i : HInv dk hs) {ns : List Int} (hn : ∀ n ∈ ns, n ∈ dk.who.map (·.1)) {x : Nm} : x ∈ allHad hs ns ↔ ∃ n ∈ ns, Hd dk n x := by
  unfold allHad
  rw [List.mem_flatMap]
  constructor
  · rintro ⟨n, h1, h2⟩
    obtain ⟨l, g, _, m⟩ := i.hs n (hn n h1)
    rw [g] at h2
    exact ⟨n, h1, (m x).mp h2⟩
  · rintro ⟨n, h1, h2⟩
    obtain ⟨l, g, _, m⟩ := i.hs n (hn n h1)
    exact ⟨n, h1, by rw [g]; exact (m x).mpr h2⟩
theorem allHad_nd {dk : Dk} {hs : List (Int × List Nm)} (i : HInv dk hs) : ∀ {ns : List Int}, ns.Nodup → (∀ n ∈ ns, n ∈ dk.who.map (·.1)) → (allHad hs ns).Nodup
  | [], _, _ => List.nodup_nil
  | n :: ns, nd, hn => by
    rw [List.nodup_cons] at nd
    obtain ⟨l, g, n0, m⟩ := i.hs n (hn n List.mem_cons_self)
    show (((getT hs n).getD []) ++ allHad hs ns).Nodup
    rw [g]
    refine List.nodup_append.mpr ⟨n0, allHad_nd i nd.2 fun k hk => hn k (List.mem_cons_of_mem _ hk), fun a ha b hb z => ?_⟩
    subst z
    have h1 := (m a).mp ha
    obtain ⟨k, hk, h2⟩ := (allHad_mem i fun k hk => hn k (List.mem_cons_of_mem _ hk)).mp hb
    have : k = n := by
      rcases h1 with h1 | h1 <;> rcases h2 with h2 | h2 <;> rw [h1] at h2 <;> cases h2 <;> rfl
    exact nd.1 (this ▸ hk)
theorem allHad_len {dk : Dk} {hs : List (Int × List Nm)} (i : HInv dk hs) (c : DC NoE dk) (u : DU dk) : ∀ {ns : List Int}, (∀ n ∈ ns, n ∈ dk.who.map (·.1)) → (allHad hs ns).length ≤ 4 * ns.length
  | [], _ => Nat.le_refl _
  | n :: ns, hn => by
    show (((getT hs n).getD []) ++ allHad hs ns).length ≤ _
    have h1 := hn n List.mem_cons_self
    obtain ⟨l, g, n0, m⟩ := i.hs n h1
    rw [← hcs_keys] at h1
    obtain ⟨x, hx, rfl⟩ := List.mem_map.mp h1
    have r := i.room c.kn u hx g
    obtain ⟨y, hy, e⟩ := List.mem_map.mp hx
    have := (c.ho y hy).2.2
    have e2 : x.2.2 = y.2.room := by rw [← e]; rfl
    have ih := allHad_len i c u fun k hk => hn k (List.mem_cons_of_mem _ hk)
    rw [g, List.length_append, List.length_cons]
    show l.length + _ ≤ _
    omega
theorem allHad_up {dk : Dk} {hs : List (Int × List Nm)} (i : HInv dk hs) (c : DC NoE dk) {ns : List Int} (hn : ∀ n, n ∈ ns ↔ n ∈ dk.who.map (·.1)) {x : Nm} (hx : x ∈ allHad hs ns) (h1 : x.length ≠ 1) : x.dropLast ∈ allHad hs ns := by
  obtain ⟨n, hn1, h2⟩ := (allHad_mem i fun n h => (hn n).mp h).mp hx
  obtain ⟨s, e1, e2⟩ := c.ch x h2.key h1
  obtain ⟨sa, o⟩ := s
  obtain ⟨g, hg⟩ : ∃ g, o = some g := by
    cases e : o with
    | none => exact absurd e (c.sh _ (getT_mem e1) (by rcases e2 with z | z <;> (show sa ≠ _; rw [show sa = _ from z]; intro y; cases y)))
    | some g => exact ⟨g, rfl⟩
  subst hg
  refine (allHad_mem i fun n h => (hn n).mp h).mpr ⟨g, (hn g).mpr (c.has_who ⟨_, e1⟩), ?_⟩
  rcases e2 with z | z
  · have : sa = .held := z
    subst this; exact .inl e1
  · have : sa = .leaving := z
    subst this; exact .inr e1
theorem assoc_eq {κ β : Type} [DecidableEq κ] : ∀ {a b : List (κ × β)}, (a.map (·.1)).Nodup → a.map (·.1) = b.map (·.1) → (∀ k ∈ a.map (·.1), getT a k = getT b k) → a = b
  | [], b, _, h, _ => by
    cases b with
    | nil => rfl
    | cons y b => cases h
  | x :: a, [], _, h, _ => by cases h
  | x :: a, y :: b, nd, h, g => by
    rw [List.map_cons, List.nodup_cons] at nd
    rw [List.map_cons, List.map_cons] at h
    obtain ⟨h1, h2⟩ := List.cons.inj h
    have g1 := g x.1 (by simp)
    rw [getT_cons, getT_cons, if_pos rfl, if_pos h1.symm] at g1
    have e : x = y := Prod.ext h1 (Option.some.inj g1)
    subst e
    have ih := assoc_eq (a := a) (b := b) nd.2 h2 fun k hk => by
      have := g k (by rw [List.map_cons]; exact List.mem_cons_of_mem _ hk)
      have ne : ¬ x.1 = k := fun z => nd.1 (by rw [z]; exact hk)
      rw [getT_cons, getT_cons, if_neg ne, if_neg ne] at this
      exact this
    rw [ih]
theorem HInv.small {d : Dk} {hs : List (Int × List Nm)} (i : HInv d (hasF d hs)) (c : DC NoE d) : ∀ x ∈ hasF d hs, x.2.length ≤ 78 := by
  intro x hx
  by_cases h : x.1 ∈ d.who.map (·.1)
  · obtain ⟨l, g, n, m⟩ := i.hs x.1 h
    rw [getT_nd i.nd hx] at g
    cases g
    exact Nat.le_trans (sub_len n fun y hy => ((m y).mp hy).key) c.kc
  · obtain ⟨y, hy, rfl⟩ := List.mem_map.mp (show x ∈ hs.map _ from hx)
    have h' : y.1 ∉ d.who.map (·.1) := h
    have : (y.2.filter fun nm => decide (nm ∈ d.keys) && decide (y.1 ∈ d.who.map (·.1))) = [] := by
      rw [List.filter_eq_nil_iff]
      intro z _ k
      rw [Bool.and_eq_true] at k
      exact h' (of_decide_eq_true k.2)
    show (y.2.filter fun nm => decide (nm ∈ d.keys) && decide (y.1 ∈ d.who.map (·.1))).length ≤ 78
    rw [this]; simp
theorem emptyDU : DU emptyDk := fun _ h => by cases h
theorem emptyHInv : HInv emptyDk [] := ⟨List.nodup_nil, fun _ h => by cases h⟩
theorem Wd.init {CD CH : Addr} {S : Store} {l : Nat} {a : At} {dk : Dk} {dr : Dr} (H : DeskAt CD CH S a dk) (el : a.l = l) (hG : ∃ G, S = dS dr [] ++ G) (h2 : ∀ j ∈ a.all, (dS dr []).length ≤ j) : Wd CD CH S l a dk dr [] := by
  obtain ⟨G, rfl⟩ := hG
  exact ⟨rfl, rfl, el, H, h2, fun _ h => (by cases h), List.nodup_nil⟩
theorem cutD_init {nm : Nm} (h : 1 ≤ nm.length) : cutD (nm.map D.int) none (some (-1)) = nm.dropLast.map D.int := by
  rw [cutD_map]
  unfold cutD
  rw [HT.sIx_none, sIx_init h, List.drop_zero, Nat.sub_zero, List.dropLast_eq_take]
theorem doneStep_bd (hs : List (Int × List Nm)) (e : En) {m : Nat} (h : ∀ x ∈ hs, x.2.length ≤ m) : (doneStep hs e).length ≤ hs.length + 1 ∧ ∀ x ∈ doneStep hs e, x.2.length ≤ m + 1 := by
  have same : hs.length ≤ hs.length + 1 ∧ ∀ x ∈ hs, x.2.length ≤ m + 1 := ⟨by omega, fun x hx => by have := h x hx; omega⟩
  cases e with
  | come n cs r =>
    show (putT hs n []).length ≤ _ ∧ ∀ x ∈ putT hs n [], _
    refine ⟨putT_len _ _ _, fun x hx => ?_⟩
    rcases mem_putT hx with hx | rfl
    · have := h x hx; omega
    · simp
  | done n lt =>
    cases hg : getT hs n with
    | none =>
      have e0 : doneStep hs (.done n lt) = hs := by
        show (match getT hs n with | none => hs | some l => _) = _
        rw [hg]
      rw [e0]; exact same
    | some l =>
      have e0 : doneStep hs (.done n lt) = putT hs n (l.filter (fun x => decide (x ≠ lt.2)) ++ if lt.1 = true then [lt.2] else []) := by
        show (match getT hs n with | none => hs | some l => _) = _
        rw [hg]
      rw [e0]
      refine ⟨putT_len _ _ _, fun x hx => ?_⟩
      rcases mem_putT hx with hx | rfl
      · have := h x hx; omega
      · have h1 : l.length ≤ m := h _ (getT_mem hg)
        have h2 : (l.filter fun x => decide (x ≠ lt.2)).length ≤ l.length := List.length_filter_le _ _
        show (l.filter (fun x => decide (x ≠ lt.2)) ++ if lt.1 = true then [lt.2] else []).length ≤ m + 1
        rw [List.length_append]
        split
        · rw [List.length_singleton]; omega
        · rw [List.length_nil]; omega
  | plug _ _ => exact same
  | unplug _ => exact same
  | fall _ => exact same
  | letter _ _ => exact same
theorem rows_bd (hs : List (Int × List Nm)) (e : Option En) {es : List En} (hes : ∀ x ∈ es, ∃ h lt, x = .letter h lt) {m : Nat} (h : ∀ x ∈ hs, x.2.length ≤ m) : ((e.toList ++ es).foldl doneStep hs).length ≤ hs.length + 1 ∧ ∀ x ∈ (e.toList ++ es).foldl doneStep hs, x.2.length ≤ m + 1 := by
  rw [List.foldl_append, done_letters hes]
  cases e with
  | none => exact ⟨Nat.le_succ _, fun x hx => Nat.le_succ_of_le (h x hx)⟩
  | some e => exact doneStep_bd hs e h
/-- name[:-1] -/
theorem WE.slI {X : Cx} {S : Store} {Q : D → Store → Prop} {v : Fv} {e hi : Expr} {pos p2 : Pos} (h : WE X e v S fun d S1 => WE X hi v S1 fun j S2 => ∃ nm : Nm, d = eM nm ∧ j = .int (-1) ∧ 1 ≤ nm.length ∧ Q (eM nm.dropLast) S2) : WE X (.Subscript e (.Slice none (some hi) none p2) pos) v S Q := by
  refine WE.slTA (h.mono fun d S1 h1 => WO.none (WO.some (h1.mono fun j S2 ⟨nm, e1, e2, hn, q⟩ => ⟨-1, e2, nm.map D.int, e1, ?_⟩)))
  rw [cutD_init hn]; exact q
end DM

namespace DM
open PySem PySem.Spec PyProof.Rows L2
/-! ### the order of rows -/
def rowLe (a b : Row) : Prop := a.1 < b.1 ∨ (a.1 = b.1 ∧ (a.2.1 < b.2.1 ∨ (a.2.1 = b.2.1 ∧ (a.2.2.1 < b.2.2.1 ∨ (a.2.2.1 = b.2.2.1 ∧ a.2.2.2 ≤ b.2.2.2)))))
theorem eqv_nm (a b : Nm) : PyData.eqv (.tuple (a.map PyData.int)) (.tuple (b.map PyData.int)) = decide (a = b) := by
  have h := pv_eqv 60 (eM a) (eM b) (pv_nm a) (pv_nm b)
  have e : ∀ c : Nm, toP (eM c) = .tuple (c.map PyData.int) := fun c => by
    rw [eM_key]
    show PyData.tuple (toPs ((kN c).map kdD)) = _
    rw [toPs_ints]
  rw [e, e] at h
  rw [h]
  by_cases k : a = b
  · rw [decide_eq_true k, decide_eq_true (by rw [k])]
  · rw [decide_eq_false k, decide_eq_false fun z => k ?_]
    have z : D.tup (a.map .int) = D.tup (b.map .int) := z
    have z := D.tup.inj z
    exact (List.map_inj_right (f := D.int) fun x y h => D.int.inj h).mp z
theorem rowLt_atom (i j : Int) (xs ys : List PyData) : PySem.W.rowLt (.int i :: xs) (.int j :: ys) = if i = j then PySem.W.rowLt xs ys else decide (i < j) := by
  unfold PySem.W.rowLt
  rw [PySem.W.dataLt_cons (by simp [PySem.W.alike]), PySem.W.dataLt_int]
  simp only [PyData.eqv, beq_iff_eq]
theorem rowLt_nm (a b : Nm) : PySem.W.rowLt [.tuple (a.map .int)] [.tuple (b.map .int)] = decide (a < b) := by
  unfold PySem.W.rowLt
  have al : PySem.W.alike (.tuple (a.map .int)) (.tuple (b.map .int)) = true := by
    rw [PySem.W.alike]; exact ints_alike a b
  rw [PySem.W.dataLt_cons al, eqv_nm, PySem.W.dataLt_tuple]
  show (if decide (a = b) = true then PySem.W.rowLt [] [] else PySem.W.rowLt (a.map .int) (b.map .int)) = _
  rw [PySem.W.dataLt_ints]
  by_cases k : a = b
  · subst k
    rw [if_pos (by simp)]
    have : PySem.W.rowLt [] [] = false := PyProof.Rows.lex_irrefl _
    rw [this]
    have : ¬ a < a := List.lt_irrefl a
    simp [this]
  · rw [if_neg (by simpa using k)]
theorem row_toP (r : Row) : toP (rowD r) = .tuple [.int r.1, .int r.2.1, .int r.2.2.1, .tuple (r.2.2.2.map PyData.int)] := by
  show PyData.tuple [.int r.1, .int r.2.1, .int r.2.2.1, toP (eM r.2.2.2)] = _
  rw [eM_key]
  show PyData.tuple [.int r.1, .int r.2.1, .int r.2.2.1, .tuple (toPs ((kN r.2.2.2).map kdD))] = _
  rw [toPs_ints]
theorem leR_iff (a b : Row) : leR a b = true ↔ rowLe a b := by
  show (!PySem.W.dataLt (toP (rowD b)) (toP (rowD a))) = true ↔ _
  rw [row_toP, row_toP, PySem.W.dataLt_tuple]
  show (!PySem.W.rowLt [.int b.1, .int b.2.1, .int b.2.2.1, .tuple (b.2.2.2.map PyData.int)] [.int a.1, .int a.2.1, .int a.2.2.1, .tuple (a.2.2.2.map PyData.int)]) = true ↔ _
  rw [rowLt_atom, rowLt_atom, rowLt_atom, rowLt_nm]
  unfold rowLe
  by_cases h1 : b.1 = a.1
  · rw [if_pos h1]
    by_cases h2 : b.2.1 = a.2.1
    · rw [if_pos h2]
      by_cases h3 : b.2.2.1 = a.2.2.1
      · rw [if_pos h3]
        rw [Bool.not_eq_true', decide_eq_false_iff_not, List.not_lt]
        constructor
        · intro h; exact .inr ⟨h1.symm, .inr ⟨h2.symm, .inr ⟨h3.symm, h⟩⟩⟩
        · rintro (h | ⟨_, h | ⟨_, h | ⟨_, h⟩⟩⟩)
          · omega
          · omega
          · omega
          · exact h
      · rw [if_neg h3, Bool.not_eq_true', decide_eq_false_iff_not]
        constructor
        · intro h; exact .inr ⟨h1.symm, .inr ⟨h2.symm, .inl (by omega)⟩⟩
        · rintro (h | ⟨_, h | ⟨_, h | ⟨h, _⟩⟩⟩) <;> omega
    · rw [if_neg h2, Bool.not_eq_true', decide_eq_false_iff_not]
      constructor
      · intro h; exact .inr ⟨h1.symm, .inl (by omega)⟩
      · rintro (h | ⟨_, h | ⟨h, _⟩⟩) <;> omega
  · rw [if_neg h1, Bool.not_eq_true', decide_eq_false_iff_not]
    constructor
    · intro h; exact .inl (by omega)
    · rintro (h | ⟨h, _⟩) <;> omega
theorem leR_total (a b : Row) : (leR a b || leR b a) = true := by
  rw [Bool.or_eq_true, leR_iff, leR_iff]
  unfold rowLe
  rcases Int.lt_trichotomy a.1 b.1 with h | h | h
  · exact .inl (.inl h)
  · rcases Int.lt_trichotomy a.2.1 b.2.1 with h2 | h2 | h2
    · exact .inl (.inr ⟨h, .inl h2⟩)
    · rcases Int.lt_trichotomy a.2.2.1 b.2.2.1 with h3 | h3 | h3
      · exact .inl (.inr ⟨h, .inr ⟨h2, .inl h3⟩⟩)
      · rcases List.le_total a.2.2.2 b.2.2.2 with h4 | h4
        · exact .inl (.inr ⟨h, .inr ⟨h2, .inr ⟨h3, h4⟩⟩⟩)
        · exact .inr (.inr ⟨h.symm, .inr ⟨h2.symm, .inr ⟨h3.symm, h4⟩⟩⟩)
      · exact .inr (.inr ⟨h.symm, .inr ⟨h2.symm, .inl h3⟩⟩)
    · exact .inr (.inr ⟨h.symm, .inl h2⟩)
  · exact .inr (.inl h)
theorem leR_trans (a b c : Row) (h1 : leR a b = true) (h2 : leR b c = true) : leR a c = true := by
  rw [leR_iff] at *
  unfold rowLe at *
  rcases h1 with h1 | ⟨e1, h1⟩ <;> rcases h2 with h2 | ⟨f1, h2⟩
  · exact .inl (by omega)
  · exact .inl (by omega)
  · exact .inl (by omega)
  · refine .inr ⟨by omega, ?_⟩
    rcases h1 with h1 | ⟨e2, h1⟩ <;> rcases h2 with h2 | ⟨f2, h2⟩
    · exact .inl (by omega)
    · exact .inl (by omega)
    · exact .inl (by omega)
    · refine .inr ⟨by omega, ?_⟩
      rcases h1 with h1 | ⟨e3, h1⟩ <;> rcases h2 with h2 | ⟨f3, h2⟩
      · exact .inl (by omega)
      · exact .inl (by omega)
      · exact .inl (by omega)
      · exact .inr ⟨by omega, List.le_trans h1 h2⟩
theorem leR_anti (a b : Row) (h1 : leR a b = true) (h2 : leR b a = true) : a = b := by
  rw [leR_iff] at *
  unfold rowLe at *
  obtain ⟨a1, a2, a3, a4⟩ := a
  obtain ⟨b1, b2, b3, b4⟩ := b
  simp only at h1 h2
  rcases h1 with h1 | ⟨e1, h1⟩ <;> rcases h2 with h2 | ⟨f1, h2⟩
  · omega
  · omega
  · omega
  · rcases h1 with h1 | ⟨e2, h1⟩ <;> rcases h2 with h2 | ⟨f2, h2⟩
    · omega
    · omega
    · omega
    · rcases h1 with h1 | ⟨e3, h1⟩ <;> rcases h2 with h2 | ⟨f3, h2⟩
      · omega
      · omega
      · omega
      · rw [e1, e2, e3, List.le_antisymm h1 h2]
theorem leR_fst {a b : Row} (h : leR a b = true) : a.1 ≤ b.1 := by
  rw [leR_iff] at h
  rcases h with h | ⟨h, _⟩ <;> omega
theorem sR_sorted (l : List Row) : (l.mergeSort leR).Pairwise fun a b => leR a b = true := List.pairwise_mergeSort leR_trans leR_total l
theorem sR_uni {a b : List Row} (p : a.Perm b) (hb : b.Pairwise fun a b => leR a b = true) : a.mergeSort leR = b :=
  sorted_uni leR_anti ((List.mergeSort_perm a leR).trans p) (sR_sorted a) hb
theorem sR_perm {a b : List Row} (p : a.Perm b) : a.mergeSort leR = b.mergeSort leR := sR_uni (p.trans (List.mergeSort_perm b leR).symm) (sR_sorted b)
theorem sR_filter (l : List Row) (p : Row → Bool) : (l.filter p).mergeSort leR = (l.mergeSort leR).filter p :=
  sR_uni ((List.mergeSort_perm l leR).symm.filter p) ((sR_sorted l).sublist List.filter_sublist)
/-! #### rows of some of the names -/
theorem rowOf_name {p : Nm × List Int} {h : He} {r : Row} (e : rowOf p h = some r) : r.2.2.2 = p.1 ∧ r.1 = (p.1.length : Int) ∧ r.2.2.1 = h.1 := by
  unfold rowOf at e
  cases hf : fitOf h.2.1 p.2 with
  | none => rw [hf] at e; cases e
  | some v => rw [hf] at e; cases e; exact ⟨rfl, rfl, rfl⟩
theorem rows_filter (ps : List (Nm × List Int)) (hs : List He) (p : Nm → Bool) : rowsOf (ps.filter fun q => p q.1) hs = (rowsOf ps hs).filter fun r => p r.2.2.2 := by
  induction ps with
  | nil => rfl
  | cons q ps ih =>
    show _ = ((hs.filterMap (rowOf q)) ++ rowsOf ps hs).filter _
    rw [List.filter_append, ← ih]
    have hq : ∀ r ∈ hs.filterMap (rowOf q), r.2.2.2 = q.1 := fun r hr => by
      obtain ⟨h, _, e⟩ := List.mem_filterMap.mp hr
      exact (rowOf_name e).1
    rw [List.filter_cons]
    cases e : p q.1 with
    | true =>
      rw [if_pos rfl]
      have : (hs.filterMap (rowOf q)).filter (fun r => p r.2.2.2) = hs.filterMap (rowOf q) := List.filter_eq_self.mpr fun r hr => by rw [hq r hr]; exact e
      rw [this]; rfl
    | false =>
      rw [if_neg (fun z => by cases z)]
      have : (hs.filterMap (rowOf q)).filter (fun r => p r.2.2.2) = [] := List.filter_eq_nil_iff.mpr fun r hr => by rw [hq r hr, e]; intro z; cases z
      rw [this]; rfl
theorem rows_perm {ps qs : List (Nm × List Int)} (p : ps.Perm qs) (hs : List He) : (rowsOf ps hs).Perm (rowsOf qs hs) := p.flatMap_right _
theorem had_perm {ps qs : List (Nm × List Int)} (p : ps.Perm qs) (hs : List He) : hadOf ps hs = hadOf qs hs := by
  unfold hadOf sortR
  rw [sR_perm (rows_perm p hs)]
/-- steps about other names leave what is had of a name -/
theorem had_other {x : Nm} : ∀ (rs : List Row) (s : Had), (∀ r ∈ rs, r.2.2.2 ≠ x) → getT (rs.foldl hadStep s).2 x = getT s.2 x
  | [], s, _ => rfl
  | r :: rs, s, h => by
    show getT (rs.foldl hadStep (hadStep s r)).2 x = _
    rw [had_other rs _ fun y hy => h y (List.mem_cons_of_mem _ hy)]
    unfold hadStep
    split
    · show getT (putT s.2 r.2.2.2 r.2.2.1) x = _
      rw [getT_put, if_neg fun z => h r List.mem_cons_self z.symm]
    · rfl
theorem had_sub : ∀ (rs : List Row) (s : Had) (x : Nm), (getT s.2 x).isSome = true → getT (rs.foldl hadStep s).2 x = getT s.2 x
  | [], s, x, _ => rfl
  | r :: rs, s, x, h => by
    show getT (rs.foldl hadStep (hadStep s r)).2 x = _
    have e : getT (hadStep s r).2 x = getT s.2 x := by
      unfold hadStep
      split
      · rename_i c
        show getT (putT s.2 r.2.2.2 r.2.2.1) x = _
        rw [getT_put, if_neg fun z => by rw [z, c.1] at h; cases h]
      · rfl
    rw [had_sub rs _ x (by rw [e]; exact h), e]
theorem filter_split (L : Int) : ∀ (l : List Row), l.Pairwise (fun a b => leR a b = true) → l = l.filter (fun r => decide (r.1 ≤ L)) ++ l.filter (fun r => !decide (r.1 ≤ L))
  | [], _ => rfl
  | r :: l, h => by
    rw [List.pairwise_cons] at h
    by_cases e : r.1 ≤ L
    · rw [List.filter_cons, List.filter_cons, if_pos (decide_eq_true e), if_neg (by simp [e]), List.cons_append, ← filter_split L l h.2]
    · have : ∀ y ∈ r :: l, ¬ y.1 ≤ L := fun y hy => by
        rcases List.mem_cons.mp hy with rfl | hy
        · exact e
        · have := leR_fst (h.1 y hy); omega
      have e1 : (r :: l).filter (fun r => decide (r.1 ≤ L)) = [] := List.filter_eq_nil_iff.mpr fun y hy => by simpa using this y hy
      have e2 : (r :: l).filter (fun r => !decide (r.1 ≤ L)) = r :: l := List.filter_eq_self.mpr fun y hy => by simpa using this y hy
      rw [e1, e2]; rfl
/-- what is had of short names hangs on the short ones alone -/
theorem had_low (ps : List (Nm × List Int)) (hs : List He) (L : Nat) {x : Nm} (hx : x.length ≤ L) : getT (hadOf ps hs) x = getT (hadOf (ps.filter fun q => decide (q.1.length ≤ L)) hs) x := by
  have hr : ∀ r ∈ rowsOf ps hs, r.1 = (r.2.2.2.length : Int) := fun r hr => by
    obtain ⟨p, _, h, _, v, _, rfl⟩ := rows_of hr; rfl
  have e1 : sortR (ps.filter fun q => decide (q.1.length ≤ L)) hs = (sortR ps hs).filter fun r => decide (r.1 ≤ (L : Int)) := by
    unfold sortR
    rw [rows_filter ps hs fun n => decide (n.length ≤ L), sR_filter]
    refine List.filter_congr fun r hr' => ?_
    have := hr r (List.mem_mergeSort.mp hr')
    by_cases c : r.2.2.2.length ≤ L
    · rw [decide_eq_true c, decide_eq_true (by omega)]
    · rw [decide_eq_false c, decide_eq_false (by omega)]
  unfold hadOf
  rw [e1]
  have e2 := filter_split (L : Int) (sortR ps hs) (sR_sorted _)
  rw [congrArg (fun l => (l.foldl hadStep (roomsOf hs, [])).2) e2]
  show getT ((_ ++ _ : List Row).foldl hadStep _).2 x = _
  rw [List.foldl_append]
  refine had_other _ _ fun r hr' z => ?_
  obtain ⟨h1, h2⟩ := List.mem_filter.mp hr'
  have := hr r (List.mem_mergeSort.mp h1)
  have h2 : ¬ r.1 ≤ (L : Int) := by simpa using h2
  rw [z] at this
  omega
/-- names whose outer isn't had may be left out -/
theorem had_drop (rs : List Row) (p : Row → Bool) : ∀ (s : Had), (∀ r ∈ rs, p r = false → r.1 ≠ 1 ∧ getT ((rs.filter p).foldl hadStep s).2 r.2.2.2.dropLast = none) → rs.foldl hadStep s = (rs.filter p).foldl hadStep s := by
  induction rs with
  | nil => intro s _; rfl
  | cons r rs ih =>
    intro s h
    rw [List.foldl_cons]
    cases e : p r with
    | true =>
      rw [List.filter_cons, if_pos e, List.foldl_cons]
      refine ih _ fun y hy hp => ?_
      have := h y (List.mem_cons_of_mem _ hy) hp
      rw [List.filter_cons, if_pos e, List.foldl_cons] at this
      exact this
    | false =>
      have h0 := h r List.mem_cons_self e
      rw [List.filter_cons, if_neg (by rw [e]; intro z; cases z)] at h0 ⊢
      have hn : getT s.2 r.2.2.2.dropLast = none := by
        cases g : getT s.2 r.2.2.2.dropLast with
        | none => rfl
        | some v =>
          have := had_sub (rs.filter p) s r.2.2.2.dropLast (by rw [g]; rfl)
          rw [h0.2, g] at this; cases this
      have es : hadStep s r = s := by
        unfold hadStep
        rw [if_neg]
        rintro ⟨_, _, c | c⟩
        · exact h0.1 c
        · rw [hn] at c; cases c
      rw [es]
      refine ih _ fun y hy hp => ?_
      have := h y (List.mem_cons_of_mem _ hy) hp
      rw [List.filter_cons, if_neg (by rw [e]; intro z; cases z)] at this
      exact this
end DM

namespace DM
open PySem PySem.Spec PyProof.Rows L2
/-! ### letters stand in the rows, all that is in what is held is there -/
structure DQ (dk : Dk) : Prop where
  lt : ∀ nm b h, getT dk.states nm = some (Sta.of b, some h) → ∃ w ∈ dk.who, w.1 = h ∧ (b, nm) ∈ w.2.left
  kd : ∀ nm s, getT dk.states nm = some s → (s.1 = .held ∨ s.1 = .leaving) → ∀ x ∈ dk.marks.map (·.1), x.length ≠ 1 → x.dropLast = nm → x ∈ dk.keys
  fr : ∀ nm o, getT dk.states nm = some (.free, o) → o = none
theorem of_inj {a b : Bool} (h : Sta.of a = Sta.of b) : a = b := by cases a <;> cases b <;> first | rfl | cases h
theorem of_free {b : Bool} {o : Option Int} {h : Int} : ¬ (Sta.free, o) = (Sta.of b, some h) := by intro z; cases b <;> cases z
theorem DQ.letter {dk : Dk} (q : DQ dk) {h : Int} {lt : Lt} (k : LtOk dk h lt) : DQ (dk.letter h lt (Sta.of lt.1)) := by
  have hk : lt.2 ∈ dk.keys := by
    cases eb : lt.1 with
    | true => obtain ⟨⟨o, ho⟩, _⟩ := k.tk eb; exact getT_in ho
    | false => exact getT_in (k.lv eb).1
  have ek : (dk.letter h lt (Sta.of lt.1)).keys = dk.keys := letter_keys hk
  refine ⟨fun nm b g hg => ?_, fun nm s hs he x hx h1 hd => ?_, fun nm o ho => ?_⟩
  · rw [letter_get] at hg
    rw [letter_who]
    split at hg
    · rename_i e
      have hg := Option.some.inj hg
      have e1 := congrArg (·.1) hg
      have e2 := congrArg (·.2) hg
      have e1 : Sta.of lt.1 = Sta.of b := e1
      have e2 : some h = some g := e2
      cases e2
      have eb := of_inj e1
      obtain ⟨w, hw, e3⟩ := List.mem_map.mp k.hw
      refine ⟨_, List.mem_map.mpr ⟨w, hw, rfl⟩, by rw [if_pos e3]; exact e3, ?_⟩
      rw [if_pos e3]
      refine List.mem_append_right _ ?_
      rw [← eb, e]; exact List.mem_singleton.mpr rfl
    · obtain ⟨w, hw, e3, hl⟩ := q.lt nm b g hg
      refine ⟨_, List.mem_map.mpr ⟨w, hw, rfl⟩, ?_, ?_⟩
      · split <;> exact e3
      · split
        · exact List.mem_append_left _ hl
        · exact hl
  · rw [ek]
    rw [letter_get] at hs
    split at hs
    · rename_i e
      cases hs
      cases eb : lt.1 with
      | true => rw [eb] at he; rcases he with he | he <;> cases he
      | false => exact q.kd lt.2 _ (k.lv eb).1 (.inl rfl) x hx h1 (by rw [hd, e])
    · exact q.kd nm s hs he x hx h1 hd
  · rw [letter_get] at ho
    split at ho
    · cases eb : lt.1 <;> rw [eb] at ho <;> cases ho
    · exact q.fr nm o ho
theorem Lts.dq {dk d : Dk} {es : List En} (l : Lts dk es d) (q : DQ dk) : DQ d := by
  induction l with
  | nil dk => exact q
  | cons k _ ih => exact ih (q.letter k)
theorem dropT_none {κ β : Type} [DecidableEq κ] {l : List (κ × β)} {k x : κ} : x ∈ (dropT l k).map (·.1) → x ∈ l.map (·.1) := fun h => by
  obtain ⟨p, hp, rfl⟩ := List.mem_map.mp h
  exact List.mem_map.mpr ⟨p, (List.mem_filter.mp hp).1, rfl⟩
theorem unmark_sub : ∀ (ns : List Nm) (m : List (Nm × List Int)) (x : Nm), x ∈ (ns.foldl (fun m n => dropT m n) m).map (·.1) → x ∈ m.map (·.1)
  | [], m, x, h => h
  | n :: ns, m, x, h => dropT_none (unmark_sub ns (dropT m n) x h)
theorem cut_left {dk : Dk} {p : Nm → Bool} {w : Int × HpS} (hw : w ∈ dk.who) : ∃ w' ∈ (dk.cut p).who, w'.1 = w.1 ∧ ∀ lt ∈ w.2.left, p lt.2 = false → lt ∈ w'.2.left :=
  ⟨_, List.mem_map.mpr ⟨w, hw, rfl⟩, rfl, fun lt hl hp => List.mem_filter.mpr ⟨hl, by rw [hp]; rfl⟩⟩
structure FQ (n : Int) (dk d : Dk) : Prop where
  lt : ∀ w ∈ dk.who, w.1 ≠ n → ∃ w' ∈ d.who, w'.1 = w.1 ∧ ∀ l ∈ w.2.left, l.2 ∈ d.keys → l ∈ w'.2.left
  kd : ∀ nm s, getT d.states nm = some s → (s.1 = .held ∨ s.1 = .leaving) → ∀ x ∈ dk.marks.map (·.1), x.length ≠ 1 → x.dropLast = nm → x ∈ d.keys
  fr : ∀ nm o, getT d.states nm = some (.free, o) → o = none
  mq : d.marks = dk.marks
theorem FQ.fold {n : Int} {dk d1 : Dk} : ∀ (l2 l1 : List Nm) (d : Dk), FallJ n d1 l1 d → FQ n dk d → FQ n dk (l2.foldl (Dk.fallStep n) d)
  | [], l1, d, _, q => q
  | y :: l2, l1, d, j, q => by
    refine FQ.fold l2 (l1 ++ [y]) _ (j.step (nm := y)) ?_
    rw [fallStep_eq j.dc]
    split
    · rename_i z
      have eg : ∀ x, getT ((d.cut (und y)).putS y (.free, none)).states x = if x = y then some (.free, none) else if und y x = true then none else getT d.states x := fun x => by
        show getT (putT (d.cut (und y)).states y _) x = _
        rw [getT_put, cut_get]
      have hsub : ∀ x, x ∈ ((d.cut (und y)).putS y (.free, none)).keys ↔ x ∈ d.keys ∧ (und y x = false) := fun x => by
        rw [key_get, eg]
        by_cases e : x = y
        · subst e
          rw [if_pos rfl, und_self]
          exact ⟨fun _ => ⟨z.1, rfl⟩, fun _ => rfl⟩
        · rw [if_neg e]
          cases e2 : und y x with
          | true => rw [if_pos rfl]; exact ⟨(fun h => by cases h), fun h => by cases h.2⟩
          | false => rw [if_neg (fun h => by cases h), ← key_get]; exact ⟨fun h => ⟨h, rfl⟩, fun h => h.1⟩
      refine ⟨fun w hw hn => ?_, fun nm s hs he x hx h1 hd => ?_, fun nm o ho => ?_, q.mq⟩
      · obtain ⟨w', hw', e1, h2⟩ := q.lt w hw hn
        obtain ⟨w2, hw2, e3, h4⟩ := cut_left (p := und y) hw'
        exact ⟨w2, hw2, e3.trans e1, fun l hl hk => h4 l (h2 l hl ((hsub _).mp hk).1) ((hsub _).mp hk).2⟩
      · rw [eg] at hs
        split at hs
        · cases hs; rcases he with he | he <;> cases he
        · rename_i ny
          split at hs
          · cases hs
          · rename_i nu
            refine (hsub x).mpr ⟨q.kd nm s hs he x hx h1 hd, ?_⟩
            cases e : und y x with
            | false => rfl
            | true =>
              exfalso
              unfold und at e
              rw [Bool.and_eq_true, decide_eq_true_eq, decide_eq_true_eq] at e
              have := pre_drop e.1 e.2
              rw [hd] at this
              apply nu
              unfold und
              rw [Bool.and_eq_true, decide_eq_true_eq, decide_eq_true_eq]
              exact ⟨this, ny⟩
      · rw [eg] at ho
        split at ho
        · cases ho; rfl
        · split at ho
          · cases ho
          · exact q.fr nm o ho
    · exact q
theorem Mic.dq {dk d : Dk} {e : En} (m : Mic dk e d) (c : DI dk) (q : DQ dk) : DQ d := by
  cases m with
  | @plug t ht h6 =>
    have em : (dk.plugPre t).marks = dk.marks ++ within [dk.fresh.1] t := (c.toDC.newP t).2
    refine ⟨fun nm b h hg => ?_, fun nm s hs he x hx h1 hd => ?_, fun nm o ho => ?_⟩
    · rw [plug_get] at hg
      split at hg
      · exact absurd (Option.some.inj hg) of_free
      · exact q.lt nm b h hg
    · rw [plug_get] at hs
      split at hs
      · cases hs; rcases he with he | he <;> cases he
      · rw [em, List.map_append] at hx
        rcases List.mem_append.mp hx with hx | hx
        · have := q.kd nm s hs he x hx h1 hd
          rw [key_get, plug_get]
          split
          · rfl
          · exact key_get.mp this
        · exfalso
          obtain ⟨p, hp, rfl⟩ := List.mem_map.mp hx
          have h2 := within_pre _ _ _ hp
          have h3 := pre_drop h2 fun z => by rw [z] at h1; exact h1 rfl
          rw [hd] at h3
          exact c.toDC.noF (c.km nm (getT_in hs)) h3
    · rw [plug_get] at ho
      split at ho
      · cases ho; rfl
      · exact q.fr nm o ho
  | come hc h0 h4 h8 hf =>
    refine ⟨fun nm b h hg => ?_, fun nm s hs he x hx h1 hd => q.kd nm s hs he x hx h1 hd, fun nm o ho => q.fr nm o ho⟩
    obtain ⟨w, hw, e, hl⟩ := q.lt nm b h hg
    refine ⟨w, ?_, e, hl⟩
    show w ∈ putT dk.who dk.fresh.2 _
    rw [c.toDC.newW]
    exact List.mem_append_left _ hw
  | @unplug n hn =>
    have ew : (dk.unplugPre n).who = ((dk.addL (.unplug n)).cut (pre [n])).who := by unfold Dk.unplugPre; rw [(c.unplug hn).1]; rfl
    refine ⟨fun nm b h hg => ?_, fun nm s hs he x hx h1 hd => ?_, fun nm o ho => ?_⟩
    · rw [unplug_get c hn] at hg
      split at hg
      · cases hg
      · rename_i np
        obtain ⟨w, hw, e, hl⟩ := q.lt nm b h hg
        rw [ew]
        obtain ⟨w2, hw2, e3, h4⟩ := cut_left (dk := dk.addL (.unplug n)) (p := pre [n]) hw
        exact ⟨w2, hw2, e3.trans e, h4 _ hl (by simpa using np)⟩
    · rw [unplug_get c hn] at hs
      split at hs
      · cases hs
      · rename_i np
        have hx' : x ∈ dk.marks.map (·.1) := by
          unfold Dk.unplugPre at hx
          rw [(c.unplug hn).1] at hx
          exact unmark_sub _ _ _ hx
        have := q.kd nm s hs he x hx' h1 hd
        rw [key_get, unplug_get c hn, if_neg fun z => np ?_]
        · exact key_get.mp this
        · unfold pre at z ⊢
          rw [decide_eq_true_eq] at z ⊢
          have h3 := pre_drop z fun y => by rw [y] at h1; exact h1 rfl
          rw [hd] at h3; exact h3
    · rw [unplug_get c hn] at ho
      split at ho
      · cases ho
      · exact q.fr nm o ho
  | @fall n hn =>
    have q0 : FQ n dk (dk.fall0 n) := by
      refine ⟨fun w hw hne => ⟨w, List.mem_filter.mpr ⟨hw, by simpa using hne⟩, rfl, fun l hl _ => hl⟩, fun nm s hs he x hx h1 hd => q.kd nm s hs he x hx h1 hd, fun nm o ho => q.fr nm o ho, rfl⟩
    have q1 := FQ.fold (sortN (dk.fall0 n).keys) [] _ (c.fall0 n) q0
    rw [← fallPre_eq] at q1
    refine ⟨fun nm b h hg => ?_, fun nm s hs he x hx h1 hd => q1.kd nm s hs he x (by rw [q1.mq] at hx; exact hx) h1 hd, q1.fr⟩
    have hk : nm ∈ (dk.fallPre n).keys := getT_in hg
    rcases fall_get c n nm with g | g | g
    · rw [g] at hg; cases hg
    · rw [g.1] at hg
      obtain ⟨w, hw, e, hl⟩ := q.lt nm b h hg
      have hne : w.1 ≠ n := fun z => g.2 ⟨_, by rw [hg, ← e, z]⟩
      obtain ⟨w', hw', e1, h2⟩ := q1.lt w hw hne
      exact ⟨w', hw', e1.trans e, h2 _ hl hk⟩
    · rw [g.1] at hg
      exact absurd (Option.some.inj hg) of_free
  | @done x0 lt rest hx hl =>
    obtain ⟨b0, nm0⟩ := lt
    have l1 := c.l1 x0 hx (b0, nm0) (by rw [hl]; exact List.mem_cons_self)
    have hn1 := (c.toDC.ks nm0 (getT_in l1)).1
    -- the rows
    have rows : ∀ nm b h, nm ≠ nm0 → getT dk.states nm = some (Sta.of b, some h) → ∃ w ∈ (dk.done1 x0.1 (b0, nm0)).who, w.1 = h ∧ (b, nm) ∈ w.2.left := fun nm b h ne hg => by
      obtain ⟨w, hw, e, hl2⟩ := q.lt nm b h hg
      refine ⟨_, List.mem_map.mpr ⟨w, hw, rfl⟩, ?_, ?_⟩
      · split <;> exact e
      · split
        · rename_i e2
          have : w = x0 := by
            obtain ⟨i, hi, e3⟩ := List.mem_iff_getElem.mp hw
            obtain ⟨j, hj, e4⟩ := List.mem_iff_getElem.mp hx
            have h1 := whoD_at c.wn (by rw [List.getElem?_eq_getElem hi, e3] : dk.who[i]? = some w)
            have h2 := whoD_at c.wn (by rw [List.getElem?_eq_getElem hj, e4] : dk.who[j]? = some x0)
            rw [e2, h2] at h1
            exact Prod.ext e2 h1.symm
          subst this
          show (b, nm) ∈ w.2.left.drop 1
          rw [hl] at hl2 ⊢
          rcases List.mem_cons.mp hl2 with z | z
          · cases z; exact absurd rfl ne
          · exact z
        · exact hl2
    cases b0 with
    | true =>
      have ew : (dk.did x0.1 (true, nm0)).who = (dk.done1 x0.1 (true, nm0)).who := by
        have dn := c.done1 hx hl
        obtain ⟨j0, hn, hw⟩ := dn.take
        have j := FreeJ.fold hn hw ((dk.done1 x0.1 (true, nm0)).marks.map (·.1)) _ (fun _ h => h) j0
        rw [did_eq, if_pos rfl]
        exact j.wh
      have em : (dk.did x0.1 (true, nm0)).marks = dk.marks := by
        have dn := c.done1 hx hl
        obtain ⟨j0, hn, hw⟩ := dn.take
        have j := FreeJ.fold hn hw ((dk.done1 x0.1 (true, nm0)).marks.map (·.1)) _ (fun _ h => h) j0
        rw [did_eq, if_pos rfl]
        exact j.mq
      refine ⟨fun nm b h hg => ?_, fun nm s hs he x hx2 h1 hd => ?_, fun nm o ho => ?_⟩
      · rw [takeD_get] at hg
        split at hg
        · exact absurd (Option.some.inj hg) of_free
        · split at hg
          · cases b <;> cases hg
          · rename_i ne
            rw [ew]; exact rows nm b h ne hg
      · rw [em] at hx2
        rw [key_get, takeD_get]
        by_cases e : x ∈ dk.marks.map (·.1) ∧ x.dropLast = nm0
        · rw [if_pos e]; rfl
        · rw [if_neg e]
          rw [takeD_get] at hs
          split at hs
          · cases hs; rcases he with he | he <;> cases he
          · split at hs
            · rename_i e2
              exact absurd ⟨hx2, by rw [hd, e2]⟩ e
            · split
              · rfl
              · exact key_get.mp (q.kd nm s hs he x hx2 h1 hd)
      · rw [takeD_get] at ho
        split at ho
        · cases ho; rfl
        · split at ho
          · cases ho
          · exact q.fr nm o ho
    | false =>
      have dn := c.done1 hx hl
      have hk : nm0 ∈ (dk.done1 x0.1 (false, nm0)).keys := getT_in dn.st
      have ed : dk.did x0.1 (false, nm0) = ((dk.done1 x0.1 (false, nm0)).cut (und nm0)).putS nm0 (.free, none) := by
        rw [did_eq, if_neg (fun z => by cases z), innerGone_cut dn.dc.toCl (by have := dn.dc.ks nm0 hk; show 3 ≤ nm0.length + 2; omega)]
      refine ⟨fun nm b h hg => ?_, fun nm s hs he x hx2 h1 hd => ?_, fun nm o ho => ?_⟩
      · rw [leave_get c hx hl] at hg
        split at hg
        · exact absurd (Option.some.inj hg) of_free
        · rename_i ne
          split at hg
          · cases hg
          · rename_i nu
            obtain ⟨w, hw, e, hl2⟩ := rows nm b h ne hg
            rw [ed]
            obtain ⟨w2, hw2, e3, h4⟩ := cut_left (p := und nm0) hw
            exact ⟨w2, hw2, e3.trans e, h4 _ hl2 (by simpa using nu)⟩
      · have hx2 : x ∈ dk.marks.map (·.1) := by rw [ed] at hx2; exact hx2
        rw [leave_get c hx hl] at hs
        split at hs
        · cases hs; rcases he with he | he <;> cases he
        · rename_i ne
          split at hs
          · cases hs
          · rename_i nu
            have := q.kd nm s hs he x hx2 h1 hd
            rw [key_get, leave_get c hx hl]
            split
            · rfl
            · rename_i nx
              rw [if_neg fun z => nu ?_]
              · exact key_get.mp this
              · unfold und at z ⊢
                rw [Bool.and_eq_true, decide_eq_true_eq, decide_eq_true_eq] at z ⊢
                have := pre_drop z.1 z.2
                rw [hd] at this
                exact ⟨this, ne⟩
      · rw [leave_get c hx hl] at ho
        split at ho
        · cases ho; rfl
        · split at ho
          · cases ho
          · exact q.fr nm o ho
theorem Ev.dq {dk d : Dk} {e : Option En} (v : Ev dk e d) (c : DI dk) (q : DQ dk) : DQ d := by
  cases v with
  | none => exact q
  | step m =>
    have c1 := (m.ok c).1
    obtain ⟨es, l⟩ := think_lts c1.toDC.dl
    exact l.dq (m.dq c q)
theorem emptyDQ : DQ emptyDk := ⟨(fun _ _ _ h => by cases h), (fun _ _ h => by cases h), fun _ _ h => by cases h⟩
end DM

namespace DM
open PySem PySem.Spec PyProof.Rows L2
/-! ### goals by levels -/
theorem there_mem {dk : Dk} {f : List (Nm × Int)} {L : Int} {x : Nm} : x ∈ dk.there f L ↔ x ∈ dk.keys ∧ (x.length : Int) ≤ L ∧ (x.length = 1 ∨ dk.settled x.dropLast f = true) := by
  unfold Dk.there
  rw [List.mem_filter, List.mem_filter, (sortN_perm _).mem_iff, Bool.or_eq_true, decide_eq_true_eq, decide_eq_true_eq, and_assoc]
theorem there_sorted (dk : Dk) (f : List (Nm × Int)) (L : Int) : (dk.there f L).Pairwise fun a b => leN a b = true :=
  ((sortN_sorted _).sublist List.filter_sublist).sublist List.filter_sublist
theorem there_nd {dk : Dk} (kn : dk.keys.Nodup) (f : List (Nm × Int)) (L : Int) : (dk.there f L).Nodup :=
  (((sortN_perm _).nodup_iff.mpr kn).sublist List.filter_sublist).sublist List.filter_sublist
theorem sub_uni {a b : List Nm} (ha : a.Pairwise fun a b => leN a b = true) (hb : b.Pairwise fun a b => leN a b = true) (na : a.Nodup) (nb : b.Nodup) (h : ∀ x, x ∈ a ↔ x ∈ b) : a = b :=
  sorted_uni (fun _ _ => leN_anti) ((List.perm_ext_iff_of_nodup na nb).mpr h) ha hb
theorem rows_eq {dk d : Dk} (h : d.hcs = dk.hcs) : d.rows = dk.rows := by
  unfold Dk.rows
  have e : d.who.map (·.1) = dk.who.map (·.1) := by rw [← hcs_keys, ← hcs_keys, h]
  rw [e]
  refine List.map_congr_left fun n _ => ?_
  have := hcs_whoD h n
  rw [this.1, this.2]
theorem step_eq {dk d : Dk} (hm : d.marks = dk.marks) (hh : d.hcs = dk.hcs) {f f' : List (Nm × Int)} {L : Int} (h : d.there f' L = dk.there f L) : d.goalsStep f' L = dk.goalsStep f L := by
  unfold Dk.goalsStep
  rw [h, rows_eq hh]
  congr 1
  exact List.map_congr_left fun x _ => by unfold Dk.mkOf; rw [hm]
def Dk.g1 (dk : Dk) : List (Nm × Int) := dk.goalsStep [] 1
def Dk.g2 (dk : Dk) : List (Nm × Int) := dk.goalsStep dk.g1 2
theorem goals_eq (dk : Dk) : dk.goals = dk.goalsStep dk.g2 3 := rfl
def SG (dk : Dk) (p : Nm) : Bool := dk.settled p dk.goals
theorem step_low {dk : Dk} (f : List (Nm × Int)) (L : Int) (n : Nat) {x : Nm} (hx : x.length ≤ n) : getT (dk.goalsStep f L) x = getT (hadOf (((dk.there f L).filter fun nm => decide (nm.length ≤ n)).map fun nm => (nm, dk.mkOf nm)) dk.rows) x := by
  unfold Dk.goalsStep
  rw [had_low _ _ n hx, List.filter_map]; rfl
section
variable {dk : Dk} (kn : dk.keys.Nodup) (ks : ∀ x ∈ dk.keys, 1 ≤ x.length ∧ x.length ≤ 3)
include kn ks
theorem g2_low {x : Nm} (hx : x.length ≤ 1) : getT dk.g2 x = getT dk.g1 x := by
  unfold Dk.g2
  rw [step_low dk.g1 2 1 hx]
  have : (dk.there dk.g1 2).filter (fun nm => decide (nm.length ≤ 1)) = dk.there [] 1 := by
    refine sub_uni ((there_sorted _ _ _).sublist List.filter_sublist) (there_sorted _ _ _) ((there_nd kn _ _).sublist List.filter_sublist) (there_nd kn _ _) fun y => ?_
    rw [List.mem_filter, there_mem, there_mem, decide_eq_true_eq]
    constructor
    · rintro ⟨⟨h1, h2, h3⟩, h4⟩
      have := ks y h1
      exact ⟨h1, by omega, .inl (by omega)⟩
    · rintro ⟨h1, h2, h3⟩
      have := ks y h1
      exact ⟨⟨h1, by omega, .inl (by omega)⟩, by omega⟩
  rw [this]; rfl
theorem g3_low {x : Nm} (hx : x.length ≤ 2) : getT dk.goals x = getT dk.g2 x := by
  rw [goals_eq, step_low dk.g2 3 2 hx]
  have : (dk.there dk.g2 3).filter (fun nm => decide (nm.length ≤ 2)) = dk.there dk.g1 2 := by
    refine sub_uni ((there_sorted _ _ _).sublist List.filter_sublist) (there_sorted _ _ _) ((there_nd kn _ _).sublist List.filter_sublist) (there_nd kn _ _) fun y => ?_
    rw [List.mem_filter, there_mem, there_mem, decide_eq_true_eq]
    have ey : y.length ≤ 2 → dk.settled y.dropLast dk.g2 = dk.settled y.dropLast dk.g1 := fun h => by
      unfold Dk.settled
      rw [g2_low kn ks (x := y.dropLast) (by rw [List.length_dropLast]; omega)]
    constructor
    · rintro ⟨⟨h1, h2, h3⟩, h4⟩
      rw [ey h4] at h3
      exact ⟨h1, by omega, h3⟩
    · rintro ⟨h1, h2, h3⟩
      rw [← ey (by omega)] at h3
      exact ⟨⟨h1, by omega, h3⟩, by omega⟩
  rw [this]; rfl
theorem SG_1 {p : Nm} (hp : p.length ≤ 1) : SG dk p = dk.settled p dk.g1 := by
  unfold SG Dk.settled
  rw [g3_low kn ks (by omega), g2_low kn ks hp]
theorem SG_2 {p : Nm} (hp : p.length ≤ 2) : SG dk p = dk.settled p dk.g2 := by
  unfold SG Dk.settled
  rw [g3_low kn ks hp]
theorem there2_mem {x : Nm} : x ∈ dk.there dk.g1 2 ↔ x ∈ dk.keys ∧ x.length ≤ 2 ∧ (x.length = 1 ∨ SG dk x.dropLast = true) := by
  rw [there_mem]
  constructor
  · rintro ⟨h1, h2, h3⟩
    refine ⟨h1, by omega, h3.imp id fun h => ?_⟩
    rw [SG_1 kn ks (by rw [List.length_dropLast]; omega)]; exact h
  · rintro ⟨h1, h2, h3⟩
    refine ⟨h1, by omega, h3.imp id fun h => ?_⟩
    rw [SG_1 kn ks (by rw [List.length_dropLast]; omega)] at h; exact h
theorem there3_mem {x : Nm} : x ∈ dk.there dk.g2 3 ↔ x ∈ dk.keys ∧ (x.length = 1 ∨ SG dk x.dropLast = true) := by
  rw [there_mem]
  constructor
  · rintro ⟨h1, h2, h3⟩
    refine ⟨h1, h3.imp id fun h => ?_⟩
    have := ks x h1
    rw [SG_2 kn ks (by rw [List.length_dropLast]; omega)]; exact h
  · rintro ⟨h1, h3⟩
    have := ks x h1
    refine ⟨h1, by omega, h3.imp id fun h => ?_⟩
    rw [SG_2 kn ks (by rw [List.length_dropLast]; omega)] at h; exact h
/-- a goal is of what is there, its outer settled -/
theorem goal_there {x : Nm} {g : Int} (h : getT dk.goals x = some g) : x ∈ dk.keys ∧ (x.length = 1 ∨ SG dk x.dropLast = true) := by
  obtain ⟨q, hq, e⟩ := List.mem_map.mp (had_who _ (getT_mem h)).2
  obtain ⟨n, hn, rfl⟩ := List.mem_map.mp hq
  have e : n = x := e
  subst e
  exact (there3_mem kn ks).mp hn
end
/-- two desks alike so far have the same goals so far -/
theorem goals_same {dk d : Dk} (kn : dk.keys.Nodup) (ks : ∀ x ∈ dk.keys, 1 ≤ x.length ∧ x.length ≤ 3) (kn' : d.keys.Nodup) (ks' : ∀ x ∈ d.keys, 1 ≤ x.length ∧ x.length ≤ 3) (hm : d.marks = dk.marks) (hh : d.hcs = dk.hcs)
    (k1 : ∀ x : Nm, x.length = 1 → (x ∈ d.keys ↔ x ∈ dk.keys)) (n : Nat)
    (hyp : ∀ p : Nm, 1 ≤ p.length → p.length < n → getT d.goals p = getT dk.goals p → SG d p = SG dk p ∧ (SG dk p = true → ∀ x : Nm, x.dropLast = p → x.length = p.length + 1 → (x ∈ d.keys ↔ x ∈ dk.keys))) :
    ∀ x : Nm, x.length ≤ n → (n = 1 ∨ n = 2 ∨ n = 3) → getT d.goals x = getT dk.goals x := by
  have e1 : d.g1 = dk.g1 := step_eq hm hh (sub_uni (there_sorted _ _ _) (there_sorted _ _ _) (there_nd kn' _ _) (there_nd kn _ _) fun x => by
    rw [there_mem, there_mem]
    constructor
    · rintro ⟨h1, h2, h3⟩
      have := ks' x h1
      have l1 : x.length = 1 := by omega
      exact ⟨(k1 x l1).mp h1, h2, .inl l1⟩
    · rintro ⟨h1, h2, h3⟩
      have := ks x h1
      have l1 : x.length = 1 := by omega
      exact ⟨(k1 x l1).mpr h1, h2, .inl l1⟩)
  have q1 : ∀ x : Nm, x.length ≤ 1 → getT d.goals x = getT dk.goals x := fun x hx => by
    rw [g3_low kn' ks' (by omega), g3_low kn ks (by omega), g2_low kn' ks' hx, g2_low kn ks hx, e1]
  have lst : ∀ x : Nm, x.dropLast.length = x.length - 1 := fun x => List.length_dropLast
  -- a level more
  have up : ∀ x : Nm, (x ∈ d.keys ∨ x ∈ dk.keys) → x.length ≠ 1 → x.length ≤ n → getT d.goals x.dropLast = getT dk.goals x.dropLast → (x ∈ d.keys ∧ (x.length = 1 ∨ SG d x.dropLast = true) ↔ x ∈ dk.keys ∧ (x.length = 1 ∨ SG dk x.dropLast = true)) := fun x hx h1 hn hg => by
    have hl : 1 ≤ x.length := by rcases hx with h | h; exact (ks' x h).1; exact (ks x h).1
    obtain ⟨s, k⟩ := hyp x.dropLast (by rw [lst]; omega) (by rw [lst]; omega) hg
    rw [s]
    constructor
    · rintro ⟨a, b | b⟩
      · exact absurd b h1
      · exact ⟨(k b x rfl (by rw [lst]; omega)).mp a, .inr b⟩
    · rintro ⟨a, b | b⟩
      · exact absurd b h1
      · exact ⟨(k b x rfl (by rw [lst]; omega)).mpr a, .inr b⟩
  have e2 : 2 ≤ n → d.g2 = dk.g2 := fun hn => step_eq hm hh (sub_uni (there_sorted _ _ _) (there_sorted _ _ _) (there_nd kn' _ _) (there_nd kn _ _) fun x => by
    rw [there2_mem kn' ks', there2_mem kn ks]
    by_cases l1 : x.length = 1
    · rw [k1 x l1]
      constructor
      · rintro ⟨h1, h2, _⟩; exact ⟨h1, h2, .inl l1⟩
      · rintro ⟨h1, h2, _⟩; exact ⟨h1, h2, .inl l1⟩
    · constructor
      · rintro ⟨h1, h2, h3⟩
        have := (up x (.inl h1) l1 (by omega) (q1 _ (by rw [lst]; omega))).mp ⟨h1, h3⟩
        exact ⟨this.1, h2, this.2⟩
      · rintro ⟨h1, h2, h3⟩
        have := (up x (.inr h1) l1 (by omega) (q1 _ (by rw [lst]; omega))).mpr ⟨h1, h3⟩
        exact ⟨this.1, h2, this.2⟩)
  have q2 : 2 ≤ n → ∀ x : Nm, x.length ≤ 2 → getT d.goals x = getT dk.goals x := fun hn x hx => by
    rw [g3_low kn' ks' hx, g3_low kn ks hx, e2 hn]
  have e3 : 3 ≤ n → d.goals = dk.goals := fun hn => step_eq hm hh (sub_uni (there_sorted _ _ _) (there_sorted _ _ _) (there_nd kn' _ _) (there_nd kn _ _) fun x => by
    rw [show d.goalsStep (d.goalsStep [] 1) 2 = d.g2 from rfl, show dk.goalsStep (dk.goalsStep [] 1) 2 = dk.g2 from rfl, there3_mem kn' ks', there3_mem kn ks]
    by_cases l1 : x.length = 1
    · rw [k1 x l1]
      constructor
      · rintro ⟨h1, _⟩; exact ⟨h1, .inl l1⟩
      · rintro ⟨h1, _⟩; exact ⟨h1, .inl l1⟩
    · constructor
      · rintro ⟨h1, h3⟩
        have := ks' x h1
        exact (up x (.inl h1) l1 (by omega) (q2 (by omega) _ (by rw [lst]; omega))).mp ⟨h1, h3⟩
      · rintro ⟨h1, h3⟩
        have := ks x h1
        exact (up x (.inr h1) l1 (by omega) (q2 (by omega) _ (by rw [lst]; omega))).mpr ⟨h1, h3⟩)
  rintro x hx (rfl | rfl | rfl)
  · exact q1 x hx
  · exact q2 (by omega) x hx
  · rw [e3 (by omega)]
end DM

namespace DM
open PySem PySem.Spec PyProof.Rows L2
/-! ### how far a desk is from rest: each letter, sent or done, brings it nearer -/
def rank (st : Option (Sta × Option Int)) (o : Option Int) : Nat := match st with
  | none => 0
  | some (.free, _) => if o = none then 0 else 2
  | some (.taking, h) => if h = o then 1 else if o = none then 3 else 5
  | some (.held, h) => if h = o then 0 else if o = none then 2 else 4
  | some (.leaving, _) => if o = none then 1 else 3
theorem rank_le (st : Option (Sta × Option Int)) (o : Option Int) : rank st o ≤ 5 := by
  unfold rank
  split
  · omega
  · split <;> omega
  · split
    · omega
    · split <;> omega
  · split
    · omega
    · split <;> omega
  · split <;> omega
theorem rank_t (h : Option Int) (o : Option Int) : rank (some (.taking, h)) o = if h = o then 1 else if o = none then 3 else 5 := rfl
theorem rank_h (h : Option Int) (o : Option Int) : rank (some (.held, h)) o = if h = o then 0 else if o = none then 2 else 4 := rfl
theorem rank_l (h : Option Int) (o : Option Int) : rank (some (.leaving, h)) o = if o = none then 1 else 3 := rfl
theorem rank_f (h : Option Int) (o : Option Int) : rank (some (.free, h)) o = if o = none then 0 else 2 := rfl
def Dk.ms (dk : Dk) : List Nm := dk.marks.map (·.1)
def Un (dk : Dk) (n : Nat) : Nat := (dk.ms.filter fun x => decide (x.length = n) && !SG dk x).length
def Rk (dk : Dk) : Nat := (dk.ms.map fun x => rank (getT dk.states x) (getT dk.goals x)).sum
def pot (dk : Dk) : Nat := 30889 * Un dk 1 + 391 * Un dk 2 + Rk dk
theorem sum_le {M : List Nm} {f g : Nm → Nat} (h : ∀ x ∈ M, f x ≤ g x) : (M.map f).sum ≤ (M.map g).sum := by
  induction M with
  | nil => exact Nat.le_refl _
  | cons x M ih =>
    rw [List.map_cons, List.map_cons, List.sum_cons, List.sum_cons]
    have := h x List.mem_cons_self
    have := ih fun y hy => h y (List.mem_cons_of_mem _ hy)
    omega
theorem sum_lt {M : List Nm} {f g : Nm → Nat} {y : Nm} (hy : y ∈ M) (h : ∀ x ∈ M, f x ≤ g x) (hs : f y + 1 ≤ g y) : (M.map f).sum + 1 ≤ (M.map g).sum := by
  induction M with
  | nil => cases hy
  | cons x M ih =>
    rw [List.map_cons, List.map_cons, List.sum_cons, List.sum_cons]
    rcases List.mem_cons.mp hy with rfl | hy
    · have := sum_le fun x hx => h x (List.mem_cons_of_mem _ hx)
      omega
    · have := h x List.mem_cons_self
      have := ih hy fun y hy => h y (List.mem_cons_of_mem _ hy)
      omega
theorem sum_bd {M : List Nm} {f : Nm → Nat} {b : Nat} (h : ∀ x ∈ M, f x ≤ b) : (M.map f).sum ≤ b * M.length := by
  induction M with
  | nil => exact Nat.le_refl _
  | cons x M ih =>
    rw [List.map_cons, List.sum_cons, List.length_cons, Nat.mul_add, Nat.mul_one]
    have := h x List.mem_cons_self
    have := ih fun y hy => h y (List.mem_cons_of_mem _ hy)
    omega
theorem fl_le {M : List Nm} {p q : Nm → Bool} (h : ∀ x ∈ M, p x = true → q x = true) : (M.filter p).length ≤ (M.filter q).length := by
  induction M with
  | nil => exact Nat.le_refl _
  | cons x M ih =>
    have ih := ih fun y hy => h y (List.mem_cons_of_mem _ hy)
    have hx := h x List.mem_cons_self
    rw [List.filter_cons, List.filter_cons]
    cases e1 : p x with
    | true => rw [if_pos rfl, if_pos (hx e1), List.length_cons, List.length_cons]; omega
    | false =>
      rw [if_neg (fun z => by cases z)]
      split
      · rw [List.length_cons]; omega
      · exact ih
theorem fl_lt {M : List Nm} {p q : Nm → Bool} {y : Nm} (hy : y ∈ M) (h : ∀ x ∈ M, p x = true → q x = true) (hp : p y = false) (hq : q y = true) : (M.filter p).length + 1 ≤ (M.filter q).length := by
  induction M with
  | nil => cases hy
  | cons x M ih =>
    rw [List.filter_cons, List.filter_cons]
    rcases List.mem_cons.mp hy with rfl | hy
    · rw [if_neg (by rw [hp]; intro z; cases z), if_pos hq, List.length_cons]
      have := fl_le fun x hx => h x (List.mem_cons_of_mem _ hx)
      omega
    · have ih := ih hy fun y hy => h y (List.mem_cons_of_mem _ hy)
      have hx := h x List.mem_cons_self
      cases e1 : p x with
      | true => rw [if_pos rfl, if_pos (hx e1), List.length_cons, List.length_cons]; omega
      | false =>
        rw [if_neg (fun z => by cases z)]
        split
        · rw [List.length_cons]; omega
        · exact ih
theorem SG_iff {dk : Dk} {p : Nm} : SG dk p = true ↔ (dk.stOf p).1 = .held ∧ (dk.stOf p).2 = getT dk.goals p := by
  unfold SG Dk.settled
  rw [Bool.and_eq_true, decide_eq_true_eq, decide_eq_true_eq]
theorem SG_congr {dk d : Dk} {p : Nm} (h1 : getT d.states p = getT dk.states p) (h2 : getT d.goals p = getT dk.goals p) : SG d p = SG dk p := by
  unfold SG Dk.settled Dk.stOf
  rw [h1, h2]
theorem SG_held {dk : Dk} {p : Nm} (h : SG dk p = true) : ∃ o, getT dk.states p = some (.held, o) ∧ o = getT dk.goals p := by
  rw [SG_iff] at h
  unfold Dk.stOf at h
  cases e : getT dk.states p with
  | none => rw [e] at h; cases h.1
  | some s =>
    rw [e] at h
    obtain ⟨s1, s2⟩ := s
    have h1 : s1 = .held := h.1
    subst h1
    exact ⟨s2, rfl, h.2⟩
theorem SG_not {dk : Dk} {p : Nm} (h : ∀ o, getT dk.states p = some (.held, o) → o ≠ getT dk.goals p) : SG dk p = false := by
  cases e : SG dk p with
  | false => rfl
  | true => obtain ⟨o, h1, h2⟩ := SG_held e; exact absurd h2 (h o h1)
/-- what is settled stands in what is settled -/
theorem SG_pre {dk : Dk} (c : DC NoE dk) {nm : Nm} (hn : 1 ≤ nm.length) : ∀ (k : Nat) (p : Nm), p.length ≤ k → SG dk p = true → nm <+: p → SG dk nm = true
  | 0, p, hk, h, hp => by have := hp.length_le; omega
  | k + 1, p, hk, h, hp => by
    by_cases e : p = nm
    · rw [← e]; exact h
    · obtain ⟨o, h1, h2⟩ := SG_held h
      have : o ≠ none := fun z => by
        have := c.sh _ (getT_mem h1) (by intro z; cases z)
        exact this z
      cases g : getT dk.goals p with
      | none => rw [g] at h2; exact absurd h2 this
      | some v =>
        have hl := hp.length_le
        have hlt : nm.length < p.length := by
          rcases Nat.lt_or_ge nm.length p.length with z | z
          · exact z
          · exact absurd (hp.eq_of_length (by omega)).symm e
        rcases (goal_there c.kn c.ks g).2 with z | z
        · omega
        · exact SG_pre c hn k p.dropLast (by rw [List.length_dropLast]; omega) z (pre_drop hp e)
theorem goal_par {dk : Dk} (c : DC NoE dk) {nm x : Nm} {g : Int} (hn : 1 ≤ nm.length) (h : getT dk.goals x = some g) (hp : nm <+: x) (ne : x ≠ nm) : SG dk nm = true := by
  have hl := hp.length_le
  have hlt : nm.length < x.length := by
    rcases Nat.lt_or_ge nm.length x.length with z | z
    · exact z
    · exact absurd (hp.eq_of_length (by omega)).symm ne
  rcases (goal_there c.kn c.ks h).2 with z | z
  · omega
  · exact SG_pre c hn _ _ (Nat.le_refl _) z (pre_drop hp ne)
/-- what changes at a step at nm -/
structure Stp (dk d : Dk) (nm : Nm) : Prop where
  c : DC NoE dk
  c' : DC NoE d
  hm : d.marks = dk.marks
  hh : d.hcs = dk.hcs
  k0 : nm ∈ dk.keys
  k1 : nm ∈ d.keys
  ot : ∀ x, x ≠ nm → getT d.states x = getT dk.states x ∨ (nm <+: x ∧ (getT d.states x = none ∨ (getT d.states x = some (.free, none) ∧ getT dk.states x = none)))
theorem Stp.n1 {dk d : Dk} {nm : Nm} (s : Stp dk d nm) : 1 ≤ nm.length := (s.c.ks nm s.k0).1
theorem Stp.key {dk d : Dk} {nm x : Nm} (s : Stp dk d nm) (h : ¬ nm <+: x ∨ x = nm) : x ∈ d.keys ↔ x ∈ dk.keys := by
  by_cases e : x = nm
  · subst e; exact ⟨fun _ => s.k0, fun _ => s.k1⟩
  · rcases s.ot x e with g | g
    · rw [key_get, key_get, g]
    · rcases h with h | h
      · exact absurd g.1 h
      · exact absurd h e
theorem pre_lt {nm x : Nm} (hp : nm <+: x) (ne : x ≠ nm) : nm.length < x.length := by
  have hl := hp.length_le
  rcases Nat.lt_or_ge nm.length x.length with z | z
  · exact z
  · exact absurd (hp.eq_of_length (by omega)).symm ne
/-- a step at a name that isn't settled ahead or behind -/
theorem Stp.uns {dk d : Dk} {nm : Nm} (s : Stp dk d nm) (a0 : SG dk nm = false) (a1 : getT d.goals nm = getT dk.goals nm → SG d nm = false) (rk : rank (getT d.states nm) (getT dk.goals nm) + 1 ≤ rank (getT dk.states nm) (getT dk.goals nm)) :
    (∀ x : Nm, x.length ≤ 3 → getT d.goals x = getT dk.goals x) ∧ pot d + 1 ≤ pot dk := by
  have n1 := s.n1
  have low : ∀ p : Nm, nm <+: p → SG dk p = false := fun p hp => by
    cases e : SG dk p with
    | false => rfl
    | true => rw [SG_pre s.c n1 _ _ (Nat.le_refl _) e hp] at a0; cases a0
  have sg : ∀ p : Nm, getT d.goals p = getT dk.goals p → SG d p = SG dk p := fun p hg => by
    by_cases e : p = nm
    · subst e; rw [a0, a1 hg]
    · rcases s.ot p e with g | ⟨g1, g2⟩
      · exact SG_congr g hg
      · rw [low p g1]
        refine SG_not fun o ho => ?_
        rcases g2 with g2 | g2
        · rw [g2] at ho; cases ho
        · rw [g2.1] at ho; cases ho
  have go : ∀ x : Nm, x.length ≤ 3 → getT d.goals x = getT dk.goals x := fun x hx => by
    refine goals_same s.c.kn s.c.ks s.c'.kn s.c'.ks s.hm s.hh (fun x h1 => s.key ?_) 3 (fun p hp1 hp3 hg => ⟨sg p hg, fun hs x hd hl => s.key ?_⟩) x hx (.inr (.inr rfl))
    · by_cases e : x = nm
      · exact .inr e
      · exact .inl fun z => by have := pre_lt z e; omega
    · by_cases e : x = nm
      · exact .inr e
      · refine .inl fun z => ?_
        have := low p (by rw [← hd]; exact pre_drop z e)
        rw [this] at hs; cases hs
  refine ⟨go, ?_⟩
  have em : d.ms = dk.ms := by unfold Dk.ms; rw [s.hm]
  have l3 : ∀ x ∈ dk.ms, 1 ≤ x.length ∧ x.length ≤ 3 := fun x hx => by
    obtain ⟨q, hq, rfl⟩ := List.mem_map.mp hx
    obtain ⟨p, _, _, h1, h3, _⟩ := s.c.mk_of hq
    exact ⟨h1, h3⟩
  have eU : ∀ n, Un d n = Un dk n := fun n => by
    unfold Un
    rw [em]
    congr 1
    exact List.filter_congr fun x hx => by rw [sg x (go x (l3 x hx).2)]
  have eR : Rk d + 1 ≤ Rk dk := by
    unfold Rk
    rw [em]
    refine sum_lt (y := nm) (s.c.km nm s.k0) (fun x hx => ?_) (by rw [go nm (s.c.ks nm s.k0).2]; exact rk)
    rw [go x (l3 x hx).2]
    by_cases e : x = nm
    · subst e; omega
    · rcases s.ot x e with g | ⟨g1, g2⟩
      · rw [g]; exact Nat.le_refl _
      · rcases g2 with g2 | g2
        · rw [g2]; exact Nat.zero_le _
        · rw [g2.1]
          cases g : getT dk.goals x with
          | none => exact Nat.zero_le _
          | some v =>
            rw [goal_par s.c n1 g g1 e] at a0; cases a0
  unfold pot
  rw [eU, eU]
  omega
theorem ms_len {dk : Dk} (c : DC NoE dk) : dk.ms.length ≤ 78 := by unfold Dk.ms; rw [List.length_map]; exact c.mlen
theorem Rk_le {dk : Dk} (c : DC NoE dk) : Rk dk ≤ 390 := by
  have h1 := ms_len c
  have h2 : Rk dk ≤ 5 * dk.ms.length := sum_bd fun x _ => rank_le _ _
  omega
theorem Un_le {dk : Dk} (c : DC NoE dk) (n : Nat) : Un dk n ≤ 78 := Nat.le_trans (List.length_filter_le _ _) (ms_len c)
/-- a step at which a name is settled -/
theorem Stp.set {dk d : Dk} {nm : Nm} (s : Stp dk d nm) {h : Int} (a0 : getT dk.states nm = some (.taking, some h)) (a1 : getT d.states nm = some (.held, some h)) (hg : getT dk.goals nm = some h) : pot d + 1 ≤ pot dk := by
  have n1 := s.n1
  have n3 := (s.c.ks nm s.k0).2
  have sg : ∀ p : Nm, p.length ≤ nm.length → p ≠ nm → getT d.goals p = getT dk.goals p → SG d p = SG dk p := fun p hp e hg => by
    rcases s.ot p e with g | ⟨g1, g2⟩
    · exact SG_congr g hg
    · have := pre_lt g1 e; omega
  have go : ∀ x : Nm, x.length ≤ nm.length → getT d.goals x = getT dk.goals x := fun x hx => by
    refine goals_same s.c.kn s.c.ks s.c'.kn s.c'.ks s.hm s.hh (fun x h1 => s.key ?_) nm.length (fun p hp1 hp3 hg => ⟨sg p (by omega) (fun z => by rw [z] at hp3; omega) hg, fun hs x hd hl => s.key ?_⟩) x hx (by omega)
    · by_cases e : x = nm
      · exact .inr e
      · exact .inl fun z => by have := pre_lt z e; omega
    · by_cases e : x = nm
      · exact .inr e
      · exact .inl fun z => by have := pre_lt z e; omega
  have em : d.ms = dk.ms := by unfold Dk.ms; rw [s.hm]
  have hM : nm ∈ dk.ms := s.c.km nm s.k0
  have s0 : SG dk nm = false := SG_not fun o ho => by rw [a0] at ho; cases ho
  have s1 : SG d nm = true := by
    rw [SG_iff, stOf_some a1, go nm (Nat.le_refl _), hg]; exact ⟨rfl, rfl⟩
  have less : Un d nm.length + 1 ≤ Un dk nm.length := by
    unfold Un
    rw [em]
    refine fl_lt hM (fun x hx hp => ?_) (by rw [s1]; simp) (by rw [s0]; simp)
    rw [Bool.and_eq_true, decide_eq_true_eq] at hp ⊢
    refine ⟨hp.1, ?_⟩
    by_cases e : x = nm
    · rw [e, s0]; rfl
    · rw [← sg x (by omega) e (go x (by omega))]; exact hp.2
  have same1 : 2 ≤ nm.length → Un d 1 = Un dk 1 := fun h2 => by
    unfold Un
    rw [em]
    congr 1
    refine List.filter_congr fun x hx => ?_
    by_cases e : x.length = 1
    · rw [sg x (by omega) (fun z => by rw [z] at e; omega) (go x (by omega))]
    · simp [e]
  have r1 := Rk_le s.c'
  have u2 := Un_le s.c' 2
  by_cases e1 : nm.length = 1
  · rw [e1] at less
    unfold pot
    omega
  · by_cases e2 : nm.length = 2
    · rw [e2] at less
      have := same1 (by omega)
      unfold pot
      omega
    · have e3 : nm.length = 3 := by omega
      have l3 : ∀ x ∈ dk.ms, 1 ≤ x.length ∧ x.length ≤ 3 := fun x hx => by
        obtain ⟨q, hq, rfl⟩ := List.mem_map.mp hx
        obtain ⟨p, _, _, h1, h3, _⟩ := s.c.mk_of hq
        exact ⟨h1, h3⟩
      have same2 : Un d 2 = Un dk 2 := by
        unfold Un
        rw [em]
        congr 1
        refine List.filter_congr fun x hx => ?_
        by_cases e : x.length = 2
        · rw [sg x (by omega) (fun z => by rw [z] at e; omega) (go x (by omega))]
        · simp [e]
      have eR : Rk d + 1 ≤ Rk dk := by
        unfold Rk
        rw [em]
        refine sum_lt (y := nm) hM (fun x hx => ?_) ?_
        · have hx3 := (l3 x hx).2
          rw [go x (by omega)]
          by_cases e : x = nm
          · subst e; rw [a0, a1, hg]; simp [rank]
          · rcases s.ot x e with g | ⟨g1, g2⟩
            · rw [g]; exact Nat.le_refl _
            · have := pre_lt g1 e; omega
        · rw [go nm (Nat.le_refl _), a0, a1, hg]; simp [rank]
      have := same1 (by omega)
      unfold pot
      omega
/-! #### letters sent -/
structure GLt (dk : Dk) (h : Int) (lt : Lt) : Prop extends LtOk dk h lt where
  gt : lt.1 = true → getT dk.goals lt.2 = some h
  gl : lt.1 = false → getT dk.goals lt.2 ≠ some h
theorem GLt.stp {dk : Dk} {h : Int} {lt : Lt} (k : GLt dk h lt) (c : DC NoE dk) : Stp dk (dk.letter h lt (Sta.of lt.1)) lt.2 := by
  have hk : lt.2 ∈ dk.keys := by
    cases eb : lt.1 with
    | true => obtain ⟨⟨o, ho⟩, _⟩ := k.tk eb; exact getT_in ho
    | false => exact getT_in (k.lv eb).1
  exact ⟨c, c.letter k.toLtOk, rfl, letter_hcs _ _ _ _, hk, by rw [letter_keys hk]; exact hk, fun x hx => .inl (by rw [letter_get, if_neg hx])⟩
theorem GLt.less {dk : Dk} {h : Int} {lt : Lt} (k : GLt dk h lt) (c : DC NoE dk) : (∀ x : Nm, x.length ≤ 3 → getT (dk.letter h lt (Sta.of lt.1)).goals x = getT dk.goals x) ∧ pot (dk.letter h lt (Sta.of lt.1)) + 1 ≤ pot dk := by
  have s := k.stp c
  have g1 : getT (dk.letter h lt (Sta.of lt.1)).states lt.2 = some (Sta.of lt.1, some h) := by rw [letter_get, if_pos rfl]
  cases eb : lt.1 with
  | true =>
    rw [eb] at s g1
    obtain ⟨⟨o, ho⟩, _⟩ := k.tk eb
    refine s.uns (SG_not fun o h1 => by rw [ho] at h1; cases h1) (fun _ => SG_not fun o h1 => by rw [g1] at h1; cases h1) ?_
    rw [g1, ho, k.gt eb]
    simp [rank, Sta.of]
  | false =>
    rw [eb] at s g1
    obtain ⟨ho, _⟩ := k.lv eb
    have ng := k.gl eb
    refine s.uns (SG_not fun o h1 => by rw [ho] at h1; cases h1; exact fun z => ng z.symm) (fun _ => SG_not fun o h1 => by rw [g1] at h1; cases h1) ?_
    rw [g1, ho]
    show rank (some (Sta.leaving, some h)) (getT dk.goals lt.2) + 1 ≤ rank (some (Sta.held, some h)) (getT dk.goals lt.2)
    rw [rank_l, rank_h, if_neg (show ¬ some h = getT dk.goals lt.2 from fun z => ng z.symm)]
    split <;> omega
inductive GLts : Dk → List En → Dk → Prop
  | nil (dk : Dk) : GLts dk [] dk
  | cons {dk : Dk} {h : Int} {lt : Lt} {es : List En} {d : Dk} : GLt dk h lt → GLts (dk.letter h lt (Sta.of lt.1)) es d → GLts dk (.letter h lt :: es) d
theorem GLts.snoc {dk d : Dk} {es : List En} (l : GLts dk es d) {h : Int} {lt : Lt} (k : GLt d h lt) : GLts dk (es ++ [.letter h lt]) (d.letter h lt (Sta.of lt.1)) := by
  induction l with
  | nil dk => exact .cons k (.nil _)
  | cons k2 _ ih => exact .cons k2 (ih k)
theorem GLts.lts {dk d : Dk} {es : List En} (l : GLts dk es d) : Lts dk es d := by
  induction l with
  | nil dk => exact .nil _
  | cons k _ ih => exact .cons k.toLtOk ih
theorem GLts.less {dk d : Dk} {es : List En} (l : GLts dk es d) (c : DC NoE dk) : (∀ x : Nm, x.length ≤ 3 → getT d.goals x = getT dk.goals x) ∧ pot d + es.length ≤ pot dk := by
  induction l with
  | nil dk => exact ⟨fun _ _ => rfl, Nat.le_refl _⟩
  | cons k _ ih =>
    obtain ⟨h1, h2⟩ := k.less c
    obtain ⟨h3, h4⟩ := ih (c.letter k.toLtOk)
    refine ⟨fun x hx => (h3 x hx).trans (h1 x hx), ?_⟩
    rw [List.length_cons]; omega
theorem think_glts {dk : Dk} (c : DC NoE dk) : ∃ es, GLts dk es dk.think := by
  have d := c.dl
  have gen : ∀ (l : List Nm) (dk1 : Dk) (n : Nat) (es : List En), (∀ nm ∈ l, nm ∈ dk.keys) → Thk dk dk1 n → GLts dk es dk1 → ∃ es2, GLts dk es2 (l.foldl (Dk.thinkStep dk.goals) dk1) := by
    intro l
    induction l with
    | nil => intro dk1 n es _ _ h; exact ⟨es, h⟩
    | cons nm l ih =>
      intro dk1 n es hl h k
      have hnm : nm ∈ dk1.keys := by rw [h.ks]; exact hl nm List.mem_cons_self
      obtain ⟨a1, a2, a3, a4, a5, a6, a7⟩ := thinkStep_ok (dk0 := dk) h.dl h.wk (nm := nm) hnm
      have h3 := (c.ks nm (hl nm List.mem_cons_self)).2
      have hgo := (k.less c).1 nm h3
      have : ∃ es2, GLts dk es2 (Dk.thinkStep dk.goals dk1 nm) := by
        obtain ⟨st, hst⟩ := getT_some hnm
        have hs := stOf_some hst
        obtain ⟨sta, o⟩ := st
        unfold Dk.thinkStep
        rw [hs]
        split
        · rename_i cc
          split
          · rename_i hin
            have hp := getT_mem hst
            have c1 : sta = .held := cc.1
            obtain ⟨g, hg⟩ : ∃ g, o = some g := by
              cases e : o with
              | none => exact absurd e (h.dl.sh _ hp (by rw [c1]; intro z; cases z))
              | some g => exact ⟨g, rfl⟩
            subst hg; subst c1
            exact ⟨_, k.snoc (lt := (false, nm)) { hw := h.dl.sw _ hp g rfl, tk := (fun z => by cases z), lv := (fun _ => ⟨hst, hin⟩), gt := (fun z => by cases z), gl := (fun _ z => cc.2 (by rw [← hgo]; exact z.symm)) }⟩
          · exact ⟨es, k⟩
        · split
          · exact ⟨es, k⟩
          · rename_i g hg
            split
            · rename_i cc
              have c1 : sta = .free := cc.1
              subst c1
              have hh := goals_who dk hg
              rw [← hcs_keys, ← k.lts.hcs, hcs_keys] at hh
              have hf := goals_fit dk hg
              have e3 := hcs_whoD k.lts.hcs g
              have e4 : dk1.mkOf nm = dk.mkOf nm := by unfold Dk.mkOf; rw [k.lts.same.1]
              rw [← e3.1, ← e4] at hf
              exact ⟨_, k.snoc (lt := (true, nm)) { hw := hh, tk := (fun _ => ⟨⟨_, hst⟩, cc.2, hf⟩), lv := (fun z => by cases z), gt := (fun _ => by rw [hgo]; exact hg), gl := (fun z => by cases z) }⟩
            · exact ⟨es, k⟩
      obtain ⟨es2, k2⟩ := this
      exact ih _ (n + 1) es2 (fun x hx => hl x (List.mem_cons_of_mem _ hx)) ⟨a1, a2.trans h.ks, a3.trans h.wk, a4.trans h.mk', a5.trans h.pk, a6.trans h.fk, by have := h.lg; omega⟩ k2
  exact gen (sortN dk.keys) dk 0 [] (fun nm h => List.mem_mergeSort.mp h) ⟨d, rfl, rfl, rfl, rfl, rfl, Nat.le_refl _⟩ (.nil dk)
/-! #### letters done -/
theorem freeIn_marks (nm : Nm) : ∀ (l : List Nm) (d : Dk), (l.foldl (Dk.freeIn nm) d).marks = d.marks
  | [], d => rfl
  | x :: l, d => by
    show (l.foldl (Dk.freeIn nm) (Dk.freeIn nm d x)).marks = _
    rw [freeIn_marks nm l]
    unfold Dk.freeIn; split <;> rfl
theorem did_marks (dk : Dk) (h : Int) (lt : Lt) : (dk.did h lt).marks = dk.marks := by
  unfold Dk.did
  cases e : lt.1 with
  | true => rw [if_pos rfl, freeIn_marks]; rfl
  | false =>
    rw [if_neg (fun z => by cases z)]
    show (Dk.innerGone 2 _ lt.2).marks = _
    rw [(goes_inner 2 _ lt.2).marks]; rfl
theorem did_less {dk : Dk} (c : DI dk) {x0 : Int × HpS} (hx : x0 ∈ dk.who) {lt : Lt} {rest : List Lt} (hl : x0.2.left = lt :: rest) : pot (dk.did x0.1 lt) + 1 ≤ pot dk := by
  obtain ⟨b, nm⟩ := lt
  have l1 := c.l1 x0 hx (b, nm) (by rw [hl]; exact List.mem_cons_self)
  have l1 : getT dk.states nm = some (Sta.of b, some x0.1) := l1
  have c' := (c.did hx hl).1.toDC
  have hk := getT_in l1
  cases b with
  | true =>
    have nch : ∀ x : Nm, x.dropLast = nm → x.length ≠ 1 → getT dk.states x = none := fun x e h1 => by
      cases k : getT dk.states x with
      | none => rfl
      | some s =>
        obtain ⟨s2, e1, e2⟩ := c.ch x (getT_in k) h1
        rw [e, l1] at e1
        cases e1
        rcases e2 with e2 | e2 <;> cases e2
    have hn1 := (c.toDC.ks nm hk).1
    have nself : nm.dropLast ≠ nm := fun z => by
      have := congrArg List.length z
      rw [List.length_dropLast] at this; omega
    have g1 : getT (dk.did x0.1 (true, nm)).states nm = some (.held, some x0.1) := by
      rw [takeD_get, if_neg fun z => nself z.2, if_pos rfl]
    have s : Stp dk (dk.did x0.1 (true, nm)) nm := ⟨c.toDC, c', did_marks _ _ _, (did_hcs _ _ _).1, hk, getT_in g1, fun x hx => by
      rw [takeD_get]
      by_cases e : x ∈ dk.marks.map (·.1) ∧ x.dropLast = nm
      · rw [if_pos e]
        right
        have h1 : x.length ≠ 1 := fun z => by
          have : x.dropLast.length = x.length - 1 := List.length_dropLast
          rw [e.2] at this; omega
        exact ⟨by rw [← e.2]; exact List.dropLast_prefix x, .inr ⟨rfl, nch x e.2 h1⟩⟩
      · rw [if_neg e, if_neg hx]; exact .inl rfl⟩
    by_cases hg : getT dk.goals nm = some x0.1
    · exact s.set l1 g1 hg
    · refine (s.uns (SG_not fun o h1 => by rw [l1] at h1; cases h1) (fun e => SG_not fun o h1 => by rw [g1] at h1; cases h1; rw [e]; exact fun z => hg z.symm) ?_).2
      rw [g1, l1]
      show rank (some (Sta.held, some x0.1)) _ + 1 ≤ rank (some (Sta.taking, some x0.1)) _
      rw [rank_h, rank_t, if_neg (show ¬ some x0.1 = getT dk.goals nm from fun z => hg z.symm), if_neg (show ¬ some x0.1 = getT dk.goals nm from fun z => hg z.symm)]
      split <;> omega
  | false =>
    have g1 : getT (dk.did x0.1 (false, nm)).states nm = some (.free, none) := by rw [leave_get c hx hl, if_pos rfl]
    have s : Stp dk (dk.did x0.1 (false, nm)) nm := ⟨c.toDC, c', did_marks _ _ _, (did_hcs _ _ _).1, hk, getT_in g1, fun x hx2 => by
      rw [leave_get c hx hl, if_neg hx2]
      by_cases e : und nm x = true
      · rw [if_pos e]
        unfold und at e
        rw [Bool.and_eq_true, decide_eq_true_eq] at e
        exact .inr ⟨e.1, .inl rfl⟩
      · rw [if_neg e]; exact .inl rfl⟩
    refine (s.uns (SG_not fun o h1 => by rw [l1] at h1; cases h1) (fun e => SG_not fun o h1 => by rw [g1] at h1; cases h1) ?_).2
    rw [g1, l1]
    show rank (some (Sta.free, none)) _ + 1 ≤ rank (some (Sta.leaving, some x0.1)) _
    rw [rank_f, rank_l]
    split <;> omega
/-- a letter done and what is sent behind it: nearer to rest, the log no longer than that -/
theorem answer_less {dk : Dk} (c : DI dk) {n : Int} (hn : n ∈ dk.who.map (·.1)) : (dk.answer n).2.log.length + pot (dk.answer n).2 ≤ dk.log.length + pot dk ∧ ((dk.whoD n).left ≠ [] → pot (dk.answer n).2 + 1 ≤ pot dk) := by
  obtain ⟨i, x, hi, rfl⟩ := who_at hn
  have hw := whoD_at c.wn hi
  unfold Dk.answer
  rw [hw]
  cases hl : x.2.left with
  | nil => exact ⟨Nat.le_refl _, fun h => absurd rfl h⟩
  | cons lt rest =>
    have hx := List.mem_of_getElem? hi
    have h1 := did_less c hx hl
    obtain ⟨es, l⟩ := think_glts (c.did hx hl).1.toDC
    have h2 := (l.less (c.did hx hl).1.toDC).2
    have h3 := l.lts.log
    have h4 := did_log dk x.1 lt
    show (dk.did x.1 lt).think.log.length + pot (dk.did x.1 lt).think ≤ _ ∧ (_ → pot (dk.did x.1 lt).think + 1 ≤ _)
    rw [h3, h4, List.length_append, List.length_append, List.length_singleton]
    exact ⟨by omega, fun _ => by omega⟩
theorem Un1_le {dk : Dk} (c : DI dk) : Un dk 1 ≤ 6 := by
  have nd : dk.ms.Nodup := by
    unfold Dk.ms
    rw [c.fm]
    exact marked_nd c.pn
  have := sub_len (m := dk.plugged.map fun p => [p.1]) (nd.sublist (List.filter_sublist (p := fun x => decide (x.length = 1) && !SG dk x))) fun x hx => by
    obtain ⟨h1, h2⟩ := List.mem_filter.mp hx
    rw [Bool.and_eq_true, decide_eq_true_eq] at h2
    obtain ⟨q, hq, rfl⟩ := List.mem_map.mp h1
    obtain ⟨p, hp, hpre, _⟩ := c.toDC.mk_of hq
    refine List.mem_map.mpr ⟨p, hp, ?_⟩
    exact hpre.eq_of_length (by rw [h2.1]; rfl)
  rw [List.length_map] at this
  exact Nat.le_trans this c.pc
theorem pot_le {dk : Dk} (c : DI dk) : pot dk ≤ 216222 := by
  have h1 := Un1_le c
  have h2 := Un_le c.toDC 2
  have h3 := Rk_le c.toDC
  unfold pot
  omega
end DM

namespace DM
open PySem PySem.Spec PyProof.Rows L2
/-! ### desks between events; letters done one by one, until none is left -/
def Thot (dk : Dk) : Prop := dk = emptyDk ∨ ∃ d, DC NoE d ∧ dk = d.think
structure Gd (dk : Dk) : Prop where
  di : DI dk
  dq : DQ dk
  th : Thot dk
  du : DU dk
theorem emptyGd : Gd emptyDk := ⟨emptyDI, emptyDQ, .inl rfl, emptyDU⟩
theorem Gd.ev {dk d : Dk} {e : Option En} (g : Gd dk) (v : Ev dk e d) : Gd d := by
  refine ⟨v.di g.di, v.dq g.di g.dq, ?_, v.du g.di g.du⟩
  cases v with
  | none => exact g.th
  | step m => exact .inr ⟨_, (m.ok g.di).1.toDC, rfl⟩
structure Ans (dk d : Dk) : Prop where
  gd : Gd d
  hcs : d.hcs = dk.hcs
  pl : d.plugged = dk.plugged
  fr : d.fresh = dk.fresh
  lg : d.log.length + pot d ≤ dk.log.length + pot dk
theorem Ans.refl {dk : Dk} (g : Gd dk) : Ans dk dk := ⟨g, rfl, rfl, rfl, Nat.le_refl _⟩
theorem Ans.trans {a b c : Dk} (h : Ans a b) (k : Ans b c) : Ans a c := ⟨k.gd, k.hcs.trans h.hcs, k.pl.trans h.pl, k.fr.trans h.fr, Nat.le_trans k.lg h.lg⟩
theorem Ans.wk {dk d : Dk} (h : Ans dk d) : d.who.map (·.1) = dk.who.map (·.1) := by rw [← hcs_keys, ← hcs_keys, h.hcs]
theorem Gd.answer {dk : Dk} (g : Gd dk) {n : Int} (hn : n ∈ dk.who.map (·.1)) : Ans dk (dk.answer n).2 := by
  obtain ⟨v, h1, h2, h3⟩ := answer_ev2 g.di hn
  exact ⟨g.ev v, h1, h2, h3, (answer_less g.di hn).1⟩
theorem over_false {dk : Dk} (h : ¬ dk.over = true) : ∃ w ∈ dk.who, w.2.left ≠ [] := by
  unfold Dk.over at h
  rw [List.all_eq_true] at h
  apply Classical.byContradiction
  intro z
  refine h fun w hw => decide_eq_true ?_
  apply Classical.byContradiction
  intro y
  exact z ⟨w, hw, y⟩
/-- a round brings nearer, if any letter is left -/
theorem Gd.roundI : ∀ (l : List Int) {dk : Dk} (g : Gd dk) (k : Int), (∀ h ∈ l, h ∈ dk.who.map (·.1)) → Ans dk (dk.roundI l k).2 ∧ ((∃ h ∈ l, (dk.whoD h).left ≠ []) → pot (dk.roundI l k).2 + 1 ≤ pot dk)
  | [], dk, g, k, _ => ⟨Ans.refl g, fun ⟨_, h, _⟩ => by cases h⟩
  | h :: l, dk, g, k, hl => by
    have hh := hl h List.mem_cons_self
    have a := g.answer hh
    obtain ⟨w, q⟩ := Gd.roundI l a.gd (k + if (dk.answer h).1.isSome then 1 else 0) fun x hx => by rw [a.wk]; exact hl x (List.mem_cons_of_mem _ hx)
    refine ⟨a.trans w, fun ⟨x, hx, hne⟩ => ?_⟩
    show pot ((dk.answer h).2.roundI l _).2 + 1 ≤ pot dk
    have hp := answer_less g.di hh
    have wp : pot ((dk.answer h).2.roundI l (k + if (dk.answer h).1.isSome then 1 else 0)).2 ≤ pot (dk.answer h).2 := by
      by_cases z : ∃ y ∈ l, ((dk.answer h).2.whoD y).left ≠ []
      · have := q z; omega
      · -- nothing is left to do
        have idle : ∀ (l : List Int) (d : Dk) (k : Int), (∀ y ∈ l, (d.whoD y).left = []) → (d.roundI l k).2 = d := by
          intro l
          induction l with
          | nil => intro d k _; rfl
          | cons y l ih =>
            intro d k hy
            have : d.answer y = (none, d) := by unfold Dk.answer; rw [hy y List.mem_cons_self]
            show ((d.answer y).2.roundI l _).2 = d
            rw [this]
            exact ih d _ fun z hz => hy z (List.mem_cons_of_mem _ hz)
        rw [idle l _ _ fun y hy => Classical.byContradiction fun w => z ⟨y, hy, w⟩]
        exact Nat.le_refl _
    by_cases e : (dk.whoD h).left = []
    · have same : dk.answer h = (none, dk) := by unfold Dk.answer; rw [e]
      have e1 : (dk.answer h).2 = dk := by rw [same]
      rcases List.mem_cons.mp hx with rfl | hx
      · exact absurd e hne
      · have := q ⟨x, hx, by rw [e1]; exact hne⟩
        rw [e1] at this
        rw [e1]
        exact this
    · have := hp.2 e
      omega
theorem Gd.round {dk : Dk} (g : Gd dk) (k : Int) : Ans dk (dk.round k).2 ∧ (¬ dk.over = true → pot (dk.round k).2 + 1 ≤ pot dk) := by
  obtain ⟨a, q⟩ := Gd.roundI (sortI (dk.who.map (·.1))) g k fun h hh => (sortI_perm _).mem_iff.mp hh
  refine ⟨a, fun ho => q ?_⟩
  obtain ⟨w, hw, hne⟩ := over_false ho
  refine ⟨w.1, (sortI_perm _).mem_iff.mpr (List.mem_map.mpr ⟨w, hw, rfl⟩), ?_⟩
  obtain ⟨i, hi, e⟩ := List.mem_iff_getElem.mp hw
  rw [whoD_at g.di.wn (by rw [List.getElem?_eq_getElem hi, e] : dk.who[i]? = some w)]
  exact hne
theorem Gd.settle : ∀ (n : Nat) {dk : Dk} (g : Gd dk) (k : Int), pot dk < n → ∃ r d, dk.settleN n k = some (r, d) ∧ Ans dk d ∧ d.over = true
  | 0, dk, g, k, h => absurd h (Nat.not_lt_zero _)
  | n + 1, dk, g, k, h => by
    unfold Dk.settleN
    by_cases ho : dk.over = true
    · rw [if_pos ho]
      exact ⟨k, dk, rfl, Ans.refl g, ho⟩
    · rw [if_neg ho]
      obtain ⟨a, q⟩ := g.round k
      have := q ho
      obtain ⟨r, d, e, a2, o⟩ := Gd.settle n a.gd (dk.round k).1 (by omega)
      exact ⟨r, d, e, a.trans a2, o⟩
/-! #### at rest -/
theorem letter_row {dk : Dk} {h : Int} {lt : Lt} (k : h ∈ dk.who.map (·.1)) (s : Sta) : ∃ w ∈ (dk.letter h lt s).who, w.2.left ≠ [] := by
  obtain ⟨w, hw, e⟩ := List.mem_map.mp k
  rw [letter_who]
  refine ⟨_, List.mem_map.mpr ⟨w, hw, rfl⟩, ?_⟩
  rw [if_pos e]
  show w.2.left ++ [lt] ≠ []
  simp
theorem letter_row2 {dk : Dk} {h : Int} {lt : Lt} {s : Sta} (k : ∃ w ∈ dk.who, w.2.left ≠ []) : ∃ w ∈ (dk.letter h lt s).who, w.2.left ≠ [] := by
  obtain ⟨w, hw, e⟩ := k
  rw [letter_who]
  refine ⟨_, List.mem_map.mpr ⟨w, hw, rfl⟩, ?_⟩
  split
  · show w.2.left ++ [lt] ≠ []
    simp
  · exact e
theorem GLts.row2 {dk d : Dk} {es : List En} (l : GLts dk es d) (k : ∃ w ∈ dk.who, w.2.left ≠ []) : ∃ w ∈ d.who, w.2.left ≠ [] := by
  induction l with
  | nil dk => exact k
  | cons _ _ ih => exact ih (letter_row2 k)
theorem over_no {dk : Dk} (ho : dk.over = true) : ∀ w ∈ dk.who, w.2.left = [] := fun w hw => by
  unfold Dk.over at ho
  exact of_decide_eq_true (List.all_eq_true.mp ho w hw)
theorem sortN_nil : sortN [] = [] := (sortN_perm []).eq_nil
theorem Thot.still {dk : Dk} (t : Thot dk) (ho : dk.over = true) : dk.think = dk := by
  rcases t with rfl | ⟨d, c, e⟩
  · unfold Dk.think
    rw [show emptyDk.keys = [] from rfl, sortN_nil]; rfl
  · obtain ⟨es, l⟩ := think_glts c
    rw [← e] at l
    cases l with
    | nil _ => exact e.symm
    | cons k l =>
      obtain ⟨w, hw, hne⟩ := l.row2 (letter_row k.hw _)
      exact absurd (over_no ho w hw) hne
/-- nothing is to be said of any name -/
theorem still_steps {dk0 : Dk} : ∀ (l : List Nm) (dk : Dk), (∀ nm ∈ l, Dk.thinkStep dk0.goals dk nm = dk ∨ (Dk.thinkStep dk0.goals dk nm).log.length = dk.log.length + 1) → l.foldl (Dk.thinkStep dk0.goals) dk = dk → (∀ (d : Dk) nm, Dk.thinkStep dk0.goals d nm = d ∨ (Dk.thinkStep dk0.goals d nm).log.length = d.log.length + 1) → ∀ nm ∈ l, Dk.thinkStep dk0.goals dk nm = dk
  | [], dk, _, _, _ => fun nm h => by cases h
  | x :: l, dk, h, e, a => by
    have mono : ∀ (l : List Nm) (d : Dk), d.log.length ≤ (l.foldl (Dk.thinkStep dk0.goals) d).log.length := by
      intro l
      induction l with
      | nil => intro d; exact Nat.le_refl _
      | cons y l ih =>
        intro d
        have := ih (Dk.thinkStep dk0.goals d y)
        rcases a d y with z | z
        · rw [List.foldl_cons, z]; rw [z] at this; exact this
        · rw [List.foldl_cons]; omega
    rcases a dk x with z | z
    · intro nm hnm
      rcases List.mem_cons.mp hnm with rfl | hnm
      · exact z
      · rw [List.foldl_cons, z] at e
        exact still_steps l dk (fun nm hn => h nm (List.mem_cons_of_mem _ hn)) e a nm hnm
    · exfalso
      have := mono l (Dk.thinkStep dk0.goals dk x)
      rw [← List.foldl_cons, e] at this
      omega
theorem step_or (g : List (Nm × Int)) (d : Dk) (nm : Nm) : Dk.thinkStep g d nm = d ∨ (Dk.thinkStep g d nm).log.length = d.log.length + 1 := by
  have lg : ∀ h lt s, (d.letter h lt s).log.length = d.log.length + 1 := fun h lt s => by show (d.log ++ [_]).length = _; simp
  unfold Dk.thinkStep
  split
  · split
    · exact .inr (lg _ _ _)
    · exact .inl rfl
  · split
    · exact .inl rfl
    · split
      · exact .inr (lg _ _ _)
      · exact .inl rfl
structure Quiet (dk : Dk) : Prop where
  no : ∀ nm s, getT dk.states nm = some s → s.1 = .free ∨ s.1 = .held
  hd : ∀ nm o, getT dk.states nm = some (.held, o) → o ≠ getT dk.goals nm → ∃ x ∈ dk.inner nm, (dk.stOf x).1 ≠ .free
  fr : ∀ nm o g, getT dk.states nm = some (.free, o) → getT dk.goals nm = some g → ¬ (dk.used g : Int) < (dk.whoD g).room
theorem Gd.quiet {dk : Dk} (g : Gd dk) (ho : dk.over = true) : Quiet dk := by
  have st := g.th.still ho
  have steps := still_steps (dk0 := dk) (sortN dk.keys) dk (fun nm _ => step_or _ _ _) st (fun d nm => step_or _ _ _)
  have step : ∀ nm ∈ dk.keys, Dk.thinkStep dk.goals dk nm = dk := fun nm h => steps nm ((sortN_perm _).mem_iff.mpr h)
  have lg : ∀ h lt s, dk.letter h lt s ≠ dk := fun h lt s z => by
    have := congrArg (fun d : Dk => d.log.length) z
    have e : (dk.letter h lt s).log.length = dk.log.length + 1 := by show (dk.log ++ [_]).length = _; simp
    omega
  refine ⟨fun nm s hs => ?_, fun nm o hs hne => ?_, fun nm o v hs hg hu => ?_⟩
  · obtain ⟨sa, o⟩ := s
    have key : ∀ b, sa = Sta.of b → False := fun b e => by
      subst e
      cases o with
      | none => exact g.di.sh _ (getT_mem hs) (by cases b <;> (intro z; cases z)) rfl
      | some h =>
        obtain ⟨w, hw, e, hl⟩ := g.dq.lt nm b h hs
        rw [over_no ho w hw] at hl
        cases hl
    cases sa with
    | free => exact .inl rfl
    | held => exact .inr rfl
    | taking => exact (key true rfl).elim
    | leaving => exact (key false rfl).elim
  · have h1 := step nm (getT_in hs)
    unfold Dk.thinkStep at h1
    rw [stOf_some hs, if_pos ⟨rfl, hne⟩] at h1
    split at h1
    · exact absurd h1 (lg _ _ _)
    · rename_i hf
      apply Classical.byContradiction
      intro z
      refine hf (List.filter_eq_nil_iff.mpr fun x hx y => z ⟨x, hx, of_decide_eq_true y⟩)
  · have h1 := step nm (getT_in hs)
    unfold Dk.thinkStep at h1
    rw [stOf_some hs, if_neg (fun z => by cases z.1), hg] at h1
    have h1 : (if (Sta.free = Sta.free ∧ (dk.used v : Int) < (dk.whoD v).room) then dk.letter v (true, nm) .taking else dk) = dk := h1
    rw [if_pos ⟨rfl, hu⟩] at h1
    exact lg _ _ _ h1
/-- what is held is held by its goal -/
theorem Quiet.goal {dk : Dk} (q : Quiet dk) (g : Gd dk) : ∀ (k : Nat) (nm : Nm) (o : Option Int), 3 ≤ nm.length + k → getT dk.states nm = some (.held, o) → o = getT dk.goals nm := by
  intro k
  induction k with
  | zero =>
    intro nm o hk hs
    apply Classical.byContradiction
    intro z
    obtain ⟨x, hx, _⟩ := q.hd nm o hs z
    have := inner_len g.di.toDC.kg.toKN hx
    omega
  | succ k ih =>
    intro nm o hk hs
    apply Classical.byContradiction
    intro z
    obtain ⟨x, hx, hf⟩ := q.hd nm o hs z
    obtain ⟨l1, _⟩ := inner_len g.di.toDC.kg.toKN hx
    obtain ⟨hxk, hxd⟩ := mem_inner.mp hx
    obtain ⟨s, hs2⟩ := getT_some hxk
    rw [stOf_some hs2] at hf
    obtain ⟨sa, o2⟩ := s
    have hsa : sa = .held := (q.no x _ hs2).resolve_left hf
    subst hsa
    have e2 := ih x o2 (by omega) hs2
    cases ho2 : o2 with
    | none => exact g.di.sh _ (getT_mem hs2) (by intro z; cases z) ho2
    | some v =>
      rw [ho2] at e2
      rcases (goal_there g.di.kn g.di.toDC.ks e2.symm).2 with y | y
      · have := (g.di.toDC.ks nm (getT_in hs)).1; omega
      · rw [hxd, SG_iff, stOf_some hs] at y
        exact z y.2
theorem goals_nd (ps : List (Nm × List Int)) (hs : List He) : ((hadOf ps hs).map (·.1)).Nodup := by
  have gen : ∀ (rs : List Row) (s : Had), (s.2.map (·.1)).Nodup → ((rs.foldl hadStep s).2.map (·.1)).Nodup := by
    intro rs
    induction rs with
    | nil => intro s h; exact h
    | cons r rs ih =>
      intro s h
      refine ih _ ?_
      unfold hadStep
      split
      · exact putT_keys_nd h
      · exact h
  exact gen _ _ List.nodup_nil
/-- no helper has more goals than room -/
theorem had_room {ps : List (Nm × List Int)} {hs : List He} (oh : OkHs hs) {h : He} (hh : h ∈ hs) : (((hadOf ps hs).map (·.2)).count h.1 : Int) ≤ h.2.2 := by
  rw [had_law oh]
  have nd := rise_nd oh.2.1
  have gen : ∀ (rs : List Row) (fd : List (Nm × Int)), ((fd.map (·.2)).count h.1 : Int) ≤ h.2.2 → (((rs.foldl (restStep hs) fd).map (·.2)).count h.1 : Int) ≤ h.2.2 := by
    intro rs
    induction rs with
    | nil => intro fd h; exact h
    | cons r rs ih =>
      intro fd hf
      refine ih _ ?_
      unfold restStep
      split
      · rename_i c
        rw [putT_new _ c.1, List.map_append, List.count_append]
        by_cases e : r.2.2.1 = h.1
        · have c2 := c.2.1
          rw [e, roomIn_eq nd hh] at c2
          have : ([(r.2.2.2, r.2.2.1)].map (·.2)).count h.1 = 1 := by simp [e]
          have c3 := Int.add_one_le_iff.mpr c2
          rw [this]
          push_cast
          exact c3
        · have : ([(r.2.2.2, r.2.2.1)].map (·.2)).count h.1 = 0 := by simp [List.count_cons, e]
          rw [this]; omega
      · exact hf
  exact gen _ [] (by have := (oh.2.2 h hh).2.1; simpa using this)
/-- what has a goal is held by it -/
theorem Quiet.had {dk : Dk} (q : Quiet dk) (g : Gd dk) {nm : Nm} {v : Int} (hg : getT dk.goals nm = some v) : getT dk.states nm = some (.held, some v) := by
  have hk := (goal_there g.di.kn g.di.toDC.ks hg).1
  obtain ⟨s, hs⟩ := getT_some hk
  obtain ⟨sa, o⟩ := s
  rcases q.no nm _ hs with e | e
  · have e : sa = .free := e
    subst e
    exfalso
    refine q.fr nm o v hs hg ?_
    -- the names with v all have v for their goal
    have hw := goals_who dk hg
    rw [← hcs_keys] at hw
    obtain ⟨x, hx, rfl⟩ := List.mem_map.mp hw
    have hr := hcs_room g.di.wn hx
    have ow := g.di.toDC.dl.toDW.rows
    have hin : (x.1, x.2.1, x.2.2) ∈ dk.rows := by
      unfold Dk.rows
      refine List.mem_map.mpr ⟨x.1, (sortI_perm _).mem_iff.mpr (by rw [← hcs_keys]; exact List.mem_map.mpr ⟨x, hx, rfl⟩), ?_⟩
      rw [hr.1, hr.2]
    have ct := had_room (ps := (dk.there dk.g2 3).map fun nm => (nm, dk.mkOf nm)) ow hin
    have ct : ((dk.goals.map (·.2)).count x.1 : Int) ≤ x.2.2 := ct
    obtain ⟨b1, b2⟩ := used_names dk g.di.kn x.1
    have nin : nm ∉ (dk.states.filter fun p => decide (p.2.2 = some x.1)).map (·.1) := fun z => by
      obtain ⟨s2, h2⟩ := (b2 nm).mp z
      rw [hs] at h2
      cases h2
      have := g.dq.fr nm _ hs
      cases this
    have l := sub_len (l := nm :: (dk.states.filter fun p => decide (p.2.2 = some x.1)).map (·.1)) (m := (dk.goals.filter fun p => decide (p.2 = x.1)).map (·.1)) (List.nodup_cons.mpr ⟨nin, b1⟩) fun y hy => by
      have : getT dk.goals y = some x.1 := by
        rcases List.mem_cons.mp hy with rfl | hy
        · exact hg
        · obtain ⟨s2, h2⟩ := (b2 y).mp hy
          rcases q.no y _ h2 with e | e
          · have e : s2 = .free := e
            subst e
            have := g.dq.fr y _ h2
            cases this
          · have e : s2 = .held := e
            subst e
            exact (q.goal g 3 y _ (by omega) h2).symm
      exact List.mem_map.mpr ⟨(y, x.1), List.mem_filter.mpr ⟨getT_mem this, by simp⟩, rfl⟩
    rw [List.length_cons, List.length_map, List.length_map] at l
    have ec : (dk.goals.filter fun p => decide (p.2 = x.1)).length = (dk.goals.map (·.2)).count x.1 := by
      rw [List.count_eq_countP, List.countP_map, List.countP_eq_length_filter]
      congr 1
    unfold Dk.used
    rw [hr.1]
    omega
  · have e : sa = .held := e
    subst e
    rw [q.goal g 3 nm o (by omega) hs, hg] at hs
    exact hs
theorem Quiet.iff {dk : Dk} (q : Quiet dk) (g : Gd dk) {nm : Nm} {v : Int} : getT dk.goals nm = some v ↔ getT dk.states nm = some (.held, some v) :=
  ⟨q.had g, fun h => (q.goal g 3 nm _ (by omega) h).symm⟩
theorem Quiet.sg {dk : Dk} (q : Quiet dk) (g : Gd dk) {p : Nm} : SG dk p = (getT dk.goals p).isSome := by
  rw [Bool.eq_iff_iff]
  constructor
  · intro h
    obtain ⟨o, h1, h2⟩ := SG_held h
    rw [← h2]
    cases ho : o with
    | none => exact absurd ho (g.di.sh _ (getT_mem h1) (by intro z; cases z))
    | some v => rfl
  · intro h
    cases e : getT dk.goals p with
    | none => rw [e] at h; cases h
    | some v => rw [SG_iff, stOf_some (q.had g e), e]; exact ⟨rfl, rfl⟩
/-- all that is there: the goals are what is had of all -/
theorem Quiet.all {dk : Dk} (q : Quiet dk) (g : Gd dk) : hadOf dk.marks dk.rows = dk.goals := by
  have c := g.di.toDC
  have mnd : (dk.marks.map (·.1)).Nodup := by rw [c.fm]; exact marked_nd c.pn
  have hm : ∀ p ∈ dk.marks, 1 ≤ p.1.length ∧ p.1.length ≤ 3 := fun p hp => by obtain ⟨_, _, _, h1, h3, _⟩ := c.mk_of hp; exact ⟨h1, h3⟩
  -- the pairs that count
  have e1 : hadOf (dk.marks.filter fun p => decide (p.1.length = 1) || (getT dk.goals p.1.dropLast).isSome) dk.rows = dk.goals := by
    refine (had_perm (qs := (dk.there dk.g2 3).map fun nm => (nm, dk.mkOf nm)) ?_ dk.rows).trans rfl
    rw [List.perm_ext_iff_of_nodup]
    · intro p
      rw [List.mem_filter, List.mem_map, Bool.or_eq_true, decide_eq_true_eq]
      constructor
      · rintro ⟨h1, h2⟩
        refine ⟨p.1, (there3_mem c.kn c.ks).mpr ⟨?_, ?_⟩, ?_⟩
        · rcases h2 with h2 | h2
          · obtain ⟨t, ht, hpre, _⟩ := c.mk_of h1
            have := hpre.eq_of_length (by rw [h2]; rfl)
            rw [← this]; exact g.di.pk t ht
          · cases e : getT dk.goals p.1.dropLast with
            | none => rw [e] at h2; cases h2
            | some v =>
              by_cases l1 : p.1.length = 1
              · obtain ⟨t, ht, hpre, _⟩ := c.mk_of h1
                have := hpre.eq_of_length (by rw [l1]; rfl)
                rw [← this]; exact g.di.pk t ht
              · exact g.dq.kd _ _ (q.had g e) (.inl rfl) p.1 (List.mem_map.mpr ⟨p, h1, rfl⟩) l1 rfl
        · rw [q.sg g]; exact h2
        · unfold Dk.mkOf
          rw [getT_nd mnd h1]; rfl
      · rintro ⟨x, hx, rfl⟩
        obtain ⟨h1, h2⟩ := (there3_mem c.kn c.ks).mp hx
        obtain ⟨m, hm⟩ := getT_some (c.km x h1)
        refine ⟨?_, by rw [← q.sg g]; exact h2⟩
        unfold Dk.mkOf
        rw [hm]; exact getT_mem hm
    · exact (nodup_of_map mnd).sublist List.filter_sublist
    · refine nodup_of_map (f := fun p : Nm × List Int => p.1) ?_
      rw [List.map_map]
      have h : (dk.there dk.g2 3).map ((fun p : Nm × List Int => p.1) ∘ fun nm => (nm, dk.mkOf nm)) = dk.there dk.g2 3 := List.map_id _
      rw [h]
      exact there_nd c.kn _ _
  rw [← e1]
  unfold hadOf sortR
  rw [rows_filter dk.marks dk.rows fun x => decide (x.length = 1) || (getT dk.goals x.dropLast).isSome, sR_filter]
  rw [had_drop]
  intro r hr hp
  have hr' := List.mem_mergeSort.mp hr
  obtain ⟨p, hpm, x, hx, v, hv, rfl⟩ := rows_of hr'
  rw [Bool.or_eq_false_iff, decide_eq_false_iff_not] at hp
  refine ⟨fun z => hp.1 (by have : (p.1.length : Int) = 1 := z; show p.1.length = 1; omega), ?_⟩
  rw [← sR_filter, ← rows_filter dk.marks dk.rows fun x => decide (x.length = 1) || (getT dk.goals x.dropLast).isSome]
  show getT (hadOf _ dk.rows) _ = none
  rw [e1]
  cases e : getT dk.goals p.1.dropLast with
  | none => rfl
  | some w => have h2 : (getT dk.goals p.1.dropLast).isSome = false := hp.2; rw [e] at h2; cases h2
end DM

namespace DM
open PySem PySem.Spec PyProof.Rows L2
/-! ### what a desk at rest tells -/
def heldD (dk : Dk) : List D := dk.standing.filterMap fun x => if decide (x.2.1 = .held) = true then some (.tup [eM x.1, D.ofO x.2.2]) else none
theorem Quiet.told {dk : Dk} (q : Quiet dk) (g : Gd dk) : heldD dk = (toldOf dk.goals).map pairD := by
  unfold heldD Dk.standing toldOf
  rw [List.filterMap_map, List.map_map]
  have e : sortN (dk.goals.map (·.1)) = (sortN dk.keys).filter fun nm => decide ((dk.stOf nm).1 = .held) := by
    refine sub_uni (sortN_sorted _) ((sortN_sorted _).sublist List.filter_sublist) ((sortN_perm _).nodup_iff.mpr (goals_nd _ _)) (((sortN_perm _).nodup_iff.mpr g.di.kn).sublist List.filter_sublist) fun x => ?_
    rw [(sortN_perm _).mem_iff, List.mem_filter, (sortN_perm _).mem_iff, decide_eq_true_eq]
    constructor
    · intro h
      obtain ⟨v, hv⟩ := getT_some h
      have := q.had g hv
      exact ⟨getT_in this, by rw [stOf_some this]⟩
    · rintro ⟨h1, h2⟩
      obtain ⟨s, hs⟩ := getT_some h1
      rw [stOf_some hs] at h2
      obtain ⟨sa, o⟩ := s
      have h2 : sa = .held := h2
      subst h2
      have := q.goal g 3 x o (by omega) hs
      cases ho : o with
      | none => exact absurd ho (g.di.sh _ (getT_mem hs) (by intro z; cases z))
      | some v => rw [ho] at this; exact getT_in this.symm
  rw [e]
  have : ∀ l : List Nm, (∀ x ∈ l, x ∈ dk.keys) → l.filterMap ((fun x : Nm × Sta × Option Int => if decide (x.2.1 = .held) = true then some (D.tup [eM x.1, D.ofO x.2.2]) else none) ∘ fun nm => (nm, dk.stOf nm)) = (l.filter fun nm => decide ((dk.stOf nm).1 = .held)).map (pairD ∘ fun nm => (nm, (getT dk.goals nm).getD 0)) := by
    intro l
    induction l with
    | nil => intro _; rfl
    | cons x l ih =>
      intro hl
      have ih := ih fun y hy => hl y (List.mem_cons_of_mem _ hy)
      obtain ⟨s, hs⟩ := getT_some (hl x List.mem_cons_self)
      obtain ⟨sa, o⟩ := s
      rw [List.filterMap_cons, List.filter_cons]
      by_cases c : sa = .held
      · subst c
        have e1 : decide ((dk.stOf x).1 = .held) = true := by rw [stOf_some hs]; rfl
        have eo := q.goal g 3 x o (by omega) hs
        rw [if_pos e1, List.map_cons, ← ih]
        have hx0 : ((fun x : Nm × Sta × Option Int => if decide (x.2.1 = .held) = true then some (D.tup [eM x.1, D.ofO x.2.2]) else none) ∘ fun nm => (nm, dk.stOf nm)) x = some (D.tup [eM x, D.ofO o]) := by
          show (if decide ((dk.stOf x).1 = .held) = true then some (D.tup [eM x, D.ofO (dk.stOf x).2]) else none) = _
          rw [if_pos e1, stOf_some hs]
        rw [hx0]
        show D.tup [eM x, D.ofO o] :: _ = pairD (x, (getT dk.goals x).getD 0) :: _
        rw [← eo]
        cases ho : o with
        | none => exact absurd ho (g.di.sh _ (getT_mem hs) (by intro z; cases z))
        | some v => rfl
      · have e1 : ¬ decide ((dk.stOf x).1 = .held) = true := by rw [stOf_some hs]; simpa using c
        have hx0 : ((fun x : Nm × Sta × Option Int => if decide (x.2.1 = .held) = true then some (D.tup [eM x.1, D.ofO x.2.2]) else none) ∘ fun nm => (nm, dk.stOf nm)) x = none := by
          show (if decide ((dk.stOf x).1 = .held) = true then some (D.tup [eM x, D.ofO (dk.stOf x).2]) else none) = _
          rw [if_neg e1]
        rw [if_neg e1, ← ih, hx0]
  exact this _ fun x hx => (sortN_perm _).mem_iff.mp hx
/-- things by numbers rising -/
def thsOf (pl : List (Int × Th)) : List (Int × Th) := (sortI (pl.map (·.1))).map fun n => (n, (getT pl n).getD (.mk [] []))
theorem thsOf_perm {pl : List (Int × Th)} (nd : (pl.map (·.1)).Nodup) : (thsOf pl).Perm pl := by
  unfold thsOf
  have h1 := (sortI_perm (pl.map (·.1))).map fun n => (n, (getT pl n).getD (Th.mk [] []))
  refine h1.trans ?_
  rw [List.map_map]
  have : ∀ l : List (Int × Th), (∀ p ∈ l, p ∈ pl) → l.map ((fun n => (n, (getT pl n).getD (Th.mk [] []))) ∘ fun p => p.1) = l := by
    intro l
    induction l with
    | nil => intro _; rfl
    | cons p l ih =>
      intro h
      rw [List.map_cons, ih fun y hy => h y (List.mem_cons_of_mem _ hy)]
      show (p.1, (getT pl p.1).getD _) :: l = _
      rw [getT_nd nd (h p List.mem_cons_self)]; rfl
  rw [this pl fun _ h => h]
theorem thsOf_keys (pl : List (Int × Th)) : (thsOf pl).map (·.1) = sortI (pl.map (·.1)) := by
  unfold thsOf
  rw [List.map_map]; exact List.map_id _
theorem DI.ths {dk : Dk} (c : DI dk) (hf : dk.fresh.1 ≤ 400) : OkTs (thsOf dk.plugged) ∧ (thsOf dk.plugged).length ≤ 6 ∧ ∀ p ∈ thsOf dk.plugged, 0 ≤ p.1 ∧ p.1 < 400 := by
  have pm := thsOf_perm c.pn
  have hb : ∀ p ∈ thsOf dk.plugged, 0 ≤ p.1 ∧ p.1 < 400 ∧ OkT 2 p.2 := fun p hp => by
    obtain ⟨h0, h1, h2⟩ := c.pb p (pm.mem_iff.mp hp)
    exact ⟨h0, by omega, h2⟩
  have hl : (thsOf dk.plugged).length ≤ 6 := by rw [pm.length_eq]; exact c.pc
  refine ⟨⟨by omega, ?_, fun p hp => (hb p hp).2.2⟩, hl, fun p hp => ⟨(hb p hp).1, (hb p hp).2.1⟩⟩
  rw [thsOf_keys]
  exact sortI_rise c.pn fun x hx => by
    obtain ⟨p, hp, rfl⟩ := List.mem_map.mp hx
    have := c.pb p hp
    omega
theorem Quiet.rest {dk : Dk} (q : Quiet dk) (g : Gd dk) : hadOf (markedOf (thsOf dk.plugged)) dk.rows = dk.goals := by
  rw [← q.all g, g.di.fm]
  exact had_perm ((thsOf_perm g.di.pn).flatMap_right _) _
theorem rows_hcs {dk : Dk} (wn : (dk.who.map (·.1)).Nodup) : dk.rows = (sortI (dk.hcs.map (·.1))).map fun n => (n, ((getT dk.hcs n).getD ([], 0)).1, ((getT dk.hcs n).getD ([], 0)).2) := by
  unfold Dk.rows
  rw [hcs_keys]
  refine List.map_congr_left fun n hn => ?_
  have hn := (sortI_perm _).mem_iff.mp hn
  rw [← hcs_keys] at hn
  obtain ⟨x, hx, rfl⟩ := List.mem_map.mp hn
  have := hcs_room wn hx
  have nd : (dk.hcs.map (·.1)).Nodup := by rw [hcs_keys]; exact wn
  rw [getT_nd nd hx, this.1, this.2]; rfl
theorem Quiet.no_states {dk : Dk} (q : Quiet dk) : ∀ x ∈ dk.standing, x.2.1 = .held ∨ x.2.1 = .free := fun x hx => by
  obtain ⟨nm, hn, rfl⟩ := List.mem_map.mp hx
  obtain ⟨s, hs⟩ := getT_some ((sortN_perm _).mem_iff.mp hn)
  show (dk.stOf nm).1 = _ ∨ _
  rw [stOf_some hs]
  rcases q.no nm s hs with h | h
  · exact .inr h
  · exact .inl h
/-- x not in a tuple of texts -/
theorem inV_str (x : Str) : ∀ ys : List Str, inV (.str x) (ys.map V.str) = decide (x ∈ ys)
  | [] => rfl
  | y :: ys => by
    have ih := inV_str x ys
    show (eqV (.str y) (.str x) || inV (.str x) (ys.map V.str)) = _
    rw [ih]
    have e : eqV (.str y) (.str x) = decide (y = x) := by
      show (y == x) = _
      by_cases h : y = x
      · subst h; simp
      · simp [h]
    rw [e]
    by_cases h : y = x
    · subst h; simp
    · by_cases h2 : x ∈ ys
      · simp [h2]
      · have : ¬ x = y := fun z => h z.symm
        simp [h, h2, this]
theorem BW.notInTS {X : Cx} {S : Store} {Q : D → Store → Prop} {x : Str} {ys : List Str} (h : Q (.bl (!decide (x ∈ ys))) S) : BW X (compareOp .NotIn) (.str x) (.tup (ys.map .str)) S Q := BW.of op_notIn_seq fun F H vx vy Q' rs rx ry k => by
  cases (show vx = .str x from rx)
  obtain ⟨a, vs, rfl, h1, h2⟩ := ry
  have e : ∀ (ys : List Str) (vs : List V), RDs F H (ys.map .str) vs → vs = ys.map V.str := by
    intro ys
    induction ys with
    | nil => intro vs r; exact r
    | cons y ys ih =>
      intro vs r
      obtain ⟨v, r', rfl, h1, h2⟩ := r
      cases (show v = .str y from h1)
      rw [ih _ h2]; rfl
  rw [e ys vs h2] at h1
  refine ⟨a, _, rfl, .inr (SqT.of h1), rfl, ?_, ?_⟩
  · rw [List.all_eq_true]
    intro z hz
    obtain ⟨y, _, rfl⟩ := List.mem_map.mp hz
    rfl
  · rw [inV_str]
    exact k.nowB rs h
theorem fm_if {α : Type} (p : α → Bool) (e : α → D) (l : List α) : l.filterMap (fun x => if p x = true then some (e x) else none) = (l.filter p).map e := by
  induction l with
  | nil => rfl
  | cons x l ih =>
    cases h : p x with
    | true => rw [List.filterMap_cons, if_pos h, List.filter_cons, if_pos h, List.map_cons, ih]
    | false => rw [List.filterMap_cons, if_neg (by rw [h]; intro z; cases z), List.filter_cons, if_neg (by rw [h]; intro z; cases z), ih]
end DM

namespace DM
open PySem PySem.Spec PyProof.Rows L2
/-! ### a law's store with some desks in it -/
structure Wm (CD CH : Addr) (S : Store) (dr : Dr) (Ds : List (At × Dk)) (O : List (Nat × Ob)) : Prop where
  d0 : S[0]? = some (.lst (dr.cells.map D.int))
  d1 : S[1]? = some (.lst [.int dr.m, .loc 0, .int dr.at_])
  de : ∀ p ∈ Ds, DeskAt CD CH S p.1 p.2 ∧ ∀ j ∈ p.1.all, 2 ≤ j
  dj : Ds.Pairwise fun p q => ∀ j ∈ p.1.all, j ∉ q.1.all
  ot : ∀ p ∈ O, 2 ≤ p.1 ∧ (∀ q ∈ Ds, p.1 ∉ q.1.all) ∧ S[p.1]? = some p.2
  nd : (O.map (·.1)).Nodup
section
variable {CD CH : Addr} {S : Store} {l : Nat} {a : At} {dk : Dk} {dr : Dr} {Ds : List (At × Dk)} {O : List (Nat × Ob)}
theorem Wm.len (W : Wm CD CH S dr Ds O) : 2 ≤ S.length := (List.getElem?_eq_some_iff.mp W.d1).1
theorem Wm.rest (W : Wm CD CH S dr Ds O) : ∃ R, S = dS dr R := by
  have h0 := W.d0
  have h1 := W.d1
  match S, h0, h1 with
  | x :: y :: R, h0, h1 =>
    have h0 : some x = _ := h0
    have h1 : some y = _ := h1
    cases h0; cases h1
    exact ⟨R, rfl⟩
  | [x], _, h1 => cases h1
  | [], h0, _ => cases h0
theorem Wm.init (dr : Dr) : Wm CD CH (dS dr []) dr [] [] := ⟨rfl, rfl, (fun _ h => by cases h), List.Pairwise.nil, (fun _ h => by cases h), List.nodup_nil⟩
theorem Wm.at (W : Wm CD CH S dr ((a, dk) :: Ds) O) (el : a.l = l) : SelfAt CD S l a := (W.de _ List.mem_cons_self).1.at el
theorem Wm.draw {R : Store} (W : Wm CD CH (dS dr R) dr Ds O) (dr' : Dr) : Wm CD CH (dS dr' R) dr' Ds O :=
  ⟨rfl, rfl, fun p hp => ⟨(W.de p hp).1.same fun j hj => dS_get ((W.de p hp).2 j hj), (W.de p hp).2⟩, W.dj, fun p hp => by obtain ⟨h1, h2, h3⟩ := W.ot p hp; exact ⟨h1, h2, by rw [dS_get h1]; exact h3⟩, W.nd⟩
theorem Wm.grow (W : Wm CD CH S dr Ds O) {G : Store} : Wm CD CH (S ++ G) dr Ds O :=
  ⟨get_app W.d0, get_app W.d1, fun p hp => ⟨(W.de p hp).1.app, (W.de p hp).2⟩, W.dj, fun p hp => by obtain ⟨h1, h2, h3⟩ := W.ot p hp; exact ⟨h1, h2, get_app h3⟩, W.nd⟩
/-- the first desk went on -/
theorem Wm.did (W : Wm CD CH S dr ((a, dk) :: Ds) O) {S' : Store} {a' : At} {dk' : Dk} (H : DeskAt CD CH S' a' dk') (F : Fra S S' a a') : Wm CD CH S' dr ((a', dk') :: Ds) O := by
  have len := W.len
  have w0 := (W.de _ List.mem_cons_self).2
  have dj := W.dj
  rw [List.pairwise_cons] at dj
  have keep : ∀ q ∈ Ds, ∀ j ∈ q.1.all, S'[j]? = S[j]? := fun q hq j hj => by
    have hn : j ∉ a.all := fun z => dj.1 q hq j z hj
    have hl := (W.de q (List.mem_cons_of_mem _ hq)).1.lt j hj
    have e := List.getElem?_eq_getElem hl
    rw [e]; exact F.keep j _ hn e
  refine ⟨F.keep 0 _ (fun z => by have := w0 0 z; omega) W.d0, F.keep 1 _ (fun z => by have := w0 1 z; omega) W.d1, fun p hp => ?_, ?_, fun p hp => ?_, W.nd⟩
  · rcases List.mem_cons.mp hp with rfl | hp
    · refine ⟨H, fun j hj => ?_⟩
      rcases F.sub j hj with h | h
      · exact w0 j h
      · omega
    · exact ⟨(W.de p (List.mem_cons_of_mem _ hp)).1.same (keep p hp), (W.de p (List.mem_cons_of_mem _ hp)).2⟩
  · rw [List.pairwise_cons]
    refine ⟨fun q hq j hj hq2 => ?_, dj.2⟩
    rcases F.sub j hj with h | h
    · exact dj.1 q hq j h hq2
    · have := (W.de q (List.mem_cons_of_mem _ hq)).1.lt j hq2; omega
  · obtain ⟨h1, h2, h3⟩ := W.ot p hp
    have hlt := (List.getElem?_eq_some_iff.mp h3).1
    refine ⟨h1, fun q hq => ?_, F.keep _ _ (h2 _ List.mem_cons_self) h3⟩
    rcases List.mem_cons.mp hq with rfl | hq
    · intro z
      rcases F.sub _ z with h | h
      · exact h2 _ List.mem_cons_self h
      · omega
    · exact h2 q (List.mem_cons_of_mem _ hq)
/-- a new desk -/
theorem Wm.desk (W : Wm CD CH S dr Ds O) {S' : Store} {a' : At} (H : DeskAt CD CH S' a' emptyDk) (hG : ∃ G, S' = S ++ G) (h2 : ∀ j ∈ a'.all, S.length ≤ j) : Wm CD CH S' dr ((a', emptyDk) :: Ds) O := by
  obtain ⟨G, rfl⟩ := hG
  have len := W.len
  have W2 := W.grow (G := G)
  refine ⟨W2.d0, W2.d1, fun p hp => ?_, ?_, fun p hp => ?_, W.nd⟩
  · rcases List.mem_cons.mp hp with rfl | hp
    · exact ⟨H, fun j hj => by have := h2 j hj; omega⟩
    · exact W2.de p hp
  · rw [List.pairwise_cons]
    refine ⟨fun q hq j hj hq2 => ?_, W.dj⟩
    have := h2 j hj
    have := (W.de q hq).1.lt j hq2
    omega
  · obtain ⟨h1, h3, h4⟩ := W2.ot p hp
    refine ⟨h1, fun q hq => ?_, h4⟩
    rcases List.mem_cons.mp hq with rfl | hq
    · intro z
      have := h2 _ z
      have := (List.getElem?_eq_some_iff.mp (W.ot p hp).2.2).1
      omega
    · exact h3 q hq
theorem Wm.put {k : Nat} {o : Ob} (W : Wm CD CH S dr Ds ((k, o) :: O)) (o' : Ob) : Wm CD CH (S.set k o') dr Ds ((k, o') :: O) := by
  obtain ⟨h1, h2, h3⟩ := W.ot (k, o) List.mem_cons_self
  have lt := (List.getElem?_eq_some_iff.mp h3).1
  have nd := W.nd
  rw [List.map_cons, List.nodup_cons] at nd
  have ne : ∀ j, j ≠ k → (S.set k o')[j]? = S[j]? := fun j hj => List.getElem?_set_ne (Ne.symm hj)
  refine ⟨by rw [ne 0 (by intro z; have : 2 ≤ k := h1; omega)]; exact W.d0, by rw [ne 1 (by intro z; have : 2 ≤ k := h1; omega)]; exact W.d1, fun p hp => ⟨(W.de p hp).1.same fun j hj => ne j fun z => h2 p hp (z ▸ hj), (W.de p hp).2⟩, W.dj, fun p hp => ?_, by rw [List.map_cons, List.nodup_cons]; exact nd⟩
  rcases List.mem_cons.mp hp with rfl | hp
  · exact ⟨h1, h2, List.getElem?_set_self lt⟩
  · obtain ⟨g1, g2, g3⟩ := W.ot p (List.mem_cons_of_mem _ hp)
    exact ⟨g1, g2, by rw [ne _ fun z => nd.1 (z ▸ List.mem_map.mpr ⟨p, hp, rfl⟩)]; exact g3⟩
theorem Wm.new (W : Wm CD CH S dr Ds O) (o : Ob) : Wm CD CH (S ++ [o]) dr Ds ((S.length, o) :: O) := by
  have len := W.len
  have W2 := W.grow (G := [o])
  refine ⟨W2.d0, W2.d1, W2.de, W.dj, fun p hp => ?_, ?_⟩
  · rcases List.mem_cons.mp hp with rfl | hp
    · exact ⟨len, fun q hq z => by have := (W.de q hq).1.lt _ z; exact absurd this (Nat.lt_irrefl _), by simp⟩
    · exact W2.ot p hp
  · rw [List.map_cons, List.nodup_cons]
    refine ⟨fun z => ?_, W.nd⟩
    obtain ⟨p, hp, e⟩ := List.mem_map.mp z
    have := (List.getElem?_eq_some_iff.mp (W.ot p hp).2.2).1
    rw [e] at this
    exact absurd this (Nat.lt_irrefl _)
theorem Wm.sub (W : Wm CD CH S dr Ds O) {O' : List (Nat × Ob)} (h : O'.Sublist O) : Wm CD CH S dr Ds O' :=
  ⟨W.d0, W.d1, W.de, W.dj, fun p hp => W.ot p (h.mem hp), W.nd.sublist (h.map _)⟩
theorem Wm.tl {x : Nat × Ob} (W : Wm CD CH S dr Ds (x :: O)) : Wm CD CH S dr Ds O := W.sub (List.sublist_cons_self _ _)
theorem Wm.perm (W : Wm CD CH S dr Ds O) {O' : List (Nat × Ob)} (h : O'.Perm O) : Wm CD CH S dr Ds O' :=
  ⟨W.d0, W.d1, W.de, W.dj, fun p hp => W.ot p (h.mem_iff.mp hp), (h.map _).nodup_iff.mpr W.nd⟩
theorem Wm.permD (W : Wm CD CH S dr Ds O) {Ds' : List (At × Dk)} (h : Ds'.Perm Ds) : Wm CD CH S dr Ds' O :=
  ⟨W.d0, W.d1, fun p hp => W.de p (h.mem_iff.mp hp), (h.pairwise_iff fun {p q} k j hj hq => k j hq hj).mpr W.dj, fun p hp => ⟨(W.ot p hp).1, fun q hq => (W.ot p hp).2.1 q (h.mem_iff.mp hq), (W.ot p hp).2.2⟩, W.nd⟩
theorem Wm.get (W : Wm CD CH S dr Ds O) {k : Nat} {o : Ob} (h : (k, o) ∈ O) : S[k]? = some o := (W.ot _ h).2.2
end
/-! #### what comes in turn is numbered from 0 on -/
def zipI {α : Type} : Int → List α → List (Int × α)
  | _, [] => []
  | k, x :: xs => (k, x) :: zipI (k + 1) xs
theorem zipI_snoc {α : Type} : ∀ (xs : List α) (k : Int) (x : α), zipI k (xs ++ [x]) = zipI k xs ++ [(k + (xs.length : Int), x)]
  | [], k, x => by show [(k, x)] = [(k + 0, x)]; rw [Int.add_zero]
  | y :: xs, k, x => by
    show (k, y) :: zipI (k + 1) (xs ++ [x]) = (k, y) :: (zipI (k + 1) xs ++ [(k + ((xs.length + 1 : Nat) : Int), x)])
    rw [zipI_snoc xs (k + 1) x]
    have : k + 1 + (xs.length : Int) = k + ((xs.length + 1 : Nat) : Int) := by omega
    rw [this]
theorem zipI_len {α : Type} : ∀ (xs : List α) (k : Int), (zipI k xs).length = xs.length
  | [], _ => rfl
  | _ :: xs, k => congrArg (· + 1) (zipI_len xs (k + 1))
theorem zipI_mem {α : Type} : ∀ (xs : List α) (k n : Int), n ∈ (zipI k xs).map (·.1) ↔ k ≤ n ∧ n < k + (xs.length : Int)
  | [], k, n => by show n ∈ [] ↔ _; simp
  | x :: xs, k, n => by
    show n ∈ k :: (zipI (k + 1) xs).map (·.1) ↔ _
    rw [List.mem_cons, zipI_mem xs (k + 1) n, List.length_cons]
    omega
abbrev Hq := List (List Int × Int) × Int
def hqD (p : Hq) : D := .tup [eCs p.1, .int p.2]
/-- a desk to which so much has come -/
structure Cm (dk : Dk) (ts : List Th) (hs : List Hq) (n : Nat) : Prop where
  gd : Gd dk
  pl : dk.plugged = zipI 0 ts
  hc : dk.hcs = zipI 0 hs
  fr : dk.fresh = ((ts.length : Int), (hs.length : Int))
  lg : dk.log.length + pot dk ≤ 400000 * n + 216222
theorem Cm.empty : Cm emptyDk [] [] 0 := ⟨emptyGd, rfl, rfl, rfl, by decide⟩
theorem Cm.plug {dk : Dk} {ts : List Th} {hs : List Hq} {n : Nat} (c : Cm dk ts hs n) {t : Th} (ht : OkT 2 t) (h6 : ts.length < 6) : Cm (dk.plug t) (ts ++ [t]) hs (n + 1) := by
  have h6' : dk.plugged.length < 6 := by rw [c.pl, zipI_len]; exact h6
  have v : Ev dk (some (.plug dk.fresh.1 t)) (dk.plug t) := .step (.plug ht h6')
  have b := v.behind c.gd.di
  have bd := v.bounds c.gd.di
  have g := c.gd.ev v
  have p := pot_le g.di
  have l := c.lg
  refine ⟨g, ?_, b.hcs.trans c.hc, ?_, by omega⟩
  · rw [zipI_snoc, Int.zero_add, b.pl]
    show dk.plugged ++ [(dk.fresh.1, t)] = _
    rw [c.pl, c.fr]
  · rw [b.fr]
    show (dk.fresh.1 + 1, dk.fresh.2) = _
    rw [c.fr, List.length_append]; simp
theorem Cm.come {dk : Dk} {ts : List Th} {hs : List Hq} {n : Nat} (c : Cm dk ts hs n) {cs : List (List Int × Int)} {r : Int} (hc : OkCs cs) (h0 : 0 ≤ r) (h4 : r ≤ 4) (h8 : hs.length < 8) : Cm (dk.come cs r) ts (hs ++ [(cs, r)]) (n + 1) := by
  have h8' : dk.who.length < 8 := by
    have e : dk.hcs.length = dk.who.length := by unfold Dk.hcs; rw [List.length_map]
    rw [← e, c.hc, zipI_len]; exact h8
  have hf : dk.fresh.2 < 1000 := by rw [c.fr]; show (hs.length : Int) < 1000; omega
  have v : Ev dk (some (.come dk.fresh.2 cs r)) (dk.come cs r) := .step (.come hc h0 h4 h8' hf)
  have b := v.behind c.gd.di
  have bd := v.bounds c.gd.di
  have g := c.gd.ev v
  have p := pot_le g.di
  have l := c.lg
  refine ⟨g, b.pl.trans c.pl, ?_, ?_, by omega⟩
  · rw [zipI_snoc, Int.zero_add, b.hcs]
    show dk.hcs ++ [(dk.fresh.2, cs, r)] = _
    rw [c.hc, c.fr]
  · rw [b.fr]
    show (dk.fresh.1, dk.fresh.2 + 1) = _
    rw [c.fr, List.length_append]; simp
theorem Cm.ans {dk d : Dk} {ts : List Th} {hs : List Hq} {n : Nat} (c : Cm dk ts hs n) (a : Ans dk d) : Cm d ts hs n :=
  ⟨a.gd, a.pl.trans c.pl, a.hcs.trans c.hc, a.fr.trans c.fr, Nat.le_trans a.lg c.lg⟩
/-- what is had at rest of such things and helpers -/
def restOf (pl : List (Int × Th)) (hs : List He) : List (Nm × Int) := hadOf (markedOf (thsOf pl)) ((sortI (hs.map (·.1))).map fun n => (n, ((getT hs n).getD ([], 0)).1, ((getT hs n).getD ([], 0)).2))
theorem Quiet.restOf {dk : Dk} (q : Quiet dk) (g : Gd dk) : DM.restOf dk.plugged dk.hcs = dk.goals := by
  rw [← q.rest g, rows_hcs g.di.wn]; rfl
theorem dropT_last {α : Type} {l : List (Int × α)} {n : Int} {x : α} (h : n ∉ l.map (·.1)) : dropT (l ++ [(n, x)]) n = l := by
  unfold dropT
  rw [List.filter_append, show l.filter (fun kv => decide (kv.1 ≠ n)) = l from List.filter_eq_self.mpr fun p hp => decide_eq_true fun z => h (List.mem_map.mpr ⟨p, hp, z⟩)]
  simp
/-- a, b, c = e1, e2, e3, three names -/
theorem WS.par3 {X : Cx} {n : Nat} {E : Ed} {S : Store} {v : Fv} {a b c : Expr} {pos : Pos} (i j l : Nat) {x y z : Str} {px py pz pt : Pos} {kt k2 pt2} (h : WA X [a, b, c] v S fun ds S1 => ∃ d1 d2 d3, ds = [d1, d2, d3] ∧ E.nx (((v.set i (some d1)).set j (some d2)).set l (some d3)) S1) (hc : X.calm = true) (hN : X.N.Nodup) (hi : X.N[i]? = some x := by rfl) (hj : X.N[j]? = some y := by rfl) (hl : X.N[l]? = some z := by rfl) (hij : i ≠ j := by decide) (hil : i ≠ l := by decide) (hjl : j ≠ l := by decide)
    (hx : X.env.scope.names.lookup x = some .local := by rfl) (hy : X.env.scope.names.lookup y = some .local := by rfl) (hz : X.env.scope.names.lookup z = some .local := by rfl)
    (hw : swappedStores [.Tuple [.Name x px, .Name y py, .Name z pz] kt pt] (.Tuple [a, b, c] k2 pt2) X.env = pure (some [x, y, z]) := by rfl)
    (hs : swapsWithSole [.Tuple [.Name x px, .Name y py, .Name z pz] kt pt] (.Tuple [a, b, c] k2 pt2) pos.line X.env = pure false := by rfl) : WS X n (.Assign [.Tuple [.Name x px, .Name y py, .Name z pz] kt pt] (.Tuple [a, b, c] k2 pt2) pos) v S E := fun F0 H0 F t H E' hl' p k re rs q => by
  refine wS_of (ps_par3 hc hN hi hj hl hij hil hjl hx hy hz pa_w hw hs) ?_
  refine h F t H _ re rs fun F1 ds vs H1 S1 p1 k1 rs1 r1 h1 => ?_
  obtain ⟨d1, d2, d3, rfl, h1⟩ := h1
  obtain ⟨v1, _, e1, q1, v2, _, e2, q2, v3, _, e4, q3, e3⟩ := r1
  subst e1 e2 e4 e3
  exact ⟨v1, v2, v3, rfl, q.nx F1 _ _ H1 S1 (p.trans p1) (k.trans k1) ((((re.mono p1 k1).set q1).set q2).set q3) rs1 h1⟩
end DM

set_option maxHeartbeats 0
namespace DM
open PySem PySem.Spec PyProof.Rows L2
/-! ### the text by places (printed by gen.py) -/
def top (i : Nat) : Stmt := PySem.Challenge.pw_drivermatch_k09_whole_late_and_early.main.body.getD i (.Pass ⟨0, 0, 0, 0⟩)
abbrev s__wall : Stmt := top 0
abbrev s_is_number : Stmt := top 16
abbrev s_are_marks : Stmt := top 17
abbrev s_need_thing : Stmt := top 18
abbrev s_is_claim : Stmt := top 19
abbrev s_need_claims : Stmt := top 20
abbrev s_need_room : Stmt := top 21
abbrev s_all_within : Stmt := top 22
abbrev s_fit_of : Stmt := top 24
abbrev s_pairs_of : Stmt := top 25
abbrev s_had_of : Stmt := top 26
abbrev s_Helper___init__ : Stmt := inClass (top 34) 0
abbrev s_Desk___init__ : Stmt := inClass (top 35) 0
abbrev s_Desk_plug : Stmt := inClass (top 35) 1
abbrev s_Desk_unplug : Stmt := inClass (top 35) 2
abbrev s_Desk_come : Stmt := inClass (top 35) 3
abbrev s_Desk_helper : Stmt := inClass (top 35) 4
abbrev s_Desk_fall : Stmt := inClass (top 35) 5
abbrev s_Desk_inner : Stmt := inClass (top 35) 6
abbrev s_Desk_all_inner_gone : Stmt := inClass (top 35) 7
abbrev s_Desk_gone : Stmt := inClass (top 35) 8
abbrev s_Desk_things : Stmt := inClass (top 35) 9
abbrev s_Desk_helpers : Stmt := inClass (top 35) 10
abbrev s_Desk_standing : Stmt := inClass (top 35) 11
abbrev s_Desk_row : Stmt := inClass (top 35) 12
abbrev s_Desk_holds : Stmt := inClass (top 35) 13
abbrev s_Desk_told : Stmt := inClass (top 35) 14
abbrev s_Desk_goals : Stmt := inClass (top 35) 15
abbrev s_Desk_is_settled : Stmt := inClass (top 35) 16
abbrev s_Desk_used : Stmt := inClass (top 35) 17
abbrev s_Desk_think : Stmt := inClass (top 35) 18
abbrev s_Desk_letter : Stmt := inClass (top 35) 19
abbrev s_Desk_answer : Stmt := inClass (top 35) 20
abbrev s_Desk_settle : Stmt := inClass (top 35) 21
abbrev s__law_mix : Stmt := top 37
abbrev s__law_next : Stmt := top 38
abbrev s__law_alike : Stmt := top 39
abbrev s__law_marks : Stmt := top 40
abbrev s__law_thing : Stmt := top 41
abbrev s__law_claims : Stmt := top 42
abbrev s__law_held : Stmt := top 43
abbrev s_law : Stmt := top 44

/-! ### words: numbers, marks, claims -/
section
variable {P : Program} {w : World} {K : PySem.W.Frag} {mg : Str → Option Value} {base : Heap} {f : Addr}
abbrev N_is_number : List Str := ["part", "low", "high"]
theorem sc_is_number : FnScope N_is_number ["part", "low", "high"] (defScope s_is_number) := ⟨rfl, rfl, rfl, by decide +kernel, rfl, by decide +kernel, by decide +kernel⟩
theorem bd_is_number : BindOk "is_number" "is_number" s_is_number ["part", "low", "high"] := fun _ _ _ _ _ _ us hl => match us, hl with | [_, _, _], _ => rfl
def sp_is_number : SpD := fun ds S Q => ∃ x lo hi, ds = [x, .int lo, .int hi] ∧ kn x = true ∧ Q (.bl (numOk x lo hi)) S
abbrev C_is_number (P : Program) (w : World) (K : PySem.W.Frag) (mg : Str → Option Value) (base : Heap) : Prop := Cal P w K mg base "is_number" 1 ["part", "low", "high"] sp_is_number
theorem c_is_number (B : Bt mg) (df : Df K "is_number" "is_number" s_is_number f) (hm : mg "is_number" = some (.ref f)) : C_is_number P w K mg base := by
  refine calD df hm sc_is_number bd_is_number (fun ds S Q ⟨x, lo, hi, e, _⟩ => by rw [e]; rfl) ?_
  rintro cdv A outer s H E ds S Q hr bS bD ⟨x, lo, hi, rfl, hx, q⟩
  have ty := kn_ty hx S
  refine WSs.one (WS.ret (WE.and (WE.callB (WA.cons (WE.var 0 rfl (WA.cons (WE.bty B.int boot_int (WA.nil ?_))))) B.isinstance boot_isinstance)))
  cases x with
  | int i =>
    refine CW.isi ty kit_int_int ⟨true, rfl, fun _ => ?_, fun z => (by cases z)⟩
    refine WE.and (WE.not (WE.callB (WA.cons (WE.var 0 rfl (WA.cons (WE.bty B.bool boot_bool (WA.nil (CW.isi ty kit_int_bool ⟨_, rfl, ⟨true, rfl, fun _ => ?_, fun z => (by cases z)⟩⟩)))))) B.isinstance boot_isinstance))
    refine WE.one (WE.chain (WE.var 1 rfl (WE.var 0 rfl (BW.le ⟨_, rfl, fun h1 => (WE.var 2 rfl (BW.le (WkD.same ?_))), fun h1 => WkD.same ?_⟩))))
    · have : numOk (.int i) lo hi = decide (i ≤ hi) := by show (decide (lo ≤ i) && decide (i ≤ hi)) = _; rw [h1]; rfl
      rw [← this]; exact q
    · have : numOk (.int i) lo hi = false := by show (decide (lo ≤ i) && decide (i ≤ hi)) = _; rw [h1]; rfl
      rw [← this]; exact q
  | bl b =>
    refine CW.isi ty kit_bl_int ⟨true, rfl, fun _ => ?_, fun z => (by cases z)⟩
    exact WE.and (WE.not (WE.callB (WA.cons (WE.var 0 rfl (WA.cons (WE.bty B.bool boot_bool (WA.nil (CW.isi ty kit_bl_bool ⟨_, rfl, ⟨false, rfl, fun z => (by cases z), fun _ => WkD.same q⟩⟩)))))) B.isinstance boot_isinstance))
  | non => exact CW.isi ty kit_non_int ⟨false, rfl, fun z => (by cases z), fun _ => WkD.same q⟩
  | str b => exact CW.isi ty kit_str_int ⟨false, rfl, fun z => (by cases z), fun _ => WkD.same q⟩
  | tup b => exact CW.isi ty kit_tup_int ⟨false, rfl, fun z => (by cases z), fun _ => WkD.same q⟩
  | ty _ => cases hx
  | ref _ => cases hx
  | loc _ => cases hx
  | scr _ => cases hx
abbrev N_are_marks : List Str := ["marks", "least", "mark"]
theorem sc_are_marks : FnScope N_are_marks ["marks", "least"] (defScope s_are_marks) := ⟨rfl, rfl, rfl, by decide +kernel, rfl, by decide +kernel, by decide +kernel⟩
theorem bd_are_marks : BindOk "are_marks" "are_marks" s_are_marks ["marks", "least"] := fun _ _ _ _ _ _ us hl => match us, hl with | [_, _], _ => rfl
def sp_are_marks : SpD := fun ds S Q => ∃ x least, ds = [x, .int least] ∧ pu 20 x = true ∧ Q (.bl (marksOk x least)) S
abbrev C_are_marks (P : Program) (w : World) (K : PySem.W.Frag) (mg : Str → Option Value) (base : Heap) : Prop := Cal P w K mg base "are_marks" 2 ["marks", "least"] sp_are_marks
theorem c_are_marks (B : Bt mg) (c_MARKS : ∃ tk, mg "MARKS" = some (.int 3 tk)) (c_MOST_MARK : ∃ tk, mg "MOST_MARK" = some (.int 9 tk)) (G_is_number : C_is_number P w K mg base) (df : Df K "are_marks" "are_marks" s_are_marks f) (hm : mg "are_marks" = some (.ref f)) : C_are_marks P w K mg base := by
  obtain ⟨t1, c_MARKS⟩ := c_MARKS
  obtain ⟨t2, c_MOST_MARK⟩ := c_MOST_MARK
  refine calD df hm sc_are_marks bd_are_marks (fun ds S Q ⟨x, lo, e, _⟩ => by rw [e]; rfl) ?_
  rintro cdv A outer s H E ds S Q hr bS bD ⟨x, least, rfl, hx, q⟩
  have ty := kn_ty (pu_kn hx) S
  refine WSs.cons (WS.ite (WT.bool (WP.or (WT.not (WT.val (WE.callB (WA.cons (WE.var 0 rfl (WA.cons (WE.bty B.tuple boot_tuple (WA.nil ?_))))) B.isinstance boot_isinstance))))))
  have no : ∀ v : Fv, v = v → marksOk x least = false → WkD S.length (.bl false) S Q := fun v _ e => WkD.same (by rw [← e]; exact q)
  cases x with
  | tup xs =>
    obtain ⟨m, _, hlen, hk⟩ := pu_tup hx
    refine CW.isi ty kit_tup_tuple ⟨true, rfl, fun z => (by cases z), fun _ => WP.or1 (WT.cmp (WE.callB (WA.cons (WE.var 0 rfl (WA.nil (CW.lenT (WE.globI c_MARKS (BW.neI ⟨_, rfl, ⟨fun h1 => ?_, fun h1 => ?_⟩⟩)))))) B.len PySem.boot_len))⟩
    · refine WSs.one (WS.ret (WE.bl (no [] rfl ?_)))
      show (decide (xs.length = 3) && _) = false
      have h3 : ¬ xs.length = 3 := fun z => by simp [z] at h1
      rw [decide_eq_false h3]; rfl
    · have h3 : xs.length = 3 := by
        have : (xs.length : Int) = 3 := by simpa using h1
        omega
      refine WSs.nil ?_
      refine WSs.one (WS.ret (WE.cmp (WE.lcN 2 [("mark", 2)] (WI.tup (WE.var 0 rfl ⟨xs, rfl, ?_⟩)) (by decide) rfl sc_are_marks.nd (blkOk_by (N := N_are_marks) (sc := defScope s_are_marks) (by decide +kernel))
        (fun Y hY => by obtain ⟨_, _, _, _, _, rfl⟩ := hY; exact pg_name sc_are_marks.nd rfl (Or.inl rfl)))))
      refine lc_pure (fun y => if numOk y least 9 then none else some y) bS (by show xs.length ≤ 100000; exact hlen) (fun _ => trivial) ?_ ?_
      · intro i d acc hd
        have hd : xs[i]? = some d := hd
        have kd : kn d = true := pu_kn (hk d (List.mem_of_getElem? hd))
        refine ⟨_, rfl, fun Y hY => ?_⟩
        obtain ⟨_, _, _, _, _, rfl⟩ := hY
        refine (WT.not (WT.val (WE.cal G_is_number (hr.mono (by first|decide|omega)) (WA.cons (WE.var 2 rfl (WA.cons (WE.var 1 rfl (WA.cons (WE.globI c_MOST_MARK (WA.nil ⟨d, least, 9, rfl, kd, ⟨_, rfl, ⟨⟨[], by simp⟩, fun hb Z hZ => ?_, fun hb => ?_⟩⟩⟩))))))))))
        · obtain ⟨_, _, _, _, _, rfl⟩ := hZ
          have hn : numOk d least 9 = false := by simpa using hb
          exact WE.var 2 rfl ⟨⟨[], by simp⟩, bel_get (show bel.belAll S.length xs = true from (Bool.and_eq_true_iff.mp bD).1) hd, by simp [hn]⟩
        · have : numOk d least 9 = true := by simpa using hb
          simp [this]
      · refine WE.lst (WA.nil ⟨by show 0 ≤ sizeLine; exact sz (by decide), ?_⟩)
        have hf : ∀ y ∈ xs.filterMap fun y => if numOk y least 9 then none else some y, pu 60 y = true := fun y hy => by
          obtain ⟨z, hz, e⟩ := List.mem_filterMap.mp hy
          have : z = y := by
            by_cases hn : numOk z least 9 = true <;> simp [hn] at e
            exact e
          subst this
          exact pu_mono (by omega) (hk z hz)
        refine BW.eqL (xs := xs.filterMap fun y => if numOk y least 9 then none else some y) (ys := []) (by simp) (by simp) hf (fun _ h => by cases h) hr.units ?_
        refine ⟨_, S, by rw [List.append_assoc]; exact CovD.drop bS rfl, ?_⟩
        have : marksOk (.tup xs) least = decide ((xs.filterMap fun y => if numOk y least 9 then none else some y) = []) := by
          show (decide (xs.length = 3) && xs.all fun y => numOk y least 9) = _
          rw [decide_eq_true h3, Bool.true_and]
          rw [Bool.eq_iff_iff, List.all_eq_true, decide_eq_true_eq, List.filterMap_eq_nil_iff]
          exact ⟨fun h a ha => by simp [h a ha], fun h a ha => by
            have := h a ha
            by_cases hn : numOk a least 9 = true
            · exact hn
            · simp [hn] at this⟩
        rw [← this]; exact q
  | non => exact CW.isi ty kit_non_tuple ⟨false, rfl, fun _ => iT (WSs.one (WS.ret (WE.bl (no [] rfl rfl)))), fun z => (by cases z)⟩
  | bl b => exact CW.isi ty kit_bl_tuple ⟨false, rfl, fun _ => iT (WSs.one (WS.ret (WE.bl (no [] rfl rfl)))), fun z => (by cases z)⟩
  | int b => exact CW.isi ty kit_int_tuple ⟨false, rfl, fun _ => iT (WSs.one (WS.ret (WE.bl (no [] rfl rfl)))), fun z => (by cases z)⟩
  | str b => exact CW.isi ty kit_str_tuple ⟨false, rfl, fun _ => iT (WSs.one (WS.ret (WE.bl (no [] rfl rfl)))), fun z => (by cases z)⟩
  | ty _ => cases (pu_kn hx)
  | ref _ => cases (pu_kn hx)
  | loc _ => cases (pu_kn hx)
  | scr _ => cases (pu_kn hx)
end

section
variable {P : Program} {w : World} {K : PySem.W.Frag} {mg : Str → Option Value} {base : Heap} {f : Addr}
abbrev N_is_claim : List Str := ["claim"]
theorem sc_is_claim : FnScope N_is_claim ["claim"] (defScope s_is_claim) := ⟨rfl, rfl, rfl, by decide +kernel, rfl, by decide +kernel, by decide +kernel⟩
theorem bd_is_claim : BindOk "is_claim" "is_claim" s_is_claim ["claim"] := fun _ _ _ _ _ _ us hl => match us, hl with | [_], _ => rfl
def sp_is_claim : SpD := fun ds S Q => ∃ x, ds = [x] ∧ pu 20 x = true ∧ Q (.bl (claimOk x)) S
abbrev C_is_claim (P : Program) (w : World) (K : PySem.W.Frag) (mg : Str → Option Value) (base : Heap) : Prop := Cal P w K mg base "is_claim" 3 ["claim"] sp_is_claim
theorem c_is_claim (B : Bt mg) (G_is_number : C_is_number P w K mg base) (G_are_marks : C_are_marks P w K mg base) (df : Df K "is_claim" "is_claim" s_is_claim f) (hm : mg "is_claim" = some (.ref f)) : C_is_claim P w K mg base := by
  refine calD df hm sc_is_claim bd_is_claim (fun ds S Q ⟨x, e, _⟩ => by rw [e]; rfl) ?_
  rintro cdv A outer s H E ds S Q hr bS bD ⟨x, rfl, hx, q⟩
  have ty := kn_ty (pu_kn hx) S
  refine WSs.cons (WS.ite (WT.bool (WP.or (WT.not (WT.val (WE.callB (WA.cons (WE.var 0 rfl (WA.cons (WE.bty B.tuple boot_tuple (WA.nil ?_))))) B.isinstance boot_isinstance))))))
  have no : claimOk x = false → WkD S.length (.bl false) S Q := fun e => WkD.same (by rw [← e]; exact q)
  cases x with
  | tup xs =>
    obtain ⟨m, em, hlen, hk⟩ := pu_tup hx
    refine CW.isi ty kit_tup_tuple ⟨true, rfl, fun z => (by cases z), fun _ => WP.or (WT.cmp (WE.callB (WA.cons (WE.var 0 rfl (WA.nil (CW.lenT (WE.int (BW.neI ⟨_, rfl, ⟨fun h1 => iT ?_, fun h1 => ?_⟩⟩)))))) B.len PySem.boot_len))⟩
    · refine WSs.one (WS.ret (WE.bl (no ?_)))
      match xs, h1 with
      | [], _ => rfl
      | [a], _ => rfl
      | [a, b], h1 => simp at h1
      | a :: b :: c :: r, _ => rfl
    · match xs, h1, hk with
      | [], h1, _ => simp at h1
      | [a], h1, _ => simp at h1
      | a :: b :: c :: r, h1, _ => simp at h1; omega
      | [a, b], _, hk =>
        have pa := pu_mono (m := 20) (by omega) (hk a (by simp))
        have pb := pu_mono (m := 20) (by omega) (hk b (by simp))
        refine WP.or1 (WT.not (WT.val (WE.cal G_are_marks (hr.mono (by first|decide|omega)) (WA.cons (WE.ix (WE.var 0 rfl (WE.int (IW.tup rfl (WA.cons (WE.un (WE.int (UW.neg (WA.nil ⟨a, -1, rfl, pa, ⟨_, rfl, ⟨fun h2 => ?_, fun h2 => WSs.nil ?_⟩⟩⟩)))))))))))))
        · have : marksOk a (-1) = false := by simpa using h2
          exact WSs.one (WS.ret (WE.bl (no (by show (marksOk a (-1) && numOk b 0 9) = false; rw [this]; rfl))))
        · have : marksOk a (-1) = true := by simpa using h2
          refine WSs.one (WS.ret (WE.cal G_is_number (hr.mono (by first|decide|omega)) (WA.cons (WE.ix (WE.var 0 rfl (WE.int (IW.tup rfl (WA.cons (WE.int (WA.cons (WE.int (WA.nil ⟨b, 0, 9, rfl, pu_kn pb, (WkD.same ?_)⟩))))))))))))
          have e : claimOk (.tup [a, b]) = numOk b 0 9 := by show (marksOk a (-1) && numOk b 0 9) = _; rw [this]; rfl
          rw [← e]; exact q
  | non => exact CW.isi ty kit_non_tuple ⟨false, rfl, fun _ => iT (WSs.one (WS.ret (WE.bl (no rfl)))), fun z => (by cases z)⟩
  | int b => exact CW.isi ty kit_int_tuple ⟨false, rfl, fun _ => iT (WSs.one (WS.ret (WE.bl (no rfl)))), fun z => (by cases z)⟩
  | bl b => simp [pu] at hx
  | str b => simp [pu] at hx
  | ty _ => cases (pu_kn hx)
  | ref _ => cases (pu_kn hx)
  | loc _ => cases (pu_kn hx)
  | scr _ => cases (pu_kn hx)
abbrev N_need_claims : List Str := ["claims", "number"]
theorem sc_need_claims : FnScope N_need_claims ["claims"] (defScope s_need_claims) := ⟨rfl, rfl, rfl, by decide +kernel, rfl, by decide +kernel, by decide +kernel⟩
theorem bd_need_claims : BindOk "need_claims" "need_claims" s_need_claims ["claims"] := fun _ _ _ _ _ _ us hl => match us, hl with | [_], _ => rfl
def sp_need_claims : SpD := fun ds S Q => ∃ xs, ds = [.tup xs] ∧ pu 20 (.tup xs) = true ∧ xs.length ≤ 6 ∧ (∀ x ∈ xs, claimOk x = true) ∧ Q .non S
abbrev C_need_claims (P : Program) (w : World) (K : PySem.W.Frag) (mg : Str → Option Value) (base : Heap) : Prop := Cal P w K mg base "need_claims" 4 ["claims"] sp_need_claims
theorem c_need_claims (B : Bt mg) (c_MOST_CLAIMS : ∃ tk, mg "MOST_CLAIMS" = some (.int 6 tk)) (G_is_claim : C_is_claim P w K mg base) (df : Df K "need_claims" "need_claims" s_need_claims f) (hm : mg "need_claims" = some (.ref f)) : C_need_claims P w K mg base := by
  obtain ⟨t1, c_MOST_CLAIMS⟩ := c_MOST_CLAIMS
  refine calD df hm sc_need_claims bd_need_claims (fun ds S Q ⟨x, e, _⟩ => by rw [e]; rfl) ?_
  rintro cdv A outer s H E ds S Q hr bS bD ⟨xs, rfl, hx, hl, hc, q⟩
  have ty := kn_ty (pu_kn hx) S
  obtain ⟨m, em, hlen, hk⟩ := pu_tup hx
  refine WSs.cons (WS.ite (WT.not (WT.val (WE.callB (WA.cons (WE.var 0 rfl (WA.cons (WE.bty B.tuple boot_tuple (WA.nil (CW.isi ty kit_tup_tuple ⟨_, rfl, (iF (WSs.nil ?_))⟩)))))) B.isinstance boot_isinstance))))
  refine WSs.one (WS.for (WI.range1 (WA.cons (WE.callB (WA.cons (WE.var 0 rfl (WA.nil (CW.lenT (WA.nil ⟨_, rfl, by omega, by omega, ?_⟩))))) B.len PySem.boot_len)) B.range) PassesOwn.never rfl)
  refine ⟨fun i v2 S2 => S2 = S ∧ ∃ z, v2 = [some (.tup xs), z], ⟨rfl, none, rfl⟩, fun _ _ _ _ _ => trivial, ?_, ?_⟩
  · rintro i d v2 S2 hd ⟨rfl, z, rfl⟩
    obtain ⟨hi, rfl⟩ := rngD_get.mp hd
    have hi : i < xs.length := by simpa using hi
    have hxi : xs[i]? = some xs[i] := List.getElem?_eq_getElem hi
    refine WG.name 1 ?_ sc_need_claims.nd
    refine WSs.one (WS.ite (WT.bool (WP.or (WT.cmp (WE.var 1 rfl (WE.globI c_MOST_CLAIMS (BW.ge ⟨_, rfl, ⟨fun h1 => iT ?_, fun h1 => (WP.or1 (WT.not (WT.val (WE.cal G_is_claim (hr.mono (by first|decide|omega)) (WA.cons (WE.ix (WE.var 0 rfl (WE.var 1 rfl (IW.tup (d := xs[i]) (by rw [Int.zero_add]; exact atI_nat hxi) (WA.nil ⟨xs[i], rfl, pu_mono (by omega) (hk _ (List.getElem_mem hi)), ⟨_, rfl, ⟨fun h2 => ?_, fun h2 => WSs.nil (WkE.same ⟨rfl, _, rfl⟩)⟩⟩⟩))))))))))⟩⟩)))))))
    · simp at h1; omega
    · simp [hc _ (List.getElem_mem hi)] at h2
  · rintro v2 S2 ⟨rfl, _⟩
    exact WkD.same q
abbrev N_fit_of : List Str := ["claims", "marks", "found", "wanted", "worth", "told", "k"]
theorem sc_fit_of : FnScope N_fit_of ["claims", "marks"] (defScope s_fit_of) := ⟨rfl, rfl, rfl, by decide +kernel, rfl, by decide +kernel, by decide +kernel⟩
theorem bd_fit_of : BindOk "fit_of" "fit_of" s_fit_of ["claims", "marks"] := fun _ _ _ _ _ _ us hl => match us, hl with | [_, _], _ => rfl
def sp_fit_of : SpD := fun ds S Q => ∃ cs m, ds = [eCs cs, eM m] ∧ m.length ≤ 100 ∧ cs.length ≤ 100 ∧ (∀ c ∈ cs, c.1.length = m.length) ∧ Q (eO (fitOf cs m)) S
abbrev C_fit_of (P : Program) (w : World) (K : PySem.W.Frag) (mg : Str → Option Value) (base : Heap) : Prop := Cal P w K mg base "fit_of" 1 ["claims", "marks"] sp_fit_of
theorem c_fit_of (B : Bt mg) (df : Df K "fit_of" "fit_of" s_fit_of f) (hm : mg "fit_of" = some (.ref f)) : C_fit_of P w K mg base := by
  refine calD df hm sc_fit_of bd_fit_of (fun ds S Q ⟨cs, m, e, _⟩ => by rw [e]; rfl) ?_
  rintro cdv A outer s H E ds S Q hr bS bD ⟨cs, m, rfl, hm, hcs, hcm, q⟩
  refine WSs.cons (WS.set 2 (WE.lst (WA.nil ⟨by show 0 ≤ sizeLine; exact sz (by decide), ?_⟩)) sc_fit_of.nd)
  refine WSs.cons (WS.for (WI.tup (WE.var 0 rfl ⟨cs.map eC, rfl, ?_⟩)) PassesOwn.never rfl)
  have lf : ∀ i, ((cs.take i).filterMap (fit1 m)).length ≤ 100 := fun i => Nat.le_trans (List.length_filterMap_le _ _) (by rw [List.length_take]; omega)
  refine ⟨fun i v2 S2 => S2 = S ++ [.lst (((cs.take i).filterMap (fit1 m)).map D.int)] ∧ ∃ z3 z4 z5 z6, v2 = [some (eCs cs), some (eM m), some (.loc S.length), z3, z4, z5, z6], ⟨by simp, none, none, none, none, rfl⟩, fun _ _ _ _ _ => trivial, ?_, ?_⟩
  · rintro i d v2 S2 hd ⟨rfl, z3, z4, z5, z6, rfl⟩
    have hd : (cs.map eC)[i]? = some d := hd
    obtain ⟨c, hci, rfl⟩ : ∃ c, cs[i]? = some c ∧ d = eC c := by
      rw [List.getElem?_map] at hd
      cases e : cs[i]? with
      | none => rw [e] at hd; cases hd
      | some c => rw [e] at hd; exact ⟨c, rfl, (Option.some.inj hd).symm⟩
    have hcl : c.1.length = m.length := hcm c (List.mem_of_getElem? hci)
    have bS1 : belS (S.length + 1) (S ++ [Ob.lst (((cs.take i).filterMap (fit1 m)).map D.int)]) := belS_snoc (belS_mono (Nat.le_succ _) bS) (belInts _)
    have lS1 : (S ++ [Ob.lst (((cs.take i).filterMap (fit1 m)).map D.int)]).length = S.length + 1 := by simp
    have lS0 : (S ++ [Ob.lst []]).length = S.length + 1 := by simp
    refine WG.tup rfl (WGs.cons (WG.name 3 (WGs.cons (WG.name 4 (WGs.nil ?_) sc_fit_of.nd)) sc_fit_of.nd)) rfl
    have hk3 : ∀ k, k < m.length → k < c.1.length := fun k hk => by omega
    refine WSs.cons (WS.setLcN 6 [("k", 6)] 5 (WI.range1 (WA.cons (WE.callB (WA.cons (WE.var 1 rfl (WA.nil (CW.lenT (WA.nil ⟨_, rfl, by rw [List.length_map]; omega, by rw [List.length_map]; omega, ?_⟩))))) B.len PySem.boot_len)) B.range) (by decide) rfl sc_fit_of.nd rfl rfl (sw_true rfl rfl rfl (by decide +kernel)) (blkOk_by (N := N_fit_of) (sc := defScope s_fit_of) (by decide +kernel))
      (fun Y hY => by obtain ⟨_, _, _, _, _, rfl⟩ := hY; exact pg_name sc_fit_of.nd rfl (Or.inl rfl)))
    have tol : ((m.map D.int).length : Int).toNat = m.length := by simp
    rw [tol]
    refine lc_pure (fun d => match d with | .int k => if 0 ≤ c.1.getD k.toNat 0 then some d else none | _ => none) (by rw [lS1]; exact bS1) (by show (rngD 0 m.length).length ≤ 100000; rw [rngD_len]; omega) (fun _ => trivial) ?_ ?_
    · intro j d acc hd
      obtain ⟨hj, rfl⟩ := rngD_get.mp hd
      refine ⟨_, rfl, fun Y hY => ?_⟩
      obtain ⟨_, _, _, _, _, rfl⟩ := hY
      refine (WT.cmp (WE.ix (WE.var 3 rfl (WE.var 6 rfl (IW.tup (d := .int (c.1.getD j 0)) (by rw [Int.zero_add]; exact at_ints (hk3 j hj)) (WE.int (BW.ge ⟨_, rfl, ⟨⟨[], by simp⟩, fun hb Z hZ => ?_, fun hb => ?_⟩⟩)))))))
      · obtain ⟨_, _, _, _, _, rfl⟩ := hZ
        refine WE.var 6 rfl ⟨⟨[], by simp⟩, rfl, ?_⟩
        have h0 : 0 ≤ c.1.getD j 0 := of_decide_eq_true hb
        have ej : (0 + (j : Int)).toNat = j := by omega
        simp only [ej, if_pos h0]
      · have h0 : ¬ 0 ≤ c.1.getD j 0 := of_decide_eq_false hb
        have ej : (0 + (j : Int)).toNat = j := by omega
        simp only [ej, if_neg h0]
    · have e1 : (rngD 0 m.length).filterMap (fun d => match d with | .int k => if 0 ≤ c.1.getD k.toNat 0 then some d else none | _ => none) = (toldL c.1 m.length).map fun (k : Nat) => D.int (k : Int) := range_fm (p := fun k => decide (0 ≤ c.1.getD k 0)) fun k hk => by simp
      rw [show (Src.items ⟨rngD 0 m.length, fun _ => True⟩) = rngD 0 m.length from rfl, e1]
      have bS2 : belS (S.length + 2) (S ++ [Ob.lst (((cs.take i).filterMap (fit1 m)).map D.int)] ++ [Ob.lst ((toldL c.1 m.length).map fun (k : Nat) => D.int (k : Int))]) := belS_snoc (belS_mono (Nat.le_succ _) bS1) (belAll_map (fun _ => rfl) _)
      have lS2 : (S ++ [Ob.lst (((cs.take i).filterMap (fit1 m)).map D.int)] ++ [Ob.lst ((toldL c.1 m.length).map fun (k : Nat) => D.int (k : Int))]).length = S.length + 2 := by simp
      have htl : ∀ k ∈ toldL c.1 m.length, k < m.length := fun k hk => List.mem_range.mp (List.mem_filter.mp hk).1
      have htn : (toldL c.1 m.length).length ≤ 100 := Nat.le_trans (List.length_filter_le _ _) (by simp; omega)
      refine WSs.one (WS.ite (WT.cmp (WE.lcN 6 [("k", 6)] (WI.list (WE.var 5 rfl ⟨_, (toldL c.1 m.length).map fun (k : Nat) => D.int (k : Int), rfl, by simp, ?_⟩)) (by decide) rfl sc_fit_of.nd (blkOk_by (N := N_fit_of) (sc := defScope s_fit_of) (by decide +kernel))
        (fun Y hY => by obtain ⟨_, _, _, _, _, rfl⟩ := hY; exact pg_name sc_fit_of.nd rfl (Or.inl rfl)))))
      refine lc_pure (fun d => match d with | .int k => if !decide (c.1.getD k.toNat 0 = m.getD k.toNat 0) then some d else none | _ => none) (by rw [lS2]; exact bS2) (by show ((toldL c.1 m.length).map fun (k : Nat) => D.int (k : Int)).length ≤ 100000; rw [List.length_map]; omega) (fun _ => by simp) ?_ ?_
      · intro j d acc hd
        have hd : ((toldL c.1 m.length).map fun (k : Nat) => D.int (k : Int))[j]? = some d := hd
        obtain ⟨k, hkm, rfl⟩ : ∃ k, k ∈ toldL c.1 m.length ∧ d = .int (k : Int) := by
          obtain ⟨k, h1, h2⟩ := List.mem_map.mp (List.mem_of_getElem? hd)
          exact ⟨k, h1, h2.symm⟩
        have hk := htl k hkm
        refine ⟨_, rfl, fun Y hY => ?_⟩
        obtain ⟨_, _, _, _, _, rfl⟩ := hY
        refine (WT.cmp (WE.ix (WE.var 3 rfl (WE.var 6 rfl (IW.tup (d := .int (c.1.getD k 0)) (at_ints (hk3 k hk)) (WE.ix (WE.var 1 rfl (WE.var 6 rfl (IW.tup (d := .int (m.getD k 0)) (at_ints hk) (BW.neI ⟨_, rfl, ⟨⟨[], by simp⟩, fun hb Z hZ => ?_, fun hb => ?_⟩⟩))))))))))
        · obtain ⟨_, _, _, _, _, rfl⟩ := hZ
          refine WE.var 6 rfl ⟨⟨[], by simp⟩, rfl, ?_⟩
          simp only [Int.toNat_natCast, hb, if_true]
        · simp only [Int.toNat_natCast, hb]; rfl
      · have e2 : ((toldL c.1 m.length).map fun (k : Nat) => D.int (k : Int)).filterMap (fun d => match d with | .int k => if !decide (c.1.getD k.toNat 0 = m.getD k.toNat 0) then some d else none | _ => none) = ((toldL c.1 m.length).filter fun k => !decide (c.1.getD k 0 = m.getD k 0)).map fun (k : Nat) => D.int (k : Int) := list_fm (p := fun k => !decide (c.1.getD k 0 = m.getD k 0)) fun k hk => by simp only [Int.toNat_natCast]
        rw [show (Src.items ⟨((toldL c.1 m.length).map fun (k : Nat) => D.int (k : Int)), _⟩) = ((toldL c.1 m.length).map fun (k : Nat) => D.int (k : Int)) from rfl, e2]
        refine WE.lst (WA.nil ⟨by show 0 ≤ sizeLine; exact sz (by decide), ?_⟩)
        refine BW.eqL (xs := ((toldL c.1 m.length).filter fun k => !decide (c.1.getD k 0 = m.getD k 0)).map fun (k : Nat) => D.int (k : Int)) (ys := []) (by simp) (by simp) (fun x hx => by obtain ⟨k, _, rfl⟩ := List.mem_map.mp hx; rfl) (fun _ h => by cases h) hr.units ?_
        have fin : ∀ (ns : List Int) (G : Store), ns = (cs.take (i + 1)).filterMap (fit1 m) → WkE (S ++ [Ob.lst []]).length [some (eCs cs), some (eM m), some (.loc S.length), some (eM c.1), some (.int c.2), some (.loc (S.length + 1)), z6] (S ++ [.lst (ns.map D.int)] ++ G) fun v4 S4 => S4 = S ++ [.lst (((cs.take (i + 1)).filterMap (fit1 m)).map D.int)] ∧ ∃ z3 z4 z5 z6, v4 = [some (eCs cs), some (eM m), some (.loc S.length), z3, z4, z5, z6] := fun ns G e => by
          subst e
          refine ⟨_, _, CovE.drop (v2 := [some (eCs cs), some (eM m), some (.loc S.length), none, none, none, none]) ?_ ?_ ?_ ?_, rfl, _, _, _, _, rfl⟩
          · simp
          · simp only [List.length_append, List.length_cons, List.length_nil]
            exact belS_snoc (belS_mono (Nat.le_succ _) bS) (belInts _)
          · exact ⟨rfl, fun j d h => by
              match j, h with
              | 0, h => exact h
              | 1, h => exact h
              | 2, h => exact h
              | 3, h => simp at h
              | 4, h => simp at h
              | 5, h => simp at h
              | 6, h => simp at h
              | j + 7, h => simp at h⟩
          · intro j d h
            match j, h with
            | 0, h => cases h; exact bel_eCs cs
            | 1, h => cases h; exact bel_eM m
            | 2, h => cases h; exact decide_eq_true (by simp)
            | 3, h => simp at h
            | 4, h => simp at h
            | 5, h => simp at h
            | 6, h => simp at h
            | j + 7, h => simp at h
        have tk : (cs.take (i + 1)).filterMap (fit1 m) = (cs.take i).filterMap (fit1 m) ++ (fit1 m c).toList := by
          have : cs.take (i + 1) = cs.take i ++ [c] := by rw [List.take_add_one, hci]; rfl
          rw [this, List.filterMap_append]
          cases e : fit1 m c <;> simp [List.filterMap, e]
        refine ⟨_, rfl, fun h1 => ?_, fun h1 => ?_⟩
        · have hz : ((toldL c.1 m.length).filter fun k => !decide (c.1.getD k 0 = m.getD k 0)) = [] := by simpa using h1
          have hf : fit1 m c = some (10 * c.2 + (toldL c.1 m.length).length) := by unfold fit1; rw [if_pos hz]
          refine WSs.one (WS.expr (WE.bm PySem.F.plainAttrs_list PySem.F.slot_list_append PySem.F.type_list_append (WE.var 2 rfl ⟨?_, (WA.cons (WE.bin (WE.bin (WE.int (WE.var 4 rfl (BW.mul (by first | exact .inr ⟨by decide, by decide⟩ | exact .inl ⟨by decide, by decide⟩) (WE.callB (WA.cons (WE.var 5 rfl (WA.nil (CW.lenL (xs := (toldL c.1 m.length).map fun (k : Nat) => D.int (k : Int)) (by simp) (BW.add (WA.nil (MW.append (xs := ((cs.take i).filterMap (fit1 m)).map D.int) (by simp) (by rw [List.length_map]; exact szl (by have := lf i; omega)) ?_))))))) B.len PySem.boot_len)))))))⟩)))
          · exact Or.inl ⟨rfl, ((cs.take i).filterMap (fit1 m)).map D.int, by simp⟩
          · have := fin ((cs.take i).filterMap (fit1 m) ++ [10 * c.2 + (toldL c.1 m.length).length]) [.lst ((toldL c.1 m.length).map fun (k : Nat) => D.int (k : Int)), .lst (((toldL c.1 m.length).filter fun k => !decide (c.1.getD k 0 = m.getD k 0)).map fun (k : Nat) => D.int (k : Int)), .lst []] (by rw [tk, hf]; rfl)
            simpa using this
        · have hz : ¬ ((toldL c.1 m.length).filter fun k => !decide (c.1.getD k 0 = m.getD k 0)) = [] := by simpa using h1
          have hf : fit1 m c = none := by unfold fit1; rw [if_neg hz]
          refine WSs.nil ?_
          have := fin ((cs.take i).filterMap (fit1 m)) [.lst ((toldL c.1 m.length).map fun (k : Nat) => D.int (k : Int)), .lst (((toldL c.1 m.length).filter fun k => !decide (c.1.getD k 0 = m.getD k 0)).map fun (k : Nat) => D.int (k : Int)), .lst []] (by rw [tk, hf]; simp)
          simpa using this
  · rintro v2 S2 ⟨rfl, z3, z4, z5, z6, rfl⟩
    have tkl : cs.take (cs.map eC).length = cs := by rw [List.length_map, List.take_length]
    rw [show (Src.items ⟨cs.map eC, fun _ => True⟩) = cs.map eC from rfl, tkl]
    have ed : ∀ (r : Option Int) (G : Store), r = fitOf cs m → WkD S.length (eO r) (S ++ G) Q := fun r G e => by
      subst e
      refine ⟨_, S, CovD.drop bS ?_, q⟩
      cases fitOf cs m <;> rfl
    refine WSs.one (WS.ret (WE.ite (WT.cmp (WE.var 2 rfl (WE.lst (WA.nil ⟨by show 0 ≤ sizeLine; exact sz (by decide), ?_⟩))))))
    refine BW.neL (xs := (cs.filterMap (fit1 m)).map D.int) (ys := []) (by simp) (by simp) (fun x hx => by obtain ⟨k, _, rfl⟩ := List.mem_map.mp hx; rfl) (fun _ h => by cases h) hr.units ?_
    refine ⟨_, rfl, fun h1 => ?_, fun h1 => ?_⟩
    · have hne : cs.filterMap (fit1 m) ≠ [] := by simpa using h1
      refine (WE.callB (WA.cons (WE.var 2 rfl (WA.nil (CW.maxL (ns := cs.filterMap (fit1 m)) (by simp) (List.length_pos_iff.mpr hne) rfl (fun mx hmx hle => ?_))))) B.max boot_max)
      have := ed (some mx) [.lst ((cs.filterMap (fit1 m)).map D.int), .lst []] (max_is hmx hle).symm
      show WkD S.length (.int mx) _ Q
      simpa [eO, D.ofO] using this
    · have hne : cs.filterMap (fit1 m) = [] := by simpa using h1
      refine WE.non ?_
      have := ed none [.lst ((cs.filterMap (fit1 m)).map D.int), .lst []] (by unfold fitOf; rw [hne]; rfl)
      show WkD S.length .non _ Q
      simpa [eO, D.ofO] using this
end

section
variable {P : Program} {w : World} {K : PySem.W.Frag} {mg : Str → Option Value} {base : Heap} {f : Addr}
abbrev N_need_room : List Str := ["room"]
theorem sc_need_room : FnScope N_need_room ["room"] (defScope s_need_room) := ⟨rfl, rfl, rfl, by decide +kernel, rfl, by decide +kernel, by decide +kernel⟩
theorem bd_need_room : BindOk "need_room" "need_room" s_need_room ["room"] := fun _ _ _ _ _ _ us hl => match us, hl with | [_], _ => rfl
def sp_need_room : SpD := fun ds S Q => ∃ i, ds = [.int i] ∧ 0 ≤ i ∧ i ≤ 4 ∧ Q .non S
abbrev C_need_room (P : Program) (w : World) (K : PySem.W.Frag) (mg : Str → Option Value) (base : Heap) : Prop := Cal P w K mg base "need_room" 2 ["room"] sp_need_room
theorem c_need_room (c_MOST_ROOM : ∃ tk, mg "MOST_ROOM" = some (.int 4 tk)) (G_is_number : C_is_number P w K mg base) (df : Df K "need_room" "need_room" s_need_room f) (hm : mg "need_room" = some (.ref f)) : C_need_room P w K mg base := by
  obtain ⟨t1, c_MOST_ROOM⟩ := c_MOST_ROOM
  refine calD df hm sc_need_room bd_need_room (fun ds S Q ⟨x, e, _⟩ => by rw [e]; rfl) ?_
  rintro cdv A outer s H E ds S Q hr bS bD ⟨i, rfl, h0, h4, q⟩
  refine WSs.one (WS.ite (WT.not (WT.val (WE.cal G_is_number (hr.mono (by first|decide|omega)) (WA.cons (WE.var 0 rfl (WA.cons (WE.int (WA.cons (WE.globI c_MOST_ROOM (WA.nil ⟨.int i, 0, 4, rfl, rfl, ⟨_, rfl, ⟨fun h => ?_, fun _ => WSs.nil (WkD.same q)⟩⟩⟩)))))))))))
  simp [numOk_e (x := i) (lo := 0) (hi := 4) ⟨h0, h4⟩] at h
abbrev N_need_thing : List Str := ["thing", "left", "number", "one", "deep", "good", "inner"]
theorem sc_need_thing : FnScope N_need_thing ["thing"] (defScope s_need_thing) := ⟨rfl, rfl, rfl, by decide +kernel, rfl, by decide +kernel, by decide +kernel⟩
theorem bd_need_thing : BindOk "need_thing" "need_thing" s_need_thing ["thing"] := fun _ _ _ _ _ _ us hl => match us, hl with | [_], _ => rfl
def sp_need_thing : SpD := fun ds S Q => ∃ t, ds = [eT t] ∧ OkT 2 t ∧ Q .non S
abbrev C_need_thing (P : Program) (w : World) (K : PySem.W.Frag) (mg : Str → Option Value) (base : Heap) : Prop := Cal P w K mg base "need_thing" 3 ["thing"] sp_need_thing
def stD (p : Th × Nat) : D := .tup [eT p.1, .int (p.2 : Int)]
theorem c_need_thing (B : Bt mg) (c_MOST_INNER : ∃ tk, mg "MOST_INNER" = some (.int 3 tk)) (c_MOST_DEEP : ∃ tk, mg "MOST_DEEP" = some (.int 2 tk)) (G_are_marks : C_are_marks P w K mg base) (df : Df K "need_thing" "need_thing" s_need_thing f) (hm : mg "need_thing" = some (.ref f)) : C_need_thing P w K mg base := by
  obtain ⟨t1, c_MOST_INNER⟩ := c_MOST_INNER
  obtain ⟨t2, c_MOST_DEEP⟩ := c_MOST_DEEP
  refine calD df hm sc_need_thing bd_need_thing (fun ds S Q ⟨x, e, _⟩ => by rw [e]; rfl) ?_
  rintro cdv A outer s H E ds S Q hr bS bD ⟨t, rfl, ok, q⟩
  refine WSs.cons (WS.set 1 (WE.lst (WA.cons (WE.tup (WA.cons (WE.var 0 rfl (WA.cons (WE.int (WA.nil ⟨by show 2 ≤ sizeLine; exact sz (by decide), (WA.nil ⟨by show 1 ≤ sizeLine; exact sz (by decide), ?_⟩)⟩)))))))) sc_need_thing.nd)
  refine WSs.cons (WS.set 2 (WE.int ?_) sc_need_thing.nd)
  refine WSs.one (WS.while (fun m v2 S2 => ∃ (st : List (Th × Nat)) (j : Int) (z3 z4 z5 z6 : Option D), S2 = S ++ [.lst (st.map stD)] ∧ v2 = [some (eT t), some (.loc S.length), some (.int j), z3, z4, z5, z6] ∧ (∀ p ∈ st, p.2 ≤ 2 ∧ OkT (2 - p.2) p.1) ∧ Th.sizes (st.map (·.1)) = m ∧ m ≤ 100)
    ⟨t.size, [(t, 0)], 0, none, none, none, none, rfl, rfl, fun p hp => by rw [List.mem_singleton.mp hp]; exact ⟨Nat.zero_le _, ok⟩, by show t.size + 0 = _; omega, Nat.le_trans (size_le ok) (by decide)⟩ ?_ PassesOwn.never)
  rintro m v2 S2 ⟨st, j, z3, z4, z5, z6, e0, rfl, hst, hsz, hm100⟩
  subst S2
  have hpu : ∀ x ∈ st.map stD, pu 60 x = true := fun x hx => by
    obtain ⟨p, hp, rfl⟩ := List.mem_map.mp hx
    have h1 : pu 59 (eT p.1) = true := pu_eT (hst p hp).2 (by omega)
    show (decide (2 ≤ 100000) && (pu 59 (eT p.1) && (pu 59 (.int _) && true))) = true
    rw [h1]; rfl
  refine WT.cmp (WE.var 1 rfl (WE.lst (WA.nil ⟨by show 0 ≤ sizeLine; exact sz (by decide), ?_⟩)))
  refine BW.neL (xs := st.map stD) (ys := []) (by simp) (by simp) hpu (fun _ h => by cases h) hr.units ⟨_, rfl, fun h => ?_, fun h => ⟨.non, S, by rw [List.append_assoc]; exact CovD.drop bS rfl, q⟩⟩
  have hne : st ≠ [] := fun z => by rw [z] at h; simp at h
  obtain ⟨st', p, rfl⟩ : ∃ st' p, st = st' ++ [p] := ⟨st.dropLast, st.getLast hne, (List.dropLast_concat_getLast hne).symm⟩
  obtain ⟨⟨ms, xs⟩, dp⟩ := p
  obtain ⟨hdp, okp⟩ := hst (.mk ms xs, dp) (by simp)
  have hdp : dp ≤ 2 := hdp
  have okp : OkT (2 - dp) (.mk ms xs) := okp
  have hlx : xs.length ≤ 3 := okp.len
  have hmo : OkM 0 ms := okp.m
  have hm3 := hmo.1
  rw [List.map_append] at hsz ⊢
  rw [sizes_append] at hsz
  have hsz : Th.sizes (st'.map (·.1)) + (1 + Th.sizes xs + 0) = m := hsz
  refine WSs.cons (WS.asg (WE.bm0 PySem.F.plainAttrs_list PySem.F.slot_list_pop PySem.F.type_list_pop (WE.var 1 rfl ⟨?_, (MW.pop (xs := st'.map stD) (d := stD (.mk ms xs, dp)) (by simp) ?_)⟩)))
  · exact Or.inl ⟨rfl, (st' ++ [(Th.mk ms xs, dp)]).map stD, by simp⟩
  refine WG.tup rfl (WGs.cons (WG.name 3 (WGs.cons (WG.name 4 (WGs.nil ?_) sc_need_thing.nd)) sc_need_thing.nd)) rfl
  have es : (S ++ [Ob.lst (st'.map stD ++ [(Th.mk ms xs, dp)].map stD)] ++ [Ob.lst []]).set S.length (.lst (st'.map stD)) = S ++ [Ob.lst (st'.map stD)] ++ [Ob.lst []] := by simp
  rw [es]
  have ty : ∀ S2, tyName (eT (.mk ms xs)) S2 = some "tuple" := fun _ => rfl
  have ty2 : ∀ S2, tyName (D.tup (eTs xs)) S2 = some "tuple" := fun _ => rfl
  refine WSs.cons (WS.set 5 (WE.and (WE.callB (WA.cons (WE.var 3 rfl (WA.cons (WE.bty B.tuple boot_tuple (WA.nil (CW.isi (ty _) kit_tup_tuple ⟨_, rfl, fun h1 => (WE.and (WE.cmp (WE.callB (WA.cons (WE.var 3 rfl (WA.nil (CW.lenT (xs := [eM ms, .tup (eTs xs)]) (WE.int (BW.eqI ⟨_, rfl, fun h2 => (WE.and (WE.cal G_are_marks (hr.mono (by first|decide|omega)) (WA.cons (WE.ix (WE.var 3 rfl (WE.int (IW.tup (xs := [eM ms, .tup (eTs xs)]) (d := eM ms) rfl (WA.cons (WE.int (WA.nil ⟨eM ms, 0, rfl, pu_eM (n := 19) (by omega), ⟨_, rfl, fun h3 => (WE.one (WE.callB (WA.cons (WE.ix (WE.var 3 rfl (WE.int (IW.tup (xs := [eM ms, .tup (eTs xs)]) (d := .tup (eTs xs)) rfl (WA.cons (WE.bty B.tuple boot_tuple (WA.nil (CW.isi (ty2 _) kit_tup_tuple ?_))))))))) B.isinstance boot_isinstance)), fun h3 => ?_⟩⟩)))))))))), fun h2 => ?_⟩)))))) B.len PySem.boot_len))), fun h1 => ?_⟩)))))) B.isinstance boot_isinstance)) sc_need_thing.nd)
  all_goals first | (exfalso; simp at h1; done) | (exfalso; simp at h2; done) | (exfalso; rw [marksOk_e hmo] at h3; cases h3; done) | skip
  have lx : (eTs xs).length = xs.length := by rw [eTs_map, List.length_map]
  refine WSs.cons (WS.ite (WT.bool (WP.or (WT.not (WT.val (WE.var 5 rfl ⟨_, rfl, ⟨fun h1 => iT ?_, fun h1 => (WP.or (WT.cmp (WE.callB (WA.cons (WE.ix (WE.var 3 rfl (WE.int (IW.tup (xs := [eM ms, .tup (eTs xs)]) (d := .tup (eTs xs)) rfl (WA.nil (CW.lenT (xs := eTs xs) (WE.globI c_MOST_INNER (BW.gt ⟨_, rfl, ⟨fun h2 => iT ?_, fun h2 => (WP.or1 (WT.cmp (WE.var 4 rfl (WE.globI c_MOST_DEEP (BW.gt ⟨_, rfl, ⟨fun h => ?_, fun h => WSs.nil ?_⟩⟩)))))⟩⟩))))))))) B.len PySem.boot_len)))⟩⟩))))))
  · exfalso; simp at h1
  · exfalso; rw [lx] at h2; simp at h2; omega
  · exfalso; simp at h; omega
  have b1 : belS (S.length + 1) (S ++ [Ob.lst (st'.map stD)]) := belS_snoc (belS_mono (Nat.le_succ _) bS) (belAll_map (fun p => by show (bel _ (eT p.1) && (true && true)) = true; rw [bel_eT]; rfl) _)
  have b2 : belS (S.length + 2) (S ++ [Ob.lst (st'.map stD)] ++ [Ob.lst []]) := belS_snoc (belS_mono (Nat.le_succ _) b1) rfl
  have l2 : (S ++ [Ob.lst (st'.map stD)] ++ [Ob.lst []]).length = S.length + 2 := by simp
  refine WSs.cons (WS.expr (WE.bm PySem.F.plainAttrs_list PySem.F.slot_list_extend PySem.F.type_list_extend (WE.var 1 rfl ⟨Or.inl ⟨rfl, st'.map stD, by simp⟩, WA.cons (WE.lcN 6 [("inner", 6)] (WI.tup (WE.backT (WE.ix (WE.var 3 rfl (WE.int (IW.tup (xs := [eM ms, .tup (eTs xs)]) (d := .tup (eTs xs)) rfl (WE.un (WE.int (UW.neg ⟨eTs xs, rfl, rfl, (eTs xs).reverse, rfl, ?_⟩)))))))))
      (by decide) rfl sc_need_thing.nd (blkOk_by (N := N_need_thing) (sc := defScope s_need_thing) (by decide +kernel)) (fun Y hY => by obtain ⟨_, _, _, _, _, rfl⟩ := hY; exact pg_name sc_need_thing.nd rfl (Or.inl rfl)))⟩)))
  refine lc_pure (fun d => some (.tup [d, .int ((dp : Int) + 1)])) (by rw [l2]; exact b2) (by show (eTs xs).reverse.length ≤ 100000; rw [List.length_reverse, lx]; omega) (fun _ => trivial) ?_ ?_
  · intro i d acc hd
    have hd : (eTs xs).reverse[i]? = some d := hd
    obtain ⟨x, hx, rfl⟩ : ∃ x, x ∈ xs ∧ d = eT x := by
      have := List.mem_reverse.mp (List.mem_of_getElem? hd)
      rw [eTs_map] at this
      obtain ⟨x, h1, h2⟩ := List.mem_map.mp this
      exact ⟨x, h1, h2.symm⟩
    refine ⟨_, rfl, fun Y hY => ⟨⟨[], by simp⟩, fun _ Z hZ => ?_, fun z => (by cases z)⟩⟩
    obtain ⟨_, _, _, _, _, rfl⟩ := hZ
    refine (WE.tup (WA.cons (WE.var 6 rfl (WA.cons (WE.bin (WE.var 4 rfl (WE.int (BW.add (WA.nil ⟨by show 2 ≤ sizeLine; exact sz (by decide), ⟨⟨[], by simp⟩, ?_, rfl⟩⟩)))))))))
    show (bel _ (eT x) && (true && true)) = true
    rw [bel_eT]; rfl
  have e1 : ((eTs xs).reverse.filterMap fun d => some (D.tup [d, .int ((dp : Int) + 1)])) = (xs.reverse.map fun x => (x, dp + 1)).map stD := by
    show List.filterMap (some ∘ fun d => D.tup [d, .int ((dp : Int) + 1)]) _ = _
    rw [List.filterMap_eq_map, eTs_map, ← List.map_reverse, List.map_map, List.map_map]
    rfl
  rw [show (Src.items ⟨(eTs xs).reverse, fun _ => True⟩) = (eTs xs).reverse from rfl, e1]
  have hl3 : st'.length + xs.length ≤ 100 := by
    have := len_sizes (st'.map (·.1))
    have h2 := len_sizes xs
    rw [List.length_map] at this
    omega
  refine WA.nil (MW.extend (xs := st'.map stD) (ys := (xs.reverse.map fun x => (x, dp + 1)).map stD) (by simp) (by simp) (by simp only [List.length_map, List.length_reverse]; exact sz (by omega)) ?_)
  refine WSs.one (WS.set 2 (WE.bin (WE.var 2 rfl (WE.int (BW.add ?_)))) sc_need_thing.nd)
  have e2 : (S ++ [Ob.lst (st'.map stD)] ++ [Ob.lst []] ++ [Ob.lst ((xs.reverse.map fun x => (x, dp + 1)).map stD)]).set S.length (.lst (st'.map stD ++ (xs.reverse.map fun x => (x, dp + 1)).map stD)) = S ++ [Ob.lst ((st' ++ xs.reverse.map fun x => (x, dp + 1)).map stD)] ++ [Ob.lst [], Ob.lst ((xs.reverse.map fun x => (x, dp + 1)).map stD)] := by simp
  show WkE _ _ ((S ++ [Ob.lst (st'.map stD)] ++ [Ob.lst []] ++ [Ob.lst ((xs.reverse.map fun x => (x, dp + 1)).map stD)]).set S.length (.lst (st'.map stD ++ (xs.reverse.map fun x => (x, dp + 1)).map stD))) _
  rw [e2]
  refine ⟨_, _, CovE.drop (v2 := [some (eT t), some (.loc S.length), some (.int (j + 1)), none, none, none, none]) ?_ ?_ ?_ ?_, Th.sizes (st'.map (·.1)) + Th.sizes xs, by omega, st' ++ xs.reverse.map fun x => (x, dp + 1), j + 1, none, none, none, none, rfl, rfl, ?_, ?_, by omega⟩
  · simp
  · simp only [List.length_append, List.length_cons, List.length_nil]
    exact belS_snoc (belS_mono (Nat.le_succ _) bS) (belAll_map (fun p => by show (bel _ (eT p.1) && (true && true)) = true; rw [bel_eT]; rfl) _)
  · exact lessK (lessK (lessK (lessS (lessS (lessS (lessS lessN))))))
  · exact belY (bel_eT _ t) (belY (bel_loc (by simp)) (belY rfl (belZ (belZ (belZ (belZ belN))))))
  · intro p hp
    rcases List.mem_append.mp hp with hp | hp
    · exact hst p (by simp [hp])
    · obtain ⟨x, hx, rfl⟩ := List.mem_map.mp hp
      have hx := List.mem_reverse.mp hx
      have : dp < 2 := by
        rcases Nat.lt_or_ge dp 2 with z | z
        · exact z
        · have e : 2 - dp = 0 := by omega
          rw [e] at okp
          have : xs = [] := okp.2
          rw [this] at hx; cases hx
      obtain ⟨dd, hdd⟩ : ∃ dd, 2 - dp = dd + 1 := ⟨1 - dp, by omega⟩
      rw [hdd] at okp
      have : OkT dd x := okp.2.2 x hx
      refine ⟨by show dp + 1 ≤ 2; omega, ?_⟩
      show OkT (2 - (dp + 1)) x
      have e : 2 - (dp + 1) = dd := by omega
      rw [e]; exact this
  · rw [List.map_append, sizes_append, List.map_map]
    have : ((fun p : Th × Nat => p.1) ∘ fun x : Th => (x, dp + 1)) = id := rfl
    rw [this, List.map_id, sizes_reverse]
abbrev N_all_within : List Str := ["number", "thing", "found", "left", "name", "one", "k"]
theorem sc_all_within : FnScope N_all_within ["number", "thing"] (defScope s_all_within) := ⟨rfl, rfl, rfl, by decide +kernel, rfl, by decide +kernel, by decide +kernel⟩
theorem bd_all_within : BindOk "all_within" "all_within" s_all_within ["number", "thing"] := fun _ _ _ _ _ _ us hl => match us, hl with | [_, _], _ => rfl
def sp_all_within : SpD := fun ds S Q => ∃ n t, ds = [.int n, eT t] ∧ OkT 2 t ∧ Q (.loc S.length) (S ++ [.lst ((within [n] t).map wD)])
abbrev C_all_within (P : Program) (w : World) (K : PySem.W.Frag) (mg : Str → Option Value) (base : Heap) : Prop := Cal P w K mg base "all_within" 1 ["number", "thing"] sp_all_within
theorem c_all_within (B : Bt mg) (df : Df K "all_within" "all_within" s_all_within f) (hm : mg "all_within" = some (.ref f)) : C_all_within P w K mg base := by
  refine calD df hm sc_all_within bd_all_within (fun ds S Q ⟨n, t, e, _⟩ => by rw [e]; rfl) ?_
  rintro cdv A outer s H E ds S Q hr bS bD ⟨n, t, rfl, ok, q⟩
  have bw : ∀ (k : Nat) (ws : List (List Int × List Int)), bel.belAll k (ws.map wD) = true := fun k ws => belAll_map (fun p => by show (bel _ (eM p.1) && (bel _ (eM p.2) && true)) = true; rw [bel_eM, bel_eM]; rfl) _
  have bp : ∀ (k : Nat) (ws : List (List Int × Th)), bel.belAll k (ws.map prD) = true := fun k ws => belAll_map (fun p => by show (bel _ (eM p.1) && (bel _ (eT p.2) && true)) = true; rw [bel_eM, bel_eT]; rfl) _
  refine WSs.cons (WS.set 2 (WE.lst (WA.nil ⟨by show 0 ≤ sizeLine; exact sz (by decide), ?_⟩)) sc_all_within.nd)
  refine WSs.cons (WS.set 3 (WE.lst (WA.cons (WE.tup (WA.cons (WE.tup (WA.cons (WE.var 0 rfl (WA.nil ⟨by show 1 ≤ sizeLine; exact sz (by decide), (WA.cons (WE.var 1 rfl (WA.nil ⟨by show 2 ≤ sizeLine; exact sz (by decide), (WA.nil ⟨by show 1 ≤ sizeLine; exact sz (by decide), ?_⟩)⟩)))⟩)))))))) sc_all_within.nd)
  have e00 : S ++ [Ob.lst []] ++ [Ob.lst [D.tup [D.tup [.int n], eT t]]] = S ++ [Ob.lst [], Ob.lst [D.tup [D.tup [.int n], eT t]]] := by simp
  have e01 : (S ++ [Ob.lst []]).length = S.length + 1 := by simp
  refine WSs.cons (WS.while (fun m v2 S2 => ∃ (fs : List (List Int × List Int)) (st : List (List Int × Th)) (z4 z5 z6 : Option D), S2 = S ++ [.lst (fs.map wD), .lst (st.map prD)] ∧ v2 = [some (.int n), some (eT t), some (.loc S.length), some (.loc (S.length + 1)), z4, z5, z6] ∧ (∀ p ∈ st, 1 ≤ p.1.length ∧ p.1.length ≤ 3 ∧ OkT (3 - p.1.length) p.2) ∧ Th.sizes (st.map (·.2)) = m ∧ fs.length + m ≤ 100 ∧ fs ++ (st.reverse.flatMap fun p => within p.1 p.2) = within [n] t)
    ⟨t.size, [], [([n], t)], none, none, none, ?_, ?_, fun p hp => by rw [List.mem_singleton.mp hp]; exact ⟨Nat.le_refl 1, (by decide : 1 ≤ 3), ok⟩, by show t.size + 0 = _; omega, by have := size_le ok; have e : bnd 2 = 13 := rfl; show 0 + t.size ≤ 100; omega, by simp⟩ ?_ PassesOwn.never)
  · exact e00
  · rw [e01]
    rfl
  rintro m v2 S2 ⟨fs, st, z4, z5, z6, e0, rfl, hst, hsz, hm100, hw⟩
  subst S2
  have hpu : ∀ x ∈ st.map prD, pu 60 x = true := fun x hx => by
    obtain ⟨p, hp, rfl⟩ := List.mem_map.mp hx
    obtain ⟨g1, g2, g3⟩ := hst p hp
    have h1 : pu 59 (eT p.2) = true := pu_eT g3 (by omega)
    show (decide (2 ≤ 100000) && (pu 59 (eM p.1) && (pu 59 (eT p.2) && true))) = true
    rw [h1, pu_eM (by omega)]; rfl
  refine WT.cmp (WE.var 3 rfl (WE.lst (WA.nil ⟨by show 0 ≤ sizeLine; exact sz (by decide), ?_⟩)))
  refine BW.neL (xs := st.map prD) (ys := []) (by simp) (by simp) hpu (fun _ h => by cases h) hr.units ⟨_, rfl, fun h => ?_, fun h => ?_⟩
  · have hne : st ≠ [] := fun z => by rw [z] at h; simp at h
    obtain ⟨st', p, rfl⟩ : ∃ st' p, st = st' ++ [p] := ⟨st.dropLast, st.getLast hne, (List.dropLast_concat_getLast hne).symm⟩
    obtain ⟨nm, ms, xs⟩ := p
    obtain ⟨hn1, hn3, okp⟩ := hst (nm, .mk ms xs) (by simp)
    have hn1 : 1 ≤ nm.length := hn1
    have hn3 : nm.length ≤ 3 := hn3
    have okp : OkT (3 - nm.length) (.mk ms xs) := okp
    have hlx : xs.length ≤ 3 := okp.len
    have hnn : nm.map D.int ≠ [] := fun z => by
      have := congrArg List.length z
      rw [List.length_map, List.length_nil] at this
      omega
    rw [List.map_append, sizes_append] at hsz
    have hsz : Th.sizes (st'.map (·.2)) + (1 + Th.sizes xs + 0) = m := hsz
    refine WSs.cons (WS.asg (WE.bm0 PySem.F.plainAttrs_list PySem.F.slot_list_pop PySem.F.type_list_pop (WE.var 3 rfl ⟨?_, (MW.pop (xs := st'.map prD) (d := prD (nm, .mk ms xs)) (by simp) ?_)⟩)))
    · exact Or.inl ⟨rfl, (st' ++ [(nm, Th.mk ms xs)]).map prD, by simp⟩
    refine WG.tup rfl (WGs.cons (WG.name 4 (WGs.cons (WG.name 5 (WGs.nil ?_) sc_all_within.nd)) sc_all_within.nd)) rfl
    have es : (S ++ [Ob.lst (fs.map wD), Ob.lst ((st' ++ [(nm, Th.mk ms xs)]).map prD)] ++ [Ob.lst []]).set (S.length + 1) (.lst (st'.map prD)) = S ++ [Ob.lst (fs.map wD), Ob.lst (st'.map prD)] ++ [Ob.lst []] := by simp
    rw [es]
    have lx : (eTs xs).length = xs.length := by rw [eTs_map, List.length_map]
    refine WSs.cons (WS.expr (WE.bm PySem.F.plainAttrs_list PySem.F.slot_list_append PySem.F.type_list_append (WE.var 2 rfl ⟨?_, (WA.cons (WE.tup (WA.cons (WE.var 4 rfl (WA.cons (WE.ix (WE.var 5 rfl (WE.int (IW.tup (xs := [eM ms, .tup (eTs xs)]) (d := eM ms) rfl (WA.nil ⟨by show 2 ≤ sizeLine; exact sz (by decide), (WA.nil (MW.append (xs := fs.map wD) (by simp) (by rw [List.length_map]; exact szl (by omega)) ?_))⟩))))))))))⟩)))
    · exact Or.inl ⟨rfl, fs.map wD, by simp⟩
    have es2 : (S ++ [Ob.lst (fs.map wD), Ob.lst (st'.map prD)] ++ [Ob.lst []]).set S.length (.lst (fs.map wD ++ [.tup [eM nm, eM ms]])) = S ++ [Ob.lst ((fs ++ [(nm, ms)]).map wD), Ob.lst (st'.map prD)] ++ [Ob.lst []] := by simp [wD]
    show WSs _ _ _ _ ((S ++ [Ob.lst (fs.map wD), Ob.lst (st'.map prD)] ++ [Ob.lst []]).set S.length (.lst (fs.map wD ++ [.tup [eM nm, eM ms]]))) _
    rw [es2]
    have b1 : belS (S.length + 3) (S ++ [Ob.lst ((fs ++ [(nm, ms)]).map wD), Ob.lst (st'.map prD)] ++ [Ob.lst []]) := by
      refine belS_append (belS_append (belS_mono (by omega) bS) (belS_cons (bw _ _) (belS_cons (bp _ _) belS_nil))) (belS_cons rfl belS_nil)
    have l1 : (S ++ [Ob.lst ((fs ++ [(nm, ms)]).map wD), Ob.lst (st'.map prD)] ++ [Ob.lst []]).length = S.length + 3 := by simp
    refine WSs.one (WS.expr (WE.bm PySem.F.plainAttrs_list PySem.F.slot_list_extend PySem.F.type_list_extend (WE.var 3 rfl ⟨Or.inl ⟨rfl, st'.map prD, by simp⟩, WA.cons (WE.lcN 6 [("k", 6)] (WI.revR (WE.callB (WA.cons (WE.ix (WE.var 5 rfl (WE.int (IW.tup (xs := [eM ms, .tup (eTs xs)]) (d := .tup (eTs xs)) rfl (WA.nil (CW.lenT (xs := eTs xs) ⟨xs.length, by rw [lx], by omega, ?_⟩))))))) B.len PySem.boot_len) B.reversed B.range)
      (by decide) rfl sc_all_within.nd (blkOk_by (N := N_all_within) (sc := defScope s_all_within) (by decide +kernel)) (fun Y hY => by obtain ⟨_, _, _, _, _, rfl⟩ := hY; exact pg_name sc_all_within.nd rfl (Or.inl rfl)))⟩)))
    refine lc_pure (kidF nm xs) (by rw [l1]; exact b1) (by show (backD xs.length).length ≤ 100000; rw [backD_len]; omega) (fun _ => trivial) ?_ ?_
    · intro i d acc hd
      obtain ⟨hi, rfl⟩ := backD_get.mp hd
      obtain ⟨x, hx⟩ : ∃ x, xs[xs.length - 1 - i]? = some x := ⟨xs[xs.length - 1 - i], List.getElem?_eq_getElem (by omega)⟩
      refine ⟨_, rfl, fun Y hY => ⟨⟨[], by simp⟩, fun _ Z hZ => ?_, fun z => (by cases z)⟩⟩
      obtain ⟨_, _, _, _, _, rfl⟩ := hZ
      refine (WE.tup (WA.cons (WE.bin (WE.var 4 rfl (WE.tup (WA.cons (WE.var 6 rfl (WA.nil ⟨by show 1 ≤ sizeLine; exact sz (by decide), (BW.catT (xs := nm.map D.int) (ys := [.int ((xs.length - 1 - i : Nat) : Int)]) hnn (by rw [List.length_map]; exact sz (by show nm.length + 1 ≤ _; omega)) (WA.cons (WE.ix (WE.ix (WE.var 5 rfl (WE.int (IW.tup (xs := [eM ms, .tup (eTs xs)]) (d := .tup (eTs xs)) rfl (WE.var 6 rfl (IW.tup (xs := eTs xs) (d := eT x) (atI_nat (by rw [eTs_map, List.getElem?_map, hx]; rfl)) (WA.nil ⟨by show 2 ≤ sizeLine; exact sz (by decide), ⟨⟨[], by simp⟩, ?_, ?_⟩⟩))))))))))⟩))))))))
      · have e : D.tup (nm.map D.int ++ [.int ((xs.length - 1 - i : Nat) : Int)]) = eM (nm ++ [((xs.length - 1 - i : Nat) : Int)]) := by simp [eM]
        rw [e]
        show (bel _ (eM _) && (bel _ (eT x) && true)) = true
        rw [bel_eM, bel_eT]; rfl
      · show (xs[((xs.length - 1 - i : Nat) : Int).toNat]?).map _ = _
        rw [Int.toNat_natCast, hx]; rfl
    rw [show (Src.items ⟨backD xs.length, fun _ => True⟩) = backD xs.length from rfl, kids_back]
    have hl3 : st'.length + xs.length ≤ 100 := by
      have := len_sizes (st'.map (·.2))
      have h2 := len_sizes xs
      rw [List.length_map] at this
      omega
    refine WA.nil (MW.extend (xs := st'.map prD) (ys := (kids nm 0 xs).reverse.map prD) (by simp) (by simp) (by simp only [List.length_map, List.length_reverse, kids_len]; exact sz (by omega)) ?_)
    have e2 : (S ++ [Ob.lst ((fs ++ [(nm, ms)]).map wD), Ob.lst (st'.map prD)] ++ [Ob.lst []] ++ [Ob.lst ((kids nm 0 xs).reverse.map prD)]).set (S.length + 1) (.lst (st'.map prD ++ (kids nm 0 xs).reverse.map prD)) = S ++ [Ob.lst ((fs ++ [(nm, ms)]).map wD), Ob.lst ((st' ++ (kids nm 0 xs).reverse).map prD)] ++ [Ob.lst [], Ob.lst ((kids nm 0 xs).reverse.map prD)] := by simp
    show WkE _ _ ((S ++ [Ob.lst ((fs ++ [(nm, ms)]).map wD), Ob.lst (st'.map prD)] ++ [Ob.lst []] ++ [Ob.lst ((kids nm 0 xs).reverse.map prD)]).set (S.length + 1) (.lst (st'.map prD ++ (kids nm 0 xs).reverse.map prD))) _
    rw [e2]
    refine ⟨_, _, CovE.drop (v2 := [some (.int n), some (eT t), some (.loc S.length), some (.loc (S.length + 1)), none, none, none]) ?_ ?_ ?_ ?_, Th.sizes (st'.map (·.2)) + Th.sizes xs, by omega, fs ++ [(nm, ms)], st' ++ (kids nm 0 xs).reverse, none, none, none, rfl, rfl, ?_, ?_, ?_, ?_⟩
    · simp
    · simp only [List.length_append, List.length_cons, List.length_nil]
      exact belS_append (belS_mono (by omega) bS) (belS_cons (bw _ _) (belS_cons (bp _ _) belS_nil))
    · exact lessK (lessK (lessK (lessK (lessS (lessS (lessS lessN))))))
    · exact belY rfl (belY (bel_eT _ t) (belY (bel_loc (by simp)) (belY (bel_loc (by simp)) (belZ (belZ (belZ belN))))))
    · intro p hp
      rcases List.mem_append.mp hp with hp | hp
      · exact hst p (by simp [hp])
      · obtain ⟨k, hk⟩ := List.mem_iff_getElem?.mp (List.mem_reverse.mp hp)
        rw [kids_get] at hk
        cases hx : xs[k]? with
        | none => rw [hx] at hk; cases hk
        | some x =>
          rw [hx] at hk
          cases hk
          have hxm := List.mem_of_getElem? hx
          have h2 : nm.length < 3 := by
            rcases Nat.lt_or_ge nm.length 3 with z | z
            · exact z
            · have e : 3 - nm.length = 0 := by omega
              rw [e] at okp
              have : xs = [] := okp.2
              rw [this] at hxm; cases hxm
          obtain ⟨dd, hdd⟩ : ∃ dd, 3 - nm.length = dd + 1 := ⟨2 - nm.length, by omega⟩
          rw [hdd] at okp
          have ox : OkT dd x := okp.2.2 x hxm
          have el : (nm ++ [((0 + k : Nat) : Int)]).length = nm.length + 1 := by simp
          refine ⟨by show 1 ≤ (nm ++ [((0 + k : Nat) : Int)]).length; omega, by show (nm ++ [((0 + k : Nat) : Int)]).length ≤ 3; omega, ?_⟩
          show OkT (3 - (nm ++ [((0 + k : Nat) : Int)]).length) x
          have e : 3 - (nm ++ [((0 + k : Nat) : Int)]).length = dd := by omega
          rw [e]; exact ox
    · rw [List.map_append, sizes_append, List.map_reverse, sizes_reverse, kids_snd]
    · rw [List.length_append]; show fs.length + 1 + _ ≤ _; omega
    · rw [← hw]
      simp [within_eq nm (.mk ms xs), Th.m, Th.xs]
  · have hnil : st = [] := by
      cases st with
      | nil => rfl
      | cons a b => simp at h
    subst hnil
    have hf : fs = within [n] t := by simpa using hw
    subst hf
    refine WSs.one (WS.ret (WE.var 2 rfl ?_))
    have := CovD.one (S := S) (G := [.lst ((within [n] t).map wD), .lst [], .lst []]) (k := S.length) (o := .lst ((within [n] t).map wD)) bS (Nat.le_refl _) (by simp) (bw _ _)
    exact ⟨_, _, by simpa using this, q⟩
end

section
variable {P : Program} {w : World} {K : PySem.W.Frag} {mg : Str → Option Value} {base : Heap} {f : Addr}
abbrev N_pairs_of : List Str := ["marked", "helpers", "found", "name", "marks", "number", "claims", "room", "fits"]
theorem sc_pairs_of : FnScope N_pairs_of ["marked", "helpers"] (defScope s_pairs_of) := ⟨rfl, rfl, rfl, by decide +kernel, rfl, by decide +kernel, by decide +kernel⟩
theorem bd_pairs_of : BindOk "pairs_of" "pairs_of" s_pairs_of ["marked", "helpers"] := fun _ _ _ _ _ _ us hl => match us, hl with | [_, _], _ => rfl
def sp_pairs_of : SpD := fun ds S Q => ∃ l1 l2 ps hs, ds = [.loc l1, .loc l2] ∧ S[l1]? = some (.lst (ps.map wD)) ∧ S[l2]? = some (.lst (hs.map heD)) ∧ OkW ps ∧ OkHs hs ∧ Q (.loc S.length) (S ++ [.lst (((rowsOf ps hs).map rowD).mergeSort leD)])
abbrev C_pairs_of (P : Program) (w : World) (K : PySem.W.Frag) (mg : Str → Option Value) (base : Heap) : Prop := Cal P w K mg base "pairs_of" 2 ["marked", "helpers"] sp_pairs_of
theorem c_pairs_of (B : Bt mg) (G_fit_of : C_fit_of P w K mg base) (df : Df K "pairs_of" "pairs_of" s_pairs_of f) (hm : mg "pairs_of" = some (.ref f)) : C_pairs_of P w K mg base := by
  refine calD df hm sc_pairs_of bd_pairs_of (fun ds S Q ⟨l1, l2, ps, hs, e, _⟩ => by rw [e]; rfl) ?_
  rintro cdv A outer s H E ds S Q hr bS bD ⟨l1, l2, ps, hs, rfl, hl1, hl2, op, oh, q⟩
  have lt1 := (List.getElem?_eq_some_iff.mp hl1).1
  have lt2 := (List.getElem?_eq_some_iff.mp hl2).1
  have hbig : ps.length * hs.length ≤ 90000 := Nat.le_trans (Nat.mul_le_mul op.1 oh.1) (by decide)
  have br : ∀ (k : Nat) (rs : List Row), bel.belAll k (rs.map rowD) = true := fun k rs => belAll_map (fun r => by show (true && (true && (true && (bel _ (eM r.2.2.2) && true)))) = true; rw [bel_eM]; rfl) _
  have pre : ∀ i, (rowsOf (ps.take i) hs).length ≤ 90000 := fun i => Nat.le_trans (rows_len _ _) (Nat.le_trans (Nat.mul_le_mul_right _ (by rw [List.length_take]; exact Nat.min_le_right _ _)) hbig)
  refine WSs.cons (WS.set 2 (WE.lst (WA.nil ⟨by show 0 ≤ sizeLine; exact sz (by decide), ?_⟩)) sc_pairs_of.nd)
  refine WSs.cons (WS.for (WI.list (WE.var 0 rfl ⟨l1, ps.map wD, rfl, get_app hl1, ?_⟩)) PassesOwn.never rfl)
  refine ⟨fun i v2 S2 => S2 = S ++ [.lst ((rowsOf (ps.take i) hs).map rowD)] ∧ ∃ z3 z4 z5 z6 z7 z8, v2 = [some (.loc l1), some (.loc l2), some (.loc S.length), z3, z4, z5, z6, z7, z8], ⟨rfl, none, none, none, none, none, none, rfl⟩, fun _ _ _ _ h => by rw [h.1]; exact get_app hl1, ?_, ?_⟩
  · rintro i d v2 S2 hd ⟨e0, z3, z4, z5, z6, z7, z8, rfl⟩
    subst S2
    have hd : (ps.map wD)[i]? = some d := hd
    obtain ⟨p, hp, rfl⟩ : ∃ p, ps[i]? = some p ∧ d = wD p := by
      rw [List.getElem?_map] at hd
      cases e : ps[i]? with
      | none => rw [e] at hd; cases hd
      | some c => rw [e] at hd; exact ⟨c, rfl, (Option.some.inj hd).symm⟩
    obtain ⟨_, o1, o2⟩ := op.2 p (List.mem_of_getElem? hp)
    have tk : rowsOf (ps.take (i + 1)) hs = rowsOf (ps.take i) hs ++ hs.filterMap (rowOf p) := by
      have : ps.take (i + 1) = ps.take i ++ [p] := by rw [List.take_add_one, hp]; rfl
      rw [this, rows_snoc]
    have hpr := pre i
    generalize rowsOf (ps.take i) hs = R0 at *
    refine WG.tup rfl (WGs.cons (WG.name 3 (WGs.cons (WG.name 4 (WGs.nil ?_) sc_pairs_of.nd)) sc_pairs_of.nd)) rfl
    refine WSs.one (WS.for (WI.list (WE.var 1 rfl ⟨l2, hs.map heD, rfl, get_app hl2, ?_⟩)) PassesOwn.never rfl)
    refine ⟨fun j v2 S2 => S2 = S ++ [.lst ((R0 ++ (hs.take j).filterMap (rowOf p)).map rowD)] ∧ ∃ z5 z6 z7 z8, v2 = [some (.loc l1), some (.loc l2), some (.loc S.length), some (eM p.1), some (eM p.2), z5, z6, z7, z8], ⟨by simp, z5, z6, z7, z8, rfl⟩, fun _ _ _ _ h => by rw [h.1]; exact get_app hl2, ?_, ?_⟩
    · rintro j d v2 S2 hd ⟨e0, z5, z6, z7, z8, rfl⟩
      subst S2
      have hd : (hs.map heD)[j]? = some d := hd
      obtain ⟨h, hh, rfl⟩ : ∃ h, hs[j]? = some h ∧ d = heD h := by
        rw [List.getElem?_map] at hd
        cases e : hs[j]? with
        | none => rw [e] at hd; cases hd
        | some c => rw [e] at hd; exact ⟨c, rfl, (Option.some.inj hd).symm⟩
      obtain ⟨q1, _, _⟩ := oh.2.2 h (List.mem_of_getElem? hh)
      have tk2 : (hs.take (j + 1)).filterMap (rowOf p) = (hs.take j).filterMap (rowOf p) ++ (rowOf p h).toList := by
        have : hs.take (j + 1) = hs.take j ++ [h] := by rw [List.take_add_one, hh]; rfl
        rw [this, List.filterMap_append]
        cases e : rowOf p h <;> simp [List.filterMap, e]
      have hlen : ((hs.take j).filterMap (rowOf p)).length ≤ 100 := Nat.le_trans (List.length_filterMap_le _ _) (by rw [List.length_take]; have := oh.1; omega)
      generalize (hs.take j).filterMap (rowOf p) = R1 at *
      refine WG.tup rfl (WGs.cons (WG.name 5 (WGs.cons (WG.name 6 (WGs.cons (WG.name 7 (WGs.nil ?_) sc_pairs_of.nd)) sc_pairs_of.nd)) sc_pairs_of.nd)) rfl
      refine WSs.cons (WS.set 8 (WE.cal G_fit_of (hr.mono (by first|decide|omega)) (WA.cons (WE.var 6 rfl (WA.cons (WE.var 4 rfl (WA.nil ⟨h.2.1, p.2, rfl, by have := o2.1; omega, by have := q1.1; omega, fun c hc => by rw [(q1.2 c hc).1.1, o2.1], ?_⟩)))))) sc_pairs_of.nd)
      have hro : rowOf p h = (fitOf h.2.1 p.2).map fun f => ((p.1.length : Int), -f, h.1, p.1) := rfl
      cases hf : fitOf h.2.1 p.2 with
      | none =>
        rw [hf] at hro
        refine WSs.one (WS.ite (WT.cmp (WE.var 8 rfl (WE.non (BW.notN _ rfl ⟨_, rfl, ⟨fun z => (by cases z), fun _ => WSs.nil ?_⟩⟩)))))
        refine WkE.same ⟨by rw [tk2, hro]; simp, _, _, _, _, rfl⟩
      | some fv =>
        rw [hf] at hro
        refine WSs.one (WS.ite (WT.cmp (WE.var 8 rfl (WE.non (BW.notN _ rfl ⟨_, rfl, ⟨fun _ => ?_, fun z => (by cases z)⟩⟩)))))
        refine WSs.one (WS.expr (WE.bm PySem.F.plainAttrs_list PySem.F.slot_list_append PySem.F.type_list_append (WE.var 2 rfl ⟨?_, (WA.cons (WE.tup (WA.cons (WE.callB (WA.cons (WE.var 3 rfl (WA.nil (CW.lenT (xs := p.1.map D.int) (WA.cons (WE.un (WE.var 8 rfl (UW.neg (WA.cons (WE.var 5 rfl (WA.cons (WE.var 3 rfl (WA.nil ⟨by show 4 ≤ sizeLine; exact sz (by decide), (WA.nil (MW.append (xs := (R0 ++ R1).map rowD) (by simp) (by rw [List.length_map, List.length_append]; exact szl (by omega)) ?_))⟩))))))))))))) B.len PySem.boot_len))))⟩)))
        · exact Or.inl ⟨rfl, (R0 ++ R1).map rowD, by simp⟩
        · refine WkE.same ⟨?_, _, _, _, _, rfl⟩
          rw [tk2, hro]
          simp [rowD, eM]
    · rintro v2 S2 ⟨rfl, z5, z6, z7, z8, rfl⟩
      have e1 : hs.take (hs.map heD).length = hs := by rw [List.length_map, List.take_length]
      rw [show (Src.items ⟨hs.map heD, fun S2 => S2[l2]? = some (.lst (hs.map heD))⟩) = hs.map heD from rfl, e1]
      exact WkE.same ⟨by rw [tk], _, _, _, _, _, _, rfl⟩
  · rintro v2 S2 ⟨rfl, z3, z4, z5, z6, z7, z8, rfl⟩
    have e1 : ps.take (ps.map wD).length = ps := by rw [List.length_map, List.take_length]
    rw [show (Src.items ⟨ps.map wD, fun S2 => S2[l1]? = some (.lst (ps.map wD))⟩) = ps.map wD from rfl, e1]
    refine WSs.one (WS.ret (WE.callB (WA.cons (WE.var 2 rfl (WA.nil (CW.sortL (xs := (rowsOf ps hs).map rowD) (by simp) (fun x hx => ?_) (rows_alike _) (rows_sortable _) hr.units ?_)))) B.sorted boot_sorted))
    · obtain ⟨r, hr', rfl⟩ := List.mem_map.mp hx
      exact pu_row (by have := rows_name op hr'; omega)
    · have hb : bel.belAll S.length (((rowsOf ps hs).map rowD).mergeSort leD) = true := by
        have e : ∀ (n : Nat) (l : List D), bel.belAll n l = true ↔ ∀ x ∈ l, bel n x = true := fun n l => by
          induction l with
          | nil => exact ⟨fun _ x h => (by cases h), fun _ => rfl⟩
          | cons a l ih =>
            show (bel n a && bel.belAll n l) = true ↔ _
            rw [Bool.and_eq_true, ih]
            simp
        rw [e]
        intro x hx
        exact (e _ _).mp (br S.length (rowsOf ps hs)) x (List.mem_mergeSort.mp hx)
      have := CovD.one (S := S) (G := [.lst ((rowsOf ps hs).map rowD), .lst (((rowsOf ps hs).map rowD).mergeSort leD)]) (k := S.length + 1) (o := .lst (((rowsOf ps hs).map rowD).mergeSort leD)) bS (Nat.le_succ _) (by simp) hb
      have el : (S ++ [Ob.lst ((rowsOf ps hs).map rowD)]).length = S.length + 1 := by simp
      rw [el]
      exact ⟨_, _, by simpa using this, q⟩
end

section
variable {P : Program} {w : World} {K : PySem.W.Frag} {mg : Str → Option Value} {base : Heap} {f : Addr}
abbrev N_had_of : List Str := ["marked", "helpers", "rooms", "found", "length", "fits", "number", "name", "claims", "room"]
theorem sc_had_of : FnScope N_had_of ["marked", "helpers"] (defScope s_had_of) := ⟨rfl, rfl, rfl, by decide +kernel, rfl, by decide +kernel, by decide +kernel⟩
theorem bd_had_of : BindOk "had_of" "had_of" s_had_of ["marked", "helpers"] := fun _ _ _ _ _ _ us hl => match us, hl with | [_, _], _ => rfl
def sp_had_of : SpD := fun ds S Q => ∃ l1 l2 ps hs, ds = [.loc l1, .loc l2] ∧ S[l1]? = some (.lst (ps.map wD)) ∧ S[l2]? = some (.lst (hs.map heD)) ∧ OkW ps ∧ OkHs hs ∧ Q (.loc S.length) (S ++ [dFd (hadOf ps hs)])
abbrev C_had_of (P : Program) (w : World) (K : PySem.W.Frag) (mg : Str → Option Value) (base : Heap) : Prop := Cal P w K mg base "had_of" 3 ["marked", "helpers"] sp_had_of
theorem c_had_of (B : Bt mg) (G_pairs_of : C_pairs_of P w K mg base) (df : Df K "had_of" "had_of" s_had_of f) (hm : mg "had_of" = some (.ref f)) : C_had_of P w K mg base := by
  refine calD df hm sc_had_of bd_had_of (fun ds S Q ⟨l1, l2, ps, hs, e, _⟩ => by rw [e]; rfl) ?_
  rintro cdv A outer s H E ds S Q hr bS bD ⟨l1, l2, ps, hs, rfl, hl1, hl2, op, oh, q⟩
  have lt1 := (List.getElem?_eq_some_iff.mp hl1).1
  have lt2 := (List.getElem?_eq_some_iff.mp hl2).1
  refine WSs.cons (WS.set 2 (WE.callT (WA.cons (WE.lcT [6, 8, 9] [("number", 6), ("claims", 8), ("room", 9)] (WI.list (WE.var 1 rfl ⟨l2, hs.map heD, rfl, hl2, ?_⟩)) (by decide) rfl sc_had_of.nd (blkOk_by (N := N_had_of) (sc := defScope s_had_of) (by decide +kernel))
    (fun Y hY => by obtain ⟨_, _, _, _, _, rfl⟩ := hY; exact pg_tup rfl (pgs_cons (pg_name sc_had_of.nd rfl (Or.inl rfl)) (pgs_cons (pg_name sc_had_of.nd rfl (Or.inl rfl)) (pgs_cons (pg_name sc_had_of.nd rfl (Or.inl rfl)) pgs_nil rfl) rfl) rfl) rfl rfl))) B.dict boot_dict) sc_had_of.nd)
  refine lc_pure (fun d => match d with | .tup [n, _, r] => some (.tup [n, r]) | _ => none) bS (by show (hs.map heD).length ≤ 100000; rw [List.length_map]; have := oh.1; omega) (fun acc => get_app hl2) ?_ ?_
  · intro i d acc hd
    have hd : (hs.map heD)[i]? = some d := hd
    obtain ⟨x, hx, rfl⟩ := List.mem_map.mp (List.mem_of_getElem? hd)
    refine ⟨_, rfl, fun Y hY => ⟨⟨[], by simp⟩, fun _ Z hZ => ?_, fun z => (by cases z)⟩⟩
    obtain ⟨_, _, _, _, _, rfl⟩ := hZ
    exact (WE.tup (WA.cons (WE.var 6 rfl (WA.cons (WE.var 9 rfl (WA.nil ⟨by show 2 ≤ sizeLine; exact sz (by decide), ⟨⟨[], by simp⟩, rfl, rfl⟩⟩))))))
  have e1 : (hs.map heD).filterMap (fun d => match d with | .tup [n, _, r] => some (D.tup [n, r]) | _ => none) = (mapT kI D.int (hs.map fun h => (h.1, h.2.2))).map fun kv => D.tup [kdD kv.1, kv.2] := by
    unfold mapT
    rw [List.filterMap_map, List.map_map, List.map_map]
    exact List.filterMap_eq_map ▸ rfl
  rw [show (Src.items ⟨hs.map heD, fun S2 => S2[l2]? = some (.lst (hs.map heD))⟩) = hs.map heD from rfl, e1]
  refine WA.nil (CW.dctL (kvs := mapT kI D.int (hs.map fun h => (h.1, h.2.2))) (by simp) rfl ?_)
  have e2 : putAllT [] (mapT kI D.int (hs.map fun h => (h.1, h.2.2))) = mapT kI D.int (roomsOf hs) := putAllT_mapT kI_inj _ []
  rw [e2]
  refine WSs.cons (WS.set 3 (WE.dT0 ?_) sc_had_of.nd)
  obtain ⟨L0, hL0, bL0⟩ : ∃ L0, L0 = Ob.lst ((mapT kI D.int (hs.map fun h => (h.1, h.2.2))).map fun kv => D.tup [kdD kv.1, kv.2]) ∧ ∀ n, belO n L0 = true := ⟨_, rfl, fun n => by
    show bel.belAll n (List.map _ (mapT kI D.int _)) = true
    unfold mapT
    rw [List.map_map, List.map_map]
    exact belAll_map (fun h => rfl) _⟩
  rw [← hL0]
  have ePre : S ++ [L0] ++ [.dK (mapT kI D.int (roomsOf hs))] ++ [.dT []] = S ++ [L0, dRm (roomsOf hs), dFd []] := by simp [dRm, dFd, mapT]
  have eP : (S ++ [L0] ++ [Ob.dK (mapT kI D.int (roomsOf hs))]).length = S.length + 2 := by simp
  have eP1 : (S ++ [L0]).length = S.length + 1 := by simp
  rw [ePre, eP, eP1]
  have gl1 : ∀ G, (S ++ G)[l1]? = some (.lst (ps.map wD)) := fun G => get_app hl1
  have gl2 : ∀ G, (S ++ G)[l2]? = some (.lst (hs.map heD)) := fun G => get_app hl2
  refine WSs.cons (WS.for (WI.list (WE.cal G_pairs_of (hr.mono (by first|decide|omega)) (WA.cons (WE.var 0 rfl (WA.cons (WE.var 1 rfl (WA.nil ⟨l1, l2, ps, hs, rfl, gl1 _, gl2 _, op, oh, ⟨_, (sortR ps hs).map rowD, rfl, by rw [sortR_map]; simp, ?_⟩⟩))))))) PassesOwn.never rfl)
  rw [sortR_map]
  have hrows : ∀ r ∈ sortR ps hs, ∃ p ∈ ps, ∃ x ∈ hs, ∃ v, fitOf x.2.1 p.2 = some v ∧ r = ((p.1.length : Int), -v, x.1, p.1) := fun r hr' => rows_of (List.mem_mergeSort.mp hr')
  have hrl : (sortR ps hs).length ≤ 90000 := by
    unfold sortR
    rw [List.length_mergeSort]
    exact Nat.le_trans (rows_len _ _) (Nat.le_trans (Nat.mul_le_mul op.1 oh.1) (by decide))
  have hhad : hadOf ps hs = ((sortR ps hs).foldl hadStep (roomsOf hs, [])).2 := rfl
  generalize sortR ps hs = rows at *
  have eq1 : S ++ [L0, dRm (roomsOf hs), dFd []] ++ [Ob.lst (rows.map rowD)] = S ++ [L0, dRm (roomsOf hs), dFd [], .lst (rows.map rowD)] := by simp
  refine ⟨fun i v2 S2 => S2 = S ++ [L0, dRm ((rows.take i).foldl hadStep (roomsOf hs, [])).1, dFd ((rows.take i).foldl hadStep (roomsOf hs, [])).2, .lst (rows.map rowD)] ∧ ∃ z4 z5 z6 z7 z8 z9, v2 = [some (.loc l1), some (.loc l2), some (.loc (S.length + 1)), some (.loc (S.length + 2)), z4, z5, z6, z7, z8, z9], ⟨eq1, none, none, none, none, none, none, rfl⟩, fun _ _ _ _ h => by rw [h.1]; simp, ?_, ?_⟩
  · rintro i d v2 S2 hd ⟨e0, z4, z5, z6, z7, z8, z9, rfl⟩
    subst S2
    have hd : (rows.map rowD)[i]? = some d := hd
    obtain ⟨r, hr1, rfl⟩ : ∃ r, rows[i]? = some r ∧ d = rowD r := by
      rw [List.getElem?_map] at hd
      cases e : rows[i]? with
      | none => rw [e] at hd; cases hd
      | some c => rw [e] at hd; exact ⟨c, rfl, (Option.some.inj hd).symm⟩
    have tk : (rows.take (i + 1)).foldl hadStep (roomsOf hs, []) = hadStep ((rows.take i).foldl hadStep (roomsOf hs, [])) r := by
      have : rows.take (i + 1) = rows.take i ++ [r] := by rw [List.take_add_one, hr1]; rfl
      rw [this, List.foldl_append]; rfl
    obtain ⟨p, hp, x, hx, v, hv, er⟩ := hrows r (List.mem_of_getElem? hr1)
    obtain ⟨o1, o2, _⟩ := op.2 p hp
    have hrm : (getT ((rows.take i).foldl hadStep (roomsOf hs, [])).1 r.2.2.1).isSome = true := fold_rooms _ _ (by rw [er]; exact rooms_some hx)
    have hrl1 : ((rows.take i).foldl hadStep (roomsOf hs, [])).1.length ≤ 100 := by
      rw [fold_rlen _ _ fun y hy => by obtain ⟨_, _, x', hx', _, _, er'⟩ := hrows y (List.mem_of_mem_take hy); rw [er']; exact rooms_some hx']
      exact Nat.le_trans (rooms_len hs) oh.1
    have hfl : ((rows.take i).foldl hadStep (roomsOf hs, [])).2.length ≤ 90000 := by
      have := fold_len (rows.take i) (roomsOf hs, [])
      rw [List.length_take] at this
      have e : (roomsOf hs, ([] : List (List Int × Int))).2.length = 0 := rfl
      omega
    generalize (rows.take i).foldl hadStep (roomsOf hs, []) = st at *
    obtain ⟨rm, fd⟩ := st
    subst er
    refine WG.tup rfl (WGs.cons (WG.name 4 (WGs.cons (WG.name 5 (WGs.cons (WG.name 6 (WGs.cons (WG.name 7 (WGs.nil ?_) sc_had_of.nd)) sc_had_of.nd)) sc_had_of.nd)) sc_had_of.nd)) rfl
    have hR : (S ++ [L0, dRm rm, dFd fd, .lst (rows.map rowD)])[S.length + 1]? = some (.dK (mapT kI D.int rm)) := by simp [dRm]
    have hF : (S ++ [L0, dRm rm, dFd fd, .lst (rows.map rowD)])[S.length + 2]? = some (.dT (mapT kN D.int fd)) := by simp [dFd]
    have gF : ∀ nm, DG (S ++ [L0, dRm rm, dFd fd, .lst (rows.map rowD)]) (.loc (S.length + 2)) (eM nm) ((getT fd nm).map D.int) := fun nm => by
      have := DG.t (k := kN nm) hF
      rw [getT_mapT kN_inj] at this
      rw [eM_key]; exact this
    have gR : DG (S ++ [L0, dRm rm, dFd fd, .lst (rows.map rowD)]) (.loc (S.length + 1)) (.int x.1) ((getT rm x.1).map D.int) := by
      have := DG.k (k := kI x.1) hR
      rw [getT_mapT kI_inj] at this
      exact this
    obtain ⟨rv, hrv⟩ : ∃ rv, getT rm x.1 = some rv := Option.isSome_iff_exists.mp hrm
    have stay : ∀ z4 z5 z6 z7, hadStep (rm, fd) ((p.1.length : Int), -v, x.1, p.1) = (rm, fd) → WkE (S ++ [L0, dRm (roomsOf hs), dFd []] ++ [Ob.lst (rows.map rowD)]).length [some (.loc l1), some (.loc l2), some (.loc (S.length + 1)), some (.loc (S.length + 2)), z4, z5, z6, z7, z8, z9] (S ++ [L0, dRm rm, dFd fd, .lst (rows.map rowD)]) fun v4 S4 => S4 = S ++ [L0, dRm ((rows.take (i + 1)).foldl hadStep (roomsOf hs, [])).1, dFd ((rows.take (i + 1)).foldl hadStep (roomsOf hs, [])).2, .lst (rows.map rowD)] ∧ ∃ z4 z5 z6 z7 z8 z9, v4 = [some (.loc l1), some (.loc l2), some (.loc (S.length + 1)), some (.loc (S.length + 2)), z4, z5, z6, z7, z8, z9] := fun z4 z5 z6 z7 e => WkE.same ⟨by rw [tk, e], _, _, _, _, _, _, rfl⟩
    have nstep : ¬ (getT fd p.1 = none ∧ 0 < rv ∧ (((p.1.length : Int)) = 1 ∨ (getT fd p.1.dropLast).isSome = true)) → hadStep (rm, fd) ((p.1.length : Int), -v, x.1, p.1) = (rm, fd) := fun h => by
      unfold hadStep
      rw [if_neg]
      intro z
      rw [show getT (rm, fd).1 ((p.1.length : Int), -v, x.1, p.1).2.2.1 = some rv from hrv] at z
      exact h z
    refine WSs.one (WS.ite (WT.bool (WP.and (WT.cmp (WE.var 7 rfl (WE.var 3 rfl (BW.notInD (gF _) hr.units ⟨_, rfl, ⟨fun h1 => ?_, fun h1 => iF (WSs.nil ?_)⟩⟩)))))))
    · have g1 : getT fd p.1 = none := by
        cases e : getT fd p.1 with
        | none => rfl
        | some a => rw [e] at h1; cases h1
      refine WP.and (WT.cmp (WE.ix (WE.var 2 rfl (WE.var 6 rfl (IW.dct gR (by rw [hrv]; rfl) hr.units (WE.int (BW.gt ⟨_, rfl, ⟨fun h2 => ?_, fun h2 => iF (WSs.nil ?_)⟩⟩)))))))
      · have g2 : 0 < rv := of_decide_eq_true h2
        have ex : D.tup ((p.1.map D.int).take (HT.sIx (p.1.map D.int).length (p.1.map D.int).length (some (-1)))) = eM p.1.dropLast := by
          have e2 : HT.sIx (p.1.map D.int).length (p.1.map D.int).length (some (-1)) = p.1.length - 1 := by
            rw [sIx_init (by rw [List.length_map]; exact o1), List.length_map]
          rw [e2, ← List.map_take, ← List.dropLast_eq_take]; rfl
        refine WP.and1 (WT.bool (WP.or (WT.cmp (WE.var 4 rfl (WE.int (BW.eqI ⟨_, rfl, ⟨fun h3 => iT ?_, fun h3 => ?_⟩⟩))))))
        · have g3 : ((p.1.length : Int) = 1 ∨ (getT fd p.1.dropLast).isSome = true) := .inl (of_decide_eq_true h3)
          have hstep : hadStep (rm, fd) ((p.1.length : Int), -v, x.1, p.1) = (putT rm x.1 (rv - 1), putT fd p.1 x.1) := by
            unfold hadStep
            have hr' : getT (rm, fd).1 ((p.1.length : Int), -v, x.1, p.1).2.2.1 = some rv := hrv
            rw [hr', if_pos ⟨g1, g2, g3⟩]; rfl
          have es1 : (S ++ [L0, dRm rm, dFd fd, .lst (rows.map rowD)]).set (S.length + 2) (.dT (mapT kN D.int (putT fd p.1 x.1))) = S ++ [L0, dRm rm, dFd (putT fd p.1 x.1), .lst (rows.map rowD)] := by simp [dFd]
          have dp1 : DP (S ++ [L0, dRm rm, dFd fd, .lst (rows.map rowD)]) (.loc (S.length + 2)) (eM p.1) (.int x.1) (S ++ [L0, dRm rm, dFd (putT fd p.1 x.1), .lst (rows.map rowD)]) := by
            have := DP.t (d := .int x.1) (k := kN p.1) hF (by unfold mapT; rw [List.length_map]; exact szl (by have z : fd.length ≤ 90000 := hfl; omega))
            rw [putT_mapT kN_inj, es1] at this
            rw [eM_key]; exact this
          have hR2 : (S ++ [L0, dRm rm, dFd (putT fd p.1 x.1), .lst (rows.map rowD)])[S.length + 1]? = some (.dK (mapT kI D.int rm)) := by simp [dRm]
          have gR2 : DG (S ++ [L0, dRm rm, dFd (putT fd p.1 x.1), .lst (rows.map rowD)]) (.loc (S.length + 1)) (.int x.1) ((getT rm x.1).map D.int) := by
            have := DG.k (k := kI x.1) hR2
            rw [getT_mapT kI_inj] at this
            exact this
          have es2 : (S ++ [L0, dRm rm, dFd (putT fd p.1 x.1), .lst (rows.map rowD)]).set (S.length + 1) (.dK (mapT kI D.int (putT rm x.1 (rv - 1)))) = S ++ [L0, dRm (putT rm x.1 (rv - 1)), dFd (putT fd p.1 x.1), .lst (rows.map rowD)] := by simp [dRm]
          have dp2 : DP (S ++ [L0, dRm rm, dFd (putT fd p.1 x.1), .lst (rows.map rowD)]) (.loc (S.length + 1)) (.int x.1) (.int (rv - 1)) (S ++ [L0, dRm (putT rm x.1 (rv - 1)), dFd (putT fd p.1 x.1), .lst (rows.map rowD)]) := by
            have := DP.k (d := .int (rv - 1)) (k := kI x.1) hR2 (by unfold mapT; rw [List.length_map]; exact szl (by have z : rm.length ≤ 100 := hrl1; omega))
            rw [putT_mapT kI_inj, es2] at this
            exact this
          refine WSs.cons (WS.dput (WE.var 6 rfl (WE.var 3 rfl (WE.var 7 rfl ⟨_, dp1, ?_⟩))) hr.units)
          refine WSs.one (WS.dput (WE.bin (WE.ix (WE.var 2 rfl (WE.var 6 rfl (IW.dct gR2 (by rw [hrv]; rfl) hr.units (WE.int (BW.sub (WE.var 2 rfl (WE.var 6 rfl ⟨_, dp2, ?_⟩))))))))) hr.units)
          exact WkE.same ⟨by rw [tk, hstep], _, _, _, _, _, _, rfl⟩
        · have g0 : ¬ (p.1.length : Int) = 1 := of_decide_eq_false h3
          refine WP.or1 (WT.cmp (WE.slT (WE.var 7 rfl (WE.un (WE.int (UW.neg ⟨p.1.map D.int, -1, rfl, rfl, ?_, WE.var 3 rfl ?_⟩))))))
          · rw [sIx_init (by rw [List.length_map]; exact o1), List.length_map]; omega
          refine BW.inD (o := (getT fd p.1.dropLast).map D.int) (by rw [ex]; exact gF _) hr.units ⟨_, rfl, fun h4 => ?_, fun h4 => WSs.nil ?_⟩
          · have g3 : ((p.1.length : Int) = 1 ∨ (getT fd p.1.dropLast).isSome = true) := .inr (by simpa using h4)
            have hstep : hadStep (rm, fd) ((p.1.length : Int), -v, x.1, p.1) = (putT rm x.1 (rv - 1), putT fd p.1 x.1) := by
              unfold hadStep
              have hr' : getT (rm, fd).1 ((p.1.length : Int), -v, x.1, p.1).2.2.1 = some rv := hrv
              rw [hr', if_pos ⟨g1, g2, g3⟩]; rfl
            have es1 : (S ++ [L0, dRm rm, dFd fd, .lst (rows.map rowD)]).set (S.length + 2) (.dT (mapT kN D.int (putT fd p.1 x.1))) = S ++ [L0, dRm rm, dFd (putT fd p.1 x.1), .lst (rows.map rowD)] := by simp [dFd]
            have dp1 : DP (S ++ [L0, dRm rm, dFd fd, .lst (rows.map rowD)]) (.loc (S.length + 2)) (eM p.1) (.int x.1) (S ++ [L0, dRm rm, dFd (putT fd p.1 x.1), .lst (rows.map rowD)]) := by
              have := DP.t (d := .int x.1) (k := kN p.1) hF (by unfold mapT; rw [List.length_map]; exact szl (by have z : fd.length ≤ 90000 := hfl; omega))
              rw [putT_mapT kN_inj, es1] at this
              rw [eM_key]; exact this
            have hR2 : (S ++ [L0, dRm rm, dFd (putT fd p.1 x.1), .lst (rows.map rowD)])[S.length + 1]? = some (.dK (mapT kI D.int rm)) := by simp [dRm]
            have gR2 : DG (S ++ [L0, dRm rm, dFd (putT fd p.1 x.1), .lst (rows.map rowD)]) (.loc (S.length + 1)) (.int x.1) ((getT rm x.1).map D.int) := by
              have := DG.k (k := kI x.1) hR2
              rw [getT_mapT kI_inj] at this
              exact this
            have es2 : (S ++ [L0, dRm rm, dFd (putT fd p.1 x.1), .lst (rows.map rowD)]).set (S.length + 1) (.dK (mapT kI D.int (putT rm x.1 (rv - 1)))) = S ++ [L0, dRm (putT rm x.1 (rv - 1)), dFd (putT fd p.1 x.1), .lst (rows.map rowD)] := by simp [dRm]
            have dp2 : DP (S ++ [L0, dRm rm, dFd (putT fd p.1 x.1), .lst (rows.map rowD)]) (.loc (S.length + 1)) (.int x.1) (.int (rv - 1)) (S ++ [L0, dRm (putT rm x.1 (rv - 1)), dFd (putT fd p.1 x.1), .lst (rows.map rowD)]) := by
              have := DP.k (d := .int (rv - 1)) (k := kI x.1) hR2 (by unfold mapT; rw [List.length_map]; exact szl (by have z : rm.length ≤ 100 := hrl1; omega))
              rw [putT_mapT kI_inj, es2] at this
              exact this
            refine WSs.cons (WS.dput (WE.var 6 rfl (WE.var 3 rfl (WE.var 7 rfl ⟨_, dp1, ?_⟩))) hr.units)
            refine WSs.one (WS.dput (WE.bin (WE.ix (WE.var 2 rfl (WE.var 6 rfl (IW.dct gR2 (by rw [hrv]; rfl) hr.units (WE.int (BW.sub (WE.var 2 rfl (WE.var 6 rfl ⟨_, dp2, ?_⟩))))))))) hr.units)
            exact WkE.same ⟨by rw [tk, hstep], _, _, _, _, _, _, rfl⟩
          · refine stay _ _ _ _ (nstep fun z => ?_)
            rcases z.2.2 with z | z
            · exact g0 z
            · simp [z] at h4
      · have g2 : ¬ 0 < rv := of_decide_eq_false h2
        exact stay _ _ _ _ (nstep fun z => g2 z.2.1)
    · refine stay _ _ _ _ (nstep fun z => ?_)
      rw [z.1] at h1
      cases h1
  · rintro v2 S2 ⟨rfl, z4, z5, z6, z7, z8, z9, rfl⟩
    have e1 : rows.take (rows.map rowD).length = rows := by rw [List.length_map, List.take_length]
    rw [show (Src.items ⟨rows.map rowD, _⟩) = rows.map rowD from rfl, e1, ← hhad]
    refine WSs.one (WS.ret (WE.var 3 rfl ?_))
    have bd : ∀ (k : Nat) (fd : List (List Int × Int)), belO k (dFd fd) = true := fun k fd => belK_int _
    have := CovD.one (S := S) (G := [L0, dRm (rows.foldl hadStep (roomsOf hs, [])).1, dFd (hadOf ps hs), .lst (rows.map rowD)]) (k := S.length + 2) (o := dFd (hadOf ps hs)) bS (by omega) (by simp) (bd _ _)
    exact ⟨_, _, this, q⟩
end

structure DeskTxt (K : PySem.W.Frag) (CD CH : Addr) : Prop where
  cd : Cls K CD
  ch : Cls K CH
  n_plugged : NoAttr K CD "plugged"
  n_marks : NoAttr K CD "marks"
  n_who : NoAttr K CD "who"
  n_states : NoAttr K CD "states"
  n_fresh : NoAttr K CD "fresh"
  n_log : NoAttr K CD "log"
  n_claims : NoAttr K CH "claims"
  n_room : NoAttr K CH "room"
  n_left : NoAttr K CH "left"
theorem bel_names (n : Nat) (l : List Nm) : bel.belAll n (l.map eM) = true := belAll_map (fun m => bel_eM m) l
theorem last_eq (nm : Nm) (h : 1 ≤ nm.length) : D.tup ((nm.map D.int).take (HT.sIx (nm.map D.int).length (nm.map D.int).length (some (-1)))) = eM nm.dropLast := by
  rw [sIx_init (by rw [List.length_map]; exact h)]
  show _ = D.tup (nm.dropLast.map D.int)
  rw [List.length_map, ← List.map_take, List.dropLast_eq_take]
theorem fm_filter {α : Type} (e : α → D) (p : α → Bool) (l : List α) : (l.filterMap fun a => if p a then some (e a) else none) = (l.filter p).map e := by
  induction l with
  | nil => rfl
  | cons a l ih => by_cases h : p a = true <;> simp [h, ih]
theorem slT_ne {nm : Nm} (h : 1 ≤ nm.length) : ¬ HT.sIx (nm.map D.int).length (nm.map D.int).length (some (-1)) = (nm.map D.int).length := by
  rw [sIx_init (by rw [List.length_map]; exact h), List.length_map]; omega
theorem pu_nm {nm : Nm} (h : nm.length ≤ 3) : pu 60 (eM nm) = true := pu_eM (n := 59) (by omega)
theorem eM_inj {a b : Nm} (h : eM a = eM b) : a = b := by
  have h : a.map D.int = b.map D.int := by injection h
  exact (List.map_inj_right fun x y e => by injection e).mp h
section
variable {P : Program} {w : World} {K : PySem.W.Frag} {mg : Str → Option Value} {base : Heap} {f : Addr} {CD CH : Addr}
abbrev N_Desk_inner : List Str := ["self", "name", "one"]
theorem sc_Desk_inner : FnScope N_Desk_inner ["self", "name"] (defScope s_Desk_inner) := ⟨rfl, rfl, rfl, by decide +kernel, rfl, by decide +kernel, by decide +kernel⟩
theorem bd_Desk_inner : BindOk "inner" "Desk.inner" s_Desk_inner ["self", "name"] := fun _ _ _ _ _ _ us hl => match us, hl with | [_, _], _ => rfl
def sp_Desk_inner (CD CH : Addr) : SpD := fun ds S Q => ∃ a dk nm, ds = [.loc a.l, eM nm] ∧ DeskAt CD CH S a dk ∧ KN dk ∧ nm.length ≤ 3 ∧ Q (.loc S.length) (S ++ [.lst ((dk.inner nm).map eM)])
abbrev C_Desk_inner (P : Program) (w : World) (K : PySem.W.Frag) (mg : Str → Option Value) (base : Heap) (CD CH : Addr) : Prop := MCal P w K mg base CD "inner" 1 ["self", "name"] (sp_Desk_inner CD CH)
theorem keys_map (st : Sts) : (mapT kN saD st).map (·.1) = (st.map (·.1)).map kN := keys_mapT st
theorem keys_sortS (dk : Dk) : (((mapT kN saD dk.states).map (·.1)).mergeSort leK).map ktD = (sortN dk.keys).map eM := by
  rw [keys_map, sortN_map, List.map_map]; exact List.map_congr_left fun nm _ => (eM_key nm).symm
theorem KN.srt {dk : Dk} (k : KN dk) : (∀ x ∈ (mapT kN saD dk.states).map (·.1), pu 60 (ktD x) = true) ∧ PySem.W.AllAlike (((mapT kN saD dk.states).map (·.1)).map fun k => toP (ktD k)) ∧ PySem.W.Sortable (((mapT kN saD dk.states).map (·.1)).map fun k => toP (ktD k)) := by
  rw [keys_map]
  refine ⟨fun x hx => ?_, keys_alike _, keys_sortable fun nm hnm => (k.ks nm hnm).1⟩
  obtain ⟨nm, hnm, rfl⟩ := List.mem_map.mp hx
  exact pu_kN (by have := k.ks nm hnm; omega)
theorem c_Desk_inner (B : Bt mg) (T : DeskTxt K CD CH) (df : Df K "inner" "Desk.inner" s_Desk_inner f) (hm : Meth K CD "inner" f) : C_Desk_inner P w K mg base CD CH := by
  refine mcalD df hm sc_Desk_inner bd_Desk_inner (fun ds S Q ⟨a, dk, nm, e, _⟩ => by rw [e]; rfl) ?_
  rintro cdv A outer s Hh E ds S Q hr bS bD ⟨a, dk, nm, rfl, H, kn, hnm, q⟩
  refine WSs.one (WS.ret (WE.lcN 2 [("one", 2)] (WI.list (WE.callB (WA.cons (WE.fld (WE.var 0 rfl ⟨_, _, _, rfl, H.self, rfl, (WA.nil (CW.sortDT (kvs := mapT kN saD dk.states) H.states kn.srt.1 kn.srt.2.1 kn.srt.2.2 rfl hr.units ⟨S.length, (sortN dk.keys).map eM, rfl, by rw [keys_sortS]; simp, ?_⟩))⟩) T.cd T.n_states)) B.sorted boot_sorted)) (by decide) rfl sc_Desk_inner.nd (blkOk_by (N := N_Desk_inner) (sc := defScope s_Desk_inner) (by decide +kernel)) (fun Y hY => by obtain ⟨_, _, _, _, _, rfl⟩ := hY; exact pg_name sc_Desk_inner.nd rfl (Or.inl rfl))))
  rw [keys_sortS]
  have hks : ∀ x ∈ sortN dk.keys, 1 ≤ x.length ∧ x.length ≤ 3 := fun x hx => kn.ks x (List.mem_mergeSort.mp hx)
  refine lc_fm eM (sortN dk.keys) (fun x => if decide (x.dropLast = nm) then some (eM x) else none) rfl ?_ ?_ (fun acc => by simp) ?_ ?_
  · rw [List.length_append]; exact belS_snoc (belS_mono (Nat.le_succ _) bS) (bel_names _ _)
  · unfold sortN; rw [List.length_mergeSort]; have := kn.kc; omega
  · intro x acc hx
    obtain ⟨x1, x2⟩ := hks x hx
    refine ⟨_, rfl, fun Y hY => ?_⟩
    obtain ⟨_, _, _, _, _, rfl⟩ := hY
    refine WT.cmp (WE.slT (WE.var 2 rfl (WE.un (WE.int (UW.neg ⟨x.map D.int, -1, rfl, rfl, slT_ne x1, WE.var 1 rfl ?_⟩)))))
    rw [last_eq x x1]
    refine BW.eqP (pu_nm (by have := List.length_dropLast (xs := x); omega)) (pu_nm hnm) hr.units ⟨_, rfl, ⟨[], by simp⟩, fun hb Z hZ => ?_, fun hb => ?_⟩
    · obtain ⟨_, _, _, _, _, rfl⟩ := hZ
      have e : x.dropLast = nm := eM_inj (of_decide_eq_true hb)
      exact WE.var 2 rfl ⟨⟨[], by simp⟩, bel_eM _, by rw [decide_eq_true e]; rfl⟩
    · have e : ¬ x.dropLast = nm := fun z => of_decide_eq_false hb (by rw [z])
      rw [decide_eq_false e]; rfl
  · rw [fm_filter]
    have ei : ((sortN dk.keys).filter fun x => decide (x.dropLast = nm)) = dk.inner nm := rfl
    rw [ei]
    have := CovD.one (S := S) (G := [Ob.lst ((sortN dk.keys).map eM), .lst ((dk.inner nm).map eM)]) (k := S.length + 1) (o := .lst ((dk.inner nm).map eM)) bS (by omega) (by simp) (bel_names _ _)
    refine ⟨_, _, ?_, q⟩
    have l1 : (S ++ [Ob.lst ((sortN dk.keys).map eM)]).length = S.length + 1 := by simp
    rw [l1]
    simpa using this
end

theorem foldGoes {dk : Dk} {nm : Nm} (n : Nat) {pre post : List Nm} {x : Nm} (kn : KN dk) (e : dk.inner nm = pre ++ x :: post) : x ∈ (pre.foldl (fun d one => Dk.gone n d one) dk).keys := by
  have hx : x ∈ dk.inner nm := by rw [e]; simp
  have nd := inner_nd kn nm
  rw [e] at nd
  have gen : ∀ (l : List Nm) (d : Dk), (∀ y ∈ l, ¬ y <+: x) → x ∈ d.keys → x ∈ (l.foldl (fun d one => Dk.gone n d one) d).keys := by
    intro l
    induction l with
    | nil => intro d _ h; exact h
    | cons y l ih => intro d hl h; exact ih _ (fun z hz => hl z (List.mem_cons_of_mem _ hz)) ((goes_gone n d y).keepk h (hl y List.mem_cons_self))
  refine gen pre dk (fun y hy => ?_) (mem_inner.mp hx).1
  have hy' : y ∈ dk.inner nm := by rw [e]; simp [hy]
  refine not_pre (by rw [(inner_len kn hy').1, (inner_len kn hx).1]) fun z => ?_
  rw [List.nodup_append] at nd
  exact nd.2.2 y hy x List.mem_cons_self z
theorem foldKG {dk : Dk} (kg : KG dk) (n : Nat) (l : List Nm) : KG (l.foldl (fun d one => Dk.gone n d one) dk) := by
  induction l generalizing dk with
  | nil => exact kg
  | cons y l ih => exact ih ((goes_gone n dk y).kg kg)
theorem dropT_mapT {κ κ' β β' : Type} [DecidableEq κ] [DecidableEq κ'] {g : κ → κ'} {e : β → β'} (inj : ∀ a b, g a = g b → a = b) (kvs : List (κ × β)) (k : κ) : dropT (mapT g e kvs) (g k) = mapT g e (dropT kvs k) := by
  unfold dropT mapT
  rw [List.filter_map]
  congr 1
  refine List.filter_congr fun p _ => ?_
  show decide (g p.1 ≠ g k) = decide (p.1 ≠ k)
  by_cases h : p.1 = k
  · simp [h]
  · have : g p.1 ≠ g k := fun z => h (inj _ _ z)
    simp [h, this]
theorem MW.popN {X : Cx} {S : Store} {Q : D → Store → Prop} {l : Nat} {β : Type} {e : β → D} {kvs : List (Nm × β)} {nm : Nm} {y : β} (hl : S[l]? = some (.dT (mapT kN e kvs))) (hv : getT kvs nm = some y) (hu : X.A.units + 64 < cLine) (h : Q (e y) (S.set l (.dT (mapT kN e (dropT kvs nm))))) : MW X "dict.pop" (.loc l) [eM nm] S Q := by
  rw [eM_key]
  refine MW.popT hl (by rw [getT_mapT kN_inj, hv]; rfl) hu ?_
  rw [dropT_mapT kN_inj]; exact h
theorem DG.n {S : Store} {l : Nat} {β : Type} {e : β → D} {kvs : List (Nm × β)} (hl : S[l]? = some (.dT (mapT kN e kvs))) (nm : Nm) : DG S (.loc l) (eM nm) ((getT kvs nm).map e) := by
  have := DG.t (k := kN nm) hl
  rw [getT_mapT kN_inj] at this
  rw [eM_key]; exact this
theorem DG.fn {S : Store} {l : Nat} {o : Obj} {β : Type} {e : β → D} {kvs : List (Nm × β)} (hl : S[l]? = some (.frz o (.dT (mapT kN e kvs)))) (nm : Nm) : DG S (.loc l) (eM nm) ((getT kvs nm).map e) := by
  have := DG.ft (k := kN nm) hl
  rw [getT_mapT kN_inj] at this
  rw [eM_key]; exact this
theorem getT_at {κ β : Type} [DecidableEq κ] {l : List (κ × β)} (nd : (l.map (·.1)).Nodup) {i : Nat} {x : κ × β} (h : l[i]? = some x) : getT l x.1 = some x.2 := getT_nd nd (List.mem_of_getElem? h)
/-- the helper's place, as the desk's dict tells it -/
theorem who_get {dk : Dk} {a : At} (hl : a.hp.length = dk.who.length) (nd : (dk.who.map (·.1)).Nodup) {i : Nat} {h : Int × HpS} {p : Nat × Nat} (hi : dk.who[i]? = some h) (hp : a.hp[i]? = some p) : getT ((dk.who.zip a.hp).map fun x => (kI x.1.1, D.loc x.2.1)) (kI h.1) = some (.loc p.1) := by
  have hz : (dk.who.zip a.hp)[i]? = some (h, p) := by rw [List.zip_eq_zipWith, List.getElem?_zipWith, hi, hp]
  refine getT_at (x := (kI h.1, D.loc p.1)) (i := i) ?_ (by rw [List.getElem?_map, hz]; rfl)
  rw [List.map_map]
  have : ((fun x : Key × D => x.1) ∘ fun x : (Int × HpS) × Nat × Nat => (kI x.1.1, D.loc x.2.1)) = kI ∘ (fun x : (Int × HpS) × Nat × Nat => x.1.1) := rfl
  rw [this, ← List.map_map]
  have e : (dk.who.zip a.hp).map (fun x => x.1.1) = dk.who.map (·.1) := by
    have : ∀ (l : List (Int × HpS)) (m : List (Nat × Nat)), m.length = l.length → (l.zip m).map (fun x => x.1.1) = l.map (·.1) := by
      intro l
      induction l with
      | nil => intro m _; rfl
      | cons x l ih =>
        intro m hm
        cases m with
        | nil => simp at hm
        | cons y m => show x.1 :: _ = x.1 :: _; exact congrArg _ (ih m (by simpa using hm))
    exact this _ _ hl
  rw [e]
  exact nd.map kI (fun x y hne z => hne (kI_inj _ _ z))
section
variable {P : Program} {w : World} {K : PySem.W.Frag} {mg : Str → Option Value} {base : Heap} {f : Addr} {CD CH : Addr}
def sp_Desk_gone (CD CH : Addr) (n : Nat) : SpD := fun ds S Q => ∃ a dk nm, ds = [.loc a.l, eM nm] ∧ DeskAt CD CH S a dk ∧ KG dk ∧ nm ∈ dk.keys ∧ 3 ≤ nm.length + n ∧ ∀ S' a', DeskAt CD CH S' a' (dk.gone (n + 1) nm) → Fra S S' a a' → Q .non S'
abbrev C_Desk_gone (P : Program) (w : World) (K : PySem.W.Frag) (mg : Str → Option Value) (base : Heap) (CD CH : Addr) (n : Nat) : Prop := MCal P w K mg base CD "gone" (2 * n + 3) ["self", "name"] (sp_Desk_gone CD CH n)
def sp_Desk_all_inner_gone (CD CH : Addr) (n : Nat) : SpD := fun ds S Q => ∃ a dk nm, ds = [.loc a.l, eM nm] ∧ DeskAt CD CH S a dk ∧ KG dk ∧ nm.length ≤ 3 ∧ 3 ≤ nm.length + n ∧ ∀ S' a', DeskAt CD CH S' a' (dk.innerGone n nm) → Fra S S' a a' → Q .non S'
abbrev C_Desk_all_inner_gone (P : Program) (w : World) (K : PySem.W.Frag) (mg : Str → Option Value) (base : Heap) (CD CH : Addr) (n : Nat) : Prop := MCal P w K mg base CD "all_inner_gone" (2 * n + 2) ["self", "name"] (sp_Desk_all_inner_gone CD CH n)
abbrev N_Desk_all_inner_gone : List Str := ["self", "name", "one"]
theorem sc_Desk_all_inner_gone : FnScope N_Desk_all_inner_gone ["self", "name"] (defScope s_Desk_all_inner_gone) := ⟨rfl, rfl, rfl, by decide +kernel, rfl, by decide +kernel, by decide +kernel⟩
theorem bd_Desk_all_inner_gone : BindOk "all_inner_gone" "Desk.all_inner_gone" s_Desk_all_inner_gone ["self", "name"] := fun _ _ _ _ _ _ us hl => match us, hl with | [_, _], _ => rfl
theorem step_Desk_all_inner_gone (T : DeskTxt K CD CH) (G_Desk_inner : C_Desk_inner P w K mg base CD CH) (df : Df K "all_inner_gone" "Desk.all_inner_gone" s_Desk_all_inner_gone f) (hm : Meth K CD "all_inner_gone" f) (n : Nat) (G : ∀ m, n = m + 1 → C_Desk_gone P w K mg base CD CH m) : C_Desk_all_inner_gone P w K mg base CD CH n := by
  refine mcalD df hm sc_Desk_all_inner_gone bd_Desk_all_inner_gone (fun ds S Q ⟨a, dk, nm, e, _⟩ => by rw [e]; rfl) ?_
  rintro cdv A outer s Hh E ds S Q hr bS bD ⟨a, dk, nm, rfl, H, kg, h3, hn, q⟩
  have kn := kg.toKN
  refine WSs.one (WS.forL eM (WE.mcal G_Desk_inner (hr.mono (by first|decide|omega)) T.cd (WE.var 0 rfl ⟨_, _, rfl, H.self, rfl, (WA.cons (WE.var 1 rfl (WA.nil ⟨a, dk, nm, rfl, H, kn, h3, ⟨_, dk.inner nm, rfl, by simp, ?_⟩⟩)))⟩)) PassesOwn.never rfl)
  have hfix : ∀ {S2 a'}, Fra (S ++ [Ob.lst ((dk.inner nm).map eM)]) S2 a a' → S2[S.length]? = some (Ob.lst ((dk.inner nm).map eM)) := fun F => F.keep _ _ (fun z => by have := H.lt _ z; omega) (by simp)
  have hfl : ∀ {S2 : Store} {a' : At}, Fra (S ++ [Ob.lst ((dk.inner nm).map eM)]) S2 a a' → a'.l = a.l := fun F => by have := F.fix; simp only [At.fix, List.cons.injEq] at this; exact this.1
  refine ⟨fun pre v2 S2 => ∃ a' z, DeskAt CD CH S2 a' (pre.foldl (fun d one => Dk.gone n d one) dk) ∧ Fra (S ++ [Ob.lst ((dk.inner nm).map eM)]) S2 a a' ∧ v2 = [some (.loc a.l), some (eM nm), z], ⟨a, none, H.app, Fra.refl _ _, rfl⟩, fun _ _ _ ⟨_, _, _, F, _⟩ => hfix F, ?_, ?_⟩
  · rintro pre x post v2 S2 e ⟨a', z, H2, F2, rfl⟩
    have hx : x ∈ dk.inner nm := by rw [e]; simp
    obtain ⟨x1, x2⟩ := inner_len kn hx
    obtain ⟨m, rfl⟩ : ∃ m, n = m + 1 := ⟨n - 1, by omega⟩
    have G_Desk_gone := G m rfl
    refine (WG.name 2 ?_ sc_Desk_all_inner_gone.nd)
    refine WSs.one (WS.expr (WE.mcal G_Desk_gone (hr.mono (by first|decide|omega)) T.cd (WE.var 0 rfl ⟨_, _, rfl, (H2.at (hfl F2)).self, rfl, (WA.cons (WE.var 2 rfl (WA.nil ⟨a', _, x, by rw [hfl F2], H2, foldKG kg _ _, foldGoes _ kn e, by omega, fun S3 a3 H3 F3 => ?_⟩)))⟩)))
    refine WkE.same ⟨a3, some (eM x), ?_, F2.trans F3, rfl⟩
    rw [List.foldl_append]; exact H3
  · rintro v2 S2 ⟨a', z, H2, F2, rfl⟩
    exact WkD.same (q S2 a' H2 (Fra.app.trans F2))
abbrev N_Desk_gone : List Str := ["self", "name", "number", "letter"]
theorem sc_Desk_gone : FnScope N_Desk_gone ["self", "name"] (defScope s_Desk_gone) := ⟨rfl, rfl, rfl, by decide +kernel, rfl, by decide +kernel, by decide +kernel⟩
theorem bd_Desk_gone : BindOk "gone" "Desk.gone" s_Desk_gone ["self", "name"] := fun _ _ _ _ _ _ us hl => match us, hl with | [_, _], _ => rfl
theorem step_Desk_gone (T : DeskTxt K CD CH) (n : Nat) (G_Desk_all_inner_gone : C_Desk_all_inner_gone P w K mg base CD CH n) (df : Df K "gone" "Desk.gone" s_Desk_gone f) (hm : Meth K CD "gone" f) : C_Desk_gone P w K mg base CD CH n := by
  refine mcalD df hm sc_Desk_gone bd_Desk_gone (fun ds S Q ⟨a, dk, nm, e, _⟩ => by rw [e]; rfl) ?_
  rintro cdv A outer s Hh E ds S Q hr bS bD ⟨a, dk, nm, rfl, H, kg, hmem, hn, q⟩
  have kn := kg.toKN
  obtain ⟨n1, n3⟩ := kn.ks nm hmem
  refine WSs.cons (WS.expr (WE.mcal G_Desk_all_inner_gone (hr.mono (by first|decide|omega)) T.cd (WE.var 0 rfl ⟨_, _, rfl, H.self, rfl, (WA.cons (WE.var 1 rfl (WA.nil ⟨a, dk, nm, rfl, H, kg, n3, hn, fun S1 a1 H1 F1 => ?_⟩)))⟩)))
  have go1 := goes_inner n dk nm
  have kg1 := go1.kg kg
  have hmem1 : nm ∈ (dk.innerGone n nm).keys := by
    have gen : ∀ (l : List Nm) (d : Dk), (∀ y ∈ l, ¬ y <+: nm) → nm ∈ d.keys → nm ∈ (l.foldl (fun d one => Dk.gone n d one) d).keys := by
      intro l
      induction l with
      | nil => intro d _ h; exact h
      | cons y l ih => intro d hl h; exact ih _ (fun z hz => hl z (List.mem_cons_of_mem _ hz)) ((goes_gone n d y).keepk h (hl y List.mem_cons_self))
    refine gen _ dk (fun y hy z => ?_) hmem
    have := z.length_le
    have := (inner_len kn hy).1
    omega
  have hgs : dk.gone (n + 1) nm = (dk.innerGone n nm).popS nm := Dk.gone_succ n dk nm
  rw [hgs] at q
  generalize dk.innerGone n nm = d1 at *
  have el : a1.l = a.l := by have := F1.fix; simp only [At.fix, List.cons.injEq] at this; exact this.1
  obtain ⟨st, hst⟩ := getT_some hmem1
  refine WSs.cons (WS.expr (WE.bm PySem.F.plainAttrs_dict PySem.F.slot_dict_pop PySem.F.type_dict_pop (WE.fld (WE.var 0 rfl ⟨_, _, _, rfl, (H1.at el).self, rfl, ⟨?_, (WA.cons (WE.var 1 rfl (WA.nil (MW.popN (nm := nm) H1.states hst hr.units ?_))))⟩⟩) T.cd T.n_states)))
  · exact Or.inr ⟨rfl, Or.inr ⟨_, H1.states⟩⟩
  have H2 := H1.setS (dropT d1.states nm)
  have F2 : Fra S1 (S1.set a1.ls (.dT (mapT kN saD (dropT d1.states nm)))) a1 a1 := Fra.set (At.fix_all (by simp [At.fix]))
  have hq : ∀ S' a', DeskAt CD CH S' a' (d1.popS nm) → Fra (S1.set a1.ls (.dT (mapT kN saD (dropT d1.states nm)))) S' a1 a' → Q .non S' := fun S' a' h g => q S' a' h ((F1.trans F2).trans g)
  have e1 : d1.popS nm = { ({ d1 with states := dropT d1.states nm } : Dk) with who := d1.who.map fun h => (h.1, { h.2 with left := h.2.left.filter fun lt => decide (lt.2 ≠ nm) }) } := rfl
  rw [e1] at hq
  have wn1 := kg1.wn
  have wl1 := kg1.wl
  have wt1 := kg1.wt
  have hw0 : ({ d1 with states := dropT d1.states nm } : Dk).who = d1.who := rfl
  generalize hd2 : ({ d1 with states := dropT d1.states nm } : Dk) = d2 at *
  rw [← hw0] at wn1 wl1 wt1 hq
  generalize S1.set a1.ls (.dT (mapT kN saD (dropT d1.states nm))) = S2 at *
  refine WSs.one (WS.lockO (u := whoOb d2 a1) (l := a1.lw) trivial H2.who fun o => WS.forM (fun h : Int × HpS => D.int h.1) (WI.keysK (WE.fld (WE.var 0 rfl ⟨_, _, _, rfl, (SelfAt.mk (CD := CD) (a := a1) (l := a.l) (by rw [List.getElem?_set_ne (by rw [← el]; exact Ne.symm H2.fne.2.2.1)]; exact (H2.at el).self)).self, rfl, ⟨a1.lw, o, _, rfl, List.getElem?_set_self (H2.lt _ (At.fix_all (by simp [At.fix]))), d2.who, who_items H2.hlen, ?_⟩⟩) T.cd T.n_who)) PassesOwn.never rfl)
  refine ⟨fun pre v2 Sx => ∃ Su a' z post, Sx = Su.set a1.lw (.frz o (whoOb d2 a1)) ∧ d2.who = pre ++ post ∧ DeskAt CD CH Su a' { d2 with who := (pre.map fun h => (h.1, { h.2 with left := h.2.left.filter fun lt => decide (lt.2 ≠ nm) })) ++ post } ∧ Fra S2 Su a1 a' ∧ Su[a1.lw]? = some (whoOb d2 a1) ∧ v2 = [some (.loc a.l), some (eM nm), z, none],
    ⟨S2, a1, none, d2.who, rfl, rfl, H2, Fra.refl _ _, H2.who, rfl⟩, fun _ _ _ _ => trivial, ?_, ?_⟩
  · rintro pre x post' v2 Sx e ⟨Su, a', z, post, rfl, e2, Hu, Fu, hW, rfl⟩
    obtain rfl : post = x :: post' := List.append_cancel_left (e2.symm.trans e)
    obtain ⟨_, _, _, elw, _⟩ := Fu.ls
    have hx : x ∈ d2.who := by rw [e]; simp
    have hi : ({ d2 with who := (pre.map fun h => (h.1, { h.2 with left := h.2.left.filter fun lt => decide (lt.2 ≠ nm) })) ++ x :: post' } : Dk).who[pre.length]? = some x := by
      show ((pre.map _) ++ x :: post')[pre.length]? = some x
      rw [List.getElem?_append_right (by simp)]; simp
    have hpl : pre.length < a'.hp.length := by
      rw [Hu.hlen]; exact (List.getElem?_eq_some_iff.mp hi).1
    obtain ⟨p, hp⟩ : ∃ p, a'.hp[pre.length]? = some p := ⟨_, List.getElem?_eq_getElem hpl⟩
    obtain ⟨g1, g2⟩ := Hu.help pre.length x p hi hp
    obtain ⟨m1, m2⟩ := At.mem_hps hp
    have dd := (At.nds Hu.nd).2.2
    have nw1 : a1.lw ≠ p.1 := by rw [← elw]; exact dd a'.lw (by simp [At.fix]) _ m1
    have nw2 : a1.lw ≠ p.2 := by rw [← elw]; exact dd a'.lw (by simp [At.fix]) _ m2
    have hwho := Hu.who
    rw [elw, hW] at hwho
    have hwho := Option.some.inj hwho
    have dg : ∀ G, DG (Su.set a1.lw (.frz o (whoOb d2 a1)) ++ G) (.loc a'.lw) (.int x.1) (some (.loc p.1)) := fun G => by
      have h0 : (Su.set a1.lw (.frz o (whoOb d2 a1)) ++ G)[a'.lw]? = some (.frz o (whoOb { d2 with who := (pre.map fun h => (h.1, { h.2 with left := h.2.left.filter fun lt => decide (lt.2 ≠ nm) })) ++ x :: post' } a')) := by
        rw [elw, hwho]
        refine get_app ?_
        rw [← hwho]
        exact List.getElem?_set_self (by rw [← elw]; exact Hu.lt _ (At.fix_all (by simp [At.fix])))
      have := DG.fk (k := kI x.1) h0
      rw [who_get Hu.hlen ?_ hi hp] at this
      · exact this
      · have : ((({ d2 with who := (pre.map fun h => (h.1, { h.2 with left := h.2.left.filter fun lt => decide (lt.2 ≠ nm) })) ++ x :: post' } : Dk)).who.map fun x => x.1) = d2.who.map (·.1) := by
          show List.map _ ((pre.map _) ++ x :: post') = _
          rw [e, List.map_append, List.map_append, List.map_map]
          rfl
        rw [this]; exact wn1
    have gS : ∀ G, SelfAt CD (Su.set a1.lw (.frz o (whoOb d2 a1)) ++ G) a.l a' := fun G => ⟨by
      have el' : a'.l = a.l := Fu.ls.1.trans el
      refine get_app ?_
      rw [List.getElem?_set_ne (by rw [← elw, ← el']; exact Ne.symm Hu.fne.2.2.1), ← el']
      exact Hu.self⟩
    have gp1 : ∀ G, (Su.set a1.lw (.frz o (whoOb d2 a1)) ++ G)[p.1]? = some (.ins CH (helpFs x.2 p)) := fun G => get_app (by rw [List.getElem?_set_ne nw1]; exact g1)
    have gp2 : ∀ G, (Su.set a1.lw (.frz o (whoOb d2 a1)) ++ G)[p.2]? = some (.lst (x.2.left.map ltD)) := fun G => get_app (by rw [List.getElem?_set_ne nw2]; exact g2)
    have h0 : ∀ {α : Type} {S : Store} {f : Store → α}, f (S ++ []) = f S := fun {α S f} => by rw [List.append_nil]
    refine (WG.name 2 ?_ sc_Desk_gone.nd)
    refine WSs.bel fun bX => ?_
    have dg0 := dg []
    have gS0 := gS []
    have gp10 := gp1 []
    have gp20 := gp2 []
    rw [List.append_nil] at dg0 gS0 gp10 gp20
    refine WSs.one (WS.fld (C := CH) (WE.lcN 3 [("letter", 3)] (WI.list (WE.fld (WE.ix (WE.fld (WE.var 0 rfl ⟨_, _, _, rfl, (gS0).self, rfl, (WE.var 2 rfl (IW.dct dg0 rfl hr.units ⟨p.1, helpFs x.2 p, .loc p.2, rfl, gp10, rfl, ⟨p.2, x.2.left.map ltD, rfl, gp20, ?_⟩⟩))⟩) T.cd T.n_who)) T.ch T.n_left)) (by decide) rfl sc_Desk_gone.nd (blkOk_by (N := N_Desk_gone) (sc := defScope s_Desk_gone) (by decide +kernel)) (fun Y hY => by obtain ⟨_, _, _, _, _, rfl⟩ := hY; exact pg_name sc_Desk_gone.nd rfl (Or.inl rfl))) T.ch T.n_left)
    have wlx := wl1 x hx
    refine lc_fm ltD x.2.left (fun lt => if decide (lt.2 ≠ nm) then some (ltD lt) else none) rfl bX (by omega) (fun acc => gp2 _) ?_ ?_
    · intro lt acc hlt
      refine ⟨_, rfl, fun Y hY => ?_⟩
      obtain ⟨_, _, _, _, _, rfl⟩ := hY
      refine (WT.cmp (WE.ix (WE.var 3 rfl (WE.int (IW.tup (xs := [.str (ltS lt.1), eM lt.2]) (d := eM lt.2) rfl (WE.var 1 rfl (BW.neP (pu_nm (wt1 x hx lt hlt)) (pu_nm n3) hr.units ⟨_, rfl, ⟨⟨[], by simp⟩, fun hb Z hZ => ?_, fun hb => ?_⟩⟩)))))))
      · obtain ⟨_, _, _, _, _, rfl⟩ := hZ
        have e : lt.2 ≠ nm := fun z => by rw [z] at hb; simp at hb
        exact WE.var 3 rfl ⟨⟨[], by simp⟩, bel_ltD _ _, by rw [decide_eq_true e]; rfl⟩
      · have e : ¬ lt.2 ≠ nm := fun z => by
          have : eM lt.2 ≠ eM nm := fun y => z (eM_inj y)
          simp [this] at hb
        rw [decide_eq_false e]; rfl
    · rw [fm_filter]
      refine (WE.ix (WE.fld (WE.var 0 rfl ⟨_, _, _, rfl, (gS _).self, rfl, (WE.var 2 rfl (IW.dct (dg _) rfl hr.units ⟨p.1, helpFs x.2 p, rfl, gp1 _, by show 3 < 1000; decide, ?_⟩))⟩) T.cd T.n_who))
      have lSu : (Su.set a1.lw (.frz o (whoOb d2 a1))).length = Su.length := by simp
      rw [lSu]
      obtain ⟨nl, hnl⟩ : ∃ nl, nl = x.2.left.filter fun lt => decide (lt.2 ≠ nm) := ⟨_, rfl⟩
      rw [← hnl]
      have hpu : putD "left" (.loc Su.length) (helpFs x.2 p) = helpFs { x.2 with left := nl } (p.1, Su.length) := rfl
      rw [hpu]
      have ltW : a1.lw < Su.length := by rw [← elw]; exact Hu.lt _ (At.fix_all (by simp [At.fix]))
      have ltp : p.1 < Su.length := Hu.lt _ (At.hps_all m1)
      have ecomm : ((Su.set a1.lw (.frz o (whoOb d2 a1)) ++ [Ob.lst (nl.map ltD)]).set p.1 (.ins CH (helpFs { x.2 with left := nl } (p.1, Su.length)))) = ((Su ++ [Ob.lst (nl.map ltD)]).set p.1 (.ins CH (helpFs { x.2 with left := nl } (p.1, Su.length)))).set a1.lw (.frz o (whoOb d2 a1)) := by
        rw [List.set_append_left _ _ (by simpa using ltp), List.set_append_left _ _ ltp, List.set_append_left _ _ (by simpa using ltW), List.set_comm _ _ nw1]
      rw [ecomm]
      have Hn := Hu.newL hi hp nl (n := Su.length) (S' := (Su ++ [Ob.lst (nl.map ltD)]).set p.1 (.ins CH (helpFs { x.2 with left := nl } (p.1, Su.length)))) (Nat.le_refl _)
        (fun j hj hne => by rw [List.getElem?_set_ne (Ne.symm hne), List.getElem?_append_left (Hu.lt j hj)])
        (List.getElem?_set_self (by simp; omega)) (by rw [List.getElem?_set_ne (by omega), List.getElem?_append_right (Nat.le_refl _)]; simp)
      refine WkE.same ⟨_, { a' with hp := a'.hp.set pre.length (p.1, Su.length) }, some (.int x.1), post', rfl, by rw [e]; simp, ?_, Fu.trans ⟨by simp, fun j ob hj ej => ?_, fun j hj => ?_, rfl⟩, ?_, rfl⟩
      · have ew : ({ ({ d2 with who := (pre.map fun h => (h.1, { h.2 with left := h.2.left.filter fun lt => decide (lt.2 ≠ nm) })) ++ x :: post' } : Dk) with who := (({ d2 with who := (pre.map fun h => (h.1, { h.2 with left := h.2.left.filter fun lt => decide (lt.2 ≠ nm) })) ++ x :: post' } : Dk)).who.set pre.length (x.1, { x.2 with left := nl }) } : Dk) = { d2 with who := ((pre ++ [x]).map fun h => (h.1, { h.2 with left := h.2.left.filter fun lt => decide (lt.2 ≠ nm) })) ++ post' } := by
          show ({ d2 with who := ((pre.map _) ++ x :: post').set pre.length _ } : Dk) = _
          rw [List.set_append_right _ _ (by simp)]
          simp [hnl]
        rw [← ew]; exact Hn
      · rw [List.getElem?_set_ne (fun z => hj (by rw [← z]; exact At.hps_all m1))]
        exact get_app ej
      · rcases List.mem_append.mp hj with hj | hj
        · exact .inl (At.fix_all hj)
        · obtain ⟨y, hy, hj⟩ := List.mem_flatMap.mp hj
          rcases List.mem_or_eq_of_mem_set hy with hy | rfl
          · exact .inl (At.hps_all (List.mem_flatMap.mpr ⟨y, hy, hj⟩))
          · simp only [List.mem_cons, List.not_mem_nil, or_false] at hj
            rcases hj with rfl | rfl
            · exact .inl (At.hps_all m1)
            · exact .inr (Nat.le_refl _)
      · rw [List.getElem?_set_ne (Ne.symm nw1)]; exact get_app hW
  · rintro v2 Sx ⟨Su, a', z, post, rfl, e2, Hu, Fu, hW, rfl⟩
    have : post = [] := by simpa using e2
    subst this
    rw [List.append_nil] at Hu
    refine ⟨List.getElem?_set_self (List.getElem?_eq_some_iff.mp hW).1, ?_⟩
    rw [List.set_set, set_here hW]
    exact WkD.same (hq Su a' Hu Fu)
end

theorem ofO_rd (o : Option Int) : D.ofO o = eO o := rfl
section
variable {P : Program} {w : World} {K : PySem.W.Frag} {mg : Str → Option Value} {base : Heap} {f : Addr} {CD CH : Addr}
abbrev N_Desk_is_settled : List Str := ["self", "name", "goals"]
theorem sc_Desk_is_settled : FnScope N_Desk_is_settled ["self", "name", "goals"] (defScope s_Desk_is_settled) := ⟨rfl, rfl, rfl, by decide +kernel, rfl, by decide +kernel, by decide +kernel⟩
theorem bd_Desk_is_settled : BindOk "is_settled" "Desk.is_settled" s_Desk_is_settled ["self", "name", "goals"] := fun _ _ _ _ _ _ us hl => match us, hl with | [_, _, _], _ => rfl
def sp_Desk_is_settled (CD CH : Addr) : SpD := fun ds S Q => ∃ a dk nm l g, ds = [.loc a.l, eM nm, .loc l] ∧ DeskAt CD CH S a dk ∧ nm ∈ dk.keys ∧ S[l]? = some (dFd g) ∧ Q (.bl (dk.settled nm g)) S
abbrev C_Desk_is_settled (P : Program) (w : World) (K : PySem.W.Frag) (mg : Str → Option Value) (base : Heap) (CD CH : Addr) : Prop := MCal P w K mg base CD "is_settled" 1 ["self", "name", "goals"] (sp_Desk_is_settled CD CH)
theorem c_Desk_is_settled (T : DeskTxt K CD CH) (c_HELD : ∃ tk, mg "HELD" = some (.str "held" tk)) (df : Df K "is_settled" "Desk.is_settled" s_Desk_is_settled f) (hm : Meth K CD "is_settled" f) : C_Desk_is_settled P w K mg base CD CH := by
  obtain ⟨t1, c_HELD⟩ := c_HELD
  refine mcalD df hm sc_Desk_is_settled bd_Desk_is_settled (fun ds S Q ⟨a, dk, nm, l, g, e, _⟩ => by rw [e]; rfl) ?_
  rintro cdv A outer s Hh E ds S Q hr bS bD ⟨a, dk, nm, l, g, rfl, H, hnm, hl, q⟩
  obtain ⟨st, hst⟩ := getT_some hnm
  have dg : DG S (.loc a.ls) (eM nm) (some (saD st)) := by have := DG.n H.states nm; rw [hst] at this; exact this
  have hst' := stOf_some hst
  unfold Dk.settled at q
  rw [hst'] at q
  have gg : DG S (.loc l) (eM nm) ((getT g nm).map D.int) := DG.n hl nm
  refine WSs.one (WS.ret (WE.and (WE.cmp (WE.ix (WE.ix (WE.fld (WE.var 0 rfl ⟨_, _, _, rfl, H.self, rfl, (WE.var 1 rfl (IW.dct dg rfl hr.units (WE.int (IW.tup (xs := [.str st.1.s, D.ofO st.2]) (d := .str st.1.s) rfl (WE.globS c_HELD (BW.eqS ⟨_, rfl, fun h1 => WE.one ?_, fun h1 => ?_⟩))))))⟩) T.cd T.n_states))))))
  · have hs : st.1 = .held := by
      have := of_decide_eq_true h1
      cases hh : st.1 <;> rw [hh] at this <;> first | rfl | (exact absurd this (by decide))
    refine WE.cmp (WE.ix (WE.ix (WE.fld (WE.var 0 rfl ⟨_, _, _, rfl, H.self, rfl, (WE.var 1 rfl (IW.dct dg rfl hr.units (WE.int (IW.tup (xs := [.str st.1.s, D.ofO st.2]) (d := D.ofO st.2) rfl ?_))))⟩) T.cd T.n_states)))
    refine (WE.bm PySem.F.plainAttrs_dict PySem.F.slot_dict_get PySem.F.type_dict_get (WE.var 2 rfl ⟨?_, (WA.cons (WE.var 1 rfl (WA.nil (MW.get gg hr.units ?_))))⟩))
    · exact Or.inr ⟨rfl, Or.inr ⟨_, hl⟩⟩
    · have : ((getT g nm).map D.int).getD .non = D.ofO (getT g nm) := by cases getT g nm <;> rfl
      rw [this]
      refine BW.eqO ?_
      rw [hs, decide_eq_true rfl, Bool.true_and] at q
      exact WkD.same q
  · have hs : ¬ st.1 = .held := fun z => by rw [z] at h1; exact absurd h1 (by decide)
    rw [decide_eq_false hs, Bool.false_and] at q
    exact WkD.same q
abbrev N_Desk_used : List Str := ["self", "helper", "name"]
theorem sc_Desk_used : FnScope N_Desk_used ["self", "helper"] (defScope s_Desk_used) := ⟨rfl, rfl, rfl, by decide +kernel, rfl, by decide +kernel, by decide +kernel⟩
theorem bd_Desk_used : BindOk "used" "Desk.used" s_Desk_used ["self", "helper"] := fun _ _ _ _ _ _ us hl => match us, hl with | [_, _], _ => rfl
def sp_Desk_used (CD CH : Addr) : SpD := fun ds S Q => ∃ a dk h, ds = [.loc a.l, .int h] ∧ DeskAt CD CH S a dk ∧ KN dk ∧ Q (.int (dk.used h : Nat)) S
abbrev C_Desk_used (P : Program) (w : World) (K : PySem.W.Frag) (mg : Str → Option Value) (base : Heap) (CD CH : Addr) : Prop := MCal P w K mg base CD "used" 1 ["self", "helper"] (sp_Desk_used CD CH)
theorem c_Desk_used (B : Bt mg) (T : DeskTxt K CD CH) (df : Df K "used" "Desk.used" s_Desk_used f) (hm : Meth K CD "used" f) : C_Desk_used P w K mg base CD CH := by
  refine mcalD df hm sc_Desk_used bd_Desk_used (fun ds S Q ⟨a, dk, h, e, _⟩ => by rw [e]; rfl) ?_
  rintro cdv A outer s Hh E ds S Q hr bS bD ⟨a, dk, h, rfl, H, kn, q⟩
  have lt := H.lt a.ls (At.fix_all (by simp [At.fix]))
  refine WSs.one (WS.lockO (u := .dT (mapT kN saD dk.states)) (l := a.ls) trivial H.states fun o => ?_)
  obtain ⟨SL, hSL⟩ : ∃ SL, SL = S.set a.ls (.frz o (.dT (mapT kN saD dk.states))) := ⟨_, rfl⟩
  rw [← hSL]
  have lSL : SL.length = S.length := by rw [hSL]; simp
  have g1 : SL[a.ls]? = some (.frz o (.dT (mapT kN saD dk.states))) := by rw [hSL]; exact List.getElem?_set_self lt
  have gS : ∀ G, SelfAt CD (SL ++ G) a.l a := fun G => ⟨get_app (by rw [hSL, List.getElem?_set_ne (Ne.symm H.fne.2.2.2.1)]; exact H.self)⟩
  have gS0 : SelfAt CD SL a.l a := by have := gS []; rwa [List.append_nil] at this
  have bSL : belS SL.length SL := by
    rw [lSL, hSL]
    refine belS_set bS ?_
    show belK _ (mapT kN saD dk.states) = true
    generalize dk.states = l
    induction l with
    | nil => rfl
    | cons p l ih => show (bel _ (saD p.2) && belK _ (mapT kN saD l)) = true; rw [bel_saD, ih]; rfl
  refine WS.ret (WE.callB (WA.cons (WE.lcN 2 [("name", 2)] (WI.keysT (WE.fld (WE.var 0 rfl ⟨_, _, _, rfl, (gS0).self, rfl, ⟨a.ls, o, _, rfl, g1, ?_⟩⟩) T.cd T.n_states)) (by decide) rfl sc_Desk_used.nd (blkOk_by (N := N_Desk_used) (sc := defScope s_Desk_used) (by decide +kernel)) (fun Y hY => by obtain ⟨_, _, _, _, _, rfl⟩ := hY; exact pg_name sc_Desk_used.nd rfl (Or.inl rfl)))) B.len PySem.boot_len)
  refine lc_fm (fun p : Nm × Sta × Option Int => eM p.1) dk.states (fun p => if decide (p.2.2 = some h) then some (eM p.1) else none) ?_ bSL (by have := kn.kc; unfold Dk.keys at this; rw [List.length_map] at this; omega) (fun _ => trivial) ?_ ?_
  · show (mapT kN saD dk.states).map (fun kv => ktD kv.1) = _
    unfold mapT
    rw [List.map_map]; exact List.map_congr_left fun p _ => (eM_key p.1).symm
  · intro p acc hp
    have dg : DG (SL ++ [.lst acc]) (.loc a.ls) (eM p.1) (some (saD p.2)) := by
      have := DG.fn (S := SL ++ [.lst acc]) (get_app g1) p.1
      rw [getT_nd kn.kn hp] at this; exact this
    refine ⟨_, rfl, fun Y hY => ?_⟩
    obtain ⟨_, _, _, _, _, rfl⟩ := hY
    refine (WT.cmp (WE.ix (WE.ix (WE.fld (WE.var 0 rfl ⟨_, _, _, rfl, (gS _).self, rfl, (WE.var 2 rfl (IW.dct dg rfl hr.units (WE.int (IW.tup (xs := [.str p.2.1.s, D.ofO p.2.2]) (d := D.ofO p.2.2) rfl (WE.var 1 rfl (BW.eqO (i := p.2.2) (j := some h) ⟨_, rfl, ⟨⟨[], by simp⟩, fun hb Z hZ => ?_, fun hb => ?_⟩⟩))))))⟩) T.cd T.n_states))))
    · obtain ⟨_, _, _, _, _, rfl⟩ := hZ
      exact WE.var 2 rfl ⟨⟨[], by simp⟩, bel_eM _, by rw [hb]; rfl⟩
    · rw [hb]; rfl
  · rw [fm_filter]
    refine WA.nil (CW.lenL (xs := (dk.states.filter fun p => decide (p.2.2 = some h)).map fun p => eM p.1) (by simp) ?_)
    rw [List.length_map]
    refine ⟨get_app g1, ?_⟩
    have es : (SL ++ [Ob.lst ((dk.states.filter fun p => decide (p.2.2 = some h)).map fun p => eM p.1)]).set a.ls (.dT (mapT kN saD dk.states)) = S ++ [Ob.lst ((dk.states.filter fun p => decide (p.2.2 = some h)).map fun p => eM p.1)] := by
      rw [List.set_append_left _ _ (by rw [lSL]; exact lt), hSL, List.set_set, set_here H.states]
    rw [es]
    exact ⟨_, _, CovD.drop bS rfl, q⟩
abbrev N_Desk_letter : List Str := ["self", "helper", "letter", "state"]
theorem sc_Desk_letter : FnScope N_Desk_letter ["self", "helper", "letter", "state"] (defScope s_Desk_letter) := ⟨rfl, rfl, rfl, by decide +kernel, rfl, by decide +kernel, by decide +kernel⟩
theorem bd_Desk_letter : BindOk "letter" "Desk.letter" s_Desk_letter ["self", "helper", "letter", "state"] := fun _ _ _ _ _ _ us hl => match us, hl with | [_, _, _, _], _ => rfl
def sp_Desk_letter (CD CH : Addr) : SpD := fun ds S Q => ∃ a dk h lt sta, ds = [.loc a.l, .int h, ltD lt, .str (Sta.s sta)] ∧ DeskAt CD CH S a dk ∧ KG dk ∧ h ∈ dk.who.map (·.1) ∧ dk.log.length ≤ 16000000 ∧ ∀ S' a', DeskAt CD CH S' a' (dk.letter h lt sta) → Fra S S' a a' → Q .non S'
abbrev C_Desk_letter (P : Program) (w : World) (K : PySem.W.Frag) (mg : Str → Option Value) (base : Heap) (CD CH : Addr) : Prop := MCal P w K mg base CD "letter" 1 ["self", "helper", "letter", "state"] (sp_Desk_letter CD CH)
theorem c_Desk_letter (T : DeskTxt K CD CH) (df : Df K "letter" "Desk.letter" s_Desk_letter f) (hm : Meth K CD "letter" f) : C_Desk_letter P w K mg base CD CH := by
  refine mcalD df hm sc_Desk_letter bd_Desk_letter (fun ds S Q ⟨a, dk, h, lt, sta, e, _⟩ => by rw [e]; rfl) ?_
  rintro cdv A outer s Hh E ds S Q hr bS bD ⟨a, dk, h, lt, sta, rfl, H, kg, hh, hlog, q⟩
  obtain ⟨i, x, hi, rfl⟩ := who_at hh
  obtain ⟨p, hp⟩ : ∃ p, a.hp[i]? = some p := ⟨_, List.getElem?_eq_getElem (by rw [H.hlen]; exact (List.getElem?_eq_some_iff.mp hi).1)⟩
  obtain ⟨g1, g2⟩ := H.help i x p hi hp
  have wl := kg.wl x (List.mem_of_getElem? hi)
  have dg : DG S (.loc a.lw) (.int x.1) (some (.loc p.1)) := by
    have := DG.k (k := kI x.1) H.who
    rw [who_get H.hlen kg.wn hi hp] at this; exact this
  refine WSs.cons (WS.expr (WE.bm PySem.F.plainAttrs_list PySem.F.slot_list_append PySem.F.type_list_append (WE.fld (WE.ix (WE.fld (WE.var 0 rfl ⟨_, _, _, rfl, H.self, rfl, (WE.var 1 rfl (IW.dct dg rfl hr.units ⟨p.1, helpFs x.2 p, .loc p.2, rfl, g1, rfl, ⟨?_, (WA.cons (WE.var 2 rfl (WA.nil (MW.append (xs := x.2.left.map ltD) g2 (by rw [List.length_map]; exact szl (by omega)) ?_))))⟩⟩))⟩) T.cd T.n_who)) T.ch T.n_left)))
  · exact Or.inl ⟨rfl, _, g2⟩
  have e1 : x.2.left.map ltD ++ [ltD lt] = (x.2.left ++ [lt]).map ltD := by simp
  show WSs _ _ _ _ (S.set p.2 (.lst (x.2.left.map ltD ++ [ltD lt]))) _
  rw [e1]
  have H1 := H.setL hi hp (x.2.left ++ [lt])
  have F1 : Fra S (S.set p.2 (.lst ((x.2.left ++ [lt]).map ltD))) a a := Fra.set (At.hps_all (At.mem_hps hp).2)
  have ew := whoMod_set kg.wn hi fun p => { p with left := p.left ++ [lt] }
  rw [← ew] at H1
  generalize S.set p.2 (.lst ((x.2.left ++ [lt]).map ltD)) = S1 at *
  have hkc : (dk.whoMod x.1 fun p => { p with left := p.left ++ [lt] }).states.length ≤ 100 := by
    have := kg.kc; unfold Dk.keys at this; rw [List.length_map] at this; exact this
  have eL : (dk.whoMod x.1 fun p => { p with left := p.left ++ [lt] }).log.length = dk.log.length := rfl
  have eq : dk.letter x.1 lt sta = (((dk.whoMod x.1 fun p => { p with left := p.left ++ [lt] }).putS lt.2 (sta, some x.1)).addL (.letter x.1 lt)) := rfl
  rw [eq] at q
  generalize (dk.whoMod x.1 fun p => { p with left := p.left ++ [lt] }) = d1 at *
  have dp : DP S1 (.loc a.ls) (eM lt.2) (saD (sta, some x.1)) (S1.set a.ls (.dT (mapT kN saD (putT d1.states lt.2 (sta, some x.1))))) := by
    have := DP.t (d := saD (sta, some x.1)) (k := kN lt.2) H1.states (by unfold mapT; rw [List.length_map]; exact szl (by omega))
    rw [putT_mapT kN_inj] at this
    rw [eM_key]; exact this
  refine WSs.cons (WS.dput (WE.tup (WA.cons (WE.var 3 rfl (WA.cons (WE.var 1 rfl (WA.nil ⟨by show 2 ≤ sizeLine; exact sz (by decide), (WE.fld (WE.var 0 rfl ⟨_, _, _, rfl, (H1).self, rfl, (WE.ix (WE.var 2 rfl (WE.int (IW.tup (xs := [.str (ltS lt.1), eM lt.2]) (d := eM lt.2) rfl ⟨_, dp, ?_⟩))))⟩) T.cd T.n_states)⟩)))))) hr.units)
  have H2 := H1.setS (putT d1.states lt.2 (sta, some x.1))
  have F2 : Fra S1 (S1.set a.ls (.dT (mapT kN saD (putT d1.states lt.2 (sta, some x.1))))) a a := Fra.set (At.fix_all (by simp [At.fix]))
  generalize S1.set a.ls (.dT (mapT kN saD (putT d1.states lt.2 (sta, some x.1)))) = S2 at *
  refine WSs.one (WS.expr (WE.bm PySem.F.plainAttrs_list PySem.F.slot_list_append PySem.F.type_list_append (WE.fld (WE.var 0 rfl ⟨_, _, _, rfl, (H2).self, rfl, ⟨?_, (WA.cons (WE.tup (WA.cons (WE.str (WA.cons (WE.var 1 rfl (WA.cons (WE.var 2 rfl (WA.nil ⟨by show 3 ≤ sizeLine; exact sz (by decide), (WA.nil (MW.append (xs := d1.log.map enD) H2.log (by rw [List.length_map, eL]; exact Nat.lt_of_le_of_lt hlog (by decide)) ?_))⟩)))))))))⟩⟩) T.cd T.n_log)))
  · exact Or.inl ⟨rfl, _, H2.log⟩
  have H3 := H2.setG (d1.log ++ [.letter x.1 lt])
  have e3 : (d1.log ++ [En.letter x.1 lt]).map enD = d1.log.map enD ++ [.tup [.str "letter", .int x.1, ltD lt]] := by simp [enD]
  rw [e3] at H3
  exact WkD.same (q _ _ H3 ((F1.trans F2).trans (Fra.set (At.fix_all (by simp [At.fix])))))
end

section
variable {P : Program} {w : World} {K : PySem.W.Frag} {mg : Str → Option Value} {base : Heap} {f : Addr} {CD CH : Addr}
abbrev N_Desk_goals : List Str := ["self", "rows", "found", "length", "some", "number", "name"]
theorem sc_Desk_goals : FnScope N_Desk_goals ["self"] (defScope s_Desk_goals) := ⟨rfl, rfl, rfl, by decide +kernel, rfl, by decide +kernel, by decide +kernel⟩
theorem bd_Desk_goals : BindOk "goals" "Desk.goals" s_Desk_goals ["self"] := fun _ _ _ _ _ _ us hl => match us, hl with | [_], _ => rfl
def sp_Desk_goals (CD CH : Addr) : SpD := fun ds S Q => ∃ a dk, ds = [.loc a.l] ∧ DeskAt CD CH S a dk ∧ DW dk ∧ Q (.loc S.length) (S ++ [dFd dk.goals])
abbrev C_Desk_goals (P : Program) (w : World) (K : PySem.W.Frag) (mg : Str → Option Value) (base : Heap) (CD CH : Addr) : Prop := MCal P w K mg base CD "goals" 4 ["self"] (sp_Desk_goals CD CH)
theorem c_Desk_goals (B : Bt mg) (T : DeskTxt K CD CH) (G_had_of : C_had_of P w K mg base) (G_Desk_is_settled : C_Desk_is_settled P w K mg base CD CH) (df : Df K "goals" "Desk.goals" s_Desk_goals f) (hm : Meth K CD "goals" f) : C_Desk_goals P w K mg base CD CH := by
  refine mcalD df hm sc_Desk_goals bd_Desk_goals (fun ds S Q ⟨a, dk, e, _⟩ => by rw [e]; rfl) ?_
  rintro cdv A outer s Hh E ds S Q hr bS bD ⟨a, dk, rfl, H, dw, q⟩
  have kn := dw.toKN
  have hw : S[a.lw]? = some (.dK (((dk.who.zip a.hp).map fun x => (x.1.1, D.loc x.2.1)).map fun p => (.inl p.1, p.2))) := by rw [List.map_map]; exact H.who
  have hnum := zip_fst (who := dk.who) (hp := a.hp) H.hlen
  refine WSs.bel fun bX => ?_
  refine WSs.cons (WS.setLcN 5 [("number", 5)] 1 (WI.list (WE.callB (WA.cons (WE.fld (WE.var 0 rfl ⟨_, _, _, rfl, H.self, rfl, (WA.nil (CW.sortDI hw (by have := dw.wc; rw [List.length_map, List.length_zip]; omega) rfl ⟨S.length, (sortI (dk.who.map (·.1))).map D.int, rfl, by rw [hnum]; simp, ?_⟩))⟩) T.cd T.n_who)) B.sorted boot_sorted)) (by decide) rfl sc_Desk_goals.nd rfl rfl (by rfl) (blkOk_by (N := N_Desk_goals) (sc := defScope s_Desk_goals) (by decide +kernel)) (fun Y hY => by obtain ⟨_, _, _, _, _, rfl⟩ := hY; exact pg_name sc_Desk_goals.nd rfl (Or.inl rfl)))
  rw [hnum]
  refine lc_fm D.int (sortI (dk.who.map (·.1))) (fun n => some (heD (n, (dk.whoD n).claims, (dk.whoD n).room))) rfl (by rw [List.length_append]; exact belS_snoc (belS_mono (Nat.le_succ _) bS) (belInts _)) (by rw [(sortI_perm _).length_eq, List.length_map]; have := dw.wc; omega) (fun acc => by simp) ?_ ?_
  · intro n acc hn
    obtain ⟨i, x, hi, rfl⟩ := who_at ((sortI_perm _).mem_iff.mp hn)
    obtain ⟨p, hp⟩ : ∃ p, a.hp[i]? = some p := ⟨_, List.getElem?_eq_getElem (by rw [H.hlen]; exact (List.getElem?_eq_some_iff.mp hi).1)⟩
    obtain ⟨g1, g2⟩ := H.help i x p hi hp
    have dg : ∀ G, DG (S ++ G) (.loc a.lw) (.int x.1) (some (.loc p.1)) := fun G => by
      have := DG.k (k := kI x.1) (get_app (G := G) H.who)
      rw [who_get H.hlen dw.wn hi hp] at this; exact this
    rw [whoD_at dw.wn hi]
    refine ⟨_, rfl, fun Y hY => ⟨⟨[], by simp⟩, fun _ Z hZ => ?_, fun z => (by cases z)⟩⟩
    obtain ⟨_, _, _, _, _, rfl⟩ := hZ
    have es : S ++ [Ob.lst ((sortI (dk.who.map (·.1))).map D.int)] ++ [Ob.lst acc] = S ++ [Ob.lst ((sortI (dk.who.map (·.1))).map D.int), Ob.lst acc] := by simp
    rw [es]
    refine (WE.tup (WA.cons (WE.var 5 rfl (WA.cons (WE.fld (WE.ix (WE.fld (WE.var 0 rfl ⟨_, _, _, rfl, (H.app).self, rfl, (WE.var 5 rfl (IW.dct (dg _) rfl hr.units ⟨p.1, helpFs x.2 p, eCs x.2.claims, rfl, get_app g1, rfl, (WA.cons (WE.fld (WE.ix (WE.fld (WE.var 0 rfl ⟨_, _, _, rfl, (H.app).self, rfl, (WE.var 5 rfl (IW.dct (dg _) rfl hr.units ⟨p.1, helpFs x.2 p, .int x.2.room, rfl, get_app g1, rfl, (WA.nil ⟨by show 3 ≤ sizeLine; exact sz (by decide), ⟨⟨[], by simp⟩, by show (true && (bel _ (eCs x.2.claims) && (true && true))) = true; rw [bel_eCs]; rfl, rfl⟩⟩)⟩))⟩) T.cd T.n_who)) T.ch T.n_room))⟩))⟩) T.cd T.n_who)) T.ch T.n_claims)))))
  have er : ((sortI (dk.who.map (·.1))).filterMap fun n => some (heD (n, (dk.whoD n).claims, (dk.whoD n).room))) = dk.rows.map heD := by
    unfold Dk.rows
    rw [List.map_map]
    generalize sortI (dk.who.map (·.1)) = l
    induction l with
    | nil => rfl
    | cons a l ih => rw [List.filterMap_cons, List.map_cons, ih]; rfl
  rw [er]
  refine WSs.cons (WS.set 2 (WE.dT0 ?_) sc_Desk_goals.nd)
  obtain ⟨G0, hG0⟩ : ∃ G0, G0 = [Ob.lst ((sortI (dk.who.map (·.1))).map D.int), Ob.lst (dk.rows.map heD), Ob.dT []] := ⟨_, rfl⟩
  have eS0 : S ++ [Ob.lst ((sortI (dk.who.map (·.1))).map D.int)] ++ [Ob.lst (dk.rows.map heD)] ++ [Ob.dT []] = S ++ G0 := by rw [hG0]; simp
  have l1 : (S ++ [Ob.lst ((sortI (dk.who.map (·.1))).map D.int)]).length = S.length + 1 := by simp
  have l2 : (S ++ [Ob.lst ((sortI (dk.who.map (·.1))).map D.int)] ++ [Ob.lst (dk.rows.map heD)]).length = S.length + 2 := by simp
  rw [eS0, l1, l2]
  have kx : ∀ x ∈ sortN dk.keys, 1 ≤ x.length ∧ x.length ≤ 3 := fun x hx => kn.ks x (List.mem_mergeSort.mp hx)
  have lk : (sortN dk.keys).length ≤ 100 := by unfold sortN; rw [List.length_mergeSort]; exact kn.kc
  refine WSs.cons (WS.forT D.int (WE.tup (WA.cons (WE.int (WA.cons (WE.int (WA.cons (WE.int (WA.nil ⟨by show 3 ≤ sizeLine; exact sz (by decide), ⟨[1, 2, 3], rfl, ?_⟩⟩)))))))) PassesOwn.never rfl)
  refine ⟨fun pre v2 S2 => ∃ G g z3 z4, S2 = S ++ G ∧ (S ++ G)[S.length + 1]? = some (.lst (dk.rows.map heD)) ∧ S.length ≤ g ∧ (S ++ G)[g]? = some (dFd (pre.foldl (fun f len => dk.goalsStep f len) [])) ∧ v2 = [some (.loc a.l), some (.loc (S.length + 1)), some (.loc g), z3, z4, none, none],
    ⟨G0, S.length + 2, none, none, rfl, by rw [hG0]; simp, by omega, by rw [hG0]; simp [dFd, mapT], rfl⟩, fun _ _ _ _ => trivial, ?_, ?_⟩
  · rintro pre x post v2 S2 e ⟨G, g, z3, z4, rfl, hrow, hg, hfd, rfl⟩
    have tk : (pre ++ [x]).foldl (fun f len => dk.goalsStep f len) [] = dk.goalsStep (pre.foldl (fun f len => dk.goalsStep f len) []) x := by rw [List.foldl_append]; rfl
    generalize pre.foldl (fun f len => dk.goalsStep f len) [] = fd at *
    refine (WG.name 3 ?_ sc_Desk_goals.nd)
    have hst : ∀ G', (S ++ G ++ G')[a.ls]? = some (.dT (mapT kN saD dk.states)) := fun G' => get_app (get_app H.states)
    refine WSs.bel fun bX => ?_
    refine WSs.cons (WS.setLcN 6 [("name", 6)] 4 (WI.list (WE.callB (WA.cons (WE.fld (WE.var 0 rfl ⟨_, _, _, rfl, (H.app).self, rfl, (WA.nil (CW.sortDT (kvs := mapT kN saD dk.states) (get_app H.states) kn.srt.1 kn.srt.2.1 kn.srt.2.2 rfl hr.units ⟨(S ++ G).length, (sortN dk.keys).map eM, rfl, by rw [keys_sortS]; simp, ?_⟩))⟩) T.cd T.n_states)) B.sorted boot_sorted)) (by decide) rfl sc_Desk_goals.nd rfl rfl (by rfl) (blkOk_by (N := N_Desk_goals) (sc := defScope s_Desk_goals) (by decide +kernel)) (fun Y hY => by obtain ⟨_, _, _, _, _, rfl⟩ := hY; exact pg_name sc_Desk_goals.nd rfl (Or.inl rfl)))
    rw [keys_sortS]
    refine lc_fm eM (sortN dk.keys) (fun nm => if decide ((nm.length : Int) ≤ x) then some (eM nm) else none) rfl (by rw [List.length_append (as := S ++ G)]; exact belS_snoc (belS_mono (Nat.le_succ _) bX) (bel_names _ _)) (by omega) (fun acc => by simp) ?_ ?_
    · intro nm acc hnm
      refine ⟨_, rfl, fun Y hY => ?_⟩
      obtain ⟨_, _, _, _, _, rfl⟩ := hY
      refine (WT.cmp (WE.callB (WA.cons (WE.var 6 rfl (WA.nil (CW.lenT (xs := nm.map D.int) (WE.var 3 rfl (BW.le ⟨_, rfl, ⟨⟨[], by simp⟩, fun hb Z hZ => ?_, fun hb => ?_⟩⟩)))))) B.len PySem.boot_len))
      · obtain ⟨_, _, _, _, _, rfl⟩ := hZ
        rw [List.length_map] at hb
        exact WE.var 6 rfl ⟨⟨[], by simp⟩, bel_eM _, by rw [hb]; rfl⟩
      · rw [List.length_map] at hb
        rw [hb]; rfl
    rw [fm_filter]
    generalize hs1 : ((sortN dk.keys).filter fun nm => decide ((nm.length : Int) ≤ x)) = some1 at *
    have ks1 : ∀ nm ∈ some1, nm ∈ dk.keys ∧ 1 ≤ nm.length ∧ nm.length ≤ 3 := fun nm h => by
      rw [← hs1] at h
      have := (List.mem_filter.mp h).1
      exact ⟨List.mem_mergeSort.mp this, kx nm this⟩
    have ls1 : some1.length ≤ 100 := by rw [← hs1]; exact Nat.le_trans (List.length_filter_le _ _) lk
    obtain ⟨G1, hG1⟩ : ∃ G1, G1 = G ++ [Ob.lst ((sortN dk.keys).map eM), Ob.lst (some1.map eM)] := ⟨_, rfl⟩
    have eS1 : S ++ G ++ [Ob.lst ((sortN dk.keys).map eM)] ++ [Ob.lst (some1.map eM)] = S ++ G1 := by rw [hG1]; simp
    have lS1 : (S ++ G ++ [Ob.lst ((sortN dk.keys).map eM)]).length + 1 = (S ++ G1).length := by rw [hG1]; simp; omega
    have gs1 : (S ++ G1)[(S ++ G ++ [Ob.lst ((sortN dk.keys).map eM)]).length]? = some (.lst (some1.map eM)) := by rw [← eS1]; simp
    have hfd1 : (S ++ G1)[g]? = some (dFd fd) := by rw [hG1, ← List.append_assoc]; exact get_app hfd
    have hrow1 : (S ++ G1)[S.length + 1]? = some (.lst (dk.rows.map heD)) := by rw [hG1, ← List.append_assoc]; exact get_app hrow
    rw [eS1]
    generalize (S ++ G ++ [Ob.lst ((sortN dk.keys).map eM)]).length = p1 at *
    refine WSs.bel fun bX1 => ?_
    refine WSs.cons (WS.setLcN 6 [("name", 6)] 4 (WI.list (WE.var 4 rfl ⟨p1, some1.map eM, rfl, gs1, ?_⟩)) (by decide) rfl sc_Desk_goals.nd rfl rfl (by rfl) (blkOk_by (N := N_Desk_goals) (sc := defScope s_Desk_goals) (by decide +kernel)) (fun Y hY => by obtain ⟨_, _, _, _, _, rfl⟩ := hY; exact pg_name sc_Desk_goals.nd rfl (Or.inl rfl)))
    refine lc_fm eM some1 (fun nm => if (decide (nm.length = 1) || dk.settled nm.dropLast fd) then some (eM nm) else none) rfl bX1 (by omega) (fun acc => get_app gs1) ?_ ?_
    · intro nm acc hnm
      obtain ⟨k0, k1, k2⟩ := ks1 nm hnm
      refine ⟨_, rfl, fun Y hY => ?_⟩
      obtain ⟨_, _, _, _, _, rfl⟩ := hY
      refine WT.bool (WP.or (WT.cmp (WE.callB (WA.cons (WE.var 6 rfl (WA.nil (CW.lenT (xs := nm.map D.int) (WE.int (BW.eqI ⟨_, rfl, ⟨fun h1 => ?_, fun h1 => WP.or1 (WT.val ?_)⟩⟩)))))) B.len PySem.boot_len)))
      · have h1' : nm.length = 1 := by have := of_decide_eq_true h1; rw [List.length_map] at this; omega
        refine ⟨⟨[], by simp⟩, fun hb Z hZ => ?_, fun z => (by cases z)⟩
        obtain ⟨_, _, _, _, _, rfl⟩ := hZ
        exact WE.var 6 rfl ⟨⟨[], by simp⟩, bel_eM _, by rw [decide_eq_true h1']; rfl⟩
      · have h1' : ¬ nm.length = 1 := by have := of_decide_eq_false h1; rw [List.length_map] at this; omega
        refine (WE.mcal G_Desk_is_settled (hr.mono (by first|decide|omega)) T.cd (WE.var 0 rfl ⟨_, _, rfl, (H.app.app).self, rfl, (WA.cons (WE.slT (WE.var 6 rfl (WE.un (WE.int (UW.neg ⟨nm.map D.int, -1, rfl, rfl, slT_ne k1, (WA.cons (WE.var 2 rfl (WA.nil ⟨a, dk, nm.dropLast, g, fd, by rw [last_eq nm k1], H.app.app, dw.cl nm k0 h1', get_app hfd1, _, rfl, ?_⟩)))⟩))))))⟩))
        refine ⟨⟨[], by simp⟩, fun hb Z hZ => ?_, fun hb => ?_⟩
        · obtain ⟨_, _, _, _, _, rfl⟩ := hZ
          exact WE.var 6 rfl ⟨⟨[], by simp⟩, bel_eM _, by rw [hb, Bool.or_true]; rfl⟩
        · rw [hb, decide_eq_false h1']; rfl
    rw [fm_filter]
    have e2 : (some1.filter fun nm => decide (nm.length = 1) || dk.settled nm.dropLast fd) = dk.there fd x := by rw [← hs1]; rfl
    rw [e2]
    obtain ⟨G2, hG2⟩ : ∃ G2, G2 = G1 ++ [Ob.lst ((dk.there fd x).map eM)] := ⟨_, rfl⟩
    have eS2 : S ++ G1 ++ [Ob.lst ((dk.there fd x).map eM)] = S ++ G2 := by rw [hG2]; simp
    have gs2 : (S ++ G2)[(S ++ G1).length]? = some (.lst ((dk.there fd x).map eM)) := by rw [← eS2]; simp
    have hrow2 : (S ++ G2)[S.length + 1]? = some (.lst (dk.rows.map heD)) := by rw [hG2, ← List.append_assoc]; exact get_app hrow1
    rw [eS2]
    generalize (S ++ G1).length = p2 at *
    have ow := dw.pairs fd x
    refine WSs.bel fun bX2 => ?_
    refine WSs.one (WS.set 2 (WE.cal G_had_of (hr.mono (by first|decide|omega)) (WA.cons (WE.lcN 6 [("name", 6)] (WI.list (WE.var 4 rfl ⟨p2, (dk.there fd x).map eM, rfl, gs2, ?_⟩)) (by decide) rfl sc_Desk_goals.nd (blkOk_by (N := N_Desk_goals) (sc := defScope s_Desk_goals) (by decide +kernel)) (fun Y hY => by obtain ⟨_, _, _, _, _, rfl⟩ := hY; exact pg_name sc_Desk_goals.nd rfl (Or.inl rfl))))) sc_Desk_goals.nd)
    refine lc_fm eM (dk.there fd x) (fun nm => some (wD (nm, dk.mkOf nm))) rfl bX2 (by have := ow.1; rw [List.length_map] at this; omega) (fun acc => get_app gs2) ?_ ?_
    · intro nm acc hnm
      have k0 := there_sub nm hnm
      obtain ⟨m, hm'⟩ := getT_some (dw.km nm k0)
      have em : dk.mkOf nm = m := by unfold Dk.mkOf; rw [hm']; rfl
      have dg : DG (S ++ G2 ++ [.lst acc]) (.loc a.lm) (eM nm) (some (eM m)) := by
        have := DG.n (e := eM) (S := S ++ G2 ++ [.lst acc]) (get_app (get_app H.marks)) nm
        rw [hm'] at this; exact this
      refine ⟨_, rfl, fun Y hY => ⟨⟨[], by simp⟩, fun _ Z hZ => ?_, fun z => (by cases z)⟩⟩
      obtain ⟨_, _, _, _, _, rfl⟩ := hZ
      refine (WE.tup (WA.cons (WE.var 6 rfl (WA.cons (WE.ix (WE.fld (WE.var 0 rfl ⟨_, _, _, rfl, (H.app.app).self, rfl, (WE.var 6 rfl (IW.dct dg rfl hr.units (WA.nil ⟨by show 2 ≤ sizeLine; exact sz (by decide), ⟨⟨[], by simp⟩, ?_, by rw [em]; rfl⟩⟩)))⟩) T.cd T.n_marks))))))
      show (bel _ (eM nm) && (bel _ (eM m) && true)) = true
      rw [bel_eM, bel_eM]; rfl
    have e6 : (dk.there fd x).filterMap (fun nm => some (wD (nm, dk.mkOf nm))) = ((dk.there fd x).map fun nm => (nm, dk.mkOf nm)).map wD := by
      generalize dk.there fd x = l
      induction l with
      | nil => rfl
      | cons a l ih => rw [List.filterMap_cons, ih]; rfl
    rw [e6]
    refine WA.cons (WE.var 1 rfl (WA.nil ⟨_, _, (dk.there fd x).map fun nm => (nm, dk.mkOf nm), dk.rows, rfl, by simp, get_app hrow2, ow, dw.rows, ?_⟩))
    refine WkE.same ⟨G2 ++ [Ob.lst (((dk.there fd x).map fun nm => (nm, dk.mkOf nm)).map wD), dFd (dk.goalsStep fd x)], S.length + (G2.length + 1), some (.int x), some (.loc p2), by simp [Dk.goalsStep], ?_, by omega, ?_, ?_⟩
    · rw [← List.append_assoc]; exact get_app hrow2
    · rw [tk, List.getElem?_append_right (by omega)]
      have : S.length + (G2.length + 1) - S.length = G2.length + 1 := by omega
      rw [this, List.getElem?_append_right (by omega)]
      have : G2.length + 1 - G2.length = 1 := by omega
      rw [this]; rfl
    · have : (S ++ G2 ++ [Ob.lst (((dk.there fd x).map fun nm => (nm, dk.mkOf nm)).map wD)]).length = S.length + (G2.length + 1) := by simp [Nat.add_assoc]
      rw [this]; rfl
  · rintro v2 S2 ⟨G, g, z3, z4, rfl, hrow, hg, hfd, rfl⟩
    refine WSs.one (WS.ret (WE.var 2 rfl ?_))
    have := CovD.one (S := S) (G := G) (k := g) (o := dFd dk.goals) bS hg hfd (belK_int _)
    exact ⟨_, _, this, q⟩
end

theorem sta_eq (x y : Sta) : decide (x.s = y.s) = decide (x = y) := by cases x <;> cases y <;> decide
section
variable {P : Program} {w : World} {K : PySem.W.Frag} {mg : Str → Option Value} {base : Heap} {f : Addr} {CD CH : Addr}
abbrev N_Desk_think : List Str := ["self", "goals", "name", "state", "helper", "goal", "one"]
theorem sc_Desk_think : FnScope N_Desk_think ["self"] (defScope s_Desk_think) := ⟨rfl, rfl, rfl, by decide +kernel, rfl, by decide +kernel, by decide +kernel⟩
theorem bd_Desk_think : BindOk "think" "Desk.think" s_Desk_think ["self"] := fun _ _ _ _ _ _ us hl => match us, hl with | [_], _ => rfl
def sp_Desk_think (CD CH : Addr) : SpD := fun ds S Q => ∃ a dk, ds = [.loc a.l] ∧ DeskAt CD CH S a dk ∧ DL dk ∧ dk.log.length ≤ 15999800 ∧ ∀ S' a', DeskAt CD CH S' a' dk.think → Fra S S' a a' → Q .non S'
abbrev C_Desk_think (P : Program) (w : World) (K : PySem.W.Frag) (mg : Str → Option Value) (base : Heap) (CD CH : Addr) : Prop := MCal P w K mg base CD "think" 5 ["self"] (sp_Desk_think CD CH)
theorem c_Desk_think (B : Bt mg) (T : DeskTxt K CD CH) (c_FREE : ∃ tk, mg "FREE" = some (.str "free" tk)) (c_TAKING : ∃ tk, mg "TAKING" = some (.str "taking" tk)) (c_HELD : ∃ tk, mg "HELD" = some (.str "held" tk)) (c_LEAVING : ∃ tk, mg "LEAVING" = some (.str "leaving" tk)) (G_Desk_goals : C_Desk_goals P w K mg base CD CH) (G_Desk_inner : C_Desk_inner P w K mg base CD CH) (G_Desk_used : C_Desk_used P w K mg base CD CH) (G_Desk_letter : C_Desk_letter P w K mg base CD CH) (df : Df K "think" "Desk.think" s_Desk_think f) (hm : Meth K CD "think" f) : C_Desk_think P w K mg base CD CH := by
  obtain ⟨t1, c_FREE⟩ := c_FREE
  obtain ⟨t2, c_TAKING⟩ := c_TAKING
  obtain ⟨t3, c_HELD⟩ := c_HELD
  obtain ⟨t4, c_LEAVING⟩ := c_LEAVING
  refine mcalD df hm sc_Desk_think bd_Desk_think (fun ds S Q ⟨a, dk, e, _⟩ => by rw [e]; rfl) ?_
  rintro cdv A outer s Hh E ds S Q hr bS bD ⟨a, dk, rfl, H, dl, hlog, q⟩
  have kn := dl.toKN
  refine WSs.cons (WS.set 1 (WE.mcal0 G_Desk_goals (hr.mono (by first|decide|omega)) T.cd (WE.var 0 rfl ⟨_, _, rfl, H.self, rfl, ⟨a, dk, rfl, H, dl.toDW, ?_⟩⟩)) sc_Desk_think.nd)
  refine WSs.one (WS.forL eM (WE.callB (WA.cons (WE.fld (WE.var 0 rfl ⟨_, _, _, rfl, (H.app).self, rfl, (WA.nil (CW.sortDT (kvs := mapT kN saD dk.states) (get_app H.states) kn.srt.1 kn.srt.2.1 kn.srt.2.2 rfl hr.units ⟨_, sortN dk.keys, rfl, by rw [keys_sortS]; simp, ?_⟩))⟩) T.cd T.n_states)) B.sorted boot_sorted) PassesOwn.never rfl)
  rw [keys_sortS]
  obtain ⟨S0, hS0⟩ : ∃ S0, S0 = S ++ [dFd dk.goals] ++ [Ob.lst ((sortN dk.keys).map eM)] := ⟨_, rfl⟩
  have l0 : (S ++ [dFd dk.goals]).length = S.length + 1 := by simp
  have k0 : ∀ {S2 : Store} {a' : At}, Fra S0 S2 a a' → S2[S.length]? = some (dFd dk.goals) ∧ S2[S.length + 1]? = some (Ob.lst ((sortN dk.keys).map eM)) := fun F => ⟨F.keep _ _ (fun z => by have := H.lt _ z; omega) (by rw [hS0]; simp), F.keep _ _ (fun z => by have := H.lt _ z; omega) (by rw [hS0]; simp)⟩
  have lk : (sortN dk.keys).length ≤ 100 := by unfold sortN; rw [List.length_mergeSort]; exact kn.kc
  rw [← hS0, l0]
  have HS0 : DeskAt CD CH S0 a dk := by rw [hS0]; exact H.app.app
  have FS0 : Fra S S0 a a := by rw [hS0]; exact Fra.app.trans Fra.app
  refine ⟨fun pre v2 S2 => ∃ a' z2 z3 z4 z5, DeskAt CD CH S2 a' (pre.foldl (Dk.thinkStep dk.goals) dk) ∧ Fra S0 S2 a a' ∧ v2 = [some (.loc a.l), some (.loc S.length), z2, z3, z4, z5, none], ⟨a, none, none, none, none, HS0, Fra.refl _ _, rfl⟩, fun _ _ _ ⟨_, _, _, _, _, _, F, _⟩ => (k0 F).2, ?_, ?_⟩
  · rintro pre nm post v2 S2 e ⟨a', z2, z3, z4, z5, H2, F2, rfl⟩
    have el := F2.ls.1
    have tk : (pre ++ [nm]).foldl (Dk.thinkStep dk.goals) dk = Dk.thinkStep dk.goals (pre.foldl (Dk.thinkStep dk.goals) dk) nm := by rw [List.foldl_append]; rfl
    have hth := think_fold dl pre dk 0 (fun x hx => List.mem_mergeSort.mp (by rw [show sortN dk.keys = pre ++ nm :: post from e]; simp [hx] : x ∈ sortN dk.keys)) ⟨dl, rfl, rfl, rfl, rfl, rfl, Nat.le_refl _⟩
    have lpre : pre.length ≤ 100 := by rw [e] at lk; simp at lk; omega
    have hlog2 : (pre.foldl (Dk.thinkStep dk.goals) dk).log.length ≤ 16000000 := by have := hth.lg; omega
    have hgw : ∀ g, getT dk.goals nm = some g → g ∈ (pre.foldl (Dk.thinkStep dk.goals) dk).who.map (·.1) := fun g hg => by rw [hth.wk]; exact goals_who dk hg
    have hk : nm ∈ (pre.foldl (Dk.thinkStep dk.goals) dk).keys := by rw [hth.ks]; exact List.mem_mergeSort.mp (by rw [show sortN dk.keys = pre ++ nm :: post from e]; simp : nm ∈ sortN dk.keys)
    have d2l := hth.dl
    obtain ⟨gG, gL⟩ := k0 F2
    generalize pre.foldl (Dk.thinkStep dk.goals) dk = d2 at *
    have fin : ∀ S3 a3 (v : Fv), DeskAt CD CH S3 a3 (Dk.thinkStep dk.goals d2 nm) → Fra S2 S3 a' a3 → (∃ z2 z3 z4 z5, v = [some (.loc a.l), some (.loc S.length), z2, z3, z4, z5, none]) → WkE S0.length v S3 fun v2 S2 => ∃ a' z2 z3 z4 z5, DeskAt CD CH S2 a' ((pre ++ [nm]).foldl (Dk.thinkStep dk.goals) dk) ∧ Fra S0 S2 a a' ∧ v2 = [some (.loc a.l), some (.loc S.length), z2, z3, z4, z5, none] := fun S3 a3 v h1 h2 ⟨z2, z3, z4, z5, h3⟩ => WkE.same ⟨a3, z2, z3, z4, z5, by rw [tk]; exact h1, F2.trans h2, h3⟩
    clear tk
    obtain ⟨st, hst⟩ := getT_some hk
    have hs := stOf_some hst
    have dg : DG S2 (.loc a'.ls) (eM nm) (some (saD st)) := by have := DG.n H2.states nm; rw [hst] at this; exact this
    have gg : DG S2 (.loc S.length) (eM nm) ((getT dk.goals nm).map D.int) := DG.n gG nm
    have hgn : ((getT dk.goals nm).map D.int).getD .non = D.ofO (getT dk.goals nm) := by cases getT dk.goals nm <;> rfl
    obtain ⟨n1, n3⟩ := d2l.ks nm hk
    refine (WG.name 2 ?_ sc_Desk_think.nd)
    refine WSs.cons (WS.asg (WE.ix (WE.fld (WE.var 0 rfl ⟨_, _, _, rfl, (H2.at el).self, rfl, (WE.var 2 rfl (IW.dct dg rfl hr.units (WG.tup rfl (WGs.cons (WG.name 3 (WGs.cons (WG.name 4 (WGs.nil ?_) sc_Desk_think.nd)) sc_Desk_think.nd)) rfl)))⟩) T.cd T.n_states)))
    refine WSs.cons (WS.set 5 (WE.bm PySem.F.plainAttrs_dict PySem.F.slot_dict_get PySem.F.type_dict_get (WE.var 1 rfl ⟨?_, (WA.cons (WE.var 2 rfl (WA.nil (MW.get gg hr.units ?_))))⟩)) sc_Desk_think.nd)
    · exact Or.inr ⟨rfl, Or.inr ⟨_, gG⟩⟩
    rw [hgn]
    have same : Dk.thinkStep dk.goals d2 nm = d2 → WkE S0.length [some (.loc a.l), some (.loc S.length), some (eM nm), some (.str st.1.s), some (D.ofO st.2), some (D.ofO (getT dk.goals nm)), none] S2 fun v2 S2 => ∃ a' z2 z3 z4 z5, DeskAt CD CH S2 a' ((pre ++ [nm]).foldl (Dk.thinkStep dk.goals) dk) ∧ Fra S0 S2 a a' ∧ v2 = [some (.loc a.l), some (.loc S.length), z2, z3, z4, z5, none] := fun h => fin S2 a' _ (by rw [h]; exact H2) (Fra.refl _ _) ⟨_, _, _, _, rfl⟩
    have low : ¬ (st.1 = .held ∧ st.2 ≠ getT dk.goals nm) → ∀ E : Ed, E.nx = (fun v4 S4 => WkE S0.length v4 S4 fun v2 S2 => ∃ a' z2 z3 z4 z5, DeskAt CD CH S2 a' ((pre ++ [nm]).foldl (Dk.thinkStep dk.goals) dk) ∧ Fra S0 S2 a a' ∧ v2 = [some (.loc a.l), some (.loc S.length), z2, z3, z4, z5, none]) →
        WSs (cxOf CX0 P w K mg base N_Desk_think "Desk.think" (defScope s_Desk_think) f cdv A outer s Hh ‹XK›).nox S0.length (match (defBody s_Desk_think) with | [_, .For _ _ [_, _, .If _ _ b _] _ _] => b | _ => []) [some (.loc a.l), some (.loc S.length), some (eM nm), some (.str st.1.s), some (D.ofO st.2), some (D.ofO (getT dk.goals nm)), none] S2 E := by
      intro c E hE
      have hstepN : getT dk.goals nm = none → Dk.thinkStep dk.goals d2 nm = d2 := fun z => by
        unfold Dk.thinkStep; rw [hs, if_neg c, z]
      have hstepS : ∀ g, getT dk.goals nm = some g → Dk.thinkStep dk.goals d2 nm = if st.1 = .free ∧ (d2.used g : Int) < (d2.whoD g).room then d2.letter g (true, nm) .taking else d2 := fun g z => by
        unfold Dk.thinkStep; rw [hs, if_neg c, z]
      refine WSs.one (WS.ite (WT.bool (WP.and (WT.cmp (WE.var 3 rfl (WE.globS c_FREE (BW.eqS ⟨_, rfl, ⟨fun h1 => ?_, fun h1 => iF (WSs.nil ?_)⟩⟩)))))))
      · have f1 : st.1 = .free := by rw [show ("free" : Str) = Sta.s .free from rfl, sta_eq] at h1; exact of_decide_eq_true h1
        cases hg : getT dk.goals nm with
        | none =>
          have hstep := hstepN hg
          rw [hg] at same
          refine WP.and (WT.cmp (WE.var 5 rfl (WE.non (BW.notN false rfl ⟨_, rfl, ⟨fun z => (by cases z), fun _ => iF (WSs.nil ?_)⟩⟩))))
          rw [hE]; exact same hstep
        | some g =>
          have hstep := hstepS g hg
          rw [hg] at same
          obtain ⟨i, x, hi, hxg⟩ := who_at (hgw g hg)
          obtain ⟨p, hp⟩ : ∃ p, a'.hp[i]? = some p := ⟨_, List.getElem?_eq_getElem (by rw [H2.hlen]; exact (List.getElem?_eq_some_iff.mp hi).1)⟩
          obtain ⟨g1, g2⟩ := H2.help i x p hi hp
          have dgw : DG S2 (.loc a'.lw) (.int g) (some (.loc p.1)) := by
            have := DG.k (k := kI x.1) H2.who
            rw [who_get H2.hlen d2l.wn hi hp] at this
            rw [← hxg]; exact this
          have ewd : d2.whoD g = x.2 := by rw [← hxg]; exact whoD_at d2l.wn hi
          rw [ewd] at hstep
          refine WP.and (WT.cmp (WE.var 5 rfl (WE.non (BW.notN true rfl ⟨_, rfl, ⟨fun _ => WP.and1 ?_, fun z => (by cases z)⟩⟩))))
          refine (WT.cmp (WE.mcal G_Desk_used (hr.mono (by first|decide|omega)) T.cd (WE.var 0 rfl ⟨_, _, rfl, (H2.at el).self, rfl, (WA.cons (WE.var 5 rfl (WA.nil ⟨a', d2, g, by rw [el]; rfl, H2, d2l.toKN, (WE.fld (WE.ix (WE.fld (WE.var 0 rfl ⟨_, _, _, rfl, (H2.at el).self, rfl, (WE.var 5 rfl (IW.dct dgw rfl hr.units ⟨p.1, helpFs x.2 p, .int x.2.room, rfl, g1, rfl, (BW.lt ⟨_, rfl, ⟨fun h2 => ?_, fun h2 => WSs.nil ?_⟩⟩)⟩))⟩) T.cd T.n_who)) T.ch T.n_room)⟩)))⟩)))
          · have c2 : (d2.used g : Int) < x.2.room := of_decide_eq_true h2
            refine WSs.one (WS.expr (WE.mcal G_Desk_letter (hr.mono (by first|decide|omega)) T.cd (WE.var 0 rfl ⟨_, _, rfl, (H2.at el).self, rfl, (WA.cons (WE.var 5 rfl (WA.cons (WE.tup (WA.cons (WE.str (WA.cons (WE.var 2 rfl (WA.nil ⟨by show 2 ≤ sizeLine; exact sz (by decide), (WA.cons (WE.globS c_TAKING (WA.nil ⟨a', d2, g, (true, nm), .taking, by rw [el]; rfl, H2, d2l.toKG, hgw g hg, hlog2, fun S3 a3 H3 F3 => ?_⟩)))⟩)))))))))⟩)))
            rw [hE]
            exact fin S3 a3 _ (by rw [hstep, if_pos ⟨f1, c2⟩]; exact H3) F3 ⟨_, _, _, _, rfl⟩
          · have c2 : ¬ (d2.used g : Int) < x.2.room := of_decide_eq_false h2
            rw [hE]; exact same (by rw [hstep, if_neg fun z => c2 z.2])
      · have f1 : ¬ st.1 = .free := by rw [show ("free" : Str) = Sta.s .free from rfl, sta_eq] at h1; exact of_decide_eq_false h1
        rw [hE]
        refine same ?_
        cases hg : getT dk.goals nm with
        | none => exact hstepN hg
        | some g => rw [hstepS g hg, if_neg fun z => f1 z.1]
    refine WSs.one (WS.ite (WT.bool (WP.and (WT.cmp (WE.var 3 rfl (WE.globS c_HELD (BW.eqS ⟨_, rfl, ⟨fun h1 => WP.and1 ?_, fun h1 => iF (low ?_ _ rfl)⟩⟩)))))))
    · have f1 : st.1 = .held := by rw [show ("held" : Str) = Sta.s .held from rfl, sta_eq] at h1; exact of_decide_eq_true h1
      refine (WT.cmp (WE.var 4 rfl (WE.var 5 rfl (BW.neO ⟨_, rfl, ⟨fun h2 => ?_, fun h2 => low ?_ _ rfl⟩⟩))))
      · have f2 : st.2 ≠ getT dk.goals nm := by simpa using h2
        obtain ⟨g, hg⟩ : ∃ g, st.2 = some g := by
          cases e2 : st.2 with
          | none => exact absurd e2 (d2l.sh _ (getT_mem hst) (by show st.1 ≠ .free; rw [f1]; intro z; cases z))
          | some g => exact ⟨g, rfl⟩
        have hstep : Dk.thinkStep dk.goals d2 nm = if ((d2.inner nm).filter fun one => decide ((d2.stOf one).1 ≠ .free)) = [] then d2.letter g (false, nm) .leaving else d2 := by
          unfold Dk.thinkStep; rw [hs, if_pos ⟨f1, f2⟩, hg]; rfl
        refine WSs.bel fun bX => ?_
        refine WSs.one (WS.ite (WT.cmp (WE.lcN 6 [("one", 6)] (WI.list (WE.mcal G_Desk_inner (hr.mono (by first|decide|omega)) T.cd (WE.var 0 rfl ⟨_, _, rfl, (H2.at el).self, rfl, (WA.cons (WE.var 2 rfl (WA.nil ⟨a', d2, nm, by rw [el], H2, d2l.toKN, n3, ⟨_, (d2.inner nm).map eM, rfl, by simp, ?_⟩⟩)))⟩))) (by decide) rfl sc_Desk_think.nd (blkOk_by (N := N_Desk_think) (sc := defScope s_Desk_think) (by decide +kernel)) (fun Y hY => by obtain ⟨_, _, _, _, _, rfl⟩ := hY; exact pg_name sc_Desk_think.nd rfl (Or.inl rfl)))))
        refine lc_fm eM (d2.inner nm) (fun one => if decide ((d2.stOf one).1 ≠ .free) then some (eM one) else none) rfl (by rw [List.length_append]; exact belS_snoc (belS_mono (Nat.le_succ _) bX) (bel_names _ _)) ?_ (fun acc => by simp) ?_ ?_
        · have : (d2.inner nm).length ≤ (sortN d2.keys).length := List.length_filter_le _ _
          unfold sortN at this; rw [List.length_mergeSort] at this
          have := d2l.kc; omega
        · intro one acc hone
          have ko := (mem_inner.mp hone).1
          obtain ⟨so, hso⟩ := getT_some ko
          rw [stOf_some hso]
          have es : S2 ++ [Ob.lst ((d2.inner nm).map eM)] ++ [Ob.lst acc] = S2 ++ [Ob.lst ((d2.inner nm).map eM), Ob.lst acc] := by simp
          rw [es]
          have dgo : DG (S2 ++ [Ob.lst ((d2.inner nm).map eM), Ob.lst acc]) (.loc a'.ls) (eM one) (some (saD so)) := by
            have := DG.n (e := saD) (S := S2 ++ [Ob.lst ((d2.inner nm).map eM), Ob.lst acc]) (get_app H2.states) one
            rw [hso] at this; exact this
          refine ⟨_, rfl, fun Y hY => ?_⟩
          obtain ⟨_, _, _, _, _, rfl⟩ := hY
          refine (WT.cmp (WE.ix (WE.ix (WE.fld (WE.var 0 rfl ⟨_, _, _, rfl, ((H2.app.at el)).self, rfl, (WE.var 6 rfl (IW.dct dgo rfl hr.units (WE.int (IW.tup (xs := [.str so.1.s, D.ofO so.2]) (d := .str so.1.s) rfl (WE.globS c_FREE (BW.neS ⟨_, rfl, ⟨⟨[], by simp⟩, fun hb Z hZ => ?_, fun hb => ?_⟩⟩))))))⟩) T.cd T.n_states))))
          · obtain ⟨_, _, _, _, _, rfl⟩ := hZ
            rw [show ("free" : Str) = Sta.s .free from rfl, sta_eq] at hb
            have : so.1 ≠ .free := by simpa using hb
            exact WE.var 6 rfl ⟨⟨[], by simp⟩, bel_eM _, by rw [decide_eq_true this]; rfl⟩
          · rw [show ("free" : Str) = Sta.s .free from rfl, sta_eq] at hb
            have : ¬ so.1 ≠ .free := by simpa using hb
            rw [decide_eq_false this]; rfl
        · rw [fm_filter]
          generalize hbu : ((d2.inner nm).filter fun one => decide ((d2.stOf one).1 ≠ .free)) = busy at *
          have kb : ∀ x ∈ busy, x.length ≤ 3 := fun x hx => by
            rw [← hbu] at hx
            exact (d2l.ks x (mem_inner.mp (List.mem_filter.mp hx).1).1).2
          refine WE.lst (WA.nil ⟨by show 0 ≤ sizeLine; exact sz (by decide), ?_⟩)
          refine BW.eqL (xs := busy.map eM) (ys := []) (by simp) (by simp) (fun x hx => by obtain ⟨y, hy, rfl⟩ := List.mem_map.mp hx; exact pu_nm (kb y hy)) (fun x hx => by cases hx) hr.units ⟨_, rfl, fun h3 => ?_, fun h3 => WSs.nil ?_⟩
          · have c3 : busy = [] := by have := of_decide_eq_true h3; simpa using this
            rw [hg]
            have HX : DeskAt CD CH (S2 ++ [Ob.lst ((d2.inner nm).map eM)] ++ [Ob.lst (busy.map eM)] ++ [Ob.lst []]) a' d2 := H2.app.app.app
            have FX : Fra S2 (S2 ++ [Ob.lst ((d2.inner nm).map eM)] ++ [Ob.lst (busy.map eM)] ++ [Ob.lst []]) a' a' := (Fra.app.trans Fra.app).trans Fra.app
            generalize S2 ++ [Ob.lst ((d2.inner nm).map eM)] ++ [Ob.lst (busy.map eM)] ++ [Ob.lst []] = SX at *
            refine WSs.one (WS.expr (WE.mcal G_Desk_letter (hr.mono (by first|decide|omega)) T.cd (WE.var 0 rfl ⟨_, _, rfl, (HX.at el).self, rfl, (WA.cons (WE.var 4 rfl (WA.cons (WE.tup (WA.cons (WE.str (WA.cons (WE.var 2 rfl (WA.nil ⟨by show 2 ≤ sizeLine; exact sz (by decide), (WA.cons (WE.globS c_LEAVING (WA.nil ⟨a', d2, g, (false, nm), .leaving, by rw [el]; rfl, HX, d2l.toKG, d2l.sw _ (getT_mem hst) g hg, hlog2, fun S3 a3 H3 F3 => ?_⟩)))⟩)))))))))⟩)))
            exact fin S3 a3 _ (by rw [hstep, if_pos c3]; exact H3) (FX.trans F3) ⟨_, _, _, _, rfl⟩
          · have c3 : ¬ busy = [] := fun z => by have := of_decide_eq_false h3; rw [z] at this; exact this rfl
            exact fin _ a' _ (by rw [hstep, if_neg c3]; exact H2.app.app.app) ((Fra.app.trans Fra.app).trans Fra.app) ⟨_, _, _, _, rfl⟩
      · have f2 : st.2 = getT dk.goals nm := by simpa using h2
        exact fun z => z.2 f2
    · have f1 : ¬ st.1 = .held := by rw [show ("held" : Str) = Sta.s .held from rfl, sta_eq] at h1; exact of_decide_eq_false h1
      exact fun z => f1 z.1
  · rintro v2 S2 ⟨a', z2, z3, z4, z5, H2, F2, rfl⟩
    exact WkD.same (q S2 a' H2 (FS0.trans F2))
end

def stnD (x : Nm × Sta × Option Int) : D := .tup [eM x.1, .str x.2.1.s, D.ofO x.2.2]
theorem bel_stnD (n : Nat) (x : Nm × Sta × Option Int) : bel n (stnD x) = true := by
  obtain ⟨a, b, c⟩ := x
  show (bel n (eM a) && (true && (bel n (D.ofO c) && true))) = true
  rw [bel_eM]; cases c <;> rfl
def oP : Option Int → PyData
  | none => .none
  | some i => .int i
theorem oP_pd (S : Store) (o : Option Int) : PD S (D.ofO o) (oP o) := by cases o with | none => exact .non | some i => exact .int i
def saP (s : Sta × Option Int) : PyData := .tuple [.str s.1.s, oP s.2]
theorem saP_pd (S : Store) (s : Sta × Option Int) : PD S (saD s) (saP s) := .tup (.cons (.str _) (.cons (oP_pd S _) .nil))
theorem saP_eqv (x y : Sta × Option Int) : PyData.eqv (saP x) (saP y) = decide (x = y) := by
  obtain ⟨a, b⟩ := x
  obtain ⟨c, d⟩ := y
  have h1 : PyData.eqv (.str a.s) (.str c.s) = decide (a = c) := by cases a <;> cases c <;> decide
  have h2 : PyData.eqv (oP b) (oP d) = decide (b = d) := by
    cases b <;> cases d <;> simp [oP, PyData.eqv] <;> rfl
  show (PyData.eqv (.str a.s) (.str c.s) && (PyData.eqv (oP b) (oP d) && true)) = _
  rw [h1, h2]
  by_cases e1 : a = c <;> by_cases e2 : b = d <;> simp [e1, e2]
theorem saP_lay (s : Sta × Option Int) : (saP s).canLay0 = true ∧ (saP s).depth ≤ 1 := by
  obtain ⟨a, b⟩ := s
  have h : PyData.strOk a.s = true := by cases a <;> decide +kernel
  cases b <;> exact ⟨by simp [saP, oP, PyData.canLay0, PyData.canLayAll0, h], by simp [saP, oP, PyData.depth, PyData.depthAll]⟩
theorem saP_shaped (s : Sta × Option Int) : SeqAt.shaped (saP s) = true := shaped_of (saP_lay s).1 (by have := (saP_lay s).2; omega)
theorem saP_shaped2 (s t : Sta × Option Int) : SeqAt.shaped (.tuple [saP s, saP t]) = true := by
  have h1 := saP_lay s
  have h2 := saP_lay t
  refine shaped_of ?_ ?_
  · show ((saP s).canLay0 && ((saP t).canLay0 && true)) = true
    rw [h1.1, h2.1]; rfl
  · show max (saP s).depth (max (saP t).depth 0) + 1 ≤ 64
    omega
section
variable {P : Program} {w : World} {K : PySem.W.Frag} {mg : Str → Option Value} {base : Heap} {f : Addr} {CD CH : Addr}
abbrev N_Desk_things : List Str := ["self"]
theorem sc_Desk_things : FnScope N_Desk_things ["self"] (defScope s_Desk_things) := ⟨rfl, rfl, rfl, by decide +kernel, rfl, by decide +kernel, by decide +kernel⟩
theorem bd_Desk_things : BindOk "things" "Desk.things" s_Desk_things ["self"] := fun _ _ _ _ _ _ us hl => match us, hl with | [_], _ => rfl
def sp_Desk_things (CD CH : Addr) : SpD := fun ds S Q => ∃ a dk, ds = [.loc a.l] ∧ DeskAt CD CH S a dk ∧ dk.plugged.length < 64 ∧ Q (.loc S.length) (S ++ [.lst ((sortI (dk.plugged.map (·.1))).map D.int)])
abbrev C_Desk_things (P : Program) (w : World) (K : PySem.W.Frag) (mg : Str → Option Value) (base : Heap) (CD CH : Addr) : Prop := MCal P w K mg base CD "things" 1 ["self"] (sp_Desk_things CD CH)
theorem c_Desk_things (B : Bt mg) (T : DeskTxt K CD CH) (df : Df K "things" "Desk.things" s_Desk_things f) (hm : Meth K CD "things" f) : C_Desk_things P w K mg base CD CH := by
  refine mcalD df hm sc_Desk_things bd_Desk_things (fun ds S Q ⟨a, dk, e, _⟩ => by rw [e]; rfl) ?_
  rintro cdv A outer s Hh E ds S Q hr bS bD ⟨a, dk, rfl, H, hl, q⟩
  have hp : S[a.lp]? = some (.dK ((dk.plugged.map fun x => (x.1, eT x.2)).map fun p => (.inl p.1, p.2))) := by rw [List.map_map]; exact H.plugged
  have en : (dk.plugged.map fun x => (x.1, eT x.2)).map (·.1) = dk.plugged.map (·.1) := by rw [List.map_map]; rfl
  refine WSs.one (WS.ret (WE.callB (WA.cons (WE.fld (WE.var 0 rfl ⟨_, _, _, rfl, H.self, rfl, (WA.nil (CW.sortDI hp (by rw [List.length_map]; exact hl) rfl ?_))⟩) T.cd T.n_plugged)) B.sorted boot_sorted))
  rw [en]
  exact WkD.same q
abbrev N_Desk_helpers : List Str := ["self"]
theorem sc_Desk_helpers : FnScope N_Desk_helpers ["self"] (defScope s_Desk_helpers) := ⟨rfl, rfl, rfl, by decide +kernel, rfl, by decide +kernel, by decide +kernel⟩
theorem bd_Desk_helpers : BindOk "helpers" "Desk.helpers" s_Desk_helpers ["self"] := fun _ _ _ _ _ _ us hl => match us, hl with | [_], _ => rfl
def sp_Desk_helpers (CD CH : Addr) : SpD := fun ds S Q => ∃ a dk, ds = [.loc a.l] ∧ DeskAt CD CH S a dk ∧ dk.who.length < 64 ∧ Q (.loc S.length) (S ++ [.lst ((sortI (dk.who.map (·.1))).map D.int)])
abbrev C_Desk_helpers (P : Program) (w : World) (K : PySem.W.Frag) (mg : Str → Option Value) (base : Heap) (CD CH : Addr) : Prop := MCal P w K mg base CD "helpers" 1 ["self"] (sp_Desk_helpers CD CH)
theorem c_Desk_helpers (B : Bt mg) (T : DeskTxt K CD CH) (df : Df K "helpers" "Desk.helpers" s_Desk_helpers f) (hm : Meth K CD "helpers" f) : C_Desk_helpers P w K mg base CD CH := by
  refine mcalD df hm sc_Desk_helpers bd_Desk_helpers (fun ds S Q ⟨a, dk, e, _⟩ => by rw [e]; rfl) ?_
  rintro cdv A outer s Hh E ds S Q hr bS bD ⟨a, dk, rfl, H, hl, q⟩
  have hw : S[a.lw]? = some (.dK (((dk.who.zip a.hp).map fun x => (x.1.1, D.loc x.2.1)).map fun p => (.inl p.1, p.2))) := by rw [List.map_map]; exact H.who
  have hnum := zip_fst (who := dk.who) (hp := a.hp) H.hlen
  refine WSs.one (WS.ret (WE.callB (WA.cons (WE.fld (WE.var 0 rfl ⟨_, _, _, rfl, H.self, rfl, (WA.nil (CW.sortDI hw (by rw [List.length_map, List.length_zip]; omega) rfl ?_))⟩) T.cd T.n_who)) B.sorted boot_sorted))
  rw [hnum]
  exact WkD.same q
abbrev N_Desk_told : List Str := ["self"]
theorem sc_Desk_told : FnScope N_Desk_told ["self"] (defScope s_Desk_told) := ⟨rfl, rfl, rfl, by decide +kernel, rfl, by decide +kernel, by decide +kernel⟩
theorem bd_Desk_told : BindOk "told" "Desk.told" s_Desk_told ["self"] := fun _ _ _ _ _ _ us hl => match us, hl with | [_], _ => rfl
def sp_Desk_told (CD CH : Addr) : SpD := fun ds S Q => ∃ a dk, ds = [.loc a.l] ∧ DeskAt CD CH S a dk ∧ Q (.loc S.length) (S ++ [.lst (dk.log.map enD)])
abbrev C_Desk_told (P : Program) (w : World) (K : PySem.W.Frag) (mg : Str → Option Value) (base : Heap) (CD CH : Addr) : Prop := MCal P w K mg base CD "told" 1 ["self"] (sp_Desk_told CD CH)
theorem c_Desk_told (B : Bt mg) (T : DeskTxt K CD CH) (df : Df K "told" "Desk.told" s_Desk_told f) (hm : Meth K CD "told" f) : C_Desk_told P w K mg base CD CH := by
  refine mcalD df hm sc_Desk_told bd_Desk_told (fun ds S Q ⟨a, dk, e, _⟩ => by rw [e]; rfl) ?_
  rintro cdv A outer s Hh E ds S Q hr bS bD ⟨a, dk, rfl, H, q⟩
  exact WSs.one (WS.ret (WE.callT (WA.cons (WE.fld (WE.var 0 rfl ⟨_, _, _, rfl, H.self, rfl, (WA.nil (CW.listL H.log (WkD.same q)))⟩) T.cd T.n_log)) B.list boot_list))
abbrev N_Desk_standing : List Str := ["self", "name"]
theorem sc_Desk_standing : FnScope N_Desk_standing ["self"] (defScope s_Desk_standing) := ⟨rfl, rfl, rfl, by decide +kernel, rfl, by decide +kernel, by decide +kernel⟩
theorem bd_Desk_standing : BindOk "standing" "Desk.standing" s_Desk_standing ["self"] := fun _ _ _ _ _ _ us hl => match us, hl with | [_], _ => rfl
def sp_Desk_standing (CD CH : Addr) : SpD := fun ds S Q => ∃ a dk, ds = [.loc a.l] ∧ DeskAt CD CH S a dk ∧ KN dk ∧ Q (.loc S.length) (S ++ [.lst (dk.standing.map stnD)])
abbrev C_Desk_standing (P : Program) (w : World) (K : PySem.W.Frag) (mg : Str → Option Value) (base : Heap) (CD CH : Addr) : Prop := MCal P w K mg base CD "standing" 1 ["self"] (sp_Desk_standing CD CH)
theorem c_Desk_standing (B : Bt mg) (T : DeskTxt K CD CH) (df : Df K "standing" "Desk.standing" s_Desk_standing f) (hm : Meth K CD "standing" f) : C_Desk_standing P w K mg base CD CH := by
  refine mcalD df hm sc_Desk_standing bd_Desk_standing (fun ds S Q ⟨a, dk, e, _⟩ => by rw [e]; rfl) ?_
  rintro cdv A outer s Hh E ds S Q hr bS bD ⟨a, dk, rfl, H, kn, q⟩
  refine WSs.one (WS.ret (WE.lcN 1 [("name", 1)] (WI.list (WE.callB (WA.cons (WE.fld (WE.var 0 rfl ⟨_, _, _, rfl, H.self, rfl, (WA.nil (CW.sortDT (kvs := mapT kN saD dk.states) H.states kn.srt.1 kn.srt.2.1 kn.srt.2.2 rfl hr.units ⟨S.length, (sortN dk.keys).map eM, rfl, by rw [keys_sortS]; simp, ?_⟩))⟩) T.cd T.n_states)) B.sorted boot_sorted)) (by decide) rfl sc_Desk_standing.nd (blkOk_by (N := N_Desk_standing) (sc := defScope s_Desk_standing) (by decide +kernel)) (fun Y hY => by obtain ⟨_, _, _, _, _, rfl⟩ := hY; exact pg_name sc_Desk_standing.nd rfl (Or.inl rfl))))
  rw [keys_sortS]
  refine lc_fm eM (sortN dk.keys) (fun nm => some (stnD (nm, dk.stOf nm))) rfl (by rw [List.length_append]; exact belS_snoc (belS_mono (Nat.le_succ _) bS) (bel_names _ _)) (by unfold sortN; rw [List.length_mergeSort]; have := kn.kc; omega) (fun acc => by simp) ?_ ?_
  · intro nm acc hnm
    obtain ⟨st, hst⟩ := getT_some (List.mem_mergeSort.mp hnm)
    rw [stOf_some hst]
    have es : S ++ [Ob.lst ((sortN dk.keys).map eM)] ++ [Ob.lst acc] = S ++ [Ob.lst ((sortN dk.keys).map eM), Ob.lst acc] := by simp
    rw [es]
    have dg : DG (S ++ [Ob.lst ((sortN dk.keys).map eM), Ob.lst acc]) (.loc a.ls) (eM nm) (some (saD st)) := by
      have := DG.n (e := saD) (S := S ++ [Ob.lst ((sortN dk.keys).map eM), Ob.lst acc]) (get_app H.states) nm
      rw [hst] at this; exact this
    refine ⟨_, rfl, fun Y hY => ⟨⟨[], by simp⟩, fun _ Z hZ => ?_, fun z => (by cases z)⟩⟩
    obtain ⟨_, _, _, _, _, rfl⟩ := hZ
    exact (WE.bin (WE.tup (WA.cons (WE.var 1 rfl (WA.nil ⟨by show 1 ≤ sizeLine; exact sz (by decide), (WE.ix (WE.fld (WE.var 0 rfl ⟨_, _, _, rfl, (H.app).self, rfl, (WE.var 1 rfl (IW.dct dg rfl hr.units (BW.catT (xs := [eM nm]) (ys := [.str st.1.s, D.ofO st.2]) (by intro z; cases z) (sz (by show 3 ≤ 100000; decide)) ⟨⟨[], by simp⟩, bel_stnD _ (nm, st), rfl⟩)))⟩) T.cd T.n_states))⟩)))))
  · have e6 : (sortN dk.keys).filterMap (fun nm => some (stnD (nm, dk.stOf nm))) = dk.standing.map stnD := by
      unfold Dk.standing
      generalize sortN dk.keys = l
      induction l with
      | nil => rfl
      | cons a l ih => rw [List.filterMap_cons, ih]; rfl
    rw [e6]
    have := CovD.one (S := S) (G := [Ob.lst ((sortN dk.keys).map eM), .lst (dk.standing.map stnD)]) (k := S.length + 1) (o := .lst (dk.standing.map stnD)) bS (by omega) (by simp) (belAll_map (fun x => bel_stnD _ x) _)
    refine ⟨_, _, ?_, q⟩
    have l1 : (S ++ [Ob.lst ((sortN dk.keys).map eM)]).length = S.length + 1 := by simp
    rw [l1]
    simpa using this
abbrev N_Desk_helper : List Str := ["self", "number"]
theorem sc_Desk_helper : FnScope N_Desk_helper ["self", "number"] (defScope s_Desk_helper) := ⟨rfl, rfl, rfl, by decide +kernel, rfl, by decide +kernel, by decide +kernel⟩
theorem bd_Desk_helper : BindOk "helper" "Desk.helper" s_Desk_helper ["self", "number"] := fun _ _ _ _ _ _ us hl => match us, hl with | [_, _], _ => rfl
def sp_Desk_helper (CD CH : Addr) : SpD := fun ds S Q => ∃ (a : At) (dk : Dk) (i : Nat) (x : Int × HpS) (p : Nat × Nat), ds = [.loc a.l, .int x.1] ∧ DeskAt CD CH S a dk ∧ (dk.who.map (·.1)).Nodup ∧ dk.who[i]? = some x ∧ a.hp[i]? = some p ∧ 0 ≤ x.1 ∧ x.1 ≤ dk.fresh.2 ∧ Q (.loc p.1) S
abbrev C_Desk_helper (P : Program) (w : World) (K : PySem.W.Frag) (mg : Str → Option Value) (base : Heap) (CD CH : Addr) : Prop := MCal P w K mg base CD "helper" 2 ["self", "number"] (sp_Desk_helper CD CH)
theorem c_Desk_helper (B : Bt mg) (T : DeskTxt K CD CH) (G_is_number : C_is_number P w K mg base) (df : Df K "helper" "Desk.helper" s_Desk_helper f) (hm : Meth K CD "helper" f) : C_Desk_helper P w K mg base CD CH := by
  refine mcalD df hm sc_Desk_helper bd_Desk_helper (fun ds S Q ⟨a, dk, i, x, p, e, _⟩ => by rw [e]; rfl) ?_
  rintro cdv A outer s Hh E ds S Q hr bS bD ⟨a, dk, i, x, p, rfl, H, nd, hi, hp, h0, le1, q⟩
  have dg : DG S (.loc a.lw) (.int x.1) (some (.loc p.1)) := by
    have := DG.k (k := kI x.1) H.who
    rw [who_get H.hlen nd hi hp] at this; exact this
  refine WSs.cons (WS.ite (WT.bool (WP.or (WT.not (WT.val (WE.cal G_is_number (hr.mono (by first|decide|omega)) (WA.cons (WE.var 1 rfl (WA.cons (WE.int (WA.cons (WE.ix (WE.fld (WE.var 0 rfl ⟨_, _, _, rfl, H.self, rfl, (WE.int (IW.list H.fresh rfl (WA.nil ⟨.int x.1, 0, dk.fresh.2, rfl, rfl, ⟨_, rfl, ⟨fun h1 => iT ?_, fun h1 => (WP.or1 (WT.cmp (WE.var 1 rfl (WE.fld (WE.var 0 rfl ⟨_, _, _, rfl, H.self, rfl, (BW.notInD dg hr.units ⟨_, rfl, ⟨fun h => ?_, fun h => WSs.nil ?_⟩⟩)⟩) T.cd T.n_who))))⟩⟩⟩)))⟩) T.cd T.n_fresh)))))))))))))
  · exfalso; simp [numOk_e (x := x.1) (lo := 0) (hi := dk.fresh.2) ⟨h0, le1⟩] at h1
  · exfalso; simp at h
  · exact WSs.one (WS.ret (WE.ix (WE.fld (WE.var 0 rfl ⟨_, _, _, rfl, H.self, rfl, (WE.var 1 rfl (IW.dct dg rfl hr.units (WkD.same q)))⟩) T.cd T.n_who)))
abbrev N_Desk_row : List Str := ["self", "helper"]
theorem sc_Desk_row : FnScope N_Desk_row ["self", "helper"] (defScope s_Desk_row) := ⟨rfl, rfl, rfl, by decide +kernel, rfl, by decide +kernel, by decide +kernel⟩
theorem bd_Desk_row : BindOk "row" "Desk.row" s_Desk_row ["self", "helper"] := fun _ _ _ _ _ _ us hl => match us, hl with | [_, _], _ => rfl
def sp_Desk_row (CD CH : Addr) : SpD := fun ds S Q => ∃ (a : At) (dk : Dk) (i : Nat) (x : Int × HpS), ds = [.loc a.l, .int x.1] ∧ DeskAt CD CH S a dk ∧ (dk.who.map (·.1)).Nodup ∧ dk.who[i]? = some x ∧ 0 ≤ x.1 ∧ x.1 ≤ dk.fresh.2 ∧ Q (.loc S.length) (S ++ [.lst (x.2.left.map ltD)])
abbrev C_Desk_row (P : Program) (w : World) (K : PySem.W.Frag) (mg : Str → Option Value) (base : Heap) (CD CH : Addr) : Prop := MCal P w K mg base CD "row" 3 ["self", "helper"] (sp_Desk_row CD CH)
theorem hp_at {S : Store} {a : At} {dk : Dk} (H : DeskAt CD CH S a dk) {i : Nat} {x : Int × HpS} (hi : dk.who[i]? = some x) : ∃ p, a.hp[i]? = some p := ⟨_, List.getElem?_eq_getElem (by rw [H.hlen]; exact (List.getElem?_eq_some_iff.mp hi).1)⟩
theorem c_Desk_row (B : Bt mg) (T : DeskTxt K CD CH) (G_Desk_helper : C_Desk_helper P w K mg base CD CH) (df : Df K "row" "Desk.row" s_Desk_row f) (hm : Meth K CD "row" f) : C_Desk_row P w K mg base CD CH := by
  refine mcalD df hm sc_Desk_row bd_Desk_row (fun ds S Q ⟨a, dk, i, x, e, _⟩ => by rw [e]; rfl) ?_
  rintro cdv A outer s Hh E ds S Q hr bS bD ⟨a, dk, i, x, rfl, H, nd, hi, h0, h1, q⟩
  obtain ⟨p, hp⟩ := hp_at H hi
  obtain ⟨g1, g2⟩ := H.help i x p hi hp
  exact WSs.one (WS.ret (WE.callT (WA.cons (WE.fld (WE.mcal G_Desk_helper (hr.mono (by first|decide|omega)) T.cd (WE.var 0 rfl ⟨_, _, rfl, H.self, rfl, (WA.cons (WE.var 1 rfl (WA.nil ⟨a, dk, i, x, p, rfl, H, nd, hi, hp, h0, h1, ⟨p.1, helpFs x.2 p, .loc p.2, rfl, g1, rfl, (WA.nil (CW.listL g2 (WkD.same q)))⟩⟩)))⟩)) T.ch T.n_left)) B.list boot_list))
end

section
variable {X : Cx} {k : Nat} {C : Addr} {ps : List Str} {sp : SpD} {x : Str} {a : Expr} {es : List Expr} {v : Fv} {S : Store} {Q : D → Store → Prop} {p pos : Pos}
theorem WE.imk (c : ICal X.prog X.w X.K X.mg X.base C k ps sp) (hr : Room (k + 1) X.A) (hm : X.mg x = some (.ref C)) (h : WA X (a :: es) v S fun ds S1 => sp (.loc S1.length :: ds) (S1 ++ [.ins C []]) fun d S2 => d = .non ∧ Q (.loc S1.length) S2) (hg : Gl X x := by rfl)
    (hdb : (x == ("__debug__" : Str)) = false := by decide) (he : starEach (a :: es) X.env = (false, eval a X.env) :: starEach es X.env := by rfl) (hpl : (backTo pos (starEach es X.env)).any (·.1) = false := by rfl) : WE X (.Call (.Name x p) (a :: es) [] pos) v S Q := by
  obtain ⟨f, fd, G, hk, hb⟩ := c.ex
  exact WE.make hk G hr hm hb h hg hdb he hpl
theorem WE.imk0 (c : ICal X.prog X.w X.K X.mg X.base C k ps sp) (hr : Room (k + 1) X.A) (hm : X.mg x = some (.ref C)) (h : sp [.loc S.length] (S ++ [.ins C []]) fun d S2 => d = .non ∧ Q (.loc S.length) S2) (hg : Gl X x := by rfl)
    (hdb : (x == ("__debug__" : Str)) = false := by decide) : WE X (.Call (.Name x p) [] [] pos) v S Q := by
  obtain ⟨f, fd, G, hk, hb⟩ := c.ex
  exact WE.make0 hk G hr hm hb h hg hdb
end
section
variable {P : Program} {w : World} {K : PySem.W.Frag} {mg : Str → Option Value} {base : Heap} {f : Addr} {CD CH : Addr}
abbrev N_Helper___init__ : List Str := ["self", "claims", "room"]
theorem sc_Helper___init__ : FnScope N_Helper___init__ ["self", "claims", "room"] (defScope s_Helper___init__) := ⟨rfl, rfl, rfl, by decide +kernel, rfl, by decide +kernel, by decide +kernel⟩
theorem bd_Helper___init__ : BindOk "__init__" "Helper.__init__" s_Helper___init__ ["self", "claims", "room"] := fun _ _ _ _ _ _ us hl => match us, hl with | [_, _, _], _ => rfl
def sp_Helper___init__ (CH : Addr) : SpD := fun ds S Q => ∃ l cs r, ds = [.loc l, eCs cs, .int r] ∧ S[l]? = some (.ins CH []) ∧ Q .non ((S ++ [Ob.lst []]).set l (.ins CH (helpFs ⟨cs, r, []⟩ (l, S.length))))
abbrev C_Helper___init__ (P : Program) (w : World) (K : PySem.W.Frag) (mg : Str → Option Value) (base : Heap) (CH : Addr) : Prop := ICal P w K mg base CH 1 ["self", "claims", "room"] (sp_Helper___init__ CH)
theorem c_Helper___init__ (B : Bt mg) (T : DeskTxt K CD CH) (df : Df K "__init__" "Helper.__init__" s_Helper___init__ f) (hm : Mk K CH f) : C_Helper___init__ P w K mg base CH := by
  refine icalD df hm sc_Helper___init__ bd_Helper___init__ (fun ds S Q ⟨l, cs, r, e, _⟩ => by rw [e]; rfl) ?_
  rintro cdv A outer s Hh E ds S Q hr bS bD ⟨l, cs, r, rfl, hl, q⟩
  have lt := (List.getElem?_eq_some_iff.mp hl).1
  refine WSs.cons (WS.fld (C := CH) (WE.var 1 rfl (WE.var 0 rfl ⟨l, _, rfl, hl, by decide, ?_⟩)) T.ch T.n_claims)
  refine WSs.cons (WS.fld (C := CH) (WE.var 2 rfl (WE.var 0 rfl ⟨l, _, rfl, List.getElem?_set_self lt, by show 1 < 1000; decide, ?_⟩)) T.ch T.n_room)
  refine WSs.one (WS.fld (C := CH) (WE.lst (WA.nil ⟨Nat.zero_le _, WE.var 0 rfl ⟨l, _, rfl, get_app (List.getElem?_set_self (by rw [List.length_set]; exact lt)), by show 2 < 1000; decide, ?_⟩⟩)) T.ch T.n_left)
  rw [List.set_set, List.length_set]
  have e : (S.set l (Ob.ins CH (putD "room" (D.int r) (putD "claims" (eCs cs) []))) ++ [Ob.lst []]).set l (Ob.ins CH (putD "left" (D.loc S.length) (putD "room" (D.int r) (putD "claims" (eCs cs) [])))) = (S ++ [Ob.lst []]).set l (.ins CH (helpFs ⟨cs, r, []⟩ (l, S.length))) := by
    rw [List.set_append_left _ _ (by rw [List.length_set]; exact lt), List.set_set, List.set_append_left _ _ lt]; rfl
  rw [e]
  exact WkD.same q
abbrev N_Desk___init__ : List Str := ["self"]
theorem sc_Desk___init__ : FnScope N_Desk___init__ ["self"] (defScope s_Desk___init__) := ⟨rfl, rfl, rfl, by decide +kernel, rfl, by decide +kernel, by decide +kernel⟩
theorem bd_Desk___init__ : BindOk "__init__" "Desk.__init__" s_Desk___init__ ["self"] := fun _ _ _ _ _ _ us hl => match us, hl with | [_], _ => rfl
def sp_Desk___init__ (CD CH : Addr) : SpD := fun ds S Q => ∃ l S0, ds = [.loc l] ∧ S = S0 ++ [.ins CD []] ∧ l = S0.length ∧ ∀ S' a', DeskAt CD CH S' a' emptyDk → a'.l = l → (∃ G, S' = S0 ++ G) → (∀ j ∈ a'.all, S0.length ≤ j) → Q .non S'
abbrev C_Desk___init__ (P : Program) (w : World) (K : PySem.W.Frag) (mg : Str → Option Value) (base : Heap) (CD CH : Addr) : Prop := ICal P w K mg base CD 1 ["self"] (sp_Desk___init__ CD CH)
theorem c_Desk___init__ (B : Bt mg) (T : DeskTxt K CD CH) (df : Df K "__init__" "Desk.__init__" s_Desk___init__ f) (hm : Mk K CD f) : C_Desk___init__ P w K mg base CD CH := by
  refine icalD df hm sc_Desk___init__ bd_Desk___init__ (fun ds S Q ⟨l, _, e, _⟩ => by rw [e]; rfl) ?_
  rintro cdv A outer s Hh E ds S Q hr bS bD ⟨l, S0, rfl, rfl, rfl, q⟩
  have st : ∀ (fs : List (Str × D)) (G : List Ob), (S0 ++ Ob.ins CD fs :: G)[S0.length]? = some (.ins CD fs) := fun fs G => by rw [List.getElem?_append_right (Nat.le_refl _)]; simp
  have se : ∀ (fs gs : List (Str × D)) (G : List Ob), (S0 ++ Ob.ins CD fs :: G).set S0.length (.ins CD gs) = S0 ++ Ob.ins CD gs :: G := fun fs gs G => by rw [List.set_append_right _ _ (Nat.le_refl _)]; simp
  have ap : ∀ (fs : List (Str × D)) (G : List Ob) (o : Ob), (S0 ++ Ob.ins CD fs :: G) ++ [o] = S0 ++ Ob.ins CD fs :: (G ++ [o]) := fun fs G o => by simp
  have ln : ∀ (fs : List (Str × D)) (G : List Ob), (S0 ++ Ob.ins CD fs :: G).length = S0.length + (G.length + 1) := fun fs G => by simp
  refine WSs.cons (WS.fld (C := CD) (WE.dK0 (WE.var 0 rfl ?_)) T.cd T.n_plugged)
  rw [ap, ln]
  refine ⟨_, _, rfl, st _ _, by decide, ?_⟩
  rw [se]
  refine WSs.cons (WS.fld (C := CD) (WE.dT0 (WE.var 0 rfl ?_)) T.cd T.n_marks)
  rw [ap, ln]
  refine ⟨_, _, rfl, st _ _, by show 1 < 1000; decide, ?_⟩
  rw [se]
  refine WSs.cons (WS.fld (C := CD) (WE.dK0 (WE.var 0 rfl ?_)) T.cd T.n_who)
  rw [ap, ln]
  refine ⟨_, _, rfl, st _ _, by show 2 < 1000; decide, ?_⟩
  rw [se]
  refine WSs.cons (WS.fld (C := CD) (WE.dT0 (WE.var 0 rfl ?_)) T.cd T.n_states)
  rw [ap, ln]
  refine ⟨_, _, rfl, st _ _, by show 3 < 1000; decide, ?_⟩
  rw [se]
  refine WSs.cons (WS.fld (C := CD) (WE.lst (WA.cons (WE.int (WA.cons (WE.int (WA.nil ⟨by show 2 ≤ sizeLine; exact sz (by decide), WE.var 0 rfl ?_⟩)))))) T.cd T.n_fresh)
  rw [ap, ln]
  refine ⟨_, _, rfl, st _ _, by show 4 < 1000; decide, ?_⟩
  rw [se]
  refine WSs.one (WS.fld (C := CD) (WE.lst (WA.nil ⟨Nat.zero_le _, WE.var 0 rfl ?_⟩)) T.cd T.n_log)
  rw [ap, ln]
  refine ⟨_, _, rfl, st _ _, by show 5 < 1000; decide, ?_⟩
  rw [se]
  have get : ∀ (G : List Ob) (i : Nat), (S0 ++ G)[S0.length + i]? = G[i]? := fun G i => by rw [List.getElem?_append_right (by omega)]; congr 1; omega
  refine WkD.same (q _ ⟨S0.length, S0.length + 1, S0.length + 2, S0.length + 3, S0.length + 4, S0.length + 5, S0.length + 6, []⟩ ⟨st _ _, ?_, ?_, ?_, ?_, ?_, ?_, rfl, fun i h p e => ?_, ?_⟩ rfl ⟨_, rfl⟩ ?_)
  · exact get _ 1
  · exact get _ 2
  · exact get _ 3
  · exact get _ 4
  · exact get _ 5
  · exact get _ 6
  · cases e
  · simp [At.all, At.fix, At.hps]
  · intro j hj
    simp [At.all, At.fix, At.hps] at hj
    omega
end

section
variable {P : Program} {w : World} {K : PySem.W.Frag} {mg : Str → Option Value} {base : Heap} {f : Addr} {CD CH : Addr}
abbrev N_Desk_plug : List Str := ["self", "thing", "number"]
theorem sc_Desk_plug : FnScope N_Desk_plug ["self", "thing"] (defScope s_Desk_plug) := ⟨rfl, rfl, rfl, by decide +kernel, rfl, by decide +kernel, by decide +kernel⟩
theorem bd_Desk_plug : BindOk "plug" "Desk.plug" s_Desk_plug ["self", "thing"] := fun _ _ _ _ _ _ us hl => match us, hl with | [_, _], _ => rfl
def sp_Desk_plug (CD CH : Addr) : SpD := fun ds S Q => ∃ a dk t, ds = [.loc a.l, eT t] ∧ DeskAt CD CH S a dk ∧ DI dk ∧ OkT 2 t ∧ dk.plugged.length < 6 ∧ dk.fresh.1 < 400 ∧ dk.log.length ≤ 15999700 ∧ ∀ S' a', DeskAt CD CH S' a' (dk.plug t) → Fra S S' a a' → Q (.int dk.fresh.1) S'
abbrev C_Desk_plug (P : Program) (w : World) (K : PySem.W.Frag) (mg : Str → Option Value) (base : Heap) (CD CH : Addr) : Prop := MCal P w K mg base CD "plug" 6 ["self", "thing"] (sp_Desk_plug CD CH)
theorem c_Desk_plug (B : Bt mg) (T : DeskTxt K CD CH) (c_MOST_THINGS : ∃ tk, mg "MOST_THINGS" = some (.int 6 tk)) (c_FREE : ∃ tk, mg "FREE" = some (.str "free" tk)) (G_need_thing : C_need_thing P w K mg base) (G_all_within : C_all_within P w K mg base) (G_Desk_think : C_Desk_think P w K mg base CD CH) (df : Df K "plug" "Desk.plug" s_Desk_plug f) (hm : Meth K CD "plug" f) : C_Desk_plug P w K mg base CD CH := by
  obtain ⟨t0, c_MOST_THINGS⟩ := c_MOST_THINGS
  obtain ⟨t1, c_FREE⟩ := c_FREE
  refine mcalD df hm sc_Desk_plug bd_Desk_plug (fun ds S Q ⟨a, dk, t, e, _⟩ => by rw [e]; rfl) ?_
  rintro cdv A outer s Hh E ds S Q hr bS bD ⟨a, dk, t, rfl, H, di, ht, h6, hf, hlog, q⟩
  have di2 := di.plug ht h6
  have f0 := di.f2.1
  refine WSs.cons (WS.expr (WE.cal G_need_thing (hr.mono (by first|decide|omega)) (WA.cons (WE.var 1 rfl (WA.nil ⟨t, rfl, ht, ?_⟩)))))
  refine WSs.cons (WS.ite (WT.cmp (WE.callB (WA.cons (WE.fld (WE.var 0 rfl ⟨_, _, _, rfl, H.self, rfl, (WA.nil (CW.lenD H.plugged (WE.globI c_MOST_THINGS (BW.eqI ⟨_, rfl, ⟨fun h => ?_, fun h => WSs.nil ?_⟩⟩))))⟩) T.cd T.n_plugged)) B.len PySem.boot_len)))
  · exfalso
    have := of_decide_eq_true h
    unfold mapT at this
    rw [List.length_map] at this
    omega
  refine WSs.cons (WS.set 2 (WE.ix (WE.fld (WE.var 0 rfl ⟨_, _, _, rfl, H.self, rfl, (WE.int (IW.list H.fresh rfl ?_))⟩) T.cd T.n_fresh)) sc_Desk_plug.nd)
  refine WSs.cons (WS.asg (WE.bin (WE.var 2 rfl (WE.int (BW.add (WG.setL (WE.fld (WE.var 0 rfl ⟨_, _, _, rfl, H.self, rfl, (WE.int ⟨a.lf, _, 0, 0, rfl, rfl, H.fresh, rfl, ?_⟩)⟩) T.cd T.n_fresh)))))))
  have H1 : DeskAt CD CH (S.set a.lf (.lst ([D.int dk.fresh.1, .int dk.fresh.2].set 0 (.int (dk.fresh.1 + 1))))) a _ := H.setF (dk.fresh.1 + 1, dk.fresh.2)
  have F1 : Fra S (S.set a.lf (.lst ([D.int dk.fresh.1, .int dk.fresh.2].set 0 (.int (dk.fresh.1 + 1))))) a a := Fra.set (At.fix_all (by simp [At.fix]))
  generalize S.set a.lf (.lst ([D.int dk.fresh.1, .int dk.fresh.2].set 0 (.int (dk.fresh.1 + 1)))) = S1 at *
  have dp1 : DP S1 (.loc a.lp) (.int dk.fresh.1) (eT t) (S1.set a.lp (.dK (mapT kI eT (putT dk.plugged dk.fresh.1 t)))) := by
    have := DP.k (d := eT t) (k := kI dk.fresh.1) H1.plugged (by unfold mapT; rw [List.length_map]; exact szl (show dk.plugged.length < 100000 by omega))
    have e := putT_mapT (e := eT) kI_inj dk.plugged dk.fresh.1 t
    rw [show ({ dk with fresh := (dk.fresh.1 + 1, dk.fresh.2) } : Dk).plugged = dk.plugged from rfl, e] at this
    exact this
  refine WSs.cons (WS.dput (WE.var 1 rfl (WE.fld (WE.var 0 rfl ⟨_, _, _, rfl, (H1).self, rfl, (WE.var 2 rfl ⟨_, dp1, ?_⟩)⟩) T.cd T.n_plugged)) hr.units)
  have H2 := H1.setP (putT dk.plugged dk.fresh.1 t)
  have F2 : Fra S1 (S1.set a.lp (.dK (mapT kI eT (putT dk.plugged dk.fresh.1 t)))) a a := Fra.set (At.fix_all (by simp [At.fix]))
  generalize S1.set a.lp (.dK (mapT kI eT (putT dk.plugged dk.fresh.1 t))) = S2 at *
  have wl := within13 (nm := [dk.fresh.1]) ht
  have ml := di.mlen
  refine WSs.cons (WS.expr (WE.bm PySem.F.plainAttrs_dict PySem.F.slot_dict_update PySem.F.type_dict_update (WE.fld (WE.var 0 rfl ⟨_, _, _, rfl, (H2).self, rfl, ⟨?_, (WA.cons (WE.callT (WA.cons (WE.cal G_all_within (hr.mono (by first|decide|omega)) (WA.cons (WE.var 2 rfl (WA.cons (WE.var 1 rfl (WA.nil ⟨dk.fresh.1, t, rfl, ht, (WA.nil (CW.dctLT (kvs := mapT kN eM (within [dk.fresh.1] t)) (by rw [← dict_arg]; simp) rfl hr.units (WA.nil (MW.updT (kvs := mapT kN eM dk.marks) (more := mapT kN eM (within [dk.fresh.1] t)) (get_app (get_app H2.marks)) (by rw [dict_new (within_nd _ t)]; simp) (by have := H2.lt a.lm (At.fix_all (by simp [At.fix])); simp; omega) (by unfold mapT; rw [List.length_map, List.length_map]; exact sz (by omega)) (.inr (hash_within _ _ ht f0 hf)) hr.units ?_))))⟩))))))) B.dict boot_dict))⟩⟩) T.cd T.n_marks)))
  · exact Or.inr ⟨rfl, Or.inr ⟨_, H2.marks⟩⟩
  rw [dict_new (within_nd _ t), putAllT_mapT kN_inj]
  have H3 := (H2.app (G := [Ob.lst ((within [dk.fresh.1] t).map wD)])).app (G := [Ob.dT (mapT kN eM (within [dk.fresh.1] t))]) |>.setM (putAllT dk.marks (within [dk.fresh.1] t))
  have F3 : Fra S2 ((S2 ++ [Ob.lst ((within [dk.fresh.1] t).map wD)] ++ [Ob.dT (mapT kN eM (within [dk.fresh.1] t))]).set a.lm (dMk (putAllT dk.marks (within [dk.fresh.1] t)))) a a := (Fra.app.trans Fra.app).trans (Fra.set (At.fix_all (by simp [At.fix])))
  show WSs _ _ _ _ ((S2 ++ [Ob.lst ((within [dk.fresh.1] t).map wD)] ++ [Ob.dT (mapT kN eM (within [dk.fresh.1] t))]).set a.lm (dMk (putAllT dk.marks (within [dk.fresh.1] t)))) _
  generalize (S2 ++ [Ob.lst ((within [dk.fresh.1] t).map wD)] ++ [Ob.dT (mapT kN eM (within [dk.fresh.1] t))]).set a.lm (dMk (putAllT dk.marks (within [dk.fresh.1] t))) = S3 at *
  have kl : dk.states.length ≤ 78 := by have := di.kc; unfold Dk.keys at this; rw [List.length_map] at this; exact this
  have dp3 : DP S3 (.loc a.ls) (eM [dk.fresh.1]) (saD (.free, none)) (S3.set a.ls (.dT (mapT kN saD (putT dk.states [dk.fresh.1] (.free, none))))) := by
    have := DP.t (d := saD (.free, none)) (k := kN [dk.fresh.1]) H3.states (by unfold mapT; rw [List.length_map]; exact szl (show dk.states.length < 100000 by omega))
    have e := putT_mapT (e := saD) kN_inj dk.states [dk.fresh.1] (.free, none)
    rw [show ∀ (x : Int × Int) (p : List (Int × Th)) (m : List (Nm × List Int)), ({ ({ ({ dk with fresh := x } : Dk) with plugged := p } : Dk) with marks := m } : Dk).states = dk.states from fun _ _ _ => rfl, e] at this
    rw [eM_key]; exact this
  refine WSs.cons (WS.dput (WE.tup (WA.cons (WE.globS c_FREE (WA.cons (WE.non (WA.nil ⟨by show 2 ≤ sizeLine; exact sz (by decide), (WE.fld (WE.var 0 rfl ⟨_, _, _, rfl, (H3).self, rfl, (WE.tup (WA.cons (WE.var 2 rfl (WA.nil ⟨by show 1 ≤ sizeLine; exact sz (by decide), ⟨_, dp3, ?_⟩⟩))))⟩) T.cd T.n_states)⟩)))))) hr.units)
  have H4 := H3.setS (putT dk.states [dk.fresh.1] (.free, none))
  have F4 : Fra S3 (S3.set a.ls (.dT (mapT kN saD (putT dk.states [dk.fresh.1] (.free, none))))) a a := Fra.set (At.fix_all (by simp [At.fix]))
  generalize S3.set a.ls (.dT (mapT kN saD (putT dk.states [dk.fresh.1] (.free, none)))) = S4 at *
  refine WSs.cons (WS.expr (WE.bm PySem.F.plainAttrs_list PySem.F.slot_list_append PySem.F.type_list_append (WE.fld (WE.var 0 rfl ⟨_, _, _, rfl, (H4).self, rfl, ⟨?_, (WA.cons (WE.tup (WA.cons (WE.str (WA.cons (WE.var 2 rfl (WA.cons (WE.var 1 rfl (WA.nil ⟨by show 3 ≤ sizeLine; exact sz (by decide), (WA.nil (MW.append (xs := dk.log.map enD) H4.log (by rw [List.length_map]; exact Nat.lt_of_le_of_lt hlog (by decide)) ?_))⟩)))))))))⟩⟩) T.cd T.n_log)))
  · exact Or.inl ⟨rfl, _, H4.log⟩
  have e5 : (dk.log ++ [En.plug dk.fresh.1 t]).map enD = dk.log.map enD ++ [.tup [.str "plug", .int dk.fresh.1, eT t]] := by simp [enD]
  have H5 : DeskAt CD CH (S4.set a.lg (.lst (dk.log.map enD ++ [.tup [.str "plug", .int dk.fresh.1, eT t]]))) a (dk.plugPre t) := by
    rw [← e5]; exact H4.setG (dk.log ++ [.plug dk.fresh.1 t])
  have F5 : Fra S (S4.set a.lg (.lst (dk.log.map enD ++ [.tup [.str "plug", .int dk.fresh.1, eT t]]))) a a := (((F1.trans F2).trans F3).trans F4).trans (Fra.set (At.fix_all (by simp [At.fix])))
  generalize S4.set a.lg (.lst (dk.log.map enD ++ [.tup [.str "plug", .int dk.fresh.1, eT t]])) = S5 at *
  have ll : (dk.plugPre t).log.length = dk.log.length + 1 := by show (dk.log ++ [_]).length = _; simp
  refine WSs.cons (WS.expr (WE.mcal0 G_Desk_think (hr.mono (by first|decide|omega)) T.cd (WE.var 0 rfl ⟨_, _, rfl, (H5).self, rfl, ⟨a, dk.plugPre t, rfl, H5, di2.toDC.dl, by omega, fun S6 a6 H6 F6 => ?_⟩⟩)))
  exact WSs.one (WS.ret (WE.var 2 rfl (WkD.same (q S6 a6 H6 (F5.trans F6)))))
abbrev N_Desk_come : List Str := ["self", "claims", "room", "number"]
theorem sc_Desk_come : FnScope N_Desk_come ["self", "claims", "room"] (defScope s_Desk_come) := ⟨rfl, rfl, rfl, by decide +kernel, rfl, by decide +kernel, by decide +kernel⟩
theorem bd_Desk_come : BindOk "come" "Desk.come" s_Desk_come ["self", "claims", "room"] := fun _ _ _ _ _ _ us hl => match us, hl with | [_, _, _], _ => rfl
def sp_Desk_come (CD CH : Addr) : SpD := fun ds S Q => ∃ a dk cs r, ds = [.loc a.l, eCs cs, .int r] ∧ DeskAt CD CH S a dk ∧ DI dk ∧ OkCs cs ∧ 0 ≤ r ∧ r ≤ 4 ∧ dk.who.length < 8 ∧ dk.fresh.2 < 1000 ∧ dk.log.length ≤ 15999700 ∧ ∀ S' a', DeskAt CD CH S' a' (dk.come cs r) → Fra S S' a a' → Q (.int dk.fresh.2) S'
abbrev C_Desk_come (P : Program) (w : World) (K : PySem.W.Frag) (mg : Str → Option Value) (base : Heap) (CD CH : Addr) : Prop := MCal P w K mg base CD "come" 6 ["self", "claims", "room"] (sp_Desk_come CD CH)
theorem c_Desk_come (B : Bt mg) (T : DeskTxt K CD CH) (c_MOST_HELPERS : ∃ tk, mg "MOST_HELPERS" = some (.int 8 tk)) (g_Helper : mg "Helper" = some (.ref CH)) (G_need_claims : C_need_claims P w K mg base) (G_need_room : C_need_room P w K mg base) (G_Helper___init__ : C_Helper___init__ P w K mg base CH) (G_Desk_think : C_Desk_think P w K mg base CD CH) (df : Df K "come" "Desk.come" s_Desk_come f) (hm : Meth K CD "come" f) : C_Desk_come P w K mg base CD CH := by
  obtain ⟨t0, c_MOST_HELPERS⟩ := c_MOST_HELPERS
  refine mcalD df hm sc_Desk_come bd_Desk_come (fun ds S Q ⟨a, dk, cs, r, e, _⟩ => by rw [e]; rfl) ?_
  rintro cdv A outer s Hh E ds S Q hr bS bD ⟨a, dk, cs, r, rfl, H, di, hcs, r0, r4, h8, hf, hlog, q⟩
  have di2 := di.come hcs r0 r4 h8 hf
  refine WSs.cons (WS.expr (WE.cal G_need_claims (hr.mono (by first|decide|omega)) (WA.cons (WE.var 1 rfl (WA.nil ⟨cs.map eC, rfl, pu_eCs (n := 17) hcs, by rw [List.length_map]; exact hcs.1, fun x hx => by obtain ⟨c, hc, rfl⟩ := List.mem_map.mp hx; exact claimOk_e (hcs.2 c hc), ?_⟩)))))
  refine WSs.cons (WS.expr (WE.cal G_need_room (hr.mono (by first|decide|omega)) (WA.cons (WE.var 2 rfl (WA.nil ⟨r, rfl, r0, r4, ?_⟩)))))
  refine WSs.cons (WS.ite (WT.cmp (WE.callB (WA.cons (WE.fld (WE.var 0 rfl ⟨_, _, _, rfl, H.self, rfl, (WA.nil (CW.lenD (S := S) (l := a.lw) H.who (WE.globI c_MOST_HELPERS (BW.eqI ⟨_, rfl, ⟨fun h => ?_, fun h => WSs.nil ?_⟩⟩))))⟩) T.cd T.n_who)) B.len PySem.boot_len)))
  · exfalso
    have := of_decide_eq_true h
    rw [List.length_map, List.length_zip, H.hlen] at this
    omega
  refine WSs.cons (WS.set 3 (WE.ix (WE.fld (WE.var 0 rfl ⟨_, _, _, rfl, H.self, rfl, (WE.int (IW.list H.fresh rfl ?_))⟩) T.cd T.n_fresh)) sc_Desk_come.nd)
  refine WSs.cons (WS.asg (WE.bin (WE.var 3 rfl (WE.int (BW.add (WG.setL (WE.fld (WE.var 0 rfl ⟨_, _, _, rfl, H.self, rfl, (WE.int ⟨a.lf, _, 1, 1, rfl, rfl, H.fresh, rfl, ?_⟩)⟩) T.cd T.n_fresh)))))))
  have H1 : DeskAt CD CH (S.set a.lf (.lst ([D.int dk.fresh.1, .int dk.fresh.2].set 1 (.int (dk.fresh.2 + 1))))) a _ := H.setF (dk.fresh.1, dk.fresh.2 + 1)
  have F1 : Fra S (S.set a.lf (.lst ([D.int dk.fresh.1, .int dk.fresh.2].set 1 (.int (dk.fresh.2 + 1))))) a a := Fra.set (At.fix_all (by simp [At.fix]))
  generalize S.set a.lf (.lst ([D.int dk.fresh.1, .int dk.fresh.2].set 1 (.int (dk.fresh.2 + 1)))) = S1 at *
  have nw : dk.fresh.2 ∉ dk.who.map (·.1) := fun z => by
    obtain ⟨p, hp, e⟩ := List.mem_map.mp z
    have := (di.wf p hp).2
    omega
  have esN : ((S1 ++ [Ob.ins CH []]) ++ [Ob.lst []]).set S1.length (.ins CH (helpFs ⟨cs, r, []⟩ (S1.length, (S1 ++ [Ob.ins CH []]).length))) = S1 ++ [Ob.ins CH (helpFs ⟨cs, r, []⟩ (S1.length, S1.length + 1)), Ob.lst []] := by
    have : (S1 ++ [Ob.ins CH []]).length = S1.length + 1 := by simp
    rw [this, List.append_assoc, List.set_append_right _ _ (Nat.le_refl _)]; simp
  have HN := H1.newH (n := dk.fresh.2) nw ⟨cs, r, []⟩ rfl
  have FN := Fra.newH (S := S1) (a := a) (G := [Ob.ins CH (helpFs ⟨cs, r, []⟩ (S1.length, S1.length + 1)), Ob.lst []]) (o := .dK (putT ((dk.who.zip a.hp).map fun x => (kI x.1.1, D.loc x.2.1)) (kI dk.fresh.2) (.loc S1.length))) rfl
  have dp1 : DP (S1 ++ [Ob.ins CH (helpFs ⟨cs, r, []⟩ (S1.length, S1.length + 1)), Ob.lst []]) (.loc a.lw) (.int dk.fresh.2) (.loc S1.length) ((S1 ++ [Ob.ins CH (helpFs ⟨cs, r, []⟩ (S1.length, S1.length + 1)), Ob.lst []]).set a.lw (.dK (putT ((dk.who.zip a.hp).map fun x => (kI x.1.1, D.loc x.2.1)) (kI dk.fresh.2) (.loc S1.length)))) :=
    DP.k (d := .loc S1.length) (k := kI dk.fresh.2) (get_app H1.who) (by rw [List.length_map, List.length_zip]; exact szl (show min dk.who.length a.hp.length < 100000 by omega))
  refine WSs.cons (WS.dput (WE.imk G_Helper___init__ (hr.mono (by first | decide | omega)) g_Helper (WA.cons (WE.var 1 rfl (WA.cons (WE.var 2 rfl (WA.nil ⟨S1.length, cs, r, rfl, by simp, rfl, ?_⟩)))))) hr.units)
  rw [esN]
  refine (WE.fld (WE.var 0 rfl ⟨_, _, _, rfl, (H1.app).self, rfl, (WE.var 3 rfl ⟨_, dp1, ?_⟩)⟩) T.cd T.n_who)
  generalize (S1 ++ [Ob.ins CH (helpFs ⟨cs, r, []⟩ (S1.length, S1.length + 1)), Ob.lst []]).set a.lw (.dK (putT ((dk.who.zip a.hp).map fun x => (kI x.1.1, D.loc x.2.1)) (kI dk.fresh.2) (.loc S1.length))) = S2 at *
  generalize ha2 : ({ a with hp := a.hp ++ [(S1.length, S1.length + 1)] } : At) = a2 at *
  have el : a2.l = a.l := by rw [← ha2]
  refine WSs.cons (WS.expr (WE.bm PySem.F.plainAttrs_list PySem.F.slot_list_append PySem.F.type_list_append (WE.fld (WE.var 0 rfl ⟨_, _, _, rfl, (HN.at el).self, rfl, ⟨?_, (WA.cons (WE.tup (WA.cons (WE.str (WA.cons (WE.var 3 rfl (WA.cons (WE.var 1 rfl (WA.cons (WE.var 2 rfl (WA.nil ⟨by show 4 ≤ sizeLine; exact sz (by decide), (WA.nil (MW.append (xs := dk.log.map enD) HN.log (by rw [List.length_map]; exact Nat.lt_of_le_of_lt hlog (by decide)) ?_))⟩)))))))))))⟩⟩) T.cd T.n_log)))
  · exact Or.inl ⟨rfl, _, HN.log⟩
  have e5 : (dk.log ++ [En.come dk.fresh.2 cs r]).map enD = dk.log.map enD ++ [.tup [.str "come", .int dk.fresh.2, eCs cs, .int r]] := by simp [enD]
  have H5 : DeskAt CD CH (S2.set a2.lg (.lst (dk.log.map enD ++ [.tup [.str "come", .int dk.fresh.2, eCs cs, .int r]]))) a2 (dk.comePre cs r) := by
    have h := HN.setG (dk.log ++ [.come dk.fresh.2 cs r])
    rw [e5] at h
    have e : dk.comePre cs r = { dk with who := dk.who ++ [(dk.fresh.2, ⟨cs, r, []⟩)], fresh := (dk.fresh.1, dk.fresh.2 + 1), log := dk.log ++ [.come dk.fresh.2 cs r] } := by
      unfold Dk.comePre
      rw [di.newW]
    rw [e]
    exact h
  have F5 : Fra S (S2.set a2.lg (.lst (dk.log.map enD ++ [.tup [.str "come", .int dk.fresh.2, eCs cs, .int r]]))) a a2 := (F1.trans FN).trans (Fra.set (At.fix_all (by simp [At.fix])))
  generalize S2.set a2.lg (.lst (dk.log.map enD ++ [.tup [.str "come", .int dk.fresh.2, eCs cs, .int r]])) = S5 at *
  have ll : (dk.comePre cs r).log.length = dk.log.length + 1 := by show (dk.log ++ [_]).length = _; simp
  refine WSs.cons (WS.expr (WE.mcal0 G_Desk_think (hr.mono (by first|decide|omega)) T.cd (WE.var 0 rfl ⟨_, _, rfl, (H5.at el).self, rfl, ⟨a2, dk.comePre cs r, by rw [el], H5, di2.toDC.dl, by omega, fun S6 a6 H6 F6 => ?_⟩⟩)))
  exact WSs.one (WS.ret (WE.var 3 rfl (WkD.same (q S6 a6 H6 (F5.trans F6)))))
end

theorem KG.putS {dk : Dk} (k : KG dk) {nm : Nm} {s : Sta × Option Int} (h : nm ∈ dk.keys) : KG (dk.putS nm s) := by
  have e := putS_keys (s := s) h
  exact { ks := by rw [e]; exact k.ks, kn := by rw [e]; exact k.kn, kc := by rw [e]; exact k.kc, wc := k.wc, wl := k.wl, wn := k.wn, wt := k.wt }
section
variable {P : Program} {w : World} {K : PySem.W.Frag} {mg : Str → Option Value} {base : Heap} {f : Addr} {CD CH : Addr}
abbrev N_Desk_unplug : List Str := ["self", "number", "name", "marks"]
theorem sc_Desk_unplug : FnScope N_Desk_unplug ["self", "number"] (defScope s_Desk_unplug) := ⟨rfl, rfl, rfl, by decide +kernel, rfl, by decide +kernel, by decide +kernel⟩
theorem bd_Desk_unplug : BindOk "unplug" "Desk.unplug" s_Desk_unplug ["self", "number"] := fun _ _ _ _ _ _ us hl => match us, hl with | [_, _], _ => rfl
def sp_Desk_unplug (CD CH : Addr) : SpD := fun ds S Q => ∃ a dk n, ds = [.loc a.l, .int n] ∧ DeskAt CD CH S a dk ∧ DI dk ∧ n ∈ dk.plugged.map (·.1) ∧ dk.log.length ≤ 15999700 ∧ ∀ S' a', DeskAt CD CH S' a' (dk.unplug n) → Fra S S' a a' → Q .non S'
abbrev C_Desk_unplug (P : Program) (w : World) (K : PySem.W.Frag) (mg : Str → Option Value) (base : Heap) (CD CH : Addr) : Prop := MCal P w K mg base CD "unplug" 8 ["self", "number"] (sp_Desk_unplug CD CH)
theorem c_Desk_unplug (B : Bt mg) (T : DeskTxt K CD CH) (G_is_number : C_is_number P w K mg base) (G_all_within : C_all_within P w K mg base) (G_Desk_gone : C_Desk_gone P w K mg base CD CH 2) (G_Desk_think : C_Desk_think P w K mg base CD CH) (df : Df K "unplug" "Desk.unplug" s_Desk_unplug f) (hm : Meth K CD "unplug" f) : C_Desk_unplug P w K mg base CD CH := by
  refine mcalD df hm sc_Desk_unplug bd_Desk_unplug (fun ds S Q ⟨a, dk, n, e, _⟩ => by rw [e]; rfl) ?_
  rintro cdv A outer s Hh E ds S Q hr bS bD ⟨a, dk, n, rfl, H, di, hn, hlog, q⟩
  obtain ⟨eg, dcg, di2⟩ := di.unplug hn
  obtain ⟨t, ht⟩ := getT_some hn
  obtain ⟨n0, n1, ot⟩ := di.pb _ (getT_mem ht)
  have dg : DG S (.loc a.lp) (.int n) (some (eT t)) := by
    have := DG.k (k := kI n) H.plugged
    rw [getT_mapT kI_inj, ht] at this; exact this
  refine WSs.cons (WS.ite (WT.bool (WP.or (WT.not (WT.val (WE.cal G_is_number (hr.mono (by first|decide|omega)) (WA.cons (WE.var 1 rfl (WA.cons (WE.int (WA.cons (WE.ix (WE.fld (WE.var 0 rfl ⟨_, _, _, rfl, H.self, rfl, (WE.int (IW.list H.fresh rfl (WA.nil ⟨.int n, 0, dk.fresh.1, rfl, rfl, ⟨_, rfl, ⟨fun h1 => iT ?_, fun h1 => (WP.or1 (WT.cmp (WE.var 1 rfl (WE.fld (WE.var 0 rfl ⟨_, _, _, rfl, H.self, rfl, (BW.notInD dg hr.units ⟨_, rfl, ⟨fun h => ?_, fun h => WSs.nil ?_⟩⟩)⟩) T.cd T.n_plugged))))⟩⟩⟩)))⟩) T.cd T.n_fresh)))))))))))))
  · exfalso; simp [numOk_e (x := n) (lo := 0) (hi := dk.fresh.1) ⟨n0, by show n ≤ dk.fresh.1; omega⟩] at h1
  · exfalso; simp at h
  refine WSs.cons (WS.expr (WE.bm PySem.F.plainAttrs_list PySem.F.slot_list_append PySem.F.type_list_append (WE.fld (WE.var 0 rfl ⟨_, _, _, rfl, H.self, rfl, ⟨?_, (WA.cons (WE.tup (WA.cons (WE.str (WA.cons (WE.var 1 rfl (WA.nil ⟨by show 2 ≤ sizeLine; exact sz (by decide), (WA.nil (MW.append (xs := dk.log.map enD) H.log (by rw [List.length_map]; exact Nat.lt_of_le_of_lt hlog (by decide)) ?_))⟩)))))))⟩⟩) T.cd T.n_log)))
  · exact Or.inl ⟨rfl, _, H.log⟩
  have e1 : (dk.log ++ [En.unplug n]).map enD = dk.log.map enD ++ [.tup [.str "unplug", .int n]] := by simp [enD]
  have H1 : DeskAt CD CH (S.set a.lg (.lst (dk.log.map enD ++ [.tup [.str "unplug", .int n]]))) a (dk.addL (.unplug n)) := by
    rw [← e1]; exact H.setG (dk.log ++ [.unplug n])
  have F1 : Fra S (S.set a.lg (.lst (dk.log.map enD ++ [.tup [.str "unplug", .int n]]))) a a := Fra.set (At.fix_all (by simp [At.fix]))
  generalize S.set a.lg (.lst (dk.log.map enD ++ [.tup [.str "unplug", .int n]])) = S1 at *
  have kg1 : KG (dk.addL (.unplug n)) := DC.kg (dk := dk.addL (.unplug n)) (di.toDC.log _)
  refine WSs.cons (WS.expr (WE.mcal G_Desk_gone (hr.mono (by first|decide|omega)) T.cd (WE.var 0 rfl ⟨_, _, rfl, (H1).self, rfl, (WA.cons (WE.tup (WA.cons (WE.var 1 rfl (WA.nil ⟨by show 1 ≤ sizeLine; exact sz (by decide), (WA.nil ⟨a, dk.addL (.unplug n), [n], rfl, H1, kg1, di.pk _ (getT_mem ht), (show 3 ≤ 1 + 2 by decide), fun S2 a2 H2 F2 => ?_⟩)⟩)))))⟩)))
  have go := goes_gone 3 (dk.addL (.unplug n)) [n]
  have hun : dk.unplugPre n = ({ ((dk.addL (.unplug n)).gone 3 [n]) with plugged := dropT ((dk.addL (.unplug n)).gone 3 [n]).plugged n } : Dk).unmark ((within [n] (dk.thingOf n)).map (·.1)) := rfl
  have hth : dk.thingOf n = t := by unfold Dk.thingOf; rw [ht]; rfl
  rw [hth] at hun
  have hp1 : ((dk.addL (.unplug n)).gone 3 [n]).plugged = dk.plugged := go.plugged
  have hl1 : ((dk.addL (.unplug n)).gone 3 [n]).log.length = dk.log.length + 1 := by rw [go.log]; show (dk.log ++ [_]).length = _; simp
  have hm1 : ((dk.addL (.unplug n)).gone 3 [n]).marks = dk.marks := go.marks
  have H2 : DeskAt CD CH S2 a2 ((dk.addL (.unplug n)).gone 3 [n]) := H2
  generalize (dk.addL (.unplug n)).gone 3 [n] = d1 at *
  have el2 := F2.ls.1
  have hpop : getT (mapT kI eT d1.plugged) (kI n) = some (eT t) := by rw [getT_mapT kI_inj, hp1, ht]; rfl
  have H3 := H2.setP (dropT d1.plugged n)
  have F3 : Fra S2 (S2.set a2.lp (.dK (mapT kI eT (dropT d1.plugged n)))) a2 a2 := Fra.set (At.fix_all (by simp [At.fix]))
  refine WSs.cons (WS.forL wD (WE.cal G_all_within (hr.mono (by first|decide|omega)) (WA.cons (WE.var 1 rfl (WA.cons (WE.bm PySem.F.plainAttrs_dict PySem.F.slot_dict_pop PySem.F.type_dict_pop (WE.fld (WE.var 0 rfl ⟨_, _, _, rfl, (H2.at el2).self, rfl, ⟨?_, (WA.cons (WE.var 1 rfl (WA.nil (MW.popK (k := kI n) H2.plugged hpop (WA.nil ?_)))))⟩⟩) T.cd T.n_plugged)))))) PassesOwn.never rfl)
  · exact Or.inr ⟨rfl, Or.inl ⟨_, H2.plugged⟩⟩
  rw [dropT_mapT kI_inj]
  refine ⟨n, t, rfl, ot, ⟨_, within [n] t, rfl, by simp, ?_⟩⟩
  generalize S2.set a2.lp (.dK (mapT kI eT (dropT d1.plugged n))) = S3 at *
  have H4 := H3.app (G := [Ob.lst ((within [n] t).map wD)])
  have F4 : Fra S3 (S3 ++ [Ob.lst ((within [n] t).map wD)]) a2 a2 := Fra.app
  have g4 : (S3 ++ [Ob.lst ((within [n] t).map wD)])[S3.length]? = some (Ob.lst ((within [n] t).map wD)) := by simp
  have hnot : S3.length ∉ a2.all := fun z => by have := H3.lt _ z; omega
  generalize S3 ++ [Ob.lst ((within [n] t).map wD)] = S4 at *
  refine ⟨fun pre v2 S5 => ∃ z1 z2, DeskAt CD CH S5 a2 (({ d1 with plugged := dropT d1.plugged n } : Dk).unmark (pre.map (·.1))) ∧ Fra S4 S5 a2 a2 ∧ v2 = [some (.loc a.l), some (.int n), z1, z2], ⟨none, none, H4, Fra.refl _ _, rfl⟩, fun _ _ _ ⟨_, _, _, F, _⟩ => F.keep _ _ hnot g4, ?_, ?_⟩
  · rintro pre x post v2 S5 e ⟨z1, z2, H5, F5, rfl⟩
    obtain ⟨nm, m⟩ := x
    refine (WG.tup rfl (WGs.cons (WG.name 2 (WGs.cons (WG.name 3 (WGs.nil ?_) sc_Desk_unplug.nd)) sc_Desk_unplug.nd)) rfl)
    have hmk : ∃ y, getT (({ d1 with plugged := dropT d1.plugged n } : Dk).unmark (pre.map (·.1))).marks nm = some y := by
      show ∃ y, getT ((pre.map (·.1)).foldl (fun m n => dropT m n) d1.marks) nm = some y
      rw [fold_drop, getT_filter (q := fun x => (pre.map (·.1)).all fun n => decide (x ≠ n)), hm1]
      · refine getT_some ?_
        rw [di.fm]
        refine List.mem_map.mpr ⟨(nm, m), List.mem_flatMap.mpr ⟨(n, t), getT_mem ht, by rw [e]; simp⟩, rfl⟩
      · refine List.all_eq_true.mpr fun y hy => decide_eq_true fun z => ?_
        have nd := within_nd [n] t
        rw [e, List.map_append, List.nodup_append] at nd
        exact nd.2.2 y hy nm (by simp) z.symm
    obtain ⟨y, hy⟩ := hmk
    refine WSs.one (WS.expr (WE.bm PySem.F.plainAttrs_dict PySem.F.slot_dict_pop PySem.F.type_dict_pop (WE.fld (WE.var 0 rfl ⟨_, _, _, rfl, (H5.at el2).self, rfl, ⟨?_, (WA.cons (WE.var 2 rfl (WA.nil (MW.popN (nm := nm) H5.marks hy hr.units ?_))))⟩⟩) T.cd T.n_marks)))
    · exact Or.inr ⟨rfl, Or.inr ⟨_, H5.marks⟩⟩
    refine WkE.same ⟨some (eM nm), some (eM m), ?_, F5.trans (Fra.set (At.fix_all (by simp [At.fix]))), rfl⟩
    have H6 := H5.setM (dropT (({ d1 with plugged := dropT d1.plugged n } : Dk).unmark (pre.map (·.1))).marks nm)
    have ef : ((pre ++ [(nm, m)]).map (·.1)).foldl (fun m n => dropT m n) d1.marks = dropT ((pre.map (·.1)).foldl (fun m n => dropT m n) d1.marks) nm := by simp
    show DeskAt CD CH _ a2 { d1 with plugged := dropT d1.plugged n, marks := ((pre ++ [(nm, m)]).map (·.1)).foldl (fun m n => dropT m n) d1.marks }
    rw [ef]
    exact H6
  · rintro v2 S5 ⟨z1, z2, H5, F5, rfl⟩
    rw [← hun] at H5
    have ll : (dk.unplugPre n).log.length = dk.log.length + 1 := by rw [hun]; exact hl1
    refine WSs.one (WS.expr (WE.mcal0 G_Desk_think (hr.mono (by first|decide|omega)) T.cd (WE.var 0 rfl ⟨_, _, rfl, (H5.at el2).self, rfl, ⟨a2, dk.unplugPre n, by rw [el2], H5, di2.toDC.dl, by omega, fun S6 a6 H6 F6 => ?_⟩⟩)))
    exact WkD.same (q S6 a6 H6 (((((F1.trans F2).trans F3).trans F4).trans F5).trans F6))
abbrev N_Desk_fall : List Str := ["self", "helper", "name"]
theorem sc_Desk_fall : FnScope N_Desk_fall ["self", "helper"] (defScope s_Desk_fall) := ⟨rfl, rfl, rfl, by decide +kernel, rfl, by decide +kernel, by decide +kernel⟩
theorem bd_Desk_fall : BindOk "fall" "Desk.fall" s_Desk_fall ["self", "helper"] := fun _ _ _ _ _ _ us hl => match us, hl with | [_, _], _ => rfl
def sp_Desk_fall (CD CH : Addr) : SpD := fun ds S Q => ∃ a dk n, ds = [.loc a.l, .int n] ∧ DeskAt CD CH S a dk ∧ DI dk ∧ n ∈ dk.who.map (·.1) ∧ dk.log.length ≤ 15999700 ∧ ∀ S' a', DeskAt CD CH S' a' (dk.fall n) → Fra S S' a a' → Q .non S'
abbrev C_Desk_fall (P : Program) (w : World) (K : PySem.W.Frag) (mg : Str → Option Value) (base : Heap) (CD CH : Addr) : Prop := MCal P w K mg base CD "fall" 7 ["self", "helper"] (sp_Desk_fall CD CH)
theorem c_Desk_fall (B : Bt mg) (T : DeskTxt K CD CH) (c_FREE : ∃ tk, mg "FREE" = some (.str "free" tk)) (G_Desk_helper : C_Desk_helper P w K mg base CD CH) (G_Desk_all_inner_gone : C_Desk_all_inner_gone P w K mg base CD CH 2) (G_Desk_think : C_Desk_think P w K mg base CD CH) (df : Df K "fall" "Desk.fall" s_Desk_fall f) (hm : Meth K CD "fall" f) : C_Desk_fall P w K mg base CD CH := by
  obtain ⟨t1, c_FREE⟩ := c_FREE
  refine mcalD df hm sc_Desk_fall bd_Desk_fall (fun ds S Q ⟨a, dk, n, e, _⟩ => by rw [e]; rfl) ?_
  rintro cdv A outer s Hh E ds S Q hr bS bD ⟨a, dk, n, rfl, H, di, hn, hlog, q⟩
  obtain ⟨di2, hl2⟩ := di.fall n
  obtain ⟨i, x, hi, rfl⟩ := who_at hn
  obtain ⟨p, hp⟩ := hp_at H hi
  have wf := di.wf x (List.mem_of_getElem? hi)
  refine WSs.cons (WS.expr (WE.mcal G_Desk_helper (hr.mono (by first|decide|omega)) T.cd (WE.var 0 rfl ⟨_, _, rfl, H.self, rfl, (WA.cons (WE.var 1 rfl (WA.nil ⟨a, dk, i, x, p, rfl, H, di.wn, hi, hp, wf.1, by omega, ?_⟩)))⟩)))
  refine WSs.cons (WS.expr (WE.bm PySem.F.plainAttrs_list PySem.F.slot_list_append PySem.F.type_list_append (WE.fld (WE.var 0 rfl ⟨_, _, _, rfl, H.self, rfl, ⟨?_, (WA.cons (WE.tup (WA.cons (WE.str (WA.cons (WE.var 1 rfl (WA.nil ⟨by show 2 ≤ sizeLine; exact sz (by decide), (WA.nil (MW.append (xs := dk.log.map enD) H.log (by rw [List.length_map]; exact Nat.lt_of_le_of_lt hlog (by decide)) ?_))⟩)))))))⟩⟩) T.cd T.n_log)))
  · exact Or.inl ⟨rfl, _, H.log⟩
  have e1 : (dk.log ++ [En.fall x.1]).map enD = dk.log.map enD ++ [.tup [.str "fall", .int x.1]] := by simp [enD]
  have H1 : DeskAt CD CH (S.set a.lg (.lst (dk.log.map enD ++ [.tup [.str "fall", .int x.1]]))) a (dk.addL (.fall x.1)) := by
    rw [← e1]; exact H.setG (dk.log ++ [.fall x.1])
  have F1 : Fra S (S.set a.lg (.lst (dk.log.map enD ++ [.tup [.str "fall", .int x.1]]))) a a := Fra.set (At.fix_all (by simp [At.fix]))
  generalize S.set a.lg (.lst (dk.log.map enD ++ [.tup [.str "fall", .int x.1]])) = S1 at *
  have hwho : getT ((dk.who.zip a.hp).map fun x => (kI x.1.1, D.loc x.2.1)) (kI x.1) = some (.loc p.1) := who_get H.hlen di.wn hi hp
  refine WSs.cons (WS.expr (WE.bm PySem.F.plainAttrs_dict PySem.F.slot_dict_pop PySem.F.type_dict_pop (WE.fld (WE.var 0 rfl ⟨_, _, _, rfl, (H1).self, rfl, ⟨?_, (WA.cons (WE.var 1 rfl (WA.nil (MW.popK (k := kI x.1) H1.who hwho ?_))))⟩⟩) T.cd T.n_who)))
  · exact Or.inr ⟨rfl, Or.inl ⟨_, H1.who⟩⟩
  have H2 := H1.dropH x.1
  have F2 := Fra.dropH H1 x.1 (o := .dK (dropT ((dk.who.zip a.hp).map fun x => (kI x.1.1, D.loc x.2.1)) (kI x.1)))
  show WSs _ _ _ _ (S1.set a.lw (.dK (dropT ((dk.who.zip a.hp).map fun x => (kI x.1.1, D.loc x.2.1)) (kI x.1)))) _
  have H2 : DeskAt CD CH (S1.set a.lw (.dK (dropT ((dk.who.zip a.hp).map fun x => (kI x.1.1, D.loc x.2.1)) (kI x.1)))) (a.dropH dk x.1) (dk.fall0 x.1) := H2
  have F2 : Fra S1 (S1.set a.lw (.dK (dropT ((dk.who.zip a.hp).map fun x => (kI x.1.1, D.loc x.2.1)) (kI x.1)))) a (a.dropH dk x.1) := F2
  generalize S1.set a.lw (.dK (dropT ((dk.who.zip a.hp).map fun x => (kI x.1.1, D.loc x.2.1)) (kI x.1))) = S2 at *
  generalize a.dropH dk x.1 = a2 at *
  have j0 := di.fall0 x.1
  have hfp := fallPre_eq dk x.1
  generalize dk.fall0 x.1 = d0 at *
  have el2 := F2.ls.1
  have kn := j0.dc.kg.toKN
  refine WSs.cons (WS.forL eM (WE.callB (WA.cons (WE.fld (WE.var 0 rfl ⟨_, _, _, rfl, (H2.at el2).self, rfl, (WA.nil (CW.sortDT (kvs := mapT kN saD d0.states) H2.states kn.srt.1 kn.srt.2.1 kn.srt.2.2 rfl hr.units ⟨_, sortN d0.keys, rfl, by rw [keys_sortS]; simp, ?_⟩))⟩) T.cd T.n_states)) B.sorted boot_sorted) PassesOwn.never rfl)
  rw [keys_sortS]
  have H3 := H2.app (G := [Ob.lst ((sortN d0.keys).map eM)])
  have F3 : Fra S2 (S2 ++ [Ob.lst ((sortN d0.keys).map eM)]) a2 a2 := Fra.app
  have g3 : (S2 ++ [Ob.lst ((sortN d0.keys).map eM)])[S2.length]? = some (Ob.lst ((sortN d0.keys).map eM)) := by simp
  have hnot : S2.length ∉ a2.all := fun z => by have := H2.lt _ z; omega
  generalize S2 ++ [Ob.lst ((sortN d0.keys).map eM)] = S3 at *
  refine ⟨fun pre v2 S4 => ∃ a4 z, DeskAt CD CH S4 a4 (pre.foldl (Dk.fallStep x.1) d0) ∧ Fra S3 S4 a2 a4 ∧ v2 = [some (.loc a.l), some (.int x.1), z], ⟨a2, none, H3, Fra.refl _ _, rfl⟩, fun _ _ _ ⟨_, _, _, F, _⟩ => F.keep _ _ hnot g3, ?_, ?_⟩
  · rintro pre nm post v2 S4 e ⟨a4, z, H4, F4, rfl⟩
    have j4 := FallJ.fold pre [] _ j0
    have tk : (pre ++ [nm]).foldl (Dk.fallStep x.1) d0 = Dk.fallStep x.1 (pre.foldl (Dk.fallStep x.1) d0) nm := by rw [List.foldl_append]; rfl
    generalize pre.foldl (Dk.fallStep x.1) d0 = d4 at *
    have el4 : a4.l = a.l := F4.ls.1.trans el2
    refine (WG.name 2 ?_ sc_Desk_fall.nd)
    have dg : DG S4 (.loc a4.ls) (eM nm) ((getT d4.states nm).map saD) := DG.n H4.states nm
    have kg := j4.dc.kg
    have same : Dk.fallStep x.1 d4 nm = d4 → WkE S3.length [some (.loc a.l), some (.int x.1), some (eM nm)] S4 fun v2 S4 => ∃ a4 z, DeskAt CD CH S4 a4 ((pre ++ [nm]).foldl (Dk.fallStep x.1) d0) ∧ Fra S3 S4 a2 a4 ∧ v2 = [some (.loc a.l), some (.int x.1), z] := fun h => WkE.same ⟨a4, some (eM nm), by rw [tk, h]; exact H4, F4, rfl⟩
    refine WSs.one (WS.ite (WT.bool (WP.and (WT.cmp (WE.var 2 rfl (WE.fld (WE.var 0 rfl ⟨_, _, _, rfl, (H4.at el4).self, rfl, (BW.inD dg hr.units ⟨_, rfl, ⟨fun h1 => ?_, fun h1 => iF (WSs.nil (same ?_))⟩⟩)⟩) T.cd T.n_states))))))
    · have hk : nm ∈ d4.keys := by
        cases hg : getT d4.states nm with
        | none => rw [hg] at h1; cases h1
        | some s => exact getT_in hg
      obtain ⟨st, hst⟩ := getT_some hk
      have hs := stOf_some hst
      have nl := kg.ks nm hk
      rw [hst] at dg
      refine WP.and1 (WT.cmp (WE.ix (WE.ix (WE.fld (WE.var 0 rfl ⟨_, _, _, rfl, (H4.at el4).self, rfl, (WE.var 2 rfl (IW.dct dg rfl hr.units (WE.int (IW.tup (xs := [.str st.1.s, D.ofO st.2]) (d := D.ofO st.2) rfl (WE.var 1 rfl (BW.eqO (i := st.2) (j := some x.1) ⟨_, rfl, ⟨fun h2 => ?_, fun h2 => WSs.nil (same ?_)⟩⟩))))))⟩) T.cd T.n_states))))
      · have c2 : st.2 = some x.1 := of_decide_eq_true h2
        have hstep : Dk.fallStep x.1 d4 nm = (d4.putS nm (.free, none)).innerGone 2 nm := by unfold Dk.fallStep; rw [hs, if_pos ⟨hk, c2⟩]
        have dp : DP S4 (.loc a4.ls) (eM nm) (saD (.free, none)) (S4.set a4.ls (.dT (mapT kN saD (putT d4.states nm (.free, none))))) := by
          have := DP.t (d := saD (.free, none)) (k := kN nm) H4.states (by unfold mapT; rw [List.length_map]; have h := kg.kc; unfold Dk.keys at h; rw [List.length_map] at h; exact szl (show d4.states.length < 100000 by omega))
          rw [putT_mapT kN_inj] at this
          rw [eM_key]; exact this
        refine WSs.cons (WS.dput (WE.tup (WA.cons (WE.globS c_FREE (WA.cons (WE.non (WA.nil ⟨by show 2 ≤ sizeLine; exact sz (by decide), (WE.fld (WE.var 0 rfl ⟨_, _, _, rfl, (H4.at el4).self, rfl, (WE.var 2 rfl ⟨_, dp, ?_⟩)⟩) T.cd T.n_states)⟩)))))) hr.units)
        have H5 := H4.setS (putT d4.states nm (.free, none))
        have F5 : Fra S4 (S4.set a4.ls (.dT (mapT kN saD (putT d4.states nm (.free, none))))) a4 a4 := Fra.set (At.fix_all (by simp [At.fix]))
        generalize S4.set a4.ls (.dT (mapT kN saD (putT d4.states nm (.free, none)))) = S5 at *
        refine WSs.one (WS.expr (WE.mcal G_Desk_all_inner_gone (hr.mono (by first|decide|omega)) T.cd (WE.var 0 rfl ⟨_, _, rfl, (H5.at el4).self, rfl, (WA.cons (WE.var 2 rfl (WA.nil ⟨a4, d4.putS nm (.free, none), nm, by rw [el4], H5, kg.putS hk, nl.2, by omega, fun S6 a6 H6 F6 => ?_⟩)))⟩)))
        exact WkE.same ⟨a6, some (eM nm), by rw [tk, hstep]; exact H6, (F4.trans F5).trans F6, rfl⟩
      · have c2 : ¬ st.2 = some x.1 := of_decide_eq_false h2
        unfold Dk.fallStep; rw [hs, if_neg fun z => c2 z.2]
    · have hk : nm ∉ d4.keys := fun z => by
        obtain ⟨s, hs⟩ := getT_some z
        rw [hs] at h1; cases h1
      unfold Dk.fallStep; rw [if_neg fun z => hk z.1]
  · rintro v2 S4 ⟨a4, z, H4, F4, rfl⟩
    rw [← hfp] at H4
    have el4 : a4.l = a.l := F4.ls.1.trans el2
    have ll : (dk.fallPre x.1).log.length = dk.log.length + 1 := by rw [hl2]; simp
    refine WSs.one (WS.expr (WE.mcal0 G_Desk_think (hr.mono (by first|decide|omega)) T.cd (WE.var 0 rfl ⟨_, _, rfl, (H4.at el4).self, rfl, ⟨a4, dk.fallPre x.1, by rw [el4], H4, di2.toDC.dl, by omega, fun S6 a6 H6 F6 => ?_⟩⟩)))
    exact WkD.same (q S6 a6 H6 ((((F1.trans F2).trans F3).trans F4).trans F6))
end

def oLt : Option Lt → D
  | none => .non
  | some lt => ltD lt
theorem mk_items (m : List (Nm × List Int)) : (mapT kN eM m).map (fun kv => ktD kv.1) = m.map fun q => eM q.1 := by
  unfold mapT
  rw [List.map_map]
  exact List.map_congr_left fun p _ => (eM_key p.1).symm
section
variable {X : Cx} {S : Store} {Q : D → Store → Prop}
theorem BW.eqLast {nm b : Nm} (h1 : 1 ≤ nm.length) (h3 : nm.length ≤ 3) (b3 : b.length ≤ 3) (hu : X.A.units + 64 < cLine) (h : Q (.bl (decide (nm.dropLast = b))) S) : BW X (compareOp .Eq) (.tup ((nm.map D.int).take (HT.sIx (nm.map D.int).length (nm.map D.int).length (some (-1))))) (eM b) S Q := by
  rw [last_eq nm h1]
  refine BW.eqP (pu_nm (by have := List.length_dropLast (xs := nm); omega)) (pu_nm b3) hu ?_
  have : decide (eM nm.dropLast = eM b) = decide (nm.dropLast = b) := by
    by_cases e : nm.dropLast = b
    · simp [e]
    · have : ¬ eM nm.dropLast = eM b := fun z => e (eM_inj z)
      simp [e, this]
  rw [this]; exact h
end
section
variable {P : Program} {w : World} {K : PySem.W.Frag} {mg : Str → Option Value} {base : Heap} {f : Addr} {CD CH : Addr}
abbrev N_Desk_answer : List Str := ["self", "helper", "row", "letter", "word", "name", "one"]
theorem sc_Desk_answer : FnScope N_Desk_answer ["self", "helper"] (defScope s_Desk_answer) := ⟨rfl, rfl, rfl, by decide +kernel, rfl, by decide +kernel, by decide +kernel⟩
theorem bd_Desk_answer : BindOk "answer" "Desk.answer" s_Desk_answer ["self", "helper"] := fun _ _ _ _ _ _ us hl => match us, hl with | [_, _], _ => rfl
def sp_Desk_answer (CD CH : Addr) : SpD := fun ds S Q => ∃ a dk n, ds = [.loc a.l, .int n] ∧ DeskAt CD CH S a dk ∧ DI dk ∧ n ∈ dk.who.map (·.1) ∧ dk.log.length ≤ 15999700 ∧ ∀ S' a', DeskAt CD CH S' a' (dk.answer n).2 → Fra S S' a a' → Q (oLt (dk.answer n).1) S'
abbrev C_Desk_answer (P : Program) (w : World) (K : PySem.W.Frag) (mg : Str → Option Value) (base : Heap) (CD CH : Addr) : Prop := MCal P w K mg base CD "answer" 7 ["self", "helper"] (sp_Desk_answer CD CH)
theorem c_Desk_answer (B : Bt mg) (T : DeskTxt K CD CH) (c_FREE : ∃ tk, mg "FREE" = some (.str "free" tk)) (c_HELD : ∃ tk, mg "HELD" = some (.str "held" tk)) (G_Desk_helper : C_Desk_helper P w K mg base CD CH) (G_Desk_all_inner_gone : C_Desk_all_inner_gone P w K mg base CD CH 2) (G_Desk_think : C_Desk_think P w K mg base CD CH) (df : Df K "answer" "Desk.answer" s_Desk_answer f) (hm : Meth K CD "answer" f) : C_Desk_answer P w K mg base CD CH := by
  obtain ⟨t1, c_FREE⟩ := c_FREE
  obtain ⟨t2, c_HELD⟩ := c_HELD
  refine mcalD df hm sc_Desk_answer bd_Desk_answer (fun ds S Q ⟨a, dk, n, e, _⟩ => by rw [e]; rfl) ?_
  rintro cdv A outer s Hh E ds S Q hr bS bD ⟨a, dk, n, rfl, H, di, hn, hlog, q⟩
  obtain ⟨i, x, hi, rfl⟩ := who_at hn
  obtain ⟨p, hp⟩ := hp_at H hi
  have hx := List.mem_of_getElem? hi
  have wf := di.wf x hx
  obtain ⟨g1, g2⟩ := H.help i x p hi hp
  have hwd : dk.whoD x.1 = x.2 := whoD_at di.wn hi
  refine WSs.cons (WS.set 2 (WE.fld (WE.mcal G_Desk_helper (hr.mono (by first|decide|omega)) T.cd (WE.var 0 rfl ⟨_, _, rfl, H.self, rfl, (WA.cons (WE.var 1 rfl (WA.nil ⟨a, dk, i, x, p, rfl, H, di.wn, hi, hp, wf.1, by omega, ⟨p.1, helpFs x.2 p, .loc p.2, rfl, g1, rfl, ?_⟩⟩)))⟩)) T.ch T.n_left) sc_Desk_answer.nd)
  refine WSs.cons (WS.ite (WT.cmp (WE.var 2 rfl (WE.lst (WA.nil ⟨by show 0 ≤ sizeLine; exact sz (by decide), (BW.eqVL (xs := x.2.left.map ltD) (ys := []) (get_app g2) (by simp) (pv_rows _) (fun _ h => by cases h) hr.units ⟨_, rfl, ⟨fun h => ?_, fun h => WSs.nil ?_⟩⟩)⟩)))))
  · have e0 : x.2.left = [] := by have := of_decide_eq_true h; exact List.map_eq_nil_iff.mp this
    have ea : dk.answer x.1 = (none, dk) := by unfold Dk.answer; rw [hwd, e0]
    rw [ea] at q
    exact WSs.one (WS.ret (WE.non (WkD.same (q _ a H.app Fra.app))))
  obtain ⟨lt, rest, hl⟩ : ∃ lt rest, x.2.left = lt :: rest := by
    cases e : x.2.left with
    | nil => rw [e] at h; exact absurd (of_decide_eq_false h) (by simp)
    | cons lt rest => exact ⟨lt, rest, rfl⟩
  have ea : dk.answer x.1 = (some lt, (dk.did x.1 lt).think) := by unfold Dk.answer; rw [hwd, hl]
  rw [ea] at q
  obtain ⟨di2, ll, _, _, _⟩ := di.did hx hl
  have dn := di.done1 hx hl
  have H0 := H.app (G := [Ob.lst []])
  have F0 : Fra S (S ++ [Ob.lst []]) a a := Fra.app
  have g20 : (S ++ [Ob.lst []])[p.2]? = some (.lst (ltD lt :: rest.map ltD)) := by have := get_app (G := [Ob.lst []]) g2; rw [hl] at this; exact this
  generalize S ++ [Ob.lst []] = S0 at *
  refine WSs.cons (WS.set 3 (WE.bm PySem.F.plainAttrs_list PySem.F.slot_list_pop PySem.F.type_list_pop (WE.var 2 rfl ⟨?_, (WA.cons (WE.int (WA.nil (MW.popAt (n := 0) g20 rfl rfl (by decide) ?_))))⟩)) sc_Desk_answer.nd)
  · exact Or.inl ⟨rfl, _, g20⟩
  have H1 : DeskAt CD CH (S0.set p.2 (.lst ((ltD lt :: rest.map ltD).eraseIdx 0))) a (dk.whoMod x.1 fun p => { p with left := p.left.drop 1 }) := by
    rw [whoMod_set di.wn hi, hl]
    exact H0.setL hi hp rest
  have F1 : Fra S0 (S0.set p.2 (.lst ((ltD lt :: rest.map ltD).eraseIdx 0))) a a := Fra.set (At.hps_all (At.mem_hps hp).2)
  generalize S0.set p.2 (.lst ((ltD lt :: rest.map ltD).eraseIdx 0)) = S1 at *
  refine WSs.cons (WS.asg (WE.var 3 rfl (WG.tup rfl (WGs.cons (WG.name 4 (WGs.cons (WG.name 5 (WGs.nil ?_) sc_Desk_answer.nd)) sc_Desk_answer.nd)) rfl)))
  refine WSs.cons (WS.expr (WE.bm PySem.F.plainAttrs_list PySem.F.slot_list_append PySem.F.type_list_append (WE.fld (WE.var 0 rfl ⟨_, _, _, rfl, (H1).self, rfl, ⟨?_, (WA.cons (WE.tup (WA.cons (WE.str (WA.cons (WE.var 1 rfl (WA.cons (WE.var 3 rfl (WA.nil ⟨by show 3 ≤ sizeLine; exact sz (by decide), (WA.nil (MW.append (xs := dk.log.map enD) H1.log (by rw [List.length_map]; exact Nat.lt_of_le_of_lt hlog (by decide)) ?_))⟩)))))))))⟩⟩) T.cd T.n_log)))
  · exact Or.inl ⟨rfl, _, H1.log⟩
  have e2 : (dk.log ++ [En.done x.1 lt]).map enD = dk.log.map enD ++ [.tup [.str "done", .int x.1, ltD lt]] := by simp [enD]
  have H2 : DeskAt CD CH (S1.set a.lg (.lst (dk.log.map enD ++ [.tup [.str "done", .int x.1, ltD lt]]))) a (dk.done1 x.1 lt) := by
    rw [← e2]; exact H1.setG (dk.log ++ [.done x.1 lt])
  have F2 : Fra S (S1.set a.lg (.lst (dk.log.map enD ++ [.tup [.str "done", .int x.1, ltD lt]]))) a a := (F0.trans F1).trans (Fra.set (At.fix_all (by simp [At.fix])))
  generalize S1.set a.lg (.lst (dk.log.map enD ++ [.tup [.str "done", .int x.1, ltD lt]])) = S2 at *
  have hdid := did_eq dk x.1 lt
  generalize dk.done1 x.1 lt = d1 at *
  have kg := dn.dc.kg
  have hk : lt.2 ∈ d1.keys := getT_in dn.st
  have nl := kg.ks _ hk
  have fin : ∀ S5 a5 (z : Option D), DeskAt CD CH S5 a5 (dk.did x.1 lt) → Fra S S5 a a5 → a5.l = a.l → WSs (cxOf CX0 P w K mg base N_Desk_answer "Desk.answer" (defScope s_Desk_answer) f cdv A outer s Hh E).nox S.length ((defBody s_Desk_answer).drop 6) [some (.loc a.l), some (.int x.1), some (.loc p.2), some (ltD lt), some (.str (ltS lt.1)), some (eM lt.2), z] S5 (fnEnds S.length Q) := fun S5 a5 z H5 F5 el5 => by
    refine WSs.cons (WS.expr (WE.mcal0 G_Desk_think (hr.mono (by first|decide|omega)) T.cd (WE.var 0 rfl ⟨_, _, rfl, (H5.at el5).self, rfl, ⟨a5, dk.did x.1 lt, by rw [el5], H5, di2.toDC.dl, by omega, fun S6 a6 H6 F6 => ?_⟩⟩)))
    exact WSs.one (WS.ret (WE.var 3 rfl (WkD.same (q S6 a6 H6 (F5.trans F6)))))
  have dp : ∀ {S3 : Store} {a3 : At} {d3 : Dk} (s : Sta × Option Int) (nm : Nm), DeskAt CD CH S3 a3 d3 → d3.states.length ≤ 1000 → DP S3 (.loc a3.ls) (eM nm) (saD s) (S3.set a3.ls (.dT (mapT kN saD (putT d3.states nm s)))) := fun {S3 a3 d3} s nm h hz => by
    have := DP.t (d := saD s) (k := kN nm) h.states (by unfold mapT; rw [List.length_map]; exact szl (show d3.states.length < 100000 by omega))
    rw [putT_mapT kN_inj] at this
    rw [eM_key]; exact this
  have slen : ∀ {d3 : Dk}, KG d3 → d3.states.length ≤ 1000 := fun {d3} k => by have h := k.kc; unfold Dk.keys at h; rw [List.length_map] at h; omega
  obtain ⟨b, nm⟩ := lt
  refine WSs.cons (WS.ite (WT.cmp (WE.var 4 rfl (WE.str (BW.eqS ⟨_, rfl, ⟨fun h => ?_, fun h => ?_⟩⟩)))))
  · have hb : b = true := by
      cases b with
      | true => rfl
      | false => exact absurd (of_decide_eq_true h) (show ¬ ltS false = ("take" : Str) by decide)
    subst hb
    rw [if_pos rfl] at hdid
    obtain ⟨j0, hn1, hw1⟩ := dn.take
    have dp1 := dp (.held, some x.1) nm H2 (slen kg)
    refine WSs.cons (WS.dput (WE.tup (WA.cons (WE.globS c_HELD (WA.cons (WE.var 1 rfl (WA.nil ⟨by show 2 ≤ sizeLine; exact sz (by decide), (WE.fld (WE.var 0 rfl ⟨_, _, _, rfl, (H2).self, rfl, (WE.var 5 rfl ⟨_, dp1, ?_⟩)⟩) T.cd T.n_states)⟩)))))) hr.units)
    have H3 := H2.setS (putT d1.states nm (.held, some x.1))
    have F3 : Fra S2 (S2.set a.ls (.dT (mapT kN saD (putT d1.states nm (.held, some x.1))))) a a := Fra.set (At.fix_all (by simp [At.fix]))
    have H3 : DeskAt CD CH (S2.set a.ls (.dT (mapT kN saD (putT d1.states nm (.held, some x.1))))) a (d1.putS nm (.held, some x.1)) := H3
    generalize S2.set a.ls (.dT (mapT kN saD (putT d1.states nm (.held, some x.1)))) = S3 at *
    have ltm := H3.lt a.lm (At.fix_all (by simp [At.fix]))
    refine WSs.one (WS.lockO (u := dMk d1.marks) (l := a.lm) trivial H3.marks fun o => WS.forM (fun q : Nm × List Int => eM q.1) (WI.keysT (WE.fld (WE.var 0 rfl ⟨_, _, _, rfl, (SelfAt.mk (CD := CD) (a := a) (l := a.l) (by rw [List.getElem?_set_ne (Ne.symm H3.fne.2.1)]; exact H3.self)).self, rfl, ⟨a.lm, o, _, rfl, List.getElem?_set_self ltm, d1.marks, mk_items _, ?_⟩⟩) T.cd T.n_marks)) PassesOwn.never rfl)
    refine ⟨fun pre v2 Sx => ∃ Su z, Sx = Su.set a.lm (.frz o (dMk d1.marks)) ∧ DeskAt CD CH Su a ((pre.map (·.1)).foldl (Dk.freeIn nm) (d1.putS nm (.held, some x.1))) ∧ Fra S3 Su a a ∧ v2 = [some (.loc a.l), some (.int x.1), some (.loc p.2), some (ltD (true, nm)), some (.str (ltS true)), some (eM nm), z], ⟨S3, none, rfl, H3, Fra.refl _ _, rfl⟩, fun _ _ _ _ => trivial, ?_, ?_⟩
    · rintro pre y post v2 Sx e ⟨Su, z, rfl, Hu, Fu, rfl⟩
      obtain ⟨one, m⟩ := y
      have hm1 : one ∈ d1.marks.map (·.1) := by rw [e]; simp
      have jp := FreeJ.fold hn1 hw1 (pre.map (·.1)) _ (fun y hy => by rw [e, List.map_append]; exact List.mem_append_left _ hy) j0
      have tk : ((pre ++ [(one, m)]).map (·.1)).foldl (Dk.freeIn nm) (d1.putS nm (.held, some x.1)) = Dk.freeIn nm ((pre.map (·.1)).foldl (Dk.freeIn nm) (d1.putS nm (.held, some x.1))) one := by simp
      generalize (pre.map (·.1)).foldl (Dk.freeIn nm) (d1.putS nm (.held, some x.1)) = d4 at *
      obtain ⟨o1, o3⟩ : 1 ≤ one.length ∧ one.length ≤ 3 := by
        obtain ⟨q, hq, rfl⟩ := List.mem_map.mp hm1
        obtain ⟨_, _, _, h1, h2, _⟩ := dn.dc.mk_of hq
        exact ⟨h1, h2⟩
      have lm := Hu.lt a.lm (At.fix_all (by simp [At.fix]))
      have gS : SelfAt CD (Su.set a.lm (.frz o (dMk d1.marks))) a.l a := ⟨by rw [List.getElem?_set_ne (Ne.symm Hu.fne.2.1)]; exact Hu.self⟩
      refine (WG.name 6 ?_ sc_Desk_answer.nd)
      refine WSs.one (WS.ite (WT.cmp (WE.slT (WE.var 6 rfl (WE.un (WE.int (UW.neg ⟨one.map D.int, -1, rfl, rfl, slT_ne o1, (WE.var 5 rfl (BW.eqLast o1 o3 nl.2 hr.units ⟨_, rfl, ⟨fun h2 => ?_, fun h2 => WSs.nil ?_⟩⟩))⟩)))))))
      · have c2 : one.dropLast = nm := of_decide_eq_true h2
        have hls : (Su.set a.lm (Ob.frz o (dMk d1.marks)))[a.ls]? = some (.dT (mapT kN saD d4.states)) := by
          rw [List.getElem?_set_ne Hu.fne.2.2.2.2.2.2.2.2.2.2.2.2.1]; exact Hu.states
        have dp2 : DP (Su.set a.lm (Ob.frz o (dMk d1.marks))) (.loc a.ls) (eM one) (saD (.free, none)) ((Su.set a.lm (Ob.frz o (dMk d1.marks))).set a.ls (.dT (mapT kN saD (putT d4.states one (.free, none))))) := by
          have hz := slen jp.dc.kg
          have := DP.t (d := saD (.free, none)) (k := kN one) hls (by unfold mapT; rw [List.length_map]; exact szl (show d4.states.length < 100000 by omega))
          rw [putT_mapT kN_inj] at this
          rw [eM_key]; exact this
        refine WSs.one (WS.dput (WE.tup (WA.cons (WE.globS c_FREE (WA.cons (WE.non (WA.nil ⟨by show 2 ≤ sizeLine; exact sz (by decide), (WE.fld (WE.var 0 rfl ⟨_, _, _, rfl, (gS).self, rfl, (WE.var 6 rfl ⟨_, dp2, ?_⟩)⟩) T.cd T.n_states)⟩)))))) hr.units)
        have H5 := Hu.setS (putT d4.states one (.free, none))
        refine WkE.same ⟨Su.set a.ls (.dT (mapT kN saD (putT d4.states one (.free, none)))), some (eM one), List.set_comm _ _ Hu.fne.2.2.2.2.2.2.2.2.2.2.2.2.1, ?_, Fu.trans (Fra.set (At.fix_all (by simp [At.fix]))), rfl⟩
        rw [tk]
        unfold Dk.freeIn
        rw [if_pos c2]; exact H5
      · have c2 : ¬ one.dropLast = nm := of_decide_eq_false h2
        refine WkE.same ⟨Su, some (eM one), rfl, ?_, Fu, rfl⟩
        rw [tk]
        unfold Dk.freeIn
        rw [if_neg c2]; exact Hu
    · rintro v2 Sx ⟨Su, z, rfl, Hu, Fu, rfl⟩
      have jp := FreeJ.fold hn1 hw1 (d1.marks.map (·.1)) _ (fun y hy => hy) j0
      rw [← hdid] at Hu jp
      have hmk : Su[a.lm]? = some (dMk d1.marks) := by have := Hu.marks; rw [jp.mq] at this; exact this
      refine ⟨List.getElem?_set_self (List.getElem?_eq_some_iff.mp hmk).1, ?_⟩
      rw [List.set_set, set_here hmk]
      exact fin Su a z Hu ((F2.trans F3).trans Fu) rfl
  · have hb : b = false := by
      cases b with
      | false => rfl
      | true => exact absurd rfl (of_decide_eq_false h)
    subst hb
    rw [if_neg (fun z => by cases z)] at hdid
    refine WSs.cons (WS.expr (WE.mcal G_Desk_all_inner_gone (hr.mono (by first|decide|omega)) T.cd (WE.var 0 rfl ⟨_, _, rfl, (H2).self, rfl, (WA.cons (WE.var 5 rfl (WA.nil ⟨a, d1, nm, rfl, H2, kg, nl.2, (show 3 ≤ nm.length + 2 by have : 1 ≤ nm.length := nl.1; omega), fun S3 a3 H3 F3 => ?_⟩)))⟩)))
    have go := goes_inner 2 d1 nm
    have kg3 := go.kg kg
    generalize d1.innerGone 2 nm = d3 at *
    have el3 := F3.ls.1
    have dp1 := dp (.free, none) nm H3 (slen kg3)
    refine WSs.one (WS.dput (WE.tup (WA.cons (WE.globS c_FREE (WA.cons (WE.non (WA.nil ⟨by show 2 ≤ sizeLine; exact sz (by decide), (WE.fld (WE.var 0 rfl ⟨_, _, _, rfl, (H3.at el3).self, rfl, (WE.var 5 rfl ⟨_, dp1, ?_⟩)⟩) T.cd T.n_states)⟩)))))) hr.units)
    have H4 := H3.setS (putT d3.states nm (.free, none))
    have F4 : Fra S3 (S3.set a3.ls (.dT (mapT kN saD (putT d3.states nm (.free, none))))) a3 a3 := Fra.set (At.fix_all (by simp [At.fix]))
    refine fin _ a3 none ?_ ((F2.trans F3).trans F4) el3
    rw [hdid]; exact H4
end

section
variable {X : Cx} {S : Store} {Q : D → Store → Prop}
theorem BW.notO {o : Option Lt} (h : Q (.bl o.isSome) S) : BW X (compareOp .IsNot) (oLt o) .non S Q := by
  cases o with
  | none => exact BW.notN false rfl h
  | some l => exact BW.notN true rfl h
end
section
variable {P : Program} {w : World} {K : PySem.W.Frag} {mg : Str → Option Value} {base : Heap} {f : Addr} {CD CH : Addr}
abbrev N_Desk_settle : List Str := ["self", "count", "number"]
theorem sc_Desk_settle : FnScope N_Desk_settle ["self"] (defScope s_Desk_settle) := ⟨rfl, rfl, rfl, by decide +kernel, rfl, by decide +kernel, by decide +kernel⟩
theorem bd_Desk_settle : BindOk "settle" "Desk.settle" s_Desk_settle ["self"] := fun _ _ _ _ _ _ us hl => match us, hl with | [_], _ => rfl
def sp_Desk_settle (CD CH : Addr) : SpD := fun ds S Q => ∃ (a : At) (dk : Dk) (n : Nat) (r : Int) (d' : Dk), ds = [.loc a.l] ∧ DeskAt CD CH S a dk ∧ Gd dk ∧ dk.settleN n 0 = some (r, d') ∧ dk.log.length + pot dk ≤ 15999000 ∧ ∀ S' a', DeskAt CD CH S' a' d' → Fra S S' a a' → Q (.int r) S'
abbrev C_Desk_settle (P : Program) (w : World) (K : PySem.W.Frag) (mg : Str → Option Value) (base : Heap) (CD CH : Addr) : Prop := MCal P w K mg base CD "settle" 8 ["self"] (sp_Desk_settle CD CH)
theorem c_Desk_settle (B : Bt mg) (T : DeskTxt K CD CH) (G_Desk_answer : C_Desk_answer P w K mg base CD CH) (df : Df K "settle" "Desk.settle" s_Desk_settle f) (hm : Meth K CD "settle" f) : C_Desk_settle P w K mg base CD CH := by
  refine mcalD df hm sc_Desk_settle bd_Desk_settle (fun ds S Q ⟨a, dk, n, r, d', e, _⟩ => by rw [e]; rfl) ?_
  rintro cdv A outer s Hh E ds S Q hr bS bD ⟨a, dk, n, r, d', rfl, H, gd, hs, hlog, q⟩
  refine WSs.cons (WS.set 1 (WE.int ?_) sc_Desk_settle.nd)
  refine WSs.cons (WS.while (fun m v2 S2 => ∃ a2 d c z, DeskAt CD CH S2 a2 d ∧ Gd d ∧ Fra S S2 a a2 ∧ d.settleN m c = some (r, d') ∧ d.log.length + pot d ≤ 15999000 ∧ v2 = [some (.loc a.l), some (.int c), z]) ⟨n, a, dk, 0, none, H, gd, Fra.refl _ _, hs, hlog, rfl⟩ ?_ PassesOwn.never)
  rintro m v2 S2 ⟨a2, d, c, z, H2, gd2, F2, hs2, hlog2, rfl⟩
  have di2 := gd2.di
  have el2 := F2.ls.1
  obtain ⟨k, rfl⟩ : ∃ k, m = k + 1 := by
    cases m with
    | zero => cases hs2
    | succ k => exact ⟨k, rfl⟩
  have lw := H2.lt a2.lw (At.fix_all (by simp [At.fix]))
  refine WT.cmp (WE.lock (u := whoOb d a2) (l := a2.lw) trivial H2.who fun o => ?_)
  obtain ⟨SL, hSL⟩ : ∃ SL, SL = S2.set a2.lw (.frz o (whoOb d a2)) := ⟨_, rfl⟩
  rw [← hSL]
  have lSL : SL.length = S2.length := by rw [hSL]; simp
  have g1 : SL[a2.lw]? = some (.frz o (whoOb d a2)) := by rw [hSL]; exact List.getElem?_set_self lw
  have gS : ∀ G, SelfAt CD (SL ++ G) a.l a2 := fun G => ⟨get_app (by rw [hSL, List.getElem?_set_ne (by rw [← el2]; exact Ne.symm H2.fne.2.2.1)]; exact (H2.at el2).self)⟩
  have gS0 : SelfAt CD SL a.l a2 := by have := gS []; rwa [List.append_nil] at this
  refine WE.bel fun bSL => ?_
  refine (WE.lcN 2 [("number", 2)] (WI.keysK (WE.fld (WE.var 0 rfl ⟨_, _, _, rfl, (gS0).self, rfl, ⟨a2.lw, o, _, rfl, g1, ?_⟩⟩) T.cd T.n_who)) (by decide) rfl sc_Desk_settle.nd (blkOk_by (N := N_Desk_settle) (sc := defScope s_Desk_settle) (by decide +kernel)) (fun Y hY => by obtain ⟨_, _, _, _, _, rfl⟩ := hY; exact pg_name sc_Desk_settle.nd rfl (Or.inl rfl)))
  refine lc_fm (fun h : Int × HpS => D.int h.1) d.who (fun h => if decide (h.2.left ≠ []) then some (D.int h.1) else none) (who_items H2.hlen) bSL (by have := di2.w8; omega) (fun _ => trivial) ?_ ?_
  · intro x acc hx
    obtain ⟨i, hi, ei⟩ := List.mem_iff_getElem.mp hx
    have hi' : d.who[i]? = some x := by rw [List.getElem?_eq_getElem hi, ei]
    obtain ⟨p, hp⟩ := hp_at H2 hi'
    obtain ⟨m1, m2⟩ := At.mem_hps hp
    obtain ⟨q1, q2⟩ := H2.help i x p hi' hp
    have dd := (At.nds H2.nd).2.2
    have dg : DG (SL ++ [.lst acc]) (.loc a2.lw) (.int x.1) (some (.loc p.1)) := by
      have := DG.fk (S := SL ++ [.lst acc]) (k := kI x.1) (get_app g1)
      rw [who_get H2.hlen di2.wn hi' hp] at this; exact this
    have gp1 : (SL ++ [.lst acc])[p.1]? = some (.ins CH (helpFs x.2 p)) := get_app (by rw [hSL, List.getElem?_set_ne (dd a2.lw (by simp [At.fix]) _ m1)]; exact q1)
    have gp2 : (SL ++ [.lst acc])[p.2]? = some (.lst (x.2.left.map ltD)) := get_app (by rw [hSL, List.getElem?_set_ne (dd a2.lw (by simp [At.fix]) _ m2)]; exact q2)
    refine ⟨_, rfl, fun Y hY => ?_⟩
    obtain ⟨_, _, _, _, _, rfl⟩ := hY
    refine (WT.cmp (WE.fld (WE.ix (WE.fld (WE.var 0 rfl ⟨_, _, _, rfl, (gS _).self, rfl, (WE.var 2 rfl (IW.dct dg rfl hr.units ⟨p.1, helpFs x.2 p, .loc p.2, rfl, gp1, rfl, (WE.lst (WA.nil ⟨by show 0 ≤ sizeLine; exact sz (by decide), (BW.neVL (xs := x.2.left.map ltD) (ys := []) (get_app gp2) (by simp) (pv_rows _) (fun _ h => by cases h) hr.units ⟨_, rfl, ⟨⟨[Ob.lst []], rfl⟩, fun hb Z hZ => ?_, fun hb => ?_⟩⟩)⟩))⟩))⟩) T.cd T.n_who)) T.ch T.n_left))
    · obtain ⟨_, _, _, _, _, rfl⟩ := hZ
      have hne : x.2.left ≠ [] := fun z => by rw [z] at hb; simp at hb
      exact WE.var 2 rfl ⟨⟨[Ob.lst []], rfl⟩, rfl, by rw [decide_eq_true hne]; rfl⟩
    · have hne : ¬ x.2.left ≠ [] := fun z => by
        have : ¬ (x.2.left.map ltD = []) := fun y => z (List.map_eq_nil_iff.mp y)
        simp [this] at hb
      rw [decide_eq_false hne]; rfl
  · rw [fm_filter]
    refine ⟨get_app g1, ?_⟩
    obtain ⟨fl, hfl⟩ : ∃ fl, fl = (d.who.filter fun h => decide (h.2.left ≠ [])).map fun h => D.int h.1 := ⟨_, rfl⟩
    rw [← hfl]
    have es : (SL ++ [Ob.lst fl]).set a2.lw (whoOb d a2) = S2 ++ [Ob.lst fl] := by
      rw [List.set_append_left _ _ (by rw [lSL]; exact lw), hSL, List.set_set, set_here H2.who]
    rw [es, lSL]
    have pf : ∀ y ∈ fl, pu 60 y = true := fun y hy => by
      rw [hfl] at hy
      obtain ⟨h, _, rfl⟩ := List.mem_map.mp hy
      rfl
    have hov : (fl = []) ↔ d.over = true := by rw [hfl, List.map_eq_nil_iff]; exact over_filter d
    refine WE.lst (WA.nil ⟨Nat.zero_le _, BW.neL (xs := fl) (ys := []) (get_app (by simp)) (by simp) pf (fun _ h => by cases h) hr.units ⟨_, rfl, fun hb => ?_, fun hb => ?_⟩⟩)
    · have ho : ¬ d.over = true := fun z => by rw [hov.mpr z] at hb; simp at hb
      have hs3 : (d.round c).2.settleN k (d.round c).1 = some (r, d') := by
        have := hs2; unfold Dk.settleN at this; rw [if_neg ho] at this; exact this
      have H3 := (H2.app (G := [Ob.lst fl])).app (G := [Ob.lst []])
      have F3 : Fra S2 (S2 ++ [Ob.lst fl] ++ [Ob.lst []]) a2 a2 := Fra.app.trans Fra.app
      generalize S2 ++ [Ob.lst fl] ++ [Ob.lst []] = S3 at *
      have hw : S3[a2.lw]? = some (.dK (((d.who.zip a2.hp).map fun x => (x.1.1, D.loc x.2.1)).map fun p => (.inl p.1, p.2))) := by rw [List.map_map]; exact H3.who
      have hnum := zip_fst (who := d.who) (hp := a2.hp) H3.hlen
      have w8 := di2.w8
      refine WSs.one (WS.forL D.int (WE.callB (WA.cons (WE.fld (WE.var 0 rfl ⟨_, _, _, rfl, (H3.at el2).self, rfl, (WA.nil (CW.sortDI hw (by rw [List.length_map, List.length_zip]; omega) rfl ⟨_, sortI (d.who.map (·.1)), rfl, by rw [hnum]; simp, ?_⟩))⟩) T.cd T.n_who)) B.sorted boot_sorted) PassesOwn.never rfl)
      rw [hnum]
      have H4 := H3.app (G := [Ob.lst ((sortI (d.who.map (·.1))).map D.int)])
      have F4 : Fra S3 (S3 ++ [Ob.lst ((sortI (d.who.map (·.1))).map D.int)]) a2 a2 := Fra.app
      have g4 : (S3 ++ [Ob.lst ((sortI (d.who.map (·.1))).map D.int)])[S3.length]? = some (Ob.lst ((sortI (d.who.map (·.1))).map D.int)) := by simp
      have hnot : S3.length ∉ a2.all := fun z => by have := H3.lt _ z; omega
      have ls : (sortI (d.who.map (·.1))).length ≤ 8 := by rw [(sortI_perm _).length_eq, List.length_map]; exact w8
      generalize S3 ++ [Ob.lst ((sortI (d.who.map (·.1))).map D.int)] = S4 at *
      refine ⟨fun pre v3 S5 => ∃ a5 d5 c5 z post, sortI (d.who.map (·.1)) = pre ++ post ∧ DeskAt CD CH S5 a5 d5 ∧ Fra S4 S5 a2 a5 ∧ Ans d d5 ∧ d5.roundI post c5 = d.round c ∧ v3 = [some (.loc a.l), some (.int c5), z], ⟨a2, d, c, z, _, rfl, H4, Fra.refl _ _, Ans.refl gd2, rfl, rfl⟩, fun _ _ _ ⟨_, _, _, _, _, _, _, F, _⟩ => F.keep _ _ hnot g4, ?_, ?_⟩
      · rintro pre h post' v3 S5 e ⟨a5, d5, c5, z5, post, e2, H5, F5, w5, hr5, rfl⟩
        obtain rfl : post = h :: post' := List.append_cancel_left (e2.symm.trans e)
        have el5 : a5.l = a.l := F5.ls.1.trans el2
        have hh : h ∈ d5.who.map (·.1) := by rw [w5.wk]; exact (sortI_perm _).mem_iff.mp (by rw [e]; simp)
        have lp : pre.length < 8 := by rw [e] at ls; simp at ls; omega
        have lg5 := w5.lg
        have wa := w5.gd.answer hh
        refine (WG.name 2 ?_ sc_Desk_settle.nd)
        refine WSs.one (WS.set 1 (WE.bin (WE.var 1 rfl (WE.callT (WA.cons (WE.cmp (WE.mcal G_Desk_answer (hr.mono (by first|decide|omega)) T.cd (WE.var 0 rfl ⟨_, _, rfl, (H5.at el5).self, rfl, (WA.cons (WE.var 2 rfl (WA.nil ⟨a5, d5, h, by rw [el5], H5, w5.gd.di, hh, by omega, fun S6 a6 H6 F6 => (WE.non (BW.notO (WA.nil (CW.intB (BW.add ?_)))))⟩)))⟩)))) B.int boot_int))) sc_Desk_settle.nd)
        refine WkE.same ⟨a6, (d5.answer h).2, c5 + (if (d5.answer h).1.isSome then 1 else 0), some (.int h), post', by rw [e]; simp, H6, F5.trans F6, w5.trans wa, hr5, rfl⟩
      · rintro v3 S5 ⟨a5, d5, c5, z5, post, e2, H5, F5, w5, hr5, rfl⟩
        have : post = [] := by simpa using e2
        subst this
        have hr5 : (c5, d5) = d.round c := hr5
        rw [← hr5] at hs3
        have lgw := w5.lg
        exact WkE.same ⟨k, Nat.lt_succ_self k, a5, d5, c5, z5, H5, w5.gd, ((F2.trans F3).trans F4).trans F5, hs3, by show d5.log.length + pot d5 ≤ 15999000; omega, rfl⟩
    · have ho : d.over = true := hov.mp (by simpa using hb)
      have := hs2
      unfold Dk.settleN at this
      rw [if_pos ho] at this
      cases this
      refine WSs.one (WS.ret (WE.var 1 rfl (WkD.same (q _ a2 (H2.app.app) (F2.trans (Fra.app.trans Fra.app))))))
end

/-! ### what the laws draw -/
section
variable {P : Program} {w : World} {K : PySem.W.Frag} {mg : Str → Option Value} {base : Heap} {f : Addr}
abbrev N__law_mix : List Str := ["_law_script", "_law_seed", "_law_mixed", "_law_cell"]
theorem sc__law_mix : FnScope N__law_mix ["_law_script", "_law_seed"] (defScope s__law_mix) := ⟨rfl, rfl, rfl, by decide +kernel, rfl, by decide +kernel, by decide +kernel⟩
theorem bd__law_mix : BindOk "_law_mix" "_law_mix" s__law_mix ["_law_script", "_law_seed"] := fun _ _ _ _ _ _ us hl => match us, hl with | [_, _], _ => rfl
def sp__law_mix (K : PySem.W.Frag) : SpD := fun ds S Q => ∃ d ns seed, ds = [d, .int seed] ∧ S = [] ∧ ScrD K d ns ∧ ns.length ≤ 63 ∧ Q (.loc 1) (dS (mixDr ns seed) [])
abbrev C__law_mix (P : Program) (w : World) (K : PySem.W.Frag) (mg : Str → Option Value) (base : Heap) : Prop := Cal P w K mg base "_law_mix" 1 ["_law_script", "_law_seed"] (sp__law_mix K)
theorem c__law_mix (B : Bt mg) (df : Df K "_law_mix" "_law_mix" s__law_mix f) (hm : mg "_law_mix" = some (.ref f)) : C__law_mix P w K mg base := by
  refine calD df hm sc__law_mix bd__law_mix (fun ds S Q ⟨d, ns, seed, e, _⟩ => by rw [e]; rfl) ?_
  rintro cdv A outer s H E ds S Q hr bS bD ⟨d, ns, seed, rfl, rfl, hs, hl, q⟩
  refine WSs.cons (WS.set 2 (WE.var 1 rfl ?_) sc__law_mix.nd)
  refine WSs.cons (WS.for (WI.scr (WE.var 0 rfl ⟨ns, hs, ?_⟩)) PassesOwn.never rfl)
  refine ⟨fun i v2 S2 => S2 = [] ∧ ∃ z, v2 = [some d, some (.int seed), some (.int (mixI (ns.take i) seed)), z], ⟨rfl, none, rfl⟩, fun _ _ _ _ _ => trivial, ?_, ?_⟩
  · rintro i d' v2 S2 hd ⟨rfl, z, rfl⟩
    have hd : (ns.map D.int)[i]? = some d' := hd
    obtain ⟨c, hci, rfl⟩ : ∃ c, ns[i]? = some c ∧ d' = .int c := by
      rw [List.getElem?_map] at hd
      cases e : ns[i]? with
      | none => rw [e] at hd; cases hd
      | some c => rw [e] at hd; exact ⟨c, rfl, (Option.some.inj hd).symm⟩
    refine WG.name 3 ?_ sc__law_mix.nd
    refine WSs.one (WS.set 2 (WE.bin (WE.bin (WE.bin (WE.bin (WE.var 2 rfl (WE.int (BW.mul (by first | exact .inr ⟨by decide, by decide⟩ | exact .inl ⟨by decide, by decide⟩) (WE.bin (WE.var 3 rfl (WE.int (BW.mod (by decide) (BW.add (WE.int (BW.add (WE.int (BW.mod (by decide) (WkE.same ⟨rfl, some (.int c), ?_⟩))))))))))))))))) sc__law_mix.nd)
    have : ns.take (i + 1) = ns.take i ++ [c] := by rw [List.take_add_one, hci]; rfl
    unfold mixI
    rw [this, List.foldl_append]
    rfl
  · rintro v2 S2 ⟨rfl, z, rfl⟩
    rw [show (Src.items ⟨ns.map D.int, fun _ => True⟩) = ns.map D.int from rfl, List.length_map, List.take_length]
    refine WSs.one (WS.ret (WE.lst (WA.cons (WE.var 2 rfl (WA.cons (WE.callT (WA.cons (WE.var 0 rfl (WA.nil (CW.listScr hs (WA.cons (WE.int (WA.nil ⟨by show 3 ≤ sizeLine; exact sz (by decide), (WkD.same q)⟩))))))) B.list boot_list))))))
abbrev N__law_next : List Str := ["_law_h", "_law_many", "_law_at", "_law_cell"]
theorem sc__law_next : FnScope N__law_next ["_law_h", "_law_many"] (defScope s__law_next) := ⟨rfl, rfl, rfl, by decide +kernel, rfl, by decide +kernel, by decide +kernel⟩
theorem bd__law_next : BindOk "_law_next" "_law_next" s__law_next ["_law_h", "_law_many"] := fun _ _ _ _ _ _ us hl => match us, hl with | [_, _], _ => rfl
def sp__law_next : SpD := fun ds S Q => ∃ dr R k, ds = [.loc 1, .int k] ∧ S = dS dr R ∧ 0 < k ∧ k < 1073741824 ∧ Q (.int (nx dr k).1) (dS (nx dr k).2 R)
abbrev C__law_next (P : Program) (w : World) (K : PySem.W.Frag) (mg : Str → Option Value) (base : Heap) : Prop := Cal P w K mg base "_law_next" 1 ["_law_h", "_law_many"] sp__law_next
theorem c__law_next (B : Bt mg) (df : Df K "_law_next" "_law_next" s__law_next f) (hm : mg "_law_next" = some (.ref f)) : C__law_next P w K mg base := by
  refine calD df hm sc__law_next bd__law_next (fun ds S Q ⟨dr, R, k, e, _⟩ => by rw [e]; rfl) ?_
  rintro cdv A outer s H E ds S Q hr bS bD ⟨dr, R, k, rfl, rfl, hk0, hk1, q⟩
  have e0 : ∀ dr' : Dr, (dS dr' R)[0]? = some (.lst (dr'.cells.map D.int)) := fun _ => rfl
  have hmx : 0 < (if 1 < dr.cells.length then dr.cells.length else 1) := by split <;> omega
  have hpl : dr.pl < dr.cells.length ∨ dr.cells = [] := by
    by_cases h : dr.cells = []
    · exact .inr h
    · have : 0 < dr.cells.length := List.length_pos_iff.mpr h
      have h2 := Nat.mod_lt dr.at_ hmx
      have h3 : dr.pl = dr.at_ % (if 1 < dr.cells.length then dr.cells.length else 1) := rfl
      left
      rw [h3]
      split at h2 <;> rename_i h4
      · rw [if_pos h4]; exact h2
      · rw [if_neg h4]; omega
  refine WSs.cons (WS.set 2 (WE.bin (WE.ix (WE.var 0 rfl (WE.int (IW.list (l := 1) rfl rfl (WE.callB (WA.cons (WE.int (WA.cons (WE.callB (WA.cons (WE.ix (WE.var 0 rfl (WE.int (IW.list (l := 1) rfl rfl (WA.nil (CW.lenL (e0 dr) (WA.nil (CW.max2 rfl (BW.mod (by split <;> omega) ?_)))))))))) B.len PySem.boot_len)))) B.max boot_max)))))) sc__law_next.nd)
  have eat : ((dr.at_ : Int) % (if ((dr.cells.map D.int).length : Int) > 1 then ((dr.cells.map D.int).length : Int) else 1)) = (dr.pl : Int) := by
    rw [List.length_map]
    show _ = ((dr.at_ % (if 1 < dr.cells.length then dr.cells.length else 1) : Nat) : Int)
    by_cases h : 1 < dr.cells.length
    · rw [if_pos h, if_pos (by omega)]; omega
    · rw [if_neg h, if_neg (by omega)]; omega
  rw [eat]
  refine WSs.cons (WS.set 3 (WE.ite (WT.cmp (WE.ix (WE.var 0 rfl (WE.int (IW.list (l := 1) rfl rfl (WE.lst (WA.nil ⟨by show 0 ≤ sizeLine; exact sz (by decide), ?_⟩)))))))) sc__law_next.nd)
  refine BW.neL (l := 0) (xs := dr.cells.map D.int) (ys := []) rfl (by simp) (fun x hx => by obtain ⟨c, _, rfl⟩ := List.mem_map.mp hx; rfl) (fun _ h => by cases h) hr.units ?_
  have go : WSs (cxOf CX0 P w K mg base N__law_next "_law_next" (defScope s__law_next) f cdv A outer s H E).nox (dS dr R).length ((defBody s__law_next).drop 2) [some (.loc 1), some (.int k), some (.int (dr.pl : Int)), some (.int dr.cell)] (dS dr R ++ [.lst []]) (fnEnds (dS dr R).length Q) := by
    have fin : ∀ G, WkD (dS dr R).length (.int (nx dr k).1) (dS (nx dr k).2 R ++ G) Q := fun G => ⟨_, _, cov_dS bS rfl, q⟩
    refine WSs.cons (WS.ite (WT.cmp (WE.var 3 rfl (WE.bin (WE.int (WE.int (BW.pow ⟨by decide, by decide, by decide⟩ (BW.ge ⟨_, rfl, ⟨fun h1 => ?_, fun h1 => ?_⟩⟩))))))))
    · have hc : (1000000000000000000 : Int) ≤ dr.cell := by
        have := of_decide_eq_true h1
        exact Int.le_trans (by decide) this
      have en : nx dr k = (dr.cell % k, ⟨dr.m, dr.cells.set dr.pl (dr.cell / k), dr.at_⟩) := by unfold nx; rw [if_pos hc]
      have hne : dr.pl < dr.cells.length := hpl.resolve_right fun z => by
        have : dr.cell = 0 := by unfold Dr.cell; rw [if_pos z]
        omega
      refine WSs.cons (WS.asg (WE.bin (WE.var 3 rfl (WE.var 1 rfl (BW.fdiv ⟨hk0, hk1⟩ (WG.setL (WE.ix (WE.var 0 rfl (WE.int (IW.list (l := 1) rfl rfl (WE.var 2 rfl ⟨0, dr.cells.map D.int, (dr.pl : Int), dr.pl, rfl, rfl, rfl, ?_, ?_⟩)))))))))))
      · unfold ixN
        rw [List.length_map, if_pos (by omega), if_pos (by omega)]
        simp
      · refine WSs.one (WS.ret (WE.bin (WE.var 3 rfl (WE.var 1 rfl (BW.mod hk0 ?_)))))
        have := fin [.lst []]
        rw [en] at this
        have e2 : (dr.cells.map D.int).set dr.pl (.int (dr.cell / k)) = (dr.cells.set dr.pl (dr.cell / k)).map D.int := by rw [List.map_set]
        show WkD _ _ (.lst ((dr.cells.map D.int).set dr.pl (.int (dr.cell / k))) :: _) Q
        rw [e2]
        exact this
    · have hc : ¬ (1000000000000000000 : Int) ≤ dr.cell := fun z => by
        have := of_decide_eq_false h1
        exact this (Int.le_trans (by decide) z)
      have en : nx dr k = ((dr.m * 48271 + dr.cell * 69621 + 11) % 2147483647 / 7 % k, ⟨(dr.m * 48271 + dr.cell * 69621 + 11) % 2147483647, dr.cells, dr.at_ + 1⟩) := by unfold nx; rw [if_neg hc]
      refine WSs.nil ?_
      refine WSs.cons (WS.asg (WE.bin (WE.bin (WE.bin (WE.bin (WE.ix (WE.var 0 rfl (WE.int (IW.list (l := 1) rfl rfl (WE.int (BW.mul (by first | exact .inr ⟨by decide, by decide⟩ | exact .inl ⟨by decide, by decide⟩) (WE.bin (WE.var 3 rfl (WE.int (BW.mul (by first | exact .inr ⟨by decide, by decide⟩ | exact .inl ⟨by decide, by decide⟩) (BW.add (WE.int (BW.add (WE.int (BW.mod (by decide) (WG.setL (WE.var 0 rfl (WE.int ⟨1, _, 0, 0, rfl, rfl, rfl, rfl, ?_⟩)))))))))))))))))))))))
      refine WSs.cons (WS.asg (WE.bin (WE.ix (WE.var 0 rfl (WE.int (IW.list (l := 1) rfl rfl (WE.int (BW.add (WG.setL (WE.var 0 rfl (WE.int ⟨1, _, 2, 2, rfl, rfl, rfl, rfl, ?_⟩)))))))))))
      refine WSs.one (WS.ret (WE.bin (WE.bin (WE.ix (WE.var 0 rfl (WE.int (IW.list (l := 1) rfl rfl (WE.int (BW.fdiv ⟨by decide, by decide⟩ (WE.var 1 rfl (BW.mod hk0 ?_)))))))))))
      have := fin [.lst []]
      rw [en] at this
      exact this
  refine ⟨_, rfl, fun h1 => ?_, fun h1 => ?_⟩
  · have hne : dr.cells ≠ [] := by simpa using h1
    have hp := hpl.resolve_right hne
    refine (WE.ix (WE.ix (WE.var 0 rfl (WE.int (IW.list (l := 1) rfl rfl (WE.var 2 rfl (IW.list (l := 0) (xs := dr.cells.map D.int) (d := .int (dr.cells.getD dr.pl 0)) rfl (at_ints hp) ?_)))))))
    have : dr.cell = dr.cells.getD dr.pl 0 := by unfold Dr.cell; rw [if_neg hne]
    rw [← this]
    exact go
  · have hne : dr.cells = [] := by simpa using h1
    refine WE.int ?_
    have : dr.cell = 0 := by unfold Dr.cell; rw [if_pos hne]
    rw [this] at go
    exact go
end

section
variable {P : Program} {w : World} {K : PySem.W.Frag} {mg : Str → Option Value} {base : Heap} {f : Addr}
abbrev N__law_marks : List Str := ["_law_h", "_law_k"]
theorem sc__law_marks : FnScope N__law_marks ["_law_h"] (defScope s__law_marks) := ⟨rfl, rfl, rfl, by decide +kernel, rfl, by decide +kernel, by decide +kernel⟩
theorem bd__law_marks : BindOk "_law_marks" "_law_marks" s__law_marks ["_law_h"] := fun _ _ _ _ _ _ us hl => match us, hl with | [_], _ => rfl
def sp__law_marks : SpD := fun ds S Q => ∃ dr R, ds = [.loc 1] ∧ S = dS dr R ∧ Q (eM (dMarks dr).1) (dS (dMarks dr).2 R)
abbrev C__law_marks (P : Program) (w : World) (K : PySem.W.Frag) (mg : Str → Option Value) (base : Heap) : Prop := Cal P w K mg base "_law_marks" 2 ["_law_h"] sp__law_marks
theorem c__law_marks (B : Bt mg) (G__law_next : C__law_next P w K mg base) (df : Df K "_law_marks" "_law_marks" s__law_marks f) (hm : mg "_law_marks" = some (.ref f)) : C__law_marks P w K mg base := by
  refine calD df hm sc__law_marks bd__law_marks (fun ds S Q ⟨dr, R, e, _⟩ => by rw [e]; rfl) ?_
  rintro cdv A outer s H E ds S Q hr bS bD ⟨dr, R, rfl, rfl, q⟩
  refine WSs.one (WS.ret (WE.callT (WA.cons (WE.lcN 1 [("_law_k", 1)] (WI.range1 (WA.cons (WE.int (WA.nil ⟨3, rfl, by decide, by decide, ?_⟩))) B.range) (by decide) rfl sc__law_marks.nd (blkOk_by (N := N__law_marks) (sc := defScope s__law_marks) (by decide +kernel))
        (fun Y hY => by obtain ⟨_, _, _, _, _, rfl⟩ := hY; exact pg_name sc__law_marks.nd rfl (Or.inl rfl)))) B.tuple boot_tuple))
  refine lc_draw (fun (k : Nat) => D.int (0 + (k : Int))) D.int dMark (List.range 3) (fun _ _ => rfl) bS (by decide) (fun _ _ => trivial) ?_ ?_
  · intro b dr' acc hb
    refine ⟨_, rfl, fun Y hY => ?_⟩
    obtain ⟨_, _, _, _, _, rfl⟩ := hY
    have h1 := nx_bd dr' (k := 3) (by decide)
    have h2 := pick3_bd h1
    refine (WE.cal G__law_next (hr.mono (by first|decide|omega)) (WA.cons (WE.var 0 rfl (WA.cons (WE.ix (WE.lst (WA.cons (WE.int (WA.cons (WE.int (WA.cons (WE.int (WA.nil ⟨by show 3 ≤ sizeLine; exact sz (by decide), (WE.cal G__law_next (hr.mono (by first|decide|omega)) (WA.cons (WE.var 0 rfl (WA.cons (WE.int (WA.nil ⟨dr', R ++ [.lst acc] ++ [.lst [.int 2, .int 3, .int 10]], 3, rfl, rfl, by decide, by decide, (IW.list (xs := [.int 2, .int 3, .int 10]) (by simp [dS]) h2.2.2 (WA.nil ⟨(nx dr' 3).2, R ++ [.lst acc] ++ [.lst [.int 2, .int 3, .int 10]], pick3 (nx dr' 3).1, rfl, rfl, by omega, by omega, ⟨rfl, [.lst [.int 2, .int 3, .int 10]], rfl⟩⟩))⟩))))))⟩)))))))))))))
  · refine WA.nil (CW.tupL (xs := (dMarks dr).1.map D.int) ?_ ?_)
    · show (R ++ [Ob.lst ((dMarks dr).1.map D.int)])[R.length]? = _
      simp
    · exact ⟨_, _, cov_dS (dr' := (dMarks dr).2) (G := [.lst ((dMarks dr).1.map D.int)]) bS (bel_eM _), q⟩
abbrev N__law_claims : List Str := ["_law_h", "_law_found", "_law_k", "_law_marks_here", "_law_wanted", "_law_mark"]
theorem sc__law_claims : FnScope N__law_claims ["_law_h"] (defScope s__law_claims) := ⟨rfl, rfl, rfl, by decide +kernel, rfl, by decide +kernel, by decide +kernel⟩
theorem bd__law_claims : BindOk "_law_claims" "_law_claims" s__law_claims ["_law_h"] := fun _ _ _ _ _ _ us hl => match us, hl with | [_], _ => rfl
def sp__law_claims : SpD := fun ds S Q => ∃ dr R, ds = [.loc 1] ∧ S = dS dr R ∧ Q (eCs (dClaims dr).1) (dS (dClaims dr).2 R)
abbrev C__law_claims (P : Program) (w : World) (K : PySem.W.Frag) (mg : Str → Option Value) (base : Heap) : Prop := Cal P w K mg base "_law_claims" 3 ["_law_h"] sp__law_claims
theorem c__law_claims (B : Bt mg) (G__law_next : C__law_next P w K mg base) (G__law_marks : C__law_marks P w K mg base) (df : Df K "_law_claims" "_law_claims" s__law_claims f) (hm : mg "_law_claims" = some (.ref f)) : C__law_claims P w K mg base := by
  refine calD df hm sc__law_claims bd__law_claims (fun ds S Q ⟨dr, R, e, _⟩ => by rw [e]; rfl) ?_
  rintro cdv A outer s H E ds S Q hr bS bD ⟨dr, R, rfl, rfl, q⟩
  refine WSs.cons (WS.set 1 (WE.lst (WA.nil ⟨by show 0 ≤ sizeLine; exact sz (by decide), ?_⟩)) sc__law_claims.nd)
  have h1 := nx_bd dr (k := 2) (by decide)
  have h2 := pick2_bd 3 7 h1
  have h3 := nx_bd (nx dr 2).2 (k := (([3, 7] : List Int).getD (nx dr 2).1.toNat 0)) (by rcases h2.1 with e | e <;> rw [e] <;> decide)
  have hk : 0 < (([3, 7] : List Int).getD (nx dr 2).1.toNat 0) ∧ (([3, 7] : List Int).getD (nx dr 2).1.toNat 0) ≤ 7 := by rcases h2.1 with e | e <;> rw [e] <;> decide
  refine WSs.cons (WS.for (WI.range1 (WA.cons (WE.cal G__law_next (hr.mono (by first|decide|omega)) (WA.cons (WE.var 0 rfl (WA.cons (WE.ix (WE.lst (WA.cons (WE.int (WA.cons (WE.int (WA.nil ⟨by show 2 ≤ sizeLine; exact sz (by decide), (WE.cal G__law_next (hr.mono (by first|decide|omega)) (WA.cons (WE.var 0 rfl (WA.cons (WE.int (WA.nil ⟨dr, R ++ [.lst []] ++ [.lst [.int 3, .int 7]], 2, rfl, rfl, by decide, by decide, (IW.list (xs := [.int 3, .int 7]) (by simp [dS]) h2.2 (WA.nil ⟨(nx dr 2).2, R ++ [.lst []] ++ [.lst [.int 3, .int 7]], _, rfl, rfl, hk.1, by omega, (WA.nil ⟨_, rfl, by omega, by omega, ?_⟩)⟩))⟩))))))⟩)))))))))))) B.range) PassesOwn.never rfl)
  generalize hn : (nx (nx dr 2).2 (([3, 7] : List Int).getD (nx dr 2).1.toNat 0)).1.toNat = n at *
  generalize hd1 : (nx (nx dr 2).2 (([3, 7] : List Int).getD (nx dr 2).1.toNat 0)).2 = dr1 at *
  have hdc : dClaims dr = dMap dClaim (List.range n) dr1 := by
    show dMap dClaim (List.range (nx (nx dr 2).2 (([3, 7] : List Int).getD (nx dr 2).1.toNat 0)).1.toNat) (nx (nx dr 2).2 (([3, 7] : List Int).getD (nx dr 2).1.toNat 0)).2 = _
    rw [hn, hd1]
  have hn7 : n ≤ 7 := by omega
  refine ⟨fun i v2 S2 => S2 = dS (dMap dClaim (List.range i) dr1).2 (R ++ [.lst ((dMap dClaim (List.range i) dr1).1.map eC), .lst [.int 3, .int 7]]) ∧ ∃ z2 z3 z4 z5, v2 = [some (.loc 1), some (.loc (R.length + 2)), z2, z3, z4, z5], ⟨by simp [dMap, dS], none, none, none, none, rfl⟩, fun _ _ _ _ _ => trivial, ?_, ?_⟩
  · rintro i d v2 S2 hd ⟨rfl, z2, z3, z4, z5, rfl⟩
    obtain ⟨hi, rfl⟩ := rngD_get.mp hd
    generalize he : dMap dClaim (List.range i) dr1 = st at *
    obtain ⟨cl, dr2⟩ := st
    have hcl : cl.length = i := by have := dMap_len dClaim (List.range i) dr1; rw [he, List.length_range] at this; exact this
    refine WG.name 2 ?_ sc__law_claims.nd
    refine WSs.cons (WS.set 3 (WE.cal G__law_marks (hr.mono (by first|decide|omega)) (WA.cons (WE.var 0 rfl (WA.nil ⟨dr2, _, rfl, rfl, ?_⟩)))) sc__law_claims.nd)
    have b1 : belS (R.length + 4) R := belS_mono (by show R.length + 2 ≤ _; omega) (bel_dR bS)
    have bR : ∀ (cs' : List (List Int × Int)) (dr' : Dr), belS (dS dr' (R ++ [Ob.lst (cs'.map eC), Ob.lst [D.int 3, D.int 7]])).length (dS dr' (R ++ [Ob.lst (cs'.map eC), Ob.lst [D.int 3, D.int 7]])) := fun cs' dr' => by
      have e : (dS dr' (R ++ [Ob.lst (cs'.map eC), Ob.lst [D.int 3, D.int 7]])).length = R.length + 4 := by simp [dS]
      rw [e]
      refine belS_cons (belInts _) (belS_cons ?_ (belS_append b1 (belS_cons (belAll_map bel_eC _) (belS_cons rfl belS_nil))))
      show (true && (decide (0 < R.length + 4) && (true && true))) = true
      simp
    refine WSs.cons (WS.set 4 (WE.callT (WA.cons (WE.lcN 5 [("_law_mark", 5)] (WI.tup (WE.var 3 rfl ⟨(dMarks dr2).1.map D.int, rfl, ?_⟩)) (by decide) rfl sc__law_claims.nd (blkOk_by (N := N__law_claims) (sc := defScope s__law_claims) (by decide +kernel))
        (fun Y hY => by obtain ⟨_, _, _, _, _, rfl⟩ := hY; exact pg_name sc__law_claims.nd rfl (Or.inl rfl)))) B.tuple boot_tuple) sc__law_claims.nd)
    refine lc_draw D.int D.int dWant (dMarks dr2).1 (fun _ _ => rfl) (bR cl _) (by rw [(dMarks_ok dr2).1]; decide) (fun _ _ => trivial) ?_ ?_
    · intro b dr' acc hb
      refine ⟨_, rfl, fun Y hY => ?_⟩
      obtain ⟨_, _, _, _, _, rfl⟩ := hY
      refine WE.ite (WT.cmp (WE.cal G__law_next (hr.mono (by first|decide|omega)) (WA.cons (WE.var 0 rfl (WA.cons (WE.int (WA.nil ⟨dr', _ ++ [.lst acc], 2, rfl, rfl, by decide, by decide, (WE.int (BW.eqI ⟨_, rfl, ⟨fun h => ?_, fun h => ?_⟩⟩))⟩)))))))
      · have h0 : (nx dr' 2).1 = 0 := of_decide_eq_true h
        refine WE.var 5 rfl ⟨?_, [], ?_⟩
        · show D.int b = .int (if (nx dr' 2).1 = 0 then b else -1)
          rw [if_pos h0]
        · simp [dS, dWant]
      · have h0 : ¬ (nx dr' 2).1 = 0 := of_decide_eq_false h
        refine WE.un (WE.int (UW.neg ⟨?_, [], ?_⟩))
        · show D.int (-1) = .int (if (nx dr' 2).1 = 0 then b else -1)
          rw [if_neg h0]
        · simp [dS, dWant]
    · refine WA.nil (CW.tupL (xs := (dMap dWant (dMarks dr2).1 (dMarks dr2).2).1.map D.int) (by simp [dS]) ?_)
      generalize hw : dMap dWant (dMarks dr2).1 (dMarks dr2).2 = wt
      obtain ⟨want, dr4⟩ := wt
      have g1 := nx_bd dr4 (k := 2) (by decide)
      have g2 := pick2_bd 2 10 g1
      have gk : 0 < (([2, 10] : List Int).getD (nx dr4 2).1.toNat 0) ∧ (([2, 10] : List Int).getD (nx dr4 2).1.toNat 0) ≤ 10 := by rcases g2.1 with e | e <;> rw [e] <;> decide
      refine WSs.one (WS.expr (WE.bm PySem.F.plainAttrs_list PySem.F.slot_list_append PySem.F.type_list_append (WE.var 1 rfl ⟨?_, (WA.cons (WE.tup (WA.cons (WE.var 4 rfl (WA.cons (WE.cal G__law_next (hr.mono (by first|decide|omega)) (WA.cons (WE.var 0 rfl (WA.cons (WE.ix (WE.lst (WA.cons (WE.int (WA.cons (WE.int (WA.nil ⟨by show 2 ≤ sizeLine; exact sz (by decide), (WE.cal G__law_next (hr.mono (by first|decide|omega)) (WA.cons (WE.var 0 rfl (WA.cons (WE.int (WA.nil ⟨dr4, R ++ [.lst (cl.map eC), .lst [.int 3, .int 7]] ++ [.lst (want.map D.int)] ++ [.lst [.int 2, .int 10]], 2, rfl, rfl, by decide, by decide, (IW.list (xs := [.int 2, .int 10]) (by simp [dS]) g2.2 (WA.nil ⟨(nx dr4 2).2, R ++ [.lst (cl.map eC), .lst [.int 3, .int 7]] ++ [.lst (want.map D.int)] ++ [.lst [.int 2, .int 10]], _, rfl, rfl, gk.1, by omega, (WA.nil ⟨by show 2 ≤ sizeLine; exact sz (by decide), (WA.nil (MW.append (xs := cl.map eC) (by simp [dS]) (by rw [List.length_map, hcl]; exact szl (by omega)) ?_))⟩)⟩))⟩))))))⟩))))))))))))))))⟩)))
      · exact Or.inl ⟨rfl, cl.map eC, by simp [dS]⟩
      · have ec : dMap dClaim (List.range (i + 1)) dr1 = (cl ++ [(want, (nx (nx dr4 2).2 (([2, 10] : List Int).getD (nx dr4 2).1.toNat 0)).1)], (nx (nx dr4 2).2 (([2, 10] : List Int).getD (nx dr4 2).1.toNat 0)).2) := by
          rw [List.range_succ, dMap_snoc, he]
          show (cl ++ [(dClaim i dr2).1], (dClaim i dr2).2) = _
          have : dClaim i dr2 = ((want, (nx (nx dr4 2).2 (([2, 10] : List Int).getD (nx dr4 2).1.toNat 0)).1), (nx (nx dr4 2).2 (([2, 10] : List Int).getD (nx dr4 2).1.toNat 0)).2) := by
            unfold dClaim
            simp only [hw]
          rw [this]
        generalize nx (nx dr4 2).2 (([2, 10] : List Int).getD (nx dr4 2).1.toNat 0) = r5 at *
        have es : (dS r5.2 (R ++ [.lst (cl.map eC), .lst [.int 3, .int 7]] ++ [.lst (want.map D.int)] ++ [.lst [.int 2, .int 10]])).set (R.length + 2) (.lst (cl.map eC ++ [.tup [.tup (want.map D.int), .int r5.1]])) =
            dS r5.2 (R ++ [.lst ((cl ++ [(want, r5.1)]).map eC), .lst [.int 3, .int 7]]) ++ [.lst (want.map D.int), .lst [.int 2, .int 10]] := by
          have := set_dR (dr := r5.2) (R := R) (G := [.lst [.int 3, .int 7], .lst (want.map D.int), .lst [.int 2, .int 10]]) (o := .lst (cl.map eC)) (u := .lst (cl.map eC ++ [.tup [.tup (want.map D.int), .int r5.1]]))
          simp only [List.append_assoc, List.cons_append, List.nil_append]
          rw [this]
          simp [dS, eC, eM]
        show WkE _ _ ((dS r5.2 (R ++ [.lst (cl.map eC), .lst [.int 3, .int 7]] ++ [.lst (want.map D.int)] ++ [.lst [.int 2, .int 10]])).set (R.length + 2) (.lst (cl.map eC ++ [.tup [.tup (want.map D.int), .int r5.1]]))) _
        rw [es]
        refine ⟨_, _, CovE.drop (v2 := [some (.loc 1), some (.loc (R.length + 2)), none, none, none, none]) ?_ (bR _ _) ?_ ?_, by rw [ec], _, _, _, _, rfl⟩
        · simp [dS]
        · exact lessK (lessK (lessS (lessS (lessS (lessS lessN)))))
        · exact belY (bel_loc (by rw [dS_len]; omega)) (belY (bel_loc (by rw [dS_len]; simp)) (belZ (belZ (belZ (belZ belN)))))
  · rintro v2 S2 ⟨rfl, z2, z3, z4, z5, rfl⟩
    have en : (Src.items ⟨rngD 0 n, fun _ => True⟩).length = n := rngD_len
    rw [en, ← hdc]
    refine WSs.one (WS.ret (WE.callT (WA.cons (WE.var 1 rfl (WA.nil (CW.tupL (xs := (dClaims dr).1.map eC) (by simp [dS]) ?_)))) B.tuple boot_tuple))
    exact ⟨_, _, cov_dS (dr' := (dClaims dr).2) (G := [.lst ((dClaims dr).1.map eC), .lst [.int 3, .int 7]]) bS (bel_eCs _), q⟩
end

section
variable {P : Program} {w : World} {K : PySem.W.Frag} {mg : Str → Option Value} {base : Heap} {f : Addr}
abbrev N__law_thing : List Str := ["_law_h", "_law_deep", "_law_many", "_law_k"]
theorem sc__law_thing : FnScope N__law_thing ["_law_h", "_law_deep"] (defScope s__law_thing) := ⟨rfl, rfl, rfl, by decide +kernel, rfl, by decide +kernel, by decide +kernel⟩
theorem bd__law_thing : BindOk "_law_thing" "_law_thing" s__law_thing ["_law_h", "_law_deep"] := fun _ _ _ _ _ _ us hl => match us, hl with | [_, _], _ => rfl
def sp__law_thing (n : Nat) : SpD := fun ds S Q => ∃ dr R, ds = [.loc 1, .int (n : Int)] ∧ S = dS dr R ∧ Q (eT (dThing n dr).1) (dS (dThing n dr).2 R)
abbrev C__law_thing (P : Program) (w : World) (K : PySem.W.Frag) (mg : Str → Option Value) (base : Heap) (n : Nat) : Prop := Cal P w K mg base "_law_thing" (n + 3) ["_law_h", "_law_deep"] (sp__law_thing n)
theorem body__law_thing (B : Bt mg) (G__law_next : C__law_next P w K mg base) (G__law_marks : C__law_marks P w K mg base) (n : Nat) (G : ∀ m, n = m + 1 → C__law_thing P w K mg base m) : BodyOk P w K mg base N__law_thing "_law_thing" s__law_thing f (n + 2) (sp__law_thing n) := by
  rintro cdv A outer s H E ds S Q hr bS bD ⟨dr, R, rfl, rfl, q⟩
  have go : ∀ (dr1 : Dr) (G0 : Store) (many : Nat), (∀ k, belS k G0) → many ≤ 3 → (many = 0 ∨ ∃ m, n = m + 1) →
      Q (eT (.mk (dMarks dr1).1 (dMap (fun _ => dThing (n - 1)) (List.range many) (dMarks dr1).2).1)) (dS (dMap (fun _ => dThing (n - 1)) (List.range many) (dMarks dr1).2).2 R) →
      WSs (cxOf CX0 P w K mg base N__law_thing "_law_thing" (defScope s__law_thing) f cdv A outer s H E).nox (dS dr R).length ((defBody s__law_thing).drop 1) [some (.loc 1), some (.int (n : Int)), some (.int (many : Int)), none] (dS dr1 (R ++ G0)) (fnEnds (dS dr R).length Q) := by
    intro dr1 G0 many hG hm3 hm0 q
    have bRG : ∀ dr', belS (dS dr' (R ++ G0)).length (dS dr' (R ++ G0)) := fun dr' => by
      have e : dS dr' (R ++ G0) = dS dr' R ++ G0 := rfl
      rw [e]
      refine belS_append (belS_mono (by simp [dS]) (bel_dS (dr := dr) bS (by show 0 < R.length + 2; omega))) (hG _)
    refine WSs.one (WS.ret (WE.tup (WA.cons (WE.cal G__law_marks (hr.mono (by first|decide|omega)) (WA.cons (WE.var 0 rfl (WA.nil ⟨dr1, R ++ G0, rfl, rfl, (WA.cons (WE.callT (WA.cons (WE.lcN 3 [("_law_k", 3)] (WI.range1 (WA.cons (WE.var 2 rfl (WA.nil ⟨_, rfl, by omega, by omega, ?_⟩))) B.range) (by decide) rfl sc__law_thing.nd (blkOk_by (N := N__law_thing) (sc := defScope s__law_thing) (by decide +kernel)) (fun Y hY => by obtain ⟨_, _, _, _, _, rfl⟩ := hY; exact pg_name sc__law_thing.nd rfl (Or.inl rfl)))) B.tuple boot_tuple))⟩)))))))
    have e1 : ((many : Nat) : Int).toNat = many := by omega
    rw [e1]
    refine lc_draw (fun (k : Nat) => D.int (0 + (k : Int))) eT (fun _ => dThing (n - 1)) (List.range many) (fun t _ => bel_eT _ t) (bRG _) (by rw [List.length_range]; omega) (fun _ _ => trivial) ?_ ?_
    · intro b dr' acc hb
      refine ⟨_, rfl, fun Y hY => ?_⟩
      obtain ⟨_, _, _, _, _, rfl⟩ := hY
      obtain ⟨m, rfl⟩ : ∃ m, n = m + 1 := by
        rcases hm0 with h | h
        · rw [h] at hb; cases hb
        · exact h
      have G__law_thing := G m rfl
      refine (WE.cal G__law_thing (hr.mono (by first|decide|omega)) (WA.cons (WE.var 0 rfl (WA.cons (WE.bin (WE.var 1 rfl (WE.int (BW.sub (WA.nil ⟨dr', R ++ G0 ++ [.lst acc], by rw [show ((m + 1 : Nat) : Int) - 1 = (m : Int) by omega], rfl, ⟨rfl, [], by simp [dS]⟩⟩)))))))))
    · generalize hxs : dMap (fun _ => dThing (n - 1)) (List.range many) (dMarks dr1).2 = xs at *
      refine WA.nil (CW.tupL (xs := xs.1.map eT) (by simp [dS]) (WA.nil ⟨by show 2 ≤ sizeLine; exact sz (by decide), ?_⟩))
      have := cov_dS (dr := dr) (dr' := xs.2) (R := R) (G := G0 ++ [.lst (xs.1.map eT)]) (d := eT (.mk (dMarks dr1).1 xs.1)) bS (bel_eT _ _)
      have e2 : D.tup [eM (dMarks dr1).1, D.tup (xs.1.map eT)] = eT (.mk (dMarks dr1).1 xs.1) := by rw [eT_eq]; rfl
      have e3 : dS xs.2 (R ++ G0) ++ [Ob.lst (xs.1.map eT)] = dS xs.2 R ++ (G0 ++ [Ob.lst (xs.1.map eT)]) := by simp [dS]
      show WkD _ (D.tup [eM (dMarks dr1).1, D.tup (xs.1.map eT)]) _ _
      rw [e2, e3]
      exact ⟨_, _, this, q⟩
  cases n with
  | zero =>
    refine WSs.cons (WS.set 2 (WE.ite (WT.cmp (WE.var 1 rfl (WE.int (BW.gt ⟨_, rfl, ⟨fun h => (by cases h), fun _ => WE.int ?_⟩⟩))))) sc__law_thing.nd)
    have := go dr [] 0 (fun _ => belS_nil) (by decide) (.inl rfl) q
    rw [List.append_nil] at this
    exact this
  | succ m =>
    refine WSs.cons (WS.set 2 (WE.ite (WT.cmp (WE.var 1 rfl (WE.int (BW.gt ⟨_, rfl, ⟨fun _ => ?_, fun h => ?_⟩⟩))))) sc__law_thing.nd)
    · have h1 := nx_bd dr (k := 4) (by decide)
      have h2 := nx_bd (nx dr 4).2 (k := 4) (by decide)
      have h3 := many4_bd h1 h2
      refine (WE.ix (WE.lst (WA.cons (WE.int (WA.cons (WE.int (WA.cons (WE.int (WA.cons (WE.cal G__law_next (hr.mono (by first|decide|omega)) (WA.cons (WE.var 0 rfl (WA.cons (WE.int (WA.nil ⟨dr, R, 4, rfl, rfl, by decide, by decide, (WA.nil ⟨by show 4 ≤ sizeLine; exact sz (by decide), (WE.cal G__law_next (hr.mono (by first|decide|omega)) (WA.cons (WE.var 0 rfl (WA.cons (WE.int (WA.nil ⟨(nx dr 4).2, R ++ [.lst [.int 0, .int 0, .int 1, .int (nx dr 4).1]], 4, rfl, rfl, by decide, by decide, (IW.list (xs := [.int 0, .int 0, .int 1, .int (nx dr 4).1]) (by simp [dS]) h3.2 ?_)⟩))))))⟩)⟩)))))))))))))))
      exact go (nx (nx dr 4).2 4).2 [.lst [.int 0, .int 0, .int 1, .int (nx dr 4).1]] (many4 (nx dr 4).1 (nx (nx dr 4).2 4).1) (fun _ => belS_cons rfl belS_nil) h3.1 (.inr ⟨m, rfl⟩) q
    · exfalso
      have := of_decide_eq_false h
      omega
theorem c__law_thing (B : Bt mg) (G__law_next : C__law_next P w K mg base) (G__law_marks : C__law_marks P w K mg base) (df : Df K "_law_thing" "_law_thing" s__law_thing f) (hm : mg "_law_thing" = some (.ref f)) (n : Nat) : C__law_thing P w K mg base n := by
  induction n with
  | zero => exact calD df hm sc__law_thing bd__law_thing (fun ds S Q ⟨dr, R, e, _⟩ => by rw [e]; rfl) (body__law_thing B G__law_next G__law_marks 0 fun m e => by cases e)
  | succ n ih => exact calD df hm sc__law_thing bd__law_thing (fun ds S Q ⟨dr, R, e, _⟩ => by rw [e]; rfl) (body__law_thing B G__law_next G__law_marks (n + 1) fun m e => by cases e; exact ih)
end

theorem WSs.gen {X : Cx} {n : Nat} {sts : List Stmt} {v : Fv} {S : Store} {P : Fv → Store → Prop} (h : ∀ E : Ed, (∀ v S, P v S → E.nx v S) → WSs X n sts v S E) {E0 : Ed} (k : ∀ v S, P v S → E0.nx v S) : WSs X n sts v S E0 := h E0 k
def bodyF : Stmt → List Stmt
  | .For _ _ b _ _ => b
  | .While _ b _ _ => b
  | _ => []
section
variable {CD CH : Addr} {S : Store} {l : Nat} {a : At} {dk : Dk} {dr : Dr} {Ds : List (At × Dk)} {O : List (Nat × Ob)} {Q : D → Store → Prop}
theorem next_m (W : Wm CD CH S dr Ds O) {k : Int} (h0 : 0 < k) (h1 : k < 1073741824) (q : ∀ S' dr' v, 0 ≤ v → v < k → S'.length = S.length → Wm CD CH S' dr' Ds O → Q (.int v) S') : sp__law_next [.loc 1, .int k] S Q := by
  obtain ⟨R, rfl⟩ := W.rest
  have b := nx_bd dr h0
  exact ⟨dr, R, k, rfl, rfl, h0, h1, q _ _ _ b.1 b.2 (by simp [dS]) (W.draw _)⟩
theorem thing_m (W : Wm CD CH S dr Ds O) {n : Nat} (q : ∀ S' dr' t, OkT n t → S'.length = S.length → Wm CD CH S' dr' Ds O → Q (eT t) S') : sp__law_thing n [.loc 1, .int (n : Int)] S Q := by
  obtain ⟨R, rfl⟩ := W.rest
  exact ⟨dr, R, rfl, rfl, q _ _ _ (dThing_ok n dr) (by simp [dS]) (W.draw _)⟩
theorem claims_m (W : Wm CD CH S dr Ds O) (q : ∀ S' dr' cs, OkCs cs → S'.length = S.length → Wm CD CH S' dr' Ds O → Q (eCs cs) S') : sp__law_claims [.loc 1] S Q := by
  obtain ⟨R, rfl⟩ := W.rest
  exact ⟨dr, R, rfl, rfl, q _ _ _ (dClaims_ok dr) (by simp [dS]) (W.draw _)⟩
theorem plug_m (W : Wm CD CH S dr ((a, dk) :: Ds) O) (el : a.l = l) (di : DI dk) {t : Th} (ht : OkT 2 t) (h6 : dk.plugged.length < 6) (hf : dk.fresh.1 < 400) (hlog : dk.log.length ≤ 15999700) (q : ∀ S' a', a'.l = l → Wm CD CH S' dr ((a', dk.plug t) :: Ds) O → Q (.int dk.fresh.1) S') : sp_Desk_plug CD CH [.loc l, eT t] S Q :=
  ⟨a, dk, t, by rw [el], (W.de _ List.mem_cons_self).1, di, ht, h6, hf, hlog, fun S' a' H F => q S' a' (F.ls.1.trans el) (W.did H F)⟩
theorem come_m (W : Wm CD CH S dr ((a, dk) :: Ds) O) (el : a.l = l) (di : DI dk) {cs : List (List Int × Int)} {r : Int} (hc : OkCs cs) (h0 : 0 ≤ r) (h4 : r ≤ 4) (h8 : dk.who.length < 8) (hf : dk.fresh.2 < 1000) (hlog : dk.log.length ≤ 15999700) (q : ∀ S' a', a'.l = l → Wm CD CH S' dr ((a', dk.come cs r) :: Ds) O → Q (.int dk.fresh.2) S') : sp_Desk_come CD CH [.loc l, eCs cs, .int r] S Q :=
  ⟨a, dk, cs, r, by rw [el], (W.de _ List.mem_cons_self).1, di, hc, h0, h4, h8, hf, hlog, fun S' a' H F => q S' a' (F.ls.1.trans el) (W.did H F)⟩
theorem unplug_m (W : Wm CD CH S dr ((a, dk) :: Ds) O) (el : a.l = l) (di : DI dk) {n : Int} (hn : n ∈ dk.plugged.map (·.1)) (hlog : dk.log.length ≤ 15999700) (q : ∀ S' a', a'.l = l → Wm CD CH S' dr ((a', dk.unplug n) :: Ds) O → Q .non S') : sp_Desk_unplug CD CH [.loc l, .int n] S Q :=
  ⟨a, dk, n, by rw [el], (W.de _ List.mem_cons_self).1, di, hn, hlog, fun S' a' H F => q S' a' (F.ls.1.trans el) (W.did H F)⟩
theorem fall_m (W : Wm CD CH S dr ((a, dk) :: Ds) O) (el : a.l = l) (di : DI dk) {n : Int} (hn : n ∈ dk.who.map (·.1)) (hlog : dk.log.length ≤ 15999700) (q : ∀ S' a', a'.l = l → Wm CD CH S' dr ((a', dk.fall n) :: Ds) O → Q .non S') : sp_Desk_fall CD CH [.loc l, .int n] S Q :=
  ⟨a, dk, n, by rw [el], (W.de _ List.mem_cons_self).1, di, hn, hlog, fun S' a' H F => q S' a' (F.ls.1.trans el) (W.did H F)⟩
theorem answer_m (W : Wm CD CH S dr ((a, dk) :: Ds) O) (el : a.l = l) (di : DI dk) {n : Int} (hn : n ∈ dk.who.map (·.1)) (hlog : dk.log.length ≤ 15999700) (q : ∀ S' a', a'.l = l → Wm CD CH S' dr ((a', (dk.answer n).2) :: Ds) O → Q (oLt (dk.answer n).1) S') : sp_Desk_answer CD CH [.loc l, .int n] S Q :=
  ⟨a, dk, n, by rw [el], (W.de _ List.mem_cons_self).1, di, hn, hlog, fun S' a' H F => q S' a' (F.ls.1.trans el) (W.did H F)⟩
theorem settle_m (W : Wm CD CH S dr ((a, dk) :: Ds) O) (el : a.l = l) (gd : Gd dk) (hlog : dk.log.length + pot dk ≤ 15999000) (q : ∀ S' a' r d', a'.l = l → Ans dk d' → d'.over = true → Wm CD CH S' dr ((a', d') :: Ds) O → Q (.int r) S') : sp_Desk_settle CD CH [.loc l] S Q := by
  obtain ⟨r, d', e, an, o⟩ := gd.settle (pot dk + 1) 0 (Nat.lt_succ_self _)
  exact ⟨a, dk, _, r, d', by rw [el], (W.de _ List.mem_cons_self).1, gd, e, hlog, fun S' a' H F => q S' a' r d' (F.ls.1.trans el) an o (W.did H F)⟩
theorem standing_m (W : Wm CD CH S dr ((a, dk) :: Ds) O) (el : a.l = l) (di : DI dk) (q : Q (.loc S.length) (S ++ [.lst (dk.standing.map stnD)])) : sp_Desk_standing CD CH [.loc l] S Q :=
  ⟨a, dk, by rw [el], (W.de _ List.mem_cons_self).1, di.toDC.kg.toKN, q⟩
theorem helpers_m (W : Wm CD CH S dr ((a, dk) :: Ds) O) (el : a.l = l) (di : DI dk) (q : Q (.loc S.length) (S ++ [.lst ((sortI (dk.who.map (·.1))).map D.int)])) : sp_Desk_helpers CD CH [.loc l] S Q :=
  ⟨a, dk, by rw [el], (W.de _ List.mem_cons_self).1, by have := di.w8; omega, q⟩
end
theorem sta_held (s : Sta) : decide (s.s = ("held" : Str)) = decide (s = .held) := by cases s <;> decide
theorem rot3 {α : Type} (a b c : α) : [c, a, b].Perm [a, b, c] := (List.Perm.swap _ _ _).trans (List.Perm.cons _ (List.Perm.swap _ _ _))
theorem fst3 {α : Type} (a b c : α) : [b, a, c].Perm [a, b, c] := List.Perm.swap _ _ _
def dHq (_ : Nat) (dr : Dr) : Hq × Dr := let a := dClaims dr; let b := nx a.2 5; ((a.1, b.1), b.2)
theorem dHq_ok (k : Nat) (dr : Dr) : OkCs (dHq k dr).1.1 ∧ 0 ≤ (dHq k dr).1.2 ∧ (dHq k dr).1.2 ≤ 4 := by
  have := nx_bd (dClaims dr).2 (k := 5) (by decide)
  exact ⟨dClaims_ok dr, this.1, by show (nx (dClaims dr).2 5).1 ≤ 4; omega⟩
theorem bel_hqD (n : Nat) (p : Hq) : bel n (hqD p) = true := by show (bel _ (eCs p.1) && (true && true)) = true; rw [bel_eCs]; rfl
theorem pu_hqD {p : Hq} (h : OkCs p.1) : pu 60 (hqD p) = true := by
  have := pu_eCs (n := 56) h
  show (decide _ && (pu 59 (eCs p.1) && (true && true))) = true
  rw [this]; rfl
section
variable {P : Program} {w : World} {K : PySem.W.Frag} {mg : Str → Option Value} {base : Heap} {f : Addr} {fd : FuncData} {CD CH : Addr}
abbrev N__law_held : List Str := ["_law_desk", "_law_name", "_law_state", "_law_helper"]
theorem sc__law_held : FnScope N__law_held ["_law_desk"] (defScope s__law_held) := ⟨rfl, rfl, rfl, by decide +kernel, rfl, by decide +kernel, by decide +kernel⟩
theorem bd__law_held : BindOk "_law_held" "_law_held" s__law_held ["_law_desk"] := fun _ _ _ _ _ _ us hl => match us, hl with | [_], _ => rfl
def sp__law_held (CD CH : Addr) : SpD := fun ds S Q => ∃ (l : Nat) (a : At) (dk : Dk) (dr : Dr) (Ds : List (At × Dk)) (O : List (Nat × Ob)), ds = [.loc l] ∧ Wm CD CH S dr ((a, dk) :: Ds) O ∧ a.l = l ∧ Gd dk ∧ dk.log.length + pot dk ≤ 15999000 ∧
  ∀ S' a' d' p, a'.l = l → Ans dk d' → (∀ x ∈ (toldOf (restOf dk.plugged dk.hcs)).map pairD, pu 60 x = true) → Wm CD CH S' dr ((a', d') :: Ds) ((p, .lst ((toldOf (restOf dk.plugged dk.hcs)).map pairD)) :: O) → Q (.loc p) S'
abbrev C__law_held (P : Program) (w : World) (K : PySem.W.Frag) (mg : Str → Option Value) (base : Heap) (CD CH : Addr) : Prop := Cal P w K mg base "_law_held" 9 ["_law_desk"] (sp__law_held CD CH)
theorem c__law_held (B : Bt mg) (T : DeskTxt K CD CH) (G_Desk_settle : C_Desk_settle P w K mg base CD CH) (G_Desk_standing : C_Desk_standing P w K mg base CD CH) (df : Df K "_law_held" "_law_held" s__law_held f) (hm : mg "_law_held" = some (.ref f)) : C__law_held P w K mg base CD CH := by
  refine calD df hm sc__law_held bd__law_held (fun ds S Q ⟨_, _, _, _, _, _, e, _⟩ => by rw [e]; rfl) ?_
  rintro cdv A outer s Hh E ds S Q hr bS bD ⟨l, a, dk, dr, Ds, O, rfl, W, el, gd, hlog, q⟩
  refine WSs.cons (WS.expr (WE.mcal0 G_Desk_settle (hr.mono (by first|decide|omega)) T.cd (WE.var 0 rfl ⟨_, _, rfl, (W.at el).self, rfl, (settle_m W el gd hlog fun S1 a1 r1 d1 el1 an ho W1 => ?_)⟩)))
  have qu := an.gd.quiet ho
  have kl : d1.standing.length ≤ 78 := by
    unfold Dk.standing sortN
    rw [List.length_map, List.length_mergeSort]; exact an.gd.di.toDC.kc
  refine WSs.bel fun bX => ?_
  refine WSs.one (WS.ret (WE.lcT [1, 2, 3] [("_law_name", 1), ("_law_state", 2), ("_law_helper", 3)] (WI.list (WE.mcal0 G_Desk_standing (hr.mono (by first|decide|omega)) T.cd (WE.var 0 rfl ⟨_, _, rfl, (W1.at el1).self, rfl, (standing_m W1 el1 an.gd.di ⟨S1.length, d1.standing.map stnD, rfl, by simp, ?_⟩)⟩))) (by decide) rfl sc__law_held.nd (blkOk_by (N := N__law_held) (sc := defScope s__law_held) (by decide +kernel)) (fun Y hY => by obtain ⟨_, _, _, _, _, rfl⟩ := hY; exact pg_tup rfl (pgs_cons (pg_name sc__law_held.nd rfl (Or.inl rfl)) (pgs_cons (pg_name sc__law_held.nd rfl (Or.inl rfl)) (pgs_cons (pg_name sc__law_held.nd rfl (Or.inl rfl)) pgs_nil rfl) rfl) rfl) rfl rfl)))
  refine lc_fm stnD d1.standing (fun x => if decide (x.2.1 = .held) = true then some (.tup [eM x.1, D.ofO x.2.2]) else none) rfl (belS_snoc (belS_mono (by simp) bX) (belAll_map (e := stnD) (fun x => bel_stnD _ x) _)) (by omega) (fun _ => by simp) ?_ ?_
  · intro x acc hx
    refine ⟨_, rfl, fun Y hY => ?_⟩
    obtain ⟨_, _, _, _, _, rfl⟩ := hY
    refine (WT.cmp (WE.var 2 rfl (WE.str (BW.eqS ⟨_, rfl, ⟨⟨[], by simp⟩, fun hb Z hZ => ?_, fun hb => ?_⟩⟩))))
    · obtain ⟨_, _, _, _, _, rfl⟩ := hZ
      rw [sta_held] at hb
      refine (WE.tup (WA.cons (WE.var 1 rfl (WA.cons (WE.var 3 rfl (WA.nil ⟨by show 2 ≤ sizeLine; exact sz (by decide), ⟨⟨[], by simp⟩, ?_, by rw [if_pos hb]⟩⟩))))))
      show (bel _ (eM x.1) && (bel _ (D.ofO x.2.2) && true)) = true
      rw [bel_eM]
      cases x.2.2 <;> rfl
    · rw [sta_held] at hb
      rw [if_neg (by rw [hb]; intro z; cases z)]
  rw [show d1.standing.filterMap (fun x => if decide (x.2.1 = .held) = true then some (D.tup [eM x.1, D.ofO x.2.2]) else none) = heldD d1 from rfl, qu.told an.gd, ← qu.restOf an.gd, an.pl, an.hcs]
  refine WkD.same (q _ a1 d1 _ el1 an ?_ ((W1.grow).new _))
  intro x hx
  rw [← an.pl, ← an.hcs, qu.restOf an.gd] at hx
  obtain ⟨p, hp, rfl⟩ := List.mem_map.mp hx
  unfold toldOf at hp
  obtain ⟨nm, hn, rfl⟩ := List.mem_map.mp hp
  have hn := (sortN_perm _).mem_iff.mp hn
  obtain ⟨v, hv⟩ := getT_some hn
  have := (an.gd.di.toDC.ks nm (goal_there an.gd.di.kn an.gd.di.toDC.ks hv).1).2
  have h1 : pu 59 (eM nm) = true := pu_eM (n := 58) (by omega)
  show (decide _ && (pu 59 (eM nm) && (pu 59 (.int _) && true))) = true
  rw [h1]; rfl
abbrev N_law : List Str := ["_law_script", "_law_h", "_law_things", "_law_helpers", "_law_one", "_law_other", "_law_late", "_law_thing_here", "_law_claims_here", "_law_room", "_law_left", "_law_k", "_law_some", "_law_again", "_law_due", "_law_desk", "_law_more", "_law_number"]
theorem sc_law : FnScope N_law ["_law_script"] (defScope s_law) := ⟨rfl, rfl, rfl, by decide +kernel, rfl, by decide +kernel, by decide +kernel⟩
theorem bd_law : BindOk "law" "law" s_law ["_law_script"] := fun _ _ _ _ _ _ us hl => match us, hl with | [_], _ => rfl
theorem c_law (B : Bt mg) (T : DeskTxt K CD CH) (g_Desk : mg "Desk" = some (.ref CD)) (G__law_mix : C__law_mix P w K mg base) (G__law_next : C__law_next P w K mg base) (G__law_thing : C__law_thing P w K mg base 2) (G__law_claims : C__law_claims P w K mg base) (G_Desk___init__ : C_Desk___init__ P w K mg base CD CH) (G_Desk_plug : C_Desk_plug P w K mg base CD CH) (G_Desk_come : C_Desk_come P w K mg base CD CH) (G_Desk_unplug : C_Desk_unplug P w K mg base CD CH) (G_Desk_fall : C_Desk_fall P w K mg base CD CH) (G_Desk_helpers : C_Desk_helpers P w K mg base CD CH) (G_Desk_answer : C_Desk_answer P w K mg base CD CH) (G_Desk_settle : C_Desk_settle P w K mg base CD CH) (G__law_held : C__law_held P w K mg base CD CH)
    (Fn : FunD K "law" "law" (defArgs s_law) (defBody s_law) (defScope s_law) [] [] f fd) : FnOk P w K mg base CX0 11 f fd ["_law_script"] (spLaw K) := by
  refine lawD Fn sc_law ?_
  intro cdv A outer s H0 E0 d ns hr hd hl
  refine WSs.cons (WS.set 1 (WE.cal G__law_mix (hr.mono (by first|decide|omega)) (WA.cons (WE.var 0 rfl (WA.cons (WE.int (WA.nil ⟨d, ns, 29, rfl, rfl, hd, hl, ?_⟩)))))) sc_law.nd)
  generalize mixDr ns 29 = dr0 at *
  -- the things and the helpers
  refine WSs.bel fun bX => ?_
  have a0 := nx_bd dr0 (k := 6) (by decide)
  refine WSs.cons (WS.setLcN 11 [("_law_k", 11)] 2 (WI.range1 (WA.cons (WE.cal G__law_next (hr.mono (by first|decide|omega)) (WA.cons (WE.var 1 rfl (WA.cons (WE.int (WA.nil ⟨dr0, [], 6, rfl, rfl, by decide, by decide, (WA.nil ⟨_, rfl, by omega, by omega, ?_⟩)⟩))))))) B.range) (by decide) rfl sc_law.nd rfl rfl (by rfl) (blkOk_by (N := N_law) (sc := defScope s_law) (by decide +kernel)) (fun Y hY => by obtain ⟨_, _, _, _, _, rfl⟩ := hY; exact pg_name sc_law.nd rfl (Or.inl rfl)))
  generalize hn1 : (nx dr0 6).1.toNat = n1 at *
  have n15 : n1 ≤ 5 := by omega
  generalize (nx dr0 6).2 = dr1 at *
  have bX1 : ∀ dr, belS (dS dr []).length (dS dr []) := fun dr => bel_dS (dr := dr0) bX (by show 0 < 2; decide)
  refine lc_draw (fun (k : Nat) => D.int (0 + (k : Int))) eT (fun _ => dThing 2) (List.range n1) (fun t _ => bel_eT _ t) (bX1 dr1) (by rw [List.length_range]; omega) (fun _ _ => trivial) ?_ ?_
  · intro b dr' acc hb
    refine ⟨_, rfl, fun Y hY => ?_⟩
    obtain ⟨_, _, _, _, _, rfl⟩ := hY
    exact (WE.cal G__law_thing (hr.mono (by first|decide|omega)) (WA.cons (WE.var 1 rfl (WA.cons (WE.int (WA.nil ⟨dr', [.lst acc], rfl, rfl, ⟨rfl, [], by simp [dS]⟩⟩))))))
  have tok : ∀ t ∈ (dMap (fun _ => dThing 2) (List.range n1) dr1).1, OkT 2 t := dMap_allM fun _ _ dr => dThing_ok 2 dr
  have tlen : (dMap (fun _ => dThing 2) (List.range n1) dr1).1.length ≤ 5 := by rw [dMap_len, List.length_range]; exact n15
  generalize dMap (fun _ => dThing 2) (List.range n1) dr1 = tsd at *
  obtain ⟨ts, dr2⟩ := tsd
  have tok : ∀ t ∈ ts, OkT 2 t := tok
  have tlen : ts.length ≤ 5 := tlen
  have e2 : dS dr2 [] ++ [Ob.lst (ts.map eT)] = dS dr2 [.lst (ts.map eT)] := by simp [dS]
  show WSs _ _ _ _ (dS dr2 [] ++ [Ob.lst (ts.map eT)]) _
  rw [e2]
  refine WSs.bel fun bX2 => ?_
  have a1 := nx_bd dr2 (k := 7) (by decide)
  refine WSs.cons (WS.setLcN 11 [("_law_k", 11)] 3 (WI.range1 (WA.cons (WE.cal G__law_next (hr.mono (by first|decide|omega)) (WA.cons (WE.var 1 rfl (WA.cons (WE.int (WA.nil ⟨dr2, [.lst (ts.map eT)], 7, rfl, rfl, by decide, by decide, (WA.nil ⟨_, rfl, by omega, by omega, ?_⟩)⟩))))))) B.range) (by decide) rfl sc_law.nd rfl rfl (by rfl) (blkOk_by (N := N_law) (sc := defScope s_law) (by decide +kernel)) (fun Y hY => by obtain ⟨_, _, _, _, _, rfl⟩ := hY; exact pg_name sc_law.nd rfl (Or.inl rfl)))
  generalize hn2 : (nx dr2 7).1.toNat = n2 at *
  have n26 : n2 ≤ 6 := by omega
  generalize (nx dr2 7).2 = dr3 at *
  refine lc_draw (fun (k : Nat) => D.int (0 + (k : Int))) hqD dHq (List.range n2) (fun p m => bel_hqD m p) (bel_dS (dr := dr2) bX2 (by show 0 < 3; decide)) (by rw [List.length_range]; omega) (fun _ _ => trivial) ?_ ?_
  · intro b dr' acc hb
    refine ⟨_, rfl, fun Y hY => ?_⟩
    obtain ⟨_, _, _, _, _, rfl⟩ := hY
    exact (WE.tup (WA.cons (WE.cal G__law_claims (hr.mono (by first|decide|omega)) (WA.cons (WE.var 1 rfl (WA.nil ⟨dr', [.lst (ts.map eT)] ++ [.lst acc], rfl, rfl, (WA.cons (WE.cal G__law_next (hr.mono (by first|decide|omega)) (WA.cons (WE.var 1 rfl (WA.cons (WE.int (WA.nil ⟨(dClaims dr').2, [.lst (ts.map eT)] ++ [.lst acc], 5, rfl, rfl, by decide, by decide, (WA.nil ⟨by show 2 ≤ sizeLine; exact sz (by decide), ⟨rfl, [], by simp [dS, dHq]⟩⟩)⟩)))))))⟩))))))
  have hok : ∀ p ∈ (dMap dHq (List.range n2) dr3).1, OkCs p.1 ∧ 0 ≤ p.2 ∧ p.2 ≤ 4 := dMap_allM fun k _ dr => dHq_ok k dr
  have hlen : (dMap dHq (List.range n2) dr3).1.length ≤ 6 := by rw [dMap_len, List.length_range]; exact n26
  generalize dMap dHq (List.range n2) dr3 = hsd at *
  obtain ⟨hs, dr4⟩ := hsd
  have hok : ∀ p ∈ hs, OkCs p.1 ∧ 0 ≤ p.2 ∧ p.2 ≤ 4 := hok
  have hlen : hs.length ≤ 6 := hlen
  have W0 : Wm CD CH (dS dr4 [.lst (ts.map eT)] ++ [Ob.lst (hs.map hqD)]) dr4 [] [(3, .lst (hs.map hqD)), (2, .lst (ts.map eT))] := ((Wm.init dr4).new (.lst (ts.map eT))).new (.lst (hs.map hqD))
  show WSs _ _ _ _ (dS dr4 [.lst (ts.map eT)] ++ [Ob.lst (hs.map hqD)]) _
  have el0 : (dS dr2 [Ob.lst (ts.map eT)]).length = 3 := rfl
  have el00 : (dS dr1 []).length = 2 := rfl
  generalize dS dr4 [.lst (ts.map eT)] ++ [Ob.lst (hs.map hqD)] = S0 at *
  -- three desks
  refine WSs.cons (WS.par3 4 5 6 (WA.cons (WE.imk0 G_Desk___init__ (hr.mono (by first|decide|omega)) g_Desk ⟨_, _, rfl, rfl, rfl, fun S1 a1 H1 el1 hG1 hj1 => ⟨rfl, ?_⟩⟩)) rfl sc_law.nd)
  have W1 := W0.desk H1 hG1 hj1
  refine WA.cons (WE.imk0 G_Desk___init__ (hr.mono (by first|decide|omega)) g_Desk ⟨_, _, rfl, rfl, rfl, fun S2 a2 H2 el2 hG2 hj2 => ⟨rfl, ?_⟩⟩)
  have W2 := W1.desk H2 hG2 hj2
  refine WA.cons (WE.imk0 G_Desk___init__ (hr.mono (by first|decide|omega)) g_Desk ⟨_, _, rfl, rfl, rfl, fun S3 a3 H3 el3 hG3 hj3 => ⟨rfl, ?_⟩⟩)
  have W3 := W2.desk H3 hG3 hj3
  refine WA.nil ⟨_, _, _, rfl, ?_⟩
  generalize S0.length = l1 at *
  generalize S1.length = l2 at *
  generalize S2.length = l3 at *
  have W4 := W3.permD (Ds' := [(a1, emptyDk), (a2, emptyDk), (a3, emptyDk)]) (((List.Perm.swap _ _ _).trans (List.Perm.cons _ (List.Perm.swap _ _ _))).trans (List.Perm.swap _ _ _))
  have ht5 : ∀ (pre post : List Th) (t : Th), ts = pre ++ t :: post → pre.length < 5 ∧ OkT 2 t := fun pre post t e => ⟨by rw [e] at tlen; simp at tlen; omega, tok t (by rw [e]; simp)⟩
  have hh6 : ∀ (pre post : List Hq) (p : Hq), hs = pre ++ p :: post → pre.length < 6 ∧ OkCs p.1 ∧ 0 ≤ p.2 ∧ p.2 ≤ 4 := fun pre post p e => ⟨by rw [e] at hlen; simp at hlen; omega, hok p (by rw [e]; simp)⟩
  have wlen : ∀ (dk : Dk) (td : List Th) (hd : List Hq) (n : Nat), Cm dk td hd n → dk.who.length = hd.length := fun dk td hd n c => by
    have e : dk.hcs.length = dk.who.length := by unfold Dk.hcs; rw [List.length_map]
    rw [← e, c.hc, zipI_len]
  have wmem : ∀ (dk : Dk) (td : List Th) (hd : List Hq) (n : Nat), Cm dk td hd n → ∀ v : Int, v ∈ dk.who.map (·.1) ↔ 0 ≤ v ∧ v < (hd.length : Int) := fun dk td hd n c v => by
    rw [← hcs_keys, c.hc, zipI_mem]; omega
  -- the first desk's things
  refine WSs.cons (WS.forL eT (WE.var 2 rfl ⟨2, ts, rfl, W4.get (by simp), ?_⟩) PassesOwn.never rfl)
  refine ⟨fun pre v2 S2 => ∃ a dk z7, Wm CD CH S2 dr4 [(a, dk), (a2, emptyDk), (a3, emptyDk)] [(3, Ob.lst (hs.map hqD)), (2, Ob.lst (ts.map eT))] ∧ a.l = l1 ∧ Cm dk pre [] pre.length ∧ v2 = [some d, some (.loc 1), some (.loc 2), some (.loc 3), some (.loc l1), some (.loc l2), some (.loc l3), z7, none, none, none, none, none, none, none, none, none, none], ⟨a1, emptyDk, none, W4, el1, Cm.empty, rfl⟩, fun pre v2 S2 ⟨_, _, _, W, _⟩ => W.get (by simp), ?_, ?_⟩
  · rintro pre t post v2 S2 e ⟨a, dk, z7, W, el, c, rfl⟩
    obtain ⟨lp, okt⟩ := ht5 pre post t e
    have lg := c.lg
    refine (WG.name 7 ?_ sc_law.nd)
    refine WSs.one (WS.expr (WE.mcal G_Desk_plug (hr.mono (by first|decide|omega)) T.cd (WE.var 4 rfl ⟨_, _, rfl, (W.at el).self, rfl, (WA.cons (WE.var 7 rfl (WA.nil (plug_m W el c.gd.di okt (by rw [c.pl, zipI_len]; omega) (by rw [c.fr]; show (pre.length : Int) < 400; omega) (by omega) fun S5 a5 el5 W5 => ?_))))⟩)))
    exact WkE.same ⟨a5, _, _, W5, el5, by rw [List.length_append]; exact c.plug okt (by omega), rfl⟩
  rintro v2 S4 ⟨a1, d1, z7, W4, el1, c1, rfl⟩
  -- helpers come to two
  refine WSs.cons (WS.forL hqD (WE.var 3 rfl ⟨3, hs, rfl, W4.get (by simp), ?_⟩) PassesOwn.never rfl)
  refine ⟨fun pre v2 S2 => ∃ a b da db z8 z9, Wm CD CH S2 dr4 [(a, da), (b, db), (a3, emptyDk)] [(3, Ob.lst (hs.map hqD)), (2, Ob.lst (ts.map eT))] ∧ a.l = l1 ∧ b.l = l2 ∧ Cm da ts pre (ts.length + pre.length) ∧ Cm db [] pre pre.length ∧ v2 = [some d, some (.loc 1), some (.loc 2), some (.loc 3), some (.loc l1), some (.loc l2), some (.loc l3), z7, z8, z9, none, none, none, none, none, none, none, none], ⟨a1, a2, d1, emptyDk, none, none, W4, el1, el2, c1, Cm.empty, rfl⟩, fun pre v2 S2 ⟨_, _, _, _, _, _, W, _⟩ => W.get (by simp), ?_, ?_⟩
  · rintro pre p post v2 S2 e ⟨a, b, da, db, z8, z9, W, ela, elb, ca, cb, rfl⟩
    obtain ⟨lp, okc, r0, r4⟩ := hh6 pre post p e
    have lga := ca.lg
    have lgb := cb.lg
    refine (WG.tup rfl (WGs.cons (WG.name 8 (WGs.cons (WG.name 9 (WGs.nil ?_) sc_law.nd)) sc_law.nd)) rfl)
    refine WSs.cons (WS.expr (WE.mcal G_Desk_come (hr.mono (by first|decide|omega)) T.cd (WE.var 4 rfl ⟨_, _, rfl, (W.at ela).self, rfl, (WA.cons (WE.var 8 rfl (WA.cons (WE.var 9 rfl (WA.nil (come_m W ela ca.gd.di okc r0 r4 (by rw [wlen _ _ _ _ ca]; omega) (by rw [ca.fr]; show (pre.length : Int) < 1000; omega) (by omega) fun S5 a5 el5 W5 => ?_))))))⟩)))
    have W6 := W5.permD (List.Perm.swap (b, db) (a5, da.come p.1 p.2) [(a3, emptyDk)]).symm
    refine WSs.one (WS.expr (WE.mcal G_Desk_come (hr.mono (by first|decide|omega)) T.cd (WE.var 5 rfl ⟨_, _, rfl, (W6.at elb).self, rfl, (WA.cons (WE.var 8 rfl (WA.cons (WE.var 9 rfl (WA.nil (come_m W6 elb cb.gd.di okc r0 r4 (by rw [wlen _ _ _ _ cb]; omega) (by rw [cb.fr]; show (pre.length : Int) < 1000; omega) (by omega) fun S7 b7 el7 W7 => ?_))))))⟩)))
    refine WkE.same ⟨a5, b7, _, _, _, _, W7.permD (List.Perm.swap _ _ _), el5, el7, ?_, ?_, rfl⟩
    · rw [List.length_append]; exact ca.come okc r0 r4 (by omega)
    · rw [List.length_append]; exact cb.come okc r0 r4 (by omega)
  rintro v2 S5 ⟨a, b, da, db, z8, z9, W5, ela, elb, ca, cb, rfl⟩
  have W5 := W5.permD (List.Perm.swap (b, db) (a, da) [(a3, emptyDk)]).symm
  -- the second desk's things
  refine WSs.cons (WS.forL eT (WE.var 2 rfl ⟨2, ts, rfl, W5.get (by simp), ?_⟩) PassesOwn.never rfl)
  refine ⟨fun pre v2 S2 => ∃ b db z7, Wm CD CH S2 dr4 [(b, db), (a, da), (a3, emptyDk)] [(3, Ob.lst (hs.map hqD)), (2, Ob.lst (ts.map eT))] ∧ b.l = l2 ∧ Cm db pre hs (hs.length + pre.length) ∧ v2 = [some d, some (.loc 1), some (.loc 2), some (.loc 3), some (.loc l1), some (.loc l2), some (.loc l3), z7, z8, z9, none, none, none, none, none, none, none, none], ⟨b, db, z7, W5, elb, cb, rfl⟩, fun pre v2 S2 ⟨_, _, _, W, _⟩ => W.get (by simp), ?_, ?_⟩
  · rintro pre t post v2 S2 e ⟨b, db, z7, W, el, c, rfl⟩
    obtain ⟨lp, okt⟩ := ht5 pre post t e
    have lg := c.lg
    refine (WG.name 7 ?_ sc_law.nd)
    refine WSs.one (WS.expr (WE.mcal G_Desk_plug (hr.mono (by first|decide|omega)) T.cd (WE.var 5 rfl ⟨_, _, rfl, (W.at el).self, rfl, (WA.cons (WE.var 7 rfl (WA.nil (plug_m W el c.gd.di okt (by rw [c.pl, zipI_len]; omega) (by rw [c.fr]; show (pre.length : Int) < 400; omega) (by omega) fun S5 a5 el5 W5 => ?_))))⟩)))
    exact WkE.same ⟨a5, _, _, W5, el5, by rw [List.length_append]; exact c.plug okt (by omega), rfl⟩
  rintro v2 S6 ⟨b, db, z7, W6, elb, cb, rfl⟩
  -- the late one
  have g2 := W6.get (k := 2) (o := .lst (ts.map eT)) (by simp)
  have g3 := W6.get (k := 3) (o := .lst (hs.map hqD)) (by simp)
  refine WSs.cons (WS.set 10 (WE.lst (WA.cons (WE.callT (WA.cons (WE.var 2 rfl (WA.nil (CW.listL g2 (WA.cons (WE.callT (WA.cons (WE.var 3 rfl (WA.nil (CW.listL (get_app g3) (WA.nil ⟨by show 2 ≤ sizeLine; exact sz (by decide), ?_⟩))))) B.list boot_list)))))) B.list boot_list))) sc_law.nd)
  have W7 := ((W6.new (.lst (ts.map eT))).new (.lst (hs.map hqD)))
  have W8 := W7.new (.lst [.loc S6.length, .loc (S6 ++ [Ob.lst (ts.map eT)]).length])
  obtain ⟨pa, hpa⟩ : ∃ k, k = S6.length := ⟨_, rfl⟩
  obtain ⟨pb, hpb⟩ : ∃ k, k = (S6 ++ [Ob.lst (ts.map eT)]).length := ⟨_, rfl⟩
  obtain ⟨pl, hpl⟩ : ∃ k, k = (S6 ++ [Ob.lst (ts.map eT)] ++ [Ob.lst (hs.map hqD)]).length := ⟨_, rfl⟩
  rw [← hpa, ← hpb, ← hpl] at W8 ⊢
  generalize S6 ++ [Ob.lst (ts.map eT)] ++ [Ob.lst (hs.map hqD)] ++ [Ob.lst [.loc pa, .loc pb]] = S8 at *
  have W9 : Wm CD CH S8 dr4 [(a3, emptyDk), (b, db), (a, da)] ((pa, .lst (ts.map eT)) :: (pb, .lst (hs.map hqD)) :: (pl, .lst [.loc pa, .loc pb]) :: [(3, Ob.lst (hs.map hqD)), (2, Ob.lst (ts.map eT))]) := by
    refine (W8.permD ?_).perm ?_
    · exact ((List.Perm.swap _ _ _).trans (List.Perm.cons _ (List.Perm.swap _ _ _))).symm.symm
    · exact ((List.Perm.swap _ _ _).trans (List.Perm.cons _ (List.Perm.swap _ _ _))).trans (List.Perm.swap _ _ _)
  refine WSs.cons (WS.while (fun m v2 S2 => ∃ a3 d3 dr td tr hd hr z11 z12 z13, ts = td ++ tr ∧ hs = hd ++ hr ∧ Wm CD CH S2 dr [(a3, d3), (b, db), (a, da)] ((pa, .lst (tr.map eT)) :: (pb, .lst (hr.map hqD)) :: (pl, .lst [.loc pa, .loc pb]) :: [(3, Ob.lst (hs.map hqD)), (2, Ob.lst (ts.map eT))]) ∧ a3.l = l3 ∧ Cm d3 td hd (td.length + hd.length) ∧ m = tr.length + hr.length ∧ v2 = [some d, some (.loc 1), some (.loc 2), some (.loc 3), some (.loc l1), some (.loc l2), some (.loc l3), z7, z8, z9, some (.loc pl), z11, z12, z13, none, none, none, none]) ⟨_, a3, emptyDk, dr4, [], ts, [], hs, none, none, none, rfl, rfl, W9, el3, Cm.empty, rfl, rfl⟩ ?_ PassesOwn.never)
  rintro m v2 S9 ⟨a3, d3, dr, td, tr, hd, hr', z11, z12, z13, ets, ehs, W, el3, c3, hm, rfl⟩
  have puT : ∀ l : List Th, (∀ t ∈ l, t ∈ ts) → ∀ x ∈ l.map eT, pu 60 x = true := fun l h x hx => by
    obtain ⟨t, ht, rfl⟩ := List.mem_map.mp hx
    exact pu_eT (tok t (h t ht)) (by decide)
  have puH : ∀ l : List Hq, (∀ t ∈ l, t ∈ hs) → ∀ x ∈ l.map hqD, pu 60 x = true := fun l h x hx => by
    obtain ⟨t, ht, rfl⟩ := List.mem_map.mp hx
    exact pu_hqD (hok t (h t ht)).1
  have gA := W.get (k := pa) (o := .lst (tr.map eT)) (by simp)
  have gB := W.get (k := pb) (o := .lst (hr'.map hqD)) (by simp)
  have gL := W.get (k := pl) (o := .lst [.loc pa, .loc pb]) (by simp)
  have ptr := puT tr fun t h => by rw [ets]; exact List.mem_append_right _ h
  have phr := puH hr' fun t h => by rw [ehs]; exact List.mem_append_right _ h
  have lts : td.length + tr.length ≤ 5 := by rw [ets, List.length_append] at tlen; exact tlen
  have lhs : hd.length + hr'.length ≤ 6 := by rw [ehs, List.length_append] at hlen; exact hlen
  -- behind a thing or a helper that came to the late one
  have tail : ∀ (E : Ed) (S5 : Store) (dr5 : Dr) (a5 : At) (d5 : Dk) (td hd : List _) (tr hr : List _) (k5 z12 z13 : Option D), ts = td ++ tr → hs = hd ++ hr → Wm CD CH S5 dr5 [(a5, d5), (b, db), (a, da)] ((pa, Ob.lst (tr.map eT)) :: (pb, Ob.lst (hr.map hqD)) :: (pl, Ob.lst [.loc pa, .loc pb]) :: [(3, Ob.lst (hs.map hqD)), (2, Ob.lst (ts.map eT))]) → a5.l = l3 → Cm d5 td hd (td.length + hd.length) → tr.length + hr.length < m → (∀ v2 S2, (∃ a3 d3 dr td tr hd hr z11 z12 z13, ts = td ++ tr ∧ hs = hd ++ hr ∧ Wm CD CH S2 dr [(a3, d3), (b, db), (a, da)] ((pa, Ob.lst (tr.map eT)) :: (pb, Ob.lst (hr.map hqD)) :: (pl, Ob.lst [.loc pa, .loc pb]) :: [(3, Ob.lst (hs.map hqD)), (2, Ob.lst (ts.map eT))]) ∧ a3.l = l3 ∧ Cm d3 td hd (td.length + hd.length) ∧ tr.length + hr.length < m ∧ v2 = [some d, some (.loc 1), some (.loc 2), some (.loc 3), some (.loc l1), some (.loc l2), some (.loc l3), z7, z8, z9, some (.loc pl), z11, z12, z13, none, none, none, none]) → E.nx v2 S2) →
      WSs (cxOf CX0 P w K mg base N_law "law" (defScope s_law) f cdv A outer s H0 E0).nox S8.length ((bodyF ((defBody s_law).getD 8 (.Pass ⟨0, 0, 0, 0⟩))).drop 4) [some d, some (.loc 1), some (.loc 2), some (.loc 3), some (.loc l1), some (.loc l2), some (.loc l3), z7, z8, z9, some (.loc pl), k5, z12, z13, none, none, none, none] S5 E := by
    intro E S5 dr5 a5 d5 td hd tr hr5 k5 z12 z13 ets ehs W5 el5 c5 hlt hE
    have lts : td.length + tr.length ≤ 5 := by rw [ets, List.length_append] at tlen; exact tlen
    have lhs : hd.length + hr5.length ≤ 6 := by rw [ehs, List.length_append] at hlen; exact hlen
    have lg5 := c5.lg
    refine WSs.cons (WS.forN (WA.cons (WE.cal G__law_next (hr.mono (by first|decide|omega)) (WA.cons (WE.var 1 rfl (WA.cons (WE.int (WA.nil (next_m W5 (by decide) (by decide) fun S6 dr6 v v0 v1 _ W6 => (WA.nil ⟨v.toNat, by rw [Int.toNat_of_nonneg v0], by omega, ?_⟩))))))))) B.range PassesOwn.never rfl)
    generalize v.toNat = N at *
    refine ⟨fun j v2 S2 => ∃ a6 d6 dr6 z13, Wm CD CH S2 dr6 [(a6, d6), (b, db), (a, da)] ((pa, Ob.lst (tr.map eT)) :: (pb, Ob.lst (hr5.map hqD)) :: (pl, Ob.lst [.loc pa, .loc pb]) :: [(3, Ob.lst (hs.map hqD)), (2, Ob.lst (ts.map eT))]) ∧ a6.l = l3 ∧ Cm d6 td hd (td.length + hd.length) ∧ v2 = [some d, some (.loc 1), some (.loc 2), some (.loc 3), some (.loc l1), some (.loc l2), some (.loc l3), z7, z8, z9, some (.loc pl), k5, z12, z13, none, none, none, none], ⟨a5, d5, dr6, z13, W6, el5, c5, rfl⟩, ?_, ?_⟩
    · rintro j v2 S7 hj ⟨a6, d6, dr6, z13, W6, el6, c6, rfl⟩
      have lg6 := c6.lg
      refine (WG.name 13 ?_ sc_law.nd)
      have pnum : ∀ (l : List Int), ∀ x ∈ l.map D.int, pu 60 x = true := fun l x hx => by obtain ⟨n, _, rfl⟩ := List.mem_map.mp hx; rfl
      have W7 := (W6.grow (G := [Ob.lst ((sortI (d6.who.map (·.1))).map D.int)])).grow (G := [Ob.lst []])
      refine WSs.one (WS.ite (WT.cmp (WE.mcal0 G_Desk_helpers (hr.mono (by first|decide|omega)) T.cd (WE.var 6 rfl ⟨_, _, rfl, (W6.at el6).self, rfl, (helpers_m W6 el6 c6.gd.di (WE.lst (WA.nil ⟨by show 0 ≤ sizeLine; exact sz (by decide), (BW.neL (xs := (sortI (d6.who.map (·.1))).map D.int) (ys := []) (get_app (by simp)) (by simp) (pnum _) (fun _ h => by cases h) hr.units ⟨_, rfl, ⟨fun h => ?_, fun h => WSs.nil (WkE.same ⟨a6, d6, dr6, _, W7, el6, c6, rfl⟩)⟩⟩)⟩)))⟩))))
      have hl : (sortI (d6.who.map (·.1))).length = hd.length := by rw [(sortI_perm _).length_eq, List.length_map]; exact wlen _ _ _ _ c6
      have hpos : 0 < hd.length := by
        rw [← hl]
        cases e : sortI (d6.who.map (·.1)) with
        | nil => rw [e] at h; simp at h
        | cons x r => simp
      generalize S7 ++ [Ob.lst ((sortI (d6.who.map (·.1))).map D.int)] ++ [Ob.lst []] = S8' at *
      have W8 := W7.grow (G := [Ob.lst ((sortI (d6.who.map (·.1))).map D.int)])
      refine WSs.one (WS.expr (WE.mcal G_Desk_answer (hr.mono (by first|decide|omega)) T.cd (WE.var 6 rfl ⟨_, _, rfl, (W7.at el6).self, rfl, (WA.cons (WE.cal G__law_next (hr.mono (by first|decide|omega)) (WA.cons (WE.var 1 rfl (WA.cons (WE.callB (WA.cons (WE.mcal0 G_Desk_helpers (hr.mono (by first|decide|omega)) T.cd (WE.var 6 rfl ⟨_, _, rfl, (W7.at el6).self, rfl, (helpers_m W7 el6 c6.gd.di (WA.nil (CW.lenL (xs := (sortI (d6.who.map (·.1))).map D.int) (by simp) (WA.nil (next_m W8 (by rw [List.length_map, hl]; omega) (by rw [List.length_map, hl]; omega) fun S9 dr9 v v0 v1 _ W9 => (WA.nil (answer_m W9 el6 c6.gd.di ((wmem _ _ _ _ c6 v).mpr ⟨v0, by rw [List.length_map, hl] at v1; exact v1⟩) (by omega) fun S10 a10 el10 W10 => ?_)))))))⟩))) B.len PySem.boot_len))))))⟩)))
      exact WkE.same ⟨a10, _, dr9, _, W10, el10, c6.ans (c6.gd.answer ((wmem _ _ _ _ c6 v).mpr ⟨v0, by rw [List.length_map, hl] at v1; exact v1⟩)), rfl⟩
    rintro v2 S7 ⟨a6, d6, dr6, z13, W6, el6, c6, rfl⟩
    have lg6 := c6.lg
    refine WSs.one (WS.ite (WT.cmp (WE.cal G__law_next (hr.mono (by first|decide|omega)) (WA.cons (WE.var 1 rfl (WA.cons (WE.int (WA.nil (next_m W6 (by decide) (by decide) fun S8 dr8 v v0 v1 _ W8 => (WE.int (BW.eqI ⟨_, rfl, ⟨fun h => ?_, fun h => WSs.nil (hE _ _ ⟨a6, d6, dr8, td, tr, hd, hr5, k5, z12, z13, ets, ehs, W8, el6, c6, hlt, rfl⟩)⟩⟩)))))))))))
    refine WSs.one (WS.expr (WE.mcal0 G_Desk_settle (hr.mono (by first|decide|omega)) T.cd (WE.var 6 rfl ⟨_, _, rfl, (W8.at el6).self, rfl, (settle_m W8 el6 c6.gd (by omega) fun S9 a9 r9 d9 el9 an ho W9 => ?_)⟩)))
    exact hE _ _ ⟨a9, d9, dr8, td, tr, hd, hr5, k5, z12, z13, ets, ehs, W9, el9, c6.ans an, hlt, rfl⟩
  have ev : PyData.eqv (.list [.list (toPs (tr.map eT)), .list (toPs (hr'.map hqD))]) (.list [.list [], .list []]) = decide (tr = [] ∧ hr' = []) := by
    cases tr <;> cases hr' <;> first | rfl | (simp; rfl)
  refine (WT.cmp (WE.var 10 rfl (WE.lst (WA.cons (WE.lst (WA.nil ⟨by show 0 ≤ sizeLine; exact sz (by decide), (WA.cons (WE.lst (WA.nil ⟨by show 0 ≤ sizeLine; exact sz (by decide), (WA.nil ⟨by show 2 ≤ sizeLine; exact sz (by decide), (BW.neD (p := .list [.list (toPs (tr.map eT)), .list (toPs (hr'.map hqD))]) (q := .list [.list [], .list []]) (.lst (xs := [.loc pa, .loc pb]) (get_app (get_app (get_app gL))) (.cons (.lst (get_app (get_app (get_app gA))) (pus_pd _ _ ptr).1) (.cons (.lst (get_app (get_app (get_app gB))) (pus_pd _ _ phr).1) .nil))) (.lst (xs := [.loc S9.length, .loc (S9 ++ [Ob.lst []]).length]) (by simp) (.cons (.lst (xs := []) (get_app (get_app (by simp))) .nil) (.cons (.lst (xs := []) (get_app (by simp)) .nil) .nil))) (shp2 (pus_pd [] _ ptr).2 (pus_pd [] _ phr).2) (shp2 ⟨rfl, by decide⟩ ⟨rfl, by decide⟩) hr.units ⟨_, rfl, ⟨fun h => ?_, fun h => ?_⟩⟩)⟩)⟩)))⟩))))))
  · rw [ev] at h
    have hor : tr ≠ [] ∨ hr' ≠ [] := by
      by_cases e1 : tr = []
      · right; intro e2; simp [e1, e2] at h
      · exact .inl e1
    refine WSs.gen (P := fun v2 S2 => ∃ a3 d3 dr td tr hd hr z11 z12 z13, ts = td ++ tr ∧ hs = hd ++ hr ∧ Wm CD CH S2 dr [(a3, d3), (b, db), (a, da)] ((pa, Ob.lst (tr.map eT)) :: (pb, Ob.lst (hr.map hqD)) :: (pl, Ob.lst [.loc pa, .loc pb]) :: [(3, Ob.lst (hs.map hqD)), (2, Ob.lst (ts.map eT))]) ∧ a3.l = l3 ∧ Cm d3 td hd (td.length + hd.length) ∧ tr.length + hr.length < m ∧ v2 = [some d, some (.loc 1), some (.loc 2), some (.loc 3), some (.loc l1), some (.loc l2), some (.loc l3), z7, z8, z9, some (.loc pl), z11, z12, z13, none, none, none, none]) (fun E hE => ?_) (fun v4 S4 ⟨a3, d3, dr, td, tr, hd, hr, z11, z12, z13, e1, e2, e3, e4, e5, e6, e7⟩ => WkE.same ⟨_, e6, a3, d3, dr, td, tr, hd, hr, z11, z12, z13, e1, e2, e3, e4, e5, rfl, e7⟩)
    have W1 := ((W.grow (G := [Ob.lst []])).grow (G := [Ob.lst []])).grow (G := [Ob.lst [.loc S9.length, .loc (S9 ++ [Ob.lst []]).length]])
    have gA := W1.get (k := pa) (o := .lst (tr.map eT)) (by simp)
    have gB := W1.get (k := pb) (o := .lst (hr'.map hqD)) (by simp)
    have gL := W1.get (k := pl) (o := .lst [.loc pa, .loc pb]) (by simp)
    generalize S9 ++ [Ob.lst []] ++ [Ob.lst []] ++ [Ob.lst [.loc S9.length, .loc (S9 ++ [Ob.lst []]).length]] = S10 at *
    have lg3 := c3.lg
    -- a thing
    have go0 : ∀ (S5 : Store) (dr5 : Dr) (t : Th) (tr' : List Th), tr = t :: tr' → Wm CD CH S5 dr5 [(a3, d3), (b, db), (a, da)] ((pa, Ob.lst (tr.map eT)) :: (pb, Ob.lst (hr'.map hqD)) :: (pl, Ob.lst [.loc pa, .loc pb]) :: [(3, Ob.lst (hs.map hqD)), (2, Ob.lst (ts.map eT))]) → WSs (cxOf CX0 P w K mg base N_law "law" (defScope s_law) f cdv A outer s H0 E0).nox S8.length ((bodyF ((defBody s_law).getD 8 (.Pass ⟨0, 0, 0, 0⟩))).drop 2) [some d, some (.loc 1), some (.loc 2), some (.loc 3), some (.loc l1), some (.loc l2), some (.loc l3), z7, z8, z9, some (.loc pl), some (.int 0), z12, z13, none, none, none, none] S5 E := by
      intro S5 dr5 t tr' etr W5
      subst etr
      have gA := W5.get (k := pa) (o := .lst ((t :: tr').map eT)) (by simp)
      have gL := W5.get (k := pl) (o := .lst [.loc pa, .loc pb]) (by simp)
      refine WSs.cons (WS.set 12 (WE.bm PySem.F.plainAttrs_list PySem.F.slot_list_pop PySem.F.type_list_pop (WE.ix (WE.var 10 rfl (WE.var 11 rfl (IW.list (xs := [.loc pa, .loc pb]) (d := .loc pa) gL rfl ⟨?_, (WA.cons (WE.int (WA.nil (MW.popAt (n := 0) (xs := (t :: tr').map eT) (d := eT t) gA rfl rfl (by decide) ?_))))⟩))))) sc_law.nd)
      · exact Or.inl ⟨rfl, _, gA⟩
      have W6 := W5.put (.lst (tr'.map eT))
      rw [List.length_cons] at lts
      refine WSs.cons (WS.ite (WT.cmp (WE.var 11 rfl (WE.int (BW.eqI ⟨_, rfl, ⟨fun h => ?_, fun h => absurd h (by decide)⟩⟩)))))
      have okt : OkT 2 t := tok t (by rw [ets]; simp)
      refine WSs.one (WS.expr (WE.mcal G_Desk_plug (hr.mono (by first|decide|omega)) T.cd (WE.var 6 rfl ⟨_, _, rfl, (W6.at el3).self, rfl, (WA.cons (WE.var 12 rfl (WA.nil (plug_m W6 el3 c3.gd.di okt (by rw [c3.pl, zipI_len]; omega) (by rw [c3.fr]; show (td.length : Int) < 400; omega) (by omega) fun S7 a7 el7 W7 => ?_))))⟩)))
      refine tail E S7 dr5 a7 _ (td ++ [t]) hd tr' hr' _ _ _ (by rw [ets]; simp) ehs W7 el7 (by have := c3.plug okt (by omega); rw [List.length_append]; show Cm _ _ _ (td.length + 1 + hd.length); rw [show td.length + 1 + hd.length = td.length + hd.length + 1 by omega]; exact this) (by rw [hm, List.length_cons]; omega) hE
    -- a helper
    have go1 : ∀ (S5 : Store) (dr5 : Dr) (p : Hq) (hr2 : List Hq), hr' = p :: hr2 → Wm CD CH S5 dr5 [(a3, d3), (b, db), (a, da)] ((pa, Ob.lst (tr.map eT)) :: (pb, Ob.lst (hr'.map hqD)) :: (pl, Ob.lst [.loc pa, .loc pb]) :: [(3, Ob.lst (hs.map hqD)), (2, Ob.lst (ts.map eT))]) → WSs (cxOf CX0 P w K mg base N_law "law" (defScope s_law) f cdv A outer s H0 E0).nox S8.length ((bodyF ((defBody s_law).getD 8 (.Pass ⟨0, 0, 0, 0⟩))).drop 2) [some d, some (.loc 1), some (.loc 2), some (.loc 3), some (.loc l1), some (.loc l2), some (.loc l3), z7, z8, z9, some (.loc pl), some (.int 1), z12, z13, none, none, none, none] S5 E := by
      intro S5 dr5 p hr2 ehr W5
      subst ehr
      have W5 := W5.perm (O' := (pb, Ob.lst ((p :: hr2).map hqD)) :: (pa, Ob.lst (tr.map eT)) :: (pl, Ob.lst [.loc pa, .loc pb]) :: [(3, Ob.lst (hs.map hqD)), (2, Ob.lst (ts.map eT))]) (List.Perm.swap _ _ _)
      have gB := W5.get (k := pb) (o := .lst ((p :: hr2).map hqD)) (by simp)
      have gL := W5.get (k := pl) (o := .lst [.loc pa, .loc pb]) (by simp)
      refine WSs.cons (WS.set 12 (WE.bm PySem.F.plainAttrs_list PySem.F.slot_list_pop PySem.F.type_list_pop (WE.ix (WE.var 10 rfl (WE.var 11 rfl (IW.list (xs := [.loc pa, .loc pb]) (d := .loc pb) gL rfl ⟨?_, (WA.cons (WE.int (WA.nil (MW.popAt (n := 0) (xs := (p :: hr2).map hqD) (d := hqD p) gB rfl rfl (by decide) ?_))))⟩))))) sc_law.nd)
      · exact Or.inl ⟨rfl, _, gB⟩
      have W6 := W5.put (.lst (hr2.map hqD))
      rw [List.length_cons] at lhs
      refine WSs.cons (WS.ite (WT.cmp (WE.var 11 rfl (WE.int (BW.eqI ⟨_, rfl, ⟨fun h => absurd h (by decide), fun h => ?_⟩⟩)))))
      obtain ⟨okc, r0, r4⟩ := hok p (by rw [ehs]; simp)
      refine WSs.one (WS.expr (WE.mcal G_Desk_come (hr.mono (by first|decide|omega)) T.cd (WE.var 6 rfl ⟨_, _, rfl, (W6.at el3).self, rfl, (WA.cons (WE.ix (WE.var 12 rfl (WE.int (IW.tup (xs := [eCs p.1, .int p.2]) (d := eCs p.1) rfl (WA.cons (WE.ix (WE.var 12 rfl (WE.int (IW.tup (xs := [eCs p.1, .int p.2]) (d := .int p.2) rfl (WA.nil (come_m W6 el3 c3.gd.di okc r0 r4 (by rw [wlen _ _ _ _ c3]; omega) (by rw [c3.fr]; show (hd.length : Int) < 1000; omega) (by omega) fun S7 a7 el7 W7 => ?_))))))))))))⟩)))
      refine tail E S7 dr5 a7 _ td (hd ++ [p]) tr hr2 _ _ _ ets (by rw [ehs]; simp) (W7.perm (List.Perm.swap _ _ _)) el7 (by have := c3.come okc r0 r4 (by omega); rw [List.length_append]; exact this) (by rw [hm, List.length_cons]; omega) hE
    refine WSs.cons (WS.set 11 (WE.cal G__law_next (hr.mono (by first|decide|omega)) (WA.cons (WE.var 1 rfl (WA.cons (WE.int (WA.nil (next_m W1 (by decide) (by decide) fun S11 dr11 v v0 v1 _ W11 => ?_))))))) sc_law.nd)
    have gA := W11.get (k := pa) (o := .lst (tr.map eT)) (by simp)
    have gB := W11.get (k := pb) (o := .lst (hr'.map hqD)) (by simp)
    have gL := W11.get (k := pl) (o := .lst [.loc pa, .loc pb]) (by simp)
    have ne : ∀ (l : List D), (!decide (l = [])) = true → l ≠ [] := fun l h z => by rw [z] at h; simp at h
    have eq : ∀ (l : List D), (!decide (l = [])) = false → l = [] := fun l h => by
      cases l with
      | nil => rfl
      | cons x r => simp at h
    have W12 := W11.grow (G := [Ob.lst []])
    rcases (show v = 0 ∨ v = 1 by omega) with e | e
    · subst e
      refine WSs.cons (WS.set 11 (WE.ite (WT.cmp (WE.ix (WE.var 10 rfl (WE.var 11 rfl (IW.list (xs := [.loc pa, .loc pb]) (d := .loc pa) gL rfl (WE.lst (WA.nil ⟨by show 0 ≤ sizeLine; exact sz (by decide), (BW.neL (xs := tr.map eT) (ys := []) (get_app gA) (by simp) ptr (fun _ h => by cases h) hr.units ⟨_, rfl, ⟨fun h => ?_, fun h => ?_⟩⟩)⟩)))))))) sc_law.nd)
      · have hne := ne _ h
        cases etr : tr with
        | nil => rw [etr] at hne; exact absurd rfl hne
        | cons t tr' => exact (WE.var 11 rfl (go0 _ dr11 t tr' etr W12))
      · have htr : tr = [] := List.map_eq_nil_iff.mp (eq _ h)
        cases ehr : hr' with
        | nil => rcases hor with z | z; exact absurd htr z; exact absurd ehr z
        | cons p hr2 => exact (WE.bin (WE.int (WE.var 11 rfl (BW.sub (go1 _ dr11 p hr2 ehr W12)))))
    · subst e
      refine WSs.cons (WS.set 11 (WE.ite (WT.cmp (WE.ix (WE.var 10 rfl (WE.var 11 rfl (IW.list (xs := [.loc pa, .loc pb]) (d := .loc pb) gL rfl (WE.lst (WA.nil ⟨by show 0 ≤ sizeLine; exact sz (by decide), (BW.neL (xs := hr'.map hqD) (ys := []) (get_app gB) (by simp) phr (fun _ h => by cases h) hr.units ⟨_, rfl, ⟨fun h => ?_, fun h => ?_⟩⟩)⟩)))))))) sc_law.nd)
      · have hne := ne _ h
        cases ehr : hr' with
        | nil => rw [ehr] at hne; exact absurd rfl hne
        | cons p hr2 => exact (WE.var 11 rfl (go1 _ dr11 p hr2 ehr W12))
      · have hhr : hr' = [] := List.map_eq_nil_iff.mp (eq _ h)
        cases etr : tr with
        | nil => rcases hor with z | z; exact absurd etr z; exact absurd hhr z
        | cons t tr' => exact (WE.bin (WE.int (WE.var 11 rfl (BW.sub (go0 _ dr11 t tr' etr W12)))))
  · rw [ev] at h
    have hnn : tr = [] ∧ hr' = [] := by simpa using h
    obtain ⟨rfl, rfl⟩ := hnn
    rw [List.append_nil] at ets ehs
    subst ets; subst ehs
    have W1 := (((W.tl.tl.tl).grow (G := [Ob.lst []])).grow (G := [Ob.lst []])).grow (G := [Ob.lst [.loc S9.length, .loc (S9 ++ [Ob.lst []]).length]])
    generalize S9 ++ [Ob.lst []] ++ [Ob.lst []] ++ [Ob.lst [.loc S9.length, .loc (S9 ++ [Ob.lst []]).length]] = S10 at *
    have lga := ca.lg
    have lgb := cb.lg
    have lg3 := c3.lg
    obtain ⟨LST, hLST⟩ : ∃ L, L = (toldOf (restOf (zipI 0 ts) (zipI 0 hs))).map pairD := ⟨_, rfl⟩
    have Wa := W1.permD (Ds' := [(a, da), (a3, d3), (b, db)]) (rot3 _ _ _)
    refine WSs.cons (WS.set 14 (WE.cal G__law_held (hr.mono (by first|decide|omega)) (WA.cons (WE.var 4 rfl (WA.nil ⟨l1, a, da, dr, _, _, rfl, Wa, ela, ca.gd, by omega, fun S11 a11 d11 pd el11 an11 hpu W11 => ?_⟩)))) sc_law.nd)
    rw [ca.pl, ca.hc, ← hLST] at hpu W11
    have c11 := ca.ans an11
    have Wb := W11.permD (Ds' := [(b, db), (a11, d11), (a3, d3)]) (rot3 _ _ _)
    have deq : ∀ l : List D, (!decide (l = l)) = false := fun l => by simp
    have ebr : (toldOf (restOf db.plugged db.hcs)).map pairD = LST := by rw [cb.pl, cb.hc, hLST]
    have e3r : (toldOf (restOf d3.plugged d3.hcs)).map pairD = LST := by rw [c3.pl, c3.hc, hLST]
    refine WSs.cons (WS.ite (WT.bool (WP.or (WT.cmp (WE.cal G__law_held (hr.mono (by first|decide|omega)) (WA.cons (WE.var 5 rfl (WA.nil ⟨l2, b, db, dr, _, _, rfl, Wb, elb, cb.gd, by omega, fun S12 b12 d12 p12 el12 an12 hpu12 W12 => (WE.var 14 rfl (BW.neL (xs := LST) (ys := LST) (W12.get (by rw [ebr]; simp)) (W12.get (by simp)) hpu hpu hr.units ⟨_, rfl, ⟨fun h1 => iT ?_, fun h1 => (WP.or1 (WT.cmp (WE.cal G__law_held (hr.mono (by first|decide|omega)) (WA.cons (WE.var 6 rfl (WA.nil ⟨l3, a3, d3, dr, _, _, rfl, W12.permD (Ds' := [(a3, d3), (b12, d12), (a11, d11)]) (rot3 _ _ _), el3, c3.gd, by omega, fun S13 a13 d13 p13 el13 an13 hpu13 W13 => (WE.var 14 rfl (BW.neL (xs := LST) (ys := LST) (W13.get (by rw [e3r]; simp)) (W13.get (by simp)) hpu hpu hr.units ⟨_, rfl, ⟨fun h => ?_, fun h => WSs.nil ?_⟩⟩))⟩))))))⟩⟩))⟩))))))))
    · exfalso; rw [deq] at h1; cases h1
    · exfalso; rw [deq] at h; cases h
    have c13 := c3.ans an13
    have W13 := W13.permD (Ds' := [(a11, d11), (a13, d13), (b12, d12)]) (rot3 _ _ _)
    have gd13 := W13.get (k := pd) (o := .lst LST) (by simp)
    have lt1 : ts.length ≤ 5 := tlen
    have lh1 : hs.length ≤ 6 := hlen
    -- once more of both, and away again
    have turn : ∀ (E : Ed) (n : Nat) (S2 : Store) (dr2 : Dr) (a2 : At) (dk : Dk) (Ds : List (At × Dk)) (O : List (Nat × Ob)) (l k : Nat) (z11 z12 z13 z16 z17 : Option D), Wm CD CH S2 dr2 ((a2, dk) :: Ds) O → a2.l = l → Cm dk ts hs k → k ≤ 30 → (pd, Ob.lst LST) ∈ O → (∀ S' a' dk' dr' p y16 y17, Wm CD CH S' dr' ((a', dk') :: Ds) ((p, Ob.lst LST) :: O) → E.nx [some d, some (.loc 1), some (.loc 2), some (.loc 3), some (.loc l1), some (.loc l2), some (.loc l3), z7, z8, z9, some (.loc pl), z11, z12, z13, some (.loc pd), some (.loc l), y16, y17] S') →
        WSs (cxOf CX0 P w K mg base N_law "law" (defScope s_law) f cdv A outer s H0 E0).nox n (bodyF ((defBody s_law).getD 11 (.Pass ⟨0, 0, 0, 0⟩))) [some d, some (.loc 1), some (.loc 2), some (.loc 3), some (.loc l1), some (.loc l2), some (.loc l3), z7, z8, z9, some (.loc pl), z11, z12, z13, some (.loc pd), some (.loc l), z16, z17] S2 E := by
      intro E n S2 dr2 a2 dk Ds O l k z11 z12 z13 z16 z17 W el c hk hpd hE
      have lg := c.lg
      refine WSs.cons (WS.par 16 17 (WA.cons (WE.mcal G_Desk_plug (hr.mono (by first|decide|omega)) T.cd (WE.var 15 rfl ⟨_, _, rfl, (W.at el).self, rfl, (WA.cons (WE.cal G__law_thing (hr.mono (by first|decide|omega)) (WA.cons (WE.var 1 rfl (WA.cons (WE.int (WA.nil (thing_m W (n := 2) fun S3 dr3 t okt _ W3 => (WA.nil (plug_m W3 el c.gd.di okt (by rw [c.pl, zipI_len]; omega) (by rw [c.fr]; show (ts.length : Int) < 400; omega) (by omega) fun S4 a4 el4 W4 => (WA.cons (WE.mcal G_Desk_come (hr.mono (by first|decide|omega)) T.cd (WE.var 15 rfl ⟨_, _, rfl, (W4.at el4).self, rfl, (WA.cons (WE.cal G__law_claims (hr.mono (by first|decide|omega)) (WA.cons (WE.var 1 rfl (WA.nil (claims_m W4 fun S5 dr5 cs okc _ W5 => (WA.cons (WE.int (WA.nil (come_m W5 el4 (c.plug okt (by omega)).gd.di okc (by decide) (by decide) (by rw [wlen _ _ _ _ (c.plug okt (by omega))]; omega) (by rw [(c.plug okt (by omega)).fr]; show (hs.length : Int) < 1000; omega) (by have := (c.plug okt (by omega)).lg; omega) fun S6 a6 el6 W6 => (WA.nil ⟨_, _, rfl, ?_⟩)))))))))))⟩)))))))))))))⟩))) rfl sc_law.nd)
      have c2 := (c.plug okt (by omega)).come okc (r := 4) (by decide) (by decide) (by omega)
      rw [(c.plug okt (by omega)).fr, c.fr]
      generalize (dk.plug t).come cs 4 = dk6 at *
      have rest : ∀ (S7 : Store) (dr7 : Dr) (a7 : At) (d7 : Dk), Wm CD CH S7 dr7 ((a7, d7) :: Ds) O → a7.l = l → Cm d7 (ts ++ [t]) (hs ++ [(cs, 4)]) (k + 1 + 1) →
          WSs (cxOf CX0 P w K mg base N_law "law" (defScope s_law) f cdv A outer s H0 E0).nox n ((bodyF ((defBody s_law).getD 11 (.Pass ⟨0, 0, 0, 0⟩))).drop 2) [some d, some (.loc 1), some (.loc 2), some (.loc 3), some (.loc l1), some (.loc l2), some (.loc l3), z7, z8, z9, some (.loc pl), z11, z12, z13, some (.loc pd), some (.loc l), some (.int (ts.length : Int)), some (.int (hs.length : Int))] S7 E := by
        intro S7 dr7 a7 d7 W7 el7 c7
        have lg7 := c7.lg
        have hn : ((ts.length : Nat) : Int) ∈ d7.plugged.map (·.1) := by rw [c7.pl, zipI_mem, List.length_append, List.length_singleton]; omega
        have v8 : Ev d7 (some (.unplug (ts.length : Int))) (d7.unplug (ts.length : Int)) := .step (.unplug hn)
        have b8 := v8.behind c7.gd.di
        have bd8 := v8.bounds c7.gd.di
        have g8 := c7.gd.ev v8
        have pl8 : (d7.unplug (ts.length : Int)).plugged = zipI 0 ts := by
          rw [b8.pl]
          show dropT d7.plugged _ = _
          rw [c7.pl, zipI_snoc, Int.zero_add]
          exact dropT_last fun z => by rw [zipI_mem] at z; omega
        have hc8 : (d7.unplug (ts.length : Int)).hcs = zipI 0 (hs ++ [(cs, 4)]) := by rw [b8.hcs]; exact c7.hc
        refine WSs.cons (WS.expr (WE.mcal G_Desk_unplug (hr.mono (by first|decide|omega)) T.cd (WE.var 15 rfl ⟨_, _, rfl, (W7.at el7).self, rfl, (WA.cons (WE.var 16 rfl (WA.nil (unplug_m W7 el7 c7.gd.di hn (by omega) fun S8 a8 el8 W8 => ?_))))⟩)))
        generalize d7.unplug (ts.length : Int) = d8 at *
        have hn9 : ((hs.length : Nat) : Int) ∈ d8.who.map (·.1) := by rw [← hcs_keys, hc8, zipI_mem, List.length_append, List.length_singleton]; omega
        have v9 : Ev d8 (some (.fall (hs.length : Int))) (d8.fall (hs.length : Int)) := .step (.fall hn9)
        have b9 := v9.behind g8.di
        have bd9 := v9.bounds g8.di
        have g9 := g8.ev v9
        have pl9 : (d8.fall (hs.length : Int)).plugged = zipI 0 ts := by rw [b9.pl]; exact pl8
        have hc9 : (d8.fall (hs.length : Int)).hcs = zipI 0 hs := by
          rw [b9.hcs]
          show dropT d8.hcs _ = _
          rw [hc8, zipI_snoc, Int.zero_add]
          exact dropT_last fun z => by rw [zipI_mem] at z; omega
        refine WSs.cons (WS.expr (WE.mcal G_Desk_fall (hr.mono (by first|decide|omega)) T.cd (WE.var 15 rfl ⟨_, _, rfl, (W8.at el8).self, rfl, (WA.cons (WE.var 17 rfl (WA.nil (fall_m W8 el8 g8.di hn9 (by omega) fun S9 a9 el9 W9 => ?_))))⟩)))
        generalize d8.fall (hs.length : Int) = d9 at *
        have p9 := pot_le g9.di
        have e9 : (toldOf (restOf d9.plugged d9.hcs)).map pairD = LST := by rw [pl9, hc9, hLST]
        refine WSs.one (WS.ite (WT.cmp (WE.cal G__law_held (hr.mono (by first|decide|omega)) (WA.cons (WE.var 15 rfl (WA.nil ⟨l, a9, d9, dr7, _, _, rfl, W9, el9, g9, by omega, fun S10 a10 d10 p10 el10 an10 hpu10 W10 => (WE.var 14 rfl (BW.neL (xs := LST) (ys := LST) (W10.get (by rw [e9]; simp)) (W10.get (List.mem_cons_of_mem _ hpd)) hpu hpu hr.units ⟨_, rfl, ⟨fun h => ?_, fun h => WSs.nil ?_⟩⟩))⟩))))))
        · exfalso; rw [deq] at h; cases h
        · rw [e9] at W10
          exact hE _ _ _ _ _ _ _ W10
      have lg2 := c2.lg
      refine WSs.cons (WS.ite (WT.cmp (WE.cal G__law_next (hr.mono (by first|decide|omega)) (WA.cons (WE.var 1 rfl (WA.cons (WE.int (WA.nil (next_m W6 (by decide) (by decide) fun S7 dr7 v v0 v1 _ W7 => (WE.int (BW.eqI ⟨_, rfl, ⟨fun h => ?_, fun h => WSs.nil (rest _ _ _ _ W7 el6 c2)⟩⟩)))))))))))
      refine WSs.one (WS.expr (WE.mcal0 G_Desk_settle (hr.mono (by first|decide|omega)) T.cd (WE.var 15 rfl ⟨_, _, rfl, (W7.at el6).self, rfl, (settle_m W7 el6 c2.gd (by omega) fun S8 a8 r8 d8 el8 an ho W8 => ?_)⟩)))
      exact rest _ _ _ _ W8 el8 (c2.ans an)
    refine WSs.cons (WS.forL (fun l : Nat => D.loc l) (WE.lst (WA.cons (WE.var 4 rfl (WA.cons (WE.var 6 rfl (WA.nil ⟨by show 2 ≤ sizeLine; exact sz (by decide), ⟨S13.length, [l1, l3], rfl, by simp, ?_⟩⟩)))))) PassesOwn.never rfl)
    have W14 := W13.grow (G := [Ob.lst [D.loc l1, .loc l3]])
    have g14 : (S13 ++ [Ob.lst [D.loc l1, .loc l3]])[S13.length]? = some (Ob.lst [D.loc l1, .loc l3]) := by simp
    have W14 := W13.new (Ob.lst [D.loc l1, .loc l3])
    generalize hS14 : S13 ++ [Ob.lst [D.loc l1, .loc l3]] = S14 at *
    obtain ⟨p14, hp14⟩ : ∃ k, k = S13.length := ⟨_, rfl⟩
    rw [← hp14] at W14 ⊢
    refine ⟨fun pre v2 S2 => ∃ dr2 O z15 z16 z17, (pd, Ob.lst LST) ∈ O ∧ (p14, Ob.lst [D.loc l1, .loc l3]) ∈ O ∧ (((pre = [] ∧ Wm CD CH S2 dr2 [(a11, d11), (a13, d13), (b12, d12)] O) ∨ (pre = [l1] ∧ ∃ a' dk', Wm CD CH S2 dr2 [(a', dk'), (a13, d13), (b12, d12)] O)) ∨ (pre = [l1, l3] ∧ ∃ Ds, Wm CD CH S2 dr2 Ds O)) ∧ v2 = [some d, some (.loc 1), some (.loc 2), some (.loc 3), some (.loc l1), some (.loc l2), some (.loc l3), z7, z8, z9, some (.loc pl), z11, z12, z13, some (.loc pd), z15, z16, z17],
      ⟨_, _, none, none, none, by simp, by simp, .inl (.inl ⟨rfl, W14⟩), rfl⟩, ?_, ?_, ?_⟩
    · rintro pre v2 S2 ⟨dr2, O, z15, z16, z17, m1, m2, h, _⟩
      rcases h with (⟨_, W⟩ | ⟨_, _, _, W⟩) | ⟨_, _, W⟩ <;> exact W.get m2
    · rintro pre x post v2 S2 e ⟨dr2, O, z15, z16, z17, m1, m2, h, rfl⟩
      rcases h with (⟨rfl, W⟩ | ⟨rfl, a', dk', W⟩) | ⟨rfl, Ds, W⟩
      · obtain rfl : l1 = x := by simp at e; exact e.1
        refine (WG.name 15 ?_ sc_law.nd)
        refine turn _ _ _ _ _ _ _ _ _ _ _ _ _ _ _ W el11 c11 (by omega) m1 fun S' a' dk' dr' p y16 y17 W' => ?_
        exact WkE.same ⟨dr', _, _, _, _, List.mem_cons_of_mem _ m1, List.mem_cons_of_mem _ m2, .inl (.inr ⟨rfl, a', dk', W'⟩), rfl⟩
      · obtain rfl : l3 = x := by simp at e; exact e.1
        refine (WG.name 15 ?_ sc_law.nd)
        refine turn _ _ _ _ _ _ _ _ _ _ _ _ _ _ _ (W.permD (List.Perm.swap _ _ _)) el13 c13 (by omega) m1 fun S' a' dk' dr' p y16 y17 W' => ?_
        exact WkE.same ⟨dr', _, _, _, _, List.mem_cons_of_mem _ m1, List.mem_cons_of_mem _ m2, .inr ⟨rfl, _, W'⟩, rfl⟩
      · simp at e
    · rintro v2 S2 ⟨dr2, O, z15, z16, z17, m1, m2, h, rfl⟩
      exact WSs.one (WS.ret (WE.bl rfl))
end


/-! ### the head: facts by names, the run (printed by gen.py) -/
def d__wall : He.DefD := ⟨("_wall", none), "_wall", "_wall", defArgs s__wall, defBody s__wall, defScope s__wall, [], []⟩
def d_is_number : He.DefD := ⟨("is_number", none), "is_number", "is_number", defArgs s_is_number, defBody s_is_number, defScope s_is_number, [], []⟩
def d_are_marks : He.DefD := ⟨("are_marks", none), "are_marks", "are_marks", defArgs s_are_marks, defBody s_are_marks, defScope s_are_marks, [], []⟩
def d_need_thing : He.DefD := ⟨("need_thing", none), "need_thing", "need_thing", defArgs s_need_thing, defBody s_need_thing, defScope s_need_thing, [], []⟩
def d_is_claim : He.DefD := ⟨("is_claim", none), "is_claim", "is_claim", defArgs s_is_claim, defBody s_is_claim, defScope s_is_claim, [], []⟩
def d_need_claims : He.DefD := ⟨("need_claims", none), "need_claims", "need_claims", defArgs s_need_claims, defBody s_need_claims, defScope s_need_claims, [], []⟩
def d_need_room : He.DefD := ⟨("need_room", none), "need_room", "need_room", defArgs s_need_room, defBody s_need_room, defScope s_need_room, [], []⟩
def d_all_within : He.DefD := ⟨("all_within", none), "all_within", "all_within", defArgs s_all_within, defBody s_all_within, defScope s_all_within, [], []⟩
def d_fit_of : He.DefD := ⟨("fit_of", none), "fit_of", "fit_of", defArgs s_fit_of, defBody s_fit_of, defScope s_fit_of, [], []⟩
def d_pairs_of : He.DefD := ⟨("pairs_of", none), "pairs_of", "pairs_of", defArgs s_pairs_of, defBody s_pairs_of, defScope s_pairs_of, [], []⟩
def d_had_of : He.DefD := ⟨("had_of", none), "had_of", "had_of", defArgs s_had_of, defBody s_had_of, defScope s_had_of, [], []⟩
def d_Helper___init__ : He.DefD := ⟨("Helper", some "__init__"), "__init__", "Helper.__init__", defArgs s_Helper___init__, defBody s_Helper___init__, defScope s_Helper___init__, [], []⟩
def d_Desk___init__ : He.DefD := ⟨("Desk", some "__init__"), "__init__", "Desk.__init__", defArgs s_Desk___init__, defBody s_Desk___init__, defScope s_Desk___init__, [], []⟩
def d_Desk_plug : He.DefD := ⟨("Desk", some "plug"), "plug", "Desk.plug", defArgs s_Desk_plug, defBody s_Desk_plug, defScope s_Desk_plug, [], []⟩
def d_Desk_unplug : He.DefD := ⟨("Desk", some "unplug"), "unplug", "Desk.unplug", defArgs s_Desk_unplug, defBody s_Desk_unplug, defScope s_Desk_unplug, [], []⟩
def d_Desk_come : He.DefD := ⟨("Desk", some "come"), "come", "Desk.come", defArgs s_Desk_come, defBody s_Desk_come, defScope s_Desk_come, [], []⟩
def d_Desk_helper : He.DefD := ⟨("Desk", some "helper"), "helper", "Desk.helper", defArgs s_Desk_helper, defBody s_Desk_helper, defScope s_Desk_helper, [], []⟩
def d_Desk_fall : He.DefD := ⟨("Desk", some "fall"), "fall", "Desk.fall", defArgs s_Desk_fall, defBody s_Desk_fall, defScope s_Desk_fall, [], []⟩
def d_Desk_inner : He.DefD := ⟨("Desk", some "inner"), "inner", "Desk.inner", defArgs s_Desk_inner, defBody s_Desk_inner, defScope s_Desk_inner, [], []⟩
def d_Desk_all_inner_gone : He.DefD := ⟨("Desk", some "all_inner_gone"), "all_inner_gone", "Desk.all_inner_gone", defArgs s_Desk_all_inner_gone, defBody s_Desk_all_inner_gone, defScope s_Desk_all_inner_gone, [], []⟩
def d_Desk_gone : He.DefD := ⟨("Desk", some "gone"), "gone", "Desk.gone", defArgs s_Desk_gone, defBody s_Desk_gone, defScope s_Desk_gone, [], []⟩
def d_Desk_things : He.DefD := ⟨("Desk", some "things"), "things", "Desk.things", defArgs s_Desk_things, defBody s_Desk_things, defScope s_Desk_things, [], []⟩
def d_Desk_helpers : He.DefD := ⟨("Desk", some "helpers"), "helpers", "Desk.helpers", defArgs s_Desk_helpers, defBody s_Desk_helpers, defScope s_Desk_helpers, [], []⟩
def d_Desk_standing : He.DefD := ⟨("Desk", some "standing"), "standing", "Desk.standing", defArgs s_Desk_standing, defBody s_Desk_standing, defScope s_Desk_standing, [], []⟩
def d_Desk_row : He.DefD := ⟨("Desk", some "row"), "row", "Desk.row", defArgs s_Desk_row, defBody s_Desk_row, defScope s_Desk_row, [], []⟩
def d_Desk_holds : He.DefD := ⟨("Desk", some "holds"), "holds", "Desk.holds", defArgs s_Desk_holds, defBody s_Desk_holds, defScope s_Desk_holds, [], []⟩
def d_Desk_told : He.DefD := ⟨("Desk", some "told"), "told", "Desk.told", defArgs s_Desk_told, defBody s_Desk_told, defScope s_Desk_told, [], []⟩
def d_Desk_goals : He.DefD := ⟨("Desk", some "goals"), "goals", "Desk.goals", defArgs s_Desk_goals, defBody s_Desk_goals, defScope s_Desk_goals, [], []⟩
def d_Desk_is_settled : He.DefD := ⟨("Desk", some "is_settled"), "is_settled", "Desk.is_settled", defArgs s_Desk_is_settled, defBody s_Desk_is_settled, defScope s_Desk_is_settled, [], []⟩
def d_Desk_used : He.DefD := ⟨("Desk", some "used"), "used", "Desk.used", defArgs s_Desk_used, defBody s_Desk_used, defScope s_Desk_used, [], []⟩
def d_Desk_think : He.DefD := ⟨("Desk", some "think"), "think", "Desk.think", defArgs s_Desk_think, defBody s_Desk_think, defScope s_Desk_think, [], []⟩
def d_Desk_letter : He.DefD := ⟨("Desk", some "letter"), "letter", "Desk.letter", defArgs s_Desk_letter, defBody s_Desk_letter, defScope s_Desk_letter, [], []⟩
def d_Desk_answer : He.DefD := ⟨("Desk", some "answer"), "answer", "Desk.answer", defArgs s_Desk_answer, defBody s_Desk_answer, defScope s_Desk_answer, [], []⟩
def d_Desk_settle : He.DefD := ⟨("Desk", some "settle"), "settle", "Desk.settle", defArgs s_Desk_settle, defBody s_Desk_settle, defScope s_Desk_settle, [], []⟩
def d__law_mix : He.DefD := ⟨("_law_mix", none), "_law_mix", "_law_mix", defArgs s__law_mix, defBody s__law_mix, defScope s__law_mix, [], []⟩
def d__law_next : He.DefD := ⟨("_law_next", none), "_law_next", "_law_next", defArgs s__law_next, defBody s__law_next, defScope s__law_next, [], []⟩
def d__law_alike : He.DefD := ⟨("_law_alike", none), "_law_alike", "_law_alike", defArgs s__law_alike, defBody s__law_alike, defScope s__law_alike, [], []⟩
def d__law_marks : He.DefD := ⟨("_law_marks", none), "_law_marks", "_law_marks", defArgs s__law_marks, defBody s__law_marks, defScope s__law_marks, [], []⟩
def d__law_thing : He.DefD := ⟨("_law_thing", none), "_law_thing", "_law_thing", defArgs s__law_thing, defBody s__law_thing, defScope s__law_thing, [], []⟩
def d__law_claims : He.DefD := ⟨("_law_claims", none), "_law_claims", "_law_claims", defArgs s__law_claims, defBody s__law_claims, defScope s__law_claims, [], []⟩
def d__law_held : He.DefD := ⟨("_law_held", none), "_law_held", "_law_held", defArgs s__law_held, defBody s__law_held, defScope s__law_held, [], []⟩
def d_law : He.DefD := ⟨("law", none), "law", "law", defArgs s_law, defBody s_law, defScope s_law, [], []⟩
def fn : List He.DefD := [d__wall, d_is_number, d_are_marks, d_need_thing, d_is_claim, d_need_claims, d_need_room, d_all_within, d_fit_of, d_pairs_of, d_had_of, d_Helper___init__, d_Desk___init__, d_Desk_plug, d_Desk_unplug, d_Desk_come, d_Desk_helper, d_Desk_fall, d_Desk_inner, d_Desk_all_inner_gone, d_Desk_gone, d_Desk_things, d_Desk_helpers, d_Desk_standing, d_Desk_row, d_Desk_holds, d_Desk_told, d_Desk_goals, d_Desk_is_settled, d_Desk_used, d_Desk_think, d_Desk_letter, d_Desk_answer, d_Desk_settle, d__law_mix, d__law_next, d__law_alike, d__law_marks, d__law_thing, d__law_claims, d__law_held, d_law]
def fa : List He.Fa := [.glo "_wall", .glo "is_number", .glo "are_marks", .glo "need_thing", .glo "is_claim", .glo "need_claims", .glo "need_room", .glo "all_within", .glo "fit_of", .glo "pairs_of", .glo "had_of", .glo "_law_mix", .glo "_law_next", .glo "_law_alike", .glo "_law_marks", .glo "_law_thing", .glo "_law_claims", .glo "_law_held", .glo "law", .free "len", .free "range", .free "isinstance", .free "sorted", .free "max", .free "min", .free "list", .free "tuple", .free "dict", .free "int", .free "str", .free "bool", .free "enumerate", .free "reversed", .free "sum", .free "set", .int "MOST_MARK" 9, .int "MARKS" 3, .int "MOST_INNER" 3, .int "MOST_DEEP" 2, .int "MOST_CLAIMS" 6, .int "MOST_ROOM" 4, .int "MOST_THINGS" 6, .int "MOST_HELPERS" 8, .str "FREE" "free", .str "TAKING" "taking", .str "HELD" "held", .str "LEAVING" "leaving", .glo "Helper", .cls "Helper", .mkr "Helper", .noat "Helper" "claims", .noat "Helper" "room", .noat "Helper" "left", .glo "Desk", .cls "Desk", .mkr "Desk", .noat "Desk" "plugged", .noat "Desk" "marks", .noat "Desk" "who", .noat "Desk" "states", .noat "Desk" "fresh", .noat "Desk" "log", .meth "Desk" "plug", .meth "Desk" "unplug", .meth "Desk" "come", .meth "Desk" "helper", .meth "Desk" "fall", .meth "Desk" "inner", .meth "Desk" "all_inner_gone", .meth "Desk" "gone", .meth "Desk" "things", .meth "Desk" "helpers", .meth "Desk" "standing", .meth "Desk" "row", .meth "Desk" "holds", .meth "Desk" "told", .meth "Desk" "goals", .meth "Desk" "is_settled", .meth "Desk" "used", .meth "Desk" "think", .meth "Desk" "letter", .meth "Desk" "answer", .meth "Desk" "settle"]
def loose : List Str := (["_wall", "MatchError", "BadThing", "BadClaims", "BadRoom", "NoThing", "NoHelper", "TooMany", "MOST_MARK", "MARKS", "MOST_INNER", "MOST_DEEP", "MOST_CLAIMS", "MOST_ROOM", "is_number", "are_marks", "need_thing", "is_claim", "need_claims", "need_room", "all_within", "fit_of", "pairs_of", "had_of", "MOST_THINGS", "MOST_HELPERS", "FREE", "TAKING", "HELD", "LEAVING"] : List Str) ++ (["Helper", "Desk", "_law_mix", "_law_next", "_law_alike", "_law_marks", "_law_thing", "_law_claims", "_law_held"] : List Str)
abbrev R : PySem.W.OpenRow := PySem.W.OpenLaw.row PySem.Challenge.rw_drivermatch_k09_whole_late_and_early
abbrev hk : PySem.W.Hook := He.hookD 4 fa fn
def ob (s : PySem.W.SharedT) : He.AlD := He.obsDG 4 fa fn (HandSHeadRun.getT s)
theorem ob_eq (s : PySem.W.SharedT) : ob s = hk.obs s.abs := He.obsDG_eq (HandSHeadRun.getT_eq s)
theorem run (w : World) : HandSHeadRun.RunEq R (PySem.W.view R.prog [44]) hk ob 4000 loose w := by
  intro os
  kernel_rfl

theorem facts {P : Program} {w : World} {K : PySem.W.Frag} {h : Heap} {mg : Str → Option Value} {f : Addr} (X : K.In h) (G : h.Ns mainGlobals mg) (hfa : mg ("law" : Str) = some (.ref f)) (c : He.SaysD fa fn K) :
    ∃ fd : FuncData, (∀ (s : Shared) (v : Value), BindsTo s fd ⟨[v], []⟩ [("_law_script", v)]) ∧ ∀ base : Heap, K.In base → base.Ns mainGlobals mg → FnOk P w K mg base CX0 11 f fd ["_law_script"] (spLaw K) := by
  have D__wall : Df K "_wall" "_wall" s__wall (He.ga K "_wall") := ⟨c.def_ 0 (d := d__wall) rfl⟩
  have M__wall : mg "_wall" = some (.ref (He.ga K "_wall")) := He.glo_ok X G (c.fact 0 (f := .glo "_wall") rfl)
  have D_is_number : Df K "is_number" "is_number" s_is_number (He.ga K "is_number") := ⟨c.def_ 1 (d := d_is_number) rfl⟩
  have M_is_number : mg "is_number" = some (.ref (He.ga K "is_number")) := He.glo_ok X G (c.fact 1 (f := .glo "is_number") rfl)
  have D_are_marks : Df K "are_marks" "are_marks" s_are_marks (He.ga K "are_marks") := ⟨c.def_ 2 (d := d_are_marks) rfl⟩
  have M_are_marks : mg "are_marks" = some (.ref (He.ga K "are_marks")) := He.glo_ok X G (c.fact 2 (f := .glo "are_marks") rfl)
  have D_need_thing : Df K "need_thing" "need_thing" s_need_thing (He.ga K "need_thing") := ⟨c.def_ 3 (d := d_need_thing) rfl⟩
  have M_need_thing : mg "need_thing" = some (.ref (He.ga K "need_thing")) := He.glo_ok X G (c.fact 3 (f := .glo "need_thing") rfl)
  have D_is_claim : Df K "is_claim" "is_claim" s_is_claim (He.ga K "is_claim") := ⟨c.def_ 4 (d := d_is_claim) rfl⟩
  have M_is_claim : mg "is_claim" = some (.ref (He.ga K "is_claim")) := He.glo_ok X G (c.fact 4 (f := .glo "is_claim") rfl)
  have D_need_claims : Df K "need_claims" "need_claims" s_need_claims (He.ga K "need_claims") := ⟨c.def_ 5 (d := d_need_claims) rfl⟩
  have M_need_claims : mg "need_claims" = some (.ref (He.ga K "need_claims")) := He.glo_ok X G (c.fact 5 (f := .glo "need_claims") rfl)
  have D_need_room : Df K "need_room" "need_room" s_need_room (He.ga K "need_room") := ⟨c.def_ 6 (d := d_need_room) rfl⟩
  have M_need_room : mg "need_room" = some (.ref (He.ga K "need_room")) := He.glo_ok X G (c.fact 6 (f := .glo "need_room") rfl)
  have D_all_within : Df K "all_within" "all_within" s_all_within (He.ga K "all_within") := ⟨c.def_ 7 (d := d_all_within) rfl⟩
  have M_all_within : mg "all_within" = some (.ref (He.ga K "all_within")) := He.glo_ok X G (c.fact 7 (f := .glo "all_within") rfl)
  have D_fit_of : Df K "fit_of" "fit_of" s_fit_of (He.ga K "fit_of") := ⟨c.def_ 8 (d := d_fit_of) rfl⟩
  have M_fit_of : mg "fit_of" = some (.ref (He.ga K "fit_of")) := He.glo_ok X G (c.fact 8 (f := .glo "fit_of") rfl)
  have D_pairs_of : Df K "pairs_of" "pairs_of" s_pairs_of (He.ga K "pairs_of") := ⟨c.def_ 9 (d := d_pairs_of) rfl⟩
  have M_pairs_of : mg "pairs_of" = some (.ref (He.ga K "pairs_of")) := He.glo_ok X G (c.fact 9 (f := .glo "pairs_of") rfl)
  have D_had_of : Df K "had_of" "had_of" s_had_of (He.ga K "had_of") := ⟨c.def_ 10 (d := d_had_of) rfl⟩
  have M_had_of : mg "had_of" = some (.ref (He.ga K "had_of")) := He.glo_ok X G (c.fact 10 (f := .glo "had_of") rfl)
  have D_Helper___init__ : Df K "__init__" "Helper.__init__" s_Helper___init__ (He.ma K (He.ga K "Helper") "__init__") := ⟨c.def_ 11 (d := d_Helper___init__) rfl⟩
  have M_Helper___init__ : Mk K (He.ga K "Helper") (He.ma K (He.ga K "Helper") "__init__") := He.mkr_ok (c.fact 49 (f := .mkr "Helper") rfl)
  have D_Desk___init__ : Df K "__init__" "Desk.__init__" s_Desk___init__ (He.ma K (He.ga K "Desk") "__init__") := ⟨c.def_ 12 (d := d_Desk___init__) rfl⟩
  have M_Desk___init__ : Mk K (He.ga K "Desk") (He.ma K (He.ga K "Desk") "__init__") := He.mkr_ok (c.fact 55 (f := .mkr "Desk") rfl)
  have D_Desk_plug : Df K "plug" "Desk.plug" s_Desk_plug (He.ma K (He.ga K "Desk") "plug") := ⟨c.def_ 13 (d := d_Desk_plug) rfl⟩
  have M_Desk_plug : Meth K (He.ga K "Desk") "plug" (He.ma K (He.ga K "Desk") "plug") := He.meth_ok (c.fact 62 (f := .meth "Desk" "plug") rfl)
  have D_Desk_unplug : Df K "unplug" "Desk.unplug" s_Desk_unplug (He.ma K (He.ga K "Desk") "unplug") := ⟨c.def_ 14 (d := d_Desk_unplug) rfl⟩
  have M_Desk_unplug : Meth K (He.ga K "Desk") "unplug" (He.ma K (He.ga K "Desk") "unplug") := He.meth_ok (c.fact 63 (f := .meth "Desk" "unplug") rfl)
  have D_Desk_come : Df K "come" "Desk.come" s_Desk_come (He.ma K (He.ga K "Desk") "come") := ⟨c.def_ 15 (d := d_Desk_come) rfl⟩
  have M_Desk_come : Meth K (He.ga K "Desk") "come" (He.ma K (He.ga K "Desk") "come") := He.meth_ok (c.fact 64 (f := .meth "Desk" "come") rfl)
  have D_Desk_helper : Df K "helper" "Desk.helper" s_Desk_helper (He.ma K (He.ga K "Desk") "helper") := ⟨c.def_ 16 (d := d_Desk_helper) rfl⟩
  have M_Desk_helper : Meth K (He.ga K "Desk") "helper" (He.ma K (He.ga K "Desk") "helper") := He.meth_ok (c.fact 65 (f := .meth "Desk" "helper") rfl)
  have D_Desk_fall : Df K "fall" "Desk.fall" s_Desk_fall (He.ma K (He.ga K "Desk") "fall") := ⟨c.def_ 17 (d := d_Desk_fall) rfl⟩
  have M_Desk_fall : Meth K (He.ga K "Desk") "fall" (He.ma K (He.ga K "Desk") "fall") := He.meth_ok (c.fact 66 (f := .meth "Desk" "fall") rfl)
  have D_Desk_inner : Df K "inner" "Desk.inner" s_Desk_inner (He.ma K (He.ga K "Desk") "inner") := ⟨c.def_ 18 (d := d_Desk_inner) rfl⟩
  have M_Desk_inner : Meth K (He.ga K "Desk") "inner" (He.ma K (He.ga K "Desk") "inner") := He.meth_ok (c.fact 67 (f := .meth "Desk" "inner") rfl)
  have D_Desk_all_inner_gone : Df K "all_inner_gone" "Desk.all_inner_gone" s_Desk_all_inner_gone (He.ma K (He.ga K "Desk") "all_inner_gone") := ⟨c.def_ 19 (d := d_Desk_all_inner_gone) rfl⟩
  have M_Desk_all_inner_gone : Meth K (He.ga K "Desk") "all_inner_gone" (He.ma K (He.ga K "Desk") "all_inner_gone") := He.meth_ok (c.fact 68 (f := .meth "Desk" "all_inner_gone") rfl)
  have D_Desk_gone : Df K "gone" "Desk.gone" s_Desk_gone (He.ma K (He.ga K "Desk") "gone") := ⟨c.def_ 20 (d := d_Desk_gone) rfl⟩
  have M_Desk_gone : Meth K (He.ga K "Desk") "gone" (He.ma K (He.ga K "Desk") "gone") := He.meth_ok (c.fact 69 (f := .meth "Desk" "gone") rfl)
  have D_Desk_things : Df K "things" "Desk.things" s_Desk_things (He.ma K (He.ga K "Desk") "things") := ⟨c.def_ 21 (d := d_Desk_things) rfl⟩
  have M_Desk_things : Meth K (He.ga K "Desk") "things" (He.ma K (He.ga K "Desk") "things") := He.meth_ok (c.fact 70 (f := .meth "Desk" "things") rfl)
  have D_Desk_helpers : Df K "helpers" "Desk.helpers" s_Desk_helpers (He.ma K (He.ga K "Desk") "helpers") := ⟨c.def_ 22 (d := d_Desk_helpers) rfl⟩
  have M_Desk_helpers : Meth K (He.ga K "Desk") "helpers" (He.ma K (He.ga K "Desk") "helpers") := He.meth_ok (c.fact 71 (f := .meth "Desk" "helpers") rfl)
  have D_Desk_standing : Df K "standing" "Desk.standing" s_Desk_standing (He.ma K (He.ga K "Desk") "standing") := ⟨c.def_ 23 (d := d_Desk_standing) rfl⟩
  have M_Desk_standing : Meth K (He.ga K "Desk") "standing" (He.ma K (He.ga K "Desk") "standing") := He.meth_ok (c.fact 72 (f := .meth "Desk" "standing") rfl)
  have D_Desk_row : Df K "row" "Desk.row" s_Desk_row (He.ma K (He.ga K "Desk") "row") := ⟨c.def_ 24 (d := d_Desk_row) rfl⟩
  have M_Desk_row : Meth K (He.ga K "Desk") "row" (He.ma K (He.ga K "Desk") "row") := He.meth_ok (c.fact 73 (f := .meth "Desk" "row") rfl)
  have D_Desk_holds : Df K "holds" "Desk.holds" s_Desk_holds (He.ma K (He.ga K "Desk") "holds") := ⟨c.def_ 25 (d := d_Desk_holds) rfl⟩
  have M_Desk_holds : Meth K (He.ga K "Desk") "holds" (He.ma K (He.ga K "Desk") "holds") := He.meth_ok (c.fact 74 (f := .meth "Desk" "holds") rfl)
  have D_Desk_told : Df K "told" "Desk.told" s_Desk_told (He.ma K (He.ga K "Desk") "told") := ⟨c.def_ 26 (d := d_Desk_told) rfl⟩
  have M_Desk_told : Meth K (He.ga K "Desk") "told" (He.ma K (He.ga K "Desk") "told") := He.meth_ok (c.fact 75 (f := .meth "Desk" "told") rfl)
  have D_Desk_goals : Df K "goals" "Desk.goals" s_Desk_goals (He.ma K (He.ga K "Desk") "goals") := ⟨c.def_ 27 (d := d_Desk_goals) rfl⟩
  have M_Desk_goals : Meth K (He.ga K "Desk") "goals" (He.ma K (He.ga K "Desk") "goals") := He.meth_ok (c.fact 76 (f := .meth "Desk" "goals") rfl)
  have D_Desk_is_settled : Df K "is_settled" "Desk.is_settled" s_Desk_is_settled (He.ma K (He.ga K "Desk") "is_settled") := ⟨c.def_ 28 (d := d_Desk_is_settled) rfl⟩
  have M_Desk_is_settled : Meth K (He.ga K "Desk") "is_settled" (He.ma K (He.ga K "Desk") "is_settled") := He.meth_ok (c.fact 77 (f := .meth "Desk" "is_settled") rfl)
  have D_Desk_used : Df K "used" "Desk.used" s_Desk_used (He.ma K (He.ga K "Desk") "used") := ⟨c.def_ 29 (d := d_Desk_used) rfl⟩
  have M_Desk_used : Meth K (He.ga K "Desk") "used" (He.ma K (He.ga K "Desk") "used") := He.meth_ok (c.fact 78 (f := .meth "Desk" "used") rfl)
  have D_Desk_think : Df K "think" "Desk.think" s_Desk_think (He.ma K (He.ga K "Desk") "think") := ⟨c.def_ 30 (d := d_Desk_think) rfl⟩
  have M_Desk_think : Meth K (He.ga K "Desk") "think" (He.ma K (He.ga K "Desk") "think") := He.meth_ok (c.fact 79 (f := .meth "Desk" "think") rfl)
  have D_Desk_letter : Df K "letter" "Desk.letter" s_Desk_letter (He.ma K (He.ga K "Desk") "letter") := ⟨c.def_ 31 (d := d_Desk_letter) rfl⟩
  have M_Desk_letter : Meth K (He.ga K "Desk") "letter" (He.ma K (He.ga K "Desk") "letter") := He.meth_ok (c.fact 80 (f := .meth "Desk" "letter") rfl)
  have D_Desk_answer : Df K "answer" "Desk.answer" s_Desk_answer (He.ma K (He.ga K "Desk") "answer") := ⟨c.def_ 32 (d := d_Desk_answer) rfl⟩
  have M_Desk_answer : Meth K (He.ga K "Desk") "answer" (He.ma K (He.ga K "Desk") "answer") := He.meth_ok (c.fact 81 (f := .meth "Desk" "answer") rfl)
  have D_Desk_settle : Df K "settle" "Desk.settle" s_Desk_settle (He.ma K (He.ga K "Desk") "settle") := ⟨c.def_ 33 (d := d_Desk_settle) rfl⟩
  have M_Desk_settle : Meth K (He.ga K "Desk") "settle" (He.ma K (He.ga K "Desk") "settle") := He.meth_ok (c.fact 82 (f := .meth "Desk" "settle") rfl)
  have D__law_mix : Df K "_law_mix" "_law_mix" s__law_mix (He.ga K "_law_mix") := ⟨c.def_ 34 (d := d__law_mix) rfl⟩
  have M__law_mix : mg "_law_mix" = some (.ref (He.ga K "_law_mix")) := He.glo_ok X G (c.fact 11 (f := .glo "_law_mix") rfl)
  have D__law_next : Df K "_law_next" "_law_next" s__law_next (He.ga K "_law_next") := ⟨c.def_ 35 (d := d__law_next) rfl⟩
  have M__law_next : mg "_law_next" = some (.ref (He.ga K "_law_next")) := He.glo_ok X G (c.fact 12 (f := .glo "_law_next") rfl)
  have D__law_alike : Df K "_law_alike" "_law_alike" s__law_alike (He.ga K "_law_alike") := ⟨c.def_ 36 (d := d__law_alike) rfl⟩
  have M__law_alike : mg "_law_alike" = some (.ref (He.ga K "_law_alike")) := He.glo_ok X G (c.fact 13 (f := .glo "_law_alike") rfl)
  have D__law_marks : Df K "_law_marks" "_law_marks" s__law_marks (He.ga K "_law_marks") := ⟨c.def_ 37 (d := d__law_marks) rfl⟩
  have M__law_marks : mg "_law_marks" = some (.ref (He.ga K "_law_marks")) := He.glo_ok X G (c.fact 14 (f := .glo "_law_marks") rfl)
  have D__law_thing : Df K "_law_thing" "_law_thing" s__law_thing (He.ga K "_law_thing") := ⟨c.def_ 38 (d := d__law_thing) rfl⟩
  have M__law_thing : mg "_law_thing" = some (.ref (He.ga K "_law_thing")) := He.glo_ok X G (c.fact 15 (f := .glo "_law_thing") rfl)
  have D__law_claims : Df K "_law_claims" "_law_claims" s__law_claims (He.ga K "_law_claims") := ⟨c.def_ 39 (d := d__law_claims) rfl⟩
  have M__law_claims : mg "_law_claims" = some (.ref (He.ga K "_law_claims")) := He.glo_ok X G (c.fact 16 (f := .glo "_law_claims") rfl)
  have D__law_held : Df K "_law_held" "_law_held" s__law_held (He.ga K "_law_held") := ⟨c.def_ 40 (d := d__law_held) rfl⟩
  have M__law_held : mg "_law_held" = some (.ref (He.ga K "_law_held")) := He.glo_ok X G (c.fact 17 (f := .glo "_law_held") rfl)
  have D_law : Df K "law" "law" s_law (He.ga K "law") := ⟨c.def_ 41 (d := d_law) rfl⟩
  have M_law : mg "law" = some (.ref (He.ga K "law")) := He.glo_ok X G (c.fact 18 (f := .glo "law") rfl)
  have B : Bt mg := ⟨He.free_ok X G (c.fact 19 (f := .free "len") rfl), He.free_ok X G (c.fact 20 (f := .free "range") rfl), He.free_ok X G (c.fact 21 (f := .free "isinstance") rfl), He.free_ok X G (c.fact 22 (f := .free "sorted") rfl), He.free_ok X G (c.fact 23 (f := .free "max") rfl), He.free_ok X G (c.fact 24 (f := .free "min") rfl), He.free_ok X G (c.fact 25 (f := .free "list") rfl), He.free_ok X G (c.fact 26 (f := .free "tuple") rfl), He.free_ok X G (c.fact 27 (f := .free "dict") rfl), He.free_ok X G (c.fact 28 (f := .free "int") rfl), He.free_ok X G (c.fact 29 (f := .free "str") rfl), He.free_ok X G (c.fact 30 (f := .free "bool") rfl), He.free_ok X G (c.fact 31 (f := .free "enumerate") rfl), He.free_ok X G (c.fact 32 (f := .free "reversed") rfl), He.free_ok X G (c.fact 33 (f := .free "sum") rfl), He.free_ok X G (c.fact 34 (f := .free "set") rfl)⟩
  have c_MOST_MARK : ∃ tk, mg "MOST_MARK" = some (.int 9 tk) := He.int_ok X G (c.fact 35 (f := .int "MOST_MARK" 9) rfl)
  have c_MARKS : ∃ tk, mg "MARKS" = some (.int 3 tk) := He.int_ok X G (c.fact 36 (f := .int "MARKS" 3) rfl)
  have c_MOST_INNER : ∃ tk, mg "MOST_INNER" = some (.int 3 tk) := He.int_ok X G (c.fact 37 (f := .int "MOST_INNER" 3) rfl)
  have c_MOST_DEEP : ∃ tk, mg "MOST_DEEP" = some (.int 2 tk) := He.int_ok X G (c.fact 38 (f := .int "MOST_DEEP" 2) rfl)
  have c_MOST_CLAIMS : ∃ tk, mg "MOST_CLAIMS" = some (.int 6 tk) := He.int_ok X G (c.fact 39 (f := .int "MOST_CLAIMS" 6) rfl)
  have c_MOST_ROOM : ∃ tk, mg "MOST_ROOM" = some (.int 4 tk) := He.int_ok X G (c.fact 40 (f := .int "MOST_ROOM" 4) rfl)
  have c_MOST_THINGS : ∃ tk, mg "MOST_THINGS" = some (.int 6 tk) := He.int_ok X G (c.fact 41 (f := .int "MOST_THINGS" 6) rfl)
  have c_MOST_HELPERS : ∃ tk, mg "MOST_HELPERS" = some (.int 8 tk) := He.int_ok X G (c.fact 42 (f := .int "MOST_HELPERS" 8) rfl)
  have c_FREE : ∃ tk, mg "FREE" = some (.str "free" tk) := He.str_ok X G (c.fact 43 (f := .str "FREE" "free") rfl)
  have c_TAKING : ∃ tk, mg "TAKING" = some (.str "taking" tk) := He.str_ok X G (c.fact 44 (f := .str "TAKING" "taking") rfl)
  have c_HELD : ∃ tk, mg "HELD" = some (.str "held" tk) := He.str_ok X G (c.fact 45 (f := .str "HELD" "held") rfl)
  have c_LEAVING : ∃ tk, mg "LEAVING" = some (.str "leaving" tk) := He.str_ok X G (c.fact 46 (f := .str "LEAVING" "leaving") rfl)
  have g_Helper : mg "Helper" = some (.ref (He.ga K "Helper")) := He.glo_ok X G (c.fact 47 (f := .glo "Helper") rfl)
  have cl_Helper : Cls K (He.ga K "Helper") := He.cls_ok (c.fact 48 (f := .cls "Helper") rfl)
  have n_Helper_claims : NoAttr K (He.ga K "Helper") "claims" := He.noat_ok (c.fact 50 (f := .noat "Helper" "claims") rfl)
  have n_Helper_room : NoAttr K (He.ga K "Helper") "room" := He.noat_ok (c.fact 51 (f := .noat "Helper" "room") rfl)
  have n_Helper_left : NoAttr K (He.ga K "Helper") "left" := He.noat_ok (c.fact 52 (f := .noat "Helper" "left") rfl)
  have g_Desk : mg "Desk" = some (.ref (He.ga K "Desk")) := He.glo_ok X G (c.fact 53 (f := .glo "Desk") rfl)
  have cl_Desk : Cls K (He.ga K "Desk") := He.cls_ok (c.fact 54 (f := .cls "Desk") rfl)
  have n_Desk_plugged : NoAttr K (He.ga K "Desk") "plugged" := He.noat_ok (c.fact 56 (f := .noat "Desk" "plugged") rfl)
  have n_Desk_marks : NoAttr K (He.ga K "Desk") "marks" := He.noat_ok (c.fact 57 (f := .noat "Desk" "marks") rfl)
  have n_Desk_who : NoAttr K (He.ga K "Desk") "who" := He.noat_ok (c.fact 58 (f := .noat "Desk" "who") rfl)
  have n_Desk_states : NoAttr K (He.ga K "Desk") "states" := He.noat_ok (c.fact 59 (f := .noat "Desk" "states") rfl)
  have n_Desk_fresh : NoAttr K (He.ga K "Desk") "fresh" := He.noat_ok (c.fact 60 (f := .noat "Desk" "fresh") rfl)
  have n_Desk_log : NoAttr K (He.ga K "Desk") "log" := He.noat_ok (c.fact 61 (f := .noat "Desk" "log") rfl)
  obtain ⟨fd, F⟩ := c.def_ 41 (d := d_law) rfl
  have e := hfa.symm.trans M_law
  cases e
  have b := FunD.bindsA (ps := ["_law_script"]) F fun _ _ _ _ _ _ us hl => match us, hl with | [_], _ => rfl
  refine ⟨fd, fun s v => b s [v] rfl, fun base _ _ => ?_⟩
  have T : DeskTxt K (He.ga K "Desk") (He.ga K "Helper") := ⟨cl_Desk, cl_Helper, n_Desk_plugged, n_Desk_marks, n_Desk_who, n_Desk_states, n_Desk_fresh, n_Desk_log, n_Helper_claims, n_Helper_room, n_Helper_left⟩
  have G_is_number := c_is_number (P := P) (w := w) (K := K) (mg := mg) (base := base) B D_is_number M_is_number
  have G_are_marks := c_are_marks (P := P) (w := w) (K := K) (mg := mg) (base := base) B c_MARKS c_MOST_MARK G_is_number D_are_marks M_are_marks
  have G_is_claim := c_is_claim (P := P) (w := w) (K := K) (mg := mg) (base := base) B G_is_number G_are_marks D_is_claim M_is_claim
  have G_need_claims := c_need_claims (P := P) (w := w) (K := K) (mg := mg) (base := base) B c_MOST_CLAIMS G_is_claim D_need_claims M_need_claims
  have G_fit_of := c_fit_of (P := P) (w := w) (K := K) (mg := mg) (base := base) B D_fit_of M_fit_of
  have G_need_room := c_need_room (P := P) (w := w) (K := K) (mg := mg) (base := base) c_MOST_ROOM G_is_number D_need_room M_need_room
  have G_need_thing := c_need_thing (P := P) (w := w) (K := K) (mg := mg) (base := base) B c_MOST_INNER c_MOST_DEEP G_are_marks D_need_thing M_need_thing
  have G_all_within := c_all_within (P := P) (w := w) (K := K) (mg := mg) (base := base) B D_all_within M_all_within
  have G_pairs_of := c_pairs_of (P := P) (w := w) (K := K) (mg := mg) (base := base) B G_fit_of D_pairs_of M_pairs_of
  have G_had_of := c_had_of (P := P) (w := w) (K := K) (mg := mg) (base := base) B G_pairs_of D_had_of M_had_of
  have G_Desk_inner := c_Desk_inner (P := P) (w := w) (K := K) (mg := mg) (base := base) B T D_Desk_inner M_Desk_inner
  have G_inn0 := step_Desk_all_inner_gone (P := P) (w := w) (K := K) (mg := mg) (base := base) T G_Desk_inner D_Desk_all_inner_gone M_Desk_all_inner_gone 0 (fun m h => absurd h (Nat.succ_ne_zero m).symm)
  have G_gone0 := step_Desk_gone (P := P) (w := w) (K := K) (mg := mg) (base := base) T 0 G_inn0 D_Desk_gone M_Desk_gone
  have G_inn1 := step_Desk_all_inner_gone (P := P) (w := w) (K := K) (mg := mg) (base := base) T G_Desk_inner D_Desk_all_inner_gone M_Desk_all_inner_gone 1 (fun m h => by cases h; exact G_gone0)
  have G_gone1 := step_Desk_gone (P := P) (w := w) (K := K) (mg := mg) (base := base) T 1 G_inn1 D_Desk_gone M_Desk_gone
  have G_inn2 := step_Desk_all_inner_gone (P := P) (w := w) (K := K) (mg := mg) (base := base) T G_Desk_inner D_Desk_all_inner_gone M_Desk_all_inner_gone 2 (fun m h => by cases h; exact G_gone1)
  have G_gone2 := step_Desk_gone (P := P) (w := w) (K := K) (mg := mg) (base := base) T 2 G_inn2 D_Desk_gone M_Desk_gone
  have G_Desk_gone := G_gone2
  have G_Desk_all_inner_gone := G_inn2
  have G_Desk_is_settled := c_Desk_is_settled (P := P) (w := w) (K := K) (mg := mg) (base := base) T c_HELD D_Desk_is_settled M_Desk_is_settled
  have G_Desk_used := c_Desk_used (P := P) (w := w) (K := K) (mg := mg) (base := base) B T D_Desk_used M_Desk_used
  have G_Desk_letter := c_Desk_letter (P := P) (w := w) (K := K) (mg := mg) (base := base) T D_Desk_letter M_Desk_letter
  have G_Desk_goals := c_Desk_goals (P := P) (w := w) (K := K) (mg := mg) (base := base) B T G_had_of G_Desk_is_settled D_Desk_goals M_Desk_goals
  have G_Desk_think := c_Desk_think (P := P) (w := w) (K := K) (mg := mg) (base := base) B T c_FREE c_TAKING c_HELD c_LEAVING G_Desk_goals G_Desk_inner G_Desk_used G_Desk_letter D_Desk_think M_Desk_think
  have G_Desk_things := c_Desk_things (P := P) (w := w) (K := K) (mg := mg) (base := base) B T D_Desk_things M_Desk_things
  have G_Desk_helpers := c_Desk_helpers (P := P) (w := w) (K := K) (mg := mg) (base := base) B T D_Desk_helpers M_Desk_helpers
  have G_Desk_told := c_Desk_told (P := P) (w := w) (K := K) (mg := mg) (base := base) B T D_Desk_told M_Desk_told
  have G_Desk_standing := c_Desk_standing (P := P) (w := w) (K := K) (mg := mg) (base := base) B T D_Desk_standing M_Desk_standing
  have G_Desk_helper := c_Desk_helper (P := P) (w := w) (K := K) (mg := mg) (base := base) B T G_is_number D_Desk_helper M_Desk_helper
  have G_Desk_row := c_Desk_row (P := P) (w := w) (K := K) (mg := mg) (base := base) B T G_Desk_helper D_Desk_row M_Desk_row
  have G_Helper___init__ := c_Helper___init__ (P := P) (w := w) (K := K) (mg := mg) (base := base) B T D_Helper___init__ M_Helper___init__
  have G_Desk___init__ := c_Desk___init__ (P := P) (w := w) (K := K) (mg := mg) (base := base) B T D_Desk___init__ M_Desk___init__
  have G_Desk_plug := c_Desk_plug (P := P) (w := w) (K := K) (mg := mg) (base := base) B T c_MOST_THINGS c_FREE G_need_thing G_all_within G_Desk_think D_Desk_plug M_Desk_plug
  have G_Desk_come := c_Desk_come (P := P) (w := w) (K := K) (mg := mg) (base := base) B T c_MOST_HELPERS g_Helper G_need_claims G_need_room G_Helper___init__ G_Desk_think D_Desk_come M_Desk_come
  have G_Desk_unplug := c_Desk_unplug (P := P) (w := w) (K := K) (mg := mg) (base := base) B T G_is_number G_all_within G_Desk_gone G_Desk_think D_Desk_unplug M_Desk_unplug
  have G_Desk_fall := c_Desk_fall (P := P) (w := w) (K := K) (mg := mg) (base := base) B T c_FREE G_Desk_helper G_Desk_all_inner_gone G_Desk_think D_Desk_fall M_Desk_fall
  have G_Desk_answer := c_Desk_answer (P := P) (w := w) (K := K) (mg := mg) (base := base) B T c_FREE c_HELD G_Desk_helper G_Desk_all_inner_gone G_Desk_think D_Desk_answer M_Desk_answer
  have G_Desk_settle := c_Desk_settle (P := P) (w := w) (K := K) (mg := mg) (base := base) B T G_Desk_answer D_Desk_settle M_Desk_settle
  have G__law_mix := c__law_mix (P := P) (w := w) (K := K) (mg := mg) (base := base) B D__law_mix M__law_mix
  have G__law_next := c__law_next (P := P) (w := w) (K := K) (mg := mg) (base := base) B D__law_next M__law_next
  have G__law_marks := c__law_marks (P := P) (w := w) (K := K) (mg := mg) (base := base) B G__law_next D__law_marks M__law_marks
  have G__law_claims := c__law_claims (P := P) (w := w) (K := K) (mg := mg) (base := base) B G__law_next G__law_marks D__law_claims M__law_claims
  have G__law_thing := c__law_thing (P := P) (w := w) (K := K) (mg := mg) (base := base) B G__law_next G__law_marks D__law_thing M__law_thing 2
  have G__law_held := c__law_held (P := P) (w := w) (K := K) (mg := mg) (base := base) B T G_Desk_settle G_Desk_standing D__law_held M__law_held
  exact c_law B T g_Desk G__law_mix G__law_next G__law_thing G__law_claims G_Desk___init__ G_Desk_plug G_Desk_come G_Desk_unplug G_Desk_fall G_Desk_helpers G_Desk_answer G_Desk_settle G__law_held F

end DM
open PySem PySem.W PySem.Calls PyProof.Rows
theorem PySem.Challenge.cw_drivermatch_k09_whole_late_and_early_holds : PySem.Challenge.rw_drivermatch_k09_whole_late_and_early.Holds := by
  w_on; o_law
  refine HandSHeadRun.head_any (r := OpenLaw.row PySem.Challenge.rw_drivermatch_k09_whole_late_and_early) (q := view (OpenLaw.row PySem.Challenge.rw_drivermatch_k09_whole_late_and_early).prog [44]) (H := DM.hk) (ob := DM.ob) (M := 4000) (loose := DM.loose) (d := HandSHeadRun.topDef (OpenLaw.row PySem.Challenge.rw_drivermatch_k09_whole_late_and_early).prog 44) (kwd := []) DM.ob_eq
    (by kernel_rfl) (fun s => by kernel_rfl) DM.run (by kernel_rfl) (by kernel_rfl) (by kernel_rfl) (by rfl) (by first | assumption | decide +kernel) (by decide +kernel) ⟨rfl, rfl, rfl, rfl, rfl, by decide +kernel⟩ ?hw ?hc
  case hw => w_witness2
  case hc =>
    refine L2.walk_ofE (l := PySem.Challenge.rw_drivermatch_k09_whole_late_and_early) (n := 63) (k := 11) (x := "_law_script") (CX := L2.CX0) rfl (by decide) (by kernel_rfl) ⟨rfl, by decide, by decide⟩ ?F (fun _ _ _ _ z => z)
    intro w mg fa h Y G hmg0
    obtain ⟨K, KX, c⟩ := Y
    have hmg : mg ("law" : PySem.Str) = some (.ref fa) := by
      have e : (HandSHeadRun.topDef (OpenLaw.row PySem.Challenge.rw_drivermatch_k09_whole_late_and_early).prog 44).name = ("law" : PySem.Str) := by kernel_rfl
      rw [← e]
      exact hmg0
    obtain ⟨fd, hb, hF⟩ := DM.facts (P := (PySem.Challenge.rw_drivermatch_k09_whole_late_and_early).prog) (w := w) KX G hmg c
    exact ⟨K, fd, DM.spLaw K, KX, hb, fun H a ns hl ho hS => ⟨a, ns, rfl, hS, ho, by omega, fun _ => rfl⟩, hF⟩
